import Derived.Test.YtpgkfndbfocibaaProg
import Derived.Test.YtpgkfndbfocibaaSqL
import Derived.Test.YtpgkfndbfocibaaMs14
import Derived.Test.YtpgkfndbfocibaaSep29g
import Derived.Test.YtpgkfndbfocibaaMs16
import Derived.Test.YtpgkfndbfocibaaPl29s
namespace Go.Proofs.Ytpgkfndbfocibaa
open Go.RowKit Go.Own Go.Own.R Go.Own.G Go.Own.Gr Go.Own.Ml


set_option maxHeartbeats 4000000 in
theorem ModelStepwise_c {C : Int} {N : Int} {Z : Int} {K : Int} {Q : Int} {lv : Value} {os : List OpC} {fv : Value} {full : List Int} {ii : Int} {jj : Int} {w : World} (h_lv : Ro w NoX (rl 7 opC lv os)) (h_fv : Ro w NoX (il .i64 fv full)) (hu : ∀ c ∈ os, 0 ≤ c.u ∧ c.u ≤ 18446744073709551615) :
  Calls Try.prog 7 #[.agg #[.int .i64 C, .int .i64 N, .int .i64 Z, .int .i64 K, .int .i64 Q], lv, .agg #[fv, .int .i64 ii, .int .i64 jj]] w fun e w' => e = .returned (.bool true) ∧ St w NoX [] w' := by
 refine calls_in 206 Try.func7 V V (by simp) (fun A0 Y0 hdf0 hargs => ?_)
 have l0_0 := hargs 0 (.agg #[.int .i64 C, .int .i64 N, .int .i64 Z, .int .i64 K, .int .i64 Q]) V
 have l1_0 := hargs 1 lv V
 have l2_0 := hargs 2 (.agg #[fv, .int .i64 ii, .int .i64 jj]) V
 clear hargs; replace Y0 : SzN A0 206 := ⟨Y0⟩
 have hS := St.nil w
 have bh_lv := SlN.le (sl_SlN h_lv.at)
 have bh_fv := SlN.le (sl_SlN h_fv.at)
 refine tb fun _ H1 => (wB (#[.int .i64 (C), .int .i64 (N), .int .i64 (Z), .int .i64 (K), .int .i64 (Q)]) hS l0_0 (fun g2 w2 c2 hc2 S2 => wB (#[fv, .int .i64 (ii), .int .i64 (jj)]) S2 (Sa l2_0) (fun g3 w3 c3 hc3 S3 => vc (W_end (en (((cq1 (ck (ck (FS.n hdf0) V V) V V) V)).c ((Sc l1_0))) fun A4 _ F4 => tc H1 fun _ H5 => tb fun _ H6 => (vm (fg0 F4) (fa 0 (Sa (fg1 F4)) (rL fv t0 (S3.ob 0 hc3) (W_call V V V Try.func8 (by kernel_rfl) V (args2 (Sb t0) t0) (kfar_c (S3.roC h_lv) (S3.roC h_fv)) ?_)))))))))
 rintro _ w7 ⟨rfl, hP7⟩
 refine ⟨_, rfl, ?_⟩
 have S7 := S3.j0 hP7
 refine W_split V V (V_mov V t0) (fun c8 => ?_) (fun c8 => ?_)
 ·refine xo V t0 (xo V (Sa t0) (xo V (Sb t0) (vT (Sc t0) V (W_end (en (Ka (Qh F4)) fun A9 _ F9 => tk H6 (cond_t (fg0 F9) (tb fun _ H10 => (W_call V V V Try.func9 (by kernel_rfl) V args0 (kshn_c  ) ?_))))))))
  rintro _ w11 ⟨rfl, hP11⟩
  refine ⟨_, rfl, ?_⟩
  have S11 := S7.j0 hP11
  refine vt (W_end (en (Ka (Qa F9)) fun A12 _ F12 => ?_))
  have S13 := S11.se [] []
  refine tk H10 (wp_ret (then_ret (rt1 F12 (rv_tmp (fg0 F12)) ?_)))
  exact ⟨rfl, S13.fin0⟩
 refine wg V t0 (uvm (Se (fg0 F4))) (wg V (Sa t0) (ule_ t0 (sl_SlN h_lv.at)) (wg V (Sb t0) (uvg t0 V) (vF (Sc t0) t0 (W_end (en (Ka (Qh F4)) fun A14 _ F14 => tk H6 (cd (fg0 F14) (fun c15 => ?_) fun c15 => ?_))))))
 ·refine tb fun _ H16 => (W_call V V V Try.func9 (by kernel_rfl) V args0 (kshn_c  ) ?_)
  rintro _ w17 ⟨rfl, hP17⟩
  refine ⟨_, rfl, ?_⟩
  have S17 := S7.j0 hP17
  refine vt (W_end (en (Ka (Qa F14)) fun A18 _ F18 => ?_))
  have S19 := S17.se [] []
  refine tk H16 (wp_ret (then_ret (rt1 F18 (rv_tmp (fg0 F18)) ?_)))
  exact ⟨rfl, S19.fin0⟩
 refine wp_skip (ta H5 fun _ H20 => (ra (fg3 F14) (S7.ob 1 hc2) (vm (Sa (fg1 F14)) (fa 0 (Sb (fg2 F14)) (rL fv t0 (S7.ob 0 hc3) (W_call V V V Try.func12 (by kernel_rfl) V (args3 (Sc t0) (Sb t0) t0) (kPl_c (C := C) (N := N) (Z := Z) (K := K) (Q := Q) (S7.roC h_lv) (S7.roC h_fv)) ?_))))))
 rintro _ w21 (⟨rfl, hz_21, hP21⟩ | ⟨G_21, av_21, rfl, hz_21, hg_21, hP21⟩)
 ·refine ⟨_, rfl, ?_⟩
  have S21 := S7.j0 hP21
  refine vm t0 (vx (.agg #[.slice none 0 0, .slice none 0 0]) t0 (vx (.slice none 0 0) (Sa t0) (vx (.int .i64 ((plF (cfE C N Z K Q) (lgN C N Z K Q) K os full).1)) (Sb t0) (vx (.int .i64 ((plF (cfE C N Z K Q) (lgN C N Z K Q) K os full).2)) (Sc t0) (wA (#[.slice none 0 0, .slice none 0 0]) S21 (fun g22 w22 c22 hc22 S22 => xsA0 S22 hc22 V V V t0 (Sd t0) (fun w23 c23 hc23 S23 => va (Sc t0) (va (Sc t0) (va (Sc t0) (W_end (en (Ka (Qa (Kb (Qb (Qh F14))))) fun A24 _ F24 => tc H20 fun _ H25 => tb fun _ H26 => (vm (fg0 F24) (vn t0 V (W_end (en (Ka (Qa F24)) fun A27 _ F27 => tk H26 (cond_sure (fg0 F27) (by rw [decide_eq_true_eq]; exact hz_21) (tb fun _ H28 => (vm (fg2 F27) (wv (V_len V t0 V Try.underlying37) (ve t0 V (W_sure (c' := true) V V (V_mov V t0) (by simp) (W_call V (xwt V V t0) V Try.func9 (by kernel_rfl) V args0 (kshn_c  ) ?_))))))))))))))))))))))
  rintro _ w29 ⟨rfl, hP29⟩
  refine ⟨_, rfl, ?_⟩
  have S29 := S23.j0 hP29
  refine vT (Sa t0) t0 (vt (W_end (en (Ka (Qf F27)) fun A30 _ F30 => ?_)))
  have S31 := S29.se [] []
  refine tk H28 (wp_ret (then_ret (rt1 F30 (rv_tmp (fg0 F30)) ?_)))
  exact ⟨rfl, S31.fin0⟩
 refine ⟨_, rfl, ?_⟩
 obtain ⟨cK_21, cA_21, hcK_21, hcA_21, hP21⟩ := gen2 hP21
 have S21 := S7.j2 hP21
 have hol := pl_len hz_21
 have hAl := plA_len hz_21
 have hfu := pl_full hz_21
 have hasc := (fc_asc full (-1) os.length hfu.2).2
 have hcfK : (cfE C N Z K Q) = 0 → 1 ≤ K ∧ K ≤ 8 := fun q => (cf_rng q).2.2.2.1
 have hK := hcfK (pl_cf hz_21)
 have S32 := S21.se [0, 2, 3, 1] [cK_21, c3, c2, cA_21]
 obtain ⟨Yb33, S33, hY33, hF33, hB33⟩ := St.call (pre := [cK_21, c3, c2]) (fr := [cA_21]) S32
 have back33 : ∀ w2 post, St w21 Yb33 post w2 → St w NoX post w2 := fun _ _ h => (hB33 _ _ h).left
 have h_lv_33 := hY33 _ h_lv
 have h_fv_33 := hY33 _ h_fv
 have fz33_0 : Ro w21 Yb33 (rl 3 anC av_21 (plA (cfE C N Z K Q) (lgN C N Z K Q) K os full)) := (hcA_21 ▸ hF33 0 _ V : Ro w21 Yb33 (ro 3 anC av_21 (plA (cfE C N Z K Q) (lgN C N Z K Q) K os full))).own
 refine vm t0 (vx (.agg #[G_21.1.1, G_21.2.1]) t0 (vx av_21 (Sa t0) (vx (.int .i64 0) (Sb t0) (vx (.int .i64 0) (Sc t0) (wA (#[.slice none 0 0, .slice none 0 0]) S33 (fun g34 w34 c34 hc34 S34 => ?_))))))
 replace S34 : St w21 Yb33 [c34, cK_21, c3, c2] w34 := S34
 refine xsB0 S34 hc34 V V V t0 (Sd t0) (by simp only [List.all_toArray, List.all_cons, List.all_nil, SlN_one (sl_SlN (gl_oa m1 (S34.cq 1 hcK_21))), SlN_one (sl_SlN (gl_ra m1 (S34.cq 1 hcK_21)))] <;> rfl) (fun w35 c35 hc35 S35 => va (Sc t0) (va (Sc t0) (va (Sc t0) (W_end (en (Ka (Qa (Kb (Qb (Qh F14))))) fun A36 _ F36 => tc H20 fun _ H37 => tb fun _ H38 => (vm (fg0 F36) (vn t0 V (W_end (en (Ka (Qa F36)) fun A39 _ F39 => tk H38 (cond_not (fg0 F39) (by decide) (wp_skip (ta H37 fun _ H40 => fa 3 (fg7 F39) (rL (.int .i64 (K)) t0 (S35.ob 3 hc2) (W_call V V V Try.func22 (by kernel_rfl) V (args1 t0) ((glC (F := fun a_ b_ => .tuple #[.agg #[a_, b_], .int .i64 (nwE K)]) (qNw_c (n := K)))) ?_))))))))))))))
 rintro _ w41 ⟨hv_41, H_41, qv_41, q_41, rfl, hg_41, hP41⟩
 refine ⟨_, rfl, ?_⟩
 obtain ⟨cK_41, hcK_41, hP41⟩ := gen1 hP41
 have S41 := S35.j1 hP41
 refine vm t0 (vx (.agg #[hv_41, qv_41]) t0 (vx (.int .i64 ((nwE K))) (Sa t0) (wA (#[.slice none 0 0, .slice none 0 0]) S41 (fun g42 w42 c42 hc42 S42 => xsB0 S42 hc42 V V V t0 (Sb t0) (by simp only [List.all_toArray, List.all_cons, List.all_nil, SlN_one (sl_SlN (gl_oa m1 (S42.cq 1 hcK_41))), SlN_one (sl_SlN (gl_ra m1 (S42.cq 1 hcK_41)))] <;> rfl) (fun w43 c43 hc43 S43 => va (Sa t0) (W_end (en (Kb (Qf F39)) fun A44 _ F44 => tc H40 fun _ H45 => tb fun _ H46 => (vm (fg0 F44) (vn t0 V (W_sure (c' := false) V V (V_mov V t0) (by rw [decide_eq_false_iff_not]; rw [(nw_k (by omega)).1]; simp) (wg V t0 (uvm (Sc (fg4 F44))) (wg V (Sa t0) (ule_ t0 (sl_SlN fz33_0.at)) (wg V (Sb t0) (uvm (Se (fg7 F44))) (wg V (Sc t0) (ule_ t0 (sl_SlN h_lv_33.at)) (wg V (Sd t0) (uvn (Sb t0) t0) (vF (Se t0) t0 (W_end (en (Ka (Qh F44)) fun A47 _ F47 => tk H46 (cond_not (fg0 F47) (by rw [decide_eq_false_iff_not]; omega) (wp_skip (ta H45 fun _ H48 => (vc (W_end (en (Ka F47) fun A49 _ F49 => tc H48 fun _ H50 => tb fun _ H51 => (vc (W_end (en (Ka F49) fun A52 Y52 F52 => tk H51 (wp_block ?_))))))))))))))))))))))))))))
 -- loop 11
 refine loopX (fun mz A' w' => SzN A' 206 ∧ A'.defers = [] ∧ (∃ (i : Nat) (j : Nat) (Gc : GV), (mz = os.length - i) ∧ (i ≤ os.length) ∧ (KP full i j) ∧ ((plG (cfE C N Z K Q) (lgN C N Z K Q) K os full)[i]? = some (gab Gc)) ∧ (EV A' (.tmp 14) = .int .i64 (i : Int)) ∧ (EV A' (.tmp 13) = .int .i64 (j : Int)) ∧ (EV A' (.tmp 1) = EV A52 (.tmp 1)) ∧ (EV A' (.tmp 3) = EV A52 (.tmp 3)) ∧ (EV A' (.tmp 5) = EV A52 (.tmp 5)) ∧ (EV A' (.tmp 7) = EV A52 (.tmp 7)) ∧ (EV A' (.tmp 8) = EV A52 (.tmp 8)) ∧ (EV A' (.tmp 11) = EV A52 (.tmp 11)) ∧ (St w21 Yb33 [bx g42 36 #[Gc.1.1, Gc.2.1], gls [Gc], bx g34 36 #[G_21.1.1, G_21.2.1], gls [G_21], bx g3 58 #[fv, .int .i64 (ii), .int .i64 (jj)], bx g2 23 #[.int .i64 (C), .int .i64 (N), .int .i64 (Z), .int .i64 (K), .int .i64 (Q)]] w'))) (os.length - 0) ⟨Y52, F52.d, 0, 0, ((hv_41, H_41), (qv_41, q_41)), rfl, (by omega), (KP.init hfu.2), (sw_0 hz_21 hg_41), (((fg0 F52)).trans (by first | rfl | (simp; done) | (congr 1; omega))), (((fg1 F52)).trans (by first | rfl | (simp; done) | (congr 1; omega))), rfl, rfl, rfl, rfl, rfl, rfl, (by subst hc43 hcK_41 hc35 hcK_21 hc3 hc2; exact S43)⟩ ?_
 clear S43 hc43 hcK_41 hc35 hcK_21 hc3 hc2
 rintro n53 A53 w53 ⟨Y53, hdf53, i, j, Gc, hm53, hi, hkp, hgc, l14_53, l13_53, u1_53, u3_53, u5_53, u7_53, u8_53, u11_53, S53⟩
 have l1_53 := u1_53.trans (fg10 F52)
 have l3_53 := u3_53.trans (fg12 F52)
 have l5_53 := u5_53.trans (fg11 F52)
 have l7_53 := u7_53.trans (fg8 F52)
 have l8_53 := u8_53.trans (fg7 F52)
 have l11_53 := u11_53.trans (fg4 F52)
 obtain ⟨c43_53, cK_53, c35_53, cK_53b, c3_53, c2_53, hc43_53, hcK_53, hc35_53, hcK_53b, hc3_53, hc2_53, S53⟩ := gen6 S53
 refine td fun _ H54 => tb fun _ H55 => (vm l14_53 (vm (Sa l1_53) (le_ t0 (sl_SlN h_lv_33.at) (vl (Sb t0) t0 (W_end (en ((((((((((ck (cq3 (FS.n hdf53) V) V V)).c ((es4 V l1_53))).c ((es4 V l3_53))).c ((es4 V l5_53))).c ((es4 V l7_53))).c ((es4 V l8_53))).c ((es4 V l11_53))).c ((es4 V l13_53))).c ((Sd l14_53))) fun A56 _ F56 => tk H55 (cd (fg8 F56) (fun c57 => ?_) fun c57 => ?_)))))))
 ·refine wp_skip (tc H54 fun _ H58 => wp_block (td fun _ H59 => ?_))
  have k60 : i < os.length := by first | omega | (simp only [List.length_cons, List.length_nil]; omega) | (simp only [List.length_set]; omega) | decide
  obtain ⟨y60, hy60⟩ := get_some (xs := os) (k := i) k60
  have hsw := sw_at hz_21 hcfK hy60 hgc
  have hsm := hsw.1
  refine region_monoS 13 14 [none, none, none, none, none, none, some (SPv [] (fun _ => fun u l' => ∃ ho1_s Ho1_s qo1_s so1_s, u = .tuple #[.agg #[ho1_s, qo1_s], .agg #[.int .i64 (stA (cfE C N Z K Q) (lgN C N Z K Q) K (gab Gc) (⟨y60.kd, y60.a, y60.b, y60.f, y60.p, y60.q, y60.u⟩ : OpC)).e, .bool (stA (cfE C N Z K Q) (lgN C N Z K Q) K (gab Gc) (⟨y60.kd, y60.a, y60.b, y60.f, y60.p, y60.q, y60.u⟩ : OpC)).t, .int .u64 (stA (cfE C N Z K Q) (lgN C N Z K Q) K (gab Gc) (⟨y60.kd, y60.a, y60.b, y60.f, y60.p, y60.q, y60.u⟩ : OpC)).v], .int .i64 (stE (cfE C N Z K Q) K (gab Gc) (⟨y60.kd, y60.a, y60.b, y60.f, y60.p, y60.q, y60.u⟩ : OpC))] ∧ (gab ((ho1_s, Ho1_s), (qo1_s, so1_s)) = (stG (cfE C N Z K Q) (lgN C N Z K Q) K (gab Gc) (⟨y60.kd, y60.a, y60.b, y60.f, y60.p, y60.q, y60.u⟩ : OpC))) ∧ ∃ cK_s, cK_s = gls [((ho1_s, Ho1_s), (qo1_s, so1_s))] ∧ l' = [cK_s]) 6), none, none, none, none, some (SPv [] (fun _ => fun u l' => ∃ g_, u = .pointer (some ⟨g_, 0, none⟩) ∧ ∃ c_, c_ = bx g_ 36 #[.slice none 0 0, .slice none 0 0] ∧ l' = [c_]) 11), some (SPv [] (fun _ => fun u l' => ∃ g_, u = .pointer (some ⟨g_, 0, none⟩) ∧ ∃ c_, c_ = bx g_ 44 #[.int .i64 0, .bool false, .int .u64 0] ∧ l' = [c_]) 12)] (by kernel_rfl) (by kernel_rfl) (dr (fun _ hx _ => (ura (fg6 F56) ((S53.grow hx).ob 5 hc2_53))) (dr (fun _ hx _ => (ura (Sa (fg2 F56)) ((S53.grow hx).ob 0 hc43_53))) (dm (Sb (fg7 F56)) (dm (Sc (fg0 F56)) ?_))))
  obtain ⟨B60, O60, C60, hv60⟩ := (SlN.blk (sl_SlN h_lv_33.at) (by first | omega | (simp only [List.length_cons, List.length_nil]; omega) | (simp only [List.length_set]; omega) | decide))
  refine dv (V_ixS (off := O60 + i * 7) 7 i V (Sa t0) t0 hv60 (by omega) k60 Try.underlying24 (by kernel_rfl) V) (dr (fun sx hx hF => (VR_ldR (ys := opC y60) V t0 (SlN.row opC_len (sl_SlN ((S53.grow hx).ro h_lv_33)) hv60 hy60 V) Try.underlying42 V (by kernel_rfl))) (D_call (ts := []) (vs := []) (C0 := fun _ => fun u l' => ∃ ho1_s Ho1_s qo1_s so1_s, u = .tuple #[.agg #[ho1_s, qo1_s], .agg #[.int .i64 (stA (cfE C N Z K Q) (lgN C N Z K Q) K (gab Gc) (⟨y60.kd, y60.a, y60.b, y60.f, y60.p, y60.q, y60.u⟩ : OpC)).e, .bool (stA (cfE C N Z K Q) (lgN C N Z K Q) K (gab Gc) (⟨y60.kd, y60.a, y60.b, y60.f, y60.p, y60.q, y60.u⟩ : OpC)).t, .int .u64 (stA (cfE C N Z K Q) (lgN C N Z K Q) K (gab Gc) (⟨y60.kd, y60.a, y60.b, y60.f, y60.p, y60.q, y60.u⟩ : OpC)).v], .int .i64 (stE (cfE C N Z K Q) K (gab Gc) (⟨y60.kd, y60.a, y60.b, y60.f, y60.p, y60.q, y60.u⟩ : OpC))] ∧ (gab ((ho1_s, Ho1_s), (qo1_s, so1_s)) = (stG (cfE C N Z K Q) (lgN C N Z K Q) K (gab Gc) (⟨y60.kd, y60.a, y60.b, y60.f, y60.p, y60.q, y60.u⟩ : OpC))) ∧ ∃ cK_s, cK_s = gls [((ho1_s, Ho1_s), (qo1_s, so1_s))] ∧ l' = [cK_s]) (C := fun u l' => ∃ ho1_s Ho1_s qo1_s so1_s, u = .tuple #[.agg #[ho1_s, qo1_s], .agg #[.int .i64 (stA (cfE C N Z K Q) (lgN C N Z K Q) K (gab Gc) (⟨y60.kd, y60.a, y60.b, y60.f, y60.p, y60.q, y60.u⟩ : OpC)).e, .bool (stA (cfE C N Z K Q) (lgN C N Z K Q) K (gab Gc) (⟨y60.kd, y60.a, y60.b, y60.f, y60.p, y60.q, y60.u⟩ : OpC)).t, .int .u64 (stA (cfE C N Z K Q) (lgN C N Z K Q) K (gab Gc) (⟨y60.kd, y60.a, y60.b, y60.f, y60.p, y60.q, y60.u⟩ : OpC)).v], .int .i64 (stE (cfE C N Z K Q) K (gab Gc) (⟨y60.kd, y60.a, y60.b, y60.f, y60.p, y60.q, y60.u⟩ : OpC))] ∧ (gab ((ho1_s, Ho1_s), (qo1_s, so1_s)) = (stG (cfE C N Z K Q) (lgN C N Z K Q) K (gab Gc) (⟨y60.kd, y60.a, y60.b, y60.f, y60.p, y60.q, y60.u⟩ : OpC))) ∧ ∃ cK_s, cK_s = gls [((ho1_s, Ho1_s), (qo1_s, so1_s))] ∧ l' = [cK_s]) V V V Try.func16 (by kernel_rfl) V (args3 (Se t0) (Sd t0) t0) V V V V (fun sx hx hF => ?_) (fun u61 l61 hu61 => ?_)))
  ·refine (kst_c (C := C) (N := N) (Z := Z) (K := K) (Q := Q) (G := Gc) (kd := y60.kd) (a := y60.a) (b := y60.b) (f := y60.f) (p := y60.p) (q := y60.q) (uu := y60.u) (gl_mk (gl_oaR m1 ((S53.grow hx).cC 1 hcK_53)) (gl_naR m1 ((S53.grow hx).cC 1 hcK_53)) (gl_raR m1 ((S53.grow hx).cC 1 hcK_53))) (by first | with_reducible assumption | exact hsm)).mono ?_
   rintro _ _ ⟨ho1_61, Ho1_61, qo1_61, so1_61, rfl, hg_61, hz⟩
   exact ⟨_, rfl, _, ⟨_, _, _, _, rfl, hg_61, _, rfl, rfl⟩, hz⟩
  obtain ⟨ho1_61, Ho1_61, qo1_61, so1_61, rfl, hg_61, cK_61, hcK_61, hl61⟩ := hu61
  refine dm t0 (dx (.agg #[ho1_61, qo1_61]) t0 (dx (.agg #[.int .i64 ((stA (cfE C N Z K Q) (lgN C N Z K Q) K (gab Gc) (⟨y60.kd, y60.a, y60.b, y60.f, y60.p, y60.q, y60.u⟩ : OpC)).e), .bool ((stA (cfE C N Z K Q) (lgN C N Z K Q) K (gab Gc) (⟨y60.kd, y60.a, y60.b, y60.f, y60.p, y60.q, y60.u⟩ : OpC)).t), .int .u64 ((stA (cfE C N Z K Q) (lgN C N Z K Q) K (gab Gc) (⟨y60.kd, y60.a, y60.b, y60.f, y60.p, y60.q, y60.u⟩ : OpC)).v)]) (Sa t0) (dx (.int .i64 ((stE (cfE C N Z K Q) K (gab Gc) (⟨y60.kd, y60.a, y60.b, y60.f, y60.p, y60.q, y60.u⟩ : OpC)))) (Sb t0) (D_lay (ts := []) (vs := []) (C0 := fun _ => fun u l' => ∃ g_, u = .pointer (some ⟨g_, 0, none⟩) ∧ ∃ c_, c_ = bx g_ 36 #[.slice none 0 0, .slice none 0 0] ∧ l' = [c_]) (C := fun u l' => ∃ g_, u = .pointer (some ⟨g_, 0, none⟩) ∧ ∃ c_, c_ = bx g_ 36 #[.slice none 0 0, .slice none 0 0] ∧ l' = [c_]) V V V V V V (fun sx hx hF => lay_alloc (z := .agg #[.slice none 0 0, .slice none 0 0]) V (by kernel_rfl) (by rfl)) (fun u62 l62 hu62 => ?_)))))
  obtain ⟨g62, rfl, c62, hc62, hl62⟩ := hu62
  refine D_lay (ts := []) (vs := []) (C0 := fun _ => fun u l' => ∃ g_, u = .pointer (some ⟨g_, 0, none⟩) ∧ ∃ c_, c_ = bx g_ 44 #[.int .i64 0, .bool false, .int .u64 0] ∧ l' = [c_]) (C := fun u l' => ∃ g_, u = .pointer (some ⟨g_, 0, none⟩) ∧ ∃ c_, c_ = bx g_ 44 #[.int .i64 0, .bool false, .int .u64 0] ∧ l' = [c_]) V V V V V V (fun sx hx hF => lay_alloc (z := .agg #[.int .i64 0, .bool false, .int .u64 0]) V (by kernel_rfl) (by rfl)) (fun u63 l63 hu63 => ?_)
  obtain ⟨g63, rfl, c63, hc63, hl63⟩ := hu63
  refine D_eff V (ZS_eff S53 V V (fun s64 hJ64 hL64 hF64 => ?_))
  obtain ⟨ll61, ws61, we61, ⟨ho1_61q, Ho1_61q, qo1_61q, so1_61q, hq61, hg_61r, cK_61r, hcK_61r, hl61r⟩, hm61, k61, e61⟩ := L.all_get (L.all_rest (L.all_rest hF64)); cases hq61; subst hl61r
  replace hJ64 := hJ64.add hL64 (i := 6) V hm61 k61 e61
  obtain ⟨ll62, ws62, we62, ⟨g62q, hq62, c62r, hc62r, hl62r⟩, hm62, k62, e62⟩ := L.all_get (L.all_rest hF64); cases hq62; subst hl62r
  replace hJ64 := hJ64.add hL64 (i := 11) V hm62 k62 e62
  obtain ⟨ll63, ws63, we63, ⟨g63q, hq63, c63r, hc63r, hl63r⟩, hm63, k63, e63⟩ := L.all_get hF64; cases hq63; subst hl63r
  replace hJ64 := hJ64.add hL64 (i := 12) V hm63 k63 e63
  have S64 := hJ64.st; clear hF64 hJ64 hL64
  generalize s64.1 = w64 at *
  replace S64 : St w21 Yb33 [c63r, c62r, cK_61r, c43_53, cK_53, c35_53, cK_53b, c3_53, c2_53] w64 := S64
  refine xsB1 S64 hc62r V V V (Sa t0) (Sd t0) (by simp only [List.all_toArray, List.all_cons, List.all_nil, SlN_one (sl_SlN (gl_oa m1 (S64.cq 2 hcK_61r))), SlN_one (sl_SlN (gl_ra m1 (S64.cq 2 hcK_61r)))] <;> rfl) (fun w65 c65 hc65 S65 => xsA0 S65 hc63r V V V t0 (Sc t0) (fun w66 c66 hc66 S66 => va (Sb t0) (W_end (Qo_normal (en (Kc (Qc (Qh F56))) fun A67 _ F67 => tc H59 fun _ H68 => tb fun _ H69 => (vm (fg0 F67) (vn t0 V (W_end (en (Ka (Qa F67)) fun A70 _ F70 => tk H69 (cond_not (fg0 F70) (by rw [decide_eq_false_iff_not]; rw [hsw.2.1]; simp) (wp_skip (tc H68 fun _ H71 => td fun _ H72 => wp_mid (G := fun A' w' => SzN A' 206 ∧ A'.defers = [] ∧ (EV A' (.tmp 1) = EV A70 (.tmp 1)) ∧ (EV A' (.tmp 3) = EV A70 (.tmp 3)) ∧ (EV A' (.tmp 5) = EV A70 (.tmp 5)) ∧ (EV A' (.tmp 7) = EV A70 (.tmp 7)) ∧ (EV A' (.tmp 8) = EV A70 (.tmp 8)) ∧ (EV A' (.tmp 11) = EV A70 (.tmp 11)) ∧ (EV A' (.tmp 13) = EV A70 (.tmp 13)) ∧ (EV A' (.tmp 14) = EV A70 (.tmp 14)) ∧ (EV A' (.tmp 15) = EV A70 (.tmp 15)) ∧ (EV A' (.tmp 16) = EV A70 (.tmp 16)) ∧ (EV A' (.tmp 98) = .bool (decide (((j : Int) < (full.length : Int)) ∧ (full.getD j 0 = (i : Int))))) ∧ St w21 Yb33 [c66, c65, cK_61r, c43_53, cK_53, c35_53, cK_53b, c3_53, c2_53] w') ?_ ?_))))))))))))
  ·have j1_73 := (fg11 F70)
   have j3_73 := (fg10 F70)
   have j5_73 := (fg9 F70)
   have j7_73 := (fg8 F70)
   have j8_73 := (fg7 F70)
   have j11_73 := (fg6 F70)
   have j13_73 := (fg5 F70)
   have j14_73 := (fg4 F70)
   have j15_73 := (fg3 F70)
   have j16_73 := (fg2 F70)
   refine region_in (vm (fg5 F70) (fa 0 (Sa (fg9 F70)) (rL fv t0 (S66.ob 7 hc3_53) (le_ t0 (sl_SlN h_fv_33.at) (vl (Sc t0) t0 (W_split V V (V_mov V t0) (fun c74 => ?_) (fun c74 => ?_)))))))
   ·refine wg V t0 (ufa 0 (Sf (fg9 F70))) (wq V (Sa t0) (urL fv t0 (S66.ob 7 hc3_53)) (wg V (Sb t0) (uvm (Sh (fg5 F70))) ?_))
    have k75 : j < full.length := by first | omega | (simp only [List.length_cons, List.length_nil]; omega) | (simp only [List.length_set]; omega) | decide
    obtain ⟨y75, hy75⟩ := get_some (xs := full) (k := j) k75
    have gy75 := gD0 hy75
    obtain ⟨B75, O75, C75, hv75⟩ := (SlN.blk (sl_SlN h_fv_33.at) (by first | omega | (simp only [List.length_cons, List.length_nil]; omega) | (simp only [List.length_set]; omega) | decide))
    refine wg V (Sc t0) (V_ixS (off := O75 + j) 1 j V (Sa t0) t0 hv75 (by omega) k75 Try.underlying25 (by kernel_rfl) (congrArg _ (Nat.mul_one _))) (wq V (Sd t0) (urc t0 ((sl_SlN (S66.ro h_fv_33)).cell hv75 (map_get hy75))) (wg V (Se t0) (uvm (Sh (Sc (fg4 F70)))) (wg V (Sf t0) (uve (Sa t0) t0) (vT (Sg t0) t0 (W_end (en (Kh (Qf F70)) fun A76 Y76 F76 => ?_))))))
    exact Mid_n ⟨Y76, F76.d, ((fg19 F76).trans j1_73.symm), ((fg18 F76).trans j3_73.symm), ((fg17 F76).trans j5_73.symm), ((fg16 F76).trans j7_73.symm), ((fg15 F76).trans j8_73.symm), ((fg14 F76).trans j11_73.symm), ((fg13 F76).trans j13_73.symm), ((fg12 F76).trans j14_73.symm), ((fg11 F76).trans j15_73.symm), ((fg10 F76).trans j16_73.symm), ((fg0 F76).trans (congrArg Value.bool (decide_eq_decide.2 ⟨fun q => ⟨c74, gy75.trans q⟩, fun q => gy75.symm.trans q.2⟩))), S66⟩
   refine xo V t0 (xo V (Sa t0) (xo V (Sb t0) (xo V (Sc t0) (xo V (Sd t0) (xo V (Se t0) (xo V (Sf t0) (vF (Sg t0) V (W_end (en (Kh (Qf F70)) fun A77 Y77 F77 => ?_)))))))))
   exact Mid_n ⟨Y77, F77.d, ((fg19 F77).trans j1_73.symm), ((fg18 F77).trans j3_73.symm), ((fg17 F77).trans j5_73.symm), ((fg16 F77).trans j7_73.symm), ((fg15 F77).trans j8_73.symm), ((fg14 F77).trans j11_73.symm), ((fg13 F77).trans j13_73.symm), ((fg12 F77).trans j14_73.symm), ((fg11 F77).trans j15_73.symm), ((fg10 F77).trans j16_73.symm), ((fg0 F77).trans (congrArg Value.bool ((decide_eq_false (fun q => c74 q.1)).symm))), S66⟩
  rintro A73 w73 ⟨Y73, hdf73, u1_73, u3_73, u5_73, u7_73, u8_73, u11_73, u13_73, u14_73, u15_73, u16_73, l98_73, S73⟩
  have l1_73 := u1_73.trans (fg11 F70)
  have l3_73 := u3_73.trans (fg10 F70)
  have l5_73 := u5_73.trans (fg9 F70)
  have l7_73 := u7_73.trans (fg8 F70)
  have l8_73 := u8_73.trans (fg7 F70)
  have l11_73 := u11_73.trans (fg6 F70)
  have l13_73 := u13_73.trans (fg5 F70)
  have l14_73 := u14_73.trans (fg4 F70)
  have l15_73 := u15_73.trans (fg3 F70)
  have l16_73 := u16_73.trans (fg2 F70)
  refine tk H72 (cd l98_73 (fun c78 => ?_) fun c78 => ?_)
  ·refine tb fun _ H79 => (vm l13_73 (ad t0 V (vt (W_end (en ((((((((((ck (cq2 (FS.n hdf73) V) V V)).c ((es3 V l1_73))).c ((es3 V l3_73))).c ((es3 V l5_73))).c ((es3 V l7_73))).c ((es3 V l8_73))).c ((es3 V l11_73))).c ((es3 V l14_73))).c ((Sc l16_73))) fun A80 _ F80 => ?_)))))
   have S81 := S73.se [0, 2, 3, 4, 5, 6, 7, 8] [c66, cK_61r, c43_53, cK_53, c35_53, cK_53b, c3_53, c2_53]
   refine tc H79 fun _ H82 => tb fun _ H83 => (vm (fg3 F80) (vm (Sa (fg1 F80)) ?_))
   have k84 : i < (plA (cfE C N Z K Q) (lgN C N Z K Q) K os full).length := by first | omega | (simp only [List.length_cons, List.length_nil]; omega) | (simp only [List.length_set]; omega) | decide
   obtain ⟨y84, hy84⟩ := get_some (xs := (plA (cfE C N Z K Q) (lgN C N Z K Q) K os full)) (k := i) k84
   obtain ⟨B84, O84, C84, hv84⟩ := (SlN.blk (sl_SlN fz33_0.at) (by first | omega | (simp only [List.length_cons, List.length_nil]; omega) | (simp only [List.length_set]; omega) | decide))
   refine wv (V_ixS (off := O84 + i * 3) 3 i V (Sa t0) t0 hv84 (by omega) k84 Try.underlying37 (by kernel_rfl) V) (wr (VR_ldR (ys := anC y84) V t0 (SlN.row anC_len (sl_SlN (S81.ro fz33_0)) hv84 hy84 V) Try.underlying44 V (by kernel_rfl)) (wv (xbS (n := 3) (z := .agg #[.int .i64 0, .bool false, .int .u64 0]) V (parts1 V)) (wv (V_neStA V (Sa t0) t0 (by kernel_rfl)) (W_sure (c' := false) V V (V_mov V t0) (by rw [decide_eq_false_iff_not]; have q := (hsw.2.2.1 (KP.in ⟨by omega, c78.2⟩)).1; rw [hy84] at q; rw [Option.some.inj q]; simp) (wq V t0 (ura (Sg (fg0 F80)) (S81.ob 0 hc66)) (wg V (Sa t0) (xbS (n := 3) (z := .agg #[.int .i64 0, .bool false, .int .u64 0]) V parts0) (wg V (Sb t0) (V_neStA V (Sa t0) t0 (by kernel_rfl)) (vF (Sc t0) t0 (W_end (en (Kd (Qg F80)) fun A85 _ F85 => ?_))))))))))
   have S86 := S81.se [1, 2, 3, 4, 5, 6, 7] [cK_61r, c43_53, cK_53, c35_53, cK_53b, c3_53, c2_53]
   refine tk H83 (cond_not (fg0 F85) (by rw [decide_eq_false_iff_not]; rw [(hsw.2.2.1 (KP.in ⟨by omega, c78.2⟩)).2.1]; simp) (wp_skip (tk H82 (wp_exit (then_exit (inb_hit (tk H58 (region_in (vm (fg5 F85) (ad t0 V (vt (W_end (en (Ka (Qb (fx5 F85))) fun A87 Y87 F87 => ?_)))))))))))))
   have S88 := S86.se [1, 2, 3, 4, 5, 6] [c43_53, cK_53, c35_53, cK_53b, c3_53, c2_53]
   refine then_n ⟨os.length - (i + 1), by simp only [hm53]; omega, Y87, F87.d, (i + 1), (j + 1), Gc, rfl, (by omega), (hkp.stT hasc c78), (hsw.2.2.1 (KP.in ⟨by omega, c78.2⟩)).2.2, (((fg0 F87)).trans (by first | rfl | (simp; done) | (congr 1; omega))), (((fg12 F87)).trans (by first | rfl | (simp; done) | (congr 1; omega))), (((fg11 F87)).trans (fg10 F52).symm), (((fg10 F87)).trans (fg12 F52).symm), (((fg9 F87)).trans (fg11 F52).symm), (((fg8 F87)).trans (fg8 F52).symm), (((fg7 F87)).trans (fg7 F52).symm), (((fg6 F87)).trans (fg4 F52).symm), (by subst hc43_53 hcK_53 hc35_53 hcK_53b hc3_53 hc2_53; exact S88)⟩
  refine wp_skip (tc H71 fun _ H89 => td fun _ H90 => region_monoS 6 6 [] (by kernel_rfl) (by kernel_rfl) (dm l8_73 (dm (Sa l14_73) ?_)))
  have k91 : i < (plA (cfE C N Z K Q) (lgN C N Z K Q) K os full).length := by first | omega | (simp only [List.length_cons, List.length_nil]; omega) | (simp only [List.length_set]; omega) | decide
  obtain ⟨y91, hy91⟩ := get_some (xs := (plA (cfE C N Z K Q) (lgN C N Z K Q) K os full)) (k := i) k91
  obtain ⟨B91, O91, C91, hv91⟩ := (SlN.blk (sl_SlN fz33_0.at) (by first | omega | (simp only [List.length_cons, List.length_nil]; omega) | (simp only [List.length_set]; omega) | decide))
  refine dv (V_ixS (off := O91 + i * 3) 3 i V (Sa t0) t0 hv91 (by omega) k91 Try.underlying37 (by kernel_rfl) V) (dr (fun sx hx hF => (VR_ldR (ys := anC y91) V t0 (SlN.row anC_len (sl_SlN ((S73.grow hx).ro fz33_0)) hv91 hy91 V) Try.underlying44 V (by kernel_rfl))) (dr (fun _ hx _ => (ura (Sd l16_73) ((S73.grow hx).ob 0 hc66))) (dv (V_neStA V (Sa t0) t0 (by kernel_rfl)) (ZS_none S73 (Nat.le_refl _) (Nat.le_refl _) (fun s92 hJ92 hL92 hF92 => ?_)))))
  have S92 := hJ92.st; clear hF92 hJ92 hL92
  generalize s92.1 = w92 at *
  replace S92 : St w21 Yb33 [c66, c65, cK_61r, c43_53, cK_53, c35_53, cK_53b, c3_53, c2_53] w92 := S92
  refine en (((((((((((ck (cq5 (FS.n hdf73) V) V V)).c ((es6 V l1_73))).c ((es6 V l3_73))).c ((es6 V l5_73))).c ((es6 V l7_73))).c ((es6 V l8_73))).c ((es6 V l11_73))).c ((es6 V l13_73))).c ((es6 V l14_73))).c ((Sf l15_73))) fun A93 _ F93 => ?_
  have S94 := S92.se [1, 2, 3, 4, 5, 6, 7, 8] [c65, cK_61r, c43_53, cK_53, c35_53, cK_53b, c3_53, c2_53]
  refine tk H90 (cond_not (fg9 F93) (by rw [decide_eq_false_iff_not]; have q := (hsw.2.2.2 (hkp.out hasc c78)).1; rw [hy91] at q; rw [Option.some.inj q]; simp) (wp_skip (tk H89 (region_in (ra (fg0 F93) (S94.ob 0 hc65) (xsB2 S94 hc43_53 V V V (Sa (fg3 F93)) t0 (by simp only [List.all_toArray, List.all_cons, List.all_nil, SlN_one (sl_SlN (gl_oa m1 (S94.cq 1 hcK_61r))), SlN_one (sl_SlN (gl_ra m1 (S94.cq 1 hcK_61r)))] <;> rfl) (fun w95 c95 hc95 S95 => W_end ?_)))))))
  have S96 := S95.se [0, 1, 2, 4, 5, 6, 7] [c65, cK_61r, c95, c35_53, cK_53b, c3_53, c2_53]
  refine en (Qa F93) fun A97 _ F97 => ?_
  have S98 := S96.se [1, 2, 3, 4, 5, 6] [cK_61r, c95, c35_53, cK_53b, c3_53, c2_53]
  refine inb_n (tk H58 (region_in (vm (fg1 F97) (ad t0 V (vt (W_end (en (Ka (Qb (fx1 F97))) fun A99 Y99 F99 => ?_)))))))
  have S100 := S98.se [1, 0, 2, 3, 4, 5] [c95, cK_61r, c35_53, cK_53b, c3_53, c2_53]
  refine then_n ⟨os.length - (i + 1), by simp only [hm53]; omega, Y99, F99.d, (i + 1), j, ((ho1_61, Ho1_61q), (qo1_61, so1_61q)), rfl, (by omega), (hkp.stF hasc c78), ((hsw.2.2.2 (hkp.out hasc c78)).2.trans (congrArg some hg_61r.symm)), (((fg0 F99)).trans (by first | rfl | (simp; done) | (congr 1; omega))), (((fg2 F99)).trans (by first | rfl | (simp; done) | (congr 1; omega))), (((fg8 F99)).trans (fg10 F52).symm), (((fg7 F99)).trans (fg12 F52).symm), (((fg6 F99)).trans (fg11 F52).symm), (((fg5 F99)).trans (fg8 F52).symm), (((fg4 F99)).trans (fg7 F52).symm), (((fg3 F99)).trans (fg4 F52).symm), (by subst hc95 hcK_61r hc35_53 hcK_53b hc3_53 hc2_53; exact S100)⟩
 have hge := sw_end hz_21 (by omega) hgc hg_21
 have hvr := plA_U hz_21 hcfK hu
 refine wp_exit (then_exit (then_exit (inb_hit (ta H50 fun _ H101 => (ra (fg6 F56) (S53.ob 5 hc2_53) (vm (Sa (fg7 F56)) (vm (Sb (fg3 F56)) (W_call V V V Try.func19 (by kernel_rfl) V (args3 (Sb t0) (Sa t0) t0) (kjd_c (C := C) (N := N) (Z := Z) (K := K) (Q := Q) (S53.roC h_lv_33) (S53.roC fz33_0) (by first | with_reducible assumption)) ?_))))))))
 rintro _ w102 (⟨rfl, hz_102, hP102⟩ | ⟨rw_102, rfl, hz_102, hP102⟩)
 ·refine ⟨_, rfl, ?_⟩
  have S102 := S53.join hP102
  replace S102 : St w21 Yb33 [c43_53, cK_53, c35_53, cK_53b, c3_53, c2_53] w102 := S102
  exact absurd (by rw [jd_own hz_21 hcfK]) hz_102
 refine ⟨_, rfl, ?_⟩
 obtain ⟨cL_102, hcL_102, hP102⟩ := gen1 hP102
 have S102 := S53.join hP102
 replace S102 : St w21 Yb33 [cL_102, c43_53, cK_53, c35_53, cK_53b, c3_53, c2_53] w102 := S102
 refine vm t0 (vx rw_102 t0 (vx (.int .i64 0) (Sa t0) (vx (.int .i64 0) (Sb t0) (va (Sb t0) (va (Sb t0) (va (Sb t0) (W_end (en (Kc (Qh F56)) fun A103 _ F103 => tc H101 fun _ H104 => tb fun _ H105 => (ra (fg7 F103) (S102.ob 3 hc35_53) (ra (Sa (fg5 F103)) (S102.ob 1 hc43_53) (W_call V V V Try.func13 (by kernel_rfl) V (args2 (Sa t0) t0) (qsm_c (gl_oaR m1 (S102.cC 4 hcK_53b)) (gl_naR m1 (S102.cC 4 hcK_53b)) (gl_raR m1 (S102.cC 4 hcK_53b)) (gl_oaR m1 (S102.cC 2 hcK_53)) (gl_naR m1 (S102.cC 2 hcK_53)) (gl_raR m1 (S102.cC 2 hcK_53))) ?_)))))))))))
 rintro _ w106 ⟨rfl, hP106⟩
 refine ⟨_, rfl, ?_⟩
 have S106 := S102.j0 hP106
 refine wv (V_not V t0) (W_sure (c' := false) V V (V_mov V t0) (by rw [as_sm (G := G_21) hge]; rfl) (wg V t0 (uvm (Se (fg2 F103))) (wg V (Sa t0) (ufa 0 (Sf (fg8 F103))) (wq V (Sb t0) (urL fv t0 (S106.ob 5 hc3_53)) (W_call V (xwt V V (Sc t0)) V Try.func21 (by kernel_rfl) V (args2 (Sb t0) t0) (qInts_c (S106.cC 0 hcL_102).own (S106.roC h_fv_33)) ?_)))))
 rintro _ w107 ⟨rfl, hP107⟩
 refine ⟨_, rfl, ?_⟩
 have S107 := S106.j0 hP107
 refine wg V (Sd t0) (V_notd V t0) (vF (Se t0) t0 (W_sure (c' := false) V V (V_mov V t0) (by rw [decide_eq_false_iff_not]; exact fun q => q (jd_full hz_21 hcfK)) (wg V t0 (uvm (Sh (Sd (fg1 F103)))) (wg V (Sa t0) (uvn t0 V) (vF (Sb t0) t0 (W_sure (c' := false) V V (V_mov V t0) (by decide) (wg V t0 (uvm (Sh (Sh (fg0 F103)))) (wg V (Sa t0) (uvn t0 V) (vF (Sb t0) t0 (W_sure (c' := false) V V (V_mov V t0) (by decide) (wg V t0 (uvm (Sh (Sh (Sd (fg10 F103))))) (wg V (Sa t0) (ule_ t0 (sl_SlN h_lv_33.at)) (wg V (Sb t0) (uve t0 V) (vF (Sc t0) t0 (W_split V V (V_mov V t0) (fun c108 => ?_) (fun c108 => ?_))))))))))))))))
 ·refine xo V t0 (xo V (Sa t0) (xo V (Sb t0) (vT (Sc t0) V (W_end (en (Ka (Qd (Qh (Qh (Qh F103))))) fun A109 _ F109 => tk H105 (cond_t (fg0 F109) (tb fun _ H110 => (ra (fg8 F109) (S107.ob 3 hc35_53) (ra (Sa (fg6 F109)) (S107.ob 1 hc43_53) (W_call V V V Try.func13 (by kernel_rfl) V (args2 (Sa t0) t0) (qsm_c (gl_oaR m1 (S107.cC 4 hcK_53b)) (gl_naR m1 (S107.cC 4 hcK_53b)) (gl_raR m1 (S107.cC 4 hcK_53b)) (gl_oaR m1 (S107.cC 2 hcK_53)) (gl_naR m1 (S107.cC 2 hcK_53)) (gl_raR m1 (S107.cC 2 hcK_53))) ?_))))))))))
  rintro _ w111 ⟨rfl, hP111⟩
  refine ⟨_, rfl, ?_⟩
  have S111 := S107.j0 hP111
  refine W_sure (c' := true) V V (V_mov V t0) (as_sm (G := G_21) hge) (wg V t0 (uvm (Sd (fg3 F109))) (wg V (Sa t0) (ufa 0 (Se (fg9 F109))) (wq V (Sb t0) (urL fv t0 (S111.ob 5 hc3_53)) (W_call V (xwt V V (Sc t0)) V Try.func21 (by kernel_rfl) V (args2 (Sb t0) t0) (qInts_c (S111.cC 0 hcL_102).own (S111.roC h_fv_33)) ?_))))
  rintro _ w112 ⟨rfl, hP112⟩
  refine ⟨_, rfl, ?_⟩
  have S112 := S111.j0 hP112
  refine vT (Sd t0) t0 (W_sure (c' := true) V V (V_mov V t0) (by rw [decide_eq_true_eq]; exact jd_full hz_21 hcfK) (wg V t0 (uvm (Sh (Sb (fg2 F109)))) (wg V (Sa t0) (uve t0 V) (vT (Sb t0) t0 (W_sure (c' := true) V V (V_mov V t0) (by simp) (wg V t0 (uvm (Sh (Sf (fg1 F109)))) (wg V (Sa t0) (uve t0 V) (vT (Sb t0) t0 (W_sure (c' := true) V V (V_mov V t0) (by simp) (W_call V (xwt V V t0) V Try.func9 (by kernel_rfl) V args0 (kshn_c  ) ?_))))))))))
  rintro _ w113 ⟨rfl, hP113⟩
  refine ⟨_, rfl, ?_⟩
  have S113 := S112.j0 hP113
  refine vT (Sa t0) t0 (vt (W_end (en (Ka (Qd (Qh (Qh F109)))) fun A114 _ F114 => ?_)))
  have S115 := S113.se [2, 4] [cK_53, cK_53b]
  refine tk H110 (wp_ret (then_ret (rt1 F114 (rv_tmp (fg0 F114)) ?_)))
  exact ⟨rfl, (back33 _ _ S115.fin0)⟩
 refine wg V t0 (ufa 1 (Sh (Sh (Sh (Sa (fg8 F103)))))) (wq V (Sa t0) (urL (.int .i64 (ii)) t0 (S107.ob 5 hc3_53)) (wg V (Sb t0) (uvl t0 V) (vF (Sc t0) t0 (W_end (en (Ka (Qd (Qh (Qh (Qh F103))))) fun A116 _ F116 => tk H105 (cd (fg0 F116) (fun c117 => ?_) fun c117 => ?_))))))
 ·refine tb fun _ H118 => (ra (fg8 F116) (S107.ob 3 hc35_53) (ra (Sa (fg6 F116)) (S107.ob 1 hc43_53) (W_call V V V Try.func13 (by kernel_rfl) V (args2 (Sa t0) t0) (qsm_c (gl_oaR m1 (S107.cC 4 hcK_53b)) (gl_naR m1 (S107.cC 4 hcK_53b)) (gl_raR m1 (S107.cC 4 hcK_53b)) (gl_oaR m1 (S107.cC 2 hcK_53)) (gl_naR m1 (S107.cC 2 hcK_53)) (gl_raR m1 (S107.cC 2 hcK_53))) ?_)))
  rintro _ w119 ⟨rfl, hP119⟩
  refine ⟨_, rfl, ?_⟩
  have S119 := S107.j0 hP119
  refine W_sure (c' := true) V V (V_mov V t0) (as_sm (G := G_21) hge) (wg V t0 (uvm (Sd (fg3 F116))) (wg V (Sa t0) (ufa 0 (Se (fg9 F116))) (wq V (Sb t0) (urL fv t0 (S119.ob 5 hc3_53)) (W_call V (xwt V V (Sc t0)) V Try.func21 (by kernel_rfl) V (args2 (Sb t0) t0) (qInts_c (S119.cC 0 hcL_102).own (S119.roC h_fv_33)) ?_))))
  rintro _ w120 ⟨rfl, hP120⟩
  refine ⟨_, rfl, ?_⟩
  have S120 := S119.j0 hP120
  refine vT (Sd t0) t0 (W_sure (c' := true) V V (V_mov V t0) (by rw [decide_eq_true_eq]; exact jd_full hz_21 hcfK) (wg V t0 (uvm (Sh (Sb (fg2 F116)))) (wg V (Sa t0) (uve t0 V) (vT (Sb t0) t0 (W_sure (c' := true) V V (V_mov V t0) (by simp) (wg V t0 (uvm (Sh (Sf (fg1 F116)))) (wg V (Sa t0) (uve t0 V) (vT (Sb t0) t0 (W_sure (c' := true) V V (V_mov V t0) (by simp) (W_call V (xwt V V t0) V Try.func9 (by kernel_rfl) V args0 (kshn_c  ) ?_))))))))))
  rintro _ w121 ⟨rfl, hP121⟩
  refine ⟨_, rfl, ?_⟩
  have S121 := S120.j0 hP121
  refine vT (Sa t0) t0 (vt (W_end (en (Ka (Qd (Qh (Qh F116)))) fun A122 _ F122 => ?_)))
  have S123 := S121.se [2, 4] [cK_53, cK_53b]
  refine tk H118 (wp_ret (then_ret (rt1 F122 (rv_tmp (fg0 F122)) ?_)))
  exact ⟨rfl, (back33 _ _ S123.fin0)⟩
 have hmo : 0 ≤ ii % (os.length : Int) ∧ ii % (os.length : Int) < (os.length : Int) := ⟨Int.emod_nonneg _ (by omega), Int.emod_lt_of_pos _ (by omega)⟩
 have hvr2 := set_U (d := (ii % (os.length : Int)).toNat) (a := AnC.mk 998 false 0) hvr ⟨by decide, by decide⟩
 refine wp_skip (ta H104 fun _ H124 => (fa 1 (fg9 F116) (rL (.int .i64 (ii)) t0 (S107.ob 5 hc3_53) (vm (Sb (fg11 F116)) (le_ t0 (sl_SlN h_lv_33.at) (wv (V_rem V (Sb t0) t0 (by omega) (by omega) (wrap_mod (by omega) (by omega))) (vt (W_end (en (Ka (Qe F116)) fun A125 _ F125 => ?_)))))))))
 have S126 := S107.se [2, 4, 6] [cK_53, cK_53b, c2_53]
 refine ta H124 fun _ H127 => (W_litS (vs := []) (xs := []) 3 S126 V V V parts0 V Try.underlying37 (by kernel_rfl) (by decide) (by intro v hv; cases hv) (by rfl) (fun g128 w128 c128 hc128 S128 => ?_))
 replace hc128 : c128 = ro 3 anC (.slice (some ⟨g128, 0, none⟩) 0 0) [] := hc128
 replace S128 : St w21 Yb33 [c128, cK_53, cK_53b, c2_53] w128 := S128
 refine vm (Sa (fg8 F125)) (W_appS 3 0 S128 V hc128 V V V (Sa t0) t0 Try.underlying37 Try.underlying37 (z := .agg #[.int .i64 0, .bool false, .int .u64 0]) (bytes := 24) (by kernel_rfl) V (by decide) (sl_SlN (S128.ro fz33_0)) (ones_r anC_one) (by first | omega | (simp; done) | (simp; omega)) (by first | omega | (simp; done) | (simp; omega)) (fun v129 w129 c129 hc129 S129 => ?_))
 replace hc129 : c129 = ro 3 anC v129 (plA (cfE C N Z K Q) (lgN C N Z K Q) K os full) := hc129.trans (app_eqR (by first | (simp; done) | (rw [List.take_of_length_le (l := List.drop _ _) (by rw [List.length_drop]; exact Nat.le_refl _)])))
 replace S129 : St w21 Yb33 [c129, cK_53, cK_53b, c2_53] w129 := S129
 refine vt (W_end (en (Ka (Qc F125)) fun A130 _ F130 => ta H127 fun _ H131 => (vm (fg0 F130) (vm (Sa (fg1 F130)) (wv (xbS (n := 3) (z := .agg #[.int .i64 0, .bool false, .int .u64 0]) V (parts1 V)) ?_)))))
 have k132 : ((ii % (os.length : Int))).toNat < (plA (cfE C N Z K Q) (lgN C N Z K Q) K os full).length := by first | omega | (simp only [List.length_cons, List.length_nil]; omega) | (simp only [List.length_set]; omega) | decide
 obtain ⟨y132, hy132⟩ := get_some (xs := (plA (cfE C N Z K Q) (lgN C N Z K Q) K os full)) (k := ((ii % (os.length : Int))).toNat) k132
 obtain ⟨B132, O132, C132, hv132⟩ := (SlN.blk (ow_at (S129.chq 0 rfl hc129)) (by first | omega | (simp only [List.length_cons, List.length_nil]; omega) | (simp only [List.length_set]; omega) | decide))
 refine wv (V_ixS (off := O132 + (((ii % (os.length : Int))).toNat) * 3) 3 (((ii % (os.length : Int))).toNat) V (Sb t0) (Sa t0) hv132 (by omega) k132 Try.underlying37 (by kernel_rfl) V) (W_stR (j := ((ii % (os.length : Int))).toNat) (ys := anC (AnC.mk 998 false 0)) 0 S129 V hc129 hv132 V V V t0 (Sa t0) (anC_one _) (anC_len _) V (by omega) (by kernel_rfl) (fun w133 c133 hc133 S133 => ?_))
 replace hc133 : c133 = ro 3 anC v129 ((plA (cfE C N Z K Q) (lgN C N Z K Q) K os full).set (((ii % (os.length : Int))).toNat) (AnC.mk 998 false 0)) := hc133.trans (ro_set anC_len (by omega))
 replace S133 : St w21 Yb33 [c133, cK_53, cK_53b, c2_53] w133 := S133
 refine W_end (en (Qd F130) fun A134 _ F134 => ta H131 fun _ H135 => (ra (fg12 F134) (S133.ob 3 hc2_53) (vm (Sa (fg13 F134)) (vm (Sb (fg0 F134)) (W_call V V V Try.func19 (by kernel_rfl) V (args3 (Sb t0) (Sa t0) t0) (kjd_c (C := C) (N := N) (Z := Z) (K := K) (Q := Q) (S133.roC h_lv_33) (S133.cC 0 hc133).own (by first | with_reducible assumption)) ?_)))))
 rintro _ w136 (⟨rfl, hz_136, hP136⟩ | ⟨rw_136, rfl, hz_136, hP136⟩)
 ·refine ⟨_, rfl, ?_⟩
  have S136 := S133.j0 hP136
  refine vm t0 (vx (.slice none 0 0) t0 (vx (.int .i64 ((jdF (cfE C N Z K Q) (lgN C N Z K Q) K os ((plA (cfE C N Z K Q) (lgN C N Z K Q) K os full).set (((ii % (os.length : Int))).toNat) (AnC.mk 998 false 0))).1)) (Sa t0) (vx (.int .i64 ((jdF (cfE C N Z K Q) (lgN C N Z K Q) K os ((plA (cfE C N Z K Q) (lgN C N Z K Q) K os full).set (((ii % (os.length : Int))).toNat) (AnC.mk 998 false 0))).2)) (Sb t0) (va (Sa t0) (va (Sa t0) (W_end (en (Kb (Qh (fx3 (fx3 F134)))) fun A137 _ F137 => ?_)))))))
  have S138 := S136.se [1, 2] [cK_53, cK_53b]
  refine ta H135 fun _ H139 => (vm (fg1 F137) (vm (Sa (fg3 F137)) (ve (Sa t0) t0 (W_sure (c' := true) V V (V_mov V t0) (by rw [decide_eq_true_eq]; rw [jd_wrong hz_21 hcfK (by omega)]; simp only; omega) (wg V t0 (uvm (Sd (fg0 F137))) (wg V (Sa t0) (uve t0 V) (vT (Sb t0) t0 (W_sure (c' := true) V V (V_mov V t0) (by rw [decide_eq_true_eq]; rw [jd_wrong hz_21 hcfK (by omega)]) (W_call V (xwt V V t0) V Try.func9 (by kernel_rfl) V args0 (kshn_c  ) ?_)))))))))
  rintro _ w140 ⟨rfl, hP140⟩
  refine ⟨_, rfl, ?_⟩
  have S140 := S138.j0 hP140
  refine vT (Sa t0) t0 (vt (W_end (en (Ka (Qb (Qh F137))) fun A141 _ F141 => tk H139 (wp_ret (rt1 F141 (rv_tmp (fg0 F141)) ?_)))))
  exact ⟨rfl, (back33 _ _ S140.fin0)⟩
 refine ⟨_, rfl, ?_⟩
 obtain ⟨cL_136, hcL_136, hP136⟩ := gen1 hP136
 have S136 := S133.j1 hP136
 exact absurd hz_136 (by rw [jd_wrong hz_21 hcfK (by omega)]; simp)

end Go.Proofs.Ytpgkfndbfocibaa