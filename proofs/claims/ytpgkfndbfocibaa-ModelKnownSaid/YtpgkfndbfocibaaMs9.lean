import Derived.Test.YtpgkfndbfocibaaProg
import Derived.Test.YtpgkfndbfocibaaMs8
import Derived.Test.YtpgkfndbfocibaaPl29e
import Derived.Test.YtpgkfndbfocibaaGh9b
namespace Go.Proofs.Ytpgkfndbfocibaa
open Go.RowKit Go.Own Go.Own.R Go.Own.G Go.Own.Gr Go.Own.Ml


set_option maxHeartbeats 4000000 in
theorem krg_c {G : GV} {n : Int} {gS : Nat} {a : Int} {w : World} (hg_G : Ro w NoX (gls [G])) (hb_gS : Ro w NoX (bx gS 75 #[G.1.1, G.2.1, .int .i64 n]))  :
  Calls Try.prog 56 #[.pointer (some ⟨gS, 0, none⟩), .int .i64 a] w fun e w' => e = .returned (.tuple #[.int .i64 (rgX (G.1.2.map ab) G.2.2 a), .int .i64 (ckd (G.1.2.map ab) G.2.2 [a, a])]) ∧ St w NoX [] w' := by
 have Go := gl_o m1 hg_G
 have Gn := gl_n m1 hg_G
 have Gr := gl_r m1 hg_G
 refine calls_in 29 Try.func56 V V (by simp) (fun A0 Y0 hdf0 hargs => ?_)
 have l0_0 := hargs 0 (.pointer (some ⟨gS, 0, none⟩)) V
 have l1_0 := hargs 1 (.int .i64 a) V
 clear hargs; replace Y0 : SzN A0 29 := ⟨Y0⟩
 have hS := St.nil w
 have bGo := SlN.le (sl_SlN Go.at)
 have bGr := SlN.le (sl_SlN Gr.at)
 refine wp_seq_k fun K1 H1 => region_in ?_
 refine W_v V V (V_asg V V) (W_v V V (V_asg V V) ?_)
 refine W_end (gen_Q fun A2 E2 => ?_)
 have Y2 := szq E2
 have F2 := ((fsE E2 (cq2 (FS.n hdf0) V)).c (lookE E2 0 (es2 V l0_0))).c (lookE E2 1 (es2 V l1_0))
 clear E2 Y0 hdf0 l0_0 l1_0
 refine tk H1 (wp_seq_k fun K3 H3 => ?_)
 refine wp_seq_k fun K4 H4 => region_in ?_
 refine W_v V V (V_mov V (fg1 F2)) ?_
 refine W_v V V (V_nil V (et V)) ?_
 refine W_v V V (V_fa (off' := 0) V (et V) Try.underlying75 V (by decide +kernel) V) ?_
 refine W_r V V (VR_ldP (ys := [G.1.1, G.2.1]) V (et V) (ob_at (hS.ro hb_gS)) (ldP_at V) Try.underlying36 V (by kernel_rfl)) ?_
 refine W_v V V (V_mov V (es4 V (fg0 F2))) (W_v V V (V_mov V (es5 V (fg0 F2))) ?_)
 refine W_call V V V Try.func55 (by kernel_rfl) V (args3 (es2 V (et V)) (es V (et V)) (et V)) (kAl_c (a := a) (b := a) (hS.roC Go) (hS.roC Gn) (hS.roC Gr) ) ?_
 rintro _ w5 ⟨rfl, hP5⟩
 refine ⟨_, rfl, ?_⟩
 have S5 := hS.join hP5
 replace S5 : St w NoX [] w5 := S5
 refine W_v V V (V_mov V (et V)) ?_
 refine W_v V V (V_ext (v := .bool ((alB (G.1.2.map ab) G.2.2 a a))) V (et V) V) ?_
 refine W_v V V (V_ext (v := .int .i64 ((ckd (G.1.2.map ab) G.2.2 [a, a]))) V (es V (et V)) V) ?_
 refine W_v V V (V_asg V (es V (et V))) (W_v V V (V_asg V (es V (et V))) ?_)
 refine W_end (gen_Q fun A6 E6 => ?_)
 have Y6 := szq E6
 have F6 := fsE E6 (ck (cq3 (cq8 F2 V) V) V V)
 clear E6 Y2 F2
 refine tk H4 (wp_seq_k fun K7 H7 => region_in ?_)
 refine W_v V V (V_mov V (fg0 F6)) ?_
 refine W_v V V (V_neq V (et V) V) ?_
 refine W_end (gen_Q fun A8 E8 => ?_)
 have Y8 := szq E8
 have F8 := fsE E8 (ck (cq1 F6 V) V V)
 clear E8 Y6 F6
 refine tk H7 ?_
 refine cond_dec (fg0 F8) (fun c9 => ?_) (fun c9 => ?_)
 ·refine wp_seq_k fun K10 H10 => region_in ?_
  refine W_v V V (V_mov V (fg1 F8)) (W_v V V (V_asg V V) (W_v V V (V_asg V (es V (et V))) ?_))
  refine W_end (gen_Q fun A11 E11 => ?_)
  have Y11 := szq E11
  have F11 := fsE E11 (ck (ck (cq1 F8 V) V V) V V)
  clear E11 Y8 F8
  refine tk H10 (wp_ret (then_ret ?_))
  refine ret_in (results_2 Try.results56 (rv_tmp (fg1 F11)) (rv_tmp (fg0 F11))) F11.d ?_
  rw [rgX_e c9]
  exact ⟨rfl, S5.fin0⟩
 have hcd : (ckd (G.1.2.map ab) G.2.2 [a, a]) = 0 := by simpa using c9
 have ha := (ckd_0.1 hcd).2 a (by simp)
 refine wp_skip ?_
 refine tk H3 (wp_seq_k fun K12 H12 => region_in ?_)
 refine W_v V V (V_mov V (fg3 F8)) ?_
 refine W_v V V (V_nil V (et V)) ?_
 refine W_v V V (V_fa (off' := 0) V (et V) Try.underlying75 V (by decide +kernel) V) ?_
 refine W_v V V (V_fa (off' := 1) V (et V) Try.underlying36 V (by decide +kernel) V) ?_
 refine W_r V V (VR_ldC V (et V) (cell_box (v := G.2.1) (ob_at (S5.ro hb_gS)) V) Try.underlying25 V) ?_
 refine W_v V V (V_mov V (es5 V (fg2 F8))) ?_
 have k13 : a.toNat < G.2.2.length := by first | omega | (simp only [List.length_cons, List.length_nil]; omega) | (simp only [List.length_set]; omega) | decide
 obtain ⟨y13, hy13⟩ := get_some (xs := G.2.2) (k := a.toNat) k13
 obtain ⟨B13, O13, C13, hv13⟩ := (SlN.blk (sl_SlN Gr.at) (by first | omega | (simp only [List.length_cons, List.length_nil]; omega) | (simp only [List.length_set]; omega) | decide))
 refine W_v V V (V_ixS (off := O13 + a.toNat) 1 (a.toNat) V (es V (et V)) (et V) hv13 (by omega) k13 Try.underlying25 (by kernel_rfl) (congrArg _ (Nat.mul_one _))) ?_
 refine W_r V V (VR_ldC V (et V) ((sl_SlN (S5.ro Gr)).cell hv13 (map_get hy13)) Try.underlying3 V) ?_
 refine W_v V V (V_asg V (et V)) (W_v V V (V_asg V V) ?_)
 refine W_end (gen_Q fun A14 E14 => ?_)
 have Y14 := szq E14
 have F14 := fsE E14 (ck (ck (cq8 F8 V) V V) V V)
 clear E14 Y8 F8
 refine tk H12 (wp_ret ?_)
 refine ret_in (results_2 Try.results56 (rv_tmp (fg1 F14)) (rv_tmp (fg0 F14))) F14.d ?_
 rw [rgX_k hcd hy13]
 rw [hcd]
 exact ⟨rfl, S5.fin0⟩

set_option maxHeartbeats 4000000 in
theorem ksk_c {G : GV} {n : Int} {gS : Nat} {G2 : GV} {er : Int} {w : World} {Y : Nat → Prop} (hg_G : Ro w Y (gls [G])) (hg_G2 : Ro w Y (gls [G2])) (hS : St w Y [bx gS 75 #[G.1.1, G.2.1, .int .i64 n]] w)  :
  Calls Try.prog 48 #[.pointer (some ⟨gS, 0, none⟩), .agg #[G2.1.1, G2.2.1], .int .i64 er] w fun e w' => e = .returned (.agg #[.int .i64 er, .bool false, .int .u64 0]) ∧ St w Y [bx gS 75 #[(if er = 0 then G2 else G).1.1, (if er = 0 then G2 else G).2.1, .int .i64 n]] w' := by
 have Go := gl_o m1 hg_G
 have Gn := gl_n m1 hg_G
 have Gr := gl_r m1 hg_G
 have G2o := gl_o m1 hg_G2
 have G2n := gl_n m1 hg_G2
 have G2r := gl_r m1 hg_G2
 refine calls_in 15 Try.func48 V V (by simp) (fun A0 Y0 hdf0 hargs => ?_)
 have l0_0 := hargs 0 (.pointer (some ⟨gS, 0, none⟩)) V
 have l1_0 := hargs 1 (.agg #[G2.1.1, G2.2.1]) V
 have l2_0 := hargs 2 (.int .i64 er) V
 clear hargs; replace Y0 : SzN A0 15 := ⟨Y0⟩
 obtain ⟨mb_gS, hmb_gS, hS⟩ := gen1 hS
 replace hS : St w Y [mb_gS] w := hS
 have bGo := SlN.le (sl_SlN Go.at)
 have bGr := SlN.le (sl_SlN Gr.at)
 have bG2o := SlN.le (sl_SlN G2o.at)
 have bG2r := SlN.le (sl_SlN G2r.at)
 refine wp_seq_k fun K1 H1 => region_in ?_
 refine W_boxS (zs := #[G2.1.1, G2.2.1]) hS V V V l1_0 (by rfl) (fun g2 w2 c2 hc2 S2 => ?_)
 replace S2 : St w Y [c2, mb_gS] w2 := S2
 refine W_allocS (z := .agg #[.int .i64 0, .bool false, .int .u64 0]) (zs := #[.int .i64 0, .bool false, .int .u64 0]) S2 V V V (by kernel_rfl) (by rfl) (fun g3 w3 c3 hc3 S3 => ?_)
 replace S3 : St w Y [c3, c2, mb_gS] w3 := S3
 refine W_end (gen_Q fun A4 E4 => ?_)
 have Y4 := szq E4
 have F4 := ((fsE E4 (ck (ck (FS.n hdf0) V V) V V)).c (lookE E4 0 (es2 V l0_0))).c (lookE E4 2 (es2 V l2_0))
 clear E4 Y0 hdf0 l0_0 l1_0 l2_0
 refine tk H1 (wp_seq_k fun K5 H5 => ?_)
 refine wp_seq_k fun K6 H6 => region_in ?_
 refine W_v V V (V_mov V (fg0 F4)) ?_
 refine W_v V V (V_eql V (et V) V) ?_
 refine W_end (gen_Q fun A7 E7 => ?_)
 have Y7 := szq E7
 have F7 := fsE E7 (ck (cq1 F4 V) V V)
 clear E7 Y4 F4
 refine tk H6 ?_
 refine cond_dec (fg0 F7) (fun c8 => ?_) (fun c8 => ?_)
 ·refine region_in ?_
  refine W_v V V (V_mov V (fg2 F7)) ?_
  refine W_r V V (VR_ldA V (es V (fg4 F7)) (S3.obj 1 V hc2) Try.underlying36 V (by kernel_rfl)) ?_
  refine W_v V V (V_nil V (es V (et V))) ?_
  refine W_v V V (V_fa (off' := 0) V (et V) Try.underlying75 V (by decide +kernel) V) ?_
  refine W_stAM (ys := [G2.1.1, G2.2.1]) (zs' := #[G2.1.1, G2.2.1, .int .i64 (n)]) 2 S3 V hmb_gS V V V (et V) (es2 V (et V)) (by intro u hu; simp only [List.mem_cons, List.not_mem_nil, or_false] at hu; rcases hu with rfl | rfl <;> first | exact SlN_one (sl_SlN G2o.at) | exact SlN_one (sl_SlN G2r.at)) (by simp) (by kernel_rfl) V (fun w9 c9 hc9 S9 => ?_)
  replace S9 : St w Y [c3, c2, c9] w9 := S9
  refine W_end (gen_Q fun A10 E10 => ?_)
  have Y10 := szq E10
  have F10 := fsE E10 (cq4 F7 V)
  clear E10 Y7 F7
  have S11 : St w Y [c3, c9] w9 := S9.sel [0, 2] (by decide) V
  refine tk H5 (wp_seq_k fun K12 H12 => region_in ?_)
  refine W_v V V (V_mov V (fg1 F10)) ?_
  refine W_v V V (xbS (n := 3) (z := .agg #[.int .i64 0, .bool false, .int .u64 0]) V (parts1 (et V))) ?_
  refine xsA 0 S11 V hc3 V V V (es2 V (fg3 F10)) (et V) (fun w13 c13 hc13 S13 => ?_)
  replace S13 : St w Y [c13, c9] w13 := S13
  refine W_end (gen_Q fun A14 E14 => ?_)
  have Y14 := szq E14
  have F14 := fsE E14 (cq2 F10 V)
  clear E14 Y10 F10
  refine tk H12 (wp_ret ?_)
  refine ret_in (results_1 Try.results48 (rv_cellA (fg3 F14) (S13.obj 0 V hc13) Try.underlying44 V (by kernel_rfl))) F14.d ?_
  exact ⟨rfl, (S13.fin1 1 V (hc9.trans (by rw [if_pos c8])))⟩
 refine wp_skip ?_
 refine tk H5 (wp_seq_k fun K15 H15 => region_in ?_)
 refine W_v V V (V_mov V (fg1 F7)) ?_
 refine W_v V V (xbS (n := 3) (z := .agg #[.int .i64 0, .bool false, .int .u64 0]) V (parts1 (et V))) ?_
 refine xsA 0 S3 V hc3 V V V (es2 V (fg3 F7)) (et V) (fun w16 c16 hc16 S16 => ?_)
 replace S16 : St w Y [c16, c2, mb_gS] w16 := S16
 refine W_end (gen_Q fun A17 E17 => ?_)
 have Y17 := szq E17
 have F17 := fsE E17 (cq2 F7 V)
 clear E17 Y7 F7
 have S18 : St w Y [c16, mb_gS] w16 := S16.sel [0, 2] (by decide) V
 refine tk H15 (wp_ret ?_)
 refine ret_in (results_1 Try.results48 (rv_cellA (fg3 F17) (S18.obj 0 V hc16) Try.underlying44 V (by kernel_rfl))) F17.d ?_
 exact ⟨rfl, (S18.fin1 1 V (hmb_gS.trans (by rw [if_neg c8])))⟩

set_option maxHeartbeats 4000000 in
theorem ksa_c {G : GV} {n : Int} {gS : Nat} {kd : Int} {a : Int} {b : Int} {f : Int} {p : Int} {q : Int} {uu : Int} {w : World} {Y : Nat → Prop} (hg_G : Ro w Y (gls [G])) (hS : St w Y [bx gS 75 #[G.1.1, G.2.1, .int .i64 n]] w) (hsm : SM (G.1.2.map ab)) (hn : 0 ≤ n ∧ n ≤ 32) (hpq : (-1000000000 ≤ p ∧ p ≤ 1000000000) ∧ (-1000000000 ≤ q ∧ q ≤ 1000000000)) :
  Calls Try.prog 47 #[.pointer (some ⟨gS, 0, none⟩), .agg #[.int .i64 kd, .int .i64 a, .int .i64 b, .int .i64 f, .int .i64 p, .int .i64 q, .int .u64 uu]] w fun e w' => ∃ Gx Gn, e = .returned (.agg #[.int .i64 (alA n (gab G) a p q), .bool false, .int .u64 0]) ∧ (gab Gx = (fin (gab G) (alA n (gab G) a p q) (alO (G.1.2.map ab) G.2.2 a p q, alR (G.1.2.map ab) G.2.2 a p q)).1) ∧ (gmem Gx G Gn) ∧ St w Y [bx gS 75 #[Gx.1.1, Gx.2.1, .int .i64 n], gls Gn] w' := by
 have Go := gl_o m1 hg_G
 have Gn := gl_n m1 hg_G
 have Gr := gl_r m1 hg_G
 refine calls_in 55 Try.func47 V V (by simp) (fun A0 hsz0 hdf0 hargs => ?_)
 have l0_0 := hargs 0 (.pointer (some ⟨gS, 0, none⟩)) V
 have l1_0 := hargs 1 (.agg #[.int .i64 kd, .int .i64 a, .int .i64 b, .int .i64 f, .int .i64 p, .int .i64 q, .int .u64 uu]) V
 clear hargs; replace hsz0 : SzN A0 55 := ⟨hsz0⟩
 obtain ⟨mb_gS, hmb_gS, hS⟩ := gen1 hS
 replace hS : St w Y [mb_gS] w := hS
 have bGo := SlN.le (sl_SlN Go.at)
 have bGr := SlN.le (sl_SlN Gr.at)
 refine wp_seq_k fun K1 H1 => region_in ?_
 refine W_boxS (zs := #[.int .i64 (kd), .int .i64 (a), .int .i64 (b), .int .i64 (f), .int .i64 (p), .int .i64 (q), .int .u64 (uu)]) hS V V V l1_0 (by rfl) (fun g2 w2 c2 hc2 S2 => ?_)
 replace S2 : St w Y [c2, mb_gS] w2 := S2
 refine W_allocS (z := .agg #[.int .i64 0, .bool false, .int .u64 0]) (zs := #[.int .i64 0, .bool false, .int .u64 0]) S2 V V V (by kernel_rfl) (by rfl) (fun g3 w3 c3 hc3 S3 => ?_)
 replace S3 : St w Y [c3, c2, mb_gS] w3 := S3
 refine W_end (gen_Q fun A4 E4 => ?_)
 have hsz4 := szq E4
 have F4 := (fsE E4 (ck (ck (FS.n hdf0) V V) V V)).c (lookE E4 0 (es2 V l0_0))
 clear E4 hsz0 hdf0 l0_0 l1_0
 refine tk H1 (wp_seq_k fun K5 H5 => region_in ?_)
 refine W_v V V (V_mov V (fg0 F4)) ?_
 refine W_v V V (V_fa (off' := 1) V (es V (fg2 F4)) Try.underlying42 V (by decide +kernel) V) ?_
 refine W_r V V (xlC (v := .int .i64 (a)) V (et V) (S3.obj 1 V hc2) Try.underlying3) ?_
 refine W_call V V V Try.func56 (by kernel_rfl) V (args2 (es2 V (et V)) (et V)) (krg_c (gS := gS) (n := n) (G := G) (a := a) (gl_mk (S3.roC Go) (S3.roC Gn) (S3.roC Gr)) (S3.chC 2 V hmb_gS) ) ?_
 rintro _ w6 ⟨rfl, hP6⟩
 refine ⟨_, rfl, ?_⟩
 have S6 := S3.join hP6
 replace S6 : St w Y [c3, c2, mb_gS] w6 := S6
 refine W_v V V (V_mov V (et V)) ?_
 refine W_v V V (V_ext (v := .int .i64 ((rgX (G.1.2.map ab) G.2.2 a))) V (et V) V) ?_
 refine W_v V V (V_ext (v := .int .i64 ((ckd (G.1.2.map ab) G.2.2 [a, a]))) V (es V (et V)) V) ?_
 refine W_v V V (V_asg V (es V (et V))) (W_v V V (V_asg V (es V (et V))) ?_)
 refine W_end (gen_Q fun A7 E7 => ?_)
 have hsz7 := szq E7
 have F7 := fsE E7 (ck (cq8 F4 V) V V)
 clear E7 hsz4 F4
 refine tk H5 (wp_seq_k fun K8 H8 => ?_)
 refine wp_block ?_
 refine wp_seq_k fun K9 H9 => region_in ?_
 refine W_v V V (V_mov V (fg0 F7)) ?_
 refine W_v V V (V_neq V (et V) V) ?_
 refine W_v V V (V_asg V (et V)) ?_
 refine W_end (gen_Q fun A10 E10 => ?_)
 have hsz10 := szq E10
 have F10 := fsE E10 (ck (cq2 F7 V) V V)
 clear E10 hsz7 F7
 refine tk H9 ?_
 refine cond_dec (fg0 F10) (fun c11 => ?_) (fun c11 => ?_)
 ·refine wp_skip (inb_n ?_)
  refine tk H8 (wp_seq_k fun K12 H12 => region_in ?_)
  refine W_v V V (V_mov V (fg1 F10)) ?_
  refine W_v V V (xbS (n := 3) (z := .agg #[.int .i64 0, .bool false, .int .u64 0]) V (parts1 (et V))) ?_
  refine xsA 0 S6 V hc3 V V V (es2 V (fg3 F10)) (et V) (fun w13 c13 hc13 S13 => ?_)
  replace S13 : St w Y [c13, c2, mb_gS] w13 := S13
  refine W_end (gen_Q fun A14 E14 => ?_)
  have hsz14 := szq E14
  have F14 := fsE E14 (cq2 F10 V)
  clear E14 hsz10 F10
  have S15 : St w Y [c13, mb_gS] w13 := S13.sel [0, 2] (by decide) V
  refine tk H12 (wp_ret ?_)
  refine ret_in (results_1 Try.results47 (rv_cellA (fg3 F14) (S15.obj 0 V hc13) Try.underlying44 V (by kernel_rfl))) F14.d ?_
  obtain ⟨c16, hc16, S16⟩ := gen1 (gl_mt S15)
  replace S16 : St w Y [c16, c13, mb_gS] w13 := S16
  have hA : (alA n (gab G) a p q) = (ckd (G.1.2.map ab) G.2.2 [a, a]) := alA_e c11
  rw [hA]
  exact ⟨G, [], rfl, (fin_e c11).symm, gm_0, (S16.fin2 2 V (hmb_gS) 0 V (hc16) (by decide))⟩
 refine wp_seq_k fun K17 H17 => region_in ?_
 refine W_v V V (V_fa (off' := 4) V (fg4 F10) Try.underlying42 V (by decide +kernel) V) ?_
 refine W_r V V (xlC (v := .int .i64 (p)) V (et V) (S6.obj 1 V hc2) Try.underlying3) ?_
 refine W_v V V (V_lss V (et V) V) ?_
 refine W_split V V (V_mov V (et V)) (fun c18 => ?_) (fun c18 => ?_)
 ·refine xof V V V (et V) (xof V V V (es V (et V)) (xof V V V (es2 V (et V)) ?_))
  refine W_v V V (V_pickT V (es3 V (et V)) V) ?_
  refine W_v V V (V_asg V (et V)) ?_
  refine W_end (gen_Q fun A19 E19 => ?_)
  have hsz19 := szq E19
  have F19 := fsE E19 (ck (cq8 F10 V) V V)
  clear E19 hsz10 F10
  refine tk H17 ?_
  refine cond_t (fg0 F19) ?_
  refine region_in ?_
  refine W_v V V (V_asg V V) ?_
  refine W_end (gen_Q fun A20 E20 => ?_)
  have hsz20 := szq E20
  have F20 := fsE E20 (ck (fx2 F19) V V)
  clear E20 hsz19 F19
  have S21 : St w Y [c3, mb_gS] w6 := S6.sel [0, 2] (by decide) V
  refine inb_n ?_
  refine tk H8 (wp_seq_k fun K22 H22 => region_in ?_)
  refine W_v V V (V_mov V (fg0 F20)) ?_
  refine W_v V V (xbS (n := 3) (z := .agg #[.int .i64 0, .bool false, .int .u64 0]) V (parts1 (et V))) ?_
  refine xsA 0 S21 V hc3 V V V (es2 V (fg4 F20)) (et V) (fun w23 c23 hc23 S23 => ?_)
  replace S23 : St w Y [c23, mb_gS] w23 := S23
  refine W_end (gen_Q fun A24 E24 => ?_)
  have hsz24 := szq E24
  have F24 := fsE E24 (cq2 F20 V)
  clear E24 hsz20 F20
  refine tk H22 (wp_ret ?_)
  refine ret_in (results_1 Try.results47 (rv_cellA (fg4 F24) (S23.obj 0 V hc23) Try.underlying44 V (by kernel_rfl))) F24.d ?_
  obtain ⟨c25, hc25, S25⟩ := gen1 (gl_mt S23)
  replace S25 : St w Y [c25, c23, mb_gS] w23 := S25
  have hA : (alA n (gab G) a p q) = 10 := alA_b c11 (by omega)
  rw [hA]
  exact ⟨G, [], rfl, (fin_e (by decide)).symm, gm_0, (S25.fin2 2 V (hmb_gS) 0 V (hc25) (by decide))⟩
 refine W_v V (xwt V V (et V)) (V_fa (off' := 5) V (es4 V (fg4 F10)) Try.underlying42 V (by decide +kernel) V) ?_
 refine W_r V (xwt V V (es V (et V))) (xlC (v := .int .i64 (q)) V (et V) (S6.obj 1 V hc2) Try.underlying3) ?_
 refine W_v V (xwt V V (es2 V (et V))) (V_lss V (et V) V) ?_
 refine W_v V V (V_pickF V (es3 V (et V)) (et V)) ?_
 refine W_v V V (V_asg V (et V)) ?_
 refine W_end (gen_Q fun A26 E26 => ?_)
 have hsz26 := szq E26
 have F26 := fsE E26 (ck (cq8 F10 V) V V)
 clear E26 hsz10 F10
 refine tk H17 ?_
 refine cond_dec (fg0 F26) (fun c27 => ?_) (fun c27 => ?_)
 ·refine region_in ?_
  refine W_v V V (V_asg V V) ?_
  refine W_end (gen_Q fun A28 E28 => ?_)
  have hsz28 := szq E28
  have F28 := fsE E28 (ck (fx2 F26) V V)
  clear E28 hsz26 F26
  have S29 : St w Y [c3, mb_gS] w6 := S6.sel [0, 2] (by decide) V
  refine inb_n ?_
  refine tk H8 (wp_seq_k fun K30 H30 => region_in ?_)
  refine W_v V V (V_mov V (fg0 F28)) ?_
  refine W_v V V (xbS (n := 3) (z := .agg #[.int .i64 0, .bool false, .int .u64 0]) V (parts1 (et V))) ?_
  refine xsA 0 S29 V hc3 V V V (es2 V (fg4 F28)) (et V) (fun w31 c31 hc31 S31 => ?_)
  replace S31 : St w Y [c31, mb_gS] w31 := S31
  refine W_end (gen_Q fun A32 E32 => ?_)
  have hsz32 := szq E32
  have F32 := fsE E32 (cq2 F28 V)
  clear E32 hsz28 F28
  refine tk H30 (wp_ret ?_)
  refine ret_in (results_1 Try.results47 (rv_cellA (fg4 F32) (S31.obj 0 V hc31) Try.underlying44 V (by kernel_rfl))) F32.d ?_
  obtain ⟨c33, hc33, S33⟩ := gen1 (gl_mt S31)
  replace S33 : St w Y [c33, c31, mb_gS] w31 := S33
  have hA : (alA n (gab G) a p q) = 10 := alA_b c11 (by omega)
  rw [hA]
  exact ⟨G, [], rfl, (fin_e (by decide)).symm, gm_0, (S33.fin2 2 V (hmb_gS) 0 V (hc33) (by decide))⟩
 refine wp_seq_k fun K34 H34 => ?_
 refine region_monoS 12 12 [] (by kernel_rfl) (by kernel_rfl) ?_
 refine D_v V V (V_fa (off' := 4) V (fg5 F26) Try.underlying42 V (by decide +kernel) V) V V ?_
 refine D_r V V (by kernel_rfl) (fun sx hx hF => (VR_ldC V (et V) (cell_box (v := .int .i64 (p)) ((S6.grow hx).obj 1 V hc2) V) Try.underlying3 V)) V V ?_
 refine D_v V V (V_add V V (et V) (by omega) (by omega)) V V ?_
 refine D_v V V (V_fa (off' := 5) V (es3 V (fg5 F26)) Try.underlying42 V (by decide +kernel) V) V V ?_
 refine D_r V V (by kernel_rfl) (fun sx hx hF => (VR_ldC V (et V) (cell_box (v := .int .i64 (q)) ((S6.grow hx).obj 1 V hc2) V) Try.underlying3 V)) V V ?_
 refine D_v V V (V_add V (es2 V (et V)) (et V) (by omega) (by omega)) V V ?_
 refine D_v V V (V_mov V (es6 V (fg3 F26))) V V ?_
 refine D_v V V (V_nil V (et V)) V V ?_
 refine D_v V V (V_fa (off' := 2) V (et V) Try.underlying75 V (by decide +kernel) V) V V ?_
 refine D_r V V (by kernel_rfl) (fun sx hx hF => (VR_ldC V (et V) (cell_box (v := .int .i64 (n)) ((S6.grow hx).obj 2 V hmb_gS) V) Try.underlying3 V)) V V ?_
 refine D_v V V (V_gtr V (es4 V (et V)) (et V)) V V ?_
 refine D_v V V (V_asg V (et V)) V V ?_
 refine ZS_none S6 (Nat.le_refl _) (Nat.le_refl _) (fun s35 hJ35 hL35 hF35 => ?_)
 have S35 := hJ35.st; clear hF35 hJ35 hL35
 generalize s35.1 = w35 at *
 replace S35 : St w Y [c3, c2, mb_gS] w35 := S35
 refine gen_Q (fun A36 E36 => ?_)
 have hsz36 := szq E36
 have F36 := fsE E36 (ck (cq3 (cq8 F26 V) V) V V)
 clear E36 hsz26 F26
 refine tk H34 ?_
 refine cond_dec (fg0 F36) (fun c37 => ?_) (fun c37 => ?_)
 ·refine region_in ?_
  refine W_v V V (V_asg V V) ?_
  refine W_end (gen_Q fun A38 E38 => ?_)
  have hsz38 := szq E38
  have F38 := fsE E38 (ck (fx3 F36) V V)
  clear E38 hsz36 F36
  have S39 : St w Y [c3, mb_gS] w35 := S35.sel [0, 2] (by decide) V
  refine inb_n ?_
  refine tk H8 (wp_seq_k fun K40 H40 => region_in ?_)
  refine W_v V V (V_mov V (fg0 F38)) ?_
  refine W_v V V (xbS (n := 3) (z := .agg #[.int .i64 0, .bool false, .int .u64 0]) V (parts1 (et V))) ?_
  refine xsA 0 S39 V hc3 V V V (es2 V (fg5 F38)) (et V) (fun w41 c41 hc41 S41 => ?_)
  replace S41 : St w Y [c41, mb_gS] w41 := S41
  refine W_end (gen_Q fun A42 E42 => ?_)
  have hsz42 := szq E42
  have F42 := fsE E42 (cq2 F38 V)
  clear E42 hsz38 F38
  refine tk H40 (wp_ret ?_)
  refine ret_in (results_1 Try.results47 (rv_cellA (fg5 F42) (S41.obj 0 V hc41) Try.underlying44 V (by kernel_rfl))) F42.d ?_
  obtain ⟨c43, hc43, S43⟩ := gen1 (gl_mt S41)
  replace S43 : St w Y [c43, c41, mb_gS] w41 := S43
  have hA : (alA n (gab G) a p q) = 11 := alA_t c11 (by omega) (by omega)
  rw [hA]
  exact ⟨G, [], rfl, (fin_e (by decide)).symm, gm_0, (S43.fin2 2 V (hmb_gS) 0 V (hc43) (by decide))⟩
 refine wp_seq_k fun K44 H44 => ?_
 refine region_monoS 14 15 [none, none, none, none, none, none, none, none, none, none, none, some (SPv [] (fun _ => fun u l' => ∃ hv_s H_s qv_s q_s, u = .tuple #[.agg #[hv_s, qv_s], .int .i64 (alE (G.1.2.map ab) G.2.2 a p q)] ∧ (gab ((hv_s, H_s), (qv_s, q_s)) = ((alO (G.1.2.map ab) G.2.2 a p q), (alR (G.1.2.map ab) G.2.2 a p q))) ∧ ∃ cK_s, cK_s = gls [((hv_s, H_s), (qv_s, q_s))] ∧ l' = [cK_s]) 11)] (by kernel_rfl) (by kernel_rfl) ?_
 refine D_v V V (V_mov V (fg4 F36)) V V ?_
 refine D_v V V (V_mov V (es V (fg4 F36))) V V ?_
 refine D_v V V (V_nil V (et V)) V V ?_
 refine D_v V V (V_fa (off' := 0) V (et V) Try.underlying75 V (by decide +kernel) V) V V ?_
 refine D_r V V (by kernel_rfl) (fun sx hx hF => (VR_ldP (ys := [G.1.1, G.2.1]) V (et V) ((S35.grow hx).obj 2 V hmb_gS) (ldP_at V) Try.underlying36 V (by kernel_rfl))) V V ?_
 refine D_v V V (V_fa (off' := 1) V (es5 V (fg6 F36)) Try.underlying42 V (by decide +kernel) V) V V ?_
 refine D_r V V (by kernel_rfl) (fun sx hx hF => (VR_ldC V (et V) (cell_box (v := .int .i64 (a)) ((S35.grow hx).obj 1 V hc2) V) Try.underlying3 V)) V V ?_
 refine D_v V V (V_fa (off' := 4) V (es7 V (fg6 F36)) Try.underlying42 V (by decide +kernel) V) V V ?_
 refine D_r V V (by kernel_rfl) (fun sx hx hF => (VR_ldC V (et V) (cell_box (v := .int .i64 (p)) ((S35.grow hx).obj 1 V hc2) V) Try.underlying3 V)) V V ?_
 refine D_v V V (V_fa (off' := 5) V (es8 V (es V (fg6 F36))) Try.underlying42 V (by decide +kernel) V) V V ?_
 refine D_r V V (by kernel_rfl) (fun sx hx hF => (VR_ldC V (et V) (cell_box (v := .int .i64 (q)) ((S35.grow hx).obj 1 V hc2) V) Try.underlying3 V)) V V ?_
 refine D_call (ts := []) (vs := []) (C0 := fun _ => fun u l' => ∃ hv_s H_s qv_s q_s, u = .tuple #[.agg #[hv_s, qv_s], .int .i64 (alE (G.1.2.map ab) G.2.2 a p q)] ∧ (gab ((hv_s, H_s), (qv_s, q_s)) = ((alO (G.1.2.map ab) G.2.2 a p q), (alR (G.1.2.map ab) G.2.2 a p q))) ∧ ∃ cK_s, cK_s = gls [((hv_s, H_s), (qv_s, q_s))] ∧ l' = [cK_s]) (C := fun u l' => ∃ hv_s H_s qv_s q_s, u = .tuple #[.agg #[hv_s, qv_s], .int .i64 (alE (G.1.2.map ab) G.2.2 a p q)] ∧ (gab ((hv_s, H_s), (qv_s, q_s)) = ((alO (G.1.2.map ab) G.2.2 a p q), (alR (G.1.2.map ab) G.2.2 a p q))) ∧ ∃ cK_s, cK_s = gls [((hv_s, H_s), (qv_s, q_s))] ∧ l' = [cK_s]) V V V Try.func67 (by kernel_rfl) V (args4 (es6 V (et V)) (es4 V (et V)) (es2 V (et V)) (et V)) V V V V (fun sx hx hF => ?_) (fun u45 l45 hu45 => ?_)
 ·refine ((glC (F := fun a_ b_ => .tuple #[.agg #[a_, b_], .int .i64 (alE (G.1.2.map ab) G.2.2 a p q)]) (kAlloc_c (a := a) (p := p) (r := q) ((S35.grow hx).roC Go) ((S35.grow hx).roC Gn) ((S35.grow hx).roC Gr) (by first | with_reducible assumption)))).mono ?_
  rintro _ _ ⟨hv_45, H_45, qv_45, q_45, rfl, hg_45, hz⟩
  exact ⟨_, rfl, _, ⟨_, _, _, _, rfl, hg_45, _, rfl, rfl⟩, hz⟩
 obtain ⟨hv_45, H_45, qv_45, q_45, rfl, hg_45, cK_45, hcK_45, hl45⟩ := hu45
 refine D_v V V (V_ext (v := .agg #[hv_45, qv_45]) V (et V) V) V V ?_
 refine D_v V V (V_ext (v := .int .i64 ((alE (G.1.2.map ab) G.2.2 a p q))) V (es V (et V)) V) V V ?_
 refine D_eff V ?_
 refine ZS_eff S35 V V (fun s46 hJ46 hL46 hF46 => ?_)
 obtain ⟨ll45, ws45, we45, ⟨hv_45q, H_45q, qv_45q, q_45q, hq45, hg_45r, cK_45r, hcK_45r, hl45r⟩, hm45, k45, e45⟩ := L.all_get hF46; cases hq45; subst hl45r
 replace hJ46 := hJ46.add hL46 (i := 11) V hm45 k45 e45
 have S46 := hJ46.st; clear hF46 hJ46 hL46
 generalize s46.1 = w46 at *
 replace S46 : St w Y [cK_45r, c3, c2, mb_gS] w46 := S46
 have S47 := S46.sel [3, 0, 1, 2] (by decide) (l' := [mb_gS, cK_45r, c3, c2]) V
 replace S47 : St w Y [mb_gS, cK_45r, c3, c2] w46 := S47
 obtain ⟨Y48, hP48, hR48, hF48, hB48⟩ := St.call (pre := [mb_gS]) (fr := [cK_45r, c3, c2]) S47
 rw [hmb_gS] at hP48
 refine W_call V V V Try.func48 (by kernel_rfl) V (args3 (es8 V (es5 V (et V))) (es V (et V)) (et V)) (ksk_c (G := G) (G2 := ((hv_45, H_45q), (qv_45, q_45q))) (er := (alE (G.1.2.map ab) G.2.2 a p q)) (gl_mk (hR48 _ Go) (hR48 _ Gn) (hR48 _ Gr)) (gl_mk (gl_oaR m1 (hcK_45r ▸ hF48 0 _ V)) (gl_naR m1 (hcK_45r ▸ hF48 0 _ V)) (gl_raR m1 (hcK_45r ▸ hF48 0 _ V))) hP48 ) ?_
 rintro _ w49 ⟨rfl, hP49⟩
 refine ⟨_, rfl, ?_⟩
 obtain ⟨cB_49, hcB_49, hP49⟩ := gen1 hP49
 have S49 := hB48 _ _ hP49
 replace S49 : St w Y [cB_49, cK_45r, c3, c2] w49 := S49
 refine xsA 2 S49 V hc3 V V V (es8 V (es7 V (fg5 F36))) (et V) (fun w50 c50 hc50 S50 => ?_)
 replace S50 : St w Y [cB_49, cK_45r, c50, c2] w50 := S50
 refine W_end (Qo_normal ?_)
 refine gen_Q (fun A51 E51 => ?_)
 have hsz51 := szq E51
 have F51 := fsE E51 (cq7 (cq8 F36 V) V)
 clear E51 hsz36 F36
 have S52 : St w Y [cB_49, cK_45r, c50] w50 := S50.sel [0, 1, 2] (by decide) V
 refine tk H44 (wp_ret (inb_ret (then_ret ?_)))
 refine ret_in (results_1 Try.results47 (rv_cellA (fg5 F51) (S52.obj 2 V hc50) Try.underlying44 V (by kernel_rfl))) F51.d ?_
 have hA : (alA n (gab G) a p q) = (alE (G.1.2.map ab) G.2.2 a p q) := alA_k c11 (by omega) (by omega)
 rw [hA]
 exact ⟨(if (alE (G.1.2.map ab) G.2.2 a p q) = 0 then ((hv_45, H_45q), (qv_45, q_45q)) else G), [((hv_45, H_45q), (qv_45, q_45q))], rfl, fin_g hg_45r, gm_1, (S52.fin2 0 V (hcB_49) 1 V (hcK_45r) (by decide))⟩

set_option maxHeartbeats 4000000 in
theorem kdo_c {G : GV} {n : Int} {gS : Nat} {kd : Int} {a : Int} {b : Int} {f : Int} {p : Int} {q : Int} {uu : Int} {w : World} {Y : Nat → Prop} (hg_G : Ro w Y (gls [G])) (hS : St w Y [bx gS 75 #[G.1.1, G.2.1, .int .i64 n]] w) (hsm : SM (G.1.2.map ab)) (hn : 0 ≤ n ∧ n ≤ 32) (hop : (opE (⟨kd, a, b, f, p, q, uu⟩ : OpC)) = 0) :
  Calls Try.prog 30 #[.pointer (some ⟨gS, 0, none⟩), .agg #[.int .i64 kd, .int .i64 a, .int .i64 b, .int .i64 f, .int .i64 p, .int .i64 q, .int .u64 uu]] w fun e w' => ∃ Gx Gn, e = .returned (.agg #[.int .i64 (doG n (gab G) (⟨kd, a, b, f, p, q, uu⟩ : OpC)).2.e, .bool (doG n (gab G) (⟨kd, a, b, f, p, q, uu⟩ : OpC)).2.t, .int .u64 (doG n (gab G) (⟨kd, a, b, f, p, q, uu⟩ : OpC)).2.v]) ∧ (gab Gx = (doG n (gab G) (⟨kd, a, b, f, p, q, uu⟩ : OpC)).1) ∧ (gmem Gx G Gn) ∧ St w Y [bx gS 75 #[Gx.1.1, Gx.2.1, .int .i64 n], gls Gn] w' := by
 have Go := gl_o m1 hg_G
 have Gn := gl_n m1 hg_G
 have Gr := gl_r m1 hg_G
 refine calls_in 172 Try.func30 V V (by simp) (fun A0 hsz0 hdf0 hargs => ?_)
 have l0_0 := hargs 0 (.pointer (some ⟨gS, 0, none⟩)) V
 have l1_0 := hargs 1 (.agg #[.int .i64 kd, .int .i64 a, .int .i64 b, .int .i64 f, .int .i64 p, .int .i64 q, .int .u64 uu]) V
 clear hargs; replace hsz0 : SzN A0 172 := ⟨hsz0⟩
 obtain ⟨mb_gS, hmb_gS, hS⟩ := gen1 hS
 replace hS : St w Y [mb_gS] w := hS
 have bGo := SlN.le (sl_SlN Go.at)
 have bGr := SlN.le (sl_SlN Gr.at)
 refine wp_seq_k fun K1 H1 => region_in ?_
 refine W_boxS (zs := #[.int .i64 (kd), .int .i64 (a), .int .i64 (b), .int .i64 (f), .int .i64 (p), .int .i64 (q), .int .u64 (uu)]) hS V V V l1_0 (by rfl) (fun g2 w2 c2 hc2 S2 => ?_)
 replace S2 : St w Y [c2, mb_gS] w2 := S2
 refine W_allocS (z := .agg #[.int .i64 0, .bool false, .int .u64 0]) (zs := #[.int .i64 0, .bool false, .int .u64 0]) S2 V V V (by kernel_rfl) (by rfl) (fun g3 w3 c3 hc3 S3 => ?_)
 replace S3 : St w Y [c3, c2, mb_gS] w3 := S3
 refine W_end (gen_Q fun A4 E4 => ?_)
 have hsz4 := szq E4
 have F4 := (fsE E4 (ck (ck (FS.n hdf0) V V) V V)).c (lookE E4 0 (es2 V l0_0))
 clear E4 hsz0 hdf0 l0_0 l1_0
 refine tk H1 (wp_seq_k fun K5 H5 => region_in ?_)
 refine W_v V V (V_fa (off' := 1) V (fg2 F4) Try.underlying42 V (by decide +kernel) V) ?_
 refine W_r V V (xlC (v := .int .i64 (a)) V (et V) (S3.obj 1 V hc2) Try.underlying3) ?_
 refine W_v V V (V_asg V (et V)) ?_
 refine W_end (gen_Q fun A6 E6 => ?_)
 have hsz6 := szq E6
 have F6 := fsE E6 (ck (cq2 F4 V) V V)
 clear E6 hsz4 F4
 refine tk H5 (wp_seq_k fun K7 H7 => ?_)
 refine wp_seq_k fun K8 H8 => region_in ?_
 refine W_v V V (V_fa (off' := 0) V (fg3 F6) Try.underlying42 V (by decide +kernel) V) ?_
 refine W_r V V (xlC (v := .int .i64 (kd)) V (et V) (S3.obj 1 V hc2) Try.underlying3) ?_
 refine W_end (gen_Q fun A9 E9 => ?_)
 have hsz9 := szq E9
 have F9 := fsE E9 (ck (cq1 F6 V) V V)
 clear E9 hsz6 F6
 refine tk H8 (wp_block ?_)
 refine wp_seq_k fun K10 H10 => ?_
 refine wp_block ?_
 refine wp_seq_k fun K11 H11 => ?_
 refine wp_block ?_
 refine wp_seq_k fun K12 H12 => ?_
 refine wp_block ?_
 refine wp_seq_k fun K13 H13 => ?_
 refine wp_block ?_
 refine wp_seq_k fun K14 H14 => ?_
 refine wp_block ?_
 refine wp_seq_k fun K15 H15 => ?_
 refine wp_block ?_
 refine wp_seq_k fun K16 H16 => ?_
 refine wp_block ?_
 refine wp_seq_k fun K17 H17 => ?_
 refine wp_block ?_
 refine wp_seq_k fun K18 H18 => ?_
 refine wp_block ?_
 refine wp_seq_k fun K19 H19 => ?_
 refine wp_block ?_
 refine wp_seq_k fun K20 H20 => ?_
 refine wp_seq_k fun K21 H21 => ?_
 refine wp_seq_k fun K22 H22 => region_in ?_
 refine W_v V V (V_eql V (fg0 F9) V) ?_
 refine W_v V V (V_asg V (et V)) ?_
 refine W_end (gen_Q fun A23 E23 => ?_)
 have hsz23 := szq E23
 have F23 := fsE E23 (ck (cq1 F9 V) V V)
 clear E23 hsz9 F9
 refine tk H22 ?_
 refine cond_dec (fg0 F23) (fun c24 => ?_) (fun c24 => ?_)
 ·have hpq := op_al hop c24
  refine wp_exit (then_exit (then_exit ?_))
  refine inb_hit ?_
  refine tk H19 (wp_seq_k fun K25 H25 => ?_)
  refine wp_seq_k fun K26 H26 => region_in ?_
  refine W_v V V (V_mov V (fg3 F23)) ?_
  refine W_r V V (VR_ldA V (es V (fg5 F23)) (S3.obj 1 V hc2) Try.underlying42 V (by kernel_rfl)) ?_
  have S27 := S3.sel [2, 0, 1] (by decide) (l' := [mb_gS, c3, c2]) V
  replace S27 : St w Y [mb_gS, c3, c2] w3 := S27
  obtain ⟨Y28, hP28, hR28, hF28, hB28⟩ := St.call (pre := [mb_gS]) (fr := [c3, c2]) S27
  rw [hmb_gS] at hP28
  refine W_call V V V Try.func47 (by kernel_rfl) V (args2 (es V (et V)) (et V)) (ksa_c (G := G) (kd := kd) (a := a) (b := b) (f := f) (p := p) (q := q) (uu := uu) (gl_mk (hR28 _ Go) (hR28 _ Gn) (hR28 _ Gr)) hP28 (by first | with_reducible assumption | exact hsm) (by first | with_reducible assumption | omega) (by first | with_reducible assumption | omega)) ?_
  rintro _ w29 ⟨Gx_29, Gn_29, rfl, hg_29, hm_29, hP29⟩
  refine ⟨_, rfl, ?_⟩
  obtain ⟨cB_29, cK_29, hcB_29, hcK_29, hP29⟩ := gen2 hP29
  have S29 := hB28 _ _ hP29
  replace S29 : St w Y [cB_29, cK_29, c3, c2] w29 := S29
  refine xsA 2 S29 V hc3 V V V (es3 V (fg4 F23)) (et V) (fun w30 c30 hc30 S30 => ?_)
  replace S30 : St w Y [cB_29, cK_29, c30, c2] w30 := S30
  refine W_end (gen_Q fun A31 E31 => ?_)
  have hsz31 := szq E31
  have F31 := fsE E31 (cq3 F23 V)
  clear E31 hsz23 F23
  have S32 : St w Y [cB_29, cK_29, c30] w30 := S30.sel [0, 1, 2] (by decide) V
  refine tk H26 (wp_ret (then_ret (inb_ret (then_ret (inb_ret (then_ret (inb_ret ?_)))))))
  refine then_ret (inb_ret (then_ret (inb_ret (then_ret (inb_ret (then_ret (inb_ret ?_)))))))
  refine then_ret (inb_ret (then_ret (inb_ret (then_ret (inb_ret (then_ret ?_))))))
  refine ret_in (results_1 Try.results30 (rv_cellA (fg4 F31) (S32.obj 2 V hc30) Try.underlying44 V (by kernel_rfl))) F31.d ?_
  have hD := do_1 (mx := n) (g := gab G) (c := (⟨kd, a, b, f, p, q, uu⟩ : OpC)) (by simp only; omega)
  rw [hD]
  exact ⟨Gx_29, Gn_29, rfl, hg_29, hm_29, (S32.fin2 0 V (hcB_29) 1 V (hcK_29) (by decide))⟩
 refine wp_skip ?_
 refine tk H21 (wp_seq_k fun K33 H33 => ?_)
 refine wp_seq_k fun K34 H34 => region_in ?_
 refine W_v V V (V_eql V (fg1 F23) V) ?_
 refine W_v V V (V_asg V (et V)) ?_
 refine W_end (gen_Q fun A35 E35 => ?_)
 have hsz35 := szq E35
 have F35 := fsE E35 (ck (cq1 F23 V) V V)
 clear E35 hsz23 F23
 refine tk H34 ?_
 refine cond_dec (fg0 F35) (fun c36 => ?_) (fun c36 => ?_)
 ·refine wp_exit (then_exit (then_exit (inb_miss V (then_exit ?_))))
  refine inb_hit ?_
  refine tk H18 (wp_seq_k fun K37 H37 => ?_)
  refine wp_seq_k fun K38 H38 => ?_
  refine region_monoS 14 15 [none, none, none, none, none, none, none, none, none, none, none, some (SPv [] (fun _ => fun u l' => ∃ hv_s H_s qv_s q_s, u = .tuple #[.agg #[hv_s, qv_s], .int .i64 (ptE (G.1.2.map ab) G.2.2 [a, b] b f)] ∧ (gab ((hv_s, H_s), (qv_s, q_s)) = ((ldO (G.1.2.map ab) G.2.2 a b f), (ldR (G.1.2.map ab) G.2.2 a b f))) ∧ ∃ cK_s, cK_s = gls [((hv_s, H_s), (qv_s, q_s))] ∧ l' = [cK_s]) 11)] (by kernel_rfl) (by kernel_rfl) ?_
  refine D_v V V (V_mov V (fg4 F35)) V V ?_
  refine D_v V V (V_mov V (es V (fg4 F35))) V V ?_
  refine D_v V V (V_nil V (et V)) V V ?_
  refine D_v V V (V_fa (off' := 0) V (et V) Try.underlying75 V (by decide +kernel) V) V V ?_
  refine D_r V V (by kernel_rfl) (fun sx hx hF => (VR_ldP (ys := [G.1.1, G.2.1]) V (et V) ((S3.grow hx).obj 2 V hmb_gS) (ldP_at V) Try.underlying36 V (by kernel_rfl))) V V ?_
  refine D_v V V (V_fa (off' := 1) V (es5 V (fg6 F35)) Try.underlying42 V (by decide +kernel) V) V V ?_
  refine D_r V V (by kernel_rfl) (fun sx hx hF => (VR_ldC V (et V) (cell_box (v := .int .i64 (a)) ((S3.grow hx).obj 1 V hc2) V) Try.underlying3 V)) V V ?_
  refine D_v V V (V_fa (off' := 2) V (es7 V (fg6 F35)) Try.underlying42 V (by decide +kernel) V) V V ?_
  refine D_r V V (by kernel_rfl) (fun sx hx hF => (VR_ldC V (et V) (cell_box (v := .int .i64 (b)) ((S3.grow hx).obj 1 V hc2) V) Try.underlying3 V)) V V ?_
  refine D_v V V (V_fa (off' := 3) V (es8 V (es V (fg6 F35))) Try.underlying42 V (by decide +kernel) V) V V ?_
  refine D_r V V (by kernel_rfl) (fun sx hx hF => (VR_ldC V (et V) (cell_box (v := .int .i64 (f)) ((S3.grow hx).obj 1 V hc2) V) Try.underlying3 V)) V V ?_
  refine D_call (ts := []) (vs := []) (C0 := fun _ => fun u l' => ∃ hv_s H_s qv_s q_s, u = .tuple #[.agg #[hv_s, qv_s], .int .i64 (ptE (G.1.2.map ab) G.2.2 [a, b] b f)] ∧ (gab ((hv_s, H_s), (qv_s, q_s)) = ((ldO (G.1.2.map ab) G.2.2 a b f), (ldR (G.1.2.map ab) G.2.2 a b f))) ∧ ∃ cK_s, cK_s = gls [((hv_s, H_s), (qv_s, q_s))] ∧ l' = [cK_s]) (C := fun u l' => ∃ hv_s H_s qv_s q_s, u = .tuple #[.agg #[hv_s, qv_s], .int .i64 (ptE (G.1.2.map ab) G.2.2 [a, b] b f)] ∧ (gab ((hv_s, H_s), (qv_s, q_s)) = ((ldO (G.1.2.map ab) G.2.2 a b f), (ldR (G.1.2.map ab) G.2.2 a b f))) ∧ ∃ cK_s, cK_s = gls [((hv_s, H_s), (qv_s, q_s))] ∧ l' = [cK_s]) V V V Try.func49 (by kernel_rfl) V (args4 (es6 V (et V)) (es4 V (et V)) (es2 V (et V)) (et V)) V V V V (fun sx hx hF => ?_) (fun u39 l39 hu39 => ?_)
  ·refine ((glC (F := fun a_ b_ => .tuple #[.agg #[a_, b_], .int .i64 (ptE (G.1.2.map ab) G.2.2 [a, b] b f)]) (kLoad_c (a := a) (b := b) (f := f) ((S3.grow hx).roC Go) ((S3.grow hx).roC Gn) ((S3.grow hx).roC Gr) (by first | with_reducible assumption)))).mono ?_
   rintro _ _ ⟨hv_39, H_39, qv_39, q_39, rfl, hg_39, hz⟩
   exact ⟨_, rfl, _, ⟨_, _, _, _, rfl, hg_39, _, rfl, rfl⟩, hz⟩
  obtain ⟨hv_39, H_39, qv_39, q_39, rfl, hg_39, cK_39, hcK_39, hl39⟩ := hu39
  refine D_v V V (V_ext (v := .agg #[hv_39, qv_39]) V (et V) V) V V ?_
  refine D_v V V (V_ext (v := .int .i64 ((ptE (G.1.2.map ab) G.2.2 [a, b] b f))) V (es V (et V)) V) V V ?_
  refine D_eff V ?_
  refine ZS_eff S3 V V (fun s40 hJ40 hL40 hF40 => ?_)
  obtain ⟨ll39, ws39, we39, ⟨hv_39q, H_39q, qv_39q, q_39q, hq39, hg_39r, cK_39r, hcK_39r, hl39r⟩, hm39, k39, e39⟩ := L.all_get hF40; cases hq39; subst hl39r
  replace hJ40 := hJ40.add hL40 (i := 11) V hm39 k39 e39
  have S40 := hJ40.st; clear hF40 hJ40 hL40
  generalize s40.1 = w40 at *
  replace S40 : St w Y [cK_39r, c3, c2, mb_gS] w40 := S40
  have S41 := S40.sel [3, 0, 1, 2] (by decide) (l' := [mb_gS, cK_39r, c3, c2]) V
  replace S41 : St w Y [mb_gS, cK_39r, c3, c2] w40 := S41
  obtain ⟨Y42, hP42, hR42, hF42, hB42⟩ := St.call (pre := [mb_gS]) (fr := [cK_39r, c3, c2]) S41
  rw [hmb_gS] at hP42
  refine W_call V V V Try.func48 (by kernel_rfl) V (args3 (es8 V (es5 V (et V))) (es V (et V)) (et V)) (ksk_c (G := G) (G2 := ((hv_39, H_39q), (qv_39, q_39q))) (er := (ptE (G.1.2.map ab) G.2.2 [a, b] b f)) (gl_mk (hR42 _ Go) (hR42 _ Gn) (hR42 _ Gr)) (gl_mk (gl_oaR m1 (hcK_39r ▸ hF42 0 _ V)) (gl_naR m1 (hcK_39r ▸ hF42 0 _ V)) (gl_raR m1 (hcK_39r ▸ hF42 0 _ V))) hP42 ) ?_
  rintro _ w43 ⟨rfl, hP43⟩
  refine ⟨_, rfl, ?_⟩
  obtain ⟨cB_43, hcB_43, hP43⟩ := gen1 hP43
  have S43 := hB42 _ _ hP43
  replace S43 : St w Y [cB_43, cK_39r, c3, c2] w43 := S43
  refine xsA 2 S43 V hc3 V V V (es8 V (es7 V (fg5 F35))) (et V) (fun w44 c44 hc44 S44 => ?_)
  replace S44 : St w Y [cB_43, cK_39r, c44, c2] w44 := S44
  refine W_end (Qo_normal ?_)
  refine gen_Q (fun A45 E45 => ?_)
  have hsz45 := szq E45
  have F45 := fsE E45 (cq7 (cq8 F35 V) V)
  clear E45 hsz35 F35
  have S46 : St w Y [cB_43, cK_39r, c44] w44 := S44.sel [0, 1, 2] (by decide) V
  refine tk H38 (wp_ret (then_ret (inb_ret (then_ret (inb_ret (then_ret (inb_ret ?_)))))))
  refine then_ret (inb_ret (then_ret (inb_ret (then_ret (inb_ret (then_ret (inb_ret ?_)))))))
  refine then_ret (inb_ret (then_ret (inb_ret (then_ret ?_))))
  refine ret_in (results_1 Try.results30 (rv_cellA (fg5 F45) (S46.obj 2 V hc44) Try.underlying44 V (by kernel_rfl))) F45.d ?_
  have hD := do_2 (mx := n) (g := gab G) (c := (⟨kd, a, b, f, p, q, uu⟩ : OpC)) (by simp only; omega)
  rw [hD]
  exact ⟨(if (ptE (G.1.2.map ab) G.2.2 [a, b] b f) = 0 then ((hv_39, H_39q), (qv_39, q_39q)) else G), [((hv_39, H_39q), (qv_39, q_39q))], rfl, fin_g hg_39r, gm_1, (S46.fin2 0 V (hcB_43) 1 V (hcK_39r) (by decide))⟩
 refine wp_skip ?_
 refine tk H33 (wp_seq_k fun K47 H47 => ?_)
 refine wp_seq_k fun K48 H48 => region_in ?_
 refine W_v V V (V_eql V (fg2 F35) V) ?_
 refine W_v V V (V_asg V (et V)) ?_
 refine W_end (gen_Q fun A49 E49 => ?_)
 have hsz49 := szq E49
 have F49 := fsE E49 (ck (cq1 F35 V) V V)
 clear E49 hsz35 F35
 refine tk H48 ?_
 refine cond_dec (fg0 F49) (fun c50 => ?_) (fun c50 => ?_)
 ·refine wp_exit (then_exit (then_exit (inb_miss V (then_exit (inb_miss V (then_exit ?_))))))
  refine inb_hit ?_
  refine tk H17 (wp_seq_k fun K51 H51 => ?_)
  refine wp_seq_k fun K52 H52 => ?_
  refine region_monoS 14 15 [none, none, none, none, none, none, none, none, none, none, none, some (SPv [] (fun _ => fun u l' => ∃ hv_s H_s qv_s q_s, u = .tuple #[.agg #[hv_s, qv_s], .int .i64 (ptE (G.1.2.map ab) G.2.2 [a, b] a f)] ∧ (gab ((hv_s, H_s), (qv_s, q_s)) = ((soO (G.1.2.map ab) G.2.2 a f b), (soR (G.1.2.map ab) G.2.2 a f b))) ∧ ∃ cK_s, cK_s = gls [((hv_s, H_s), (qv_s, q_s))] ∧ l' = [cK_s]) 11)] (by kernel_rfl) (by kernel_rfl) ?_
  refine D_v V V (V_mov V (fg5 F49)) V V ?_
  refine D_v V V (V_mov V (es V (fg5 F49))) V V ?_
  refine D_v V V (V_nil V (et V)) V V ?_
  refine D_v V V (V_fa (off' := 0) V (et V) Try.underlying75 V (by decide +kernel) V) V V ?_
  refine D_r V V (by kernel_rfl) (fun sx hx hF => (VR_ldP (ys := [G.1.1, G.2.1]) V (et V) ((S3.grow hx).obj 2 V hmb_gS) (ldP_at V) Try.underlying36 V (by kernel_rfl))) V V ?_
  refine D_v V V (V_fa (off' := 1) V (es5 V (fg7 F49)) Try.underlying42 V (by decide +kernel) V) V V ?_
  refine D_r V V (by kernel_rfl) (fun sx hx hF => (VR_ldC V (et V) (cell_box (v := .int .i64 (a)) ((S3.grow hx).obj 1 V hc2) V) Try.underlying3 V)) V V ?_
  refine D_v V V (V_fa (off' := 3) V (es7 V (fg7 F49)) Try.underlying42 V (by decide +kernel) V) V V ?_
  refine D_r V V (by kernel_rfl) (fun sx hx hF => (VR_ldC V (et V) (cell_box (v := .int .i64 (f)) ((S3.grow hx).obj 1 V hc2) V) Try.underlying3 V)) V V ?_
  refine D_v V V (V_fa (off' := 2) V (es8 V (es V (fg7 F49))) Try.underlying42 V (by decide +kernel) V) V V ?_
  refine D_r V V (by kernel_rfl) (fun sx hx hF => (VR_ldC V (et V) (cell_box (v := .int .i64 (b)) ((S3.grow hx).obj 1 V hc2) V) Try.underlying3 V)) V V ?_
  refine D_call (ts := []) (vs := []) (C0 := fun _ => fun u l' => ∃ hv_s H_s qv_s q_s, u = .tuple #[.agg #[hv_s, qv_s], .int .i64 (ptE (G.1.2.map ab) G.2.2 [a, b] a f)] ∧ (gab ((hv_s, H_s), (qv_s, q_s)) = ((soO (G.1.2.map ab) G.2.2 a f b), (soR (G.1.2.map ab) G.2.2 a f b))) ∧ ∃ cK_s, cK_s = gls [((hv_s, H_s), (qv_s, q_s))] ∧ l' = [cK_s]) (C := fun u l' => ∃ hv_s H_s qv_s q_s, u = .tuple #[.agg #[hv_s, qv_s], .int .i64 (ptE (G.1.2.map ab) G.2.2 [a, b] a f)] ∧ (gab ((hv_s, H_s), (qv_s, q_s)) = ((soO (G.1.2.map ab) G.2.2 a f b), (soR (G.1.2.map ab) G.2.2 a f b))) ∧ ∃ cK_s, cK_s = gls [((hv_s, H_s), (qv_s, q_s))] ∧ l' = [cK_s]) V V V Try.func50 (by kernel_rfl) V (args4 (es6 V (et V)) (es4 V (et V)) (es2 V (et V)) (et V)) V V V V (fun sx hx hF => ?_) (fun u53 l53 hu53 => ?_)
  ·refine ((glC (F := fun a_ b_ => .tuple #[.agg #[a_, b_], .int .i64 (ptE (G.1.2.map ab) G.2.2 [a, b] a f)]) (kStore_c (a := a) (f := f) (b := b) ((S3.grow hx).roC Go) ((S3.grow hx).roC Gn) ((S3.grow hx).roC Gr) (by first | with_reducible assumption)))).mono ?_
   rintro _ _ ⟨hv_53, H_53, qv_53, q_53, rfl, hg_53, hz⟩
   exact ⟨_, rfl, _, ⟨_, _, _, _, rfl, hg_53, _, rfl, rfl⟩, hz⟩
  obtain ⟨hv_53, H_53, qv_53, q_53, rfl, hg_53, cK_53, hcK_53, hl53⟩ := hu53
  refine D_v V V (V_ext (v := .agg #[hv_53, qv_53]) V (et V) V) V V ?_
  refine D_v V V (V_ext (v := .int .i64 ((ptE (G.1.2.map ab) G.2.2 [a, b] a f))) V (es V (et V)) V) V V ?_
  refine D_eff V ?_
  refine ZS_eff S3 V V (fun s54 hJ54 hL54 hF54 => ?_)
  obtain ⟨ll53, ws53, we53, ⟨hv_53q, H_53q, qv_53q, q_53q, hq53, hg_53r, cK_53r, hcK_53r, hl53r⟩, hm53, k53, e53⟩ := L.all_get hF54; cases hq53; subst hl53r
  replace hJ54 := hJ54.add hL54 (i := 11) V hm53 k53 e53
  have S54 := hJ54.st; clear hF54 hJ54 hL54
  generalize s54.1 = w54 at *
  replace S54 : St w Y [cK_53r, c3, c2, mb_gS] w54 := S54
  have S55 := S54.sel [3, 0, 1, 2] (by decide) (l' := [mb_gS, cK_53r, c3, c2]) V
  replace S55 : St w Y [mb_gS, cK_53r, c3, c2] w54 := S55
  obtain ⟨Y56, hP56, hR56, hF56, hB56⟩ := St.call (pre := [mb_gS]) (fr := [cK_53r, c3, c2]) S55
  rw [hmb_gS] at hP56
  refine W_call V V V Try.func48 (by kernel_rfl) V (args3 (es8 V (es5 V (et V))) (es V (et V)) (et V)) (ksk_c (G := G) (G2 := ((hv_53, H_53q), (qv_53, q_53q))) (er := (ptE (G.1.2.map ab) G.2.2 [a, b] a f)) (gl_mk (hR56 _ Go) (hR56 _ Gn) (hR56 _ Gr)) (gl_mk (gl_oaR m1 (hcK_53r ▸ hF56 0 _ V)) (gl_naR m1 (hcK_53r ▸ hF56 0 _ V)) (gl_raR m1 (hcK_53r ▸ hF56 0 _ V))) hP56 ) ?_
  rintro _ w57 ⟨rfl, hP57⟩
  refine ⟨_, rfl, ?_⟩
  obtain ⟨cB_57, hcB_57, hP57⟩ := gen1 hP57
  have S57 := hB56 _ _ hP57
  replace S57 : St w Y [cB_57, cK_53r, c3, c2] w57 := S57
  refine xsA 2 S57 V hc3 V V V (es8 V (es7 V (fg6 F49))) (et V) (fun w58 c58 hc58 S58 => ?_)
  replace S58 : St w Y [cB_57, cK_53r, c58, c2] w58 := S58
  refine W_end (Qo_normal ?_)
  refine gen_Q (fun A59 E59 => ?_)
  have hsz59 := szq E59
  have F59 := fsE E59 (cq7 (cq8 F49 V) V)
  clear E59 hsz49 F49
  have S60 : St w Y [cB_57, cK_53r, c58] w58 := S58.sel [0, 1, 2] (by decide) V
  refine tk H52 (wp_ret (then_ret (inb_ret (then_ret (inb_ret (then_ret (inb_ret ?_)))))))
  refine then_ret (inb_ret (then_ret (inb_ret (then_ret (inb_ret (then_ret (inb_ret ?_)))))))
  refine then_ret (inb_ret (then_ret ?_))
  refine ret_in (results_1 Try.results30 (rv_cellA (fg6 F59) (S60.obj 2 V hc58) Try.underlying44 V (by kernel_rfl))) F59.d ?_
  have hD := do_3 (mx := n) (g := gab G) (c := (⟨kd, a, b, f, p, q, uu⟩ : OpC)) (by simp only; omega)
  rw [hD]
  exact ⟨(if (ptE (G.1.2.map ab) G.2.2 [a, b] a f) = 0 then ((hv_53, H_53q), (qv_53, q_53q)) else G), [((hv_53, H_53q), (qv_53, q_53q))], rfl, fin_g hg_53r, gm_1, (S60.fin2 0 V (hcB_57) 1 V (hcK_53r) (by decide))⟩
 refine wp_skip ?_
 refine tk H47 (wp_seq_k fun K61 H61 => ?_)
 refine wp_seq_k fun K62 H62 => region_in ?_
 refine W_v V V (V_eql V (fg3 F49) V) ?_
 refine W_v V V (V_asg V (et V)) ?_
 refine W_end (gen_Q fun A63 E63 => ?_)
 have hsz63 := szq E63
 have F63 := fsE E63 (ck (cq1 F49 V) V V)
 clear E63 hsz49 F49
 refine tk H62 ?_
 refine cond_dec (fg0 F63) (fun c64 => ?_) (fun c64 => ?_)
 ·refine wp_exit (then_exit (then_exit (inb_miss V (then_exit (inb_miss V (then_exit (inb_miss V ?_)))))))
  refine then_exit ?_
  refine inb_hit ?_
  refine tk H16 (wp_seq_k fun K65 H65 => ?_)
  refine region_monoS 13 14 [none, none, none, none, none, none, none, none, some (SPv [] (fun _ => fun u l' => u = .tuple #[.int .u64 (rdV (G.1.2.map ab) G.2.2 a f), .int .i64 (rwE (G.1.2.map ab) G.2.2 [a] a f)] ∧ l' = []) 8)] (by kernel_rfl) (by kernel_rfl) ?_
  refine D_v V V (V_mov V (fg6 F63)) V V ?_
  refine D_v V V (V_nil V (et V)) V V ?_
  refine D_v V V (V_fa (off' := 0) V (et V) Try.underlying75 V (by decide +kernel) V) V V ?_
  refine D_r V V (by kernel_rfl) (fun sx hx hF => (VR_ldP (ys := [G.1.1, G.2.1]) V (et V) ((S3.grow hx).obj 2 V hmb_gS) (ldP_at V) Try.underlying36 V (by kernel_rfl))) V V ?_
  refine D_v V V (V_fa (off' := 1) V (es4 V (fg8 F63)) Try.underlying42 V (by decide +kernel) V) V V ?_
  refine D_r V V (by kernel_rfl) (fun sx hx hF => (VR_ldC V (et V) (cell_box (v := .int .i64 (a)) ((S3.grow hx).obj 1 V hc2) V) Try.underlying3 V)) V V ?_
  refine D_v V V (V_fa (off' := 3) V (es6 V (fg8 F63)) Try.underlying42 V (by decide +kernel) V) V V ?_
  refine D_r V V (by kernel_rfl) (fun sx hx hF => (VR_ldC V (et V) (cell_box (v := .int .i64 (f)) ((S3.grow hx).obj 1 V hc2) V) Try.underlying3 V)) V V ?_
  refine D_call (ts := []) (vs := []) (C0 := fun _ => fun u l' => u = .tuple #[.int .u64 (rdV (G.1.2.map ab) G.2.2 a f), .int .i64 (rwE (G.1.2.map ab) G.2.2 [a] a f)] ∧ l' = []) (C := fun u l' => u = .tuple #[.int .u64 (rdV (G.1.2.map ab) G.2.2 a f), .int .i64 (rwE (G.1.2.map ab) G.2.2 [a] a f)] ∧ l' = []) V V V Try.func51 (by kernel_rfl) V (args3 (es4 V (et V)) (es2 V (et V)) (et V)) V V V V (fun sx hx hF => ?_) (fun u66 l66 hu66 => ?_)
  ·refine (kRd_c (a := a) (f := f) ((S3.grow hx).roC Go) ((S3.grow hx).roC Gn) ((S3.grow hx).roC Gr) ).mono ?_
   rintro _ _ ⟨rfl, hz⟩
   exact ⟨_, rfl, _, ⟨rfl, rfl⟩, hz⟩
  obtain ⟨rfl, hl66⟩ := hu66
  refine D_v V V (V_mov V (et V)) V V ?_
  refine D_v V V (V_ext (v := .int .u64 ((rdV (G.1.2.map ab) G.2.2 a f))) V (et V) V) V V ?_
  refine D_v V V (V_ext (v := .int .i64 ((rwE (G.1.2.map ab) G.2.2 [a] a f))) V (es V (et V)) V) V V ?_
  refine D_v V V (V_fa (off' := 2) V (es8 V (es4 V (fg7 F63))) Try.underlying44 V (by decide +kernel) V) V V ?_
  refine D_eff V ?_
  refine ZS_eff S3 V V (fun s67 hJ67 hL67 hF67 => ?_)
  obtain ⟨ll66, ws66, we66, ⟨hq66, hl66r⟩, hm66, k66, e66⟩ := L.all_get hF67; cases hq66; subst hl66r
  replace hJ67 := hJ67.add hL67 (i := 8) V hm66 k66 e66
  have S67 := hJ67.st; clear hF67 hJ67 hL67
  generalize s67.1 = w67 at *
  replace S67 : St w Y [c3, c2, mb_gS] w67 := S67
  refine xsC (zs' := #[.int .i64 0, .bool false, .int .u64 ((rdV (G.1.2.map ab) G.2.2 a f))]) 0 S67 V hc3 V V V (et V) (es2 V (et V)) (by rfl) (fun w68 c68 hc68 S68 => ?_)
  replace S68 : St w Y [c68, c2, mb_gS] w68 := S68
  refine W_v V V (V_fa (off' := 0) V (es8 V (es5 V (fg7 F63))) Try.underlying44 V (by decide +kernel) V) ?_
  refine xsC (zs' := #[.int .i64 ((rwE (G.1.2.map ab) G.2.2 [a] a f)), .bool false, .int .u64 ((rdV (G.1.2.map ab) G.2.2 a f))]) 0 S68 V hc68 V V V (et V) (es2 V (et V)) (by rfl) (fun w69 c69 hc69 S69 => ?_)
  replace S69 : St w Y [c69, c2, mb_gS] w69 := S69
  refine W_end (Qo_normal ?_)
  refine gen_Q (fun A70 E70 => ?_)
  have hsz70 := szq E70
  have F70 := fsE E70 (cq6 (cq8 F63 V) V)
  clear E70 hsz63 F63
  have S71 : St w Y [c69, mb_gS] w69 := S69.sel [0, 2] (by decide) V
  refine tk H65 (wp_exit (inb_miss V (then_exit (inb_miss V (then_exit (inb_miss V (then_exit ?_)))))))
  refine inb_miss V (then_exit (inb_miss V (then_exit (inb_miss V (then_exit ?_)))))
  refine inb_hit ?_
  refine tk H7 (wp_seq_k fun K72 H72 => region_in ?_)
  refine W_r V V (VR_ldA V (fg7 F70) (S71.obj 0 V hc69) Try.underlying44 V (by kernel_rfl)) ?_
  refine xsA 0 S71 V hc69 V V V (es V (fg7 F70)) (et V) (fun w73 c73 hc73 S73 => ?_)
  replace S73 : St w Y [c73, mb_gS] w73 := S73
  refine W_end (gen_Q fun A74 E74 => ?_)
  have hsz74 := szq E74
  have F74 := fsE E74 (cq1 F70 V)
  clear E74 hsz70 F70
  refine tk H72 (wp_ret ?_)
  refine ret_in (results_1 Try.results30 (rv_cellA (fg7 F74) (S73.obj 0 V hc73) Try.underlying44 V (by kernel_rfl))) F74.d ?_
  obtain ⟨c75, hc75, S75⟩ := gen1 (gl_mt S73)
  replace S75 : St w Y [c75, c73, mb_gS] w73 := S75
  have hD := do_4 (mx := n) (g := gab G) (c := (⟨kd, a, b, f, p, q, uu⟩ : OpC)) (by simp only; omega)
  rw [hD]
  exact ⟨G, [], rfl, rfl, gm_0, (S75.fin2 2 V (hmb_gS) 0 V (hc75) (by decide))⟩
 refine wp_skip ?_
 refine tk H61 (wp_seq_k fun K76 H76 => ?_)
 refine wp_seq_k fun K77 H77 => region_in ?_
 refine W_v V V (V_eql V (fg4 F63) V) ?_
 refine W_v V V (V_asg V (et V)) ?_
 refine W_end (gen_Q fun A78 E78 => ?_)
 have hsz78 := szq E78
 have F78 := fsE E78 (ck (cq1 F63 V) V V)
 clear E78 hsz63 F63
 refine tk H77 ?_
 refine cond_dec (fg0 F78) (fun c79 => ?_) (fun c79 => ?_)
 ·refine wp_exit (then_exit (then_exit (inb_miss V (then_exit (inb_miss V (then_exit (inb_miss V ?_)))))))
  refine then_exit (inb_miss V (then_exit ?_))
  refine inb_hit ?_
  refine tk H15 (wp_seq_k fun K80 H80 => ?_)
  refine wp_seq_k fun K81 H81 => ?_
  refine region_monoS 14 15 [none, none, none, none, none, none, none, none, none, none, none, some (SPv [] (fun _ => fun u l' => ∃ hv_s H_s qv_s q_s, u = .tuple #[.agg #[hv_s, qv_s], .int .i64 (rwE (G.1.2.map ab) G.2.2 [a] a f)] ∧ (gab ((hv_s, H_s), (qv_s, q_s)) = ((wrO (G.1.2.map ab) G.2.2 a f uu), (wrR (G.1.2.map ab) G.2.2 a f))) ∧ ∃ cK_s, cK_s = gls [((hv_s, H_s), (qv_s, q_s))] ∧ l' = [cK_s]) 11)] (by kernel_rfl) (by kernel_rfl) ?_
  refine D_v V V (V_mov V (fg7 F78)) V V ?_
  refine D_v V V (V_mov V (es V (fg7 F78))) V V ?_
  refine D_v V V (V_nil V (et V)) V V ?_
  refine D_v V V (V_fa (off' := 0) V (et V) Try.underlying75 V (by decide +kernel) V) V V ?_
  refine D_r V V (by kernel_rfl) (fun sx hx hF => (VR_ldP (ys := [G.1.1, G.2.1]) V (et V) ((S3.grow hx).obj 2 V hmb_gS) (ldP_at V) Try.underlying36 V (by kernel_rfl))) V V ?_
  refine D_v V V (V_fa (off' := 1) V (es5 V (fg9 F78)) Try.underlying42 V (by decide +kernel) V) V V ?_
  refine D_r V V (by kernel_rfl) (fun sx hx hF => (VR_ldC V (et V) (cell_box (v := .int .i64 (a)) ((S3.grow hx).obj 1 V hc2) V) Try.underlying3 V)) V V ?_
  refine D_v V V (V_fa (off' := 3) V (es7 V (fg9 F78)) Try.underlying42 V (by decide +kernel) V) V V ?_
  refine D_r V V (by kernel_rfl) (fun sx hx hF => (VR_ldC V (et V) (cell_box (v := .int .i64 (f)) ((S3.grow hx).obj 1 V hc2) V) Try.underlying3 V)) V V ?_
  refine D_v V V (V_fa (off' := 6) V (es8 V (es V (fg9 F78))) Try.underlying42 V (by decide +kernel) V) V V ?_
  refine D_r V V (by kernel_rfl) (fun sx hx hF => (VR_ldC V (et V) (cell_box (v := .int .u64 (uu)) ((S3.grow hx).obj 1 V hc2) V) Try.underlying40 V)) V V ?_
  refine D_call (ts := []) (vs := []) (C0 := fun _ => fun u l' => ∃ hv_s H_s qv_s q_s, u = .tuple #[.agg #[hv_s, qv_s], .int .i64 (rwE (G.1.2.map ab) G.2.2 [a] a f)] ∧ (gab ((hv_s, H_s), (qv_s, q_s)) = ((wrO (G.1.2.map ab) G.2.2 a f uu), (wrR (G.1.2.map ab) G.2.2 a f))) ∧ ∃ cK_s, cK_s = gls [((hv_s, H_s), (qv_s, q_s))] ∧ l' = [cK_s]) (C := fun u l' => ∃ hv_s H_s qv_s q_s, u = .tuple #[.agg #[hv_s, qv_s], .int .i64 (rwE (G.1.2.map ab) G.2.2 [a] a f)] ∧ (gab ((hv_s, H_s), (qv_s, q_s)) = ((wrO (G.1.2.map ab) G.2.2 a f uu), (wrR (G.1.2.map ab) G.2.2 a f))) ∧ ∃ cK_s, cK_s = gls [((hv_s, H_s), (qv_s, q_s))] ∧ l' = [cK_s]) V V V Try.func52 (by kernel_rfl) V (args4 (es6 V (et V)) (es4 V (et V)) (es2 V (et V)) (et V)) V V V V (fun sx hx hF => ?_) (fun u82 l82 hu82 => ?_)
  ·refine ((glC (F := fun a_ b_ => .tuple #[.agg #[a_, b_], .int .i64 (rwE (G.1.2.map ab) G.2.2 [a] a f)]) (kWrite_c (a := a) (f := f) (x := uu) ((S3.grow hx).roC Go) ((S3.grow hx).roC Gn) ((S3.grow hx).roC Gr) (by first | with_reducible assumption)))).mono ?_
   rintro _ _ ⟨hv_82, H_82, qv_82, q_82, rfl, hg_82, hz⟩
   exact ⟨_, rfl, _, ⟨_, _, _, _, rfl, hg_82, _, rfl, rfl⟩, hz⟩
  obtain ⟨hv_82, H_82, qv_82, q_82, rfl, hg_82, cK_82, hcK_82, hl82⟩ := hu82
  refine D_v V V (V_ext (v := .agg #[hv_82, qv_82]) V (et V) V) V V ?_
  refine D_v V V (V_ext (v := .int .i64 ((rwE (G.1.2.map ab) G.2.2 [a] a f))) V (es V (et V)) V) V V ?_
  refine D_eff V ?_
  refine ZS_eff S3 V V (fun s83 hJ83 hL83 hF83 => ?_)
  obtain ⟨ll82, ws82, we82, ⟨hv_82q, H_82q, qv_82q, q_82q, hq82, hg_82r, cK_82r, hcK_82r, hl82r⟩, hm82, k82, e82⟩ := L.all_get hF83; cases hq82; subst hl82r
  replace hJ83 := hJ83.add hL83 (i := 11) V hm82 k82 e82
  have S83 := hJ83.st; clear hF83 hJ83 hL83
  generalize s83.1 = w83 at *
  replace S83 : St w Y [cK_82r, c3, c2, mb_gS] w83 := S83
  have S84 := S83.sel [3, 0, 1, 2] (by decide) (l' := [mb_gS, cK_82r, c3, c2]) V
  replace S84 : St w Y [mb_gS, cK_82r, c3, c2] w83 := S84
  obtain ⟨Y85, hP85, hR85, hF85, hB85⟩ := St.call (pre := [mb_gS]) (fr := [cK_82r, c3, c2]) S84
  rw [hmb_gS] at hP85
  refine W_call V V V Try.func48 (by kernel_rfl) V (args3 (es8 V (es5 V (et V))) (es V (et V)) (et V)) (ksk_c (G := G) (G2 := ((hv_82, H_82q), (qv_82, q_82q))) (er := (rwE (G.1.2.map ab) G.2.2 [a] a f)) (gl_mk (hR85 _ Go) (hR85 _ Gn) (hR85 _ Gr)) (gl_mk (gl_oaR m1 (hcK_82r ▸ hF85 0 _ V)) (gl_naR m1 (hcK_82r ▸ hF85 0 _ V)) (gl_raR m1 (hcK_82r ▸ hF85 0 _ V))) hP85 ) ?_
  rintro _ w86 ⟨rfl, hP86⟩
  refine ⟨_, rfl, ?_⟩
  obtain ⟨cB_86, hcB_86, hP86⟩ := gen1 hP86
  have S86 := hB85 _ _ hP86
  replace S86 : St w Y [cB_86, cK_82r, c3, c2] w86 := S86
  refine xsA 2 S86 V hc3 V V V (es8 V (es7 V (fg8 F78))) (et V) (fun w87 c87 hc87 S87 => ?_)
  replace S87 : St w Y [cB_86, cK_82r, c87, c2] w87 := S87
  refine W_end (Qo_normal ?_)
  refine gen_Q (fun A88 E88 => ?_)
  have hsz88 := szq E88
  have F88 := fsE E88 (cq7 (cq8 F78 V) V)
  clear E88 hsz78 F78
  have S89 : St w Y [cB_86, cK_82r, c87] w87 := S87.sel [0, 1, 2] (by decide) V
  refine tk H81 (wp_ret (then_ret (inb_ret (then_ret (inb_ret (then_ret (inb_ret ?_)))))))
  refine then_ret (inb_ret (then_ret (inb_ret (then_ret (inb_ret (then_ret ?_))))))
  refine ret_in (results_1 Try.results30 (rv_cellA (fg8 F88) (S89.obj 2 V hc87) Try.underlying44 V (by kernel_rfl))) F88.d ?_
  have hD := do_5 (mx := n) (g := gab G) (c := (⟨kd, a, b, f, p, q, uu⟩ : OpC)) (by simp only; omega)
  rw [hD]
  exact ⟨(if (rwE (G.1.2.map ab) G.2.2 [a] a f) = 0 then ((hv_82, H_82q), (qv_82, q_82q)) else G), [((hv_82, H_82q), (qv_82, q_82q))], rfl, fin_g hg_82r, gm_1, (S89.fin2 0 V (hcB_86) 1 V (hcK_82r) (by decide))⟩
 refine wp_skip ?_
 refine tk H76 (wp_seq_k fun K90 H90 => ?_)
 refine wp_seq_k fun K91 H91 => region_in ?_
 refine W_v V V (V_eql V (fg5 F78) V) ?_
 refine W_v V V (V_asg V (et V)) ?_
 refine W_end (gen_Q fun A92 E92 => ?_)
 have hsz92 := szq E92
 have F92 := fsE E92 (ck (cq1 F78 V) V V)
 clear E92 hsz78 F78
 refine tk H91 ?_
 refine cond_dec (fg0 F92) (fun c93 => ?_) (fun c93 => ?_)
 ·refine wp_exit (then_exit (then_exit (inb_miss V (then_exit (inb_miss V (then_exit (inb_miss V ?_)))))))
  refine then_exit (inb_miss V (then_exit (inb_miss V (then_exit ?_))))
  refine inb_hit ?_
  refine tk H14 (wp_seq_k fun K94 H94 => ?_)
  refine wp_seq_k fun K95 H95 => ?_
  refine region_monoS 12 13 [none, none, none, none, none, none, none, none, none, some (SPv [] (fun _ => fun u l' => ∃ hv_s H_s qv_s q_s, u = .tuple #[.agg #[hv_s, qv_s], .int .i64 (ckd (G.1.2.map ab) G.2.2 [a, b])] ∧ (gab ((hv_s, H_s), (qv_s, q_s)) = ((kpO (G.1.2.map ab) G.2.2 [a, b]), (mvR (G.1.2.map ab) G.2.2 a b))) ∧ ∃ cK_s, cK_s = gls [((hv_s, H_s), (qv_s, q_s))] ∧ l' = [cK_s]) 9)] (by kernel_rfl) (by kernel_rfl) ?_
  refine D_v V V (V_mov V (fg8 F92)) V V ?_
  refine D_v V V (V_mov V (es V (fg8 F92))) V V ?_
  refine D_v V V (V_nil V (et V)) V V ?_
  refine D_v V V (V_fa (off' := 0) V (et V) Try.underlying75 V (by decide +kernel) V) V V ?_
  refine D_r V V (by kernel_rfl) (fun sx hx hF => (VR_ldP (ys := [G.1.1, G.2.1]) V (et V) ((S3.grow hx).obj 2 V hmb_gS) (ldP_at V) Try.underlying36 V (by kernel_rfl))) V V ?_
  refine D_v V V (V_fa (off' := 1) V (es5 V (fg10 F92)) Try.underlying42 V (by decide +kernel) V) V V ?_
  refine D_r V V (by kernel_rfl) (fun sx hx hF => (VR_ldC V (et V) (cell_box (v := .int .i64 (a)) ((S3.grow hx).obj 1 V hc2) V) Try.underlying3 V)) V V ?_
  refine D_v V V (V_fa (off' := 2) V (es7 V (fg10 F92)) Try.underlying42 V (by decide +kernel) V) V V ?_
  refine D_r V V (by kernel_rfl) (fun sx hx hF => (VR_ldC V (et V) (cell_box (v := .int .i64 (b)) ((S3.grow hx).obj 1 V hc2) V) Try.underlying3 V)) V V ?_
  refine D_call (ts := []) (vs := []) (C0 := fun _ => fun u l' => ∃ hv_s H_s qv_s q_s, u = .tuple #[.agg #[hv_s, qv_s], .int .i64 (ckd (G.1.2.map ab) G.2.2 [a, b])] ∧ (gab ((hv_s, H_s), (qv_s, q_s)) = ((kpO (G.1.2.map ab) G.2.2 [a, b]), (mvR (G.1.2.map ab) G.2.2 a b))) ∧ ∃ cK_s, cK_s = gls [((hv_s, H_s), (qv_s, q_s))] ∧ l' = [cK_s]) (C := fun u l' => ∃ hv_s H_s qv_s q_s, u = .tuple #[.agg #[hv_s, qv_s], .int .i64 (ckd (G.1.2.map ab) G.2.2 [a, b])] ∧ (gab ((hv_s, H_s), (qv_s, q_s)) = ((kpO (G.1.2.map ab) G.2.2 [a, b]), (mvR (G.1.2.map ab) G.2.2 a b))) ∧ ∃ cK_s, cK_s = gls [((hv_s, H_s), (qv_s, q_s))] ∧ l' = [cK_s]) V V V Try.func53 (by kernel_rfl) V (args3 (es4 V (et V)) (es2 V (et V)) (et V)) V V V V (fun sx hx hF => ?_) (fun u96 l96 hu96 => ?_)
  ·refine ((glC (F := fun a_ b_ => .tuple #[.agg #[a_, b_], .int .i64 (ckd (G.1.2.map ab) G.2.2 [a, b])]) (kMove_c (a := a) (b := b) ((S3.grow hx).roC Go) ((S3.grow hx).roC Gn) ((S3.grow hx).roC Gr) (by first | with_reducible assumption)))).mono ?_
   rintro _ _ ⟨hv_96, H_96, qv_96, q_96, rfl, hg_96, hz⟩
   exact ⟨_, rfl, _, ⟨_, _, _, _, rfl, hg_96, _, rfl, rfl⟩, hz⟩
  obtain ⟨hv_96, H_96, qv_96, q_96, rfl, hg_96, cK_96, hcK_96, hl96⟩ := hu96
  refine D_v V V (V_ext (v := .agg #[hv_96, qv_96]) V (et V) V) V V ?_
  refine D_v V V (V_ext (v := .int .i64 ((ckd (G.1.2.map ab) G.2.2 [a, b]))) V (es V (et V)) V) V V ?_
  refine D_eff V ?_
  refine ZS_eff S3 V V (fun s97 hJ97 hL97 hF97 => ?_)
  obtain ⟨ll96, ws96, we96, ⟨hv_96q, H_96q, qv_96q, q_96q, hq96, hg_96r, cK_96r, hcK_96r, hl96r⟩, hm96, k96, e96⟩ := L.all_get hF97; cases hq96; subst hl96r
  replace hJ97 := hJ97.add hL97 (i := 9) V hm96 k96 e96
  have S97 := hJ97.st; clear hF97 hJ97 hL97
  generalize s97.1 = w97 at *
  replace S97 : St w Y [cK_96r, c3, c2, mb_gS] w97 := S97
  have S98 := S97.sel [3, 0, 1, 2] (by decide) (l' := [mb_gS, cK_96r, c3, c2]) V
  replace S98 : St w Y [mb_gS, cK_96r, c3, c2] w97 := S98
  obtain ⟨Y99, hP99, hR99, hF99, hB99⟩ := St.call (pre := [mb_gS]) (fr := [cK_96r, c3, c2]) S98
  rw [hmb_gS] at hP99
  refine W_call V V V Try.func48 (by kernel_rfl) V (args3 (es8 V (es3 V (et V))) (es V (et V)) (et V)) (ksk_c (G := G) (G2 := ((hv_96, H_96q), (qv_96, q_96q))) (er := (ckd (G.1.2.map ab) G.2.2 [a, b])) (gl_mk (hR99 _ Go) (hR99 _ Gn) (hR99 _ Gr)) (gl_mk (gl_oaR m1 (hcK_96r ▸ hF99 0 _ V)) (gl_naR m1 (hcK_96r ▸ hF99 0 _ V)) (gl_raR m1 (hcK_96r ▸ hF99 0 _ V))) hP99 ) ?_
  rintro _ w100 ⟨rfl, hP100⟩
  refine ⟨_, rfl, ?_⟩
  obtain ⟨cB_100, hcB_100, hP100⟩ := gen1 hP100
  have S100 := hB99 _ _ hP100
  replace S100 : St w Y [cB_100, cK_96r, c3, c2] w100 := S100
  refine xsA 2 S100 V hc3 V V V (es8 V (es5 V (fg9 F92))) (et V) (fun w101 c101 hc101 S101 => ?_)
  replace S101 : St w Y [cB_100, cK_96r, c101, c2] w101 := S101
  refine W_end (Qo_normal ?_)
  refine gen_Q (fun A102 E102 => ?_)
  have hsz102 := szq E102
  have F102 := fsE E102 (cq5 (cq8 F92 V) V)
  clear E102 hsz92 F92
  have S103 : St w Y [cB_100, cK_96r, c101] w101 := S101.sel [0, 1, 2] (by decide) V
  refine tk H95 (wp_ret (then_ret (inb_ret (then_ret (inb_ret (then_ret (inb_ret ?_)))))))
  refine then_ret (inb_ret (then_ret (inb_ret (then_ret ?_))))
  refine ret_in (results_1 Try.results30 (rv_cellA (fg9 F102) (S103.obj 2 V hc101) Try.underlying44 V (by kernel_rfl))) F102.d ?_
  have hD := do_6 (mx := n) (g := gab G) (c := (⟨kd, a, b, f, p, q, uu⟩ : OpC)) (by simp only; omega)
  rw [hD]
  exact ⟨(if (ckd (G.1.2.map ab) G.2.2 [a, b]) = 0 then ((hv_96, H_96q), (qv_96, q_96q)) else G), [((hv_96, H_96q), (qv_96, q_96q))], rfl, fin_g hg_96r, gm_1, (S103.fin2 0 V (hcB_100) 1 V (hcK_96r) (by decide))⟩
 refine wp_skip ?_
 refine tk H90 (wp_seq_k fun K104 H104 => ?_)
 refine wp_seq_k fun K105 H105 => region_in ?_
 refine W_v V V (V_eql V (fg6 F92) V) ?_
 refine W_v V V (V_asg V (et V)) ?_
 refine W_end (gen_Q fun A106 E106 => ?_)
 have hsz106 := szq E106
 have F106 := fsE E106 (ck (cq1 F92 V) V V)
 clear E106 hsz92 F92
 refine tk H105 ?_
 refine cond_dec (fg0 F106) (fun c107 => ?_) (fun c107 => ?_)
 ·refine wp_exit (then_exit (then_exit (inb_miss V (then_exit (inb_miss V (then_exit (inb_miss V ?_)))))))
  refine then_exit (inb_miss V (then_exit (inb_miss V (then_exit (inb_miss V (then_exit ?_))))))
  refine inb_hit ?_
  refine tk H13 (wp_seq_k fun K108 H108 => ?_)
  refine wp_seq_k fun K109 H109 => ?_
  refine region_monoS 10 11 [none, none, none, none, none, none, none, some (SPv [] (fun _ => fun u l' => ∃ hv_s H_s qv_s q_s, u = .tuple #[.agg #[hv_s, qv_s], .int .i64 (ckd (G.1.2.map ab) G.2.2 [a])] ∧ (gab ((hv_s, H_s), (qv_s, q_s)) = ((kpO (G.1.2.map ab) G.2.2 [a]), (clR (G.1.2.map ab) G.2.2 a))) ∧ ∃ cK_s, cK_s = gls [((hv_s, H_s), (qv_s, q_s))] ∧ l' = [cK_s]) 7)] (by kernel_rfl) (by kernel_rfl) ?_
  refine D_v V V (V_mov V (fg9 F106)) V V ?_
  refine D_v V V (V_mov V (es V (fg9 F106))) V V ?_
  refine D_v V V (V_nil V (et V)) V V ?_
  refine D_v V V (V_fa (off' := 0) V (et V) Try.underlying75 V (by decide +kernel) V) V V ?_
  refine D_r V V (by kernel_rfl) (fun sx hx hF => (VR_ldP (ys := [G.1.1, G.2.1]) V (et V) ((S3.grow hx).obj 2 V hmb_gS) (ldP_at V) Try.underlying36 V (by kernel_rfl))) V V ?_
  refine D_v V V (V_fa (off' := 1) V (es5 V (fg11 F106)) Try.underlying42 V (by decide +kernel) V) V V ?_
  refine D_r V V (by kernel_rfl) (fun sx hx hF => (VR_ldC V (et V) (cell_box (v := .int .i64 (a)) ((S3.grow hx).obj 1 V hc2) V) Try.underlying3 V)) V V ?_
  refine D_call (ts := []) (vs := []) (C0 := fun _ => fun u l' => ∃ hv_s H_s qv_s q_s, u = .tuple #[.agg #[hv_s, qv_s], .int .i64 (ckd (G.1.2.map ab) G.2.2 [a])] ∧ (gab ((hv_s, H_s), (qv_s, q_s)) = ((kpO (G.1.2.map ab) G.2.2 [a]), (clR (G.1.2.map ab) G.2.2 a))) ∧ ∃ cK_s, cK_s = gls [((hv_s, H_s), (qv_s, q_s))] ∧ l' = [cK_s]) (C := fun u l' => ∃ hv_s H_s qv_s q_s, u = .tuple #[.agg #[hv_s, qv_s], .int .i64 (ckd (G.1.2.map ab) G.2.2 [a])] ∧ (gab ((hv_s, H_s), (qv_s, q_s)) = ((kpO (G.1.2.map ab) G.2.2 [a]), (clR (G.1.2.map ab) G.2.2 a))) ∧ ∃ cK_s, cK_s = gls [((hv_s, H_s), (qv_s, q_s))] ∧ l' = [cK_s]) V V V Try.func54 (by kernel_rfl) V (args2 (es2 V (et V)) (et V)) V V V V (fun sx hx hF => ?_) (fun u110 l110 hu110 => ?_)
  ·refine ((glC (F := fun a_ b_ => .tuple #[.agg #[a_, b_], .int .i64 (ckd (G.1.2.map ab) G.2.2 [a])]) (kClear_c (a := a) ((S3.grow hx).roC Go) ((S3.grow hx).roC Gn) ((S3.grow hx).roC Gr) (by first | with_reducible assumption)))).mono ?_
   rintro _ _ ⟨hv_110, H_110, qv_110, q_110, rfl, hg_110, hz⟩
   exact ⟨_, rfl, _, ⟨_, _, _, _, rfl, hg_110, _, rfl, rfl⟩, hz⟩
  obtain ⟨hv_110, H_110, qv_110, q_110, rfl, hg_110, cK_110, hcK_110, hl110⟩ := hu110
  refine D_v V V (V_ext (v := .agg #[hv_110, qv_110]) V (et V) V) V V ?_
  refine D_v V V (V_ext (v := .int .i64 ((ckd (G.1.2.map ab) G.2.2 [a]))) V (es V (et V)) V) V V ?_
  refine D_eff V ?_
  refine ZS_eff S3 V V (fun s111 hJ111 hL111 hF111 => ?_)
  obtain ⟨ll110, ws110, we110, ⟨hv_110q, H_110q, qv_110q, q_110q, hq110, hg_110r, cK_110r, hcK_110r, hl110r⟩, hm110, k110, e110⟩ := L.all_get hF111; cases hq110; subst hl110r
  replace hJ111 := hJ111.add hL111 (i := 7) V hm110 k110 e110
  have S111 := hJ111.st; clear hF111 hJ111 hL111
  generalize s111.1 = w111 at *
  replace S111 : St w Y [cK_110r, c3, c2, mb_gS] w111 := S111
  have S112 := S111.sel [3, 0, 1, 2] (by decide) (l' := [mb_gS, cK_110r, c3, c2]) V
  replace S112 : St w Y [mb_gS, cK_110r, c3, c2] w111 := S112
  obtain ⟨Y113, hP113, hR113, hF113, hB113⟩ := St.call (pre := [mb_gS]) (fr := [cK_110r, c3, c2]) S112
  rw [hmb_gS] at hP113
  refine W_call V V V Try.func48 (by kernel_rfl) V (args3 (es8 V (es V (et V))) (es V (et V)) (et V)) (ksk_c (G := G) (G2 := ((hv_110, H_110q), (qv_110, q_110q))) (er := (ckd (G.1.2.map ab) G.2.2 [a])) (gl_mk (hR113 _ Go) (hR113 _ Gn) (hR113 _ Gr)) (gl_mk (gl_oaR m1 (hcK_110r ▸ hF113 0 _ V)) (gl_naR m1 (hcK_110r ▸ hF113 0 _ V)) (gl_raR m1 (hcK_110r ▸ hF113 0 _ V))) hP113 ) ?_
  rintro _ w114 ⟨rfl, hP114⟩
  refine ⟨_, rfl, ?_⟩
  obtain ⟨cB_114, hcB_114, hP114⟩ := gen1 hP114
  have S114 := hB113 _ _ hP114
  replace S114 : St w Y [cB_114, cK_110r, c3, c2] w114 := S114
  refine xsA 2 S114 V hc3 V V V (es8 V (es3 V (fg10 F106))) (et V) (fun w115 c115 hc115 S115 => ?_)
  replace S115 : St w Y [cB_114, cK_110r, c115, c2] w115 := S115
  refine W_end (Qo_normal ?_)
  refine gen_Q (fun A116 E116 => ?_)
  have hsz116 := szq E116
  have F116 := fsE E116 (cq3 (cq8 F106 V) V)
  clear E116 hsz106 F106
  have S117 : St w Y [cB_114, cK_110r, c115] w115 := S115.sel [0, 1, 2] (by decide) V
  refine tk H109 (wp_ret (then_ret (inb_ret (then_ret (inb_ret (then_ret (inb_ret ?_)))))))
  refine then_ret (inb_ret (then_ret ?_))
  refine ret_in (results_1 Try.results30 (rv_cellA (fg10 F116) (S117.obj 2 V hc115) Try.underlying44 V (by kernel_rfl))) F116.d ?_
  have hD := do_7 (mx := n) (g := gab G) (c := (⟨kd, a, b, f, p, q, uu⟩ : OpC)) (by simp only; omega)
  rw [hD]
  exact ⟨(if (ckd (G.1.2.map ab) G.2.2 [a]) = 0 then ((hv_110, H_110q), (qv_110, q_110q)) else G), [((hv_110, H_110q), (qv_110, q_110q))], rfl, fin_g hg_110r, gm_1, (S117.fin2 0 V (hcB_114) 1 V (hcK_110r) (by decide))⟩
 refine wp_skip ?_
 refine tk H104 (wp_seq_k fun K118 H118 => ?_)
 refine wp_seq_k fun K119 H119 => region_in ?_
 refine W_v V V (V_eql V (fg7 F106) V) ?_
 refine W_v V V (V_asg V (et V)) ?_
 refine W_end (gen_Q fun A120 E120 => ?_)
 have hsz120 := szq E120
 have F120 := fsE E120 (ck (cq1 F106 V) V V)
 clear E120 hsz106 F106
 refine tk H119 ?_
 refine cond_dec (fg0 F120) (fun c121 => ?_) (fun c121 => ?_)
 ·refine wp_exit (then_exit (then_exit (inb_miss V (then_exit (inb_miss V (then_exit (inb_miss V ?_)))))))
  refine then_exit (inb_miss V (then_exit (inb_miss V (then_exit (inb_miss V (then_exit (inb_miss V ?_)))))))
  refine then_exit ?_
  refine inb_hit ?_
  refine tk H12 ?_
  refine region_in ?_
  refine W_v V V (V_fa (off' := 2) V (fg12 F120) Try.underlying42 V (by decide +kernel) V) ?_
  refine W_r V V (xlC (v := .int .i64 (b)) V (et V) (S3.obj 1 V hc2) Try.underlying3) ?_
  refine W_v V V (V_asg V (et V)) ?_
  refine W_end (gen_Q fun A122 E122 => ?_)
  have hsz122 := szq E122
  have F122 := fsE E122 (ck (cq2 (fx9 F120) V) V V)
  clear E122 hsz120 F120
  refine inb_n ?_
  refine tk H11 (wp_seq_k fun K123 H123 => ?_)
  refine wp_seq_k fun K124 H124 => ?_
  refine region_monoS 12 13 [none, none, none, none, none, none, none, some (SPv [] (fun _ => fun u l' => u = .tuple #[.bool (alB (G.1.2.map ab) G.2.2 a b), .int .i64 (ckd (G.1.2.map ab) G.2.2 [a, b])] ∧ l' = []) 7)] (by kernel_rfl) (by kernel_rfl) ?_
  refine D_v V V (V_mov V (fg10 F122)) V V ?_
  refine D_v V V (V_nil V (et V)) V V ?_
  refine D_v V V (V_fa (off' := 0) V (et V) Try.underlying75 V (by decide +kernel) V) V V ?_
  refine D_r V V (by kernel_rfl) (fun sx hx hF => (VR_ldP (ys := [G.1.1, G.2.1]) V (et V) ((S3.grow hx).obj 2 V hmb_gS) (ldP_at V) Try.underlying36 V (by kernel_rfl))) V V ?_
  refine D_v V V (V_fa (off' := 1) V (es4 V (fg12 F122)) Try.underlying42 V (by decide +kernel) V) V V ?_
  refine D_r V V (by kernel_rfl) (fun sx hx hF => (VR_ldC V (et V) (cell_box (v := .int .i64 (a)) ((S3.grow hx).obj 1 V hc2) V) Try.underlying3 V)) V V ?_
  refine D_v V V (V_mov V (es6 V (fg0 F122))) V V ?_
  refine D_call (ts := []) (vs := []) (C0 := fun _ => fun u l' => u = .tuple #[.bool (alB (G.1.2.map ab) G.2.2 a b), .int .i64 (ckd (G.1.2.map ab) G.2.2 [a, b])] ∧ l' = []) (C := fun u l' => u = .tuple #[.bool (alB (G.1.2.map ab) G.2.2 a b), .int .i64 (ckd (G.1.2.map ab) G.2.2 [a, b])] ∧ l' = []) V V V Try.func55 (by kernel_rfl) V (args3 (es3 V (et V)) (es V (et V)) (et V)) V V V V (fun sx hx hF => ?_) (fun u125 l125 hu125 => ?_)
  ·refine (kAl_c (a := a) (b := b) ((S3.grow hx).roC Go) ((S3.grow hx).roC Gn) ((S3.grow hx).roC Gr) ).mono ?_
   rintro _ _ ⟨rfl, hz⟩
   exact ⟨_, rfl, _, ⟨rfl, rfl⟩, hz⟩
  obtain ⟨rfl, hl125⟩ := hu125
  refine D_v V V (V_mov V (et V)) V V ?_
  refine D_v V V (V_ext (v := .bool ((alB (G.1.2.map ab) G.2.2 a b))) V (et V) V) V V ?_
  refine D_v V V (V_ext (v := .int .i64 ((ckd (G.1.2.map ab) G.2.2 [a, b]))) V (es V (et V)) V) V V ?_
  refine D_v V V (V_fa (off' := 1) V (es8 V (es3 V (fg11 F122))) Try.underlying44 V (by decide +kernel) V) V V ?_
  refine D_eff V ?_
  refine ZS_eff S3 V V (fun s126 hJ126 hL126 hF126 => ?_)
  obtain ⟨ll125, ws125, we125, ⟨hq125, hl125r⟩, hm125, k125, e125⟩ := L.all_get hF126; cases hq125; subst hl125r
  replace hJ126 := hJ126.add hL126 (i := 7) V hm125 k125 e125
  have S126 := hJ126.st; clear hF126 hJ126 hL126
  generalize s126.1 = w126 at *
  replace S126 : St w Y [c3, c2, mb_gS] w126 := S126
  refine xsC (zs' := #[.int .i64 0, .bool ((alB (G.1.2.map ab) G.2.2 a b)), .int .u64 0]) 0 S126 V hc3 V V V (et V) (es2 V (et V)) (by rfl) (fun w127 c127 hc127 S127 => ?_)
  replace S127 : St w Y [c127, c2, mb_gS] w127 := S127
  refine W_v V V (V_fa (off' := 0) V (es8 V (es4 V (fg11 F122))) Try.underlying44 V (by decide +kernel) V) ?_
  refine xsC (zs' := #[.int .i64 ((ckd (G.1.2.map ab) G.2.2 [a, b])), .bool ((alB (G.1.2.map ab) G.2.2 a b)), .int .u64 0]) 0 S127 V hc127 V V V (et V) (es2 V (et V)) (by rfl) (fun w128 c128 hc128 S128 => ?_)
  replace S128 : St w Y [c128, c2, mb_gS] w128 := S128
  refine W_end (Qo_normal ?_)
  refine gen_Q (fun A129 E129 => ?_)
  have hsz129 := szq E129
  have F129 := fsE E129 (cq5 (cq8 F122 V) V)
  clear E129 hsz122 F122
  refine tk H124 (wp_seq_k fun K130 H130 => region_in ?_)
  refine W_v V V (V_mov V (fg10 F129)) ?_
  refine W_v V V (V_fa (off' := 1) V (es V (fg12 F129)) Try.underlying42 V (by decide +kernel) V) ?_
  refine W_r V V (xlC (v := .int .i64 (a)) V (et V) (S128.obj 1 V hc2) Try.underlying3) ?_
  refine W_call V V V Try.func56 (by kernel_rfl) V (args2 (es2 V (et V)) (et V)) (krg_c (gS := gS) (n := n) (G := G) (a := a) (gl_mk (S128.roC Go) (S128.roC Gn) (S128.roC Gr)) (S128.chC 2 V hmb_gS) ) ?_
  rintro _ w131 ⟨rfl, hP131⟩
  refine ⟨_, rfl, ?_⟩
  have S131 := S128.join hP131
  replace S131 : St w Y [c128, c2, mb_gS] w131 := S131
  refine W_v V V (V_mov V (et V)) ?_
  refine W_v V V (V_ext (v := .int .i64 ((rgX (G.1.2.map ab) G.2.2 a))) V (et V) V) ?_
  refine W_v V V (V_ext (v := .int .i64 ((ckd (G.1.2.map ab) G.2.2 [a, a]))) V (es V (et V)) V) ?_
  refine W_v V V (V_asg V (es V (et V))) (W_v V V (V_asg V (es V (et V))) ?_)
  refine W_end (gen_Q fun A132 E132 => ?_)
  have hsz132 := szq E132
  have F132 := fsE E132 (ck (ck (cq7 F129 V) V V) V V)
  clear E132 hsz129 F129
  refine tk H130 (wp_seq_k fun K133 H133 => region_in ?_)
  refine W_v V V (V_mov V (fg0 F132)) ?_
  refine W_v V V (V_eql V (et V) V) ?_
  refine W_split V V (V_mov V (et V)) (fun c134 => ?_) (fun c134 => ?_)
  ·refine W_v V (xwt V V (et V)) (V_fa (off' := 0) V (es3 V (fg14 F132)) Try.underlying42 V (by decide +kernel) V) ?_
   refine W_r V (xwt V V (es V (et V))) (xlC (v := .int .i64 (kd)) V (et V) (S131.obj 1 V hc2) Try.underlying3) ?_
   refine W_v V (xwt V V (es2 V (et V))) (V_eql V (et V) V) ?_
   refine W_v V V (V_pickT V (es3 V (et V)) (et V)) ?_
   refine W_end (gen_Q fun A135 E135 => ?_)
   have hsz135 := szq E135
   have F135 := fsE E135 (ck (cq6 F132 V) V V)
   clear E135 hsz132 F132
   have S136 : St w Y [c128, mb_gS] w131 := S131.sel [0, 2] (by decide) V
   refine tk H133 ?_
   refine cond_not (fg0 F135) (by rw [decide_eq_false_iff_not]; omega) ?_
   refine wp_skip (tk H123 (wp_exit (inb_miss V (then_exit ?_))))
   refine inb_hit ?_
   refine tk H7 (wp_seq_k fun K137 H137 => region_in ?_)
   refine W_r V V (VR_ldA V (fg14 F135) (S136.obj 0 V hc128) Try.underlying44 V (by kernel_rfl)) ?_
   refine xsA 0 S136 V hc128 V V V (es V (fg14 F135)) (et V) (fun w138 c138 hc138 S138 => ?_)
   replace S138 : St w Y [c138, mb_gS] w138 := S138
   refine W_end (gen_Q fun A139 E139 => ?_)
   have hsz139 := szq E139
   have F139 := fsE E139 (cq1 F135 V)
   clear E139 hsz135 F135
   refine tk H137 (wp_ret ?_)
   refine ret_in (results_1 Try.results30 (rv_cellA (fg14 F139) (S138.obj 0 V hc138) Try.underlying44 V (by kernel_rfl))) F139.d ?_
   obtain ⟨c140, hc140, S140⟩ := gen1 (gl_mt S138)
   replace S140 : St w Y [c140, c138, mb_gS] w138 := S140
   have hD := do_8 (mx := n) (g := gab G) (c := (⟨kd, a, b, f, p, q, uu⟩ : OpC)) (by simp only; omega)
   rw [hD]
   exact ⟨G, [], rfl, rfl, gm_0, (S140.fin2 2 V (hmb_gS) 0 V (hc140) (by decide))⟩
  refine xof V V V (et V) (xof V V V (es V (et V)) (xof V V V (es2 V (et V)) ?_))
  refine W_v V V (V_pickF V (es3 V (et V)) V) ?_
  refine W_end (gen_Q fun A141 E141 => ?_)
  have hsz141 := szq E141
  have F141 := fsE E141 (ck (cq6 F132 V) V V)
  clear E141 hsz132 F132
  have S142 : St w Y [c128, mb_gS] w131 := S131.sel [0, 2] (by decide) V
  refine tk H133 ?_
  refine cond_f (fg0 F141) ?_
  refine wp_skip (tk H123 (wp_exit (inb_miss V (then_exit ?_))))
  refine inb_hit ?_
  refine tk H7 (wp_seq_k fun K143 H143 => region_in ?_)
  refine W_r V V (VR_ldA V (fg14 F141) (S142.obj 0 V hc128) Try.underlying44 V (by kernel_rfl)) ?_
  refine xsA 0 S142 V hc128 V V V (es V (fg14 F141)) (et V) (fun w144 c144 hc144 S144 => ?_)
  replace S144 : St w Y [c144, mb_gS] w144 := S144
  refine W_end (gen_Q fun A145 E145 => ?_)
  have hsz145 := szq E145
  have F145 := fsE E145 (cq1 F141 V)
  clear E145 hsz141 F141
  refine tk H143 (wp_ret ?_)
  refine ret_in (results_1 Try.results30 (rv_cellA (fg14 F145) (S144.obj 0 V hc144) Try.underlying44 V (by kernel_rfl))) F145.d ?_
  obtain ⟨c146, hc146, S146⟩ := gen1 (gl_mt S144)
  replace S146 : St w Y [c146, c144, mb_gS] w144 := S146
  have hD := do_8 (mx := n) (g := gab G) (c := (⟨kd, a, b, f, p, q, uu⟩ : OpC)) (by simp only; omega)
  rw [hD]
  exact ⟨G, [], rfl, rfl, gm_0, (S146.fin2 2 V (hmb_gS) 0 V (hc146) (by decide))⟩
 refine wp_skip ?_
 refine tk H118 (wp_seq_k fun K147 H147 => ?_)
 refine wp_seq_k fun K148 H148 => region_in ?_
 refine W_v V V (V_eql V (fg8 F120) V) ?_
 refine W_v V V (V_asg V (et V)) ?_
 refine W_end (gen_Q fun A149 E149 => ?_)
 have hsz149 := szq E149
 have F149 := fsE E149 (ck (cq1 F120 V) V V)
 clear E149 hsz120 F120
 refine tk H148 ?_
 refine cond_dec (fg0 F149) (fun c150 => ?_) (fun c150 => ?_)
 ·refine wp_exit (then_exit (then_exit (inb_miss V (then_exit (inb_miss V (then_exit (inb_miss V ?_)))))))
  refine then_exit (inb_miss V (then_exit (inb_miss V (then_exit (inb_miss V (then_exit (inb_miss V ?_)))))))
  refine then_exit (inb_miss V (then_exit ?_))
  refine inb_hit ?_
  refine tk H11 (wp_seq_k fun K151 H151 => ?_)
  refine wp_seq_k fun K152 H152 => ?_
  refine region_monoS 12 13 [none, none, none, none, none, none, none, some (SPv [] (fun _ => fun u l' => u = .tuple #[.bool (alB (G.1.2.map ab) G.2.2 a a), .int .i64 (ckd (G.1.2.map ab) G.2.2 [a, a])] ∧ l' = []) 7)] (by kernel_rfl) (by kernel_rfl) ?_
  refine D_v V V (V_mov V (fg11 F149)) V V ?_
  refine D_v V V (V_nil V (et V)) V V ?_
  refine D_v V V (V_fa (off' := 0) V (et V) Try.underlying75 V (by decide +kernel) V) V V ?_
  refine D_r V V (by kernel_rfl) (fun sx hx hF => (VR_ldP (ys := [G.1.1, G.2.1]) V (et V) ((S3.grow hx).obj 2 V hmb_gS) (ldP_at V) Try.underlying36 V (by kernel_rfl))) V V ?_
  refine D_v V V (V_fa (off' := 1) V (es4 V (fg13 F149)) Try.underlying42 V (by decide +kernel) V) V V ?_
  refine D_r V V (by kernel_rfl) (fun sx hx hF => (VR_ldC V (et V) (cell_box (v := .int .i64 (a)) ((S3.grow hx).obj 1 V hc2) V) Try.underlying3 V)) V V ?_
  refine D_v V V (V_mov V (es6 V (fg10 F149))) V V ?_
  refine D_call (ts := []) (vs := []) (C0 := fun _ => fun u l' => u = .tuple #[.bool (alB (G.1.2.map ab) G.2.2 a a), .int .i64 (ckd (G.1.2.map ab) G.2.2 [a, a])] ∧ l' = []) (C := fun u l' => u = .tuple #[.bool (alB (G.1.2.map ab) G.2.2 a a), .int .i64 (ckd (G.1.2.map ab) G.2.2 [a, a])] ∧ l' = []) V V V Try.func55 (by kernel_rfl) V (args3 (es3 V (et V)) (es V (et V)) (et V)) V V V V (fun sx hx hF => ?_) (fun u153 l153 hu153 => ?_)
  ·refine (kAl_c (a := a) (b := a) ((S3.grow hx).roC Go) ((S3.grow hx).roC Gn) ((S3.grow hx).roC Gr) ).mono ?_
   rintro _ _ ⟨rfl, hz⟩
   exact ⟨_, rfl, _, ⟨rfl, rfl⟩, hz⟩
  obtain ⟨rfl, hl153⟩ := hu153
  refine D_v V V (V_mov V (et V)) V V ?_
  refine D_v V V (V_ext (v := .bool ((alB (G.1.2.map ab) G.2.2 a a))) V (et V) V) V V ?_
  refine D_v V V (V_ext (v := .int .i64 ((ckd (G.1.2.map ab) G.2.2 [a, a]))) V (es V (et V)) V) V V ?_
  refine D_v V V (V_fa (off' := 1) V (es8 V (es3 V (fg12 F149))) Try.underlying44 V (by decide +kernel) V) V V ?_
  refine D_eff V ?_
  refine ZS_eff S3 V V (fun s154 hJ154 hL154 hF154 => ?_)
  obtain ⟨ll153, ws153, we153, ⟨hq153, hl153r⟩, hm153, k153, e153⟩ := L.all_get hF154; cases hq153; subst hl153r
  replace hJ154 := hJ154.add hL154 (i := 7) V hm153 k153 e153
  have S154 := hJ154.st; clear hF154 hJ154 hL154
  generalize s154.1 = w154 at *
  replace S154 : St w Y [c3, c2, mb_gS] w154 := S154
  refine xsC (zs' := #[.int .i64 0, .bool ((alB (G.1.2.map ab) G.2.2 a a)), .int .u64 0]) 0 S154 V hc3 V V V (et V) (es2 V (et V)) (by rfl) (fun w155 c155 hc155 S155 => ?_)
  replace S155 : St w Y [c155, c2, mb_gS] w155 := S155
  refine W_v V V (V_fa (off' := 0) V (es8 V (es4 V (fg12 F149))) Try.underlying44 V (by decide +kernel) V) ?_
  refine xsC (zs' := #[.int .i64 ((ckd (G.1.2.map ab) G.2.2 [a, a])), .bool ((alB (G.1.2.map ab) G.2.2 a a)), .int .u64 0]) 0 S155 V hc155 V V V (et V) (es2 V (et V)) (by rfl) (fun w156 c156 hc156 S156 => ?_)
  replace S156 : St w Y [c156, c2, mb_gS] w156 := S156
  refine W_end (Qo_normal ?_)
  refine gen_Q (fun A157 E157 => ?_)
  have hsz157 := szq E157
  have F157 := fsE E157 (cq5 (cq8 F149 V) V)
  clear E157 hsz149 F149
  refine tk H152 (wp_seq_k fun K158 H158 => region_in ?_)
  refine W_v V V (V_mov V (fg11 F157)) ?_
  refine W_v V V (V_fa (off' := 1) V (es V (fg13 F157)) Try.underlying42 V (by decide +kernel) V) ?_
  refine W_r V V (xlC (v := .int .i64 (a)) V (et V) (S156.obj 1 V hc2) Try.underlying3) ?_
  refine W_call V V V Try.func56 (by kernel_rfl) V (args2 (es2 V (et V)) (et V)) (krg_c (gS := gS) (n := n) (G := G) (a := a) (gl_mk (S156.roC Go) (S156.roC Gn) (S156.roC Gr)) (S156.chC 2 V hmb_gS) ) ?_
  rintro _ w159 ⟨rfl, hP159⟩
  refine ⟨_, rfl, ?_⟩
  have S159 := S156.join hP159
  replace S159 : St w Y [c156, c2, mb_gS] w159 := S159
  refine W_v V V (V_mov V (et V)) ?_
  refine W_v V V (V_ext (v := .int .i64 ((rgX (G.1.2.map ab) G.2.2 a))) V (et V) V) ?_
  refine W_v V V (V_ext (v := .int .i64 ((ckd (G.1.2.map ab) G.2.2 [a, a]))) V (es V (et V)) V) ?_
  refine W_v V V (V_asg V (es V (et V))) (W_v V V (V_asg V (es V (et V))) ?_)
  refine W_end (gen_Q fun A160 E160 => ?_)
  have hsz160 := szq E160
  have F160 := fsE E160 (ck (ck (cq7 F157 V) V V) V V)
  clear E160 hsz157 F157
  refine tk H158 (wp_seq_k fun K161 H161 => region_in ?_)
  refine W_v V V (V_mov V (fg0 F160)) ?_
  refine W_v V V (V_eql V (et V) V) ?_
  refine W_split V V (V_mov V (et V)) (fun c162 => ?_) (fun c162 => ?_)
  ·refine W_v V (xwt V V (et V)) (V_fa (off' := 0) V (es3 V (fg15 F160)) Try.underlying42 V (by decide +kernel) V) ?_
   refine W_r V (xwt V V (es V (et V))) (xlC (v := .int .i64 (kd)) V (et V) (S159.obj 1 V hc2) Try.underlying3) ?_
   refine W_v V (xwt V V (es2 V (et V))) (V_eql V (et V) V) ?_
   refine W_v V V (V_pickT V (es3 V (et V)) (et V)) ?_
   refine W_end (gen_Q fun A163 E163 => ?_)
   have hsz163 := szq E163
   have F163 := fsE E163 (ck (cq6 F160 V) V V)
   clear E163 hsz160 F160
   have S164 : St w Y [c156, mb_gS] w159 := S159.sel [0, 2] (by decide) V
   refine tk H161 ?_
   refine cond_sure (fg0 F163) (by first | (simp [c150]; done) | exact decide_eq_true (by omega) | exact decide_eq_false (by omega)) ?_
   refine region_in ?_
   refine W_v V V (V_mov V (fg2 F163)) ?_
   refine W_v V V (V_eql V (et V) V) ?_
   refine W_v V V (V_fa (off' := 1) V (es2 V (fg15 F163)) Try.underlying44 V (by decide +kernel) V) ?_
   refine xsC (zs' := #[.int .i64 ((ckd (G.1.2.map ab) G.2.2 [a, a])), .bool (decide ((rgX (G.1.2.map ab) G.2.2 a) = 0)), .int .u64 0]) 0 S164 V hc156 V V V (et V) (es V (et V)) (by rfl) (fun w165 c165 hc165 S165 => ?_)
   replace S165 : St w Y [c165, mb_gS] w165 := S165
   refine W_end (gen_Q fun A166 E166 => ?_)
   have hsz166 := szq E166
   have F166 := fsE E166 (cq3 F163 V)
   clear E166 hsz163 F163
   refine tk H151 (wp_exit (inb_miss V (then_exit ?_)))
   refine inb_hit ?_
   refine tk H7 (wp_seq_k fun K167 H167 => region_in ?_)
   refine W_r V V (VR_ldA V (fg15 F166) (S165.obj 0 V hc165) Try.underlying44 V (by kernel_rfl)) ?_
   refine xsA 0 S165 V hc165 V V V (es V (fg15 F166)) (et V) (fun w168 c168 hc168 S168 => ?_)
   replace S168 : St w Y [c168, mb_gS] w168 := S168
   refine W_end (gen_Q fun A169 E169 => ?_)
   have hsz169 := szq E169
   have F169 := fsE E169 (cq1 F166 V)
   clear E169 hsz166 F166
   refine tk H167 (wp_ret ?_)
   refine ret_in (results_1 Try.results30 (rv_cellA (fg15 F169) (S168.obj 0 V hc168) Try.underlying44 V (by kernel_rfl))) F169.d ?_
   obtain ⟨c170, hc170, S170⟩ := gen1 (gl_mt S168)
   replace S170 : St w Y [c170, c168, mb_gS] w168 := S170
   have hD := do_9 (mx := n) (g := gab G) (c := (⟨kd, a, b, f, p, q, uu⟩ : OpC)) (by simp only; omega)
   have ht : decide ((ckd (G.1.2.map ab) G.2.2 [a, a]) = 0 ∧ rg G.2.2 a = 0) = decide ((rgX (G.1.2.map ab) G.2.2 a) = 0) := by have h0 : (ckd (G.1.2.map ab) G.2.2 [a, a]) = 0 := (by omega); unfold rgX; rw [h0]; simp
   have ht2 : decide (ckd (gab G).1 (gab G).2 [a, a] = 0 ∧ rg (gab G).2 a = 0) = decide ((rgX (G.1.2.map ab) G.2.2 a) = 0) := ht
   rw [hD]
   simp only [ht2]
   exact ⟨G, [], rfl, rfl, gm_0, (S170.fin2 2 V (hmb_gS) 0 V (hc170) (by decide))⟩
  refine xof V V V (et V) (xof V V V (es V (et V)) (xof V V V (es2 V (et V)) ?_))
  refine W_v V V (V_pickF V (es3 V (et V)) V) ?_
  refine W_end (gen_Q fun A171 E171 => ?_)
  have hsz171 := szq E171
  have F171 := fsE E171 (ck (cq6 F160 V) V V)
  clear E171 hsz160 F160
  have S172 : St w Y [c156, mb_gS] w159 := S159.sel [0, 2] (by decide) V
  refine tk H161 ?_
  refine cond_f (fg0 F171) ?_
  refine wp_skip (tk H151 (wp_exit (inb_miss V (then_exit ?_))))
  refine inb_hit ?_
  refine tk H7 (wp_seq_k fun K173 H173 => region_in ?_)
  refine W_r V V (VR_ldA V (fg15 F171) (S172.obj 0 V hc156) Try.underlying44 V (by kernel_rfl)) ?_
  refine xsA 0 S172 V hc156 V V V (es V (fg15 F171)) (et V) (fun w174 c174 hc174 S174 => ?_)
  replace S174 : St w Y [c174, mb_gS] w174 := S174
  refine W_end (gen_Q fun A175 E175 => ?_)
  have hsz175 := szq E175
  have F175 := fsE E175 (cq1 F171 V)
  clear E175 hsz171 F171
  refine tk H173 (wp_ret ?_)
  refine ret_in (results_1 Try.results30 (rv_cellA (fg15 F175) (S174.obj 0 V hc174) Try.underlying44 V (by kernel_rfl))) F175.d ?_
  obtain ⟨c176, hc176, S176⟩ := gen1 (gl_mt S174)
  replace S176 : St w Y [c176, c174, mb_gS] w174 := S176
  have hD := do_9 (mx := n) (g := gab G) (c := (⟨kd, a, b, f, p, q, uu⟩ : OpC)) (by simp only; omega)
  have ht : decide ((ckd (G.1.2.map ab) G.2.2 [a, a]) = 0 ∧ rg G.2.2 a = 0) = (alB (G.1.2.map ab) G.2.2 a a) := by have h0 : ¬ (ckd (G.1.2.map ab) G.2.2 [a, a]) = 0 := (by omega); rw [al_err h0]; simp [h0]
  have ht2 : decide (ckd (gab G).1 (gab G).2 [a, a] = 0 ∧ rg (gab G).2 a = 0) = (alB (G.1.2.map ab) G.2.2 a a) := ht
  rw [hD]
  simp only [ht2]
  exact ⟨G, [], rfl, rfl, gm_0, (S176.fin2 2 V (hmb_gS) 0 V (hc176) (by decide))⟩
 refine wp_skip ?_
 refine tk H147 (wp_seq_k fun K177 H177 => region_in ?_)
 refine W_v V V (V_eql V (fg9 F149) V) ?_
 refine W_v V V (V_asg V (et V)) ?_
 refine W_end (gen_Q fun A178 E178 => ?_)
 have hsz178 := szq E178
 have F178 := fsE E178 (ck (cq1 F149 V) V V)
 clear E178 hsz149 F149
 refine tk H177 ?_
 refine cond_dec (fg0 F178) (fun c179 => ?_) (fun c179 => ?_)
 ·have hsh := sh_rng (rs := G.2.2) (a := a) hsm
  refine wp_exit (then_exit (inb_miss V (then_exit (inb_miss V (then_exit (inb_miss V (then_exit ?_)))))))
  refine inb_miss V (then_exit (inb_miss V (then_exit (inb_miss V (then_exit (inb_miss V (then_exit ?_)))))))
  refine inb_miss V (then_exit (inb_miss V (then_exit ?_)))
  refine inb_hit ?_
  refine tk H10 (wp_seq_k fun K180 H180 => ?_)
  refine wp_seq_k fun K181 H181 => ?_
  refine region_monoS 14 14 [none, none, none, none, none, none, some (SPv [] (fun _ => fun u l' => u = .tuple #[.int .i64 (shP (G.1.2.map ab) G.2.2 a), .int .i64 (shR (G.1.2.map ab) G.2.2 a), .int .i64 (shE (G.1.2.map ab) G.2.2 a)] ∧ l' = []) 6)] (by kernel_rfl) (by kernel_rfl) ?_
  refine D_v V V (V_mov V (fg12 F178)) V V ?_
  refine D_v V V (V_nil V (et V)) V V ?_
  refine D_v V V (V_fa (off' := 0) V (et V) Try.underlying75 V (by decide +kernel) V) V V ?_
  refine D_r V V (by kernel_rfl) (fun sx hx hF => (VR_ldP (ys := [G.1.1, G.2.1]) V (et V) ((S3.grow hx).obj 2 V hmb_gS) (ldP_at V) Try.underlying36 V (by kernel_rfl))) V V ?_
  refine D_v V V (V_fa (off' := 1) V (es4 V (fg14 F178)) Try.underlying42 V (by decide +kernel) V) V V ?_
  refine D_r V V (by kernel_rfl) (fun sx hx hF => (VR_ldC V (et V) (cell_box (v := .int .i64 (a)) ((S3.grow hx).obj 1 V hc2) V) Try.underlying3 V)) V V ?_
  refine D_call (ts := []) (vs := []) (C0 := fun _ => fun u l' => u = .tuple #[.int .i64 (shP (G.1.2.map ab) G.2.2 a), .int .i64 (shR (G.1.2.map ab) G.2.2 a), .int .i64 (shE (G.1.2.map ab) G.2.2 a)] ∧ l' = []) (C := fun u l' => u = .tuple #[.int .i64 (shP (G.1.2.map ab) G.2.2 a), .int .i64 (shR (G.1.2.map ab) G.2.2 a), .int .i64 (shE (G.1.2.map ab) G.2.2 a)] ∧ l' = []) V V V Try.func57 (by kernel_rfl) V (args2 (es2 V (et V)) (et V)) V V V V (fun sx hx hF => ?_) (fun u182 l182 hu182 => ?_)
  ·refine (kSh_c (a := a) ((S3.grow hx).roC Go) ((S3.grow hx).roC Gn) ((S3.grow hx).roC Gr) ).mono ?_
   rintro _ _ ⟨rfl, hz⟩
   exact ⟨_, rfl, _, ⟨rfl, rfl⟩, hz⟩
  obtain ⟨rfl, hl182⟩ := hu182
  refine D_v V V (V_mov V (et V)) V V ?_
  refine D_v V V (V_ext (v := .int .i64 ((shP (G.1.2.map ab) G.2.2 a))) V (et V) V) V V ?_
  refine D_v V V (V_ext (v := .int .i64 ((shR (G.1.2.map ab) G.2.2 a))) V (es V (et V)) V) V V ?_
  refine D_v V V (V_ext (v := .int .i64 ((shE (G.1.2.map ab) G.2.2 a))) V (es2 V (et V)) V) V V ?_
  refine D_v V V (V_asg V (es2 V (et V))) V V ?_
  refine D_v V V (V_asg V (es2 V (et V))) V V ?_
  refine D_v V V (V_asg V (es2 V (et V))) V V ?_
  refine ZS_none S3 (Nat.le_refl _) (Nat.le_refl _) (fun s183 hJ183 hL183 hF183 => ?_)
  obtain ⟨ll182, ws182, we182, ⟨hq182, hl182r⟩, hm182, k182, e182⟩ := L.all_get hF183; cases hq182; subst hl182r
  replace hJ183 := hJ183.add hL183 (i := 6) V hm182 k182 e182
  have S183 := hJ183.st; clear hF183 hJ183 hL183
  generalize s183.1 = w183 at *
  replace S183 : St w Y [c3, c2, mb_gS] w183 := S183
  refine gen_Q (fun A184 E184 => ?_)
  have hsz184 := szq E184
  have F184 := fsE E184 (ck (ck (ck (cq3 (cq8 F178 V) V) V V) V V) V V)
  clear E184 hsz178 F178
  have S185 : St w Y [c3, mb_gS] w183 := S183.sel [0, 2] (by decide) V
  refine tk H181 ?_
  refine region_in ?_
  refine W_v V V (V_mov V (fg0 F184)) (W_v V V (V_mov V (es V (fg2 F184))) ?_)
  refine W_v V V (V_mul V V (et V) (by omega) (by omega)) ?_
  refine W_v V V (V_mov V (es3 V (fg1 F184))) ?_
  refine W_v V V (V_add V (es V (et V)) (et V) (by omega) (by omega)) ?_
  refine W_v V V (V_cvt V (et V) Try.underlying3 Try.underlying40 (wrap_u64 (by omega) (by omega))) ?_
  refine W_v V V (xbS (n := 3) (z := .agg #[.int .i64 0, .bool false, .int .u64 0]) V (parts2 (es5 V (et V)) (et V))) ?_
  refine xsA 0 S185 V hc3 V V V (es7 V (fg16 F184)) (et V) (fun w186 c186 hc186 S186 => ?_)
  replace S186 : St w Y [c186, mb_gS] w186 := S186
  refine W_end (gen_Q fun A187 E187 => ?_)
  have hsz187 := szq E187
  have F187 := fsE E187 (cq7 F184 V)
  clear E187 hsz184 F184
  refine tk H180 (wp_exit ?_)
  refine inb_hit ?_
  refine tk H7 (wp_seq_k fun K188 H188 => region_in ?_)
  refine W_r V V (VR_ldA V (fg16 F187) (S186.obj 0 V hc186) Try.underlying44 V (by kernel_rfl)) ?_
  refine xsA 0 S186 V hc186 V V V (es V (fg16 F187)) (et V) (fun w189 c189 hc189 S189 => ?_)
  replace S189 : St w Y [c189, mb_gS] w189 := S189
  refine W_end (gen_Q fun A190 E190 => ?_)
  have hsz190 := szq E190
  have F190 := fsE E190 (cq1 F187 V)
  clear E190 hsz187 F187
  refine tk H188 (wp_ret ?_)
  refine ret_in (results_1 Try.results30 (rv_cellA (fg16 F190) (S189.obj 0 V hc189) Try.underlying44 V (by kernel_rfl))) F190.d ?_
  obtain ⟨c191, hc191, S191⟩ := gen1 (gl_mt S189)
  replace S191 : St w Y [c191, c189, mb_gS] w189 := S191
  have hD := do_10 (mx := n) (g := gab G) (c := (⟨kd, a, b, f, p, q, uu⟩ : OpC)) (by simp only; omega)
  rw [hD]
  exact ⟨G, [], rfl, rfl, gm_0, (S191.fin2 2 V (hmb_gS) 0 V (hc191) (by decide))⟩
 refine wp_skip (tk H20 (wp_exit (inb_miss V (then_exit (inb_miss V (then_exit (inb_miss V ?_)))))))
 refine then_exit (inb_miss V (then_exit (inb_miss V (then_exit (inb_miss V (then_exit (inb_miss V ?_)))))))
 refine then_exit (inb_miss V (then_exit (inb_miss V (then_exit (inb_miss V (then_exit ?_))))))
 refine inb_hit ?_
 refine tk H7 (wp_seq_k fun K192 H192 => region_in ?_)
 refine W_r V V (VR_ldA V (fg13 F178) (S3.obj 0 V hc3) Try.underlying44 V (by kernel_rfl)) ?_
 refine xsA 0 S3 V hc3 V V V (es V (fg13 F178)) (et V) (fun w193 c193 hc193 S193 => ?_)
 replace S193 : St w Y [c193, c2, mb_gS] w193 := S193
 refine W_end (gen_Q fun A194 E194 => ?_)
 have hsz194 := szq E194
 have F194 := fsE E194 (cq1 F178 V)
 clear E194 hsz178 F178
 have S195 : St w Y [c193, mb_gS] w193 := S193.sel [0, 2] (by decide) V
 refine tk H192 (wp_ret ?_)
 refine ret_in (results_1 Try.results30 (rv_cellA (fg13 F194) (S195.obj 0 V hc193) Try.underlying44 V (by kernel_rfl))) F194.d ?_
 obtain ⟨c196, hc196, S196⟩ := gen1 (gl_mt S195)
 replace S196 : St w Y [c196, c193, mb_gS] w193 := S196
 have hD := do_0 (mx := n) (g := gab G) (c := (⟨kd, a, b, f, p, q, uu⟩ : OpC)) (by simp only; omega)
 rw [hD]
 exact ⟨G, [], rfl, rfl, gm_0, (S196.fin2 2 V (hmb_gS) 0 V (hc196) (by decide))⟩

end Go.Proofs.Ytpgkfndbfocibaa