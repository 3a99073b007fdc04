import Derived.Test.YtpgkfndbfocibaaProg
import Derived.Test.YtpgkfndbfocibaaMs14
import Derived.Test.YtpgkfndbfocibaaPl29j
namespace Go.Proofs.Ytpgkfndbfocibaa
open Go.RowKit Go.Own Go.Own.R Go.Own.G Go.Own.Gr Go.Own.Ml


end Go.Proofs.Ytpgkfndbfocibaa
namespace Go.Proofs.Ytpgkfndbfocibaa
open Go.RowKit Go.Own Go.Own.R Go.Own.G Go.Own.Gr Go.Own.Ml


set_option maxHeartbeats 4000000 in
theorem kst_c {C : Int} {N : Int} {Z : Int} {K : Int} {Q : Int} {G : GV} {kd : Int} {a : Int} {b : Int} {f : Int} {p : Int} {q : Int} {uu : Int} {w : World} (hg_G : Ro w NoX (gls [G])) (hsm : SM (G.1.2.map ab)) :
  Calls Try.prog 16 #[.agg #[.int .i64 C, .int .i64 N, .int .i64 Z, .int .i64 K, .int .i64 Q], .agg #[G.1.1, G.2.1], .agg #[.int .i64 kd, .int .i64 a, .int .i64 b, .int .i64 f, .int .i64 p, .int .i64 q, .int .u64 uu]] w fun e w' => ∃ Gt, e = .returned (.tuple #[.agg #[Gt.1.1, Gt.2.1], .agg #[.int .i64 (stA (cfE C N Z K Q) (lgN C N Z K Q) K (gab G) (⟨kd, a, b, f, p, q, uu⟩ : OpC)).e, .bool (stA (cfE C N Z K Q) (lgN C N Z K Q) K (gab G) (⟨kd, a, b, f, p, q, uu⟩ : OpC)).t, .int .u64 (stA (cfE C N Z K Q) (lgN C N Z K Q) K (gab G) (⟨kd, a, b, f, p, q, uu⟩ : OpC)).v], .int .i64 (stE (cfE C N Z K Q) K (gab G) (⟨kd, a, b, f, p, q, uu⟩ : OpC))]) ∧ (gab Gt = (stG (cfE C N Z K Q) (lgN C N Z K Q) K (gab G) (⟨kd, a, b, f, p, q, uu⟩ : OpC))) ∧ St w NoX [gls [Gt]] w' := by
 have Go := gl_o m1 hg_G
 have Gn := gl_n m1 hg_G
 have Gr := gl_r m1 hg_G
 refine calls_in 87 Try.func16 V V (by simp) (fun A0 hsz0 hdf0 hargs => ?_)
 have l0_0 := hargs 0 (.agg #[.int .i64 C, .int .i64 N, .int .i64 Z, .int .i64 K, .int .i64 Q]) V
 have l1_0 := hargs 1 (.agg #[G.1.1, G.2.1]) V
 have l2_0 := hargs 2 (.agg #[.int .i64 kd, .int .i64 a, .int .i64 b, .int .i64 f, .int .i64 p, .int .i64 q, .int .u64 uu]) V
 clear hargs; replace hsz0 : SzN A0 87 := ⟨hsz0⟩
 have hS := St.nil w
 have bGo := SlN.le (sl_SlN Go.at)
 have bGr := SlN.le (sl_SlN Gr.at)
 refine wp_seq_k fun K1 H1 => region_in ?_
 refine W_boxS (zs := #[.int .i64 (C), .int .i64 (N), .int .i64 (Z), .int .i64 (K), .int .i64 (Q)]) hS V V V l0_0 (by rfl) (fun g2 w2 c2 hc2 S2 => ?_)
 replace S2 : St w NoX [c2] w2 := S2
 refine W_boxS (zs := #[G.1.1, G.2.1]) S2 V V V (es V l1_0) (by rfl) (fun g3 w3 c3 hc3 S3 => ?_)
 replace S3 : St w NoX [c3, c2] w3 := S3
 refine W_boxS (zs := #[.int .i64 (kd), .int .i64 (a), .int .i64 (b), .int .i64 (f), .int .i64 (p), .int .i64 (q), .int .u64 (uu)]) S3 V V V (es2 V l2_0) (by rfl) (fun g4 w4 c4 hc4 S4 => ?_)
 replace S4 : St w NoX [c4, c3, c2] w4 := S4
 refine W_allocS (z := .agg #[.slice none 0 0, .slice none 0 0]) (zs := #[.slice none 0 0, .slice none 0 0]) S4 V V V (by kernel_rfl) (by rfl) (fun g5 w5 c5 hc5 S5 => ?_)
 replace S5 : St w NoX [c5, c4, c3, c2] w5 := S5
 refine W_allocS (z := .agg #[.int .i64 0, .bool false, .int .u64 0]) (zs := #[.int .i64 0, .bool false, .int .u64 0]) S5 V V V (by kernel_rfl) (by rfl) (fun g6 w6 c6 hc6 S6 => ?_)
 replace S6 : St w NoX [c6, c5, c4, c3, c2] w6 := S6
 refine W_v V V (V_asg V V) ?_
 refine W_end (gen_Q fun A7 E7 => ?_)
 have hsz7 := szq E7
 have F7 := fsE E7 (cq1 (ck (ck (ck (ck (ck (FS.n hdf0) V V) V V) V V) V V) V V) V)
 clear E7 hsz0 hdf0 l0_0 l1_0 l2_0
 refine tk H1 (wp_seq_k fun K8 H8 => region_in ?_)
 refine W_r V V (VR_ldA V (fg4 F7) (S6.obj 4 V hc2) Try.underlying23 V (by kernel_rfl)) ?_
 refine W_call V V V Try.func25 (by kernel_rfl) V (args1 (et V)) (klg_c (C := C) (N := N) (Z := Z) (K := K) (Q := Q)  ) ?_
 rintro _ w9 ⟨rfl, hP9⟩
 refine ⟨_, rfl, ?_⟩
 have S9 := S6.join hP9
 replace S9 : St w NoX [c6, c5, c4, c3, c2] w9 := S9
 refine W_v V V (V_mov V (et V)) ?_
 refine W_v V V (V_ext (v := .int .i64 ((lgN C N Z K Q))) V (et V) V) ?_
 refine W_v V V (V_ext (v := .int .i64 ((cfE C N Z K Q))) V (es V (et V)) V) ?_
 refine W_v V V (V_asg V (es V (et V))) (W_v V V (V_asg V (es V (et V))) ?_)
 refine W_end (gen_Q fun A10 E10 => ?_)
 have hsz10 := szq E10
 have F10 := fsE E10 (ck (ck (cq5 F7 V) V V) V V)
 clear E10 hsz7 F7
 refine tk H8 (wp_seq_k fun K11 H11 => ?_)
 refine wp_seq_k fun K12 H12 => region_in ?_
 refine W_v V V (V_mov V (fg0 F10)) ?_
 refine W_v V V (V_neq V (et V) V) ?_
 refine W_end (gen_Q fun A13 E13 => ?_)
 have hsz13 := szq E13
 have F13 := fsE E13 (ck (cq1 F10 V) V V)
 clear E13 hsz10 F10
 refine tk H12 ?_
 refine cond_dec (fg0 F13) (fun c14 => ?_) (fun c14 => ?_)
 ·refine wp_seq_k fun K15 H15 => region_in ?_
  refine W_v V V (xbS (n := 2) (z := .agg #[.slice none 0 0, .slice none 0 0]) V (parts0)) ?_
  refine W_v V V (xbS (n := 3) (z := .agg #[.int .i64 0, .bool false, .int .u64 0]) V (parts0)) ?_
  refine W_v V V (V_mov V (es2 V (fg1 F13))) ?_
  refine xsA 1 S9 V hc5 V V V (es3 V (fg4 F13)) (es2 V (et V)) (fun w16 c16 hc16 S16 => ?_)
  replace S16 : St w NoX [c6, c16, c4, c3, c2] w16 := S16
  refine xsA 0 S16 V hc6 V V V (es3 V (fg3 F13)) (es V (et V)) (fun w17 c17 hc17 S17 => ?_)
  replace S17 : St w NoX [c17, c16, c4, c3, c2] w17 := S17
  refine W_v V V (V_asg V (et V)) ?_
  refine W_end (gen_Q fun A18 E18 => ?_)
  have hsz18 := szq E18
  have F18 := fsE E18 (ck (cq3 (fx1 F13) V) V V)
  clear E18 hsz13 F13
  have S19 : St w NoX [c17, c16] w17 := S17.sel [0, 1] (by decide) V
  refine tk H15 (wp_ret (then_ret ?_))
  refine ret_in (results_3 Try.results16 (rv_cellA (fg4 F18) (S19.obj 1 V hc16) Try.underlying36 V (by kernel_rfl)) (rv_cellA (fg3 F18) (S19.obj 0 V hc17) Try.underlying44 V (by kernel_rfl)) (rv_tmp (fg0 F18))) F18.d ?_
  obtain ⟨c20, hc20, S20⟩ := gen1 (gl_nl S19)
  replace S20 : St w NoX [c20, c17, c16] w17 := S20
  have h : (stE (cfE C N Z K Q) K (gab G) (⟨kd, a, b, f, p, q, uu⟩ : OpC)) = (cfE C N Z K Q) := st_cf c14
  have h2 := st_e (cf := (cfE C N Z K Q)) (n := lgN C N Z K Q) (K := K) (g := gab G) (c := (⟨kd, a, b, f, p, q, uu⟩ : OpC)) (by rw [h]; exact c14)
  rw [h2.2, h]
  exact ⟨((.slice none 0 0, []), (.slice none 0 0, [])), rfl, h2.1.symm, (S20.fin1 0 V (hc20))⟩
 refine wp_skip ?_
 refine tk H11 (wp_seq_k fun K21 H21 => ?_)
 refine wp_seq_k fun K22 H22 => region_in ?_
 refine W_r V V (VR_ldA V (fg6 F13) (S9.obj 3 V hc3) Try.underlying36 V (by kernel_rfl)) ?_
 refine W_call V V V Try.func26 (by kernel_rfl) V (args1 (et V)) (kCk_c (S9.roC Go) (S9.roC Gn) (S9.roC Gr) ) ?_
 rintro _ w23 ⟨rfl, hP23⟩
 refine ⟨_, rfl, ?_⟩
 have S23 := S9.join hP23
 replace S23 : St w NoX [c6, c5, c4, c3, c2] w23 := S23
 refine W_v V V (V_mov V (et V)) ?_
 refine W_v V V (V_ext (v := .int .i64 ((ckG (G.1.2.map ab) G.2.2).1)) V (et V) V) ?_
 refine W_v V V (V_ext (v := .int .i64 ((ckG (G.1.2.map ab) G.2.2).2)) V (es V (et V)) V) ?_
 refine W_v V V (V_asg V (es V (et V))) (W_v V V (V_asg V (es V (et V))) ?_)
 refine W_end (gen_Q fun A24 E24 => ?_)
 have hsz24 := szq E24
 have F24 := fsE E24 (ck (cq6 F13 V) V V)
 clear E24 hsz13 F13
 refine tk H22 (wp_seq_k fun K25 H25 => region_in ?_)
 refine W_v V V (V_mov V (fg0 F24)) ?_
 refine W_v V V (V_neq V (et V) V) ?_
 refine W_end (gen_Q fun A26 E26 => ?_)
 have hsz26 := szq E26
 have F26 := fsE E26 (ck (cq1 F24 V) V V)
 clear E26 hsz24 F24
 refine tk H25 ?_
 refine cond_dec (fg0 F26) (fun c27 => ?_) (fun c27 => ?_)
 ·refine wp_seq_k fun K28 H28 => region_in ?_
  refine W_v V V (xbS (n := 2) (z := .agg #[.slice none 0 0, .slice none 0 0]) V (parts0)) ?_
  refine W_v V V (xbS (n := 3) (z := .agg #[.int .i64 0, .bool false, .int .u64 0]) V (parts0)) ?_
  refine W_v V V (V_mov V (es2 V (fg1 F26))) ?_
  refine xsA 1 S23 V hc5 V V V (es3 V (fg6 F26)) (es2 V (et V)) (fun w29 c29 hc29 S29 => ?_)
  replace S29 : St w NoX [c6, c29, c4, c3, c2] w29 := S29
  refine xsA 0 S29 V hc6 V V V (es3 V (fg5 F26)) (es V (et V)) (fun w30 c30 hc30 S30 => ?_)
  replace S30 : St w NoX [c30, c29, c4, c3, c2] w30 := S30
  refine W_v V V (V_asg V (et V)) ?_
  refine W_end (gen_Q fun A31 E31 => ?_)
  have hsz31 := szq E31
  have F31 := fsE E31 (ck (cq3 (fx3 F26) V) V V)
  clear E31 hsz26 F26
  have S32 : St w NoX [c30, c29] w30 := S30.sel [0, 1] (by decide) V
  refine tk H28 (wp_ret (then_ret ?_))
  refine ret_in (results_3 Try.results16 (rv_cellA (fg6 F31) (S32.obj 1 V hc29) Try.underlying36 V (by kernel_rfl)) (rv_cellA (fg5 F31) (S32.obj 0 V hc30) Try.underlying44 V (by kernel_rfl)) (rv_tmp (fg0 F31))) F31.d ?_
  obtain ⟨c33, hc33, S33⟩ := gen1 (gl_nl S32)
  replace S33 : St w NoX [c33, c30, c29] w30 := S33
  have h : (stE (cfE C N Z K Q) K (gab G) (⟨kd, a, b, f, p, q, uu⟩ : OpC)) = (ckG (G.1.2.map ab) G.2.2).2 := st_ck (g := gab G) c14 c27
  have h2 := st_e (cf := (cfE C N Z K Q)) (n := lgN C N Z K Q) (K := K) (g := gab G) (c := (⟨kd, a, b, f, p, q, uu⟩ : OpC)) (by rw [h]; exact c27)
  rw [h2.2, h]
  exact ⟨((.slice none 0 0, []), (.slice none 0 0, [])), rfl, h2.1.symm, (S33.fin1 0 V (hc33))⟩
 have hG := ckG_iff.1 (show (ckG (G.1.2.map ab) G.2.2).2 = 0 by omega)
 have ho4 := hG.o4
 have hr8 := hG.r8
 rw [List.length_map] at ho4
 refine wp_skip ?_
 refine tk H21 (wp_seq_k fun K34 H34 => ?_)
 refine wp_seq_k fun K35 H35 => region_in ?_
 refine W_v V V (V_fa (off' := 1) V (fg8 F26) Try.underlying36 V (by decide +kernel) V) ?_
 refine W_r V V (xlC (v := G.2.1) V (et V) (S23.obj 3 V hc3) Try.underlying25) ?_
 refine W_v V V (V_lenS V (et V) (sl_SlN Gr.at) Try.underlying25) ?_
 refine W_v V V (V_fa (off' := 3) V (es3 V (fg9 F26)) Try.underlying23 V (by decide +kernel) V) ?_
 refine W_r V V (xlC (v := .int .i64 (K)) V (et V) (S23.obj 4 V hc2) Try.underlying3) ?_
 refine W_v V V (V_neq V (es2 V (et V)) (et V)) ?_
 refine W_end (gen_Q fun A36 E36 => ?_)
 have hsz36 := szq E36
 have F36 := fsE E36 (ck (cq5 F26 V) V V)
 clear E36 hsz26 F26
 have S37 : St w NoX [c6, c5, c4, c3] w23 := S23.sel [0, 1, 2, 3] (by decide) V
 refine tk H35 ?_
 refine cond_dec (fg0 F36) (fun c38 => ?_) (fun c38 => ?_)
 ·refine wp_seq_k fun K39 H39 => region_in ?_
  refine W_v V V (xbS (n := 2) (z := .agg #[.slice none 0 0, .slice none 0 0]) V (parts0)) ?_
  refine W_v V V (xbS (n := 3) (z := .agg #[.int .i64 0, .bool false, .int .u64 0]) V (parts0)) ?_
  refine xsA 1 S37 V hc5 V V V (es2 V (fg7 F36)) (es V (et V)) (fun w40 c40 hc40 S40 => ?_)
  replace S40 : St w NoX [c6, c40, c4, c3] w40 := S40
  refine xsA 0 S40 V hc6 V V V (es2 V (fg6 F36)) (et V) (fun w41 c41 hc41 S41 => ?_)
  replace S41 : St w NoX [c41, c40, c4, c3] w41 := S41
  refine W_v V V (V_asg V V) ?_
  refine W_end (gen_Q fun A42 E42 => ?_)
  have hsz42 := szq E42
  have F42 := fsE E42 (ck (cq2 (fx4 F36) V) V V)
  clear E42 hsz36 F36
  have S43 : St w NoX [c41, c40] w41 := S41.sel [0, 1] (by decide) V
  refine tk H39 (wp_ret (then_ret ?_))
  refine ret_in (results_3 Try.results16 (rv_cellA (fg7 F42) (S43.obj 1 V hc40) Try.underlying36 V (by kernel_rfl)) (rv_cellA (fg6 F42) (S43.obj 0 V hc41) Try.underlying44 V (by kernel_rfl)) (rv_tmp (fg0 F42))) F42.d ?_
  obtain ⟨c44, hc44, S44⟩ := gen1 (gl_nl S43)
  replace S44 : St w NoX [c44, c41, c40] w41 := S44
  have h : (stE (cfE C N Z K Q) K (gab G) (⟨kd, a, b, f, p, q, uu⟩ : OpC)) = 7 := st_7 (g := gab G) c14 c27 c38
  have h2 := st_e (cf := (cfE C N Z K Q)) (n := lgN C N Z K Q) (K := K) (g := gab G) (c := (⟨kd, a, b, f, p, q, uu⟩ : OpC)) (by rw [h]; exact (by decide))
  rw [h2.2, h]
  exact ⟨((.slice none 0 0, []), (.slice none 0 0, [])), rfl, h2.1.symm, (S44.fin1 0 V (hc44))⟩
 refine wp_skip ?_
 refine tk H34 (wp_seq_k fun K45 H45 => ?_)
 refine wp_seq_k fun K46 H46 => region_in ?_
 refine W_r V V (VR_ldA V (fg8 F36) (S37.obj 2 V hc4) Try.underlying42 V (by kernel_rfl)) ?_
 refine W_call V V V Try.func27 (by kernel_rfl) V (args1 (et V)) (kopc_c (kd := kd) (a := a) (b := b) (f := f) (p := p) (q := q) (uu := uu)  ) ?_
 rintro _ w47 ⟨rfl, hP47⟩
 refine ⟨_, rfl, ?_⟩
 have S47 := S37.join hP47
 replace S47 : St w NoX [c6, c5, c4, c3] w47 := S47
 refine W_v V V (V_asg V (et V)) ?_
 refine W_end (gen_Q fun A48 E48 => ?_)
 have hsz48 := szq E48
 have F48 := fsE E48 (ck (cq2 F36 V) V V)
 clear E48 hsz36 F36
 refine tk H46 (wp_seq_k fun K49 H49 => region_in ?_)
 refine W_v V V (V_mov V (fg0 F48)) ?_
 refine W_v V V (V_neq V (et V) V) ?_
 refine W_end (gen_Q fun A50 E50 => ?_)
 have hsz50 := szq E50
 have F50 := fsE E50 (ck (cq1 F48 V) V V)
 clear E50 hsz48 F48
 refine tk H49 ?_
 refine cond_dec (fg0 F50) (fun c51 => ?_) (fun c51 => ?_)
 ·refine wp_seq_k fun K52 H52 => region_in ?_
  refine W_v V V (xbS (n := 2) (z := .agg #[.slice none 0 0, .slice none 0 0]) V (parts0)) ?_
  refine W_v V V (xbS (n := 3) (z := .agg #[.int .i64 0, .bool false, .int .u64 0]) V (parts0)) ?_
  refine W_v V V (V_mov V (es2 V (fg1 F50))) ?_
  refine xsA 1 S47 V hc5 V V V (es3 V (fg9 F50)) (es2 V (et V)) (fun w53 c53 hc53 S53 => ?_)
  replace S53 : St w NoX [c6, c53, c4, c3] w53 := S53
  refine xsA 0 S53 V hc6 V V V (es3 V (fg8 F50)) (es V (et V)) (fun w54 c54 hc54 S54 => ?_)
  replace S54 : St w NoX [c54, c53, c4, c3] w54 := S54
  refine W_v V V (V_asg V (et V)) ?_
  refine W_end (gen_Q fun A55 E55 => ?_)
  have hsz55 := szq E55
  have F55 := fsE E55 (ck (cq3 (fx6 F50) V) V V)
  clear E55 hsz50 F50
  have S56 : St w NoX [c54, c53] w54 := S54.sel [0, 1] (by decide) V
  refine tk H52 (wp_ret (then_ret ?_))
  refine ret_in (results_3 Try.results16 (rv_cellA (fg9 F55) (S56.obj 1 V hc53) Try.underlying36 V (by kernel_rfl)) (rv_cellA (fg8 F55) (S56.obj 0 V hc54) Try.underlying44 V (by kernel_rfl)) (rv_tmp (fg0 F55))) F55.d ?_
  obtain ⟨c57, hc57, S57⟩ := gen1 (gl_nl S56)
  replace S57 : St w NoX [c57, c54, c53] w54 := S57
  have h : (stE (cfE C N Z K Q) K (gab G) (⟨kd, a, b, f, p, q, uu⟩ : OpC)) = (opE (⟨kd, a, b, f, p, q, uu⟩ : OpC)) := st_op (g := gab G) c14 c27 c38
  have h2 := st_e (cf := (cfE C N Z K Q)) (n := lgN C N Z K Q) (K := K) (g := gab G) (c := (⟨kd, a, b, f, p, q, uu⟩ : OpC)) (by rw [h]; exact c51)
  rw [h2.2, h]
  exact ⟨((.slice none 0 0, []), (.slice none 0 0, [])), rfl, h2.1.symm, (S57.fin1 0 V (hc57))⟩
 refine wp_skip ?_
 refine tk H45 (wp_seq_k fun K58 H58 => region_in ?_)
 refine W_v V V (V_fa (off' := 1) V (fg11 F50) Try.underlying36 V (by decide +kernel) V) ?_
 refine W_r V V (xlC (v := G.2.1) V (et V) (S47.obj 3 V hc3) Try.underlying25) ?_
 refine W_call V V V Try.func28 (by kernel_rfl) V (args1 (et V)) (kcl_c (S47.roC Gr) (by first | omega | with_reducible assumption)) ?_
 rintro _ w59 ⟨v_59, rfl, hP59⟩
 refine ⟨_, rfl, ?_⟩
 obtain ⟨c_59, hc_59, hP59⟩ := gen1 hP59
 have S59 := S47.join hP59
 replace S59 : St w NoX [c_59, c6, c5, c4, c3] w59 := S59
 refine W_v V V (V_fa (off' := 1) V (es3 V (fg9 F50)) Try.underlying36 V (by decide +kernel) V) ?_
 refine xsC (zs' := #[.slice none 0 0, v_59]) 2 S59 V hc5 V V V (et V) (es V (et V)) (SlN_one (ow_at (S59.chq 0 V hc_59))) (fun w60 c60 hc60 S60 => ?_)
 replace S60 : St w NoX [c_59, c6, c60, c4, c3] w60 := S60
 refine W_end (gen_Q fun A61 E61 => ?_)
 have hsz61 := szq E61
 have F61 := fsE E61 (cq4 F50 V)
 clear E61 hsz50 F50
 refine tk H58 (wp_seq_k fun K62 H62 => ?_)
 refine wp_seq_k fun K63 H63 => region_in ?_
 refine W_v V V (V_fa (off' := 0) V (fg11 F61) Try.underlying36 V (by decide +kernel) V) ?_
 refine W_r V V (xlC (v := G.1.1) V (et V) (S60.obj 4 V hc3) Try.underlying34) ?_
 refine W_v V V (V_lenS V (et V) (sl_SlN Go.at) Try.underlying34) ?_
 refine W_v V V (V_mov V V) ?_
 refine W_end (gen_Q fun A64 E64 => ?_)
 have hsz64 := szq E64
 have F64 := fsE E64 (ck (ck (ck (cq1 F61 V) V V) V V) V V)
 clear E64 hsz61 F61
 have S65 : St w NoX [c_59, c6, c60, c4] w60 := S60.sel [0, 1, 2, 3] (by decide) V
 refine tk H63 (wp_block ?_)
 obtain ⟨c66, hc66, S66⟩ := S65.pnil (s := 2)
 replace hc66 : c66 = ro 2 obC (.slice none 0 0) ([] : List Ob) := hc66
 obtain ⟨c67, cb67, hc67, hcb67, S67⟩ := gen2 (nst_nils S66)
 replace S67 : St w NoX [c67, cb67, c66, c_59, c6, c60, c4] w60 := S67
 -- loop 14
 refine loopX (fun mz A' w' => SzN A' 87 ∧ A'.defers = [] ∧ (∃ (k : Nat) (hv : Value) (H : List Ob), (mz = G.1.2.length - k) ∧ (k ≤ G.1.2.length) ∧ (H.map ab = (G.1.2.map ab).take k) ∧ (EV A' (.tmp 58) = .int .i64 (k : Int)) ∧ (EV A' (.tmp 5) = EV A64 (.tmp 5)) ∧ (EV A' (.tmp 6) = EV A64 (.tmp 6)) ∧ (EV A' (.tmp 7) = EV A64 (.tmp 7)) ∧ (EV A' (.tmp 9) = EV A64 (.tmp 9)) ∧ (EV A' (.tmp 56) = EV A64 (.tmp 56)) ∧ (EV A' (.tmp 57) = EV A64 (.tmp 57)) ∧ (St w NoX [owl .i64 (H.map (·.1)), owl .u64 (H.map (·.2)), ro 2 obC hv H, io .i64 v_59 G.2.2, bx g6 44 #[.int .i64 0, .bool false, .int .u64 0], bx g5 36 #[hv, v_59], bx g4 42 #[.int .i64 (kd), .int .i64 (a), .int .i64 (b), .int .i64 (f), .int .i64 (p), .int .i64 (q), .int .u64 (uu)]] w'))) (G.1.2.length - 0) ⟨hsz64, F64.d, 0, (.slice none 0 0), [], rfl, (by omega), rfl, (((fg0 F64)).trans (by first | rfl | (simp; done) | (congr 1; omega))), rfl, rfl, rfl, rfl, rfl, rfl, (by subst hc67 hcb67 hc66 hc_59 hc6 hc60 hc4; exact S67)⟩ ?_
 clear S67 hc67 hcb67 hc66 hc_59 hc6 hc60 hc4
 rintro n68 A68 w68 ⟨hsz68, hdf68, k, hv, H, hm68, hk, hH, l58_68, u5_68, u6_68, u7_68, u9_68, u56_68, u57_68, S68⟩
 have l5_68 := u5_68.trans (fg13 F64)
 have l6_68 := u6_68.trans (fg12 F64)
 have l7_68 := u7_68.trans (fg11 F64)
 have l9_68 := u9_68.trans (fg10 F64)
 have l56_68 := u56_68.trans (fg2 F64)
 have l57_68 := u57_68.trans (fg1 F64)
 obtain ⟨c67_68, cb67_68, c66_68, c_68, c6_68, c60_68, c4_68, hc67_68, hcb67_68, hc66_68, hc_68, hc6_68, hc60_68, hc4_68, S68⟩ := gen7 S68
 refine wp_seq_k fun K69 H69 => region_in ?_
 refine W_v V V (V_lss V l58_68 l57_68) ?_
 refine W_end (gen_Q fun A70 E70 => ?_)
 have hsz70 := szq E70
 have F70 := (((((((fsE E70 (ck (FS.n hdf68) V V)).c (lookE E70 5 (es V l5_68))).c (lookE E70 6 (es V l6_68))).c (lookE E70 7 (es V l7_68))).c (lookE E70 9 (es V l9_68))).c (lookE E70 56 (es V l56_68))).c (lookE E70 57 (es V l57_68))).c (lookE E70 58 (es V l58_68))
 clear E70 hsz68 hdf68 l58_68 l5_68 l6_68 l7_68 l9_68 l56_68 l57_68
 refine tk H69 (wp_seq_k fun K71 H71 => ?_)
 refine cond_dec (fg7 F70) (fun c72 => ?_) (fun c72 => ?_)
 ·have hHl := mp_len hH hk
  refine wp_skip ?_
  refine tk H71 (wp_seq_k fun K73 H73 => ?_)
  refine wp_block ?_
  refine wp_seq_k fun K74 H74 => region_in ?_
  have k75 : k < G.1.2.length := by first | omega | (simp only [List.length_cons, List.length_nil]; omega) | (simp only [List.length_set]; omega) | decide
  obtain ⟨y75, hy75⟩ := get_some (xs := G.1.2) (k := k) k75
  have hsy := hsm.at hy75
  obtain ⟨B75, O75, C75, hv75⟩ := (SlN.blk (sl_SlN Go.at) (by first | omega | (simp only [List.length_cons, List.length_nil]; omega) | (simp only [List.length_set]; omega) | decide))
  refine W_v V V (V_ixS (off := O75 + k * 2) 2 (k) V (fg2 F70) (fg0 F70) hv75 (by omega) k75 Try.underlying34 (by kernel_rfl) V) ?_
  have fn76 : Ro w NoX (il .i64 y75.1.1 y75.1.2) := nst_ro1 Gn hy75
  have bfn76 := SlN.le (sl_SlN (S68.ro fn76))
  have fn77 : Ro w NoX (il .u64 y75.2.1 y75.2.2) := nst_ro2 Gn hy75
  have bfn77 := SlN.le (sl_SlN (S68.ro fn77))
  refine W_r V V (VR_ldR (ys := obC y75) V (et V) (SlN.row obC_len (sl_SlN (S68.ro Go)) hv75 hy75 V) Try.underlying68 V (by kernel_rfl)) ?_
  refine W_allocS (z := .agg #[.slice none 0 0, .slice none 0 0]) (zs := #[.slice none 0 0, .slice none 0 0]) S68 V V V (by kernel_rfl) (by rfl) (fun g78 w78 c78 hc78 S78 => ?_)
  replace S78 : St w NoX [c78, c67_68, cb67_68, c66_68, c_68, c6_68, c60_68, c4_68] w78 := S78
  refine xsB 0 S78 V hc78 V V V (et V) (es V (et V)) (by simp only [List.all_toArray, List.all_cons, List.all_nil, obC, SlN_one (sl_SlN fn76.at), SlN_one (sl_SlN fn77.at)] <;> rfl) (fun w79 c79 hc79 S79 => ?_)
  replace S79 : St w NoX [c79, c67_68, cb67_68, c66_68, c_68, c6_68, c60_68, c4_68] w79 := S79
  refine W_end (gen_Q fun A80 E80 => ?_)
  have hsz80 := szq E80
  have F80 := fsE E80 (ck (cq2 F70 V) V V)
  clear E80 hsz70 F70
  refine tk H74 ?_
  refine region_monoS 10 11 [none, none, none, none, some (SPv [] (fun _ => fun u l' => ∃ v_s, u = v_s ∧ ∃ c_s, c_s = io .i64 (v_s) y75.1.2 ∧ l' = [c_s]) 4), none, none, some (SPv [] (fun _ => fun u l' => ∃ v_s, u = v_s ∧ ∃ c_s, c_s = io .u64 (v_s) y75.2.2 ∧ l' = [c_s]) 7), none, some (SPv [66, 69] (fun vs => fun u l' => ∃ g_, u = .slice (some ⟨g_, 0, none⟩) 1 1 ∧ ∃ c_, c_ = ro 2 obC (.slice (some ⟨g_, 0, none⟩) 1 1) [(((vs.getD 0 undef), y75.1.2), ((vs.getD 1 undef), y75.2.2))] ∧ l' = [c_]) 9)] (by kernel_rfl) (by kernel_rfl) ?_
  refine D_v V V (V_fa (off' := 0) V (fg6 F80) Try.underlying36 V (by decide +kernel) V) V V ?_
  refine D_r V V (by kernel_rfl) (fun sx hx hF => (VR_ldC V (et V) (cell_box (v := hv) ((S79.grow hx).obj 6 V hc60_68) V) Try.underlying34 V)) V V ?_
  refine D_v V V (V_fa (off' := 0) V (es2 V (fg0 F80)) Try.underlying68 V (by decide +kernel) V) V V ?_
  refine D_r V V (by kernel_rfl) (fun sx hx hF => (VR_ldC V (et V) (cell_box (v := y75.1.1) ((S79.grow hx).obj 0 V hc79) V) Try.underlying25 V)) V V ?_
  refine D_call (ts := []) (vs := []) (C0 := fun _ => fun u l' => ∃ v_s, u = v_s ∧ ∃ c_s, c_s = io .i64 (v_s) y75.1.2 ∧ l' = [c_s]) (C := fun u l' => ∃ v_s, u = v_s ∧ ∃ c_s, c_s = io .i64 (v_s) y75.1.2 ∧ l' = [c_s]) V V V Try.func28 (by kernel_rfl) V (args1 (et V)) V V V V (fun sx hx hF => ?_) (fun u81 l81 hu81 => ?_)
  ·refine (kcl_c ((S79.grow hx).roC fn76) (by first | omega | with_reducible assumption)).mono ?_
   rintro _ _ ⟨v_81, rfl, hz⟩
   exact ⟨_, rfl, _, ⟨_, rfl, _, rfl, rfl⟩, hz⟩
  obtain ⟨v_81, rfl, c_81, hc_81, hl81⟩ := hu81
  refine D_v V V (V_fa (off' := 1) V (es5 V (fg0 F80)) Try.underlying68 V (by decide +kernel) V) V V ?_
  refine D_r V V (by kernel_rfl) (fun sx hx hF => (VR_ldC V (et V) (cell_box (v := y75.2.1) ((S79.grow hx).obj 0 V hc79) V) Try.underlying66 V)) V V ?_
  refine D_call (ts := []) (vs := []) (C0 := fun _ => fun u l' => ∃ v_s, u = v_s ∧ ∃ c_s, c_s = io .u64 (v_s) y75.2.2 ∧ l' = [c_s]) (C := fun u l' => ∃ v_s, u = v_s ∧ ∃ c_s, c_s = io .u64 (v_s) y75.2.2 ∧ l' = [c_s]) V V V Try.func29 (by kernel_rfl) V (args1 (et V)) V V V V (fun sx hx hF => ?_) (fun u82 l82 hu82 => ?_)
  ·refine (kcu_c ((S79.grow hx).roC fn77) (by first | omega | with_reducible assumption)).mono ?_
   rintro _ _ ⟨v_82, rfl, hz⟩
   exact ⟨_, rfl, _, ⟨_, rfl, _, rfl, rfl⟩, hz⟩
  obtain ⟨v_82, rfl, c_82, hc_82, hl82⟩ := hu82
  refine D_r V V (by kernel_rfl) (fun sx hx hF => by obtain ⟨ll81, ws81, we81, ⟨v_81q, hq81, c_81_, hc_81_, hl81_⟩, hm81, k81, e81⟩ := L.ancF_get (L.ancF_rest hF) (by kernel_rfl); cases hq81; subst hl81_; obtain ⟨ll82, ws82, we82, ⟨v_82q, hq82, c_82_, hc_82_, hl82_⟩, hm82, k82, e82⟩ := L.ancF_get hF (by kernel_rfl); cases hq82; subst hl82_; exact ((V_bldS (n := 2) (z := .agg #[.slice none 0 0, .slice none 0 0]) V (parts2 (es3 V (et V)) (et V)) (by kernel_rfl) (by simp only [List.all_cons, List.all_nil, SlN_one (ow_at ((k81.grow e81).chq 0 V hc_81_)), SlN_one (ow_at ((k82.grow e82).chq 0 V hc_82_)), Bool.and_true] <;> rfl) (by kernel_rfl) (by simp only [List.foldl_cons, List.foldl_nil, Value.cells, List.setIfInBounds_toArray, List.set_cons_succ, List.set_cons_zero] <;> rfl) : Val _ _ _ _) _)) V V ?_
  have hll83 : [((u81, y75.1.2), (u82, y75.2.2))].length = 1 := rfl
  refine D_lay (ts := [66, 69]) (vs := [u81, u82]) (C0 := fun vs => fun u l' => ∃ g_, u = .slice (some ⟨g_, 0, none⟩) 1 1 ∧ ∃ c_, c_ = ro 2 obC (.slice (some ⟨g_, 0, none⟩) 1 1) [(((vs.getD 0 undef), y75.1.2), ((vs.getD 1 undef), y75.2.2))] ∧ l' = [c_]) (C := fun u l' => ∃ g_, u = .slice (some ⟨g_, 0, none⟩) 1 1 ∧ ∃ c_, c_ = ro 2 obC (.slice (some ⟨g_, 0, none⟩) 1 1) [((u81, y75.1.2), (u82, y75.2.2))] ∧ l' = [c_]) V V V V (ts2 (es4 V (et V)) (es V (et V))) V (fun sx hx hF => lay_lit (vs := [.agg #[u81, u82]]) 2 V (parts1 (et V)) V Try.underlying34 (by kernel_rfl) (by decide) (by intro v hv; simp only [List.mem_cons, List.not_mem_nil, or_false] at hv; rcases hv with rfl <;> rfl) (by rfl)) (fun u83 l83 hu83 => ?_)
  obtain ⟨g83, rfl, c83, hc83, hl83⟩ := hu83
  refine D_eff V ?_
  refine ZS_eff S79 V V (fun s84 hJ84 hL84 hF84 => ?_)
  obtain ⟨ll81, ws81, we81, ⟨v_81q, hq81, c_81r, hc_81r, hl81r⟩, hm81, k81, e81⟩ := L.all_get (L.all_rest (L.all_rest hF84)); cases hq81; subst hl81r
  replace hJ84 := hJ84.add hL84 (i := 4) V hm81 k81 e81
  obtain ⟨ll82, ws82, we82, ⟨v_82q, hq82, c_82r, hc_82r, hl82r⟩, hm82, k82, e82⟩ := L.all_get (L.all_rest hF84); cases hq82; subst hl82r
  replace hJ84 := hJ84.add hL84 (i := 7) V hm82 k82 e82
  obtain ⟨ll83, ws83, we83, ⟨g83q, hq83, c83r, hc83r, hl83r⟩, hm83, k83, e83⟩ := L.all_get hF84; cases hq83; subst hl83r
  replace hJ84 := hJ84.add hL84 (i := 9) V hm83 k83 e83
  have S84 := hJ84.st; clear hF84 hJ84 hL84
  generalize s84.1 = w84 at *
  replace S84 : St w NoX [c83r, c_82r, c_81r, c79, c67_68, cb67_68, c66_68, c_68, c6_68, c60_68, c4_68] w84 := S84
  refine W_appS 2 6 S84 V hc66_68 V V V (es8 V (et V)) (et V) Try.underlying34 Try.underlying34 (z := .agg #[.slice none 0 0, .slice none 0 0]) (bytes := 48) (by kernel_rfl) V (by decide) (ow_at (S84.chq 0 V hc83r)) (by intro u hu; simp only [List.flatMap_cons, List.flatMap_nil, obC, List.append_nil, List.cons_append, List.nil_append, List.mem_cons, List.not_mem_nil, or_false] at hu; rcases hu with rfl | rfl <;> first | exact SlN_one (ow_at (S84.chq 2 V hc_81r)) | exact SlN_one (ow_at (S84.chq 1 V hc_82r))) (by first | omega | (simp; done) | (simp; omega)) (by first | omega | (simp; done) | (simp; omega)) (fun v85 w85 c85 hc85 S85 => ?_)
  replace hc85 : c85 = ro 2 obC v85 (H ++ [((u81, y75.1.2), (u82, y75.2.2))]) := hc85.trans (app_eqR (by first | (simp; done) | (rw [List.take_of_length_le (l := List.drop _ _) (by rw [List.length_drop]; exact Nat.le_refl _)])))
  replace S85 : St w NoX [c83r, c_82r, c_81r, c79, c67_68, cb67_68, c85, c_68, c6_68, c60_68, c4_68] w85 := S85
  have S86 := S85.sel [2, 4, 1, 5, 0, 3, 6, 7, 8, 9, 10] (by decide) (l' := [c_81r, c67_68, c_82r, cb67_68, c83r, c79, c85, c_68, c6_68, c60_68, c4_68]) V
  replace S86 : St w NoX [c_81r, c67_68, c_82r, cb67_68, c83r, c79, c85, c_68, c6_68, c60_68, c4_68] w85 := S86
  rw [hc_81r, hc67_68, hc_82r, hcb67_68] at S86
  obtain ⟨c87, cb87, hc87, hcb87, S87⟩ := gen2 (nst_push (pv := u81) (ps := y75.1.2) (qv := u82) (qs := y75.2.2) (O := H) S86)
  replace S87 : St w NoX [c87, cb87, c83r, c79, c85, c_68, c6_68, c60_68, c4_68] w85 := S87
  replace hc87 : c87 = owl .i64 ((H ++ [((u81, y75.1.2), (u82, y75.2.2))]).map (·.1)) := hc87
  replace hcb87 : cb87 = owl .u64 ((H ++ [((u81, y75.1.2), (u82, y75.2.2))]).map (·.2)) := hcb87
  refine W_v V V (V_fa (off' := 0) V (es8 V (es3 V (fg6 F80))) Try.underlying36 V (by decide +kernel) V) ?_
  refine xsC (zs' := #[v85, v_59]) 7 S87 V hc60_68 V V V (et V) (es V (et V)) (SlN_one (ow_at (S87.chq 4 V hc85))) (fun w88 c88 hc88 S88 => ?_)
  replace S88 : St w NoX [c87, cb87, c83r, c79, c85, c_68, c6_68, c88, c4_68] w88 := S88
  refine W_end (Qo_normal ?_)
  refine gen_Q (fun A89 E89 => ?_)
  have hsz89 := szq E89
  have F89 := fsE E89 (cq4 (cq8 F80 V) V)
  clear E89 hsz80 F80
  have S90 : St w NoX [c87, cb87, c85, c_68, c6_68, c88, c4_68] w88 := S88.sel [0, 1, 4, 5, 6, 7, 8] (by decide) V
  refine inb_n (tk H73 ?_)
  refine region_in ?_
  refine W_v V V (V_add V (fg1 F89) V (by omega) (by omega)) ?_
  refine W_v V V (V_mov V (et V)) ?_
  refine W_end (gen_Q fun A91 E91 => ?_)
  have hsz91 := szq E91
  have F91 := fsE E91 (ck (cq1 (fx1 F89) V) V V)
  clear E91 hsz89 F89
  refine then_n ⟨G.1.2.length - (k + 1), by simp only [hm68]; omega, hsz91, F91.d, (k + 1), v85, (H ++ [((u81, y75.1.2), (u82, y75.2.2))]), rfl, (by omega), (mp_snoc hH hy75 V), (((fg0 F91)).trans (by first | rfl | (simp; done) | (congr 1; omega))), (((fg7 F91)).trans (fg13 F64).symm), (((fg6 F91)).trans (fg12 F64).symm), (((fg5 F91)).trans (fg11 F64).symm), (((fg4 F91)).trans (fg10 F64).symm), (((fg3 F91)).trans (fg2 F64).symm), (((fg2 F91)).trans (fg1 F64).symm), (by subst hc87 hcb87 hc85 hc_68 hc6_68 hc88 hc4_68; exact S90)⟩
 have hHO := mp_done hH (by omega)
 have hsm : SM (H.map ab) := by rw [hHO]; exact hsm
 have hop : opE (⟨kd, a, b, f, p, q, uu⟩ : OpC) = 0 := by omega
 have hlg := lg_rng (C := C) (N := N) (Z := Z) (K := K) (Q := Q)
 refine wp_exit (then_exit (then_exit ?_))
 refine inb_hit ?_
 refine tk H62 (wp_seq_k fun K92 H92 => region_in ?_)
 refine W_r V V (VR_ldA V (fg5 F70) (S68.obj 5 V hc60_68) Try.underlying36 V (by kernel_rfl)) ?_
 refine W_v V V (V_mov V (es V (fg3 F70))) ?_
 refine W_v V V (V_bld (cs := #[hv, v_59, .int .i64 ((lgN C N Z K Q))]) V (parts2 (es V (et V)) (et V)) (by kernel_rfl)) ?_
 refine W_boxS (zs := #[hv, v_59, .int .i64 ((lgN C N Z K Q))]) S68 V V V (et V) (by rfl) (fun g93 w93 c93 hc93 S93 => ?_)
 replace S93 : St w NoX [c93, c67_68, cb67_68, c66_68, c_68, c6_68, c60_68, c4_68] w93 := S93
 refine W_v V V (V_asg V (et V)) ?_
 refine W_end (gen_Q fun A94 E94 => ?_)
 have hsz94 := szq E94
 have F94 := fsE E94 (ck (cq4 F70 V) V V)
 clear E94 hsz70 F70
 refine tk H92 (wp_seq_k fun K95 H95 => region_in ?_)
 refine W_v V V (V_mov V (fg0 F94)) ?_
 refine W_r V V (VR_ldA V (es V (fg7 F94)) (S93.obj 7 V hc4_68) Try.underlying42 V (by kernel_rfl)) ?_
 have S96 := S93.sel [3, 1, 2, 4, 0, 5, 6, 7] (by decide) (l' := [c66_68, c67_68, cb67_68, c_68, c93, c6_68, c60_68, c4_68]) V
 replace S96 : St w NoX [c66_68, c67_68, cb67_68, c_68, c93, c6_68, c60_68, c4_68] w93 := S96
 rw [hc66_68, hc67_68, hcb67_68, hc_68] at S96
 obtain ⟨c97, hc97, S97⟩ := gen1 (gl_of (hv := hv) (H := H) (qv := v_59) (q := G.2.2) S96)
 replace S97 : St w NoX [c97, c93, c6_68, c60_68, c4_68] w93 := S97
 have S98 := S97.sel [1, 0, 2, 3, 4] (by decide) (l' := [c93, c97, c6_68, c60_68, c4_68]) V
 replace S98 : St w NoX [c93, c97, c6_68, c60_68, c4_68] w93 := S98
 obtain ⟨Y99, hP99, hR99, hF99, hB99⟩ := St.call (pre := [c93]) (fr := [c97, c6_68, c60_68, c4_68]) S98
 rw [hc93] at hP99
 refine W_call V V V Try.func30 (by kernel_rfl) V (args2 (es V (et V)) (et V)) (kdo_c (G := ((hv, H), (v_59, G.2.2))) (kd := kd) (a := a) (b := b) (f := f) (p := p) (q := q) (uu := uu) (gl_mk (gl_oaR m1 (hc97 ▸ hF99 0 _ V)) (gl_naR m1 (hc97 ▸ hF99 0 _ V)) (gl_raR m1 (hc97 ▸ hF99 0 _ V))) hP99 (by first | with_reducible assumption | exact hsm) (by first | with_reducible assumption | omega) (by first | with_reducible assumption)) ?_
 rintro _ w100 ⟨Gx_100, Gn_100, rfl, hg_100, hm_100, hP100⟩
 refine ⟨_, rfl, ?_⟩
 obtain ⟨cB_100, cK_100, hcB_100, hcK_100, hP100⟩ := gen2 hP100
 have S100 := hB99 _ _ hP100
 replace S100 : St w NoX [cB_100, cK_100, c97, c6_68, c60_68, c4_68] w100 := S100
 have hgab : gab ((hv, H), (v_59, G.2.2)) = gab G := Prod.ext hHO V
 have S101 := S100.sel [2, 1, 0, 3, 4, 5] (by decide) (l' := [c97, cK_100, cB_100, c6_68, c60_68, c4_68]) V
 replace S101 : St w NoX [c97, cK_100, cB_100, c6_68, c60_68, c4_68] w100 := S101
 rw [hc97, hcK_100] at S101
 obtain ⟨c102, hc102, S102⟩ := gen1 (gl_app (L := [((hv, H), (v_59, G.2.2))]) (M := Gn_100) S101)
 replace S102 : St w NoX [c102, cB_100, c6_68, c60_68, c4_68] w100 := S102
 refine xsA 2 S102 V hc6_68 V V V (es3 V (fg5 F94)) (et V) (fun w103 c103 hc103 S103 => ?_)
 replace S103 : St w NoX [c102, cB_100, c103, c60_68, c4_68] w103 := S103
 refine W_end (gen_Q fun A104 E104 => ?_)
 have hsz104 := szq E104
 have F104 := fsE E104 (cq3 F94 V)
 clear E104 hsz94 F94
 have S105 : St w NoX [c102, cB_100, c103, c60_68] w103 := S103.sel [0, 1, 2, 3] (by decide) V
 refine tk H95 (wp_seq_k fun K106 H106 => ?_)
 refine region_anyQ (by kernel_rfl) 8 V (fun w227 hx227 => ?_)
 have S227 := S105.grow hx227
 refine AX_parL (l0 := [c102, cB_100, c103, c60_68]) (k := 0) [⟨[], [], [82], fun vs => [], fun vs => (vs.getD 0 undef) = .pointer (some ⟨g93, 0, none⟩)⟩, ⟨[], [], [83], fun vs => [], fun vs => (vs.getD 0 undef) = .pointer (some ⟨g93, 0, none⟩)⟩, ⟨[], [], [84], fun vs => [], fun vs => (vs.getD 0 undef) = .pointer (some ⟨g93, 0, none⟩)⟩, ⟨[1], [], [85], fun vs => [], fun vs => (vs.getD 0 undef) = .agg #[Gx_100.1.1, Gx_100.2.1]⟩, ⟨[2], [], [86], fun vs => [], fun vs => (vs.getD 0 undef) = .agg #[.int .i64 ((doG (lgN C N Z K Q) (gab ((hv, H), (v_59, G.2.2))) (⟨kd, a, b, f, p, q, uu⟩ : OpC)).2.e), .bool ((doG (lgN C N Z K Q) (gab ((hv, H), (v_59, G.2.2))) (⟨kd, a, b, f, p, q, uu⟩ : OpC)).2.t), .int .u64 ((doG (lgN C N Z K Q) (gab ((hv, H), (v_59, G.2.2))) (⟨kd, a, b, f, p, q, uu⟩ : OpC)).2.v)]⟩, ⟨[0], [3], [], fun vs => [bx g5 36 #[Gx_100.1.1, Gx_100.2.1]], fun vs => True⟩, ⟨[], [2], [], fun vs => [bx g6 44 #[.int .i64 ((doG (lgN C N Z K Q) (gab ((hv, H), (v_59, G.2.2))) (⟨kd, a, b, f, p, q, uu⟩ : OpC)).2.e), .bool ((doG (lgN C N Z K Q) (gab ((hv, H), (v_59, G.2.2))) (⟨kd, a, b, f, p, q, uu⟩ : OpC)).2.t), .int .u64 ((doG (lgN C N Z K Q) (gab ((hv, H), (v_59, G.2.2))) (⟨kd, a, b, f, p, q, uu⟩ : OpC)).2.v)]], fun vs => True⟩, ⟨[], [], [8], fun vs => [], fun vs => (vs.getD 0 undef) = .int .i64 0⟩] [c102, cB_100, c103, c60_68] S227 V (by kernel_rfl) V ⟨?_, ?_, ?_, ?_, ?_, ?_, ?_, ?_, trivial⟩ ?_
 ·refine stepI [] (fun vs => []) V (fun a => by kernel_rfl) ?_
  intro A228 w228 rst hFr hF S228
  replace S228 : St w NoX [rst] w228 := S228
  have hsz228 : SzN A228 87 := ⟨hFr.sz.trans hsz104.out⟩
  have hdf228 : A228.defers = [] := hFr.df.trans F104.d
  have l15_228 := (oldS hFr 15 (by kernel_rfl)).trans (fg0 F104)
  refine W_v V V (V_mov V l15_228) (W_end (kq _ ?_))
  exact ⟨_, [.pointer (some ⟨g93, 0, none⟩)], rfl, ts1 (et V), rfl, rfl, S228⟩
 ·refine stepI [] (fun vs => []) V (fun a => by kernel_rfl) ?_
  intro A229 w229 rst hFr hF S229
  replace S229 : St w NoX [rst] w229 := S229
  have f82_229 : EV A229 (.tmp 82) = .pointer (some ⟨g93, 0, none⟩) := hF 0 (by kernel_rfl)
  generalize q82_229 : EV A229 (.tmp 82) = us82 at S229 f82_229
  have l82_229 := q82_229.trans f82_229
  have hsz229 : SzN A229 87 := ⟨hFr.sz.trans hsz104.out⟩
  have hdf229 : A229.defers = [] := hFr.df.trans F104.d
  refine W_v V V (V_nil V l82_229) ?_
  refine W_end (kq _ ?_)
  subst q82_229
  exact ⟨_, [.pointer (some ⟨g93, 0, none⟩)], rfl, ts1 (et V), rfl, rfl, S229⟩
 ·refine stepI [] (fun vs => []) V (fun a => by kernel_rfl) ?_
  intro A230 w230 rst hFr hF S230
  replace S230 : St w NoX [rst] w230 := S230
  have f83_230 : EV A230 (.tmp 83) = .pointer (some ⟨g93, 0, none⟩) := hF 1 (by kernel_rfl)
  generalize q83_230 : EV A230 (.tmp 83) = us83 at S230 f83_230
  have l83_230 := q83_230.trans f83_230
  have hsz230 : SzN A230 87 := ⟨hFr.sz.trans hsz104.out⟩
  have hdf230 : A230.defers = [] := hFr.df.trans F104.d
  refine W_v V V (V_fa (off' := 0) V l83_230 Try.underlying75 V (by decide +kernel) V) ?_
  refine W_end (kq _ ?_)
  subst q83_230
  exact ⟨_, [.pointer (some ⟨g93, 0, none⟩)], rfl, ts1 (et V), rfl, rfl, S230⟩
 ·refine stepI [] (fun vs => [cB_100]) V (fun a => by kernel_rfl) ?_
  intro A231 w231 rst hFr hF S231
  replace S231 : St w NoX [cB_100, rst] w231 := S231
  have f84_231 : EV A231 (.tmp 84) = .pointer (some ⟨g93, 0, none⟩) := hF 2 (by kernel_rfl)
  generalize q84_231 : EV A231 (.tmp 84) = us84 at S231 f84_231
  have l84_231 := q84_231.trans f84_231
  have hsz231 : SzN A231 87 := ⟨hFr.sz.trans hsz104.out⟩
  have hdf231 : A231.defers = [] := hFr.df.trans F104.d
  obtain ⟨cB_231, hcB_231, S231⟩ := gen1 S231
  replace hcB_231 := hcB_231.trans hcB_100
  refine W_r V V (VR_ldP (ys := [Gx_100.1.1, Gx_100.2.1]) V l84_231 (S231.obj 0 V hcB_231) (ldP_at V) Try.underlying36 V (by kernel_rfl)) ?_
  refine W_end (kq _ ?_)
  subst q84_231
  exact ⟨_, [.agg #[Gx_100.1.1, Gx_100.2.1]], rfl, ts1 (et V), rfl, rfl, by subst hcB_231 hcB_100; exact S231⟩
 ·refine stepI [] (fun vs => [c103]) V (fun a => by kernel_rfl) ?_
  intro A232 w232 rst hFr hF S232
  replace S232 : St w NoX [c103, rst] w232 := S232
  have hsz232 : SzN A232 87 := ⟨hFr.sz.trans hsz104.out⟩
  have hdf232 : A232.defers = [] := hFr.df.trans F104.d
  have l7_232 := (oldS hFr 7 (by kernel_rfl)).trans (fg5 F104)
  obtain ⟨c103_232, hc103_232, S232⟩ := gen1 S232
  replace hc103_232 := hc103_232.trans hc103
  refine W_r V V (VR_ldA V l7_232 (S232.obj 0 V hc103_232) Try.underlying44 V (by kernel_rfl)) ?_
  refine W_end (kq _ ?_)
  exact ⟨_, [.agg #[.int .i64 ((doG (lgN C N Z K Q) (gab ((hv, H), (v_59, G.2.2))) (⟨kd, a, b, f, p, q, uu⟩ : OpC)).2.e), .bool ((doG (lgN C N Z K Q) (gab ((hv, H), (v_59, G.2.2))) (⟨kd, a, b, f, p, q, uu⟩ : OpC)).2.t), .int .u64 ((doG (lgN C N Z K Q) (gab ((hv, H), (v_59, G.2.2))) (⟨kd, a, b, f, p, q, uu⟩ : OpC)).2.v)]], rfl, ts1 (et V), rfl, rfl, by subst hc103_232 hc103; exact S232⟩
 ·refine stepI [] (fun vs => [c102, c60_68]) V (fun a => by kernel_rfl) ?_
  intro A233 w233 rst hFr hF S233
  replace S233 : St w NoX [c102, c60_68, rst] w233 := S233
  have f85_233 : EV A233 (.tmp 85) = .agg #[Gx_100.1.1, Gx_100.2.1] := hF 3 (by kernel_rfl)
  generalize q85_233 : EV A233 (.tmp 85) = us85 at S233 f85_233
  have l85_233 := q85_233.trans f85_233
  have hsz233 : SzN A233 87 := ⟨hFr.sz.trans hsz104.out⟩
  have hdf233 : A233.defers = [] := hFr.df.trans F104.d
  have l6_233 := (oldS hFr 6 (by kernel_rfl)).trans (fg6 F104)
  obtain ⟨c102_233, c60_233, hc102_233, hc60_233, S233⟩ := gen2 S233
  replace hc102_233 := hc102_233.trans hc102
  replace hc60_233 := hc60_233.trans hc60_68
  refine xsB 1 S233 V hc60_233 V V V l6_233 l85_233 (by simp only [List.all_toArray, List.all_cons, List.all_nil, obC, SlN_one (sl_SlN (gl_oa (gm_mem m1 hm_100) (S233.chq 0 V hc102_233))), SlN_one (sl_SlN (gl_ra (gm_mem m1 hm_100) (S233.chq 0 V hc102_233)))] <;> rfl) (fun w234 c234 hc234 S234 => ?_)
  replace S234 : St w NoX (c102_233 :: c234 :: [rst]) w234 := S234
  refine W_end (kq _ ?_)
  subst q85_233
  exact ⟨undef, [], rfl, rfl, trivial, rfl, by subst hc102_233 hc234 hc102 hc60_68; exact S234⟩
 ·refine stepI [] (fun vs => [c103]) V (fun a => by kernel_rfl) ?_
  intro A235 w235 rst hFr hF S235
  replace S235 : St w NoX [c103, rst] w235 := S235
  have f86_235 : EV A235 (.tmp 86) = .agg #[.int .i64 ((doG (lgN C N Z K Q) (gab ((hv, H), (v_59, G.2.2))) (⟨kd, a, b, f, p, q, uu⟩ : OpC)).2.e), .bool ((doG (lgN C N Z K Q) (gab ((hv, H), (v_59, G.2.2))) (⟨kd, a, b, f, p, q, uu⟩ : OpC)).2.t), .int .u64 ((doG (lgN C N Z K Q) (gab ((hv, H), (v_59, G.2.2))) (⟨kd, a, b, f, p, q, uu⟩ : OpC)).2.v)] := hF 4 (by kernel_rfl)
  generalize q86_235 : EV A235 (.tmp 86) = us86 at S235 f86_235
  have l86_235 := q86_235.trans f86_235
  have hsz235 : SzN A235 87 := ⟨hFr.sz.trans hsz104.out⟩
  have hdf235 : A235.defers = [] := hFr.df.trans F104.d
  have l7_235 := (oldS hFr 7 (by kernel_rfl)).trans (fg5 F104)
  obtain ⟨c103_235, hc103_235, S235⟩ := gen1 S235
  replace hc103_235 := hc103_235.trans hc103
  refine xsA 0 S235 V hc103_235 V V V l7_235 l86_235 (fun w236 c236 hc236 S236 => ?_)
  replace S236 : St w NoX (c236 :: [rst]) w236 := S236
  refine W_end (kq _ ?_)
  subst q86_235
  exact ⟨undef, [], rfl, rfl, trivial, rfl, by subst hc236 hc103; exact S236⟩
 ·refine stepI [] (fun vs => []) V (fun a => by kernel_rfl) ?_
  intro A237 w237 rst hFr hF S237
  replace S237 : St w NoX [rst] w237 := S237
  have hsz237 : SzN A237 87 := ⟨hFr.sz.trans hsz104.out⟩
  have hdf237 : A237.defers = [] := hFr.df.trans F104.d
  refine W_v V V (V_asg V V) (W_end (kq _ ?_))
  exact ⟨_, [.int .i64 0], rfl, ts1 (et V), rfl, rfl, S237⟩
 intro A238 w238 hFr hF S238
 replace S238 : St w NoX [c102, cB_100, bx g6 44 #[.int .i64 ((doG (lgN C N Z K Q) (gab ((hv, H), (v_59, G.2.2))) (⟨kd, a, b, f, p, q, uu⟩ : OpC)).2.e), .bool ((doG (lgN C N Z K Q) (gab ((hv, H), (v_59, G.2.2))) (⟨kd, a, b, f, p, q, uu⟩ : OpC)).2.t), .int .u64 ((doG (lgN C N Z K Q) (gab ((hv, H), (v_59, G.2.2))) (⟨kd, a, b, f, p, q, uu⟩ : OpC)).2.v)], bx g5 36 #[Gx_100.1.1, Gx_100.2.1]] w238 := S238.cast (by kernel_rfl)
 have f8_238 : EV A238 (.tmp 8) = .int .i64 0 := hF 7 (by decide)
 generalize q8_238 : EV A238 (.tmp 8) = us8 at S238 f8_238
 have l8_238 := q8_238.trans f8_238
 have hsz238 : SzN A238 87 := ⟨hFr.sz.trans hsz104.out⟩
 have hdf238 : A238.defers = [] := hFr.df.trans F104.d
 obtain ⟨c102_238, cB_238, c168_238, c167_238, hc102_238, hcB_238, hc168_238, hc167_238, S238⟩ := gen4 S238
 replace hc102_238 := hc102_238.trans hc102
 replace hcB_238 := hcB_238.trans hcB_100
 have l6_238 := (oldS hFr 6 (by kernel_rfl)).trans (fg6 F104)
 have l7_238 := (oldS hFr 7 (by kernel_rfl)).trans (fg5 F104)
 clear hsz104 F104 S105
 refine Qo_normal (tk H106 (wp_ret ?_))
 refine ret_in (results_3 Try.results16 (rv_cellA l6_238 (S238.obj 3 V hc167_238) Try.underlying36 V (by kernel_rfl)) (rv_cellA l7_238 (S238.obj 2 V hc168_238) Try.underlying44 V (by kernel_rfl)) (rv_tmp l8_238)) hdf238 ?_
 rw [hc102_238] at S238
 obtain ⟨c239, hc239, S239⟩ := gen1 (gl_subS (M := [Gx_100]) S238 (fun G' hG' => by rw [List.mem_singleton] at hG'; subst hG'; exact gm_mem m1 hm_100))
 replace S239 : St w NoX [c239, cB_238, c168_238, c167_238] w238 := S239
 have h : (stE (cfE C N Z K Q) K (gab G) (⟨kd, a, b, f, p, q, uu⟩ : OpC)) = 0 := (st_op (g := gab G) c14 c27 c38).trans (by omega)
 have h2 := st_k (n := lgN C N Z K Q) h
 rw [h2.2, h]
 exact ⟨Gx_100, by rw [← hgab], by rw [h2.1, ← hgab]; exact hg_100, (S239.fin1 0 V (hc239))⟩

end Go.Proofs.Ytpgkfndbfocibaa