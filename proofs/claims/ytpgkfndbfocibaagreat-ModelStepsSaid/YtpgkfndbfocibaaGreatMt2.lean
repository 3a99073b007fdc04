import Derived.Test.YtpgkfndbfocibaaGreatProg
import Derived.Test.YtpgkfndbfocibaaGreatMs14
import Derived.Test.YtpgkfndbfocibaaGreatPl29j
import Derived.Test.YtpgkfndbfocibaaGreatSqL
import Derived.Test.YtpgkfndbfocibaaGreatPl15k
import Derived.Test.YtpgkfndbfocibaaGreatPl29h
import Derived.Test.YtpgkfndbfocibaaGreatPl29l
import Derived.Test.YtpgkfndbfocibaaGreatMs8
import Derived.Test.YtpgkfndbfocibaaGreatSep29g
namespace Go.Proofs.YtpgkfndbfocibaaGreat
open Go.RowKit Go.Own Go.Own.R Go.Own.G Go.Own.Gr Go.Own.Ml


end Go.Proofs.YtpgkfndbfocibaaGreat
namespace Go.Proofs.YtpgkfndbfocibaaGreat
open Go.RowKit Go.Own Go.Own.R Go.Own.G Go.Own.Gr Go.Own.Ml


set_option maxHeartbeats 4000000 in
theorem kst_c {C N Z K Q : Int} {G : GV} {kd a b f p q uu : Int} {w : World} (hg_G : Ro w NoX (gls [G])) (hsm : SM (G.1.2.map ab)) :
  Calls Tryz.prog 22 #[.agg #[.int .i64 C, .int .i64 N, .int .i64 Z, .int .i64 K, .int .i64 Q], .agg #[G.1.1, G.2.1], .agg #[.int .i64 kd, .int .i64 a, .int .i64 b, .int .i64 f, .int .i64 p, .int .i64 q, .int .u64 uu]] w fun e w' => ∃ ho1 Ho1 qo1 so1, e = .returned (.tuple #[.agg #[ho1, qo1], .agg #[.int .i64 (stA (cfE C N Z K Q) (lgN C N Z K Q) K (gab G) (⟨kd, a, b, f, p, q, uu⟩ : OpC)).e, .bool (stA (cfE C N Z K Q) (lgN C N Z K Q) K (gab G) (⟨kd, a, b, f, p, q, uu⟩ : OpC)).t, .int .u64 (stA (cfE C N Z K Q) (lgN C N Z K Q) K (gab G) (⟨kd, a, b, f, p, q, uu⟩ : OpC)).v], .int .i64 (stE (cfE C N Z K Q) K (gab G) (⟨kd, a, b, f, p, q, uu⟩ : OpC))]) ∧ (gab ((ho1, Ho1), (qo1, so1)) = (stG (cfE C N Z K Q) (lgN C N Z K Q) K (gab G) (⟨kd, a, b, f, p, q, uu⟩ : OpC))) ∧ St w NoX [gls [((ho1, Ho1), (qo1, so1))]] w' := by
 have Go := gl_o m1 hg_G
 have Gn := gl_n m1 hg_G
 have Gr := gl_r m1 hg_G
 refine ci3 87 Tryz.func22 V (fun A0 _ F0 => ?_)
 have hS := St.nil w
 have bGo := SlN.le (sl_SlN Go.at)
 have bGr := SlN.le (sl_SlN Gr.at)
 refine tb fun _ H1 => (wB (#[.int .i64 (C), .int .i64 (N), .int .i64 (Z), .int .i64 (K), .int .i64 (Q)]) hS (fg0 F0) (fun g2 w2 c2 hc2 S2 => wB (#[G.1.1, G.2.1]) S2 (Sa (fg1 F0)) (fun g3 w3 c3 hc3 S3 => wB (#[.int .i64 (kd), .int .i64 (a), .int .i64 (b), .int .i64 (f), .int .i64 (p), .int .i64 (q), .int .u64 (uu)]) S3 (Sb (fg2 F0)) (fun g4 w4 c4 hc4 S4 => wA (#[.slice none 0 0, .slice none 0 0]) S4 (fun g5 w5 c5 hc5 S5 => wA (#[.int .i64 0, .bool false, .int .u64 0]) S5 (fun g6 w6 c6 hc6 S6 => vc (W_end (en (Qa (Ke F0)) fun A7 _ F7 => ta H1 fun _ H8 => (ra (fg4 F7) (S6.ob 4 hc2) (wc (args1 t0) (klg_c (C := C) (N := N) (Z := Z) (K := K) (Q := Q)) (C0 S6 fun w9 S9 => vm t0 (vx (.int .i64 (lgN C N Z K Q)) t0 (vx (.int .i64 (cfE C N Z K Q)) (Sa t0) (va (Sa t0) (va (Sa t0) (W_end (en (Kb (Qe F7)) fun A10 _ F10 => tc H8 fun _ H11 => tb fun _ H12 => (vm (fg0 F10) (vn t0 V (W_end (en (Ka (Qa F10)) fun A13 _ F13 => tk H12 (cd (fg0 F13) (fun c14 => ?_) fun c14 => ?_))))))))))))))))))))))
 ·refine tb fun _ H15 => (wv (xbS (n := 2) (z := .agg #[.slice none 0 0, .slice none 0 0]) V parts0) (wv (xbS (n := 3) (z := .agg #[.int .i64 0, .bool false, .int .u64 0]) V parts0) (vm (Sb (fg1 F13)) (xsA1 S9 hc5 V V V (Sc (fg4 F13)) (Sb t0) (fun w16 c16 hc16 S16 => xsA0 S16 hc6 V V V (Sc (fg3 F13)) (Sa t0) (fun w17 c17 hc17 S17 => vt (W_end (en (Ka (Qc (fx1 F13))) fun A18 _ F18 => ?_))))))))
  have S19 := S17.se [0, 1] [c17, c16]
  refine tk H15 (wp_ret (then_ret (rt3 F18 (rvA (fg4 F18) (S19.ob 1 hc16)) (rvA (fg3 F18) (S19.ob 0 hc17)) (rv_tmp (fg0 F18)) ?_)))
  obtain ⟨c20, hc20, S20⟩ := gen1 (gl_nl S19)
  have h : (stE (cfE C N Z K Q) K (gab G) (⟨kd, a, b, f, p, q, uu⟩ : OpC)) = (cfE C N Z K Q) := st_cf c14
  have h2 := st_e (cf := (cfE C N Z K Q)) (n := lgN C N Z K Q) (K := K) (g := gab G) (c := (⟨kd, a, b, f, p, q, uu⟩ : OpC)) (by rw [h]; exact c14)
  rw [h2.2, h]
  exact ⟨.slice none 0 0, [], .slice none 0 0, [], rfl, h2.1.symm, (S20.f1 0 hc20)⟩
 refine wp_skip (tc H11 fun _ H21 => tb fun _ H22 => (ra (fg6 F13) (S9.ob 3 hc3) (wc (args1 t0) (kCk_c (S9.roC Go) (S9.roC Gn) (S9.roC Gr)) (C0 S9 fun w23 S23 => vm t0 (vx (.int .i64 ((ckG (G.1.2.map ab) G.2.2).1)) t0 (vx (.int .i64 ((ckG (G.1.2.map ab) G.2.2).2)) (Sa t0) (va (Sa t0) (va (Sa t0) (W_end (en (Ka (Qf F13)) fun A24 _ F24 => ta H22 fun _ H25 => (vm (fg0 F24) (vn t0 V (W_end (en (Ka (Qa F24)) fun A26 _ F26 => tk H25 (cd (fg0 F26) (fun c27 => ?_) fun c27 => ?_)))))))))))))))
 ·refine tb fun _ H28 => (wv (xbS (n := 2) (z := .agg #[.slice none 0 0, .slice none 0 0]) V parts0) (wv (xbS (n := 3) (z := .agg #[.int .i64 0, .bool false, .int .u64 0]) V parts0) (vm (Sb (fg1 F26)) (xsA1 S23 hc5 V V V (Sc (fg6 F26)) (Sb t0) (fun w29 c29 hc29 S29 => xsA0 S29 hc6 V V V (Sc (fg5 F26)) (Sa t0) (fun w30 c30 hc30 S30 => vt (W_end (en (Ka (Qc (fx3 F26))) fun A31 _ F31 => ?_))))))))
  have S32 := S30.se [0, 1] [c30, c29]
  refine tk H28 (wp_ret (then_ret (rt3 F31 (rvA (fg6 F31) (S32.ob 1 hc29)) (rvA (fg5 F31) (S32.ob 0 hc30)) (rv_tmp (fg0 F31)) ?_)))
  obtain ⟨c33, hc33, S33⟩ := gen1 (gl_nl S32)
  have h : (stE (cfE C N Z K Q) K (gab G) (⟨kd, a, b, f, p, q, uu⟩ : OpC)) = (ckG (G.1.2.map ab) G.2.2).2 := st_ck (g := gab G) c14 c27
  have h2 := st_e (cf := (cfE C N Z K Q)) (n := lgN C N Z K Q) (K := K) (g := gab G) (c := (⟨kd, a, b, f, p, q, uu⟩ : OpC)) (by rw [h]; exact c27)
  rw [h2.2, h]
  exact ⟨.slice none 0 0, [], .slice none 0 0, [], rfl, h2.1.symm, (S33.f1 0 hc33)⟩
 have hG := ckG_iff.1 (show (ckG (G.1.2.map ab) G.2.2).2 = 0 by omega)
 have ho4 := hG.o4
 have hr8 := hG.r8
 rw [List.length_map] at ho4
 refine wp_skip (tc H21 fun _ H34 => tb fun _ H35 => (fa 1 (fg8 F26) (rL G.2.1 t0 (S23.ob 3 hc3) (le_ t0 (sl_SlN Gr.at) (fa 3 (Sc (fg9 F26)) (rL (.int .i64 (K)) t0 (S23.ob 4 hc2) (vn (Sb t0) t0 (W_end (en (Ka (Qe F26)) fun A36 _ F36 => ?_)))))))))
 have S37 := S23.se [0, 1, 2, 3] [c6, c5, c4, c3]
 refine tk H35 (cd (fg0 F36) (fun c38 => ?_) fun c38 => ?_)
 ·refine tb fun _ H39 => (wv (xbS (n := 2) (z := .agg #[.slice none 0 0, .slice none 0 0]) V parts0) (wv (xbS (n := 3) (z := .agg #[.int .i64 0, .bool false, .int .u64 0]) V parts0) (xsA1 S37 hc5 V V V (Sb (fg7 F36)) (Sa t0) (fun w40 c40 hc40 S40 => xsA0 S40 hc6 V V V (Sb (fg6 F36)) t0 (fun w41 c41 hc41 S41 => vc (W_end (en (Ka (Qb (fx4 F36))) fun A42 _ F42 => ?_)))))))
  have S43 := S41.se [0, 1] [c41, c40]
  refine tk H39 (wp_ret (then_ret (rt3 F42 (rvA (fg7 F42) (S43.ob 1 hc40)) (rvA (fg6 F42) (S43.ob 0 hc41)) (rv_tmp (fg0 F42)) ?_)))
  obtain ⟨c44, hc44, S44⟩ := gen1 (gl_nl S43)
  have h : (stE (cfE C N Z K Q) K (gab G) (⟨kd, a, b, f, p, q, uu⟩ : OpC)) = 7 := st_7 (g := gab G) c14 c27 c38
  have h2 := st_e (cf := (cfE C N Z K Q)) (n := lgN C N Z K Q) (K := K) (g := gab G) (c := (⟨kd, a, b, f, p, q, uu⟩ : OpC)) (by rw [h]; exact Ze)
  rw [h2.2, h]
  exact ⟨.slice none 0 0, [], .slice none 0 0, [], rfl, h2.1.symm, (S44.f1 0 hc44)⟩
 refine wp_skip (tc H34 fun _ H45 => tb fun _ H46 => (ra (fg8 F36) (S37.ob 2 hc4) (wc (args1 t0) (kopc_c (kd := kd) (a := a) (b := b) (f := f) (p := p) (q := q) (uu := uu)) (C0 S37 fun w47 S47 => vt (W_end (en (Ka (Qb F36)) fun A48 _ F48 => ta H46 fun _ H49 => (vm (fg0 F48) (vn t0 V (W_end (en (Ka (Qa F48)) fun A50 _ F50 => tk H49 (cd (fg0 F50) (fun c51 => ?_) fun c51 => ?_)))))))))))
 ·refine tb fun _ H52 => (wv (xbS (n := 2) (z := .agg #[.slice none 0 0, .slice none 0 0]) V parts0) (wv (xbS (n := 3) (z := .agg #[.int .i64 0, .bool false, .int .u64 0]) V parts0) (vm (Sb (fg1 F50)) (xsA1 S47 hc5 V V V (Sc (fg9 F50)) (Sb t0) (fun w53 c53 hc53 S53 => xsA0 S53 hc6 V V V (Sc (fg8 F50)) (Sa t0) (fun w54 c54 hc54 S54 => vt (W_end (en (Ka (Qc (fx6 F50))) fun A55 _ F55 => ?_))))))))
  have S56 := S54.se [0, 1] [c54, c53]
  refine tk H52 (wp_ret (then_ret (rt3 F55 (rvA (fg9 F55) (S56.ob 1 hc53)) (rvA (fg8 F55) (S56.ob 0 hc54)) (rv_tmp (fg0 F55)) ?_)))
  obtain ⟨c57, hc57, S57⟩ := gen1 (gl_nl S56)
  have h : (stE (cfE C N Z K Q) K (gab G) (⟨kd, a, b, f, p, q, uu⟩ : OpC)) = (opE (⟨kd, a, b, f, p, q, uu⟩ : OpC)) := st_op (g := gab G) c14 c27 c38
  have h2 := st_e (cf := (cfE C N Z K Q)) (n := lgN C N Z K Q) (K := K) (g := gab G) (c := (⟨kd, a, b, f, p, q, uu⟩ : OpC)) (by rw [h]; exact c51)
  rw [h2.2, h]
  exact ⟨.slice none 0 0, [], .slice none 0 0, [], rfl, h2.1.symm, (S57.f1 0 hc57)⟩
 refine wp_skip (ta H45 fun _ H58 => (fa 1 (fg11 F50) (rL G.2.1 t0 (S47.ob 3 hc3) (wc (args1 t0) (kcl_c (S47.roC Gr) Zg) ?_))))
 rintro _ w59 ⟨v_59, rfl, hP59⟩
 refine ⟨_, rfl, ?_⟩
 obtain ⟨c_59, hc_59, hP59⟩ := gen1 hP59
 have S59 := S47.j1 hP59
 refine fa 1 (Sc (fg9 F50)) (xsC2 (zs' := #[.slice none 0 0, v_59]) S59 hc5 V V V t0 (Sa t0) (SlN_one (ow_at (S59.cq 0 hc_59))) (fun w60 c60 hc60 S60 => W_end (en (Qd F50) fun A61 _ F61 => tc H58 fun _ H62 => tb fun _ H63 => (fa 0 (fg11 F61) (rL G.1.1 t0 (S60.ob 4 hc3) (le_ t0 (sl_SlN Go.at) (vm V (W_end (en (Kc (Qa F61)) fun A64 hsz64 F64 => ?_)))))))))
 have S65 := S60.se [0, 1, 2, 3] [c_59, c6, c60, c4]
 refine tk H63 (wp_block ?_)
 obtain ⟨c66, hc66, S66⟩ := S65.pnil (s := 2)
 replace hc66 : c66 = ro 2 obC (.slice none 0 0) ([] : List Ob) := hc66
 obtain ⟨c67, cb67, hc67, hcb67, S67⟩ := gen2 (nst_nils S66)
 -- loop 14
 refine loopX (fun mz A' w' => SzN A' 87 ∧ A'.defers = [] ∧ (∃ (k : Nat) (hv : Value) (H : List Ob), (mz = G.1.2.length - k) ∧ (k ≤ G.1.2.length) ∧ (H.map ab = (G.1.2.map ab).take k) ∧ (EV A' (.tmp 58) = .int .i64 (k : Int)) ∧ (EV A' (.tmp 5) = EV A64 (.tmp 5)) ∧ (EV A' (.tmp 6) = EV A64 (.tmp 6)) ∧ (EV A' (.tmp 7) = EV A64 (.tmp 7)) ∧ (EV A' (.tmp 9) = EV A64 (.tmp 9)) ∧ (EV A' (.tmp 56) = EV A64 (.tmp 56)) ∧ (EV A' (.tmp 57) = EV A64 (.tmp 57)) ∧ (St w NoX [owl .i64 (H.map (·.1)), owl .u64 (H.map (·.2)), ro 2 obC hv H, io .i64 v_59 G.2.2, bx g6 54 #[.int .i64 0, .bool false, .int .u64 0], bx g5 30 #[hv, v_59], bx g4 50 #[.int .i64 (kd), .int .i64 (a), .int .i64 (b), .int .i64 (f), .int .i64 (p), .int .i64 (q), .int .u64 (uu)]] w'))) (G.1.2.length - 0) ⟨hsz64, F64.d, 0, (.slice none 0 0), [], rfl, Za, rfl, ((fg0 F64).trans (by first | rfl | (simp; done) | (congr 1; omega))), rfl, rfl, rfl, rfl, rfl, rfl, (by subst hc67 hcb67 hc66 hc_59 hc6 hc60 hc4; exact S67)⟩ ?_
 clear S67 hc67 hcb67 hc66 hc_59 hc6 hc60 hc4
 rintro n68 A68 w68 ⟨hsz68, hdf68, k, hv, H, hm68, hk, hH, l58_68, u5_68, u6_68, u7_68, u9_68, u56_68, u57_68, S68⟩
 have l5_68 := u5_68.trans (fg13 F64)
 have l6_68 := u6_68.trans (fg12 F64)
 have l7_68 := u7_68.trans (fg11 F64)
 have l9_68 := u9_68.trans (fg10 F64)
 have l56_68 := u56_68.trans (fg2 F64)
 have l57_68 := u57_68.trans (fg1 F64)
 obtain ⟨c67_68, cb67_68, c66_68, c_68, c6_68, c60_68, c4_68, hc67_68, hcb67_68, hc66_68, hc_68, hc6_68, hc60_68, hc4_68, S68⟩ := gen7 S68
 refine tb fun _ H69 => (vl l58_68 l57_68 (W_end (en (((((((((ck (FS.n hdf68) V V)).c (es V l5_68)).c (es V l6_68)).c (es V l7_68)).c (es V l9_68)).c (es V l56_68)).c (es V l57_68)).c (Sa l58_68)) fun A70 _ F70 => tc H69 fun _ H71 => cd (fg7 F70) (fun c72 => ?_) fun c72 => ?_)))
 ·have hHl := mp_len hH hk
  refine wp_skip (tc H71 fun _ H73 => wp_block (tb fun _ H74 => ?_))
  have k75 : k < G.1.2.length := by first | omega | (simp only [List.length_cons, List.length_nil]; omega) | (simp only [List.length_set]; omega) | decide
  obtain ⟨y75, hy75⟩ := get_some (xs := G.1.2) (k := k) k75
  have hsy := hsm.at hy75
  obtain ⟨B75, O75, C75, hv75⟩ := (SlN.blk (sl_SlN Go.at) om)
  refine wv (V_ixS (off := O75 + k * 2) 2 k V (fg2 F70) (fg0 F70) hv75 Za k75 Tryz.underlying28 kr V) ?_
  have fn76 : Ro w NoX (il .i64 y75.1.1 y75.1.2) := nst_ro1 Gn hy75
  have bfn76 := SlN.le (sl_SlN (S68.ro fn76))
  have fn77 : Ro w NoX (il .u64 y75.2.1 y75.2.2) := nst_ro2 Gn hy75
  have bfn77 := SlN.le (sl_SlN (S68.ro fn77))
  refine wr (VR_ldR (ys := obC y75) V t0 (SlN.row obC_len (sl_SlN (S68.ro Go)) hv75 hy75 V) Tryz.underlying70 V kr) (wA (#[.slice none 0 0, .slice none 0 0]) S68 (fun g78 w78 c78 hc78 S78 => ?_))
  replace S78 : St w NoX [c78, c67_68, cb67_68, c66_68, c_68, c6_68, c60_68, c4_68] w78 := S78
  refine xsB0 S78 hc78 V V V t0 (Sa t0) (by simp only [List.all_toArray, List.all_cons, List.all_nil, obC, SlN_one (sl_SlN fn76.at), SlN_one (sl_SlN fn77.at)] <;> rfl) (fun w79 c79 hc79 S79 => W_end (en (Ka (Qb F70)) fun A80 _ F80 => tk H74 (region_monoS 10 11 [none, none, none, none, some (SPv [] (fun _ => fun u l' => ∃ v_s, u = v_s ∧ ∃ c_s, c_s = io .i64 (v_s) y75.1.2 ∧ l' = [c_s]) 4), none, none, some (SPv [] (fun _ => fun u l' => ∃ v_s, u = v_s ∧ ∃ c_s, c_s = io .u64 (v_s) y75.2.2 ∧ l' = [c_s]) 7), none, some (SPv [66, 69] (fun vs => fun u l' => ∃ g_, u = .slice (some ⟨g_, 0, none⟩) 1 1 ∧ ∃ c_, c_ = ro 2 obC (.slice (some ⟨g_, 0, none⟩) 1 1) [(((vs.getD 0 undef), y75.1.2), ((vs.getD 1 undef), y75.2.2))] ∧ l' = [c_]) 9)] kr kr (df 0 (fg6 F80) (dr (fun _ hx _ => (urc t0 (cell_box (v := hv) ((S79.grow hx).ob 6 hc60_68) V))) (df 0 (Sb (fg0 F80)) (dr (fun _ hx _ => (urc t0 (cell_box (v := y75.1.1) ((S79.grow hx).ob 0 hc79) V))) (D_call (ts := []) (vs := []) (C0 := fun _ => fun u l' => ∃ v_s, u = v_s ∧ ∃ c_s, c_s = io .i64 (v_s) y75.1.2 ∧ l' = [c_s]) (C := fun u l' => ∃ v_s, u = v_s ∧ ∃ c_s, c_s = io .i64 (v_s) y75.1.2 ∧ l' = [c_s]) V V V Tryz.func36 kr V (args1 t0) V V V V (fun sx hx hF => ?_) (fun u81 l81 hu81 => ?_)))))))))
  ·refine (kcl_c ((S79.grow hx).roC fn76) Zg).mono ?_
   rintro _ _ ⟨v_81, rfl, hz⟩
   exact ⟨_, rfl, _, ⟨_, rfl, _, rfl, rfl⟩, hz⟩
  obtain ⟨v_81, rfl, c_81, hc_81, hl81⟩ := hu81
  refine df 1 (Se (fg0 F80)) (dr (fun _ hx _ => (urc t0 (cell_box (v := y75.2.1) ((S79.grow hx).ob 0 hc79) V))) (D_call (ts := []) (vs := []) (C0 := fun _ => fun u l' => ∃ v_s, u = v_s ∧ ∃ c_s, c_s = io .u64 (v_s) y75.2.2 ∧ l' = [c_s]) (C := fun u l' => ∃ v_s, u = v_s ∧ ∃ c_s, c_s = io .u64 (v_s) y75.2.2 ∧ l' = [c_s]) V V V Tryz.func37 kr V (args1 t0) V V V V (fun sx hx hF => ?_) (fun u82 l82 hu82 => ?_)))
  ·refine (kcu_c ((S79.grow hx).roC fn77) Zg).mono ?_
   rintro _ _ ⟨v_82, rfl, hz⟩
   exact ⟨_, rfl, _, ⟨_, rfl, _, rfl, rfl⟩, hz⟩
  obtain ⟨v_82, rfl, c_82, hc_82, hl82⟩ := hu82
  refine D_r V V kr (fun sx hx hF => by obtain ⟨ll81, ws81, we81, ⟨v_81q, hq81, c_81_, hc_81_, hl81_⟩, hm81, k81, e81⟩ := L.ancF_get (L.ancF_rest hF) kr; cases hq81; subst hl81_; obtain ⟨ll82, ws82, we82, ⟨v_82q, hq82, c_82_, hc_82_, hl82_⟩, hm82, k82, e82⟩ := L.ancF_get hF kr; cases hq82; subst hl82_; exact ((V_bldS (n := 2) (z := .agg #[.slice none 0 0, .slice none 0 0]) V (parts2 (es3 V (et V)) (et V)) kr (by simp only [List.all_cons, List.all_nil, SlN_one (ow_at ((k81.grow e81).cq 0 hc_81_)), SlN_one (ow_at ((k82.grow e82).cq 0 hc_82_)), Bool.and_true] <;> rfl) kr Zh : Val _ _ _ _) _)) V V ?_
  have hll83 : [((u81, y75.1.2), (u82, y75.2.2))].length = 1 := rfl
  refine D_lay (ts := [66, 69]) (vs := [u81, u82]) (C0 := fun vs => fun u l' => ∃ g_, u = .slice (some ⟨g_, 0, none⟩) 1 1 ∧ ∃ c_, c_ = ro 2 obC (.slice (some ⟨g_, 0, none⟩) 1 1) [(((vs.getD 0 undef), y75.1.2), ((vs.getD 1 undef), y75.2.2))] ∧ l' = [c_]) (C := fun u l' => ∃ g_, u = .slice (some ⟨g_, 0, none⟩) 1 1 ∧ ∃ c_, c_ = ro 2 obC (.slice (some ⟨g_, 0, none⟩) 1 1) [((u81, y75.1.2), (u82, y75.2.2))] ∧ l' = [c_]) V V V V (ts2 (Sd t0) (Sa t0)) V (fun sx hx hF => lay_lit (vs := [.agg #[u81, u82]]) 2 V (parts1 t0) V Tryz.underlying28 kr Ze (by intro v hv; simp only [List.mem_cons, List.not_mem_nil, or_false] at hv; rcases hv with rfl <;> rfl) Zf) (fun u83 l83 hu83 => ?_)
  obtain ⟨g83, rfl, c83, hc83, hl83⟩ := hu83
  refine D_eff V (ZS_eff S79 V V (fun s84 hJ84 hL84 hF84 => ?_))
  obtain ⟨ll81, ws81, we81, ⟨v_81q, hq81, c_81r, hc_81r, hl81r⟩, hm81, k81, e81⟩ := L.all_get (L.all_rest (L.all_rest hF84)); cases hq81; subst hl81r
  replace hJ84 := hJ84.add hL84 (i := 4) V hm81 k81 e81
  obtain ⟨ll82, ws82, we82, ⟨v_82q, hq82, c_82r, hc_82r, hl82r⟩, hm82, k82, e82⟩ := L.all_get (L.all_rest hF84); cases hq82; subst hl82r
  replace hJ84 := hJ84.add hL84 (i := 7) V hm82 k82 e82
  obtain ⟨ll83, ws83, we83, ⟨g83q, hq83, c83r, hc83r, hl83r⟩, hm83, k83, e83⟩ := L.all_get hF84; cases hq83; subst hl83r
  replace hJ84 := hJ84.add hL84 (i := 9) V hm83 k83 e83
  have S84 := hJ84.st; clear hF84 hJ84 hL84
  generalize s84.1 = w84 at *
  replace S84 : St w NoX [c83r, c_82r, c_81r, c79, c67_68, cb67_68, c66_68, c_68, c6_68, c60_68, c4_68] w84 := S84
  refine W_appS 2 6 S84 V hc66_68 V V V (Sh t0) t0 Tryz.underlying28 Tryz.underlying28 (z := .agg #[.slice none 0 0, .slice none 0 0]) (bytes := 48) kr V Ze (ow_at (S84.cq 0 hc83r)) (by intro u hu; simp only [List.flatMap_cons, List.flatMap_nil, obC, List.append_nil, List.cons_append, List.nil_append, List.mem_cons, List.not_mem_nil, or_false] at hu; rcases hu with rfl | rfl <;> first | exact SlN_one (ow_at (S84.cq 2 hc_81r)) | exact SlN_one (ow_at (S84.cq 1 hc_82r))) Zb Zb (fun v85 w85 c85 hc85 S85 => ?_)
  replace hc85 : c85 = ro 2 obC v85 (H ++ [((u81, y75.1.2), (u82, y75.2.2))]) := hc85.trans (app_eqR (by first | (simp; done) | (rw [List.take_of_length_le (l := List.drop _ _) (by rw [List.length_drop]; exact Nat.le_refl _)])))
  replace S85 : St w NoX [c83r, c_82r, c_81r, c79, c67_68, cb67_68, c85, c_68, c6_68, c60_68, c4_68] w85 := S85
  have S86 := S85.se [2, 4, 1, 5, 0, 3, 6, 7, 8, 9, 10] [c_81r, c67_68, c_82r, cb67_68, c83r, c79, c85, c_68, c6_68, c60_68, c4_68]
  rw [hc_81r, hc67_68, hc_82r, hcb67_68] at S86
  obtain ⟨c87, cb87, hc87, hcb87, S87⟩ := gen2 (nst_push (pv := u81) (ps := y75.1.2) (qv := u82) (qs := y75.2.2) (O := H) S86)
  replace hc87 : c87 = owl .i64 ((H ++ [((u81, y75.1.2), (u82, y75.2.2))]).map (·.1)) := hc87
  replace hcb87 : cb87 = owl .u64 ((H ++ [((u81, y75.1.2), (u82, y75.2.2))]).map (·.2)) := hcb87
  refine fa 0 (Sh (Sc (fg6 F80))) (xsC7 (zs' := #[v85, v_59]) S87 hc60_68 V V V t0 (Sa t0) (SlN_one (ow_at (S87.cq 4 hc85))) (fun w88 c88 hc88 S88 => W_end (Qo_normal (en (Qd (Qh F80)) fun A89 _ F89 => ?_))))
  have S90 := S88.se [0, 1, 4, 5, 6, 7, 8] [c87, cb87, c85, c_68, c6_68, c88, c4_68]
  refine inb_n (tk H73 (region_in (ad (fg1 F89) V (vm t0 (W_end (en (Ka (Qa (fx1 F89))) fun A91 hsz91 F91 => then_n ⟨G.1.2.length - (k + 1), by simp only [hm68]; omega, hsz91, F91.d, (k + 1), v85, (H ++ [((u81, y75.1.2), (u82, y75.2.2))]), rfl, Za, (mp_snoc hH hy75 V), ((fg0 F91).trans (by first | rfl | (simp; done) | (congr 1; omega))), ((fg7 F91).trans (fg13 F64).symm), ((fg6 F91).trans (fg12 F64).symm), ((fg5 F91).trans (fg11 F64).symm), ((fg4 F91).trans (fg10 F64).symm), ((fg3 F91).trans (fg2 F64).symm), ((fg2 F91).trans (fg1 F64).symm), (by subst hc87 hcb87 hc85 hc_68 hc6_68 hc88 hc4_68; exact S90)⟩))))))
 have hHO := mp_done hH Za
 have hsm : SM (H.map ab) := by rw [hHO]; exact hsm
 have hop : opE (⟨kd, a, b, f, p, q, uu⟩ : OpC) = 0 := by omega
 have hlg := lg_rng (C := C) (N := N) (Z := Z) (K := K) (Q := Q)
 refine wp_exit (then_exit (then_exit (inb_hit (ta H62 fun _ H92 => (ra (fg5 F70) (S68.ob 5 hc60_68) (vm (Sa (fg3 F70)) (wv (V_bld (cs := #[hv, v_59, .int .i64 (lgN C N Z K Q)]) V (parts2 (Sa t0) t0) kr) (wB (#[hv, v_59, .int .i64 (lgN C N Z K Q)]) S68 t0 (fun g93 w93 c93 hc93 S93 => ?_)))))))))
 replace S93 : St w NoX [c93, c67_68, cb67_68, c66_68, c_68, c6_68, c60_68, c4_68] w93 := S93
 refine vt (W_end (en (Ka (Qd F70)) fun A94 _ F94 => ta H92 fun _ H95 => (vm (fg0 F94) (ra (Sa (fg7 F94)) (S93.ob 7 hc4_68) ?_))))
 have S96 := S93.se [3, 1, 2, 4, 0, 5, 6, 7] [c66_68, c67_68, cb67_68, c_68, c93, c6_68, c60_68, c4_68]
 rw [hc66_68, hc67_68, hcb67_68, hc_68] at S96
 obtain ⟨c97, hc97, S97⟩ := gen1 (gl_of (hv := hv) (H := H) (qv := v_59) (q := G.2.2) S96)
 replace S97 : St w NoX [c97, c93, c6_68, c60_68, c4_68] w93 := S97
 have S98 := S97.se [1, 0, 2, 3, 4] [c93, c97, c6_68, c60_68, c4_68]
 obtain ⟨Y99, hP99, hR99, hF99, hB99⟩ := St.call (pre := [c93]) (fr := [c97, c6_68, c60_68, c4_68]) S98
 rw [hc93] at hP99
 refine wc (args2 (Sa t0) t0) (kdo_c (G := ((hv, H), (v_59, G.2.2))) (kd := kd) (a := a) (b := b) (f := f) (p := p) (q := q) (uu := uu) (gl_mk (gl_oaR m1 (hc97 ▸ hF99 0 _ V)) (gl_naR m1 (hc97 ▸ hF99 0 _ V)) (gl_raR m1 (hc97 ▸ hF99 0 _ V))) hP99 (by first | with_reducible assumption | exact hsm) Zd Zc) ?_
 rintro _ w100 ⟨Gx_100, Gn_100, rfl, hg_100, hm_100, hP100⟩
 refine ⟨_, rfl, ?_⟩
 obtain ⟨cB_100, cK_100, hcB_100, hcK_100, hP100⟩ := gen2 hP100
 have S100 := (hB99 _ _ hP100).a2
 have hgab : gab ((hv, H), (v_59, G.2.2)) = gab G := Prod.ext hHO V
 have S101 := S100.se [2, 1, 0, 3, 4, 5] [c97, cK_100, cB_100, c6_68, c60_68, c4_68]
 rw [hc97, hcK_100] at S101
 obtain ⟨c102, hc102, S102⟩ := gen1 (gl_app (L := [((hv, H), (v_59, G.2.2))]) (M := Gn_100) S101)
 replace S102 : St w NoX [c102, cB_100, c6_68, c60_68, c4_68] w100 := S102
 refine xsA2 S102 hc6_68 V V V (Sc (fg5 F94)) t0 (fun w103 c103 hc103 S103 => W_end (en (Qc F94) fun A104 hsz104 F104 => ?_))
 have S105 := S103.se [0, 1, 2, 3] [c102, cB_100, c103, c60_68]
 refine tc H95 fun _ H106 => region_anyQ kr 8 V (fun w227 hx227 => ?_)
 have S227 := S105.grow hx227
 refine AX_parL (l0 := [c102, cB_100, c103, c60_68]) (k := 0) [⟨[], [], [82], fun vs => [], fun vs => (vs.getD 0 undef) = .pointer (some ⟨g93, 0, none⟩)⟩, ⟨[], [], [83], fun vs => [], fun vs => (vs.getD 0 undef) = .pointer (some ⟨g93, 0, none⟩)⟩, ⟨[], [], [84], fun vs => [], fun vs => (vs.getD 0 undef) = .pointer (some ⟨g93, 0, none⟩)⟩, ⟨[1], [], [85], fun vs => [], fun vs => (vs.getD 0 undef) = .agg #[Gx_100.1.1, Gx_100.2.1]⟩, ⟨[2], [], [86], fun vs => [], fun vs => (vs.getD 0 undef) = .agg #[.int .i64 ((doG (lgN C N Z K Q) (gab ((hv, H), (v_59, G.2.2))) (⟨kd, a, b, f, p, q, uu⟩ : OpC)).2.e), .bool ((doG (lgN C N Z K Q) (gab ((hv, H), (v_59, G.2.2))) (⟨kd, a, b, f, p, q, uu⟩ : OpC)).2.t), .int .u64 ((doG (lgN C N Z K Q) (gab ((hv, H), (v_59, G.2.2))) (⟨kd, a, b, f, p, q, uu⟩ : OpC)).2.v)]⟩, ⟨[0], [3], [], fun vs => [bx g5 30 #[Gx_100.1.1, Gx_100.2.1]], fun vs => True⟩, ⟨[], [2], [], fun vs => [bx g6 54 #[.int .i64 ((doG (lgN C N Z K Q) (gab ((hv, H), (v_59, G.2.2))) (⟨kd, a, b, f, p, q, uu⟩ : OpC)).2.e), .bool ((doG (lgN C N Z K Q) (gab ((hv, H), (v_59, G.2.2))) (⟨kd, a, b, f, p, q, uu⟩ : OpC)).2.t), .int .u64 ((doG (lgN C N Z K Q) (gab ((hv, H), (v_59, G.2.2))) (⟨kd, a, b, f, p, q, uu⟩ : OpC)).2.v)]], fun vs => True⟩, ⟨[], [], [8], fun vs => [], fun vs => (vs.getD 0 undef) = .int .i64 0⟩] [c102, cB_100, c103, c60_68] S227 V kr V ⟨?_, ?_, ?_, ?_, ?_, ?_, ?_, ?_, trivial⟩ ?_
 ·refine stepI [] (fun vs => []) V (fun a => by kernel_rfl) ?_
  intro A228 w228 rst hFr hF S228
  replace S228 : St w NoX [rst] w228 := S228
  have hsz228 : SzN A228 87 := ⟨hFr.sz.trans hsz104.out⟩
  have hdf228 : A228.defers = [] := hFr.df.trans F104.d
  have l15_228 := (oldS hFr 15 kr).trans (fg0 F104)
  refine vm l15_228 (W_end (kq _ ?_))
  exact ⟨_, [.pointer (some ⟨g93, 0, none⟩)], rfl, ts1 (et V), rfl, rfl, S228⟩
 ·refine stepI [] (fun vs => []) V (fun a => by kernel_rfl) ?_
  intro A229 w229 rst hFr hF S229
  replace S229 : St w NoX [rst] w229 := S229
  have f82_229 : EV A229 (.tmp 82) = .pointer (some ⟨g93, 0, none⟩) := hF 0 kr
  generalize q82_229 : EV A229 (.tmp 82) = us82 at S229 f82_229
  have l82_229 := q82_229.trans f82_229
  have hsz229 : SzN A229 87 := ⟨hFr.sz.trans hsz104.out⟩
  have hdf229 : A229.defers = [] := hFr.df.trans F104.d
  refine ni l82_229 (W_end (kq _ ?_))
  subst q82_229
  exact ⟨_, [.pointer (some ⟨g93, 0, none⟩)], rfl, ts1 (et V), rfl, rfl, S229⟩
 ·refine stepI [] (fun vs => []) V (fun a => by kernel_rfl) ?_
  intro A230 w230 rst hFr hF S230
  replace S230 : St w NoX [rst] w230 := S230
  have f83_230 : EV A230 (.tmp 83) = .pointer (some ⟨g93, 0, none⟩) := hF 1 kr
  generalize q83_230 : EV A230 (.tmp 83) = us83 at S230 f83_230
  have l83_230 := q83_230.trans f83_230
  have hsz230 : SzN A230 87 := ⟨hFr.sz.trans hsz104.out⟩
  have hdf230 : A230.defers = [] := hFr.df.trans F104.d
  refine fa 0 l83_230 (W_end (kq _ ?_))
  subst q83_230
  exact ⟨_, [.pointer (some ⟨g93, 0, none⟩)], rfl, ts1 (et V), rfl, rfl, S230⟩
 ·refine stepI [] (fun vs => [cB_100]) V (fun a => by kernel_rfl) ?_
  intro A231 w231 rst hFr hF S231
  replace S231 : St w NoX [cB_100, rst] w231 := S231
  have f84_231 : EV A231 (.tmp 84) = .pointer (some ⟨g93, 0, none⟩) := hF 2 kr
  generalize q84_231 : EV A231 (.tmp 84) = us84 at S231 f84_231
  have l84_231 := q84_231.trans f84_231
  have hsz231 : SzN A231 87 := ⟨hFr.sz.trans hsz104.out⟩
  have hdf231 : A231.defers = [] := hFr.df.trans F104.d
  obtain ⟨cB_231, hcB_231, S231⟩ := gen1 S231
  replace hcB_231 := hcB_231.trans hcB_100
  refine wr (VR_ldP (ys := [Gx_100.1.1, Gx_100.2.1]) V l84_231 (S231.ob 0 hcB_231) (ldP_at V) Tryz.underlying30 V kr) (W_end (kq _ ?_))
  subst q84_231
  exact ⟨_, [.agg #[Gx_100.1.1, Gx_100.2.1]], rfl, ts1 (et V), rfl, rfl, by subst hcB_231 hcB_100; exact S231⟩
 ·refine stepI [] (fun vs => [c103]) V (fun a => by kernel_rfl) ?_
  intro A232 w232 rst hFr hF S232
  replace S232 : St w NoX [c103, rst] w232 := S232
  have hsz232 : SzN A232 87 := ⟨hFr.sz.trans hsz104.out⟩
  have hdf232 : A232.defers = [] := hFr.df.trans F104.d
  have l7_232 := (oldS hFr 7 kr).trans (fg5 F104)
  obtain ⟨c103_232, hc103_232, S232⟩ := gen1 S232
  replace hc103_232 := hc103_232.trans hc103
  refine ra l7_232 (S232.ob 0 hc103_232) (W_end (kq _ ?_))
  exact ⟨_, [.agg #[.int .i64 ((doG (lgN C N Z K Q) (gab ((hv, H), (v_59, G.2.2))) (⟨kd, a, b, f, p, q, uu⟩ : OpC)).2.e), .bool ((doG (lgN C N Z K Q) (gab ((hv, H), (v_59, G.2.2))) (⟨kd, a, b, f, p, q, uu⟩ : OpC)).2.t), .int .u64 ((doG (lgN C N Z K Q) (gab ((hv, H), (v_59, G.2.2))) (⟨kd, a, b, f, p, q, uu⟩ : OpC)).2.v)]], rfl, ts1 (et V), rfl, rfl, by subst hc103_232 hc103; exact S232⟩
 ·refine stepI [] (fun vs => [c102, c60_68]) V (fun a => by kernel_rfl) ?_
  intro A233 w233 rst hFr hF S233
  replace S233 : St w NoX [c102, c60_68, rst] w233 := S233
  have f85_233 : EV A233 (.tmp 85) = .agg #[Gx_100.1.1, Gx_100.2.1] := hF 3 kr
  generalize q85_233 : EV A233 (.tmp 85) = us85 at S233 f85_233
  have l85_233 := q85_233.trans f85_233
  have hsz233 : SzN A233 87 := ⟨hFr.sz.trans hsz104.out⟩
  have hdf233 : A233.defers = [] := hFr.df.trans F104.d
  have l6_233 := (oldS hFr 6 kr).trans (fg6 F104)
  obtain ⟨c102_233, c60_233, hc102_233, hc60_233, S233⟩ := gen2 S233
  replace hc102_233 := hc102_233.trans hc102
  replace hc60_233 := hc60_233.trans hc60_68
  refine xsB 1 S233 V hc60_233 V V V l6_233 l85_233 (by simp only [List.all_toArray, List.all_cons, List.all_nil, obC, SlN_one (sl_SlN (gl_oa (gm_mem m1 hm_100) (S233.cq 0 hc102_233))), SlN_one (sl_SlN (gl_ra (gm_mem m1 hm_100) (S233.cq 0 hc102_233)))] <;> rfl) (fun w234 c234 hc234 S234 => ?_)
  replace S234 : St w NoX (c102_233 :: c234 :: [rst]) w234 := S234
  refine W_end (kq _ ?_)
  subst q85_233
  exact ⟨undef, [], rfl, rfl, trivial, rfl, by subst hc102_233 hc234 hc102 hc60_68; exact S234⟩
 ·refine stepI [] (fun vs => [c103]) V (fun a => by kernel_rfl) ?_
  intro A235 w235 rst hFr hF S235
  replace S235 : St w NoX [c103, rst] w235 := S235
  have f86_235 : EV A235 (.tmp 86) = .agg #[.int .i64 ((doG (lgN C N Z K Q) (gab ((hv, H), (v_59, G.2.2))) (⟨kd, a, b, f, p, q, uu⟩ : OpC)).2.e), .bool ((doG (lgN C N Z K Q) (gab ((hv, H), (v_59, G.2.2))) (⟨kd, a, b, f, p, q, uu⟩ : OpC)).2.t), .int .u64 ((doG (lgN C N Z K Q) (gab ((hv, H), (v_59, G.2.2))) (⟨kd, a, b, f, p, q, uu⟩ : OpC)).2.v)] := hF 4 kr
  generalize q86_235 : EV A235 (.tmp 86) = us86 at S235 f86_235
  have l86_235 := q86_235.trans f86_235
  have hsz235 : SzN A235 87 := ⟨hFr.sz.trans hsz104.out⟩
  have hdf235 : A235.defers = [] := hFr.df.trans F104.d
  have l7_235 := (oldS hFr 7 kr).trans (fg5 F104)
  obtain ⟨c103_235, hc103_235, S235⟩ := gen1 S235
  replace hc103_235 := hc103_235.trans hc103
  refine xsA 0 S235 V hc103_235 V V V l7_235 l86_235 (fun w236 c236 hc236 S236 => ?_)
  replace S236 : St w NoX (c236 :: [rst]) w236 := S236
  refine W_end (kq _ ?_)
  subst q86_235
  exact ⟨undef, [], rfl, rfl, trivial, rfl, by subst hc236 hc103; exact S236⟩
 ·refine stepI [] (fun vs => []) V (fun a => by kernel_rfl) ?_
  intro A237 w237 rst hFr hF S237
  replace S237 : St w NoX [rst] w237 := S237
  have hsz237 : SzN A237 87 := ⟨hFr.sz.trans hsz104.out⟩
  have hdf237 : A237.defers = [] := hFr.df.trans F104.d
  refine vc (W_end (kq _ ?_))
  exact ⟨_, [.int .i64 0], rfl, ts1 (et V), rfl, rfl, S237⟩
 intro A238 w238 hFr hF S238
 replace S238 : St w NoX [c102, cB_100, bx g6 54 #[.int .i64 ((doG (lgN C N Z K Q) (gab ((hv, H), (v_59, G.2.2))) (⟨kd, a, b, f, p, q, uu⟩ : OpC)).2.e), .bool ((doG (lgN C N Z K Q) (gab ((hv, H), (v_59, G.2.2))) (⟨kd, a, b, f, p, q, uu⟩ : OpC)).2.t), .int .u64 ((doG (lgN C N Z K Q) (gab ((hv, H), (v_59, G.2.2))) (⟨kd, a, b, f, p, q, uu⟩ : OpC)).2.v)], bx g5 30 #[Gx_100.1.1, Gx_100.2.1]] w238 := S238.cast kr
 have f8_238 : EV A238 (.tmp 8) = .int .i64 0 := hF 7 Ze
 generalize q8_238 : EV A238 (.tmp 8) = us8 at S238 f8_238
 have l8_238 := q8_238.trans f8_238
 have hsz238 : SzN A238 87 := ⟨hFr.sz.trans hsz104.out⟩
 have hdf238 : A238.defers = [] := hFr.df.trans F104.d
 obtain ⟨c102_238, cB_238, c168_238, c167_238, hc102_238, hcB_238, hc168_238, hc167_238, S238⟩ := gen4 S238
 replace hc102_238 := hc102_238.trans hc102
 replace hcB_238 := hcB_238.trans hcB_100
 have l6_238 := (oldS hFr 6 kr).trans (fg6 F104)
 have l7_238 := (oldS hFr 7 kr).trans (fg5 F104)
 clear hsz104 F104 S105
 refine Qo_normal (tk H106 (wp_ret (ret_in (results_3 Tryz.results22 (rvA l6_238 (S238.ob 3 hc167_238)) (rvA l7_238 (S238.ob 2 hc168_238)) (rv_tmp l8_238)) hdf238 ?_)))
 rw [hc102_238] at S238
 obtain ⟨c239, hc239, S239⟩ := gen1 (gl_subS (M := [Gx_100]) S238 (fun G' hG' => by rw [List.mem_singleton] at hG'; subst hG'; exact gm_mem m1 hm_100))
 replace S239 : St w NoX [c239, cB_238, c168_238, c167_238] w238 := S239
 have h : (stE (cfE C N Z K Q) K (gab G) (⟨kd, a, b, f, p, q, uu⟩ : OpC)) = 0 := (st_op (g := gab G) c14 c27 c38).trans Za
 have h2 := st_k (n := lgN C N Z K Q) h
 rw [h2.2, h]
 exact ⟨Gx_100.1.1, Gx_100.1.2, Gx_100.2.1, Gx_100.2.2, by rw [← hgab], by rw [h2.1, ← hgab]; exact hg_100, (S239.f1 0 hc239)⟩

end Go.Proofs.YtpgkfndbfocibaaGreat
/-! what comes from registers in so many steps -/
namespace Go.Own.Gr
open Go Go.Own Go.Own.R Go.Own.G
end Go.Own.Gr

/-! Left never falls, and what lives is never more than what is left -/
namespace Go.Own.Ml
open Go Go.Own Go.Own.R Go.Own.G Go.Own.Gr
section
variable {mx : Int} {rf : Nat → Bool}
end
section
variable {cf n K : Int} {l : List OpC} {full : List Int} {i j : Nat}
end
end Go.Own.Ml
namespace Go.Own.Ml
open Go Go.Own Go.Own.R Go.Own.G Go.Own.Gr
end Go.Own.Ml

/-! a script without its refused operations -/
namespace Go.Own.Ml
open Go Go.Own Go.Own.R Go.Own.G Go.Own.Gr
section
variable {mx : Int}
end
section
variable {cf n K : Int} {l : List OpC} {full : List Int}
end
end Go.Own.Ml
namespace Go.Own.Ml
open Go Go.Own Go.Own.R Go.Own.G Go.Own.Gr
section
variable {full : List Int} {i j : Nat} {c : Nat}
end
end Go.Own.Ml

/-! the graphs of a script are good; what an answer can be -/
namespace Go.Own.Ml
open Go Go.Own Go.Own.R Go.Own.G Go.Own.Gr
section
variable {K mx : Int} {g : GA} {c : OpC} {i : Nat}
end
section
variable {mx K : Int} {rf : Nat → Bool}
end
end Go.Own.Ml

/-! the answers of a script are ones that its operations may have -/
namespace Go.Own.Ml
open Go Go.Own Go.Own.R Go.Own.G Go.Own.Gr
section
variable {K mx : Int} {g : GA} {c : OpC} {i : Nat}
end
end Go.Own.Ml

/-! Judge and the moments' own answers -/
namespace Go.Own.Ml
open Go Go.Own Go.Own.R Go.Own.G Go.Own.Gr
section
variable {cf n K : Int} {l : List OpC} {full : List Int}
end
end Go.Own.Ml

/-! Judge: the refused ones; an answer that is wrong -/
namespace Go.Own.Ml
open Go Go.Own Go.Own.R Go.Own.G Go.Own.Gr
section
variable {cf n K : Int} {l : List OpC} {full : List Int}
end
end Go.Own.Ml
namespace Go.Own.Ml
open Go Go.Own Go.Own.R Go.Own.G Go.Own.Gr
section
variable {cf n K : Int} {l : List OpC} {full : List Int}
end
end Go.Own.Ml
namespace Go.Own.Ml
end Go.Own.Ml
namespace Go.Own.Ml
open Go Go.Own Go.Own.R Go.Own.G Go.Own.Gr
section
variable {cf n K : Int} {l : List OpC} {full : List Int}
end
end Go.Own.Ml

/-! operations by their letters, as the reference has them -/
namespace Go.Own.Ml
open Go Go.Own Go.Own.R Go.Own.G Go.Own.Gr
def hsB (l : List UInt8) (c : Int) : Bool := l.any fun b => decide ((b.toNat : Int) = c)
def gtC (a b f p q c : Int) : Int := if c = 97 then a else if c = 98 then b else if c = 102 then f else if c = 112 then p else q
def allC : List UInt8 := [97, 98, 102, 112, 114]
section
variable {l : List UInt8} {c : Int} {k : Nat} {y : UInt8}
theorem hs_yes (hy : l[k]? = some y) (h : (y.toNat : Int) = c) : hsB l c = true := by
  unfold hsB; exact List.any_eq_true.2 ⟨y, List.mem_of_getElem? hy, decide_eq_true h⟩
theorem hs_no (hz : ∀ i, i < k → ∀ b, l[i]? = some b → ¬ (b.toNat : Int) = c) (hk : l.length ≤ k) : hsB l c = false := by
  unfold hsB
  refine List.any_eq_false.2 fun b hb => ?_
  obtain ⟨i, hi⟩ := List.mem_iff_getElem?.1 hb
  simpa using hz i (by have := (List.getElem?_eq_some_iff.1 hi).1; omega) b hi
theorem hs_step (hz : ∀ i, i < k → ∀ b, l[i]? = some b → ¬ (b.toNat : Int) = c) (hy : l[k]? = some y) (h : ¬ (y.toNat : Int) = c) : ∀ i, i < k + 1 → ∀ b, l[i]? = some b → ¬ (b.toNat : Int) = c := fun i hi x hx => by
  by_cases q : i = k
  · subst q; rw [hy] at hx; cases hx; exact h
  · exact hz i (by omega) x hx
end
section
variable {kd a b f p q u c : Int}
theorem wA_kd (h : wrdA kd = []) : kd < 1 ∨ 11 < kd := by
  by_cases r : kd < 1
  · exact .inl r
  · by_cases r2 : 11 < kd
    · exact .inr r2
    · exfalso
      rcases (by omega : kd = 1 ∨ kd = 2 ∨ kd = 3 ∨ kd = 4 ∨ kd = 5 ∨ kd = 6 ∨ kd = 7 ∨ kd = 8 ∨ kd = 9 ∨ kd = 10 ∨ kd = 11) with rfl | rfl | rfl | rfl | rfl | rfl | rfl | rfl | rfl | rfl | rfl <;> cases h
theorem wA_ne (h : ¬ wrdA kd = []) : 1 ≤ kd ∧ kd ≤ 11 := by
  by_cases r : kd < 1
  · exact absurd (by unfold wrdA; iterate 11 rw [if_neg (by omega)]) h
  · by_cases r2 : 11 < kd
    · exact absurd (by unfold wrdA; iterate 11 rw [if_neg (by omega)]) h
    · exact ⟨by omega, by omega⟩
theorem opE_ex (h : 1 ≤ kd ∧ kd ≤ 11) : opE ⟨kd, a, b, f, p, q, u⟩ = if (hsB (wrdB kd) 97 = false ∧ a ≠ 0) ∨ (hsB (wrdB kd) 98 = false ∧ b ≠ 0) ∨ (hsB (wrdB kd) 102 = false ∧ f ≠ 0) ∨ (hsB (wrdB kd) 112 = false ∧ p ≠ 0) ∨ (hsB (wrdB kd) 114 = false ∧ q ≠ 0) ∨ (hsB (wrdB kd) 118 = false ∧ u ≠ 0) then 2
    else if badN a ∨ badN b ∨ badN f ∨ badN p ∨ badN q then 7 else 0 := by
  have z : ¬ badN 0 := by unfold badN; omega
  rcases (by omega : kd = 1 ∨ kd = 2 ∨ kd = 3 ∨ kd = 4 ∨ kd = 5 ∨ kd = 6 ∨ kd = 7 ∨ kd = 8 ∨ kd = 9 ∨ kd = 10 ∨ kd = 11) with rfl | rfl | rfl | rfl | rfl | rfl | rfl | rfl | rfl | rfl | rfl
  all_goals
    unfold opE
    rw [if_neg (by simp)]
    simp only [fdG, TBF, wrdB, hsB]
    simp only [show (1 : Int).toNat = 1 from rfl, show (2 : Int).toNat = 2 from rfl, show (3 : Int).toNat = 3 from rfl, show (4 : Int).toNat = 4 from rfl, show (5 : Int).toNat = 5 from rfl, show (6 : Int).toNat = 6 from rfl, show (7 : Int).toNat = 7 from rfl, show (8 : Int).toNat = 8 from rfl, show (9 : Int).toNat = 9 from rfl, show (10 : Int).toNat = 10 from rfl, show (11 : Int).toNat = 11 from rfl]
    simp [tkG, tkS]
    by_cases ha : a = 0 <;> by_cases hb : b = 0 <;> by_cases hf : f = 0 <;> by_cases hp : p = 0 <;> by_cases hq : q = 0 <;> by_cases hu : u = 0 <;> simp [*]
  all_goals (by_cases qa : badN a <;> by_cases qb : badN b <;> by_cases qf : badN f <;> by_cases qp : badN p <;> by_cases qq : badN q <;> simp [*])
theorem oc_u (h : 1 ≤ kd ∧ kd ≤ 11) (h1 : hsB (wrdB kd) 118 = false) (h2 : u ≠ 0) : opE ⟨kd, a, b, f, p, q, u⟩ = 2 := by rw [opE_ex h, if_pos (.inr (.inr (.inr (.inr (.inr ⟨h1, h2⟩)))))]
def cA (i : Nat) : Int := ((allC.getD i 0).toNat : Int)
theorem cA_at {k : Nat} {y : UInt8} (hy : allC[k]? = some y) : cA k = (y.toNat : Int) := by unfold cA; rw [List.getD_eq_getElem?_getD, hy]; rfl
theorem oc_f {k : Nat} (h : 1 ≤ kd ∧ kd ≤ 11) (hk : (k : Int) < 5) (h1 : hsB (wrdB kd) (cA k) = false) (h2 : gtC a b f p q (cA k) ≠ 0) : opE ⟨kd, a, b, f, p, q, u⟩ = 2 := by
  rw [opE_ex h, if_pos]
  rcases (by omega : k = 0 ∨ k = 1 ∨ k = 2 ∨ k = 3 ∨ k = 4) with rfl | rfl | rfl | rfl | rfl
  · exact .inl ⟨h1, h2⟩
  · exact .inr (.inl ⟨h1, h2⟩)
  · exact .inr (.inr (.inl ⟨h1, h2⟩))
  · exact .inr (.inr (.inr (.inl ⟨h1, h2⟩)))
  · exact .inr (.inr (.inr (.inr (.inl ⟨h1, h2⟩))))
theorem oc_1 (h : wrdA kd = [] ∨ (hsB (wrdB kd) 118 = false ∧ u ≠ 0)) : opE ⟨kd, a, b, f, p, q, u⟩ = 2 := by
  by_cases r : wrdA kd = []
  · exact op_kd (wA_kd r)
  · obtain ⟨h1, h2⟩ := h.resolve_left r
    exact oc_u (wA_ne r) h1 h2
/-- the fields that an operation lacks are 0. -/
def OZ (kd a b f p q : Int) (k : Nat) : Prop := ∀ i, i < k → hsB (wrdB kd) (cA i) = false → gtC a b f p q (cA i) = 0
/-- .. and all are in range. -/
def OR (a b f p q : Int) (k : Nat) : Prop := ∀ i, i < k → ¬ badN (gtC a b f p q (cA i))
theorem OZ.step {k : Nat} (h : OZ kd a b f p q k) (h2 : ¬ (hsB (wrdB kd) (cA k) = false ∧ gtC a b f p q (cA k) ≠ 0)) : OZ kd a b f p q (k + 1) := fun i hi => by
  by_cases r : i = k
  · subst r; exact fun q1 => Decidable.not_not.1 fun q2 => h2 ⟨q1, q2⟩
  · exact h i (by omega)
theorem OR.step {k : Nat} (h : OR a b f p q k) (h2 : ¬ badN (gtC a b f p q (cA k))) : OR a b f p q (k + 1) := fun i hi => by
  by_cases r : i = k
  · subst r; exact h2
  · exact h i (by omega)
theorem OZ.nx {k : Nat} (h : OZ kd a b f p q k) (hk : 5 ≤ k) (hu : ¬ (hsB (wrdB kd) 118 = false ∧ u ≠ 0)) : ¬ ((hsB (wrdB kd) 97 = false ∧ a ≠ 0) ∨ (hsB (wrdB kd) 98 = false ∧ b ≠ 0) ∨ (hsB (wrdB kd) 102 = false ∧ f ≠ 0) ∨ (hsB (wrdB kd) 112 = false ∧ p ≠ 0) ∨ (hsB (wrdB kd) 114 = false ∧ q ≠ 0) ∨ (hsB (wrdB kd) 118 = false ∧ u ≠ 0)) := by
  rintro (r | r | r | r | r | r)
  · exact r.2 (h 0 (by omega) r.1)
  · exact r.2 (h 1 (by omega) r.1)
  · exact r.2 (h 2 (by omega) r.1)
  · exact r.2 (h 3 (by omega) r.1)
  · exact r.2 (h 4 (by omega) r.1)
  · exact hu r
theorem oc_r {k j : Nat} (h : 1 ≤ kd ∧ kd ≤ 11) (hz : OZ kd a b f p q k) (hk : 5 ≤ k) (hu : ¬ (hsB (wrdB kd) 118 = false ∧ u ≠ 0)) (hj : (j : Int) < 5) (h2 : badN (gtC a b f p q (cA j))) : opE ⟨kd, a, b, f, p, q, u⟩ = 7 := by
  rw [opE_ex h, if_neg (hz.nx hk hu), if_pos]
  rcases (by omega : j = 0 ∨ j = 1 ∨ j = 2 ∨ j = 3 ∨ j = 4) with rfl | rfl | rfl | rfl | rfl
  · exact .inl h2
  · exact .inr (.inl h2)
  · exact .inr (.inr (.inl h2))
  · exact .inr (.inr (.inr (.inl h2)))
  · exact .inr (.inr (.inr (.inr h2)))
theorem oc_0 {k j : Nat} (h : 1 ≤ kd ∧ kd ≤ 11) (hz : OZ kd a b f p q k) (hk : 5 ≤ k) (hu : ¬ (hsB (wrdB kd) 118 = false ∧ u ≠ 0)) (hr : OR a b f p q j) (hj : 5 ≤ j) : opE ⟨kd, a, b, f, p, q, u⟩ = 0 := by
  rw [opE_ex h, if_neg (hz.nx hk hu), if_neg]
  rintro (r | r | r | r | r)
  · exact hr 0 (by omega) r
  · exact hr 1 (by omega) r
  · exact hr 2 (by omega) r
  · exact hr 3 (by omega) r
  · exact hr 4 (by omega) r
end
end Go.Own.Ml

namespace Go.Proofs.YtpgkfndbfocibaaGreat
open Go.RowKit Go.Own Go.Own.R Go.Own.G Go.Own.Gr Go.Own.Ml


set_option maxHeartbeats 4000000 in
theorem qhas_c {l : List UInt8} {c : Int} {w : World}  (hll : l.length ≤ 1048576) :
  Calls Tryz.prog 78 #[(stv l), .int .u8 c] w fun e w' => e = .returned (.bool (hsB l c)) ∧ St w NoX [] w' := by
 refine ci2 17 Tryz.func78 V (fun A0 _ F0 => ?_)
 have hS := St.nil w
 refine tb fun _ H1 => (vc (W_end (en (Qa F0) fun A2 _ F2 => tc H1 fun _ H3 => tb fun _ H4 => (vc (W_end (en (Ka F2) fun A5 Y5 F5 => tk H4 (wp_block ?_)))))))
 -- loop 2
 refine loopX (fun mz A' w' => SzN A' 17 ∧ A'.defers = [] ∧ (∃ (k : Nat), (mz = l.length - k) ∧ (k ≤ l.length) ∧ (∀ i, i < k → ∀ b, l[i]? = some b → ¬ (b.toNat : Int) = c) ∧ (EV A' (.tmp 5) = .int .i64 (k : Int)) ∧ (EV A' (.tmp 0) = EV A5 (.tmp 0)) ∧ (EV A' (.tmp 1) = EV A5 (.tmp 1)) ∧ (St w NoX [] w'))) (l.length - 0) ⟨Y5, F5.d, 0, rfl, Za, (fun i hi => by omega), ((fg0 F5).trans (by first | rfl | (simp; done) | (congr 1; omega))), rfl, rfl, hS⟩ ?_
 clear hS
 rintro n6 A6 w6 ⟨Y6, hdf6, k, hm6, hk, hz, l5_6, u0_6, u1_6, S6⟩
 have l0_6 := u0_6.trans (fg1 F5)
 have l1_6 := u1_6.trans (fg2 F5)
 refine td fun _ H7 => tb fun _ H8 => (vm l5_6 (vm (Sa l0_6) (wv (V_lenT V t0 Tryz.underlying9) (vl (Sb t0) t0 (W_end (en (((((ck (cq3 (FS.n hdf6) V) V V)).c (es4 V l0_6)).c (es4 V l1_6)).c (Sd l5_6)) fun A9 _ F9 => tk H8 (cd (fg3 F9) (fun c10 => ?_) fun c10 => ?_)))))))
 ·refine wp_skip (tc H7 fun _ H11 => wp_block (tb fun _ H12 => (vm (fg2 F9) (vm (Sa (fg0 F9)) ?_))))
  have k13 : k < l.length := by first | omega | (simp only [List.length_cons, List.length_nil]; omega) | decide
  obtain ⟨y13, hy13⟩ := get_some (xs := l) (k := k) k13
  have hu13 := y13.toNat_lt
  refine wv (V_idxT V (Sa t0) t0 Za hy13 Tryz.underlying9) (vm (Sc (fg1 F9)) (ve (Sa t0) t0 (W_end (en (Ka (Qd F9)) fun A14 _ F14 => tk H12 (cd (fg0 F14) (fun c15 => ?_) fun c15 => ?_)))))
  ·refine tb fun _ H16 => (vc (W_end (en (Ka F14) fun A17 _ F17 => tk H16 (wp_ret (inb_ret (then_ret (then_ret (inb_ret (then_ret (rt1 F17 (rv_tmp (fg0 F17)) ?_))))))))))
   rw [show hsB l c = true from hs_yes hy13 c15]
   exact ⟨rfl, S6.fin0⟩
  refine wp_skip (inb_n (tk H11 (region_in (vm (fg1 F14) (ad t0 V (vt (W_end (en (Ka (Qb (fx1 F14))) fun A18 Y18 F18 => then_n ⟨l.length - (k + 1), by simp only [hm6]; omega, Y18, F18.d, (k + 1), rfl, Za, (hs_step hz hy13 c15), ((fg0 F18).trans (by first | rfl | (simp; done) | (congr 1; omega))), ((fg3 F18).trans (fg1 F5).symm), ((fg2 F18).trans (fg2 F5).symm), S6⟩))))))))
 refine wp_exit (then_exit (then_exit (inb_hit (ta H3 fun _ H19 => (vc (W_end (en (Ka F9) fun A20 _ F20 => tk H19 (wp_ret (rt1 F20 (rv_tmp (fg0 F20)) ?_)))))))))
 rw [show hsB l c = false from hs_no hz Za]
 exact ⟨rfl, S6.fin0⟩

set_option maxHeartbeats 4000000 in
theorem qget_c {kd a b f p q uu c : Int} {w : World}   :
  Calls Tryz.prog 79 #[.agg #[.int .i64 kd, .int .i64 a, .int .i64 b, .int .i64 f, .int .i64 p, .int .i64 q, .int .u64 uu], .int .u8 c] w fun e w' => e = .returned (.int .i64 (gtC a b f p q c)) ∧ St w NoX [] w' := by
 refine ci2 24 Tryz.func79 V (fun A0 _ F0 => ?_)
 have hS := St.nil w
 refine tb fun _ H1 => (wB (#[.int .i64 (kd), .int .i64 (a), .int .i64 (b), .int .i64 (f), .int .i64 (p), .int .i64 (q), .int .u64 (uu)]) hS (fg0 F0) (fun g2 w2 c2 hc2 S2 => vc (W_end (en (Qa (Ka F0)) fun A3 _ F3 => tc H1 fun _ H4 => tb fun _ H5 => (vm (fg2 F3) (W_end (en (Ka F3) fun A6 _ F6 => tk H5 (wp_block (tb fun _ H7 => (ve (fg0 F6) V (vt (W_end (en (Ka (Qa F6)) fun A8 _ F8 => tk H7 (cd (fg0 F8) (fun c9 => ?_) fun c9 => ?_))))))))))))))
 ·refine tb fun _ H10 => (fa 1 (fg2 F8) (rL (.int .i64 (a)) t0 (S2.ob 0 hc2) (vt (W_end (en (Ka (Qb F8)) fun A11 _ F11 => tk H10 (wp_ret (inb_ret (then_ret (rt1 F11 (rv_tmp (fg0 F11)) ?_)))))))))
  rw [show (gtC a b f p q c) = a from by unfold gtC; rw [if_pos Za]]
  exact ⟨rfl, S2.fin0⟩
 refine tb fun _ H13 => (ve (fg1 F8) V (vt (W_end (en (Ka (Qa F8)) fun A14 _ F14 => tk H13 (cd (fg0 F14) (fun c15 => ?_) fun c15 => ?_)))))
 ·refine tb fun _ H16 => (fa 2 (fg3 F14) (rL (.int .i64 (b)) t0 (S2.ob 0 hc2) (vt (W_end (en (Ka (Qb F14)) fun A17 _ F17 => tk H16 (wp_ret (inb_ret (then_ret (rt1 F17 (rv_tmp (fg0 F17)) ?_)))))))))
  rw [show (gtC a b f p q c) = b from by unfold gtC; rw [if_neg Za, if_pos Za]]
  exact ⟨rfl, S2.fin0⟩
 refine tb fun _ H19 => (ve (fg2 F14) V (vt (W_end (en (Ka (Qa F14)) fun A20 _ F20 => tk H19 (cd (fg0 F20) (fun c21 => ?_) fun c21 => ?_)))))
 ·refine tb fun _ H22 => (fa 3 (fg4 F20) (rL (.int .i64 (f)) t0 (S2.ob 0 hc2) (vt (W_end (en (Ka (Qb F20)) fun A23 _ F23 => tk H22 (wp_ret (inb_ret (then_ret (rt1 F23 (rv_tmp (fg0 F23)) ?_)))))))))
  rw [show (gtC a b f p q c) = f from by unfold gtC; rw [if_neg Za, if_neg Za, if_pos Za]]
  exact ⟨rfl, S2.fin0⟩
 refine tb fun _ H25 => (ve (fg3 F20) V (vt (W_end (en (Ka (Qa F20)) fun A26 _ F26 => tk H25 (cd (fg0 F26) (fun c27 => ?_) fun c27 => ?_)))))
 ·refine tb fun _ H28 => (fa 4 (fg5 F26) (rL (.int .i64 (p)) t0 (S2.ob 0 hc2) (vt (W_end (en (Ka (Qb F26)) fun A29 _ F29 => tk H28 (wp_ret (inb_ret (then_ret (rt1 F29 (rv_tmp (fg0 F29)) ?_)))))))))
  rw [show (gtC a b f p q c) = p from by unfold gtC; rw [if_neg Za, if_neg Za, if_neg Za, if_pos Za]]
  exact ⟨rfl, S2.fin0⟩
 refine wp_skip (inb_n (ta H4 fun _ H31 => (fa 5 (fg5 F26) (rL (.int .i64 (q)) t0 (S2.ob 0 hc2) (vt (W_end (en (Ka (Qb F26)) fun A32 _ F32 => tk H31 (wp_ret (rt1 F32 (rv_tmp (fg0 F32)) ?_)))))))))
 rw [show (gtC a b f p q c) = q from by unfold gtC; rw [if_neg Za, if_neg Za, if_neg Za, if_neg Za]]
 exact ⟨rfl, S2.fin0⟩

set_option maxHeartbeats 4000000 in
theorem qopc_c {kd a b f p q uu : Int} {w : World}   :
  Calls Tryz.prog 41 #[.agg #[.int .i64 kd, .int .i64 a, .int .i64 b, .int .i64 f, .int .i64 p, .int .i64 q, .int .u64 uu]] w fun e w' => e = .returned (.int .i64 (opE (⟨kd, a, b, f, p, q, uu⟩ : OpC))) ∧ St w NoX [] w' := by
 have hal : ([97, 98, 102, 112, 114] : List UInt8).length = 5 := rfl
 refine ci1 64 Tryz.func41 V (fun A0 _ F0 => ?_)
 have hS := St.nil w
 refine tb fun _ H1 => (wB (#[.int .i64 (kd), .int .i64 (a), .int .i64 (b), .int .i64 (f), .int .i64 (p), .int .i64 (q), .int .u64 (uu)]) hS (fg0 F0) (fun g2 w2 c2 hc2 S2 => vc (W_end (en (Qa (Ka F0)) fun A3 _ F3 => ta H1 fun _ H4 => (fa 0 (fg0 F3) (rL (.int .i64 (kd)) t0 (S2.ob 0 hc2) (wc (args1 t0) (qwrd_c (k := kd)) (C0 S2 fun w5 S5 => vm t0 (vx (stv (wrdA kd)) t0 (vx (stv (wrdB kd)) (Sa t0) (va (Sa t0) (va (Sa t0) (W_end (en (Kb (Qf F3)) fun A6 _ F6 => tc H4 fun _ H7 => td fun _ H8 => wp_mid (G := fun A' w' => SzN A' 64 ∧ A'.defers = [] ∧ (EV A' (.tmp 1) = EV A6 (.tmp 1)) ∧ (EV A' (.tmp 4) = EV A6 (.tmp 4)) ∧ (EV A' (.tmp 26) = .bool (decide ((wrdA kd = []) ∨ (hsB (wrdB kd) 118 = false ∧ uu ≠ 0)))) ∧ St w NoX [c2] w') ?_ ?_))))))))))))))
 ·have j1_9 := (fg2 F6)
  have j4_9 := (fg0 F6)
  refine region_in (vm (fg1 F6) (wv (V_eqlT V t0 V) (W_split V V (V_mov V t0) (fun c10 => ?_) (fun c10 => ?_))))
  ·refine xo V t0 (xo V (Sa t0) (xo V (Sb t0) (xo V (Sc t0) (W_off V (wanted_u V V t0 (ez V)) (W_off V (wanted_u V V (Sa t0) (ez V)) (W_off V (wanted_u V V (Sb t0) (ez V)) (xo V (Sg t0) (vT (Sh t0) V (W_end (en (Ka (Qc (Qh F6))) fun A11 Y11 F11 => ?_))))))))))
   exact Mid_n ⟨Y11, F11.d, ((fg3 F11).trans j1_9.symm), ((fg1 F11).trans j4_9.symm), ((fg0 F11).trans (congrArg Value.bool ((decide_eq_true (Or.inl c10)).symm))), S5⟩
  refine wg V t0 (uvm (Sc (fg0 F6))) (W_call V (xwt V V (Sa t0)) V Tryz.func78 kr V (args2 t0 V) (qhas_c (c := 118) (by first | with_reducible assumption | (have := wrdB_le kd; omega))) (C0 S5 fun w12 S12 => wg V (Sb t0) (V_not V t0) (W_splitB V (xwt V V (Sc t0)) (V_mov V t0) (fun c13 => ?_) (fun c13 => ?_))))
  ·refine wg V t0 (ufa 6 (Sg (fg2 F6))) (wq V (Sa t0) (urL (.int .u64 (uu)) t0 (S12.ob 0 hc2)) (wg V (Sb t0) (uvn t0 V) (wg V (Sg t0) (uvT (Sc t0) t0) (vF (Sh t0) t0 (W_end (en (Ka (Qc (Qh F6))) fun A14 Y14 F14 => ?_))))))
   exact Mid_n ⟨Y14, F14.d, ((fg3 F14).trans j1_9.symm), ((fg1 F14).trans j4_9.symm), ((fg0 F14).trans (congrArg Value.bool (decide_eq_decide.2 ⟨fun q => Or.inr ⟨by simpa using c13, q⟩, fun q => (q.resolve_left c10).2⟩))), S12⟩
  refine xo V t0 (xo V (Sa t0) (xo V (Sb t0) (wg V (Sg t0) (uvF (Sc t0) V) (vF (Sh t0) t0 (W_end (en (Ka (Qc (Qh F6))) fun A15 Y15 F15 => ?_))))))
  exact Mid_n ⟨Y15, F15.d, ((fg3 F15).trans j1_9.symm), ((fg1 F15).trans j4_9.symm), ((fg0 F15).trans (congrArg Value.bool ((decide_eq_false (fun q => by have q1 := (q.resolve_left c10).1; rw [q1] at c13; simp at c13)).symm))), S12⟩
 rintro A9 w9 ⟨Y9, hdf9, u1_9, u4_9, l26_9, S9⟩
 have l1_9 := u1_9.trans (fg2 F6)
 have l4_9 := u4_9.trans (fg0 F6)
 refine tk H8 (cd l26_9 (fun c16 => ?_) fun c16 => ?_)
 ·refine tb fun _ H17 => (vc (W_end (en (Ka (FS.n hdf9)) fun A18 _ F18 => tk H17 (wp_ret (then_ret (rt1 F18 (rv_tmp (fg0 F18)) ?_))))))
  have h : (opE (⟨kd, a, b, f, p, q, uu⟩ : OpC)) = 2 := oc_1 c16
  rw [h]
  exact ⟨rfl, S9.fin0⟩
 have hkd := wA_ne (kd := kd) (fun q => c16 (Or.inl q))
 have huu : ¬ (hsB (wrdB kd) 118 = false ∧ uu ≠ 0) := fun q => c16 (Or.inr q)
 refine wp_skip (ta H7 fun _ H20 => (vc (W_end (en ((((ck (FS.n hdf9) V V)).c (es V l1_9)).c (Sa l4_9)) fun A21 _ F21 => tc H20 fun _ H22 => tb fun _ H23 => (vc (W_end (en (Ka F21) fun A24 Y24 F24 => tk H23 (wp_block ?_))))))))
 -- loop 6
 refine loopX (fun mz A' w' => SzN A' 64 ∧ A'.defers = [] ∧ (∃ (k : Nat), (mz = 5 - k) ∧ (k ≤ 5) ∧ (OZ kd a b f p q k) ∧ (EV A' (.tmp 6) = .int .i64 (k : Int)) ∧ (EV A' (.tmp 1) = EV A24 (.tmp 1)) ∧ (EV A' (.tmp 4) = EV A24 (.tmp 4)) ∧ (EV A' (.tmp 5) = EV A24 (.tmp 5)) ∧ (St w NoX [bx g2 50 #[.int .i64 (kd), .int .i64 (a), .int .i64 (b), .int .i64 (f), .int .i64 (p), .int .i64 (q), .int .u64 (uu)]] w'))) (5 - 0) ⟨Y24, F24.d, 0, rfl, Za, (fun i hi => by omega), ((fg0 F24).trans (by first | rfl | (simp; done) | (congr 1; omega))), rfl, rfl, rfl, (by subst hc2; exact S9)⟩ ?_
 clear S9 hc2
 rintro n25 A25 w25 ⟨Y25, hdf25, k, hm25, hk, hz, l6_25, u1_25, u4_25, u5_25, S25⟩
 have l1_25 := u1_25.trans (fg2 F24)
 have l4_25 := u4_25.trans (fg1 F24)
 have l5_25 := u5_25.trans (fg3 F24)
 obtain ⟨c2_25, hc2_25, S25⟩ := gen1 S25
 refine td fun _ H26 => tb fun _ H27 => (vm l6_25 (vm (Sa l5_25) (wv (V_lenT V t0 Tryz.underlying9) (vl (Sb t0) t0 (W_end (en ((((((ck (cq3 (FS.n hdf25) V) V V)).c (es4 V l1_25)).c (es4 V l4_25)).c (es4 V l5_25)).c (Sd l6_25)) fun A28 _ F28 => tk H27 (cd (fg4 F28) (fun c29 => ?_) fun c29 => ?_)))))))
 ·refine wp_skip (tc H26 fun _ H30 => wp_block (td fun _ H31 => wp_mid (G := fun A' w' => SzN A' 64 ∧ A'.defers = [] ∧ (EV A' (.tmp 1) = EV A28 (.tmp 1)) ∧ (EV A' (.tmp 4) = EV A28 (.tmp 4)) ∧ (EV A' (.tmp 5) = EV A28 (.tmp 5)) ∧ (EV A' (.tmp 6) = EV A28 (.tmp 6)) ∧ (EV A' (.tmp 46) = .bool (decide ((hsB (wrdB kd) (cA k) = false) ∧ ((gtC a b f p q (cA k)) ≠ 0)))) ∧ St w NoX [c2_25] w') ?_ ?_))
  ·have j1_32 := (fg3 F28)
   have j4_32 := (fg2 F28)
   have j5_32 := (fg1 F28)
   have j6_32 := (fg0 F28)
   have k33 : k < ([97, 98, 102, 112, 114] : List UInt8).length := by first | omega | (simp only [List.length_cons, List.length_nil]; omega) | decide
   obtain ⟨y33, hy33⟩ := get_some (xs := ([97, 98, 102, 112, 114] : List UInt8)) (k := k) k33
   have hu33 := y33.toNat_lt
   refine region_monoS 14 14 [none, none, none, none, some (SPv [] (fun _ => fun u l' => u = .bool (hsB (wrdB kd) (y33.toNat : Int)) ∧ l' = []) 4), none, none, none, none, none, none, some (SPv [] (fun _ => fun u l' => u = .int .i64 (gtC a b f p q (y33.toNat : Int)) ∧ l' = []) 11)] kr kr (dm (fg2 F28) (dm (Sa (fg1 F28)) (dm (Sb (fg0 F28)) (dv (V_idxT V (Sa t0) t0 Za hy33 Tryz.underlying9) (D_call (ts := []) (vs := []) (C0 := fun _ => fun u l' => u = .bool (hsB (wrdB kd) (y33.toNat : Int)) ∧ l' = []) (C := fun u l' => u = .bool (hsB (wrdB kd) (y33.toNat : Int)) ∧ l' = []) V V V Tryz.func78 kr V (args2 (Sc t0) t0) V V V V (fun sx hx hF => ?_) (fun u34 l34 hu34 => ?_))))))
   ·refine (qhas_c (c := (y33.toNat : Int))  (by first | with_reducible assumption | (have := wrdB_le kd; omega))).mono ?_
    rintro _ _ ⟨rfl, hz⟩
    exact ⟨_, rfl, _, ⟨rfl, rfl⟩, hz⟩
   obtain ⟨rfl, hl34⟩ := hu34
   refine dv (V_not V t0) (D_splitB V V (V_mov V t0) V V (fun c35 => ?_) (fun c35 => ?_))
   ·refine D_r V (xwt V V t0) kr (fun sx hx hF => (VR_ldA V (Sg (fg3 F28)) ((S25.grow hx).ob 0 hc2_25) Tryz.underlying50 V kr)) V V (D_v V (xwt V V (Sa t0)) (V_mov V (Sh (fg1 F28))) V V (D_v V (xwt V V (Sb t0)) (V_mov V (Sh (Sa (fg0 F28)))) V V (D_v V (xwt V V (Sc t0)) (V_idxT V (Sa t0) t0 Za hy33 Tryz.underlying9) V V (D_call (ts := []) (vs := []) (C0 := fun _ => fun u l' => u = .int .i64 (gtC a b f p q (y33.toNat : Int)) ∧ l' = []) (C := fun u l' => u = .int .i64 (gtC a b f p q (y33.toNat : Int)) ∧ l' = []) V (xwt V V (Sd t0)) V Tryz.func79 kr V (args2 (Sc t0) t0) V V V V (fun sx hx hF => ?_) (fun u37 l37 hu37 => ?_)))))
    ·refine (qget_c (kd := kd) (a := a) (b := b) (f := f) (p := p) (q := q) (uu := uu) (c := (y33.toNat : Int))  ).mono ?_
     rintro _ _ ⟨rfl, hz⟩
     exact ⟨_, rfl, _, ⟨rfl, rfl⟩, hz⟩
    obtain ⟨rfl, hl37⟩ := hu37
    refine D_v V (xwt V V (Se t0)) (V_neq V t0 V) V V (dv (uvT (Sf t0) t0) (ZS_none S25 (Nat.le_refl _) (Nat.le_refl _) (fun s38 hJ38 hL38 hF38 => ?_)))
    obtain ⟨ll34, ws34, we34, ⟨hq34, hl34r⟩, hm34, k34, e34⟩ := L.all_get (L.all_rest hF38); cases hq34; subst hl34r
    replace hJ38 := hJ38.add hL38 (i := 4) V hm34 k34 e34
    obtain ⟨ll37, ws37, we37, ⟨hq37, hl37r⟩, hm37, k37, e37⟩ := L.all_get hF38; cases hq37; subst hl37r
    replace hJ38 := hJ38.add hL38 (i := 11) V hm37 k37 e37
    have S38 := hJ38.st; clear hF38 hJ38 hL38
    generalize s38.1 = w38 at *
    replace S38 : St w NoX [c2_25] w38 := S38
    refine en (Kg (Qg F28)) fun A39 Y39 F39 => ?_
    exact Mid_n ⟨Y39, F39.d, ((fg10 F39).trans j1_32.symm), ((fg9 F39).trans j4_32.symm), ((fg8 F39).trans j5_32.symm), ((fg7 F39).trans j6_32.symm), ((fg0 F39).trans (congrArg Value.bool (by rw [cA_at hy33]; exact decide_eq_decide.2 ⟨fun q => ⟨by simpa using c35, q⟩, fun q => q.2⟩))), S38⟩
   refine D_off V (wanted_f V V t0 (ez V) V) V (D_off V (wanted_f V V (Sa t0) (ez V) V) V (D_off V (wanted_f V V (Sb t0) (ez V) V) V (D_off V (wanted_f V V (Sc t0) (ez V) V) V (D_off V (wanted_f V V (Sd t0) (ez V) V) V (D_off V (wanted_f V V (Se t0) (ez V) V) V (dv (uvF (Sf t0) V) (ZS_none S25 (Nat.le_refl _) (Nat.le_refl _) (fun s40 hJ40 hL40 hF40 => ?_))))))))
   obtain ⟨ll34, ws34, we34, ⟨hq34, hl34r⟩, hm34, k34, e34⟩ := L.all_get hF40; cases hq34; subst hl34r
   replace hJ40 := hJ40.add hL40 (i := 4) V hm34 k34 e34
   have S40 := hJ40.st; clear hF40 hJ40 hL40
   generalize s40.1 = w40 at *
   replace S40 : St w NoX [c2_25] w40 := S40
   refine en (Kg (Qg F28)) fun A41 Y41 F41 => ?_
   exact Mid_n ⟨Y41, F41.d, ((fg10 F41).trans j1_32.symm), ((fg9 F41).trans j4_32.symm), ((fg8 F41).trans j5_32.symm), ((fg7 F41).trans j6_32.symm), ((fg0 F41).trans (congrArg Value.bool ((decide_eq_false (fun q => by have q1 := q.1; rw [cA_at hy33] at q1; rw [q1] at c35; simp at c35)).symm))), S40⟩
  rintro A32 w32 ⟨Y32, hdf32, u1_32, u4_32, u5_32, u6_32, l46_32, S32⟩
  have l1_32 := u1_32.trans (fg3 F28)
  have l4_32 := u4_32.trans (fg2 F28)
  have l5_32 := u5_32.trans (fg1 F28)
  have l6_32 := u6_32.trans (fg0 F28)
  refine tk H31 (cd l46_32 (fun c42 => ?_) fun c42 => ?_)
  ·refine tb fun _ H43 => (vc (W_end (en (Ka (FS.n hdf32)) fun A44 _ F44 => tk H43 (wp_ret (inb_ret (then_ret (then_ret (inb_ret (then_ret (rt1 F44 (rv_tmp (fg0 F44)) ?_))))))))))
   have h : (opE (⟨kd, a, b, f, p, q, uu⟩ : OpC)) = 2 := oc_f hkd Za c42.1 c42.2
   rw [h]
   exact ⟨rfl, S32.fin0⟩
  refine wp_skip (inb_n (tk H30 (region_in (vm l6_32 (ad t0 V (vt (W_end (en (((((ck (cq2 (FS.n hdf32) V) V V)).c (es3 V l1_32)).c (es3 V l4_32)).c (Sc l5_32)) fun A46 Y46 F46 => then_n ⟨5 - (k + 1), by simp only [hm25]; omega, Y46, F46.d, (k + 1), rfl, Za, (hz.step c42), ((fg3 F46).trans (by first | rfl | (simp; done) | (congr 1; omega))), ((fg2 F46).trans (fg2 F24).symm), ((fg1 F46).trans (fg1 F24).symm), ((fg0 F46).trans (fg3 F24).symm), (by subst hc2_25; exact S32)⟩))))))))
 refine wp_exit (then_exit (then_exit (inb_hit (tc H22 fun _ H47 => tb fun _ H48 => (vc (W_end (en (Ka F28) fun A49 Y49 F49 => tk H48 (wp_block ?_))))))))
 -- loop 11
 refine loopX (fun mz A' w' => SzN A' 64 ∧ A'.defers = [] ∧ (∃ (j : Nat), (mz = 5 - j) ∧ (j ≤ 5) ∧ (OR a b f p q j) ∧ (EV A' (.tmp 7) = .int .i64 (j : Int)) ∧ (EV A' (.tmp 1) = EV A49 (.tmp 1)) ∧ (EV A' (.tmp 5) = EV A49 (.tmp 5)) ∧ (St w NoX [bx g2 50 #[.int .i64 (kd), .int .i64 (a), .int .i64 (b), .int .i64 (f), .int .i64 (p), .int .i64 (q), .int .u64 (uu)]] w'))) (5 - 0) ⟨Y49, F49.d, 0, rfl, Za, (fun i hi => by omega), ((fg0 F49).trans (by first | rfl | (simp; done) | (congr 1; omega))), rfl, rfl, (by subst hc2_25; exact S25)⟩ ?_
 clear S25 hc2_25
 rintro n50 A50 w50 ⟨Y50, hdf50, j, hm50, hj, hr, l7_50, u1_50, u5_50, S50⟩
 have l1_50 := u1_50.trans (fg4 F49)
 have l5_50 := u5_50.trans (fg2 F49)
 obtain ⟨c2_50, hc2_50, S50⟩ := gen1 S50
 refine td fun _ H51 => tb fun _ H52 => (vm l7_50 (vm (Sa l5_50) (wv (V_lenT V t0 Tryz.underlying9) (vl (Sb t0) t0 (W_end (en (((((ck (cq3 (FS.n hdf50) V) V V)).c (es4 V l1_50)).c (es4 V l5_50)).c (Sd l7_50)) fun A53 _ F53 => tk H52 (cd (fg3 F53) (fun c54 => ?_) fun c54 => ?_)))))))
 ·refine wp_skip (tc H51 fun _ H55 => wp_block (td fun _ H56 => ?_))
  have k57 : j < ([97, 98, 102, 112, 114] : List UInt8).length := by first | omega | (simp only [List.length_cons, List.length_nil]; omega) | decide
  obtain ⟨y57, hy57⟩ := get_some (xs := ([97, 98, 102, 112, 114] : List UInt8)) (k := j) k57
  have hu57 := y57.toNat_lt
  refine region_monoS 6 6 [none, none, none, none, some (SPv [] (fun _ => fun u l' => u = .int .i64 (gtC a b f p q (y57.toNat : Int)) ∧ l' = []) 4)] kr kr (dr (fun _ hx _ => (ura (fg2 F53) ((S50.grow hx).ob 0 hc2_50))) (dm (Sa (fg1 F53)) (dm (Sb (fg0 F53)) (dv (V_idxT V (Sa t0) t0 Za hy57 Tryz.underlying9) (D_call (ts := []) (vs := []) (C0 := fun _ => fun u l' => u = .int .i64 (gtC a b f p q (y57.toNat : Int)) ∧ l' = []) (C := fun u l' => u = .int .i64 (gtC a b f p q (y57.toNat : Int)) ∧ l' = []) V V V Tryz.func79 kr V (args2 (Sc t0) t0) V V V V (fun sx hx hF => ?_) (fun u58 l58 hu58 => ?_))))))
  ·refine (qget_c (kd := kd) (a := a) (b := b) (f := f) (p := p) (q := q) (uu := uu) (c := (y57.toNat : Int))  ).mono ?_
   rintro _ _ ⟨rfl, hz⟩
   exact ⟨_, rfl, _, ⟨rfl, rfl⟩, hz⟩
  obtain ⟨rfl, hl58⟩ := hu58
  refine dv (V_asg V t0) (ZS_none S50 (Nat.le_refl _) (Nat.le_refl _) (fun s59 hJ59 hL59 hF59 => ?_))
  obtain ⟨ll58, ws58, we58, ⟨hq58, hl58r⟩, hm58, k58, e58⟩ := L.all_get hF59; cases hq58; subst hl58r
  replace hJ59 := hJ59.add hL59 (i := 4) V hm58 k58 e58
  have S59 := hJ59.st; clear hF59 hJ59 hL59
  generalize s59.1 = w59 at *
  replace S59 : St w NoX [c2_50] w59 := S59
  refine en (Ka (Qe F53)) fun A60 _ F60 => tc H56 fun _ H61 => wp_mid (G := fun A' w' => SzN A' 64 ∧ A'.defers = [] ∧ (EV A' (.tmp 1) = EV A60 (.tmp 1)) ∧ (EV A' (.tmp 5) = EV A60 (.tmp 5)) ∧ (EV A' (.tmp 7) = EV A60 (.tmp 7)) ∧ (EV A' (.tmp 63) = .bool (decide (((gtC a b f p q (cA j)) < -1000000000) ∨ (1000000000 < (gtC a b f p q (cA j)))))) ∧ St w NoX [c2_50] w') ?_ ?_
  ·have j1_62 := (fg3 F60)
   have j5_62 := (fg2 F60)
   have j7_62 := (fg1 F60)
   refine region_in (vm (fg0 F60) (vl t0 V (W_split V V (V_mov V t0) (fun c63 => ?_) (fun c63 => ?_))))
   ·refine xo V t0 (xo V (Sa t0) (vT (Sb t0) V (W_end (en (Kc (Qc F60)) fun A64 Y64 F64 => ?_))))
    exact Mid_n ⟨Y64, F64.d, ((fg6 F64).trans j1_62.symm), ((fg5 F64).trans j5_62.symm), ((fg4 F64).trans j7_62.symm), ((fg0 F64).trans (congrArg Value.bool ((by rw [cA_at hy57]; first | exact (decide_eq_true Za).symm | exact (decide_eq_false Za).symm | exact decide_eq_decide.2 Za)))), S59⟩
   refine wg V t0 (uvm (Sc (fg0 F60))) (wg V (Sa t0) (uvg t0 V) (vF (Sb t0) t0 (W_end (en (Kc (Qc F60)) fun A65 Y65 F65 => ?_))))
   exact Mid_n ⟨Y65, F65.d, ((fg6 F65).trans j1_62.symm), ((fg5 F65).trans j5_62.symm), ((fg4 F65).trans j7_62.symm), ((fg0 F65).trans (congrArg Value.bool ((by rw [cA_at hy57]; first | exact (decide_eq_true Za).symm | exact (decide_eq_false Za).symm | exact decide_eq_decide.2 Za)))), S59⟩
  rintro A62 w62 ⟨Y62, hdf62, u1_62, u5_62, u7_62, l63_62, S62⟩
  have l1_62 := u1_62.trans (fg3 F60)
  have l5_62 := u5_62.trans (fg2 F60)
  have l7_62 := u7_62.trans (fg1 F60)
  refine tk H61 (cd l63_62 (fun c66 => ?_) fun c66 => ?_)
  ·refine tb fun _ H67 => (vc (W_end (en (Ka (FS.n hdf62)) fun A68 _ F68 => tk H67 (wp_ret (inb_ret (then_ret (then_ret (inb_ret (then_ret (rt1 F68 (rv_tmp (fg0 F68)) ?_))))))))))
   have h : (opE (⟨kd, a, b, f, p, q, uu⟩ : OpC)) = 7 := oc_r hkd hz Za huu Za c66
   rw [h]
   exact ⟨rfl, S62.fin0⟩
  refine wp_skip (inb_n (tk H55 (region_in (vm l7_62 (ad t0 V (vt (W_end (en ((((ck (cq2 (FS.n hdf62) V) V V)).c (es3 V l1_62)).c (Sc l5_62)) fun A70 Y70 F70 => then_n ⟨5 - (j + 1), by simp only [hm50]; omega, Y70, F70.d, (j + 1), rfl, Za, (hr.step c66), ((fg2 F70).trans (by first | rfl | (simp; done) | (congr 1; omega))), ((fg1 F70).trans (fg4 F49).symm), ((fg0 F70).trans (fg2 F49).symm), (by subst hc2_50; exact S62)⟩))))))))
 refine wp_exit (then_exit (then_exit (inb_hit (ta H47 fun _ H71 => (vc (W_end (en (Ka F53) fun A72 _ F72 => tk H71 (wp_ret (rt1 F72 (rv_tmp (fg0 F72)) ?_)))))))))
 have h : (opE (⟨kd, a, b, f, p, q, uu⟩ : OpC)) = 0 := oc_0 hkd hz Za huu hr Za
 rw [h]
 exact ⟨rfl, S50.fin0⟩

end Go.Proofs.YtpgkfndbfocibaaGreat
/-! an operation as the reference does it -/
namespace Go.Own.Ml
open Go Go.Own Go.Own.R Go.Own.G Go.Own.Gr
theorem fin_0 {g g' : GA} {e : Int} (h : e = 0) : fin g e g' = (g', ⟨0, false, 0⟩) := by unfold fin; rw [if_pos h, h]
theorem fin_n {g g' : GA} {e : Int} (h : e ≠ 0) : fin g e g' = (g, ⟨e, false, 0⟩) := by unfold fin; rw [if_neg h]
/-- what an operation that only asks answers. -/
def asG (g : GA) (c : OpC) : AnC := (doG 0 g c).2
theorem do_as {mx : Int} {g : GA} {c : OpC} (h : c.kd ≠ 1 ∧ c.kd ≠ 2 ∧ c.kd ≠ 3 ∧ c.kd ≠ 5 ∧ c.kd ≠ 6 ∧ c.kd ≠ 7) : doG mx g c = (g, asG g c) := by
  obtain ⟨h1, h2, h3, h5, h6, h7⟩ := h
  unfold asG doG
  simp only [if_neg h1, if_neg h2, if_neg h3, if_neg h5, if_neg h6, if_neg h7]
  split
  · rfl
  · split
    · rfl
    · split
      · rfl
      · split <;> rfl
end Go.Own.Ml

namespace Go.Proofs.YtpgkfndbfocibaaGreat
open Go.RowKit Go.Own Go.Own.R Go.Own.G Go.Own.Gr Go.Own.Ml


set_option maxHeartbeats 4000000 in
theorem qas_c {G : GV} {kd a b f p q uu : Int} {w : World} (hg_G : Ro w NoX (gls [G])) (hsm : SM (G.1.2.map ab)) (hk : kd ≠ 1 ∧ kd ≠ 2 ∧ kd ≠ 3 ∧ kd ≠ 5 ∧ kd ≠ 6 ∧ kd ≠ 7) :
  Calls Tryz.prog 88 #[.agg #[G.1.1, G.2.1], .agg #[.int .i64 kd, .int .i64 a, .int .i64 b, .int .i64 f, .int .i64 p, .int .i64 q, .int .u64 uu]] w fun e w' => e = .returned (.agg #[.int .i64 (asG (gab G) (⟨kd, a, b, f, p, q, uu⟩ : OpC)).e, .bool (asG (gab G) (⟨kd, a, b, f, p, q, uu⟩ : OpC)).t, .int .u64 (asG (gab G) (⟨kd, a, b, f, p, q, uu⟩ : OpC)).v]) ∧ St w NoX [] w' := by
 have Go := gl_o m1 hg_G
 have Gn := gl_n m1 hg_G
 have Gr := gl_r m1 hg_G
 refine ci2 86 Tryz.func88 V (fun A0 _ F0 => ?_)
 have hS := St.nil w
 have bGo := SlN.le (sl_SlN Go.at)
 have bGr := SlN.le (sl_SlN Gr.at)
 refine tb fun _ H1 => (wB (#[G.1.1, G.2.1]) hS (fg0 F0) (fun g2 w2 c2 hc2 S2 => wB (#[.int .i64 (kd), .int .i64 (a), .int .i64 (b), .int .i64 (f), .int .i64 (p), .int .i64 (q), .int .u64 (uu)]) S2 (Sa (fg1 F0)) (fun g3 w3 c3 hc3 S3 => wA (#[.int .i64 0, .bool false, .int .u64 0]) S3 (fun g4 w4 c4 hc4 S4 => W_end (en (Kc F0) fun A5 _ F5 => tc H1 fun _ H6 => tb fun _ H7 => (fa 0 (fg1 F5) (rL (.int .i64 (kd)) t0 (S4.ob 1 hc3) (W_end (en (Ka (Qa F5)) fun A8 _ F8 => tk H7 (wp_block (tb fun _ H9 => ve (fg0 F8) V (vt (W_end (en (Ka (Qa F8)) fun A10 _ F10 => tk H9 (cd (fg0 F10) (fun c11 => ?_) fun c11 => ?_)))))))))))))))
 ·refine tb fun _ H12 => (ra (fg4 F10) (S4.ob 2 hc2) (fa 1 (Sa (fg3 F10)) (rL (.int .i64 (a)) t0 (S4.ob 1 hc3) (fa 3 (Sc (fg3 F10)) (rL (.int .i64 (f)) t0 (S4.ob 1 hc3) (wc (args3 (Sd t0) (Sb t0) t0) (qRd_c (a := a) (f := f) (S4.roC Go) (S4.roC Gn) (S4.roC Gr)) (C0 S4 fun w13 S13 => vm t0 (vx (.int .u64 ((rdV (G.1.2.map ab) G.2.2 a f))) t0 (vx (.int .i64 ((rwE (G.1.2.map ab) G.2.2 [a] a f))) (Sa t0) (va (Sa t0) (va (Sa t0) (W_end (en (Kb (Qa (Qh F10))) fun A14 _ F14 => ?_)))))))))))))
  have S15 := S13.se [0] [c4]
  refine ta H12 fun _ H16 => (vm (fg0 F14) (vm (Sa (fg1 F14)) (wv (xbS (n := 3) (z := .agg #[.int .i64 0, .bool false, .int .u64 0]) V (parts2 (Sa t0) t0)) (xsA0 S15 hc4 V V V (Sc (fg4 F14)) t0 (fun w17 c17 hc17 S17 => W_end (en (Qc F14) fun A18 _ F18 => tk H16 (wp_ret (inb_ret (then_ret (rt1 F18 (rvA (fg4 F18) (S17.ob 0 hc17)) ?_))))))))))
  have hD := do_4 (mx := 0) (g := gab G) (c := (⟨kd, a, b, f, p, q, uu⟩ : OpC)) Zi
  unfold asG
  rw [hD]
  exact ⟨rfl, S17.fin0⟩
 refine tb fun _ H19 => (ve (fg1 F10) V (vt (W_end (en (Ka (Qa F10)) fun A20 _ F20 => tk H19 (cd (fg0 F20) (fun c21 => ?_) fun c21 => ?_)))))
 ·refine tb fun _ H22 => (ra (fg5 F20) (S4.ob 2 hc2) (fa 1 (Sa (fg4 F20)) (rL (.int .i64 (a)) t0 (S4.ob 1 hc3) (fa 2 (Sc (fg4 F20)) (rL (.int .i64 (b)) t0 (S4.ob 1 hc3) (wc (args3 (Sd t0) (Sb t0) t0) (qAl_c (a := a) (b := b) (S4.roC Go) (S4.roC Gn) (S4.roC Gr)) (C0 S4 fun w23 S23 => vm t0 (vx (.bool ((alB (G.1.2.map ab) G.2.2 a b))) t0 (vx (.int .i64 ((ckd (G.1.2.map ab) G.2.2 [a, b]))) (Sa t0) (va (Sa t0) (va (Sa t0) (W_end (en (Kb (Qa (Qh F20))) fun A24 _ F24 => ?_)))))))))))))
  have S25 := S23.se [0] [c4]
  refine ta H22 fun _ H26 => (vm (fg0 F24) (vm (Sa (fg1 F24)) (wv (xbS (n := 3) (z := .agg #[.int .i64 0, .bool false, .int .u64 0]) V (parts2 (Sa t0) t0)) (xsA0 S25 hc4 V V V (Sc (fg5 F24)) t0 (fun w27 c27 hc27 S27 => W_end (en (Qc F24) fun A28 _ F28 => tk H26 (wp_ret (inb_ret (then_ret (rt1 F28 (rvA (fg5 F28) (S27.ob 0 hc27)) ?_))))))))))
  have hD := do_8 (mx := 0) (g := gab G) (c := (⟨kd, a, b, f, p, q, uu⟩ : OpC)) Zi
  unfold asG
  rw [hD]
  exact ⟨rfl, S27.fin0⟩
 refine tb fun _ H29 => (ve (fg2 F20) V (vt (W_end (en (Ka (Qa F20)) fun A30 _ F30 => tk H29 (cd (fg0 F30) (fun c31 => ?_) fun c31 => ?_)))))
 ·refine tb fun _ H32 => (ra (fg6 F30) (S4.ob 2 hc2) (fa 1 (Sa (fg5 F30)) (rL (.int .i64 (a)) t0 (S4.ob 1 hc3) (fa 1 (Sc (fg5 F30)) (rL (.int .i64 (a)) t0 (S4.ob 1 hc3) (wc (args3 (Sd t0) (Sb t0) t0) (qAl_c (a := a) (b := a) (S4.roC Go) (S4.roC Gn) (S4.roC Gr)) (C0 S4 fun w33 S33 => vm t0 (vx (.bool ((alB (G.1.2.map ab) G.2.2 a a))) t0 (vx (.int .i64 ((ckd (G.1.2.map ab) G.2.2 [a, a]))) (Sa t0) (va (Sa t0) (va (Sa t0) (W_end (en (Ka (Qb (Qh F30))) fun A34 _ F34 => ta H32 fun _ H35 => (vm (fg0 F34) (vm (Sa (fg0 F34)) (ve t0 V (W_split V V (V_mov V t0) (fun c36 => ?_) (fun c36 => ?_))))))))))))))))))
  ·have hcd : ckd (G.1.2.map ab) G.2.2 [a, a] = 0 := by omega
   have ha := (ckd_0.1 hcd).2 a Zl
   refine wg V t0 (ufa 1 (Sd (fg7 F34))) (wq V (Sa t0) (urL G.2.1 t0 (S33.ob 2 hc2)) (wg V (Sb t0) (ufa 1 (Sf (fg6 F34))) (wq V (Sc t0) (urL (.int .i64 (a)) t0 (S33.ob 1 hc3)) ?_)))
   have k37 : a.toNat < G.2.2.length := by first | omega | (simp only [List.length_cons, List.length_nil]; omega) | (simp only [List.length_set]; omega) | decide
   obtain ⟨y37, hy37⟩ := get_some (xs := G.2.2) (k := a.toNat) k37
   obtain ⟨B37, O37, C37, hv37⟩ := (SlN.blk (sl_SlN Gr.at) om)
   refine wg V (Sd t0) (V_ixS (off := O37 + a.toNat) 1 a.toNat V (Sb t0) t0 hv37 Za k37 Tryz.underlying25 kr (congrArg _ (Nat.mul_one _))) (wq V (Se t0) (urc t0 ((sl_SlN (S33.ro Gr)).cell hv37 (map_get hy37))) (wg V (Sf t0) (uve t0 V) (vT (Sg t0) t0 (wv (xbS (n := 3) (z := .agg #[.int .i64 0, .bool false, .int .u64 0]) V (parts2 (Sh (Sc t0)) t0)) (xsA0 S33 hc4 V V V (Sh (Se (fg5 F34))) t0 (fun w38 c38 hc38 S38 => W_end (en (Qe (Qh F34)) fun A39 _ F39 => tk H35 (wp_ret (inb_ret (then_ret (rt1 F39 (rvA (fg5 F39) (S38.ob 0 hc38)) ?_)))))))))))
   have hD := do_9 (mx := 0) (g := gab G) (c := (⟨kd, a, b, f, p, q, uu⟩ : OpC)) Zi
   unfold asG
   have ht : decide (ckd (gab G).1 (gab G).2 [a, a] = 0 ∧ rg (gab G).2 a = 0) = decide (y37 = 0) := by rw [show rg (gab G).2 a = y37 from rg_at hy37]; exact decide_eq_decide.2 ⟨fun q => q.2, fun q => ⟨hcd, q⟩⟩
   rw [hD]
   simp only [ht]
   exact ⟨rfl, S38.fin0⟩
  refine xo V t0 (xo V (Sa t0) (xo V (Sb t0) (xo V (Sc t0) (xo V (Sd t0) (xo V (Se t0) (xo V (Sf t0) (vF (Sg t0) V (wv (xbS (n := 3) (z := .agg #[.int .i64 0, .bool false, .int .u64 0]) V (parts2 (Sh (Sc t0)) t0)) (xsA0 S33 hc4 V V V (Sh (Se (fg5 F34))) t0 (fun w41 c41 hc41 S41 => W_end (en (Qe (Qh F34)) fun A42 _ F42 => tk H35 (wp_ret (inb_ret (then_ret (rt1 F42 (rvA (fg5 F42) (S41.ob 0 hc41)) ?_)))))))))))))))
  have hD := do_9 (mx := 0) (g := gab G) (c := (⟨kd, a, b, f, p, q, uu⟩ : OpC)) Zi
  unfold asG
  have ht : decide (ckd (gab G).1 (gab G).2 [a, a] = 0 ∧ rg (gab G).2 a = 0) = false := decide_eq_false fun q => c36 q.1
  rw [hD]
  simp only [ht]
  exact ⟨rfl, S41.fin0⟩
 refine tb fun _ H44 => (ve (fg3 F30) V (vt (W_end (en (Ka (Qa F30)) fun A45 _ F45 => tk H44 (cd (fg0 F45) (fun c46 => ?_) fun c46 => ?_)))))
 ·have hsh := sh_rng (rs := G.2.2) (a := a) hsm
  refine tb fun _ H47 => (ra (fg7 F45) (S4.ob 2 hc2) (fa 1 (Sa (fg6 F45)) (rL (.int .i64 (a)) t0 (S4.ob 1 hc3) (wc (args2 (Sb t0) t0) (qSh_c (a := a) (S4.roC Go) (S4.roC Gn) (S4.roC Gr)) (C0 S4 fun w48 S48 => vm t0 (vx (.int .i64 ((shP (G.1.2.map ab) G.2.2 a))) t0 (vx (.int .i64 ((shR (G.1.2.map ab) G.2.2 a))) (Sa t0) (vx (.int .i64 ((shE (G.1.2.map ab) G.2.2 a))) (Sb t0) (va (Sb t0) (va (Sb t0) (va (Sb t0) (W_end (en (Kc (Qh F45)) fun A49 _ F49 => ?_)))))))))))))
  have S50 := S48.se [0] [c4]
  refine ta H47 fun _ H51 => (vm (fg0 F49) (vm (Sa (fg2 F49)) (wv (V_mul V V t0 Za Za) (vm (Sc (fg1 F49)) (ad (Sa t0) t0 (wv (V_cvt V t0 Tryz.underlying3 Tryz.underlying48 (wrap_u64 Za Za)) (wv (xbS (n := 3) (z := .agg #[.int .i64 0, .bool false, .int .u64 0]) V (parts2 (Se t0) t0)) (xsA0 S50 hc4 V V V (Sg (fg8 F49)) t0 (fun w52 c52 hc52 S52 => W_end (en (Qg F49) fun A53 _ F53 => tk H51 (wp_ret (inb_ret (then_ret (rt1 F53 (rvA (fg8 F53) (S52.ob 0 hc52)) ?_))))))))))))))
  have hD := do_10 (mx := 0) (g := gab G) (c := (⟨kd, a, b, f, p, q, uu⟩ : OpC)) Zi
  unfold asG
  rw [hD]
  exact ⟨rfl, S52.fin0⟩
 refine wp_skip (inb_n (ta H6 fun _ H54 => (wv (xbS (n := 3) (z := .agg #[.int .i64 0, .bool false, .int .u64 0]) V parts0) (xsA0 S4 hc4 V V V (Sa (fg5 F45)) t0 (fun w55 c55 hc55 S55 => W_end (en (Qa F45) fun A56 _ F56 => tk H54 (wp_ret (rt1 F56 (rvA (fg5 F56) (S55.ob 0 hc55)) ?_))))))))
 have hD := do_0 (mx := 0) (g := gab G) (c := (⟨kd, a, b, f, p, q, uu⟩ : OpC)) Zi
 unfold asG
 rw [hD]
 exact ⟨rfl, S55.fin0⟩

set_option maxHeartbeats 4000000 in
theorem qdn_c {C N Z K Q : Int} {G : GV} {kd a b f p q uu : Int} {w : World} (hg_G : Ro w NoX (gls [G])) (hsm : SM (G.1.2.map ab)) (hop : (opE (⟨kd, a, b, f, p, q, uu⟩ : OpC)) = 0) (hrl : G.2.2.length ≤ 1048576) (hol : G.1.2.length ≤ 1048576) :
  Calls Tryz.prog 42 #[.agg #[.int .i64 C, .int .i64 N, .int .i64 Z, .int .i64 K, .int .i64 Q], .agg #[G.1.1, G.2.1], .agg #[.int .i64 kd, .int .i64 a, .int .i64 b, .int .i64 f, .int .i64 p, .int .i64 q, .int .u64 uu]] w fun e w' => ∃ ho1 Ho1 qo1 so1, e = .returned (.tuple #[.agg #[ho1, qo1], .agg #[.int .i64 (doG (lgN C N Z K Q) (gab G) (⟨kd, a, b, f, p, q, uu⟩ : OpC)).2.e, .bool (doG (lgN C N Z K Q) (gab G) (⟨kd, a, b, f, p, q, uu⟩ : OpC)).2.t, .int .u64 (doG (lgN C N Z K Q) (gab G) (⟨kd, a, b, f, p, q, uu⟩ : OpC)).2.v]]) ∧ (gab ((ho1, Ho1), (qo1, so1)) = (doG (lgN C N Z K Q) (gab G) (⟨kd, a, b, f, p, q, uu⟩ : OpC)).1) ∧ St w NoX [gls [((ho1, Ho1), (qo1, so1))]] w' := by
 have Go := gl_o m1 hg_G
 have Gn := gl_n m1 hg_G
 have Gr := gl_r m1 hg_G
 refine ci3 140 Tryz.func42 V (fun A0 _ F0 => ?_)
 have hS := St.nil w
 have bGo := SlN.le (sl_SlN Go.at)
 have bGr := SlN.le (sl_SlN Gr.at)
 refine tb fun _ H1 => (wB (#[.int .i64 (C), .int .i64 (N), .int .i64 (Z), .int .i64 (K), .int .i64 (Q)]) hS (fg0 F0) (fun g2 w2 c2 hc2 S2 => wB (#[G.1.1, G.2.1]) S2 (Sa (fg1 F0)) (fun g3 w3 c3 hc3 S3 => wB (#[.int .i64 (kd), .int .i64 (a), .int .i64 (b), .int .i64 (f), .int .i64 (p), .int .i64 (q), .int .u64 (uu)]) S3 (Sb (fg2 F0)) (fun g4 w4 c4 hc4 S4 => wA (#[.slice none 0 0, .slice none 0 0]) S4 (fun g5 w5 c5 hc5 S5 => wA (#[.int .i64 0, .bool false, .int .u64 0]) S5 (fun g6 w6 c6 hc6 S6 => W_end (en (Ke F0) fun A7 _ F7 => ta H1 fun _ H8 => (wv (xbS (n := 2) (z := .agg #[.slice none 0 0, .slice none 0 0]) V parts0) (wA (#[.slice none 0 0, .slice none 0 0]) S6 (fun g9 w9 c9 hc9 S9 => xsA0 S9 hc9 V V V t0 (Sa t0) (fun w10 c10 hc10 S10 => W_end (en (Ka (Qa F7)) fun A11 _ F11 => ta H8 fun _ H12 => (vc (W_end (en (Qa F11) fun A13 _ F13 => tc H12 fun _ H14 => tb fun _ H15 => (fa 0 (fg3 F13) (rL (.int .i64 (kd)) t0 (S10.ob 3 hc4) (W_end (en (Ka (Qa F13)) fun A16 _ F16 => tk H15 (wp_block (tb fun _ H17 => (ve (fg0 F16) V (vt (W_end (en (Ka (Qa F16)) fun A18 _ F18 => tk H17 (cd (fg0 F18) (fun c19 => ?_) fun c19 => ?_))))))))))))))))))))))))))
 ·have hpq := op_al hop c19
  have hlg := lg_rng (C := C) (N := N) (Z := Z) (K := K) (Q := Q)
  refine tb fun _ H20 => (ra (fg6 F18) (S10.ob 4 hc3) (fa 1 (Sa (fg5 F18)) (rL (.int .i64 (a)) t0 (S10.ob 3 hc4) (fa 1 (Sc (fg5 F18)) (rL (.int .i64 (a)) t0 (S10.ob 3 hc4) (wc (args3 (Sd t0) (Sb t0) t0) (qAl_c (a := a) (b := a) (S10.roC Go) (S10.roC Gn) (S10.roC Gr)) (C0 S10 fun w21 S21 => vm t0 (vx (.bool ((alB (G.1.2.map ab) G.2.2 a a))) t0 (vx (.int .i64 ((ckd (G.1.2.map ab) G.2.2 [a, a]))) (Sa t0) (vt (W_end (en (Ka (Qa (Qh F18))) fun A22 _ F22 => tc H20 fun _ H23 => td fun _ H24 => wp_mid (G := fun A' w' => SzN A' 140 ∧ A'.defers = [] ∧ (EV A' (.tmp 3) = EV A22 (.tmp 3)) ∧ (EV A' (.tmp 4) = EV A22 (.tmp 4)) ∧ (EV A' (.tmp 5) = EV A22 (.tmp 5)) ∧ (EV A' (.tmp 6) = EV A22 (.tmp 6)) ∧ (EV A' (.tmp 7) = EV A22 (.tmp 7)) ∧ (EV A' (.tmp 8) = EV A22 (.tmp 8)) ∧ (EV A' (.tmp 9) = EV A22 (.tmp 9)) ∧ (EV A' (.tmp 42) = .bool (decide ((ckd (G.1.2.map ab) G.2.2 [a, a] = 0 ∧ (p < 0 ∨ q < 0))))) ∧ St w NoX [c10, c6, c5, c4, c3, c2] w') ?_ ?_))))))))))))
  ·have j3_25 := (fg8 F22)
   have j4_25 := (fg7 F22)
   have j5_25 := (fg6 F22)
   have j6_25 := (fg5 F22)
   have j7_25 := (fg4 F22)
   have j8_25 := (fg3 F22)
   have j9_25 := (fg0 F22)
   refine region_in (vm (fg0 F22) (ve t0 V (W_split V V (V_mov V t0) (fun c26 => ?_) (fun c26 => ?_))))
   ·refine wg V t0 (ufa 4 (Sc (fg6 F22))) (wq V (Sa t0) (urL (.int .i64 (p)) t0 (S21.ob 3 hc4)) (wg V (Sb t0) (uvl t0 V) (W_split V (xwt V V (Sc t0)) (V_mov V t0) (fun c27 => ?_) (fun c27 => ?_))))
    ·refine xo V t0 (xo V (Sa t0) (xo V (Sb t0) (wg V (Sg t0) (uvT (Sc t0) V) (vT (Sh t0) t0 (W_end (en (Ka (Qc (Qh F22))) fun A28 Y28 F28 => ?_))))))
     exact Mid_n ⟨Y28, F28.d, ((fg9 F28).trans j3_25.symm), ((fg8 F28).trans j4_25.symm), ((fg7 F28).trans j5_25.symm), ((fg6 F28).trans j6_25.symm), ((fg5 F28).trans j7_25.symm), ((fg4 F28).trans j8_25.symm), ((fg1 F28).trans j9_25.symm), ((fg0 F28).trans (congrArg Value.bool ((by first | exact (decide_eq_true Za).symm | exact (decide_eq_false Za).symm | exact decide_eq_decide.2 Za)))), S21⟩
    refine wg V t0 (ufa 5 (Sg (fg6 F22))) (wq V (Sa t0) (urL (.int .i64 (q)) t0 (S21.ob 3 hc4)) (wg V (Sb t0) (uvl t0 V) (wg V (Sg t0) (uvF (Sc t0) t0) (vT (Sh t0) t0 (W_end (en (Ka (Qc (Qh F22))) fun A29 Y29 F29 => ?_))))))
    exact Mid_n ⟨Y29, F29.d, ((fg9 F29).trans j3_25.symm), ((fg8 F29).trans j4_25.symm), ((fg7 F29).trans j5_25.symm), ((fg6 F29).trans j6_25.symm), ((fg5 F29).trans j7_25.symm), ((fg4 F29).trans j8_25.symm), ((fg1 F29).trans j9_25.symm), ((fg0 F29).trans (congrArg Value.bool ((by first | exact (decide_eq_true Za).symm | exact (decide_eq_false Za).symm | exact decide_eq_decide.2 Za)))), S21⟩
   refine xo V t0 (xo V (Sa t0) (xo V (Sb t0) (xo V (Sc t0) (W_off V (wanted_u V V t0 (ez V)) (W_off V (wanted_u V V (Sa t0) (ez V)) (W_off V (wanted_u V V (Sb t0) (ez V)) (xo V (Sg t0) (vF (Sh t0) V (W_end (en (Ka (Qc (Qh F22))) fun A30 Y30 F30 => ?_))))))))))
   exact Mid_n ⟨Y30, F30.d, ((fg9 F30).trans j3_25.symm), ((fg8 F30).trans j4_25.symm), ((fg7 F30).trans j5_25.symm), ((fg6 F30).trans j6_25.symm), ((fg5 F30).trans j7_25.symm), ((fg4 F30).trans j8_25.symm), ((fg1 F30).trans j9_25.symm), ((fg0 F30).trans (congrArg Value.bool ((by first | exact (decide_eq_true Za).symm | exact (decide_eq_false Za).symm | exact decide_eq_decide.2 Za)))), S21⟩
  rintro A25 w25 ⟨Y25, hdf25, u3_25, u4_25, u5_25, u6_25, u7_25, u8_25, u9_25, l42_25, S25⟩
  have l3_25 := u3_25.trans (fg8 F22)
  have l4_25 := u4_25.trans (fg7 F22)
  have l5_25 := u5_25.trans (fg6 F22)
  have l6_25 := u6_25.trans (fg5 F22)
  have l7_25 := u7_25.trans (fg4 F22)
  have l8_25 := u8_25.trans (fg3 F22)
  have l9_25 := u9_25.trans (fg0 F22)
  refine tk H24 (cd l42_25 (fun c31 => ?_) fun c31 => ?_)
  ·refine region_in (vc (W_end (en ((((((((ck (FS.n hdf25) V V)).c (es V l3_25)).c (es V l4_25)).c (es V l5_25)).c (es V l6_25)).c (es V l7_25)).c (Sa l8_25)) fun A32 _ F32 => ta H23 fun _ H33 => (ra (fg5 F32) (S25.ob 5 hc2) (wc (args1 t0) (qlg_c (C := C) (N := N) (Z := Z) (K := K) (Q := Q)) (C0 S25 fun w34 S34 => vm t0 (vx (.int .i64 (lgN C N Z K Q)) t0 (vx (.int .i64 (cfE C N Z K Q)) (Sa t0) (va (Sa t0) (va (Sa t0) (W_end (en (Qa (Ka (Qe F32))) fun A35 _ F35 => ?_))))))))))))
   have S36 := S34.se [0, 1, 2, 3, 4] [c10, c6, c5, c4, c3]
   refine tc H33 fun _ H37 => tb fun _ H38 => (vm (fg7 F35) (ve t0 V (W_sure (c' := false) V V (V_mov V t0) Ze (xo V t0 (xo V (Sa t0) (xo V (Sb t0) (xo V (Sc t0) (xo V (Sd t0) (xo V (Se t0) (xo V (Sf t0) (xo V (Sg t0) (vF (Sh t0) V (W_end (en (Ka (Qc (Qh F35))) fun A39 _ F39 => tk H38 (cond_f (fg0 F39) (wp_skip (ta H37 fun _ H40 => (vm (fg8 F39) (ve t0 V (W_end (en (Ka (Qa F39)) fun A41 _ F41 => tk H40 (cond_not (fg0 F41) Ze (wp_skip (inb_n (tc H14 fun _ H42 => tb fun _ H43 => (vm (fg9 F41) (vn t0 V (W_end (en (Ka (Qa F41)) fun A44 _ F44 => ?_)))))))))))))))))))))))))))))
   have S45 := S36.se [0, 1, 2, 4] [c10, c6, c5, c3]
   refine tk H43 (cond_sure (fg0 F44) Ze (tb fun _ H46 => (ra (fg8 F44) (S45.ob 3 hc3) (wc (args1 t0) ((glC (F := fun a_ b_ => .agg #[a_, b_]) (qCn_c (S45.roC Go) (S45.roC Gn) (S45.roC Gr) Zc (by first | omega | (have q := hG.r8; omega)) (by first | omega | (have q := hG.o4; rw [List.length_map] at q; omega))))) ?_))))
   rintro _ w47 ⟨hv_47, H_47, qv_47, q_47, rfl, hg_47, hP47⟩
   refine ⟨_, rfl, ?_⟩
   obtain ⟨cK_47, hcK_47, hP47⟩ := gen1 hP47
   have S47 := S45.j1 hP47
   refine vm (Sb (fg10 F44)) (wv (xbS (n := 3) (z := .agg #[.int .i64 0, .bool false, .int .u64 0]) V (parts1 t0)) (xsB3 S47 hc5 V V V (Sd (fg6 F44)) (Sb t0) (by simp only [List.all_toArray, List.all_cons, List.all_nil, obC, grC, SlN_one (sl_SlN (gl_oa m1 (S47.cq 0 hcK_47))), SlN_one (sl_SlN (gl_ra m1 (S47.cq 0 hcK_47)))] <;> rfl) (fun w48 c48 hc48 S48 => xsA2 S48 hc6 V V V (Sd (fg5 F44)) t0 (fun w49 c49 hc49 S49 => W_end (en (Qd F44) fun A50 _ F50 => tk H46 (wp_ret (then_ret (rt2 F50 (rvA (fg6 F50) (S49.ob 3 hc48)) (rvA (fg5 F50) (S49.ob 2 hc49)) ?_))))))))
   have hA : (alA (lgN C N Z K Q) (gab G) a p q) = 10 := alA_b (by simp only [ne_eq, Decidable.not_not]; exact c31.1) c31.2
   have hD := (do_1 (mx := lgN C N Z K Q) (g := gab G) (c := (⟨kd, a, b, f, p, q, uu⟩ : OpC)) Zi).trans ((congrArg (fun z => fin (gab G) z _) hA).trans (fin_n Za))
   rw [hD]
   exact ⟨hv_47, H_47, qv_47, q_47, rfl, hg_47, (S49.f1 0 hcK_47)⟩
  refine wp_skip (ta H23 fun _ H52 => (ra l3_25 (S25.ob 5 hc2) (wc (args1 t0) (qlg_c (C := C) (N := N) (Z := Z) (K := K) (Q := Q)) (C0 S25 fun w53 S53 => vm t0 (vx (.int .i64 (lgN C N Z K Q)) t0 (vx (.int .i64 (cfE C N Z K Q)) (Sa t0) (va (Sa t0) (va (Sa t0) (W_end (en ((((((((cq1 (ck (cq5 (FS.n hdf25) V) V V) V)).c (es7 V l4_25)).c (es7 V l5_25)).c (es7 V l6_25)).c (es7 V l7_25)).c (es7 V l8_25)).c (Sg l9_25)) fun A54 _ F54 => ?_))))))))))
  have S55 := S53.se [0, 1, 2, 3, 4] [c10, c6, c5, c4, c3]
  refine tc H52 fun _ H56 => tb fun _ H57 => (vm (fg0 F54) (ve t0 V (W_split V V (V_mov V t0) (fun c58 => ?_) (fun c58 => ?_))))
  ·refine wg V t0 (ufa 4 (Sc (fg4 F54))) (wq V (Sa t0) (urL (.int .i64 (p)) t0 (S55.ob 3 hc4)) (wg V (Sb t0) (uad V t0) (wg V (Sc t0) (ufa 5 (Sf (fg4 F54))) (wq V (Sd t0) (urL (.int .i64 (q)) t0 (S55.ob 3 hc4)) (wg V (Se t0) (uad (Sb t0) t0) (wg V (Sf t0) (uvm (Sh (Sa (fg6 F54)))) (wg V (Sg t0) (uvg (Sa t0) t0) (vT (Sh t0) t0 (W_end (en (Ka (Qc (Qh F54))) fun A59 _ F59 => tk H57 (cd (fg0 F59) (fun c60 => ?_) fun c60 => ?_)))))))))))
   ·refine region_in (vc (W_end (en (Ka (fx1 F59)) fun A61 _ F61 => ta H56 fun _ H62 => (vm (fg0 F61) (ve t0 V (W_end (en (Ka (Qa F61)) fun A63 _ F63 => tk H62 (cond_not (fg0 F63) Ze (wp_skip (inb_n (tc H14 fun _ H64 => tb fun _ H65 => vm (fg1 F63) (vn t0 V (W_end (en (Ka (Qa F63)) fun A66 _ F66 => ?_))))))))))))))
    have S67 := S55.se [0, 1, 2, 4] [c10, c6, c5, c3]
    refine tk H65 (cond_sure (fg0 F66) Ze (tb fun _ H68 => (ra (fg8 F66) (S67.ob 3 hc3) (wc (args1 t0) ((glC (F := fun a_ b_ => .agg #[a_, b_]) (qCn_c (S67.roC Go) (S67.roC Gn) (S67.roC Gr) Zc (by first | omega | (have q := hG.r8; omega)) (by first | omega | (have q := hG.o4; rw [List.length_map] at q; omega))))) ?_))))
    rintro _ w69 ⟨hv_69, H_69, qv_69, q_69, rfl, hg_69, hP69⟩
    refine ⟨_, rfl, ?_⟩
    obtain ⟨cK_69, hcK_69, hP69⟩ := gen1 hP69
    have S69 := S67.j1 hP69
    refine vm (Sb (fg2 F66)) (wv (xbS (n := 3) (z := .agg #[.int .i64 0, .bool false, .int .u64 0]) V (parts1 t0)) (xsB3 S69 hc5 V V V (Sd (fg6 F66)) (Sb t0) (by simp only [List.all_toArray, List.all_cons, List.all_nil, obC, grC, SlN_one (sl_SlN (gl_oa m1 (S69.cq 0 hcK_69))), SlN_one (sl_SlN (gl_ra m1 (S69.cq 0 hcK_69)))] <;> rfl) (fun w70 c70 hc70 S70 => xsA2 S70 hc6 V V V (Sd (fg5 F66)) t0 (fun w71 c71 hc71 S71 => W_end (en (Qd F66) fun A72 _ F72 => tk H68 (wp_ret (then_ret (rt2 F72 (rvA (fg6 F72) (S71.ob 3 hc70)) (rvA (fg5 F72) (S71.ob 2 hc71)) ?_))))))))
    have hA : (alA (lgN C N Z K Q) (gab G) a p q) = 11 := alA_t (by simp only [ne_eq, Decidable.not_not]; show ckd (G.1.2.map ab) G.2.2 [a, a] = 0; omega) Za Za
    have hD := (do_1 (mx := lgN C N Z K Q) (g := gab G) (c := (⟨kd, a, b, f, p, q, uu⟩ : OpC)) Zi).trans ((congrArg (fun z => fin (gab G) z _) hA).trans (fin_n Za))
    rw [hD]
    exact ⟨hv_69, H_69, qv_69, q_69, rfl, hg_69, (S71.f1 0 hcK_69)⟩
   refine wp_skip (ta H56 fun _ H74 => (vm (fg1 F59) (ve t0 V (W_end (en (Ka (Qa F59)) fun A75 _ F75 => tk H74 (cond_sure (fg0 F75) (by first | (simp [c58]; done) | exact decide_eq_true Za | exact decide_eq_false Za) (region_in (ra (fg7 F75) (S55.ob 4 hc3) (fa 1 (Sa (fg6 F75)) (rL (.int .i64 (a)) t0 (S55.ob 3 hc4) (fa 4 (Sc (fg6 F75)) (rL (.int .i64 (p)) t0 (S55.ob 3 hc4) (fa 5 (Se (fg6 F75)) (rL (.int .i64 (q)) t0 (S55.ob 3 hc4) (wc (args4 (Sf t0) (Sd t0) (Sb t0) t0) ((glC (F := fun a_ b_ => .tuple #[.agg #[a_, b_], .int .i64 (alE (G.1.2.map ab) G.2.2 a p q)]) (qAlloc_c (a := a) (p := p) (r := q) (S55.roC Go) (S55.roC Gn) (S55.roC Gr) Zc))) ?_)))))))))))))))
   rintro _ w76 ⟨hv_76, H_76, qv_76, q_76, rfl, hg_76, hP76⟩
   refine ⟨_, rfl, ?_⟩
   obtain ⟨cK_76, hcK_76, hP76⟩ := gen1 hP76
   have S76 := S55.j1 hP76
   refine vm t0 (vx (.agg #[hv_76, qv_76]) t0 (vx (.int .i64 ((alE (G.1.2.map ab) G.2.2 a p q))) (Sa t0) (xsB1 S76 hc10 V V V (Sh (Sc (fg3 F75))) (Sa t0) (by simp only [List.all_toArray, List.all_cons, List.all_nil, obC, grC, SlN_one (sl_SlN (gl_oa m1 (S76.cq 0 hcK_76))), SlN_one (sl_SlN (gl_ra m1 (S76.cq 0 hcK_76)))] <;> rfl) (fun w77 c77 hc77 S77 => vt (W_end (en (Ka (Qc (Qh (fx2 F75)))) fun A78 _ F78 => ?_))))))
   have S79 := S77.se [0, 1, 2, 3, 5] [cK_76, c77, c6, c5, c3]
   refine inb_n (tc H14 fun _ H80 => tb fun _ H81 => (vm (fg0 F78) (vn t0 V (W_end (en (Ka (Qa F78)) fun A82 _ F82 => tk H81 (cd (fg0 F82) (fun c83 => ?_) fun c83 => ?_))))))
   ·refine tb fun _ H84 => (ra (fg8 F82) (S79.ob 4 hc3) (wc (args1 t0) ((glC (F := fun a_ b_ => .agg #[a_, b_]) (qCn_c (S79.roC Go) (S79.roC Gn) (S79.roC Gr) Zc (by first | omega | (have q := hG.r8; omega)) (by first | omega | (have q := hG.o4; rw [List.length_map] at q; omega))))) ?_))
    rintro _ w85 ⟨hv_85, H_85, qv_85, q_85, rfl, hg_85, hP85⟩
    refine ⟨_, rfl, ?_⟩
    obtain ⟨cK_85, hcK_85, hP85⟩ := gen1 hP85
    have S85 := S79.j1 hP85
    refine vm (Sb (fg1 F82)) (wv (xbS (n := 3) (z := .agg #[.int .i64 0, .bool false, .int .u64 0]) V (parts1 t0)) (xsB4 S85 hc5 V V V (Sd (fg6 F82)) (Sb t0) (by simp only [List.all_toArray, List.all_cons, List.all_nil, obC, grC, SlN_one (sl_SlN (gl_oa m1 (S85.cq 0 hcK_85))), SlN_one (sl_SlN (gl_ra m1 (S85.cq 0 hcK_85)))] <;> rfl) (fun w86 c86 hc86 S86 => xsA3 S86 hc6 V V V (Sd (fg5 F82)) t0 (fun w87 c87 hc87 S87 => W_end (en (Qd F82) fun A88 _ F88 => tk H84 (wp_ret (then_ret (rt2 F88 (rvA (fg6 F88) (S87.ob 4 hc86)) (rvA (fg5 F88) (S87.ob 3 hc87)) ?_))))))))
    have hA : (alA (lgN C N Z K Q) (gab G) a p q) = (alE (G.1.2.map ab) G.2.2 a p q) := alA_k (by simp only [ne_eq, Decidable.not_not]; show ckd (G.1.2.map ab) G.2.2 [a, a] = 0; omega) Za Za
    have hD := (do_1 (mx := lgN C N Z K Q) (g := gab G) (c := (⟨kd, a, b, f, p, q, uu⟩ : OpC)) Zi).trans ((congrArg (fun z => fin (gab G) z _) hA).trans (fin_n Za))
    rw [hD]
    exact ⟨hv_85, H_85, qv_85, q_85, rfl, hg_85, (S87.f1 0 hcK_85)⟩
   refine wp_skip (ta H80 fun _ H90 => (ra (fg4 F82) (S79.ob 1 hc77) (wv (xbS (n := 3) (z := .agg #[.int .i64 0, .bool false, .int .u64 0]) V parts0) (xsB3 S79 hc5 V V V (Sb (fg6 F82)) (Sa t0) (by simp only [List.all_toArray, List.all_cons, List.all_nil, obC, grC, SlN_one (sl_SlN (gl_oa m1 (S79.cq 0 hcK_76))), SlN_one (sl_SlN (gl_ra m1 (S79.cq 0 hcK_76)))] <;> rfl) (fun w91 c91 hc91 S91 => xsA2 S91 hc6 V V V (Sb (fg5 F82)) t0 (fun w92 c92 hc92 S92 => W_end (en (Qb F82) fun A93 _ F93 => tk H90 (wp_ret (rt2 F93 (rvA (fg6 F93) (S92.ob 3 hc91)) (rvA (fg5 F93) (S92.ob 2 hc92)) ?_)))))))))
   have hA : (alA (lgN C N Z K Q) (gab G) a p q) = (alE (G.1.2.map ab) G.2.2 a p q) := alA_k (by simp only [ne_eq, Decidable.not_not]; show ckd (G.1.2.map ab) G.2.2 [a, a] = 0; omega) Za Za
   have hD := (do_1 (mx := lgN C N Z K Q) (g := gab G) (c := (⟨kd, a, b, f, p, q, uu⟩ : OpC)) Zi).trans ((congrArg (fun z => fin (gab G) z _) hA).trans (fin_0 Za))
   rw [hD]
   exact ⟨hv_76, H_76, qv_76, q_76, rfl, hg_76, (S92.f1 0 hcK_76)⟩
  refine xo V t0 (xo V (Sa t0) (xo V (Sb t0) (xo V (Sc t0) (xo V (Sd t0) (xo V (Se t0) (xo V (Sf t0) (xo V (Sg t0) (vF (Sh t0) V (W_end (en (Ka (Qc (Qh F54))) fun A95 _ F95 => tk H57 (cond_f (fg0 F95) (wp_skip (ta H56 fun _ H96 => (vm (fg1 F95) (ve t0 V (W_end (en (Ka (Qa F95)) fun A97 _ F97 => tk H96 (cond_not (fg0 F97) (by first | (simp [c58]; done) | exact decide_eq_true Za | exact decide_eq_false Za) (wp_skip (inb_n (tc H14 fun _ H98 => tb fun _ H99 => (vm (fg2 F97) (vn t0 V (W_end (en (Ka (Qa F97)) fun A100 _ F100 => ?_)))))))))))))))))))))))))
  have S101 := S55.se [0, 1, 2, 4] [c10, c6, c5, c3]
  refine tk H99 (cond_sure (fg0 F100) (by first | (simp [c58]; done) | exact decide_eq_true Za | exact decide_eq_false Za) (tb fun _ H102 => (ra (fg8 F100) (S101.ob 3 hc3) (wc (args1 t0) ((glC (F := fun a_ b_ => .agg #[a_, b_]) (qCn_c (S101.roC Go) (S101.roC Gn) (S101.roC Gr) Zc (by first | omega | (have q := hG.r8; omega)) (by first | omega | (have q := hG.o4; rw [List.length_map] at q; omega))))) ?_))))
  rintro _ w103 ⟨hv_103, H_103, qv_103, q_103, rfl, hg_103, hP103⟩
  refine ⟨_, rfl, ?_⟩
  obtain ⟨cK_103, hcK_103, hP103⟩ := gen1 hP103
  have S103 := S101.j1 hP103
  refine vm (Sb (fg3 F100)) (wv (xbS (n := 3) (z := .agg #[.int .i64 0, .bool false, .int .u64 0]) V (parts1 t0)) (xsB3 S103 hc5 V V V (Sd (fg6 F100)) (Sb t0) (by simp only [List.all_toArray, List.all_cons, List.all_nil, obC, grC, SlN_one (sl_SlN (gl_oa m1 (S103.cq 0 hcK_103))), SlN_one (sl_SlN (gl_ra m1 (S103.cq 0 hcK_103)))] <;> rfl) (fun w104 c104 hc104 S104 => xsA2 S104 hc6 V V V (Sd (fg5 F100)) t0 (fun w105 c105 hc105 S105 => W_end (en (Qd F100) fun A106 _ F106 => tk H102 (wp_ret (then_ret (rt2 F106 (rvA (fg6 F106) (S105.ob 3 hc104)) (rvA (fg5 F106) (S105.ob 2 hc105)) ?_))))))))
  have hA : (alA (lgN C N Z K Q) (gab G) a p q) = (ckd (G.1.2.map ab) G.2.2 [a, a]) := alA_e (by show ckd (G.1.2.map ab) G.2.2 [a, a] ≠ 0; omega)
  have hD := (do_1 (mx := lgN C N Z K Q) (g := gab G) (c := (⟨kd, a, b, f, p, q, uu⟩ : OpC)) Zi).trans ((congrArg (fun z => fin (gab G) z _) hA).trans (fin_n Za))
  rw [hD]
  exact ⟨hv_103, H_103, qv_103, q_103, rfl, hg_103, (S105.f1 0 hcK_103)⟩
 refine tb fun _ H108 => (ve (fg1 F18) V (vt (W_end (en (Ka (Qa F18)) fun A109 _ F109 => ?_))))
 have S110 := S10.se [0, 1, 2, 3, 4] [c10, c6, c5, c4, c3]
 refine tk H108 (cd (fg0 F109) (fun c111 => ?_) fun c111 => ?_)
 ·refine region_in (ra (fg7 F109) (S110.ob 4 hc3) (fa 1 (Sa (fg6 F109)) (rL (.int .i64 (a)) t0 (S110.ob 3 hc4) (fa 2 (Sc (fg6 F109)) (rL (.int .i64 (b)) t0 (S110.ob 3 hc4) (fa 3 (Se (fg6 F109)) (rL (.int .i64 (f)) t0 (S110.ob 3 hc4) (wc (args4 (Sf t0) (Sd t0) (Sb t0) t0) ((glC (F := fun a_ b_ => .tuple #[.agg #[a_, b_], .int .i64 (ptE (G.1.2.map ab) G.2.2 [a, b] b f)]) (qLoad_c (a := a) (b := b) (f := f) (S110.roC Go) (S110.roC Gn) (S110.roC Gr) Zc))) ?_))))))))
  rintro _ w112 ⟨hv_112, H_112, qv_112, q_112, rfl, hg_112, hP112⟩
  refine ⟨_, rfl, ?_⟩
  obtain ⟨cK_112, hcK_112, hP112⟩ := gen1 hP112
  have S112 := S110.j1 hP112
  refine vm t0 (vx (.agg #[hv_112, qv_112]) t0 (vx (.int .i64 ((ptE (G.1.2.map ab) G.2.2 [a, b] b f))) (Sa t0) (xsB1 S112 hc10 V V V (Sh (Sc (fg3 F109))) (Sa t0) (by simp only [List.all_toArray, List.all_cons, List.all_nil, obC, grC, SlN_one (sl_SlN (gl_oa m1 (S112.cq 0 hcK_112))), SlN_one (sl_SlN (gl_ra m1 (S112.cq 0 hcK_112)))] <;> rfl) (fun w113 c113 hc113 S113 => vt (W_end (en (Ka (Qc (Qh F109))) fun A114 _ F114 => ?_))))))
  have S115 := S113.se [0, 1, 2, 3, 5] [cK_112, c113, c6, c5, c3]
  refine inb_n (tc H14 fun _ H116 => tb fun _ H117 => (vm (fg0 F114) (vn t0 V (W_end (en (Ka (Qa F114)) fun A118 _ F118 => tk H117 (cd (fg0 F118) (fun c119 => ?_) fun c119 => ?_))))))
  ·refine tb fun _ H120 => (ra (fg9 F118) (S115.ob 4 hc3) (wc (args1 t0) ((glC (F := fun a_ b_ => .agg #[a_, b_]) (qCn_c (S115.roC Go) (S115.roC Gn) (S115.roC Gr) Zc (by first | omega | (have q := hG.r8; omega)) (by first | omega | (have q := hG.o4; rw [List.length_map] at q; omega))))) ?_))
   rintro _ w121 ⟨hv_121, H_121, qv_121, q_121, rfl, hg_121, hP121⟩
   refine ⟨_, rfl, ?_⟩
   obtain ⟨cK_121, hcK_121, hP121⟩ := gen1 hP121
   have S121 := S115.j1 hP121
   refine vm (Sb (fg1 F118)) (wv (xbS (n := 3) (z := .agg #[.int .i64 0, .bool false, .int .u64 0]) V (parts1 t0)) (xsB4 S121 hc5 V V V (Sd (fg7 F118)) (Sb t0) (by simp only [List.all_toArray, List.all_cons, List.all_nil, obC, grC, SlN_one (sl_SlN (gl_oa m1 (S121.cq 0 hcK_121))), SlN_one (sl_SlN (gl_ra m1 (S121.cq 0 hcK_121)))] <;> rfl) (fun w122 c122 hc122 S122 => xsA3 S122 hc6 V V V (Sd (fg6 F118)) t0 (fun w123 c123 hc123 S123 => W_end (en (Qd F118) fun A124 _ F124 => tk H120 (wp_ret (then_ret (rt2 F124 (rvA (fg7 F124) (S123.ob 4 hc122)) (rvA (fg6 F124) (S123.ob 3 hc123)) ?_))))))))
   have hD := (do_2 (mx := lgN C N Z K Q) (g := gab G) (c := (⟨kd, a, b, f, p, q, uu⟩ : OpC)) Zi).trans (fin_n (show (ptE (G.1.2.map ab) G.2.2 [a, b] b f) ≠ 0 by omega))
   rw [hD]
   exact ⟨hv_121, H_121, qv_121, q_121, rfl, hg_121, (S123.f1 0 hcK_121)⟩
  refine wp_skip (ta H116 fun _ H126 => (ra (fg5 F118) (S115.ob 1 hc113) (wv (xbS (n := 3) (z := .agg #[.int .i64 0, .bool false, .int .u64 0]) V parts0) (xsB3 S115 hc5 V V V (Sb (fg7 F118)) (Sa t0) (by simp only [List.all_toArray, List.all_cons, List.all_nil, obC, grC, SlN_one (sl_SlN (gl_oa m1 (S115.cq 0 hcK_112))), SlN_one (sl_SlN (gl_ra m1 (S115.cq 0 hcK_112)))] <;> rfl) (fun w127 c127 hc127 S127 => xsA2 S127 hc6 V V V (Sb (fg6 F118)) t0 (fun w128 c128 hc128 S128 => W_end (en (Qb F118) fun A129 _ F129 => tk H126 (wp_ret (rt2 F129 (rvA (fg7 F129) (S128.ob 3 hc127)) (rvA (fg6 F129) (S128.ob 2 hc128)) ?_)))))))))
  have hD := (do_2 (mx := lgN C N Z K Q) (g := gab G) (c := (⟨kd, a, b, f, p, q, uu⟩ : OpC)) Zi).trans (fin_0 (show (ptE (G.1.2.map ab) G.2.2 [a, b] b f) = 0 by omega))
  rw [hD]
  exact ⟨hv_112, H_112, qv_112, q_112, rfl, hg_112, (S128.f1 0 hcK_112)⟩
 refine tb fun _ H131 => (ve (fg2 F109) V (vt (W_end (en (Ka (Qa F109)) fun A132 _ F132 => tk H131 (cd (fg0 F132) (fun c133 => ?_) fun c133 => ?_)))))
 ·refine region_in (ra (fg8 F132) (S110.ob 4 hc3) (fa 1 (Sa (fg7 F132)) (rL (.int .i64 (a)) t0 (S110.ob 3 hc4) (fa 3 (Sc (fg7 F132)) (rL (.int .i64 (f)) t0 (S110.ob 3 hc4) (fa 2 (Se (fg7 F132)) (rL (.int .i64 (b)) t0 (S110.ob 3 hc4) (wc (args4 (Sf t0) (Sd t0) (Sb t0) t0) ((glC (F := fun a_ b_ => .tuple #[.agg #[a_, b_], .int .i64 (ptE (G.1.2.map ab) G.2.2 [a, b] a f)]) (qStore_c (a := a) (f := f) (b := b) (S110.roC Go) (S110.roC Gn) (S110.roC Gr) Zc))) ?_))))))))
  rintro _ w134 ⟨hv_134, H_134, qv_134, q_134, rfl, hg_134, hP134⟩
  refine ⟨_, rfl, ?_⟩
  obtain ⟨cK_134, hcK_134, hP134⟩ := gen1 hP134
  have S134 := S110.j1 hP134
  refine vm t0 (vx (.agg #[hv_134, qv_134]) t0 (vx (.int .i64 ((ptE (G.1.2.map ab) G.2.2 [a, b] a f))) (Sa t0) (xsB1 S134 hc10 V V V (Sh (Sc (fg4 F132))) (Sa t0) (by simp only [List.all_toArray, List.all_cons, List.all_nil, obC, grC, SlN_one (sl_SlN (gl_oa m1 (S134.cq 0 hcK_134))), SlN_one (sl_SlN (gl_ra m1 (S134.cq 0 hcK_134)))] <;> rfl) (fun w135 c135 hc135 S135 => vt (W_end (en (Ka (Qc (Qh F132))) fun A136 _ F136 => ?_))))))
  have S137 := S135.se [0, 1, 2, 3, 5] [cK_134, c135, c6, c5, c3]
  refine inb_n (tc H14 fun _ H138 => tb fun _ H139 => (vm (fg0 F136) (vn t0 V (W_end (en (Ka (Qa F136)) fun A140 _ F140 => tk H139 (cd (fg0 F140) (fun c141 => ?_) fun c141 => ?_))))))
  ·refine tb fun _ H142 => (ra (fg10 F140) (S137.ob 4 hc3) (wc (args1 t0) ((glC (F := fun a_ b_ => .agg #[a_, b_]) (qCn_c (S137.roC Go) (S137.roC Gn) (S137.roC Gr) Zc (by first | omega | (have q := hG.r8; omega)) (by first | omega | (have q := hG.o4; rw [List.length_map] at q; omega))))) ?_))
   rintro _ w143 ⟨hv_143, H_143, qv_143, q_143, rfl, hg_143, hP143⟩
   refine ⟨_, rfl, ?_⟩
   obtain ⟨cK_143, hcK_143, hP143⟩ := gen1 hP143
   have S143 := S137.j1 hP143
   refine vm (Sb (fg1 F140)) (wv (xbS (n := 3) (z := .agg #[.int .i64 0, .bool false, .int .u64 0]) V (parts1 t0)) (xsB4 S143 hc5 V V V (Sd (fg8 F140)) (Sb t0) (by simp only [List.all_toArray, List.all_cons, List.all_nil, obC, grC, SlN_one (sl_SlN (gl_oa m1 (S143.cq 0 hcK_143))), SlN_one (sl_SlN (gl_ra m1 (S143.cq 0 hcK_143)))] <;> rfl) (fun w144 c144 hc144 S144 => xsA3 S144 hc6 V V V (Sd (fg7 F140)) t0 (fun w145 c145 hc145 S145 => W_end (en (Qd F140) fun A146 _ F146 => tk H142 (wp_ret (then_ret (rt2 F146 (rvA (fg8 F146) (S145.ob 4 hc144)) (rvA (fg7 F146) (S145.ob 3 hc145)) ?_))))))))
   have hD := (do_3 (mx := lgN C N Z K Q) (g := gab G) (c := (⟨kd, a, b, f, p, q, uu⟩ : OpC)) Zi).trans (fin_n (show (ptE (G.1.2.map ab) G.2.2 [a, b] a f) ≠ 0 by omega))
   rw [hD]
   exact ⟨hv_143, H_143, qv_143, q_143, rfl, hg_143, (S145.f1 0 hcK_143)⟩
  refine wp_skip (ta H138 fun _ H148 => (ra (fg6 F140) (S137.ob 1 hc135) (wv (xbS (n := 3) (z := .agg #[.int .i64 0, .bool false, .int .u64 0]) V parts0) (xsB3 S137 hc5 V V V (Sb (fg8 F140)) (Sa t0) (by simp only [List.all_toArray, List.all_cons, List.all_nil, obC, grC, SlN_one (sl_SlN (gl_oa m1 (S137.cq 0 hcK_134))), SlN_one (sl_SlN (gl_ra m1 (S137.cq 0 hcK_134)))] <;> rfl) (fun w149 c149 hc149 S149 => xsA2 S149 hc6 V V V (Sb (fg7 F140)) t0 (fun w150 c150 hc150 S150 => W_end (en (Qb F140) fun A151 _ F151 => tk H148 (wp_ret (rt2 F151 (rvA (fg8 F151) (S150.ob 3 hc149)) (rvA (fg7 F151) (S150.ob 2 hc150)) ?_)))))))))
  have hD := (do_3 (mx := lgN C N Z K Q) (g := gab G) (c := (⟨kd, a, b, f, p, q, uu⟩ : OpC)) Zi).trans (fin_0 (show (ptE (G.1.2.map ab) G.2.2 [a, b] a f) = 0 by omega))
  rw [hD]
  exact ⟨hv_134, H_134, qv_134, q_134, rfl, hg_134, (S150.f1 0 hcK_134)⟩
 refine tb fun _ H153 => (ve (fg3 F132) V (vt (W_end (en (Ka (Qa F132)) fun A154 _ F154 => tk H153 (cd (fg0 F154) (fun c155 => ?_) fun c155 => ?_)))))
 ·refine region_in (ra (fg9 F154) (S110.ob 4 hc3) (fa 1 (Sa (fg8 F154)) (rL (.int .i64 (a)) t0 (S110.ob 3 hc4) (fa 3 (Sc (fg8 F154)) (rL (.int .i64 (f)) t0 (S110.ob 3 hc4) (fa 6 (Se (fg8 F154)) (rL (.int .u64 (uu)) t0 (S110.ob 3 hc4) (wc (args4 (Sf t0) (Sd t0) (Sb t0) t0) ((glC (F := fun a_ b_ => .tuple #[.agg #[a_, b_], .int .i64 (rwE (G.1.2.map ab) G.2.2 [a] a f)]) (qWrite_c (a := a) (f := f) (x := uu) (S110.roC Go) (S110.roC Gn) (S110.roC Gr) Zc))) ?_))))))))
  rintro _ w156 ⟨hv_156, H_156, qv_156, q_156, rfl, hg_156, hP156⟩
  refine ⟨_, rfl, ?_⟩
  obtain ⟨cK_156, hcK_156, hP156⟩ := gen1 hP156
  have S156 := S110.j1 hP156
  refine vm t0 (vx (.agg #[hv_156, qv_156]) t0 (vx (.int .i64 ((rwE (G.1.2.map ab) G.2.2 [a] a f))) (Sa t0) (xsB1 S156 hc10 V V V (Sh (Sc (fg5 F154))) (Sa t0) (by simp only [List.all_toArray, List.all_cons, List.all_nil, obC, grC, SlN_one (sl_SlN (gl_oa m1 (S156.cq 0 hcK_156))), SlN_one (sl_SlN (gl_ra m1 (S156.cq 0 hcK_156)))] <;> rfl) (fun w157 c157 hc157 S157 => vt (W_end (en (Ka (Qc (Qh F154))) fun A158 _ F158 => ?_))))))
  have S159 := S157.se [0, 1, 2, 3, 5] [cK_156, c157, c6, c5, c3]
  refine inb_n (tc H14 fun _ H160 => tb fun _ H161 => (vm (fg0 F158) (vn t0 V (W_end (en (Ka (Qa F158)) fun A162 _ F162 => tk H161 (cd (fg0 F162) (fun c163 => ?_) fun c163 => ?_))))))
  ·refine tb fun _ H164 => (ra (fg11 F162) (S159.ob 4 hc3) (wc (args1 t0) ((glC (F := fun a_ b_ => .agg #[a_, b_]) (qCn_c (S159.roC Go) (S159.roC Gn) (S159.roC Gr) Zc (by first | omega | (have q := hG.r8; omega)) (by first | omega | (have q := hG.o4; rw [List.length_map] at q; omega))))) ?_))
   rintro _ w165 ⟨hv_165, H_165, qv_165, q_165, rfl, hg_165, hP165⟩
   refine ⟨_, rfl, ?_⟩
   obtain ⟨cK_165, hcK_165, hP165⟩ := gen1 hP165
   have S165 := S159.j1 hP165
   refine vm (Sb (fg1 F162)) (wv (xbS (n := 3) (z := .agg #[.int .i64 0, .bool false, .int .u64 0]) V (parts1 t0)) (xsB4 S165 hc5 V V V (Sd (fg9 F162)) (Sb t0) (by simp only [List.all_toArray, List.all_cons, List.all_nil, obC, grC, SlN_one (sl_SlN (gl_oa m1 (S165.cq 0 hcK_165))), SlN_one (sl_SlN (gl_ra m1 (S165.cq 0 hcK_165)))] <;> rfl) (fun w166 c166 hc166 S166 => xsA3 S166 hc6 V V V (Sd (fg8 F162)) t0 (fun w167 c167 hc167 S167 => W_end (en (Qd F162) fun A168 _ F168 => tk H164 (wp_ret (then_ret (rt2 F168 (rvA (fg9 F168) (S167.ob 4 hc166)) (rvA (fg8 F168) (S167.ob 3 hc167)) ?_))))))))
   have hD := (do_5 (mx := lgN C N Z K Q) (g := gab G) (c := (⟨kd, a, b, f, p, q, uu⟩ : OpC)) Zi).trans (fin_n (show (rwE (G.1.2.map ab) G.2.2 [a] a f) ≠ 0 by omega))
   rw [hD]
   exact ⟨hv_165, H_165, qv_165, q_165, rfl, hg_165, (S167.f1 0 hcK_165)⟩
  refine wp_skip (ta H160 fun _ H170 => (ra (fg7 F162) (S159.ob 1 hc157) (wv (xbS (n := 3) (z := .agg #[.int .i64 0, .bool false, .int .u64 0]) V parts0) (xsB3 S159 hc5 V V V (Sb (fg9 F162)) (Sa t0) (by simp only [List.all_toArray, List.all_cons, List.all_nil, obC, grC, SlN_one (sl_SlN (gl_oa m1 (S159.cq 0 hcK_156))), SlN_one (sl_SlN (gl_ra m1 (S159.cq 0 hcK_156)))] <;> rfl) (fun w171 c171 hc171 S171 => xsA2 S171 hc6 V V V (Sb (fg8 F162)) t0 (fun w172 c172 hc172 S172 => W_end (en (Qb F162) fun A173 _ F173 => tk H170 (wp_ret (rt2 F173 (rvA (fg9 F173) (S172.ob 3 hc171)) (rvA (fg8 F173) (S172.ob 2 hc172)) ?_)))))))))
  have hD := (do_5 (mx := lgN C N Z K Q) (g := gab G) (c := (⟨kd, a, b, f, p, q, uu⟩ : OpC)) Zi).trans (fin_0 (show (rwE (G.1.2.map ab) G.2.2 [a] a f) = 0 by omega))
  rw [hD]
  exact ⟨hv_156, H_156, qv_156, q_156, rfl, hg_156, (S172.f1 0 hcK_156)⟩
 refine tb fun _ H175 => (ve (fg4 F154) V (vt (W_end (en (Ka (Qa F154)) fun A176 _ F176 => tk H175 (cd (fg0 F176) (fun c177 => ?_) fun c177 => ?_)))))
 ·refine region_in (ra (fg10 F176) (S110.ob 4 hc3) (fa 1 (Sa (fg9 F176)) (rL (.int .i64 (a)) t0 (S110.ob 3 hc4) (fa 2 (Sc (fg9 F176)) (rL (.int .i64 (b)) t0 (S110.ob 3 hc4) (wc (args3 (Sd t0) (Sb t0) t0) ((glC (F := fun a_ b_ => .tuple #[.agg #[a_, b_], .int .i64 (ckd (G.1.2.map ab) G.2.2 [a, b])]) (qMove_c (a := a) (b := b) (S110.roC Go) (S110.roC Gn) (S110.roC Gr) Zc))) ?_))))))
  rintro _ w178 ⟨hv_178, H_178, qv_178, q_178, rfl, hg_178, hP178⟩
  refine ⟨_, rfl, ?_⟩
  obtain ⟨cK_178, hcK_178, hP178⟩ := gen1 hP178
  have S178 := S110.j1 hP178
  refine vm t0 (vx (.agg #[hv_178, qv_178]) t0 (vx (.int .i64 ((ckd (G.1.2.map ab) G.2.2 [a, b]))) (Sa t0) (xsB1 S178 hc10 V V V (Sh (Sa (fg6 F176))) (Sa t0) (by simp only [List.all_toArray, List.all_cons, List.all_nil, obC, grC, SlN_one (sl_SlN (gl_oa m1 (S178.cq 0 hcK_178))), SlN_one (sl_SlN (gl_ra m1 (S178.cq 0 hcK_178)))] <;> rfl) (fun w179 c179 hc179 S179 => vt (W_end (en (Ka (Qa (Qh F176))) fun A180 _ F180 => ?_))))))
  have S181 := S179.se [0, 1, 2, 3, 5] [cK_178, c179, c6, c5, c3]
  refine inb_n (tc H14 fun _ H182 => tb fun _ H183 => (vm (fg0 F180) (vn t0 V (W_end (en (Ka (Qa F180)) fun A184 _ F184 => tk H183 (cd (fg0 F184) (fun c185 => ?_) fun c185 => ?_))))))
  ·refine tb fun _ H186 => (ra (fg12 F184) (S181.ob 4 hc3) (wc (args1 t0) ((glC (F := fun a_ b_ => .agg #[a_, b_]) (qCn_c (S181.roC Go) (S181.roC Gn) (S181.roC Gr) Zc (by first | omega | (have q := hG.r8; omega)) (by first | omega | (have q := hG.o4; rw [List.length_map] at q; omega))))) ?_))
   rintro _ w187 ⟨hv_187, H_187, qv_187, q_187, rfl, hg_187, hP187⟩
   refine ⟨_, rfl, ?_⟩
   obtain ⟨cK_187, hcK_187, hP187⟩ := gen1 hP187
   have S187 := S181.j1 hP187
   refine vm (Sb (fg1 F184)) (wv (xbS (n := 3) (z := .agg #[.int .i64 0, .bool false, .int .u64 0]) V (parts1 t0)) (xsB4 S187 hc5 V V V (Sd (fg10 F184)) (Sb t0) (by simp only [List.all_toArray, List.all_cons, List.all_nil, obC, grC, SlN_one (sl_SlN (gl_oa m1 (S187.cq 0 hcK_187))), SlN_one (sl_SlN (gl_ra m1 (S187.cq 0 hcK_187)))] <;> rfl) (fun w188 c188 hc188 S188 => xsA3 S188 hc6 V V V (Sd (fg9 F184)) t0 (fun w189 c189 hc189 S189 => W_end (en (Qd F184) fun A190 _ F190 => tk H186 (wp_ret (then_ret (rt2 F190 (rvA (fg10 F190) (S189.ob 4 hc188)) (rvA (fg9 F190) (S189.ob 3 hc189)) ?_))))))))
   have hD := (do_6 (mx := lgN C N Z K Q) (g := gab G) (c := (⟨kd, a, b, f, p, q, uu⟩ : OpC)) Zi).trans (fin_n (show (ckd (G.1.2.map ab) G.2.2 [a, b]) ≠ 0 by omega))
   rw [hD]
   exact ⟨hv_187, H_187, qv_187, q_187, rfl, hg_187, (S189.f1 0 hcK_187)⟩
  refine wp_skip (ta H182 fun _ H192 => (ra (fg8 F184) (S181.ob 1 hc179) (wv (xbS (n := 3) (z := .agg #[.int .i64 0, .bool false, .int .u64 0]) V parts0) (xsB3 S181 hc5 V V V (Sb (fg10 F184)) (Sa t0) (by simp only [List.all_toArray, List.all_cons, List.all_nil, obC, grC, SlN_one (sl_SlN (gl_oa m1 (S181.cq 0 hcK_178))), SlN_one (sl_SlN (gl_ra m1 (S181.cq 0 hcK_178)))] <;> rfl) (fun w193 c193 hc193 S193 => xsA2 S193 hc6 V V V (Sb (fg9 F184)) t0 (fun w194 c194 hc194 S194 => W_end (en (Qb F184) fun A195 _ F195 => tk H192 (wp_ret (rt2 F195 (rvA (fg10 F195) (S194.ob 3 hc193)) (rvA (fg9 F195) (S194.ob 2 hc194)) ?_)))))))))
  have hD := (do_6 (mx := lgN C N Z K Q) (g := gab G) (c := (⟨kd, a, b, f, p, q, uu⟩ : OpC)) Zi).trans (fin_0 (show (ckd (G.1.2.map ab) G.2.2 [a, b]) = 0 by omega))
  rw [hD]
  exact ⟨hv_178, H_178, qv_178, q_178, rfl, hg_178, (S194.f1 0 hcK_178)⟩
 refine tb fun _ H197 => (ve (fg5 F176) V (vt (W_end (en (Ka (Qa F176)) fun A198 _ F198 => tk H197 (cd (fg0 F198) (fun c199 => ?_) fun c199 => ?_)))))
 ·refine region_in (ra (fg11 F198) (S110.ob 4 hc3) (fa 1 (Sa (fg10 F198)) (rL (.int .i64 (a)) t0 (S110.ob 3 hc4) (wc (args2 (Sb t0) t0) ((glC (F := fun a_ b_ => .tuple #[.agg #[a_, b_], .int .i64 (ckd (G.1.2.map ab) G.2.2 [a])]) (qClear_c (a := a) (S110.roC Go) (S110.roC Gn) (S110.roC Gr) Zc))) ?_))))
  rintro _ w200 ⟨hv_200, H_200, qv_200, q_200, rfl, hg_200, hP200⟩
  refine ⟨_, rfl, ?_⟩
  obtain ⟨cK_200, hcK_200, hP200⟩ := gen1 hP200
  have S200 := S110.j1 hP200
  refine vm t0 (vx (.agg #[hv_200, qv_200]) t0 (vx (.int .i64 ((ckd (G.1.2.map ab) G.2.2 [a]))) (Sa t0) (xsB1 S200 hc10 V V V (Sg (fg7 F198)) (Sa t0) (by simp only [List.all_toArray, List.all_cons, List.all_nil, obC, grC, SlN_one (sl_SlN (gl_oa m1 (S200.cq 0 hcK_200))), SlN_one (sl_SlN (gl_ra m1 (S200.cq 0 hcK_200)))] <;> rfl) (fun w201 c201 hc201 S201 => vt (W_end (en (Ka (Qg F198)) fun A202 _ F202 => ?_))))))
  have S203 := S201.se [0, 1, 2, 3, 5] [cK_200, c201, c6, c5, c3]
  refine inb_n (tc H14 fun _ H204 => tb fun _ H205 => (vm (fg0 F202) (vn t0 V (W_end (en (Ka (Qa F202)) fun A206 _ F206 => tk H205 (cd (fg0 F206) (fun c207 => ?_) fun c207 => ?_))))))
  ·refine tb fun _ H208 => (ra (fg13 F206) (S203.ob 4 hc3) (wc (args1 t0) ((glC (F := fun a_ b_ => .agg #[a_, b_]) (qCn_c (S203.roC Go) (S203.roC Gn) (S203.roC Gr) Zc (by first | omega | (have q := hG.r8; omega)) (by first | omega | (have q := hG.o4; rw [List.length_map] at q; omega))))) ?_))
   rintro _ w209 ⟨hv_209, H_209, qv_209, q_209, rfl, hg_209, hP209⟩
   refine ⟨_, rfl, ?_⟩
   obtain ⟨cK_209, hcK_209, hP209⟩ := gen1 hP209
   have S209 := S203.j1 hP209
   refine vm (Sb (fg1 F206)) (wv (xbS (n := 3) (z := .agg #[.int .i64 0, .bool false, .int .u64 0]) V (parts1 t0)) (xsB4 S209 hc5 V V V (Sd (fg11 F206)) (Sb t0) (by simp only [List.all_toArray, List.all_cons, List.all_nil, obC, grC, SlN_one (sl_SlN (gl_oa m1 (S209.cq 0 hcK_209))), SlN_one (sl_SlN (gl_ra m1 (S209.cq 0 hcK_209)))] <;> rfl) (fun w210 c210 hc210 S210 => xsA3 S210 hc6 V V V (Sd (fg10 F206)) t0 (fun w211 c211 hc211 S211 => W_end (en (Qd F206) fun A212 _ F212 => tk H208 (wp_ret (then_ret (rt2 F212 (rvA (fg11 F212) (S211.ob 4 hc210)) (rvA (fg10 F212) (S211.ob 3 hc211)) ?_))))))))
   have hD := (do_7 (mx := lgN C N Z K Q) (g := gab G) (c := (⟨kd, a, b, f, p, q, uu⟩ : OpC)) Zi).trans (fin_n (show (ckd (G.1.2.map ab) G.2.2 [a]) ≠ 0 by omega))
   rw [hD]
   exact ⟨hv_209, H_209, qv_209, q_209, rfl, hg_209, (S211.f1 0 hcK_209)⟩
  refine wp_skip (ta H204 fun _ H214 => (ra (fg9 F206) (S203.ob 1 hc201) (wv (xbS (n := 3) (z := .agg #[.int .i64 0, .bool false, .int .u64 0]) V parts0) (xsB3 S203 hc5 V V V (Sb (fg11 F206)) (Sa t0) (by simp only [List.all_toArray, List.all_cons, List.all_nil, obC, grC, SlN_one (sl_SlN (gl_oa m1 (S203.cq 0 hcK_200))), SlN_one (sl_SlN (gl_ra m1 (S203.cq 0 hcK_200)))] <;> rfl) (fun w215 c215 hc215 S215 => xsA2 S215 hc6 V V V (Sb (fg10 F206)) t0 (fun w216 c216 hc216 S216 => W_end (en (Qb F206) fun A217 _ F217 => tk H214 (wp_ret (rt2 F217 (rvA (fg11 F217) (S216.ob 3 hc215)) (rvA (fg10 F217) (S216.ob 2 hc216)) ?_)))))))))
  have hD := (do_7 (mx := lgN C N Z K Q) (g := gab G) (c := (⟨kd, a, b, f, p, q, uu⟩ : OpC)) Zi).trans (fin_0 (show (ckd (G.1.2.map ab) G.2.2 [a]) = 0 by omega))
  rw [hD]
  exact ⟨hv_200, H_200, qv_200, q_200, rfl, hg_200, (S216.f1 0 hcK_200)⟩
 refine td fun _ H219 => region_monoS 5 6 [none, some (SPv [] (fun _ => fun u l' => ∃ hv_s H_s qv_s q_s, u = .agg #[hv_s, qv_s] ∧ (gab ((hv_s, H_s), (qv_s, q_s)) = ((G.1.2.map ab), G.2.2)) ∧ ∃ cK_s, cK_s = gls [((hv_s, H_s), (qv_s, q_s))] ∧ l' = [cK_s]) 1), none, none, some (SPv [] (fun _ => fun u l' => u = .agg #[.int .i64 (asG (gab G) (⟨kd, a, b, f, p, q, uu⟩ : OpC)).e, .bool (asG (gab G) (⟨kd, a, b, f, p, q, uu⟩ : OpC)).t, .int .u64 (asG (gab G) (⟨kd, a, b, f, p, q, uu⟩ : OpC)).v] ∧ l' = []) 4)] kr kr (dr (fun _ hx _ => (ura (fg11 F198) ((S110.grow hx).ob 4 hc3))) (D_call (ts := []) (vs := []) (C0 := fun _ => fun u l' => ∃ hv_s H_s qv_s q_s, u = .agg #[hv_s, qv_s] ∧ (gab ((hv_s, H_s), (qv_s, q_s)) = ((G.1.2.map ab), G.2.2)) ∧ ∃ cK_s, cK_s = gls [((hv_s, H_s), (qv_s, q_s))] ∧ l' = [cK_s]) (C := fun u l' => ∃ hv_s H_s qv_s q_s, u = .agg #[hv_s, qv_s] ∧ (gab ((hv_s, H_s), (qv_s, q_s)) = ((G.1.2.map ab), G.2.2)) ∧ ∃ cK_s, cK_s = gls [((hv_s, H_s), (qv_s, q_s))] ∧ l' = [cK_s]) V V V Tryz.func21 kr V (args1 t0) V V V V (fun sx hx hF => ?_) (fun u220 l220 hu220 => ?_)))
 ·refine ((glC (F := fun a_ b_ => .agg #[a_, b_]) (qCn_c ((S110.grow hx).roC Go) ((S110.grow hx).roC Gn) ((S110.grow hx).roC Gr) Zc (by first | omega | (have q := hG.r8; omega)) (by first | omega | (have q := hG.o4; rw [List.length_map] at q; omega))))).mono ?_
  rintro _ _ ⟨hv_220, H_220, qv_220, q_220, rfl, hg_220, hz⟩
  exact ⟨_, rfl, _, ⟨_, _, _, _, rfl, hg_220, _, rfl, rfl⟩, hz⟩
 obtain ⟨hv_220, H_220, qv_220, q_220, rfl, hg_220, cK_220, hcK_220, hl220⟩ := hu220
 refine dr (fun _ hx _ => (ura (Sb (fg11 F198)) ((S110.grow hx).ob 4 hc3))) (dr (fun _ hx _ => (ura (Sc (fg10 F198)) ((S110.grow hx).ob 3 hc4))) (D_call (ts := []) (vs := []) (C0 := fun _ => fun u l' => u = .agg #[.int .i64 (asG (gab G) (⟨kd, a, b, f, p, q, uu⟩ : OpC)).e, .bool (asG (gab G) (⟨kd, a, b, f, p, q, uu⟩ : OpC)).t, .int .u64 (asG (gab G) (⟨kd, a, b, f, p, q, uu⟩ : OpC)).v] ∧ l' = []) (C := fun u l' => u = .agg #[.int .i64 (asG (gab G) (⟨kd, a, b, f, p, q, uu⟩ : OpC)).e, .bool (asG (gab G) (⟨kd, a, b, f, p, q, uu⟩ : OpC)).t, .int .u64 (asG (gab G) (⟨kd, a, b, f, p, q, uu⟩ : OpC)).v] ∧ l' = []) V V V Tryz.func88 kr V (args2 (Sa t0) t0) V V V V (fun sx hx hF => ?_) (fun u221 l221 hu221 => ?_)))
 ·refine (qas_c (G := G) (kd := kd) (a := a) (b := b) (f := f) (p := p) (q := q) (uu := uu) (gl_mk ((S110.grow hx).roC Go) ((S110.grow hx).roC Gn) ((S110.grow hx).roC Gr)) (by first | with_reducible assumption | exact hsm) Zd).mono ?_
  rintro _ _ ⟨rfl, hz⟩
  exact ⟨_, rfl, _, ⟨rfl, rfl⟩, hz⟩
 obtain ⟨rfl, hl221⟩ := hu221
 refine D_eff V (ZS_eff S110 V V (fun s222 hJ222 hL222 hF222 => ?_))
 obtain ⟨ll220, ws220, we220, ⟨hv_220q, H_220q, qv_220q, q_220q, hq220, hg_220r, cK_220r, hcK_220r, hl220r⟩, hm220, k220, e220⟩ := L.all_get (L.all_rest hF222); cases hq220; subst hl220r
 replace hJ222 := hJ222.add hL222 (i := 1) V hm220 k220 e220
 obtain ⟨ll221, ws221, we221, ⟨hq221, hl221r⟩, hm221, k221, e221⟩ := L.all_get hF222; cases hq221; subst hl221r
 replace hJ222 := hJ222.add hL222 (i := 4) V hm221 k221 e221
 have S222 := hJ222.st; clear hF222 hJ222 hL222
 generalize s222.1 = w222 at *
 replace S222 : St w NoX [cK_220r, c10, c6, c5, c4, c3] w222 := S222
 refine xsB3 S222 hc5 V V V (Se (fg9 F198)) (Sc t0) (by simp only [List.all_toArray, List.all_cons, List.all_nil, obC, grC, SlN_one (sl_SlN (gl_oa m1 (S222.cq 0 hcK_220r))), SlN_one (sl_SlN (gl_ra m1 (S222.cq 0 hcK_220r)))] <;> rfl) (fun w223 c223 hc223 S223 => xsA2 S223 hc6 V V V (Se (fg8 F198)) t0 (fun w224 c224 hc224 S224 => W_end (Qo_normal (en (Qe F198) fun A225 _ F225 => tk H219 (wp_ret (inb_ret (then_ret (rt2 F225 (rvA (fg9 F225) (S224.ob 3 hc223)) (rvA (fg8 F225) (S224.ob 2 hc224)) ?_))))))))
 rw [do_as (mx := lgN C N Z K Q) (g := gab G) (c := (⟨kd, a, b, f, p, q, uu⟩ : OpC)) Zi]
 exact ⟨hv_220, H_220q, qv_220, q_220q, rfl, hg_220r, (S224.f1 0 hcK_220r)⟩

set_option maxHeartbeats 4000000 in
theorem qst_c {C N Z K Q : Int} {G : GV} {kd a b f p q uu : Int} {w : World} (hg_G : Ro w NoX (gls [G])) (hsm : SM (G.1.2.map ab)) :
  Calls Tryz.prog 23 #[.agg #[.int .i64 C, .int .i64 N, .int .i64 Z, .int .i64 K, .int .i64 Q], .agg #[G.1.1, G.2.1], .agg #[.int .i64 kd, .int .i64 a, .int .i64 b, .int .i64 f, .int .i64 p, .int .i64 q, .int .u64 uu]] w fun e w' => ∃ ho1 Ho1 qo1 so1, e = .returned (.tuple #[.agg #[ho1, qo1], .agg #[.int .i64 (stA (cfE C N Z K Q) (lgN C N Z K Q) K (gab G) (⟨kd, a, b, f, p, q, uu⟩ : OpC)).e, .bool (stA (cfE C N Z K Q) (lgN C N Z K Q) K (gab G) (⟨kd, a, b, f, p, q, uu⟩ : OpC)).t, .int .u64 (stA (cfE C N Z K Q) (lgN C N Z K Q) K (gab G) (⟨kd, a, b, f, p, q, uu⟩ : OpC)).v], .int .i64 (stE (cfE C N Z K Q) K (gab G) (⟨kd, a, b, f, p, q, uu⟩ : OpC))]) ∧ (gab ((ho1, Ho1), (qo1, so1)) = (stG (cfE C N Z K Q) (lgN C N Z K Q) K (gab G) (⟨kd, a, b, f, p, q, uu⟩ : OpC))) ∧ St w NoX [gls [((ho1, Ho1), (qo1, so1))]] w' := by
 have Go := gl_o m1 hg_G
 have Gn := gl_n m1 hg_G
 have Gr := gl_r m1 hg_G
 refine ci3 49 Tryz.func23 V (fun A0 _ F0 => ?_)
 have hS := St.nil w
 have bGo := SlN.le (sl_SlN Go.at)
 have bGr := SlN.le (sl_SlN Gr.at)
 refine tb fun _ H1 => (wB (#[.int .i64 (C), .int .i64 (N), .int .i64 (Z), .int .i64 (K), .int .i64 (Q)]) hS (fg0 F0) (fun g2 w2 c2 hc2 S2 => wB (#[G.1.1, G.2.1]) S2 (Sa (fg1 F0)) (fun g3 w3 c3 hc3 S3 => wB (#[.int .i64 (kd), .int .i64 (a), .int .i64 (b), .int .i64 (f), .int .i64 (p), .int .i64 (q), .int .u64 (uu)]) S3 (Sb (fg2 F0)) (fun g4 w4 c4 hc4 S4 => wA (#[.slice none 0 0, .slice none 0 0]) S4 (fun g5 w5 c5 hc5 S5 => wA (#[.int .i64 0, .bool false, .int .u64 0]) S5 (fun g6 w6 c6 hc6 S6 => vc (W_end (en (Qa (Ke F0)) fun A7 _ F7 => ta H1 fun _ H8 => (ra (fg4 F7) (S6.ob 4 hc2) (wc (args1 t0) (qcfg_c (C := C) (N := N) (Z := Z) (K := K) (Q := Q)) (C0 S6 fun w9 S9 => vt (W_end (en (Ka (Qb F7)) fun A10 _ F10 => tc H8 fun _ H11 => tb fun _ H12 => (vm (fg0 F10) (ve t0 V (W_end (en (Ka (Qa F10)) fun A13 _ F13 => tk H12 (cd (fg0 F13) (fun c14 => ?_) fun c14 => ?_))))))))))))))))))
 ·refine region_in (ra (fg5 F13) (S9.ob 3 hc3) (wc (args1 t0) (qCk_c (S9.roC Go) (S9.roC Gn) (S9.roC Gr)) (C0 S9 fun w15 S15 => vm t0 (vx (.int .i64 ((ckG (G.1.2.map ab) G.2.2).1)) t0 (vx (.int .i64 ((ckG (G.1.2.map ab) G.2.2).2)) (Sa t0) (vt (W_end (en (Ka (Qe (fx1 F13))) fun A16 _ F16 => tc H11 fun _ H17 => tb fun _ H18 => (vm (fg0 F16) (ve t0 V (W_split V V (V_mov V t0) (fun c19 => ?_) (fun c19 => ?_))))))))))))
  ·refine wg V t0 (ufa 1 (Sc (fg5 F16))) (wq V (Sa t0) (urL G.2.1 t0 (S15.ob 3 hc3)) (wg V (Sb t0) (ule_ t0 (sl_SlN Gr.at)) (wg V (Sc t0) (ufa 3 (Sf (fg6 F16))) (wq V (Sd t0) (urL (.int .i64 (K)) t0 (S15.ob 4 hc2)) (wg V (Se t0) (uvn (Sb t0) t0) (vT (Sf t0) t0 (W_end (en (Ka (Qa (Qh F16))) fun A20 _ F20 => tk H18 (cd (fg0 F20) (fun c21 => ?_) fun c21 => ?_)))))))))
   ·refine region_in (vc (W_end (en (Ka (fx1 F20)) fun A22 _ F22 => tc H17 fun _ H23 => tb fun _ H24 => (vm (fg0 F22) (ve t0 V (W_end (en (Ka (Qa F22)) fun A25 _ F25 => tk H24 (cond_not (fg0 F25) Ze (wp_skip (tc H23 fun _ H26 => tb fun _ H27 => (vm (fg1 F25) (vn t0 V (W_end (en (Ka (Qa F25)) fun A28 _ F28 => tk H27 (cond_sure (fg0 F28) Ze (tb fun _ H29 => (wv (xbS (n := 2) (z := .agg #[.slice none 0 0, .slice none 0 0]) V parts0) (wv (xbS (n := 3) (z := .agg #[.int .i64 0, .bool false, .int .u64 0]) V parts0) (vm (Sb (fg2 F28)) (xsA1 S15 hc5 V V V (Sc (fg6 F28)) (Sb t0) (fun w30 c30 hc30 S30 => xsA0 S30 hc6 V V V (Sc (fg5 F28)) (Sa t0) (fun w31 c31 hc31 S31 => vt (W_end (en (Ka (Qc F28)) fun A32 _ F32 => ?_))))))))))))))))))))))))
    have S33 := S31.se [0, 1] [c31, c30]
    refine tk H29 (wp_ret (then_ret (rt3 F32 (rvA (fg7 F32) (S33.ob 1 hc30)) (rvA (fg6 F32) (S33.ob 0 hc31)) (rv_tmp (fg0 F32)) ?_)))
    obtain ⟨c34, hc34, S34⟩ := gen1 (gl_nl S33)
    have h : (stE (cfE C N Z K Q) K (gab G) (⟨kd, a, b, f, p, q, uu⟩ : OpC)) = 7 := st_7 (g := gab G) Za (show ¬ (ckG (G.1.2.map ab) G.2.2).2 ≠ 0 by omega) (show (G.2.2.length : Int) ≠ K by omega)
    have h2 := st_e (cf := (cfE C N Z K Q)) (n := lgN C N Z K Q) (K := K) (g := gab G) (c := (⟨kd, a, b, f, p, q, uu⟩ : OpC)) (by rw [h]; omega)
    rw [h2.2, h]
    exact ⟨.slice none 0 0, [], .slice none 0 0, [], rfl, h2.1.symm, (S34.f1 0 hc34)⟩
   refine wp_skip (tc H17 fun _ H35 => tb fun _ H36 => (vm (fg1 F20) (ve t0 V (W_end (en (Ka (Qa F20)) fun A37 _ F37 => tk H36 (cond_sure (fg0 F37) (by first | (simp [c19]; done) | exact decide_eq_true Za | exact decide_eq_false Za) (region_in (ra (fg6 F37) (S15.ob 2 hc4) (wc (args1 t0) (qopc_c (kd := kd) (a := a) (b := b) (f := f) (p := p) (q := q) (uu := uu)) (C0 S15 fun w38 S38 => vt (W_end (en (Ka (Qb (fx2 F37))) fun A39 _ F39 => tc H35 fun _ H40 => tb fun _ H41 => (vm (fg0 F39) (vn t0 V (W_end (en (Ka (Qa F39)) fun A42 _ F42 => tk H41 (cd (fg0 F42) (fun c43 => ?_) fun c43 => ?_)))))))))))))))))
   ·refine tb fun _ H44 => (wv (xbS (n := 2) (z := .agg #[.slice none 0 0, .slice none 0 0]) V parts0) (wv (xbS (n := 3) (z := .agg #[.int .i64 0, .bool false, .int .u64 0]) V parts0) (vm (Sb (fg1 F42)) (xsA1 S38 hc5 V V V (Sc (fg6 F42)) (Sb t0) (fun w45 c45 hc45 S45 => xsA0 S45 hc6 V V V (Sc (fg5 F42)) (Sa t0) (fun w46 c46 hc46 S46 => vt (W_end (en (Ka (Qc F42)) fun A47 _ F47 => ?_))))))))
    have S48 := S46.se [0, 1] [c46, c45]
    refine tk H44 (wp_ret (then_ret (rt3 F47 (rvA (fg7 F47) (S48.ob 1 hc45)) (rvA (fg6 F47) (S48.ob 0 hc46)) (rv_tmp (fg0 F47)) ?_)))
    obtain ⟨c49, hc49, S49⟩ := gen1 (gl_nl S48)
    have h : (stE (cfE C N Z K Q) K (gab G) (⟨kd, a, b, f, p, q, uu⟩ : OpC)) = (opE (⟨kd, a, b, f, p, q, uu⟩ : OpC)) := st_op (g := gab G) Za (show ¬ (ckG (G.1.2.map ab) G.2.2).2 ≠ 0 by omega) (show ¬ (G.2.2.length : Int) ≠ K by omega)
    have h2 := st_e (cf := (cfE C N Z K Q)) (n := lgN C N Z K Q) (K := K) (g := gab G) (c := (⟨kd, a, b, f, p, q, uu⟩ : OpC)) (by rw [h]; omega)
    rw [h2.2, h]
    exact ⟨.slice none 0 0, [], .slice none 0 0, [], rfl, h2.1.symm, (S49.f1 0 hc49)⟩
   have hop : opE (⟨kd, a, b, f, p, q, uu⟩ : OpC) = 0 := by omega
   have hG := ckG_iff.1 (show (ckG (G.1.2.map ab) G.2.2).2 = 0 by omega)
   have ho4 := hG.o4
   have hr8 := hG.r8
   rw [List.length_map] at ho4
   refine wp_skip (ta H40 fun _ H50 => (ra (fg9 F42) (S38.ob 4 hc2) (ra (Sa (fg8 F42)) (S38.ob 3 hc3) (ra (Sb (fg7 F42)) (S38.ob 2 hc4) (wc (args3 (Sb t0) (Sa t0) t0) (qdn_c (C := C) (N := N) (Z := Z) (K := K) (Q := Q) (G := G) (kd := kd) (a := a) (b := b) (f := f) (p := p) (q := q) (uu := uu) (gl_mk (S38.roC Go) (S38.roC Gn) (S38.roC Gr)) (by first | with_reducible assumption | exact hsm) Zc Zd Zd) ?_)))))
   rintro _ w51 ⟨ho1_51, Ho1_51, qo1_51, so1_51, rfl, hg_51, hP51⟩
   refine ⟨_, rfl, ?_⟩
   obtain ⟨cK_51, hcK_51, hP51⟩ := gen1 hP51
   have S51 := S38.j1 hP51
   refine vm t0 (vx (.agg #[ho1_51, qo1_51]) t0 (vx (.agg #[.int .i64 ((doG (lgN C N Z K Q) (gab G) (⟨kd, a, b, f, p, q, uu⟩ : OpC)).2.e), .bool ((doG (lgN C N Z K Q) (gab G) (⟨kd, a, b, f, p, q, uu⟩ : OpC)).2.t), .int .u64 ((doG (lgN C N Z K Q) (gab G) (⟨kd, a, b, f, p, q, uu⟩ : OpC)).2.v)]) (Sa t0) (wA (#[.slice none 0 0, .slice none 0 0]) S51 (fun g52 w52 c52 hc52 S52 => wA (#[.int .i64 0, .bool false, .int .u64 0]) S52 (fun g53 w53 c53 hc53 S53 => xsB1 S53 hc52 V V V (Sa t0) (Sc t0) (by simp only [List.all_toArray, List.all_cons, List.all_nil, obC, grC, SlN_one (sl_SlN (gl_oa m1 (S53.cq 2 hcK_51))), SlN_one (sl_SlN (gl_ra m1 (S53.cq 2 hcK_51)))] <;> rfl) (fun w54 c54 hc54 S54 => xsA0 S54 hc53 V V V t0 (Sb t0) (fun w55 c55 hc55 S55 => W_end (en (Kb (Qg F42)) fun A56 Y56 F56 => ?_))))))))
   have S57 := S55.se [0, 1, 2, 3, 4] [c55, c54, cK_51, c6, c5]
   refine tc H50 fun _ H58 => region_anyQ kr 5 V (fun w179 hx179 => ?_)
   have S179 := S57.grow hx179
   refine AX_parL (l0 := [c55, c54, cK_51, c6, c5]) (k := 0) [⟨[1], [], [47], fun vs => [], fun vs => (vs.getD 0 undef) = .agg #[ho1_51, qo1_51]⟩, ⟨[0], [], [48], fun vs => [], fun vs => (vs.getD 0 undef) = .agg #[.int .i64 ((doG (lgN C N Z K Q) (gab G) (⟨kd, a, b, f, p, q, uu⟩ : OpC)).2.e), .bool ((doG (lgN C N Z K Q) (gab G) (⟨kd, a, b, f, p, q, uu⟩ : OpC)).2.t), .int .u64 ((doG (lgN C N Z K Q) (gab G) (⟨kd, a, b, f, p, q, uu⟩ : OpC)).2.v)]⟩, ⟨[2], [4], [], fun vs => [bx g5 30 #[ho1_51, qo1_51]], fun vs => True⟩, ⟨[], [3], [], fun vs => [bx g6 54 #[.int .i64 ((doG (lgN C N Z K Q) (gab G) (⟨kd, a, b, f, p, q, uu⟩ : OpC)).2.e), .bool ((doG (lgN C N Z K Q) (gab G) (⟨kd, a, b, f, p, q, uu⟩ : OpC)).2.t), .int .u64 ((doG (lgN C N Z K Q) (gab G) (⟨kd, a, b, f, p, q, uu⟩ : OpC)).2.v)]], fun vs => True⟩, ⟨[], [], [8], fun vs => [], fun vs => (vs.getD 0 undef) = .int .i64 0⟩] [c55, c54, cK_51, c6, c5] S179 V kr V ⟨?_, ?_, ?_, ?_, ?_, trivial⟩ ?_
   ·refine stepI [] (fun vs => [c54]) V (fun a => by kernel_rfl) ?_
    intro A180 w180 rst hFr hF S180
    replace S180 : St w NoX [c54, rst] w180 := S180
    have Y180 : SzN A180 49 := ⟨hFr.sz.trans Y56.out⟩
    have hdf180 : A180.defers = [] := hFr.df.trans F56.d
    have l10_180 := (oldS hFr 10 kr).trans (fg1 F56)
    obtain ⟨c54_180, hc54_180, S180⟩ := gen1 S180
    replace hc54_180 := hc54_180.trans hc54
    refine ra l10_180 (S180.ob 0 hc54_180) (W_end (kq _ ?_))
    exact ⟨_, [.agg #[ho1_51, qo1_51]], rfl, ts1 (et V), rfl, rfl, by subst hc54_180 hc54; exact S180⟩
   ·refine stepI [] (fun vs => [c55]) V (fun a => by kernel_rfl) ?_
    intro A181 w181 rst hFr hF S181
    replace S181 : St w NoX [c55, rst] w181 := S181
    have Y181 : SzN A181 49 := ⟨hFr.sz.trans Y56.out⟩
    have hdf181 : A181.defers = [] := hFr.df.trans F56.d
    have l11_181 := (oldS hFr 11 kr).trans (fg0 F56)
    obtain ⟨c55_181, hc55_181, S181⟩ := gen1 S181
    replace hc55_181 := hc55_181.trans hc55
    refine ra l11_181 (S181.ob 0 hc55_181) (W_end (kq _ ?_))
    exact ⟨_, [.agg #[.int .i64 ((doG (lgN C N Z K Q) (gab G) (⟨kd, a, b, f, p, q, uu⟩ : OpC)).2.e), .bool ((doG (lgN C N Z K Q) (gab G) (⟨kd, a, b, f, p, q, uu⟩ : OpC)).2.t), .int .u64 ((doG (lgN C N Z K Q) (gab G) (⟨kd, a, b, f, p, q, uu⟩ : OpC)).2.v)]], rfl, ts1 (et V), rfl, rfl, by subst hc55_181 hc55; exact S181⟩
   ·refine stepI [] (fun vs => [cK_51, c5]) V (fun a => by kernel_rfl) ?_
    intro A182 w182 rst hFr hF S182
    replace S182 : St w NoX [cK_51, c5, rst] w182 := S182
    have f47_182 : EV A182 (.tmp 47) = .agg #[ho1_51, qo1_51] := hF 0 kr
    generalize q47_182 : EV A182 (.tmp 47) = us47 at S182 f47_182
    have l47_182 := q47_182.trans f47_182
    have Y182 : SzN A182 49 := ⟨hFr.sz.trans Y56.out⟩
    have hdf182 : A182.defers = [] := hFr.df.trans F56.d
    have l6_182 := (oldS hFr 6 kr).trans (fg8 F56)
    obtain ⟨cK_182, c5_182, hcK_182, hc5_182, S182⟩ := gen2 S182
    replace hcK_182 := hcK_182.trans hcK_51
    replace hc5_182 := hc5_182.trans hc5
    refine xsB 1 S182 V hc5_182 V V V l6_182 l47_182 (by simp only [List.all_toArray, List.all_cons, List.all_nil, obC, grC, SlN_one (sl_SlN (gl_oa m1 (S182.cq 0 hcK_182))), SlN_one (sl_SlN (gl_ra m1 (S182.cq 0 hcK_182)))] <;> rfl) (fun w183 c183 hc183 S183 => ?_)
    replace S183 : St w NoX (cK_182 :: c183 :: [rst]) w183 := S183
    refine W_end (kq _ ?_)
    subst q47_182
    exact ⟨undef, [], rfl, rfl, trivial, rfl, by subst hcK_182 hc183 hcK_51 hc5; exact S183⟩
   ·refine stepI [] (fun vs => [c6]) V (fun a => by kernel_rfl) ?_
    intro A184 w184 rst hFr hF S184
    replace S184 : St w NoX [c6, rst] w184 := S184
    have f48_184 : EV A184 (.tmp 48) = .agg #[.int .i64 ((doG (lgN C N Z K Q) (gab G) (⟨kd, a, b, f, p, q, uu⟩ : OpC)).2.e), .bool ((doG (lgN C N Z K Q) (gab G) (⟨kd, a, b, f, p, q, uu⟩ : OpC)).2.t), .int .u64 ((doG (lgN C N Z K Q) (gab G) (⟨kd, a, b, f, p, q, uu⟩ : OpC)).2.v)] := hF 1 kr
    generalize q48_184 : EV A184 (.tmp 48) = us48 at S184 f48_184
    have l48_184 := q48_184.trans f48_184
    have Y184 : SzN A184 49 := ⟨hFr.sz.trans Y56.out⟩
    have hdf184 : A184.defers = [] := hFr.df.trans F56.d
    have l7_184 := (oldS hFr 7 kr).trans (fg7 F56)
    obtain ⟨c6_184, hc6_184, S184⟩ := gen1 S184
    replace hc6_184 := hc6_184.trans hc6
    refine xsA 0 S184 V hc6_184 V V V l7_184 l48_184 (fun w185 c185 hc185 S185 => ?_)
    replace S185 : St w NoX (c185 :: [rst]) w185 := S185
    refine W_end (kq _ ?_)
    subst q48_184
    exact ⟨undef, [], rfl, rfl, trivial, rfl, by subst hc185 hc6; exact S185⟩
   ·refine stepI [] (fun vs => []) V (fun a => by kernel_rfl) ?_
    intro A186 w186 rst hFr hF S186
    replace S186 : St w NoX [rst] w186 := S186
    have Y186 : SzN A186 49 := ⟨hFr.sz.trans Y56.out⟩
    have hdf186 : A186.defers = [] := hFr.df.trans F56.d
    refine vc (W_end (kq _ ?_))
    exact ⟨_, [.int .i64 0], rfl, ts1 (et V), rfl, rfl, S186⟩
   intro A187 w187 hFr hF S187
   replace S187 : St w NoX [c55, c54, cK_51, bx g6 54 #[.int .i64 ((doG (lgN C N Z K Q) (gab G) (⟨kd, a, b, f, p, q, uu⟩ : OpC)).2.e), .bool ((doG (lgN C N Z K Q) (gab G) (⟨kd, a, b, f, p, q, uu⟩ : OpC)).2.t), .int .u64 ((doG (lgN C N Z K Q) (gab G) (⟨kd, a, b, f, p, q, uu⟩ : OpC)).2.v)], bx g5 30 #[ho1_51, qo1_51]] w187 := S187.cast kr
   have f8_187 : EV A187 (.tmp 8) = .int .i64 0 := hF 4 Ze
   generalize q8_187 : EV A187 (.tmp 8) = us8 at S187 f8_187
   have l8_187 := q8_187.trans f8_187
   have Y187 : SzN A187 49 := ⟨hFr.sz.trans Y56.out⟩
   have hdf187 : A187.defers = [] := hFr.df.trans F56.d
   obtain ⟨c55_187, c54_187, cK_187, c120_187, c119_187, hc55_187, hc54_187, hcK_187, hc120_187, hc119_187, S187⟩ := gen5 S187
   replace hc55_187 := hc55_187.trans hc55
   replace hc54_187 := hc54_187.trans hc54
   replace hcK_187 := hcK_187.trans hcK_51
   have l6_187 := (oldS hFr 6 kr).trans (fg8 F56)
   have l7_187 := (oldS hFr 7 kr).trans (fg7 F56)
   clear Y56 F56 S57
   refine Qo_normal (tk H58 (wp_ret (ret_in (results_3 Tryz.results23 (rvA l6_187 (S187.ob 4 hc119_187)) (rvA l7_187 (S187.ob 3 hc120_187)) (rv_tmp l8_187)) hdf187 ?_)))
   have h : (stE (cfE C N Z K Q) K (gab G) (⟨kd, a, b, f, p, q, uu⟩ : OpC)) = 0 := (st_op (g := gab G) Za (show ¬ (ckG (G.1.2.map ab) G.2.2).2 ≠ 0 by omega) (show ¬ (G.2.2.length : Int) ≠ K by omega)).trans Za
   have h2 := st_k (n := lgN C N Z K Q) h
   rw [h2.2, h]
   exact ⟨ho1_51, Ho1_51, qo1_51, so1_51, rfl, by rw [h2.1]; exact hg_51, (S187.f1 2 hcK_187)⟩
  refine xo V t0 (xo V (Sa t0) (xo V (Sb t0) (xo V (Sc t0) (xo V (Sd t0) (xo V (Se t0) (vF (Sf t0) V (W_end (en (Ka (Qa (Qh F16))) fun A189 _ F189 => tk H18 (cond_f (fg0 F189) (wp_skip (tc H17 fun _ H190 => tb fun _ H191 => (vm (fg1 F189) (ve t0 V (W_end (en (Ka (Qa F189)) fun A192 _ F192 => tk H191 (cond_not (fg0 F192) (by first | (simp [c19]; done) | exact decide_eq_true Za | exact decide_eq_false Za) (wp_skip (tc H190 fun _ H193 => tb fun _ H194 => (vm (fg2 F192) (vn t0 V (W_end (en (Ka (Qa F192)) fun A195 _ F195 => tk H194 (cond_sure (fg0 F195) (by first | (simp [c19]; done) | exact decide_eq_true Za | exact decide_eq_false Za) (tb fun _ H196 => (wv (xbS (n := 2) (z := .agg #[.slice none 0 0, .slice none 0 0]) V parts0) (wv (xbS (n := 3) (z := .agg #[.int .i64 0, .bool false, .int .u64 0]) V parts0) (vm (Sb (fg3 F195)) (xsA1 S15 hc5 V V V (Sc (fg6 F195)) (Sb t0) (fun w197 c197 hc197 S197 => xsA0 S197 hc6 V V V (Sc (fg5 F195)) (Sa t0) (fun w198 c198 hc198 S198 => vt (W_end (en (Ka (Qc F195)) fun A199 _ F199 => ?_))))))))))))))))))))))))))))))))
  have S200 := S198.se [0, 1] [c198, c197]
  refine tk H196 (wp_ret (then_ret (rt3 F199 (rvA (fg7 F199) (S200.ob 1 hc197)) (rvA (fg6 F199) (S200.ob 0 hc198)) (rv_tmp (fg0 F199)) ?_)))
  obtain ⟨c201, hc201, S201⟩ := gen1 (gl_nl S200)
  have h : (stE (cfE C N Z K Q) K (gab G) (⟨kd, a, b, f, p, q, uu⟩ : OpC)) = (ckG (G.1.2.map ab) G.2.2).2 := st_ck (g := gab G) Za (show (ckG (G.1.2.map ab) G.2.2).2 ≠ 0 by omega)
  have h2 := st_e (cf := (cfE C N Z K Q)) (n := lgN C N Z K Q) (K := K) (g := gab G) (c := (⟨kd, a, b, f, p, q, uu⟩ : OpC)) (by rw [h]; omega)
  rw [h2.2, h]
  exact ⟨.slice none 0 0, [], .slice none 0 0, [], rfl, h2.1.symm, (S201.f1 0 hc201)⟩
 refine wp_skip (tc H11 fun _ H202 => tb fun _ H203 => (vm (fg1 F13) (ve t0 V (W_sure (c' := false) V V (V_mov V t0) (by first | (simp [c14]; done) | exact decide_eq_true Za | exact decide_eq_false Za) (xo V t0 (xo V (Sa t0) (xo V (Sb t0) (xo V (Sc t0) (xo V (Sd t0) (xo V (Se t0) (vF (Sf t0) V (W_end (en (Ka (Qa (Qh F13))) fun A204 _ F204 => tk H203 (cond_f (fg0 F204) (wp_skip (tc H202 fun _ H205 => tb fun _ H206 => (vm (fg2 F204) (ve t0 V (W_end (en (Ka (Qa F204)) fun A207 _ F207 => tk H206 (cond_not (fg0 F207) (by first | (simp [c14]; done) | exact decide_eq_true Za | exact decide_eq_false Za) (wp_skip (tc H205 fun _ H208 => tb fun _ H209 => (vm (fg3 F207) (vn t0 V (W_end (en (Ka (Qa F207)) fun A210 _ F210 => tk H209 (cond_sure (fg0 F210) (by first | (simp [c14]; done) | exact decide_eq_true Za | exact decide_eq_false Za) (tb fun _ H211 => (wv (xbS (n := 2) (z := .agg #[.slice none 0 0, .slice none 0 0]) V parts0) (wv (xbS (n := 3) (z := .agg #[.int .i64 0, .bool false, .int .u64 0]) V parts0) (vm (Sb (fg4 F210)) (xsA1 S9 hc5 V V V (Sc (fg6 F210)) (Sb t0) (fun w212 c212 hc212 S212 => xsA0 S212 hc6 V V V (Sc (fg5 F210)) (Sa t0) (fun w213 c213 hc213 S213 => vt (W_end (en (Ka (Qc F210)) fun A214 _ F214 => ?_)))))))))))))))))))))))))))))))))))))
 have S215 := S213.se [0, 1] [c213, c212]
 refine tk H211 (wp_ret (then_ret (rt3 F214 (rvA (fg7 F214) (S215.ob 1 hc212)) (rvA (fg6 F214) (S215.ob 0 hc213)) (rv_tmp (fg0 F214)) ?_)))
 obtain ⟨c216, hc216, S216⟩ := gen1 (gl_nl S215)
 have h : (stE (cfE C N Z K Q) K (gab G) (⟨kd, a, b, f, p, q, uu⟩ : OpC)) = (cfE C N Z K Q) := st_cf Za
 have h2 := st_e (cf := (cfE C N Z K Q)) (n := lgN C N Z K Q) (K := K) (g := gab G) (c := (⟨kd, a, b, f, p, q, uu⟩ : OpC)) (by rw [h]; omega)
 rw [h2.2, h]
 exact ⟨.slice none 0 0, [], .slice none 0 0, [], rfl, h2.1.symm, (S216.f1 0 hc216)⟩

end Go.Proofs.YtpgkfndbfocibaaGreat