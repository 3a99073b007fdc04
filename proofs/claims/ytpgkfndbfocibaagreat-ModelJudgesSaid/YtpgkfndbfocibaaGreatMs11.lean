import Derived.Test.YtpgkfndbfocibaaGreatProg
import Derived.Test.YtpgkfndbfocibaaGreatSqL
import Derived.Test.YtpgkfndbfocibaaGreatMs8
import Derived.Test.YtpgkfndbfocibaaGreatPl29e
import Derived.Test.YtpgkfndbfocibaaGreatGh9b
import Derived.Test.YtpgkfndbfocibaaGreatSep29e
import Derived.Test.YtpgkfndbfocibaaGreatSep29g
namespace Go.Proofs.YtpgkfndbfocibaaGreat
open Go.RowKit Go.Own Go.Own.R Go.Own.G Go.Own.Gr Go.Own.Ml


set_option maxHeartbeats 4000000 in
theorem krg_c {G : GV} {n : Int} {gS : Nat} {a : Int} {w : World} (hg_G : Ro w NoX (gls [G])) (hb_gS : Ro w NoX (bx gS 77 #[G.1.1, G.2.1, .int .i64 n]))  :
  Calls Tryz.prog 73 #[.pointer (some ⟨gS, 0, none⟩), .int .i64 a] w fun e w' => e = .returned (.tuple #[.int .i64 (rgX (G.1.2.map ab) G.2.2 a), .int .i64 (ckd (G.1.2.map ab) G.2.2 [a, a])]) ∧ St w NoX [] w' := by
 have Go := gl_o m1 hg_G
 have Gn := gl_n m1 hg_G
 have Gr := gl_r m1 hg_G
 refine ci2 29 Tryz.func73 V (fun A0 _ F0 => ?_)
 have hS := St.nil w
 have bGo := SlN.le (sl_SlN Go.at)
 have bGr := SlN.le (sl_SlN Gr.at)
 refine tb fun _ H1 => (vc (vc (W_end (en (Qb F0) fun A2 _ F2 => tc H1 fun _ H3 => tb fun _ H4 => (vm (fg0 F2) (ni t0 (fa 0 t0 (wr (VR_ldP (ys := [G.1.1, G.2.1]) V t0 (ob_at (hS.ro hb_gS)) (ldP_at V) Tryz.underlying30 V om) (vm (Sd (fg1 F2)) (vm (Se (fg1 F2)) (wc (args3 (Sb t0) (Sa t0) t0) (kAl_c (a := a) (b := a) (hS.roC Go) (hS.roC Gn) (hS.roC Gr)) (C0 hS fun w5 S5 => vm t0 (vx (.bool ((alB (G.1.2.map ab) G.2.2 a a))) t0 (vx (.int .i64 ((ckd (G.1.2.map ab) G.2.2 [a, a]))) (Sa t0) (va (Sa t0) (va (Sa t0) (W_end (en (Ka (Qc (Qh F2))) fun A6 _ F6 => ta H4 fun _ H7 => (vm (fg0 F6) (vn t0 V (W_end (en (Ka (Qa F6)) fun A8 _ F8 => tk H7 (cd (fg0 F8) (fun c9 => ?_) fun c9 => ?_)))))))))))))))))))))))
 ·refine tb fun _ H10 => (vm (fg1 F8) (vc (va (Sa t0) (W_end (en (Kb (Qa F8)) fun A11 _ F11 => tk H10 (wp_ret (then_ret (rt2 F11 (rv_tmp (fg1 F11)) (rv_tmp (fg0 F11)) ?_))))))))
  rw [rgX_e c9]
  exact ⟨rfl, S5.fin0⟩
 have hcd : (ckd (G.1.2.map ab) G.2.2 [a, a]) = 0 := by simpa using c9
 have ha := (ckd_0.1 hcd).2 a Zj
 refine wp_skip (ta H3 fun _ H12 => (vm (fg2 F8) (ni t0 (fa 0 t0 (fa 1 t0 (rc t0 (cell_box (v := G.2.1) (ob_at (S5.ro hb_gS)) V) (vm (Se (fg3 F8)) ?_)))))))
 have k13 : a.toNat < G.2.2.length := by first | omega | (simp only [List.length_cons, List.length_nil]; omega) | (simp only [List.length_set]; omega) | decide
 obtain ⟨y13, hy13⟩ := get_some (xs := G.2.2) (k := a.toNat) k13
 obtain ⟨B13, O13, C13, hv13⟩ := (SlN.blk (sl_SlN Gr.at) kr)
 refine wv (V_ixS (off := O13 + a.toNat) 1 a.toNat V (Sa t0) t0 hv13 Za k13 Tryz.underlying25 om (congrArg _ (Nat.mul_one _))) (rc t0 ((sl_SlN (S5.ro Gr)).cell hv13 (map_get hy13)) (vt (vc (W_end (en (Kb (Qh F8)) fun A14 _ F14 => tk H12 (wp_ret (rt2 F14 (rv_tmp (fg1 F14)) (rv_tmp (fg0 F14)) ?_)))))))
 rw [rgX_k hcd hy13]
 rw [hcd]
 exact ⟨rfl, S5.fin0⟩

set_option maxHeartbeats 4000000 in
theorem ksk_c {G : GV} {n : Int} {gS : Nat} {G2 : GV} {er : Int} {w : World} {Y : Nat → Prop} (hg_G : Ro w Y (gls [G])) (hg_G2 : Ro w Y (gls [G2])) (hS : St w Y [bx gS 77 #[G.1.1, G.2.1, .int .i64 n]] w)  :
  Calls Tryz.prog 65 #[.pointer (some ⟨gS, 0, none⟩), .agg #[G2.1.1, G2.2.1], .int .i64 er] w fun e w' => e = .returned (.agg #[.int .i64 er, .bool false, .int .u64 0]) ∧ St w Y [bx gS 77 #[(if er = 0 then G2 else G).1.1, (if er = 0 then G2 else G).2.1, .int .i64 n]] w' := by
 have Go := gl_o m1 hg_G
 have Gn := gl_n m1 hg_G
 have Gr := gl_r m1 hg_G
 have G2o := gl_o m1 hg_G2
 have G2n := gl_n m1 hg_G2
 have G2r := gl_r m1 hg_G2
 refine ci3 15 Tryz.func65 V (fun A0 _ F0 => ?_)
 obtain ⟨mb_gS, hmb_gS, hS⟩ := gen1 hS
 have bGo := SlN.le (sl_SlN Go.at)
 have bGr := SlN.le (sl_SlN Gr.at)
 have bG2o := SlN.le (sl_SlN G2o.at)
 have bG2r := SlN.le (sl_SlN G2r.at)
 refine tb fun _ H1 => (wB (#[G2.1.1, G2.2.1]) hS (fg1 F0) (fun g2 w2 c2 hc2 S2 => wA (#[.int .i64 0, .bool false, .int .u64 0]) S2 (fun g3 w3 c3 hc3 S3 => W_end (en (Kb F0) fun A4 _ F4 => tc H1 fun _ H5 => tb fun _ H6 => (vm (fg4 F4) (ve t0 V (W_end (en (Ka (Qa F4)) fun A7 _ F7 => tk H6 (cd (fg0 F7) (fun c8 => ?_) fun c8 => ?_)))))))))
 ·refine region_in (vm (fg3 F7) (ra (Sa (fg2 F7)) (S3.ob 1 hc2) (ni (Sa t0) (fa 0 t0 (W_stAM (ys := [G2.1.1, G2.2.1]) (zs' := #[G2.1.1, G2.2.1, .int .i64 (n)]) 2 S3 V hmb_gS V V V t0 (Sb t0) (by intro u hu; simp only [List.mem_cons, List.not_mem_nil, or_false] at hu; rcases hu with rfl | rfl <;> first | exact SlN_one (sl_SlN G2o.at) | exact SlN_one (sl_SlN G2r.at)) Zj om V (fun w9 c9 hc9 S9 => ?_))))))
  replace S9 : St w Y [c3, c2, c9] w9 := S9
  refine W_end (en (Qd F7) fun A10 _ F10 => ?_)
  have S11 := S9.se [0, 2] [c3, c9]
  refine ta H5 fun _ H12 => (vm (fg5 F10) (wv (xbS (n := 3) (z := .agg #[.int .i64 0, .bool false, .int .u64 0]) V (parts1 t0)) (xsA0 S11 hc3 V V V (Sb (fg1 F10)) t0 (fun w13 c13 hc13 S13 => W_end (en (Qb F10) fun A14 _ F14 => tk H12 (wp_ret (rt1 F14 (rvA (fg1 F14) (S13.ob 0 hc13)) ?_)))))))
  exact ⟨rfl, (S13.f1 1 (hc9.trans (by rw [if_pos c8])))⟩
 refine wp_skip (ta H5 fun _ H15 => (vm (fg5 F7) (wv (xbS (n := 3) (z := .agg #[.int .i64 0, .bool false, .int .u64 0]) V (parts1 t0)) (xsA0 S3 hc3 V V V (Sb (fg1 F7)) t0 (fun w16 c16 hc16 S16 => W_end (en (Qb F7) fun A17 _ F17 => tk H15 (wp_ret (rt1 F17 (rvA (fg1 F17) (S16.ob 0 hc16)) ?_))))))))
 exact ⟨rfl, (S16.f1 2 (hmb_gS.trans (by rw [if_neg c8])))⟩

set_option maxHeartbeats 4000000 in
theorem ksa_c {G : GV} {n : Int} {gS : Nat} {kd a b f p q uu : Int} {w : World} {Y : Nat → Prop} (hg_G : Ro w Y (gls [G])) (hS : St w Y [bx gS 77 #[G.1.1, G.2.1, .int .i64 n]] w) (hsm : SM (G.1.2.map ab)) (hn : 0 ≤ n ∧ n ≤ 32) (hpq : (-1000000000 ≤ p ∧ p ≤ 1000000000) ∧ (-1000000000 ≤ q ∧ q ≤ 1000000000)) :
  Calls Tryz.prog 64 #[.pointer (some ⟨gS, 0, none⟩), .agg #[.int .i64 kd, .int .i64 a, .int .i64 b, .int .i64 f, .int .i64 p, .int .i64 q, .int .u64 uu]] w fun e w' => ∃ Gx Gn, e = .returned (.agg #[.int .i64 (alA n (gab G) a p q), .bool false, .int .u64 0]) ∧ (gab Gx = (fin (gab G) (alA n (gab G) a p q) (alO (G.1.2.map ab) G.2.2 a p q, alR (G.1.2.map ab) G.2.2 a p q)).1) ∧ (gmem Gx G Gn) ∧ St w Y [bx gS 77 #[Gx.1.1, Gx.2.1, .int .i64 n], gls Gn] w' := by
 have Go := gl_o m1 hg_G
 have Gn := gl_n m1 hg_G
 have Gr := gl_r m1 hg_G
 refine ci2 55 Tryz.func64 V (fun A0 _ F0 => ?_)
 obtain ⟨mb_gS, hmb_gS, hS⟩ := gen1 hS
 have bGo := SlN.le (sl_SlN Go.at)
 have bGr := SlN.le (sl_SlN Gr.at)
 refine tb fun _ H1 => (wB (#[.int .i64 (kd), .int .i64 (a), .int .i64 (b), .int .i64 (f), .int .i64 (p), .int .i64 (q), .int .u64 (uu)]) hS (fg1 F0) (fun g2 w2 c2 hc2 S2 => wA (#[.int .i64 0, .bool false, .int .u64 0]) S2 (fun g3 w3 c3 hc3 S3 => W_end (en (Kb F0) fun A4 _ F4 => ta H1 fun _ H5 => (vm (fg2 F4) (fa 1 (Sa (fg1 F4)) (rL (.int .i64 (a)) t0 (S3.ob 1 hc2) (wc (args2 (Sb t0) t0) (krg_c (gS := gS) (n := n) (G := G) (a := a) (gl_mk (S3.roC Go) (S3.roC Gn) (S3.roC Gr)) (S3.cC 2 hmb_gS)) (C0 S3 fun w6 S6 => vm t0 (vx (.int .i64 ((rgX (G.1.2.map ab) G.2.2 a))) t0 (vx (.int .i64 ((ckd (G.1.2.map ab) G.2.2 [a, a]))) (Sa t0) (va (Sa t0) (va (Sa t0) (W_end (en (Ka (Qh F4)) fun A7 _ F7 => tc H5 fun _ H8 => wp_block (tb fun _ H9 => (vm (fg0 F7) (vn t0 V (vt (W_end (en (Ka (Qb F7)) fun A10 _ F10 => tk H9 (cd (fg0 F10) (fun c11 => ?_) fun c11 => ?_))))))))))))))))))))))
 ·refine wp_skip (inb_n (ta H8 fun _ H12 => (vm (fg1 F10) (wv (xbS (n := 3) (z := .agg #[.int .i64 0, .bool false, .int .u64 0]) V (parts1 t0)) (xsA0 S6 hc3 V V V (Sb (fg2 F10)) t0 (fun w13 c13 hc13 S13 => W_end (en (Qb F10) fun A14 _ F14 => ?_)))))))
  have S15 := S13.se [0, 2] [c13, mb_gS]
  refine tk H12 (wp_ret (rt1 F14 (rvA (fg2 F14) (S15.ob 0 hc13)) ?_))
  obtain ⟨c16, hc16, S16⟩ := gen1 (gl_mt S15)
  have hA : (alA n (gab G) a p q) = (ckd (G.1.2.map ab) G.2.2 [a, a]) := alA_e c11
  rw [hA]
  exact ⟨G, [], rfl, (fin_e c11).symm, gm_0, (S16.f2 2 hmb_gS 0 hc16)⟩
 refine tb fun _ H17 => (fa 4 (fg3 F10) (rL (.int .i64 (p)) t0 (S6.ob 1 hc2) (vl t0 V (W_split V V (V_mov V t0) (fun c18 => ?_) (fun c18 => ?_)))))
 ·refine xo V t0 (xo V (Sa t0) (xo V (Sb t0) (vT (Sc t0) V (vt (W_end (en (Ka (Qh F10)) fun A19 _ F19 => tk H17 (cond_t (fg0 F19) (region_in (vc (W_end (en (Ka (fx2 F19)) fun A20 _ F20 => ?_)))))))))))
  have S21 := S6.se [0, 2] [c3, mb_gS]
  refine inb_n (ta H8 fun _ H22 => (vm (fg0 F20) (wv (xbS (n := 3) (z := .agg #[.int .i64 0, .bool false, .int .u64 0]) V (parts1 t0)) (xsA0 S21 hc3 V V V (Sb (fg3 F20)) t0 (fun w23 c23 hc23 S23 => W_end (en (Qb F20) fun A24 _ F24 => tk H22 (wp_ret (rt1 F24 (rvA (fg3 F24) (S23.ob 0 hc23)) ?_))))))))
  obtain ⟨c25, hc25, S25⟩ := gen1 (gl_mt S23)
  have hA : (alA n (gab G) a p q) = 10 := alA_b c11 Za
  rw [hA]
  exact ⟨G, [], rfl, (fin_e Zg).symm, gm_0, (S25.f2 2 hmb_gS 0 hc25)⟩
 refine wg V t0 (ufa 5 (Sd (fg3 F10))) (wq V (Sa t0) (urL (.int .i64 (q)) t0 (S6.ob 1 hc2)) (wg V (Sb t0) (uvl t0 V) (vF (Sc t0) t0 (vt (W_end (en (Ka (Qh F10)) fun A26 _ F26 => tk H17 (cd (fg0 F26) (fun c27 => ?_) fun c27 => ?_)))))))
 ·refine region_in (vc (W_end (en (Ka (fx2 F26)) fun A28 _ F28 => ?_)))
  have S29 := S6.se [0, 2] [c3, mb_gS]
  refine inb_n (ta H8 fun _ H30 => (vm (fg0 F28) (wv (xbS (n := 3) (z := .agg #[.int .i64 0, .bool false, .int .u64 0]) V (parts1 t0)) (xsA0 S29 hc3 V V V (Sb (fg3 F28)) t0 (fun w31 c31 hc31 S31 => W_end (en (Qb F28) fun A32 _ F32 => tk H30 (wp_ret (rt1 F32 (rvA (fg3 F32) (S31.ob 0 hc31)) ?_))))))))
  obtain ⟨c33, hc33, S33⟩ := gen1 (gl_mt S31)
  have hA : (alA n (gab G) a p q) = 10 := alA_b c11 Za
  rw [hA]
  exact ⟨G, [], rfl, (fin_e Zg).symm, gm_0, (S33.f2 2 hmb_gS 0 hc33)⟩
 refine td fun _ H34 => region_monoS 12 12 [] om om (df 4 (fg4 F26) (dr (fun _ hx _ => (urc t0 (cell_box (v := .int .i64 (p)) ((S6.grow hx).ob 1 hc2) V))) (dv (uad V t0) (df 5 (Sc (fg4 F26)) (dr (fun _ hx _ => (urc t0 (cell_box (v := .int .i64 (q)) ((S6.grow hx).ob 1 hc2) V))) (dv (uad (Sb t0) t0) (dm (Sf (fg5 F26)) (dn t0 (df 2 t0 (dr (fun _ hx _ => (urc t0 (cell_box (v := .int .i64 (n)) ((S6.grow hx).ob 2 hmb_gS) V))) (dv (uvg (Sd t0) t0) (dv (V_asg V t0) (ZS_none S6 (Nat.le_refl _) (Nat.le_refl _) (fun s35 hJ35 hL35 hF35 => ?_))))))))))))))
 have S35 := hJ35.st; clear hF35 hJ35 hL35
 generalize s35.1 = w35 at *
 replace S35 : St w Y [c3, c2, mb_gS] w35 := S35
 refine en (Ka (Qc (Qh F26))) fun A36 _ F36 => tk H34 (cd (fg0 F36) (fun c37 => ?_) fun c37 => ?_)
 ·refine region_in (vc (W_end (en (Ka (fx3 F36)) fun A38 _ F38 => ?_)))
  have S39 := S35.se [0, 2] [c3, mb_gS]
  refine inb_n (ta H8 fun _ H40 => (vm (fg0 F38) (wv (xbS (n := 3) (z := .agg #[.int .i64 0, .bool false, .int .u64 0]) V (parts1 t0)) (xsA0 S39 hc3 V V V (Sb (fg4 F38)) t0 (fun w41 c41 hc41 S41 => W_end (en (Qb F38) fun A42 _ F42 => tk H40 (wp_ret (rt1 F42 (rvA (fg4 F42) (S41.ob 0 hc41)) ?_))))))))
  obtain ⟨c43, hc43, S43⟩ := gen1 (gl_mt S41)
  have hA : (alA n (gab G) a p q) = 11 := alA_t c11 Za Za
  rw [hA]
  exact ⟨G, [], rfl, (fin_e Zg).symm, gm_0, (S43.f2 2 hmb_gS 0 hc43)⟩
 refine td fun _ H44 => region_monoS 14 15 [none, none, none, none, none, none, none, none, none, none, none, some (SPv [] (fun _ => fun u l' => ∃ hv_s H_s qv_s q_s, u = .tuple #[.agg #[hv_s, qv_s], .int .i64 (alE (G.1.2.map ab) G.2.2 a p q)] ∧ (gab ((hv_s, H_s), (qv_s, q_s)) = ((alO (G.1.2.map ab) G.2.2 a p q), (alR (G.1.2.map ab) G.2.2 a p q))) ∧ ∃ cK_s, cK_s = gls [((hv_s, H_s), (qv_s, q_s))] ∧ l' = [cK_s]) 11)] om om (dm (fg6 F36) (dm (Sa (fg6 F36)) (dn t0 (df 0 t0 (dr (fun sx hx hF => (VR_ldP (ys := [G.1.1, G.2.1]) V t0 ((S35.grow hx).ob 2 hmb_gS) (ldP_at V) Tryz.underlying30 V om)) (df 1 (Se (fg5 F36)) (dr (fun _ hx _ => (urc t0 (cell_box (v := .int .i64 (a)) ((S35.grow hx).ob 1 hc2) V))) (df 4 (Sg (fg5 F36)) (dr (fun _ hx _ => (urc t0 (cell_box (v := .int .i64 (p)) ((S35.grow hx).ob 1 hc2) V))) (df 5 (Sh (Sa (fg5 F36))) (dr (fun _ hx _ => (urc t0 (cell_box (v := .int .i64 (q)) ((S35.grow hx).ob 1 hc2) V))) (D_call (ts := []) (vs := []) (C0 := fun _ => fun u l' => ∃ hv_s H_s qv_s q_s, u = .tuple #[.agg #[hv_s, qv_s], .int .i64 (alE (G.1.2.map ab) G.2.2 a p q)] ∧ (gab ((hv_s, H_s), (qv_s, q_s)) = ((alO (G.1.2.map ab) G.2.2 a p q), (alR (G.1.2.map ab) G.2.2 a p q))) ∧ ∃ cK_s, cK_s = gls [((hv_s, H_s), (qv_s, q_s))] ∧ l' = [cK_s]) (C := fun u l' => ∃ hv_s H_s qv_s q_s, u = .tuple #[.agg #[hv_s, qv_s], .int .i64 (alE (G.1.2.map ab) G.2.2 a p q)] ∧ (gab ((hv_s, H_s), (qv_s, q_s)) = ((alO (G.1.2.map ab) G.2.2 a p q), (alR (G.1.2.map ab) G.2.2 a p q))) ∧ ∃ cK_s, cK_s = gls [((hv_s, H_s), (qv_s, q_s))] ∧ l' = [cK_s]) V V V Tryz.func99 om V (args4 (Sf t0) (Sd t0) (Sb t0) t0) V V V V (fun sx hx hF => ?_) (fun u45 l45 hu45 => ?_)))))))))))))
 ·refine ((glC (F := fun a_ b_ => .tuple #[.agg #[a_, b_], .int .i64 (alE (G.1.2.map ab) G.2.2 a p q)]) (kAlloc_c (a := a) (p := p) (r := q) ((S35.grow hx).roC Go) ((S35.grow hx).roC Gn) ((S35.grow hx).roC Gr) Zc))).mono ?_
  rintro _ _ ⟨hv_45, H_45, qv_45, q_45, rfl, hg_45, hz⟩
  exact ⟨_, rfl, _, ⟨_, _, _, _, rfl, hg_45, _, rfl, rfl⟩, hz⟩
 obtain ⟨hv_45, H_45, qv_45, q_45, rfl, hg_45, cK_45, hcK_45, hl45⟩ := hu45
 refine dx (.agg #[hv_45, qv_45]) t0 (dx (.int .i64 ((alE (G.1.2.map ab) G.2.2 a p q))) (Sa t0) (D_eff V (ZS_eff S35 V V (fun s46 hJ46 hL46 hF46 => ?_))))
 obtain ⟨ll45, ws45, we45, ⟨hv_45q, H_45q, qv_45q, q_45q, hq45, hg_45r, cK_45r, hcK_45r, hl45r⟩, hm45, k45, e45⟩ := L.all_get hF46; cases hq45; subst hl45r
 replace hJ46 := hJ46.add hL46 (i := 11) V hm45 k45 e45
 have S46 := hJ46.st; clear hF46 hJ46 hL46
 generalize s46.1 = w46 at *
 replace S46 : St w Y [cK_45r, c3, c2, mb_gS] w46 := S46
 have S47 := S46.se [3, 0, 1, 2] [mb_gS, cK_45r, c3, c2]
 obtain ⟨Y48, hP48, hR48, hF48, hB48⟩ := St.call (pre := [mb_gS]) (fr := [cK_45r, c3, c2]) S47
 rw [hmb_gS] at hP48
 refine wc (args3 (Sh (Se t0)) (Sa t0) t0) (ksk_c (G := G) (G2 := ((hv_45, H_45q), (qv_45, q_45q))) (er := (alE (G.1.2.map ab) G.2.2 a p q)) (gl_mk (hR48 _ Go) (hR48 _ Gn) (hR48 _ Gr)) (gl_mk (gl_oaR m1 (hcK_45r ▸ hF48 0 _ V)) (gl_naR m1 (hcK_45r ▸ hF48 0 _ V)) (gl_raR m1 (hcK_45r ▸ hF48 0 _ V))) hP48) (fun _ w49 ⟨e, hP49⟩ => ⟨_, e, ?_⟩)
 obtain ⟨cB_49, hcB_49, hP49⟩ := gen1 hP49
 have S49 := (hB48 _ _ hP49).a1
 refine xsA2 S49 hc3 V V V (Sh (Sg (fg4 F36))) t0 (fun w50 c50 hc50 S50 => W_end (Qo_normal (en (Qg (Qh F36)) fun A51 _ F51 => tk H44 (wp_ret (inb_ret (then_ret (rt1 F51 (rvA (fg4 F51) (S50.ob 2 hc50)) ?_)))))))
 have hA : (alA n (gab G) a p q) = (alE (G.1.2.map ab) G.2.2 a p q) := alA_k c11 Za Za
 rw [hA]
 exact ⟨(if (alE (G.1.2.map ab) G.2.2 a p q) = 0 then ((hv_45, H_45q), (qv_45, q_45q)) else G), [((hv_45, H_45q), (qv_45, q_45q))], rfl, fin_g hg_45r, gm_1, (S50.f2 0 hcB_49 1 hcK_45r)⟩

set_option maxHeartbeats 4000000 in
theorem kdo_c {G : GV} {n : Int} {gS : Nat} {kd a b f p q uu : Int} {w : World} {Y : Nat → Prop} (hg_G : Ro w Y (gls [G])) (hS : St w Y [bx gS 77 #[G.1.1, G.2.1, .int .i64 n]] w) (hsm : SM (G.1.2.map ab)) (hn : 0 ≤ n ∧ n ≤ 32) (hop : (opE (⟨kd, a, b, f, p, q, uu⟩ : OpC)) = 0) :
  Calls Tryz.prog 38 #[.pointer (some ⟨gS, 0, none⟩), .agg #[.int .i64 kd, .int .i64 a, .int .i64 b, .int .i64 f, .int .i64 p, .int .i64 q, .int .u64 uu]] w fun e w' => ∃ Gx Gn, e = .returned (.agg #[.int .i64 (doG n (gab G) (⟨kd, a, b, f, p, q, uu⟩ : OpC)).2.e, .bool (doG n (gab G) (⟨kd, a, b, f, p, q, uu⟩ : OpC)).2.t, .int .u64 (doG n (gab G) (⟨kd, a, b, f, p, q, uu⟩ : OpC)).2.v]) ∧ (gab Gx = (doG n (gab G) (⟨kd, a, b, f, p, q, uu⟩ : OpC)).1) ∧ (gmem Gx G Gn) ∧ St w Y [bx gS 77 #[Gx.1.1, Gx.2.1, .int .i64 n], gls Gn] w' := by
 have Go := gl_o m1 hg_G
 have Gn := gl_n m1 hg_G
 have Gr := gl_r m1 hg_G
 refine ci2 172 Tryz.func38 V (fun A0 _ F0 => ?_)
 obtain ⟨mb_gS, hmb_gS, hS⟩ := gen1 hS
 have bGo := SlN.le (sl_SlN Go.at)
 have bGr := SlN.le (sl_SlN Gr.at)
 refine tb fun _ H1 => (wB (#[.int .i64 (kd), .int .i64 (a), .int .i64 (b), .int .i64 (f), .int .i64 (p), .int .i64 (q), .int .u64 (uu)]) hS (fg1 F0) (fun g2 w2 c2 hc2 S2 => wA (#[.int .i64 0, .bool false, .int .u64 0]) S2 (fun g3 w3 c3 hc3 S3 => W_end (en (Kb F0) fun A4 _ F4 => ta H1 fun _ H5 => (fa 1 (fg1 F4) (rL (.int .i64 (a)) t0 (S3.ob 1 hc2) (vt (W_end (en (Ka (Qb F4)) fun A6 _ F6 => tc H5 fun _ H7 => tb fun _ H8 => (fa 0 (fg2 F6) (rL (.int .i64 (kd)) t0 (S3.ob 1 hc2) (W_end (en (Ka (Qa F6)) fun A9 _ F9 => tk H8 (wp_block (td fun _ H10 => wp_block (td fun _ H11 => wp_block (td fun _ H12 => wp_block (td fun _ H13 => wp_block (td fun _ H14 => wp_block (td fun _ H15 => wp_block (td fun _ H16 => wp_block (td fun _ H17 => wp_block (td fun _ H18 => wp_block (td fun _ H19 => wp_block (td fun _ H20 => td fun _ H21 => tb fun _ H22 => (ve (fg0 F9) V (vt (W_end (en (Ka (Qa F9)) fun A23 _ F23 => tk H22 (cd (fg0 F23) (fun c24 => ?_) fun c24 => ?_))))))))))))))))))))))))))))))
 ·have hpq := op_al hop c24
  refine wp_exit (then_exit (then_exit (inb_hit (tc H19 fun _ H25 => tb fun _ H26 => (vm (fg5 F23) (ra (Sa (fg4 F23)) (S3.ob 1 hc2) ?_))))))
  have S27 := S3.se [2, 0, 1] [mb_gS, c3, c2]
  obtain ⟨Y28, hP28, hR28, hF28, hB28⟩ := St.call (pre := [mb_gS]) (fr := [c3, c2]) S27
  rw [hmb_gS] at hP28
  refine wc (args2 (Sa t0) t0) (ksa_c (G := G) (kd := kd) (a := a) (b := b) (f := f) (p := p) (q := q) (uu := uu) (gl_mk (hR28 _ Go) (hR28 _ Gn) (hR28 _ Gr)) hP28 (by first | with_reducible assumption | exact hsm) Ze Ze) (fun _ w29 ⟨Gx_29, Gn_29, e, hg_29, hm_29, hP29⟩ => ⟨_, e, ?_⟩)
  obtain ⟨cB_29, cK_29, hcB_29, hcK_29, hP29⟩ := gen2 hP29
  have S29 := (hB28 _ _ hP29).a2
  refine xsA2 S29 hc3 V V V (Sc (fg3 F23)) t0 (fun w30 c30 hc30 S30 => W_end (en (Qc F23) fun A31 _ F31 => tk H26 (wp_ret (then_ret (inb_ret (then_ret (inb_ret (then_ret (inb_ret (then_ret (inb_ret (then_ret (inb_ret (then_ret (inb_ret (then_ret (inb_ret (then_ret (inb_ret (then_ret (inb_ret (then_ret (inb_ret (then_ret (rt1 F31 (rvA (fg3 F31) (S30.ob 2 hc30)) ?_)))))))))))))))))))))))))
  have hD := do_1 (mx := n) (g := gab G) (c := (⟨kd, a, b, f, p, q, uu⟩ : OpC)) Zf
  rw [hD]
  exact ⟨Gx_29, Gn_29, rfl, hg_29, hm_29, (S30.f2 0 hcB_29 1 hcK_29)⟩
 refine wp_skip (tc H21 fun _ H33 => tb fun _ H34 => (ve (fg1 F23) V (vt (W_end (en (Ka (Qa F23)) fun A35 _ F35 => tk H34 (cd (fg0 F35) (fun c36 => ?_) fun c36 => ?_))))))
 ·refine wp_exit (then_exit (then_exit (inb_miss V (then_exit (inb_hit (tc H18 fun _ H37 => td fun _ H38 => region_monoS 14 15 [none, none, none, none, none, none, none, none, none, none, none, some (SPv [] (fun _ => fun u l' => ∃ hv_s H_s qv_s q_s, u = .tuple #[.agg #[hv_s, qv_s], .int .i64 (ptE (G.1.2.map ab) G.2.2 [a, b] b f)] ∧ (gab ((hv_s, H_s), (qv_s, q_s)) = ((ldO (G.1.2.map ab) G.2.2 a b f), (ldR (G.1.2.map ab) G.2.2 a b f))) ∧ ∃ cK_s, cK_s = gls [((hv_s, H_s), (qv_s, q_s))] ∧ l' = [cK_s]) 11)] om om (dm (fg6 F35) (dm (Sa (fg6 F35)) (dn t0 (df 0 t0 (dr (fun sx hx hF => (VR_ldP (ys := [G.1.1, G.2.1]) V t0 ((S3.grow hx).ob 2 hmb_gS) (ldP_at V) Tryz.underlying30 V om)) (df 1 (Se (fg5 F35)) (dr (fun _ hx _ => (urc t0 (cell_box (v := .int .i64 (a)) ((S3.grow hx).ob 1 hc2) V))) (df 2 (Sg (fg5 F35)) (dr (fun _ hx _ => (urc t0 (cell_box (v := .int .i64 (b)) ((S3.grow hx).ob 1 hc2) V))) (df 3 (Sh (Sa (fg5 F35))) (dr (fun _ hx _ => (urc t0 (cell_box (v := .int .i64 (f)) ((S3.grow hx).ob 1 hc2) V))) (D_call (ts := []) (vs := []) (C0 := fun _ => fun u l' => ∃ hv_s H_s qv_s q_s, u = .tuple #[.agg #[hv_s, qv_s], .int .i64 (ptE (G.1.2.map ab) G.2.2 [a, b] b f)] ∧ (gab ((hv_s, H_s), (qv_s, q_s)) = ((ldO (G.1.2.map ab) G.2.2 a b f), (ldR (G.1.2.map ab) G.2.2 a b f))) ∧ ∃ cK_s, cK_s = gls [((hv_s, H_s), (qv_s, q_s))] ∧ l' = [cK_s]) (C := fun u l' => ∃ hv_s H_s qv_s q_s, u = .tuple #[.agg #[hv_s, qv_s], .int .i64 (ptE (G.1.2.map ab) G.2.2 [a, b] b f)] ∧ (gab ((hv_s, H_s), (qv_s, q_s)) = ((ldO (G.1.2.map ab) G.2.2 a b f), (ldR (G.1.2.map ab) G.2.2 a b f))) ∧ ∃ cK_s, cK_s = gls [((hv_s, H_s), (qv_s, q_s))] ∧ l' = [cK_s]) V V V Tryz.func66 om V (args4 (Sf t0) (Sd t0) (Sb t0) t0) V V V V (fun sx hx hF => ?_) (fun u39 l39 hu39 => ?_)))))))))))))))))))
  ·refine ((glC (F := fun a_ b_ => .tuple #[.agg #[a_, b_], .int .i64 (ptE (G.1.2.map ab) G.2.2 [a, b] b f)]) (kLoad_c (a := a) (b := b) (f := f) ((S3.grow hx).roC Go) ((S3.grow hx).roC Gn) ((S3.grow hx).roC Gr) Zc))).mono ?_
   rintro _ _ ⟨hv_39, H_39, qv_39, q_39, rfl, hg_39, hz⟩
   exact ⟨_, rfl, _, ⟨_, _, _, _, rfl, hg_39, _, rfl, rfl⟩, hz⟩
  obtain ⟨hv_39, H_39, qv_39, q_39, rfl, hg_39, cK_39, hcK_39, hl39⟩ := hu39
  refine dx (.agg #[hv_39, qv_39]) t0 (dx (.int .i64 ((ptE (G.1.2.map ab) G.2.2 [a, b] b f))) (Sa t0) (D_eff V (ZS_eff S3 V V (fun s40 hJ40 hL40 hF40 => ?_))))
  obtain ⟨ll39, ws39, we39, ⟨hv_39q, H_39q, qv_39q, q_39q, hq39, hg_39r, cK_39r, hcK_39r, hl39r⟩, hm39, k39, e39⟩ := L.all_get hF40; cases hq39; subst hl39r
  replace hJ40 := hJ40.add hL40 (i := 11) V hm39 k39 e39
  have S40 := hJ40.st; clear hF40 hJ40 hL40
  generalize s40.1 = w40 at *
  replace S40 : St w Y [cK_39r, c3, c2, mb_gS] w40 := S40
  have S41 := S40.se [3, 0, 1, 2] [mb_gS, cK_39r, c3, c2]
  obtain ⟨Y42, hP42, hR42, hF42, hB42⟩ := St.call (pre := [mb_gS]) (fr := [cK_39r, c3, c2]) S41
  rw [hmb_gS] at hP42
  refine wc (args3 (Sh (Se t0)) (Sa t0) t0) (ksk_c (G := G) (G2 := ((hv_39, H_39q), (qv_39, q_39q))) (er := (ptE (G.1.2.map ab) G.2.2 [a, b] b f)) (gl_mk (hR42 _ Go) (hR42 _ Gn) (hR42 _ Gr)) (gl_mk (gl_oaR m1 (hcK_39r ▸ hF42 0 _ V)) (gl_naR m1 (hcK_39r ▸ hF42 0 _ V)) (gl_raR m1 (hcK_39r ▸ hF42 0 _ V))) hP42) (fun _ w43 ⟨e, hP43⟩ => ⟨_, e, ?_⟩)
  obtain ⟨cB_43, hcB_43, hP43⟩ := gen1 hP43
  have S43 := (hB42 _ _ hP43).a1
  refine xsA2 S43 hc3 V V V (Sh (Sg (fg4 F35))) t0 (fun w44 c44 hc44 S44 => W_end (Qo_normal (en (Qg (Qh F35)) fun A45 _ F45 => tk H38 (wp_ret (then_ret (inb_ret (then_ret (inb_ret (then_ret (inb_ret (then_ret (inb_ret (then_ret (inb_ret (then_ret (inb_ret (then_ret (inb_ret (then_ret (inb_ret (then_ret (inb_ret (then_ret (rt1 F45 (rvA (fg4 F45) (S44.ob 2 hc44)) ?_))))))))))))))))))))))))
  have hD := do_2 (mx := n) (g := gab G) (c := (⟨kd, a, b, f, p, q, uu⟩ : OpC)) Zf
  rw [hD]
  exact ⟨(if (ptE (G.1.2.map ab) G.2.2 [a, b] b f) = 0 then ((hv_39, H_39q), (qv_39, q_39q)) else G), [((hv_39, H_39q), (qv_39, q_39q))], rfl, fin_g hg_39r, gm_1, (S44.f2 0 hcB_43 1 hcK_39r)⟩
 refine wp_skip (tc H33 fun _ H47 => tb fun _ H48 => (ve (fg2 F35) V (vt (W_end (en (Ka (Qa F35)) fun A49 _ F49 => tk H48 (cd (fg0 F49) (fun c50 => ?_) fun c50 => ?_))))))
 ·refine wp_exit (then_exit (then_exit (inb_miss V (then_exit (inb_miss V (then_exit (inb_hit (tc H17 fun _ H51 => td fun _ H52 => region_monoS 14 15 [none, none, none, none, none, none, none, none, none, none, none, some (SPv [] (fun _ => fun u l' => ∃ hv_s H_s qv_s q_s, u = .tuple #[.agg #[hv_s, qv_s], .int .i64 (ptE (G.1.2.map ab) G.2.2 [a, b] a f)] ∧ (gab ((hv_s, H_s), (qv_s, q_s)) = ((soO (G.1.2.map ab) G.2.2 a f b), (soR (G.1.2.map ab) G.2.2 a f b))) ∧ ∃ cK_s, cK_s = gls [((hv_s, H_s), (qv_s, q_s))] ∧ l' = [cK_s]) 11)] om om (dm (fg7 F49) (dm (Sa (fg7 F49)) (dn t0 (df 0 t0 (dr (fun sx hx hF => (VR_ldP (ys := [G.1.1, G.2.1]) V t0 ((S3.grow hx).ob 2 hmb_gS) (ldP_at V) Tryz.underlying30 V om)) (df 1 (Se (fg6 F49)) (dr (fun _ hx _ => (urc t0 (cell_box (v := .int .i64 (a)) ((S3.grow hx).ob 1 hc2) V))) (df 3 (Sg (fg6 F49)) (dr (fun _ hx _ => (urc t0 (cell_box (v := .int .i64 (f)) ((S3.grow hx).ob 1 hc2) V))) (df 2 (Sh (Sa (fg6 F49))) (dr (fun _ hx _ => (urc t0 (cell_box (v := .int .i64 (b)) ((S3.grow hx).ob 1 hc2) V))) (D_call (ts := []) (vs := []) (C0 := fun _ => fun u l' => ∃ hv_s H_s qv_s q_s, u = .tuple #[.agg #[hv_s, qv_s], .int .i64 (ptE (G.1.2.map ab) G.2.2 [a, b] a f)] ∧ (gab ((hv_s, H_s), (qv_s, q_s)) = ((soO (G.1.2.map ab) G.2.2 a f b), (soR (G.1.2.map ab) G.2.2 a f b))) ∧ ∃ cK_s, cK_s = gls [((hv_s, H_s), (qv_s, q_s))] ∧ l' = [cK_s]) (C := fun u l' => ∃ hv_s H_s qv_s q_s, u = .tuple #[.agg #[hv_s, qv_s], .int .i64 (ptE (G.1.2.map ab) G.2.2 [a, b] a f)] ∧ (gab ((hv_s, H_s), (qv_s, q_s)) = ((soO (G.1.2.map ab) G.2.2 a f b), (soR (G.1.2.map ab) G.2.2 a f b))) ∧ ∃ cK_s, cK_s = gls [((hv_s, H_s), (qv_s, q_s))] ∧ l' = [cK_s]) V V V Tryz.func67 om V (args4 (Sf t0) (Sd t0) (Sb t0) t0) V V V V (fun sx hx hF => ?_) (fun u53 l53 hu53 => ?_)))))))))))))))))))))
  ·refine ((glC (F := fun a_ b_ => .tuple #[.agg #[a_, b_], .int .i64 (ptE (G.1.2.map ab) G.2.2 [a, b] a f)]) (kStore_c (a := a) (f := f) (b := b) ((S3.grow hx).roC Go) ((S3.grow hx).roC Gn) ((S3.grow hx).roC Gr) Zc))).mono ?_
   rintro _ _ ⟨hv_53, H_53, qv_53, q_53, rfl, hg_53, hz⟩
   exact ⟨_, rfl, _, ⟨_, _, _, _, rfl, hg_53, _, rfl, rfl⟩, hz⟩
  obtain ⟨hv_53, H_53, qv_53, q_53, rfl, hg_53, cK_53, hcK_53, hl53⟩ := hu53
  refine dx (.agg #[hv_53, qv_53]) t0 (dx (.int .i64 ((ptE (G.1.2.map ab) G.2.2 [a, b] a f))) (Sa t0) (D_eff V (ZS_eff S3 V V (fun s54 hJ54 hL54 hF54 => ?_))))
  obtain ⟨ll53, ws53, we53, ⟨hv_53q, H_53q, qv_53q, q_53q, hq53, hg_53r, cK_53r, hcK_53r, hl53r⟩, hm53, k53, e53⟩ := L.all_get hF54; cases hq53; subst hl53r
  replace hJ54 := hJ54.add hL54 (i := 11) V hm53 k53 e53
  have S54 := hJ54.st; clear hF54 hJ54 hL54
  generalize s54.1 = w54 at *
  replace S54 : St w Y [cK_53r, c3, c2, mb_gS] w54 := S54
  have S55 := S54.se [3, 0, 1, 2] [mb_gS, cK_53r, c3, c2]
  obtain ⟨Y56, hP56, hR56, hF56, hB56⟩ := St.call (pre := [mb_gS]) (fr := [cK_53r, c3, c2]) S55
  rw [hmb_gS] at hP56
  refine wc (args3 (Sh (Se t0)) (Sa t0) t0) (ksk_c (G := G) (G2 := ((hv_53, H_53q), (qv_53, q_53q))) (er := (ptE (G.1.2.map ab) G.2.2 [a, b] a f)) (gl_mk (hR56 _ Go) (hR56 _ Gn) (hR56 _ Gr)) (gl_mk (gl_oaR m1 (hcK_53r ▸ hF56 0 _ V)) (gl_naR m1 (hcK_53r ▸ hF56 0 _ V)) (gl_raR m1 (hcK_53r ▸ hF56 0 _ V))) hP56) (fun _ w57 ⟨e, hP57⟩ => ⟨_, e, ?_⟩)
  obtain ⟨cB_57, hcB_57, hP57⟩ := gen1 hP57
  have S57 := (hB56 _ _ hP57).a1
  refine xsA2 S57 hc3 V V V (Sh (Sg (fg5 F49))) t0 (fun w58 c58 hc58 S58 => W_end (Qo_normal (en (Qg (Qh F49)) fun A59 _ F59 => tk H52 (wp_ret (then_ret (inb_ret (then_ret (inb_ret (then_ret (inb_ret (then_ret (inb_ret (then_ret (inb_ret (then_ret (inb_ret (then_ret (inb_ret (then_ret (inb_ret (then_ret (rt1 F59 (rvA (fg5 F59) (S58.ob 2 hc58)) ?_))))))))))))))))))))))
  have hD := do_3 (mx := n) (g := gab G) (c := (⟨kd, a, b, f, p, q, uu⟩ : OpC)) Zf
  rw [hD]
  exact ⟨(if (ptE (G.1.2.map ab) G.2.2 [a, b] a f) = 0 then ((hv_53, H_53q), (qv_53, q_53q)) else G), [((hv_53, H_53q), (qv_53, q_53q))], rfl, fin_g hg_53r, gm_1, (S58.f2 0 hcB_57 1 hcK_53r)⟩
 refine wp_skip (tc H47 fun _ H61 => tb fun _ H62 => (ve (fg3 F49) V (vt (W_end (en (Ka (Qa F49)) fun A63 _ F63 => tk H62 (cd (fg0 F63) (fun c64 => ?_) fun c64 => ?_))))))
 ·refine wp_exit (then_exit (then_exit (inb_miss V (then_exit (inb_miss V (then_exit (inb_miss V (then_exit (inb_hit (tc H16 fun _ H65 => region_monoS 13 14 [none, none, none, none, none, none, none, none, some (SPv [] (fun _ => fun u l' => u = .tuple #[.int .u64 (rdV (G.1.2.map ab) G.2.2 a f), .int .i64 (rwE (G.1.2.map ab) G.2.2 [a] a f)] ∧ l' = []) 8)] om om (dm (fg8 F63) (dn t0 (df 0 t0 (dr (fun sx hx hF => (VR_ldP (ys := [G.1.1, G.2.1]) V t0 ((S3.grow hx).ob 2 hmb_gS) (ldP_at V) Tryz.underlying30 V om)) (df 1 (Sd (fg7 F63)) (dr (fun _ hx _ => (urc t0 (cell_box (v := .int .i64 (a)) ((S3.grow hx).ob 1 hc2) V))) (df 3 (Sf (fg7 F63)) (dr (fun _ hx _ => (urc t0 (cell_box (v := .int .i64 (f)) ((S3.grow hx).ob 1 hc2) V))) (D_call (ts := []) (vs := []) (C0 := fun _ => fun u l' => u = .tuple #[.int .u64 (rdV (G.1.2.map ab) G.2.2 a f), .int .i64 (rwE (G.1.2.map ab) G.2.2 [a] a f)] ∧ l' = []) (C := fun u l' => u = .tuple #[.int .u64 (rdV (G.1.2.map ab) G.2.2 a f), .int .i64 (rwE (G.1.2.map ab) G.2.2 [a] a f)] ∧ l' = []) V V V Tryz.func68 om V (args3 (Sd t0) (Sb t0) t0) V V V V (fun sx hx hF => ?_) (fun u66 l66 hu66 => ?_))))))))))))))))))))
  ·refine (kRd_c (a := a) (f := f) ((S3.grow hx).roC Go) ((S3.grow hx).roC Gn) ((S3.grow hx).roC Gr) ).mono ?_
   rintro _ _ ⟨rfl, hz⟩
   exact ⟨_, rfl, _, ⟨rfl, rfl⟩, hz⟩
  obtain ⟨rfl, hl66⟩ := hu66
  refine dm t0 (dx (.int .u64 ((rdV (G.1.2.map ab) G.2.2 a f))) t0 (dx (.int .i64 ((rwE (G.1.2.map ab) G.2.2 [a] a f))) (Sa t0) (df 2 (Sh (Sd (fg6 F63))) (D_eff V (ZS_eff S3 V V (fun s67 hJ67 hL67 hF67 => ?_))))))
  obtain ⟨ll66, ws66, we66, ⟨hq66, hl66r⟩, hm66, k66, e66⟩ := L.all_get hF67; cases hq66; subst hl66r
  replace hJ67 := hJ67.add hL67 (i := 8) V hm66 k66 e66
  have S67 := hJ67.st; clear hF67 hJ67 hL67
  generalize s67.1 = w67 at *
  replace S67 : St w Y [c3, c2, mb_gS] w67 := S67
  refine xsC0 (zs' := #[.int .i64 0, .bool false, .int .u64 ((rdV (G.1.2.map ab) G.2.2 a f))]) S67 hc3 V V V t0 (Sb t0) Zd (fun w68 c68 hc68 S68 => fa 0 (Sh (Se (fg6 F63))) (xsC0 (zs' := #[.int .i64 ((rwE (G.1.2.map ab) G.2.2 [a] a f)), .bool false, .int .u64 ((rdV (G.1.2.map ab) G.2.2 a f))]) S68 hc68 V V V t0 (Sb t0) Zd (fun w69 c69 hc69 S69 => W_end (Qo_normal (en (Qf (Qh F63)) fun A70 _ F70 => ?_)))))
  have S71 := S69.se [0, 2] [c69, mb_gS]
  refine tk H65 (wp_exit (inb_miss V (then_exit (inb_miss V (then_exit (inb_miss V (then_exit (inb_miss V (then_exit (inb_miss V (then_exit (inb_miss V (then_exit (inb_hit (ta H7 fun _ H72 => (ra (fg6 F70) (S71.ob 0 hc69) (xsA0 S71 hc69 V V V (Sa (fg6 F70)) t0 (fun w73 c73 hc73 S73 => W_end (en (Qa F70) fun A74 _ F74 => tk H72 (wp_ret (rt1 F74 (rvA (fg6 F74) (S73.ob 0 hc73)) ?_)))))))))))))))))))))
  obtain ⟨c75, hc75, S75⟩ := gen1 (gl_mt S73)
  have hD := do_4 (mx := n) (g := gab G) (c := (⟨kd, a, b, f, p, q, uu⟩ : OpC)) Zf
  rw [hD]
  exact ⟨G, [], rfl, rfl, gm_0, (S75.f2 2 hmb_gS 0 hc75)⟩
 refine wp_skip (tc H61 fun _ H76 => tb fun _ H77 => (ve (fg4 F63) V (vt (W_end (en (Ka (Qa F63)) fun A78 _ F78 => tk H77 (cd (fg0 F78) (fun c79 => ?_) fun c79 => ?_))))))
 ·refine wp_exit (then_exit (then_exit (inb_miss V (then_exit (inb_miss V (then_exit (inb_miss V (then_exit (inb_miss V (then_exit (inb_hit (tc H15 fun _ H80 => td fun _ H81 => region_monoS 14 15 [none, none, none, none, none, none, none, none, none, none, none, some (SPv [] (fun _ => fun u l' => ∃ hv_s H_s qv_s q_s, u = .tuple #[.agg #[hv_s, qv_s], .int .i64 (rwE (G.1.2.map ab) G.2.2 [a] a f)] ∧ (gab ((hv_s, H_s), (qv_s, q_s)) = ((wrO (G.1.2.map ab) G.2.2 a f uu), (wrR (G.1.2.map ab) G.2.2 a f))) ∧ ∃ cK_s, cK_s = gls [((hv_s, H_s), (qv_s, q_s))] ∧ l' = [cK_s]) 11)] om om (dm (fg9 F78) (dm (Sa (fg9 F78)) (dn t0 (df 0 t0 (dr (fun sx hx hF => (VR_ldP (ys := [G.1.1, G.2.1]) V t0 ((S3.grow hx).ob 2 hmb_gS) (ldP_at V) Tryz.underlying30 V om)) (df 1 (Se (fg8 F78)) (dr (fun _ hx _ => (urc t0 (cell_box (v := .int .i64 (a)) ((S3.grow hx).ob 1 hc2) V))) (df 3 (Sg (fg8 F78)) (dr (fun _ hx _ => (urc t0 (cell_box (v := .int .i64 (f)) ((S3.grow hx).ob 1 hc2) V))) (df 6 (Sh (Sa (fg8 F78))) (dr (fun _ hx _ => (urc t0 (cell_box (v := .int .u64 (uu)) ((S3.grow hx).ob 1 hc2) V))) (D_call (ts := []) (vs := []) (C0 := fun _ => fun u l' => ∃ hv_s H_s qv_s q_s, u = .tuple #[.agg #[hv_s, qv_s], .int .i64 (rwE (G.1.2.map ab) G.2.2 [a] a f)] ∧ (gab ((hv_s, H_s), (qv_s, q_s)) = ((wrO (G.1.2.map ab) G.2.2 a f uu), (wrR (G.1.2.map ab) G.2.2 a f))) ∧ ∃ cK_s, cK_s = gls [((hv_s, H_s), (qv_s, q_s))] ∧ l' = [cK_s]) (C := fun u l' => ∃ hv_s H_s qv_s q_s, u = .tuple #[.agg #[hv_s, qv_s], .int .i64 (rwE (G.1.2.map ab) G.2.2 [a] a f)] ∧ (gab ((hv_s, H_s), (qv_s, q_s)) = ((wrO (G.1.2.map ab) G.2.2 a f uu), (wrR (G.1.2.map ab) G.2.2 a f))) ∧ ∃ cK_s, cK_s = gls [((hv_s, H_s), (qv_s, q_s))] ∧ l' = [cK_s]) V V V Tryz.func69 om V (args4 (Sf t0) (Sd t0) (Sb t0) t0) V V V V (fun sx hx hF => ?_) (fun u82 l82 hu82 => ?_)))))))))))))))))))))))))
  ·refine ((glC (F := fun a_ b_ => .tuple #[.agg #[a_, b_], .int .i64 (rwE (G.1.2.map ab) G.2.2 [a] a f)]) (kWrite_c (a := a) (f := f) (x := uu) ((S3.grow hx).roC Go) ((S3.grow hx).roC Gn) ((S3.grow hx).roC Gr) Zc))).mono ?_
   rintro _ _ ⟨hv_82, H_82, qv_82, q_82, rfl, hg_82, hz⟩
   exact ⟨_, rfl, _, ⟨_, _, _, _, rfl, hg_82, _, rfl, rfl⟩, hz⟩
  obtain ⟨hv_82, H_82, qv_82, q_82, rfl, hg_82, cK_82, hcK_82, hl82⟩ := hu82
  refine dx (.agg #[hv_82, qv_82]) t0 (dx (.int .i64 ((rwE (G.1.2.map ab) G.2.2 [a] a f))) (Sa t0) (D_eff V (ZS_eff S3 V V (fun s83 hJ83 hL83 hF83 => ?_))))
  obtain ⟨ll82, ws82, we82, ⟨hv_82q, H_82q, qv_82q, q_82q, hq82, hg_82r, cK_82r, hcK_82r, hl82r⟩, hm82, k82, e82⟩ := L.all_get hF83; cases hq82; subst hl82r
  replace hJ83 := hJ83.add hL83 (i := 11) V hm82 k82 e82
  have S83 := hJ83.st; clear hF83 hJ83 hL83
  generalize s83.1 = w83 at *
  replace S83 : St w Y [cK_82r, c3, c2, mb_gS] w83 := S83
  have S84 := S83.se [3, 0, 1, 2] [mb_gS, cK_82r, c3, c2]
  obtain ⟨Y85, hP85, hR85, hF85, hB85⟩ := St.call (pre := [mb_gS]) (fr := [cK_82r, c3, c2]) S84
  rw [hmb_gS] at hP85
  refine wc (args3 (Sh (Se t0)) (Sa t0) t0) (ksk_c (G := G) (G2 := ((hv_82, H_82q), (qv_82, q_82q))) (er := (rwE (G.1.2.map ab) G.2.2 [a] a f)) (gl_mk (hR85 _ Go) (hR85 _ Gn) (hR85 _ Gr)) (gl_mk (gl_oaR m1 (hcK_82r ▸ hF85 0 _ V)) (gl_naR m1 (hcK_82r ▸ hF85 0 _ V)) (gl_raR m1 (hcK_82r ▸ hF85 0 _ V))) hP85) (fun _ w86 ⟨e, hP86⟩ => ⟨_, e, ?_⟩)
  obtain ⟨cB_86, hcB_86, hP86⟩ := gen1 hP86
  have S86 := (hB85 _ _ hP86).a1
  refine xsA2 S86 hc3 V V V (Sh (Sg (fg7 F78))) t0 (fun w87 c87 hc87 S87 => W_end (Qo_normal (en (Qg (Qh F78)) fun A88 _ F88 => tk H81 (wp_ret (then_ret (inb_ret (then_ret (inb_ret (then_ret (inb_ret (then_ret (inb_ret (then_ret (inb_ret (then_ret (inb_ret (then_ret (rt1 F88 (rvA (fg7 F88) (S87.ob 2 hc87)) ?_))))))))))))))))))
  have hD := do_5 (mx := n) (g := gab G) (c := (⟨kd, a, b, f, p, q, uu⟩ : OpC)) Zf
  rw [hD]
  exact ⟨(if (rwE (G.1.2.map ab) G.2.2 [a] a f) = 0 then ((hv_82, H_82q), (qv_82, q_82q)) else G), [((hv_82, H_82q), (qv_82, q_82q))], rfl, fin_g hg_82r, gm_1, (S87.f2 0 hcB_86 1 hcK_82r)⟩
 refine wp_skip (tc H76 fun _ H90 => tb fun _ H91 => (ve (fg5 F78) V (vt (W_end (en (Ka (Qa F78)) fun A92 _ F92 => tk H91 (cd (fg0 F92) (fun c93 => ?_) fun c93 => ?_))))))
 ·refine wp_exit (then_exit (then_exit (inb_miss V (then_exit (inb_miss V (then_exit (inb_miss V (then_exit (inb_miss V (then_exit (inb_miss V (then_exit (inb_hit (tc H14 fun _ H94 => td fun _ H95 => region_monoS 12 13 [none, none, none, none, none, none, none, none, none, some (SPv [] (fun _ => fun u l' => ∃ hv_s H_s qv_s q_s, u = .tuple #[.agg #[hv_s, qv_s], .int .i64 (ckd (G.1.2.map ab) G.2.2 [a, b])] ∧ (gab ((hv_s, H_s), (qv_s, q_s)) = ((kpO (G.1.2.map ab) G.2.2 [a, b]), (mvR (G.1.2.map ab) G.2.2 a b))) ∧ ∃ cK_s, cK_s = gls [((hv_s, H_s), (qv_s, q_s))] ∧ l' = [cK_s]) 9)] om om (dm (fg10 F92) (dm (Sa (fg10 F92)) (dn t0 (df 0 t0 (dr (fun sx hx hF => (VR_ldP (ys := [G.1.1, G.2.1]) V t0 ((S3.grow hx).ob 2 hmb_gS) (ldP_at V) Tryz.underlying30 V om)) (df 1 (Se (fg9 F92)) (dr (fun _ hx _ => (urc t0 (cell_box (v := .int .i64 (a)) ((S3.grow hx).ob 1 hc2) V))) (df 2 (Sg (fg9 F92)) (dr (fun _ hx _ => (urc t0 (cell_box (v := .int .i64 (b)) ((S3.grow hx).ob 1 hc2) V))) (D_call (ts := []) (vs := []) (C0 := fun _ => fun u l' => ∃ hv_s H_s qv_s q_s, u = .tuple #[.agg #[hv_s, qv_s], .int .i64 (ckd (G.1.2.map ab) G.2.2 [a, b])] ∧ (gab ((hv_s, H_s), (qv_s, q_s)) = ((kpO (G.1.2.map ab) G.2.2 [a, b]), (mvR (G.1.2.map ab) G.2.2 a b))) ∧ ∃ cK_s, cK_s = gls [((hv_s, H_s), (qv_s, q_s))] ∧ l' = [cK_s]) (C := fun u l' => ∃ hv_s H_s qv_s q_s, u = .tuple #[.agg #[hv_s, qv_s], .int .i64 (ckd (G.1.2.map ab) G.2.2 [a, b])] ∧ (gab ((hv_s, H_s), (qv_s, q_s)) = ((kpO (G.1.2.map ab) G.2.2 [a, b]), (mvR (G.1.2.map ab) G.2.2 a b))) ∧ ∃ cK_s, cK_s = gls [((hv_s, H_s), (qv_s, q_s))] ∧ l' = [cK_s]) V V V Tryz.func70 om V (args3 (Sd t0) (Sb t0) t0) V V V V (fun sx hx hF => ?_) (fun u96 l96 hu96 => ?_)))))))))))))))))))))))))
  ·refine ((glC (F := fun a_ b_ => .tuple #[.agg #[a_, b_], .int .i64 (ckd (G.1.2.map ab) G.2.2 [a, b])]) (kMove_c (a := a) (b := b) ((S3.grow hx).roC Go) ((S3.grow hx).roC Gn) ((S3.grow hx).roC Gr) Zc))).mono ?_
   rintro _ _ ⟨hv_96, H_96, qv_96, q_96, rfl, hg_96, hz⟩
   exact ⟨_, rfl, _, ⟨_, _, _, _, rfl, hg_96, _, rfl, rfl⟩, hz⟩
  obtain ⟨hv_96, H_96, qv_96, q_96, rfl, hg_96, cK_96, hcK_96, hl96⟩ := hu96
  refine dx (.agg #[hv_96, qv_96]) t0 (dx (.int .i64 ((ckd (G.1.2.map ab) G.2.2 [a, b]))) (Sa t0) (D_eff V (ZS_eff S3 V V (fun s97 hJ97 hL97 hF97 => ?_))))
  obtain ⟨ll96, ws96, we96, ⟨hv_96q, H_96q, qv_96q, q_96q, hq96, hg_96r, cK_96r, hcK_96r, hl96r⟩, hm96, k96, e96⟩ := L.all_get hF97; cases hq96; subst hl96r
  replace hJ97 := hJ97.add hL97 (i := 9) V hm96 k96 e96
  have S97 := hJ97.st; clear hF97 hJ97 hL97
  generalize s97.1 = w97 at *
  replace S97 : St w Y [cK_96r, c3, c2, mb_gS] w97 := S97
  have S98 := S97.se [3, 0, 1, 2] [mb_gS, cK_96r, c3, c2]
  obtain ⟨Y99, hP99, hR99, hF99, hB99⟩ := St.call (pre := [mb_gS]) (fr := [cK_96r, c3, c2]) S98
  rw [hmb_gS] at hP99
  refine wc (args3 (Sh (Sc t0)) (Sa t0) t0) (ksk_c (G := G) (G2 := ((hv_96, H_96q), (qv_96, q_96q))) (er := (ckd (G.1.2.map ab) G.2.2 [a, b])) (gl_mk (hR99 _ Go) (hR99 _ Gn) (hR99 _ Gr)) (gl_mk (gl_oaR m1 (hcK_96r ▸ hF99 0 _ V)) (gl_naR m1 (hcK_96r ▸ hF99 0 _ V)) (gl_raR m1 (hcK_96r ▸ hF99 0 _ V))) hP99) (fun _ w100 ⟨e, hP100⟩ => ⟨_, e, ?_⟩)
  obtain ⟨cB_100, hcB_100, hP100⟩ := gen1 hP100
  have S100 := (hB99 _ _ hP100).a1
  refine xsA2 S100 hc3 V V V (Sh (Se (fg8 F92))) t0 (fun w101 c101 hc101 S101 => W_end (Qo_normal (en (Qe (Qh F92)) fun A102 _ F102 => tk H95 (wp_ret (then_ret (inb_ret (then_ret (inb_ret (then_ret (inb_ret (then_ret (inb_ret (then_ret (inb_ret (then_ret (rt1 F102 (rvA (fg8 F102) (S101.ob 2 hc101)) ?_))))))))))))))))
  have hD := do_6 (mx := n) (g := gab G) (c := (⟨kd, a, b, f, p, q, uu⟩ : OpC)) Zf
  rw [hD]
  exact ⟨(if (ckd (G.1.2.map ab) G.2.2 [a, b]) = 0 then ((hv_96, H_96q), (qv_96, q_96q)) else G), [((hv_96, H_96q), (qv_96, q_96q))], rfl, fin_g hg_96r, gm_1, (S101.f2 0 hcB_100 1 hcK_96r)⟩
 refine wp_skip (tc H90 fun _ H104 => tb fun _ H105 => (ve (fg6 F92) V (vt (W_end (en (Ka (Qa F92)) fun A106 _ F106 => tk H105 (cd (fg0 F106) (fun c107 => ?_) fun c107 => ?_))))))
 ·refine wp_exit (then_exit (then_exit (inb_miss V (then_exit (inb_miss V (then_exit (inb_miss V (then_exit (inb_miss V (then_exit (inb_miss V (then_exit (inb_miss V (then_exit (inb_hit (tc H13 fun _ H108 => td fun _ H109 => region_monoS 10 11 [none, none, none, none, none, none, none, some (SPv [] (fun _ => fun u l' => ∃ hv_s H_s qv_s q_s, u = .tuple #[.agg #[hv_s, qv_s], .int .i64 (ckd (G.1.2.map ab) G.2.2 [a])] ∧ (gab ((hv_s, H_s), (qv_s, q_s)) = ((kpO (G.1.2.map ab) G.2.2 [a]), (clR (G.1.2.map ab) G.2.2 a))) ∧ ∃ cK_s, cK_s = gls [((hv_s, H_s), (qv_s, q_s))] ∧ l' = [cK_s]) 7)] om om (dm (fg11 F106) (dm (Sa (fg11 F106)) (dn t0 (df 0 t0 (dr (fun sx hx hF => (VR_ldP (ys := [G.1.1, G.2.1]) V t0 ((S3.grow hx).ob 2 hmb_gS) (ldP_at V) Tryz.underlying30 V om)) (df 1 (Se (fg10 F106)) (dr (fun _ hx _ => (urc t0 (cell_box (v := .int .i64 (a)) ((S3.grow hx).ob 1 hc2) V))) (D_call (ts := []) (vs := []) (C0 := fun _ => fun u l' => ∃ hv_s H_s qv_s q_s, u = .tuple #[.agg #[hv_s, qv_s], .int .i64 (ckd (G.1.2.map ab) G.2.2 [a])] ∧ (gab ((hv_s, H_s), (qv_s, q_s)) = ((kpO (G.1.2.map ab) G.2.2 [a]), (clR (G.1.2.map ab) G.2.2 a))) ∧ ∃ cK_s, cK_s = gls [((hv_s, H_s), (qv_s, q_s))] ∧ l' = [cK_s]) (C := fun u l' => ∃ hv_s H_s qv_s q_s, u = .tuple #[.agg #[hv_s, qv_s], .int .i64 (ckd (G.1.2.map ab) G.2.2 [a])] ∧ (gab ((hv_s, H_s), (qv_s, q_s)) = ((kpO (G.1.2.map ab) G.2.2 [a]), (clR (G.1.2.map ab) G.2.2 a))) ∧ ∃ cK_s, cK_s = gls [((hv_s, H_s), (qv_s, q_s))] ∧ l' = [cK_s]) V V V Tryz.func71 om V (args2 (Sb t0) t0) V V V V (fun sx hx hF => ?_) (fun u110 l110 hu110 => ?_)))))))))))))))))))))))))
  ·refine ((glC (F := fun a_ b_ => .tuple #[.agg #[a_, b_], .int .i64 (ckd (G.1.2.map ab) G.2.2 [a])]) (kClear_c (a := a) ((S3.grow hx).roC Go) ((S3.grow hx).roC Gn) ((S3.grow hx).roC Gr) Zc))).mono ?_
   rintro _ _ ⟨hv_110, H_110, qv_110, q_110, rfl, hg_110, hz⟩
   exact ⟨_, rfl, _, ⟨_, _, _, _, rfl, hg_110, _, rfl, rfl⟩, hz⟩
  obtain ⟨hv_110, H_110, qv_110, q_110, rfl, hg_110, cK_110, hcK_110, hl110⟩ := hu110
  refine dx (.agg #[hv_110, qv_110]) t0 (dx (.int .i64 ((ckd (G.1.2.map ab) G.2.2 [a]))) (Sa t0) (D_eff V (ZS_eff S3 V V (fun s111 hJ111 hL111 hF111 => ?_))))
  obtain ⟨ll110, ws110, we110, ⟨hv_110q, H_110q, qv_110q, q_110q, hq110, hg_110r, cK_110r, hcK_110r, hl110r⟩, hm110, k110, e110⟩ := L.all_get hF111; cases hq110; subst hl110r
  replace hJ111 := hJ111.add hL111 (i := 7) V hm110 k110 e110
  have S111 := hJ111.st; clear hF111 hJ111 hL111
  generalize s111.1 = w111 at *
  replace S111 : St w Y [cK_110r, c3, c2, mb_gS] w111 := S111
  have S112 := S111.se [3, 0, 1, 2] [mb_gS, cK_110r, c3, c2]
  obtain ⟨Y113, hP113, hR113, hF113, hB113⟩ := St.call (pre := [mb_gS]) (fr := [cK_110r, c3, c2]) S112
  rw [hmb_gS] at hP113
  refine wc (args3 (Sh (Sa t0)) (Sa t0) t0) (ksk_c (G := G) (G2 := ((hv_110, H_110q), (qv_110, q_110q))) (er := (ckd (G.1.2.map ab) G.2.2 [a])) (gl_mk (hR113 _ Go) (hR113 _ Gn) (hR113 _ Gr)) (gl_mk (gl_oaR m1 (hcK_110r ▸ hF113 0 _ V)) (gl_naR m1 (hcK_110r ▸ hF113 0 _ V)) (gl_raR m1 (hcK_110r ▸ hF113 0 _ V))) hP113) (fun _ w114 ⟨e, hP114⟩ => ⟨_, e, ?_⟩)
  obtain ⟨cB_114, hcB_114, hP114⟩ := gen1 hP114
  have S114 := (hB113 _ _ hP114).a1
  refine xsA2 S114 hc3 V V V (Sh (Sc (fg9 F106))) t0 (fun w115 c115 hc115 S115 => W_end (Qo_normal (en (Qc (Qh F106)) fun A116 _ F116 => tk H109 (wp_ret (then_ret (inb_ret (then_ret (inb_ret (then_ret (inb_ret (then_ret (inb_ret (then_ret (rt1 F116 (rvA (fg9 F116) (S115.ob 2 hc115)) ?_))))))))))))))
  have hD := do_7 (mx := n) (g := gab G) (c := (⟨kd, a, b, f, p, q, uu⟩ : OpC)) Zf
  rw [hD]
  exact ⟨(if (ckd (G.1.2.map ab) G.2.2 [a]) = 0 then ((hv_110, H_110q), (qv_110, q_110q)) else G), [((hv_110, H_110q), (qv_110, q_110q))], rfl, fin_g hg_110r, gm_1, (S115.f2 0 hcB_114 1 hcK_110r)⟩
 refine wp_skip (tc H104 fun _ H118 => tb fun _ H119 => (ve (fg7 F106) V (vt (W_end (en (Ka (Qa F106)) fun A120 _ F120 => tk H119 (cd (fg0 F120) (fun c121 => ?_) fun c121 => ?_))))))
 ·refine wp_exit (then_exit (then_exit (inb_miss V (then_exit (inb_miss V (then_exit (inb_miss V (then_exit (inb_miss V (then_exit (inb_miss V (then_exit (inb_miss V (then_exit (inb_miss V (then_exit (inb_hit (tk H12 (region_in (fa 2 (fg11 F120) (rL (.int .i64 (b)) t0 (S3.ob 1 hc2) (vt (W_end (en (Ka (Qb (fx9 F120))) fun A122 _ F122 => inb_n (tc H11 fun _ H123 => td fun _ H124 => region_monoS 12 13 [none, none, none, none, none, none, none, some (SPv [] (fun _ => fun u l' => u = .tuple #[.bool (alB (G.1.2.map ab) G.2.2 a b), .int .i64 (ckd (G.1.2.map ab) G.2.2 [a, b])] ∧ l' = []) 7)] om om (dm (fg12 F122) (dn t0 (df 0 t0 (dr (fun sx hx hF => (VR_ldP (ys := [G.1.1, G.2.1]) V t0 ((S3.grow hx).ob 2 hmb_gS) (ldP_at V) Tryz.underlying30 V om)) (df 1 (Sd (fg11 F122)) (dr (fun _ hx _ => (urc t0 (cell_box (v := .int .i64 (a)) ((S3.grow hx).ob 1 hc2) V))) (dm (Sf (fg0 F122)) (D_call (ts := []) (vs := []) (C0 := fun _ => fun u l' => u = .tuple #[.bool (alB (G.1.2.map ab) G.2.2 a b), .int .i64 (ckd (G.1.2.map ab) G.2.2 [a, b])] ∧ l' = []) (C := fun u l' => u = .tuple #[.bool (alB (G.1.2.map ab) G.2.2 a b), .int .i64 (ckd (G.1.2.map ab) G.2.2 [a, b])] ∧ l' = []) V V V Tryz.func72 om V (args3 (Sc t0) (Sa t0) t0) V V V V (fun sx hx hF => ?_) (fun u125 l125 hu125 => ?_))))))))))))))))))))))))))))))))))
  ·refine (kAl_c (a := a) (b := b) ((S3.grow hx).roC Go) ((S3.grow hx).roC Gn) ((S3.grow hx).roC Gr) ).mono ?_
   rintro _ _ ⟨rfl, hz⟩
   exact ⟨_, rfl, _, ⟨rfl, rfl⟩, hz⟩
  obtain ⟨rfl, hl125⟩ := hu125
  refine dm t0 (dx (.bool ((alB (G.1.2.map ab) G.2.2 a b))) t0 (dx (.int .i64 ((ckd (G.1.2.map ab) G.2.2 [a, b]))) (Sa t0) (df 1 (Sh (Sc (fg10 F122))) (D_eff V (ZS_eff S3 V V (fun s126 hJ126 hL126 hF126 => ?_))))))
  obtain ⟨ll125, ws125, we125, ⟨hq125, hl125r⟩, hm125, k125, e125⟩ := L.all_get hF126; cases hq125; subst hl125r
  replace hJ126 := hJ126.add hL126 (i := 7) V hm125 k125 e125
  have S126 := hJ126.st; clear hF126 hJ126 hL126
  generalize s126.1 = w126 at *
  replace S126 : St w Y [c3, c2, mb_gS] w126 := S126
  refine xsC0 (zs' := #[.int .i64 0, .bool ((alB (G.1.2.map ab) G.2.2 a b)), .int .u64 0]) S126 hc3 V V V t0 (Sb t0) Zd (fun w127 c127 hc127 S127 => fa 0 (Sh (Sd (fg10 F122))) (xsC0 (zs' := #[.int .i64 ((ckd (G.1.2.map ab) G.2.2 [a, b])), .bool ((alB (G.1.2.map ab) G.2.2 a b)), .int .u64 0]) S127 hc127 V V V t0 (Sb t0) Zd (fun w128 c128 hc128 S128 => W_end (Qo_normal (en (Qe (Qh F122)) fun A129 _ F129 => ta H124 fun _ H130 => (vm (fg12 F129) (fa 1 (Sa (fg11 F129)) (rL (.int .i64 (a)) t0 (S128.ob 1 hc2) (wc (args2 (Sb t0) t0) (krg_c (gS := gS) (n := n) (G := G) (a := a) (gl_mk (S128.roC Go) (S128.roC Gn) (S128.roC Gr)) (S128.cC 2 hmb_gS)) (C0 S128 fun w131 S131 => vm t0 (vx (.int .i64 ((rgX (G.1.2.map ab) G.2.2 a))) t0 (vx (.int .i64 ((ckd (G.1.2.map ab) G.2.2 [a, a]))) (Sa t0) (va (Sa t0) (va (Sa t0) (W_end (en (Kb (Qg F129)) fun A132 _ F132 => ta H130 fun _ H133 => (vm (fg0 F132) (ve t0 V (W_split V V (V_mov V t0) (fun c134 => ?_) (fun c134 => ?_))))))))))))))))))))
  ·refine wg V t0 (ufa 0 (Sc (fg13 F132))) (wq V (Sa t0) (urL (.int .i64 (kd)) t0 (S131.ob 1 hc2)) (wg V (Sb t0) (uve t0 V) (vT (Sc t0) t0 (W_end (en (Ka (Qf F132)) fun A135 _ F135 => ?_)))))
   have S136 := S131.se [0, 2] [c128, mb_gS]
   refine tk H133 (cond_not (fg0 F135) (by rw [decide_eq_false_iff_not]; omega) (wp_skip (tk H123 (wp_exit (inb_miss V (then_exit (inb_hit (ta H7 fun _ H137 => (ra (fg13 F135) (S136.ob 0 hc128) (xsA0 S136 hc128 V V V (Sa (fg13 F135)) t0 (fun w138 c138 hc138 S138 => W_end (en (Qa F135) fun A139 _ F139 => tk H137 (wp_ret (rt1 F139 (rvA (fg13 F139) (S138.ob 0 hc138)) ?_))))))))))))))
   obtain ⟨c140, hc140, S140⟩ := gen1 (gl_mt S138)
   have hD := do_8 (mx := n) (g := gab G) (c := (⟨kd, a, b, f, p, q, uu⟩ : OpC)) Zf
   rw [hD]
   exact ⟨G, [], rfl, rfl, gm_0, (S140.f2 2 hmb_gS 0 hc140)⟩
  refine xo V t0 (xo V (Sa t0) (xo V (Sb t0) (vF (Sc t0) V (W_end (en (Ka (Qf F132)) fun A141 _ F141 => ?_)))))
  have S142 := S131.se [0, 2] [c128, mb_gS]
  refine tk H133 (cond_f (fg0 F141) (wp_skip (tk H123 (wp_exit (inb_miss V (then_exit (inb_hit (ta H7 fun _ H143 => (ra (fg13 F141) (S142.ob 0 hc128) (xsA0 S142 hc128 V V V (Sa (fg13 F141)) t0 (fun w144 c144 hc144 S144 => W_end (en (Qa F141) fun A145 _ F145 => tk H143 (wp_ret (rt1 F145 (rvA (fg13 F145) (S144.ob 0 hc144)) ?_))))))))))))))
  obtain ⟨c146, hc146, S146⟩ := gen1 (gl_mt S144)
  have hD := do_8 (mx := n) (g := gab G) (c := (⟨kd, a, b, f, p, q, uu⟩ : OpC)) Zf
  rw [hD]
  exact ⟨G, [], rfl, rfl, gm_0, (S146.f2 2 hmb_gS 0 hc146)⟩
 refine wp_skip (tc H118 fun _ H147 => tb fun _ H148 => (ve (fg8 F120) V (vt (W_end (en (Ka (Qa F120)) fun A149 _ F149 => tk H148 (cd (fg0 F149) (fun c150 => ?_) fun c150 => ?_))))))
 ·refine wp_exit (then_exit (then_exit (inb_miss V (then_exit (inb_miss V (then_exit (inb_miss V (then_exit (inb_miss V (then_exit (inb_miss V (then_exit (inb_miss V (then_exit (inb_miss V (then_exit (inb_miss V (then_exit (inb_hit (tc H11 fun _ H151 => td fun _ H152 => region_monoS 12 13 [none, none, none, none, none, none, none, some (SPv [] (fun _ => fun u l' => u = .tuple #[.bool (alB (G.1.2.map ab) G.2.2 a a), .int .i64 (ckd (G.1.2.map ab) G.2.2 [a, a])] ∧ l' = []) 7)] om om (dm (fg13 F149) (dn t0 (df 0 t0 (dr (fun sx hx hF => (VR_ldP (ys := [G.1.1, G.2.1]) V t0 ((S3.grow hx).ob 2 hmb_gS) (ldP_at V) Tryz.underlying30 V om)) (df 1 (Sd (fg12 F149)) (dr (fun _ hx _ => (urc t0 (cell_box (v := .int .i64 (a)) ((S3.grow hx).ob 1 hc2) V))) (dm (Sf (fg10 F149)) (D_call (ts := []) (vs := []) (C0 := fun _ => fun u l' => u = .tuple #[.bool (alB (G.1.2.map ab) G.2.2 a a), .int .i64 (ckd (G.1.2.map ab) G.2.2 [a, a])] ∧ l' = []) (C := fun u l' => u = .tuple #[.bool (alB (G.1.2.map ab) G.2.2 a a), .int .i64 (ckd (G.1.2.map ab) G.2.2 [a, a])] ∧ l' = []) V V V Tryz.func72 om V (args3 (Sc t0) (Sa t0) t0) V V V V (fun sx hx hF => ?_) (fun u153 l153 hu153 => ?_)))))))))))))))))))))))))))))
  ·refine (kAl_c (a := a) (b := a) ((S3.grow hx).roC Go) ((S3.grow hx).roC Gn) ((S3.grow hx).roC Gr) ).mono ?_
   rintro _ _ ⟨rfl, hz⟩
   exact ⟨_, rfl, _, ⟨rfl, rfl⟩, hz⟩
  obtain ⟨rfl, hl153⟩ := hu153
  refine dm t0 (dx (.bool ((alB (G.1.2.map ab) G.2.2 a a))) t0 (dx (.int .i64 ((ckd (G.1.2.map ab) G.2.2 [a, a]))) (Sa t0) (df 1 (Sh (Sc (fg11 F149))) (D_eff V (ZS_eff S3 V V (fun s154 hJ154 hL154 hF154 => ?_))))))
  obtain ⟨ll153, ws153, we153, ⟨hq153, hl153r⟩, hm153, k153, e153⟩ := L.all_get hF154; cases hq153; subst hl153r
  replace hJ154 := hJ154.add hL154 (i := 7) V hm153 k153 e153
  have S154 := hJ154.st; clear hF154 hJ154 hL154
  generalize s154.1 = w154 at *
  replace S154 : St w Y [c3, c2, mb_gS] w154 := S154
  refine xsC0 (zs' := #[.int .i64 0, .bool ((alB (G.1.2.map ab) G.2.2 a a)), .int .u64 0]) S154 hc3 V V V t0 (Sb t0) Zd (fun w155 c155 hc155 S155 => fa 0 (Sh (Sd (fg11 F149))) (xsC0 (zs' := #[.int .i64 ((ckd (G.1.2.map ab) G.2.2 [a, a])), .bool ((alB (G.1.2.map ab) G.2.2 a a)), .int .u64 0]) S155 hc155 V V V t0 (Sb t0) Zd (fun w156 c156 hc156 S156 => W_end (Qo_normal (en (Qe (Qh F149)) fun A157 _ F157 => ta H152 fun _ H158 => (vm (fg13 F157) (fa 1 (Sa (fg12 F157)) (rL (.int .i64 (a)) t0 (S156.ob 1 hc2) (wc (args2 (Sb t0) t0) (krg_c (gS := gS) (n := n) (G := G) (a := a) (gl_mk (S156.roC Go) (S156.roC Gn) (S156.roC Gr)) (S156.cC 2 hmb_gS)) (C0 S156 fun w159 S159 => vm t0 (vx (.int .i64 ((rgX (G.1.2.map ab) G.2.2 a))) t0 (vx (.int .i64 ((ckd (G.1.2.map ab) G.2.2 [a, a]))) (Sa t0) (va (Sa t0) (va (Sa t0) (W_end (en (Kb (Qg F157)) fun A160 _ F160 => ta H158 fun _ H161 => (vm (fg0 F160) (ve t0 V (W_split V V (V_mov V t0) (fun c162 => ?_) (fun c162 => ?_))))))))))))))))))))
  ·refine wg V t0 (ufa 0 (Sc (fg14 F160))) (wq V (Sa t0) (urL (.int .i64 (kd)) t0 (S159.ob 1 hc2)) (wg V (Sb t0) (uve t0 V) (vT (Sc t0) t0 (W_end (en (Ka (Qf F160)) fun A163 _ F163 => ?_)))))
   have S164 := S159.se [0, 2] [c156, mb_gS]
   refine tk H161 (cond_sure (fg0 F163) (by first | (simp [c150]; done) | exact decide_eq_true Za | exact decide_eq_false Za) (region_in (vm (fg2 F163) (ve t0 V (fa 1 (Sb (fg14 F163)) (xsC0 (zs' := #[.int .i64 ((ckd (G.1.2.map ab) G.2.2 [a, a])), .bool (decide ((rgX (G.1.2.map ab) G.2.2 a) = 0)), .int .u64 0]) S164 hc156 V V V t0 (Sa t0) Zd (fun w165 c165 hc165 S165 => W_end (en (Qc F163) fun A166 _ F166 => tk H151 (wp_exit (inb_miss V (then_exit (inb_hit (ta H7 fun _ H167 => (ra (fg14 F166) (S165.ob 0 hc165) (xsA0 S165 hc165 V V V (Sa (fg14 F166)) t0 (fun w168 c168 hc168 S168 => W_end (en (Qa F166) fun A169 _ F169 => tk H167 (wp_ret (rt1 F169 (rvA (fg14 F169) (S168.ob 0 hc168)) ?_)))))))))))))))))))
   obtain ⟨c170, hc170, S170⟩ := gen1 (gl_mt S168)
   have hD := do_9 (mx := n) (g := gab G) (c := (⟨kd, a, b, f, p, q, uu⟩ : OpC)) Zf
   have ht : decide ((ckd (G.1.2.map ab) G.2.2 [a, a]) = 0 ∧ rg G.2.2 a = 0) = decide ((rgX (G.1.2.map ab) G.2.2 a) = 0) := by have h0 : (ckd (G.1.2.map ab) G.2.2 [a, a]) = 0 := Za; unfold rgX; rw [h0]; simp
   have ht2 : decide (ckd (gab G).1 (gab G).2 [a, a] = 0 ∧ rg (gab G).2 a = 0) = decide ((rgX (G.1.2.map ab) G.2.2 a) = 0) := ht
   rw [hD]
   simp only [ht2]
   exact ⟨G, [], rfl, rfl, gm_0, (S170.f2 2 hmb_gS 0 hc170)⟩
  refine xo V t0 (xo V (Sa t0) (xo V (Sb t0) (vF (Sc t0) V (W_end (en (Ka (Qf F160)) fun A171 _ F171 => ?_)))))
  have S172 := S159.se [0, 2] [c156, mb_gS]
  refine tk H161 (cond_f (fg0 F171) (wp_skip (tk H151 (wp_exit (inb_miss V (then_exit (inb_hit (ta H7 fun _ H173 => (ra (fg14 F171) (S172.ob 0 hc156) (xsA0 S172 hc156 V V V (Sa (fg14 F171)) t0 (fun w174 c174 hc174 S174 => W_end (en (Qa F171) fun A175 _ F175 => tk H173 (wp_ret (rt1 F175 (rvA (fg14 F175) (S174.ob 0 hc174)) ?_))))))))))))))
  obtain ⟨c176, hc176, S176⟩ := gen1 (gl_mt S174)
  have hD := do_9 (mx := n) (g := gab G) (c := (⟨kd, a, b, f, p, q, uu⟩ : OpC)) Zf
  have ht : decide ((ckd (G.1.2.map ab) G.2.2 [a, a]) = 0 ∧ rg G.2.2 a = 0) = (alB (G.1.2.map ab) G.2.2 a a) := by have h0 : ¬ (ckd (G.1.2.map ab) G.2.2 [a, a]) = 0 := Za; rw [al_err h0]; simp [h0]
  have ht2 : decide (ckd (gab G).1 (gab G).2 [a, a] = 0 ∧ rg (gab G).2 a = 0) = (alB (G.1.2.map ab) G.2.2 a a) := ht
  rw [hD]
  simp only [ht2]
  exact ⟨G, [], rfl, rfl, gm_0, (S176.f2 2 hmb_gS 0 hc176)⟩
 refine wp_skip (ta H147 fun _ H177 => (ve (fg9 F149) V (vt (W_end (en (Ka (Qa F149)) fun A178 _ F178 => tk H177 (cd (fg0 F178) (fun c179 => ?_) fun c179 => ?_))))))
 ·have hsh := sh_rng (rs := G.2.2) (a := a) hsm
  refine wp_exit (then_exit (inb_miss V (then_exit (inb_miss V (then_exit (inb_miss V (then_exit (inb_miss V (then_exit (inb_miss V (then_exit (inb_miss V (then_exit (inb_miss V (then_exit (inb_miss V (then_exit (inb_miss V (then_exit (inb_hit (tc H10 fun _ H180 => td fun _ H181 => region_monoS 14 14 [none, none, none, none, none, none, some (SPv [] (fun _ => fun u l' => u = .tuple #[.int .i64 (shP (G.1.2.map ab) G.2.2 a), .int .i64 (shR (G.1.2.map ab) G.2.2 a), .int .i64 (shE (G.1.2.map ab) G.2.2 a)] ∧ l' = []) 6)] om om (dm (fg14 F178) (dn t0 (df 0 t0 (dr (fun sx hx hF => (VR_ldP (ys := [G.1.1, G.2.1]) V t0 ((S3.grow hx).ob 2 hmb_gS) (ldP_at V) Tryz.underlying30 V om)) (df 1 (Sd (fg13 F178)) (dr (fun _ hx _ => (urc t0 (cell_box (v := .int .i64 (a)) ((S3.grow hx).ob 1 hc2) V))) (D_call (ts := []) (vs := []) (C0 := fun _ => fun u l' => u = .tuple #[.int .i64 (shP (G.1.2.map ab) G.2.2 a), .int .i64 (shR (G.1.2.map ab) G.2.2 a), .int .i64 (shE (G.1.2.map ab) G.2.2 a)] ∧ l' = []) (C := fun u l' => u = .tuple #[.int .i64 (shP (G.1.2.map ab) G.2.2 a), .int .i64 (shR (G.1.2.map ab) G.2.2 a), .int .i64 (shE (G.1.2.map ab) G.2.2 a)] ∧ l' = []) V V V Tryz.func74 om V (args2 (Sb t0) t0) V V V V (fun sx hx hF => ?_) (fun u182 l182 hu182 => ?_)))))))))))))))))))))))))))))
  ·refine (kSh_c (a := a) ((S3.grow hx).roC Go) ((S3.grow hx).roC Gn) ((S3.grow hx).roC Gr) ).mono ?_
   rintro _ _ ⟨rfl, hz⟩
   exact ⟨_, rfl, _, ⟨rfl, rfl⟩, hz⟩
  obtain ⟨rfl, hl182⟩ := hu182
  refine dm t0 (dx (.int .i64 ((shP (G.1.2.map ab) G.2.2 a))) t0 (dx (.int .i64 ((shR (G.1.2.map ab) G.2.2 a))) (Sa t0) (dx (.int .i64 ((shE (G.1.2.map ab) G.2.2 a))) (Sb t0) (dv (uva (Sb t0)) (dv (uva (Sb t0)) (dv (uva (Sb t0)) (ZS_none S3 (Nat.le_refl _) (Nat.le_refl _) (fun s183 hJ183 hL183 hF183 => ?_))))))))
  obtain ⟨ll182, ws182, we182, ⟨hq182, hl182r⟩, hm182, k182, e182⟩ := L.all_get hF183; cases hq182; subst hl182r
  replace hJ183 := hJ183.add hL183 (i := 6) V hm182 k182 e182
  have S183 := hJ183.st; clear hF183 hJ183 hL183
  generalize s183.1 = w183 at *
  replace S183 : St w Y [c3, c2, mb_gS] w183 := S183
  refine en (Kc (Qc (Qh F178))) fun A184 _ F184 => ?_
  have S185 := S183.se [0, 2] [c3, mb_gS]
  refine tk H181 (region_in (vm (fg0 F184) (vm (Sa (fg2 F184)) (wv (V_mul V V t0 Za Za) (vm (Sc (fg1 F184)) (ad (Sa t0) t0 (wv (V_cvt V t0 Tryz.underlying3 Tryz.underlying48 (wrap_u64 Za Za)) (wv (xbS (n := 3) (z := .agg #[.int .i64 0, .bool false, .int .u64 0]) V (parts2 (Se t0) t0)) (xsA0 S185 hc3 V V V (Sg (fg15 F184)) t0 (fun w186 c186 hc186 S186 => W_end (en (Qg F184) fun A187 _ F187 => tk H180 (wp_exit (inb_hit (ta H7 fun _ H188 => ra (fg15 F187) (S186.ob 0 hc186) (xsA0 S186 hc186 V V V (Sa (fg15 F187)) t0 (fun w189 c189 hc189 S189 => W_end (en (Qa F187) fun A190 _ F190 => tk H188 (wp_ret (rt1 F190 (rvA (fg15 F190) (S189.ob 0 hc189)) ?_)))))))))))))))))))
  obtain ⟨c191, hc191, S191⟩ := gen1 (gl_mt S189)
  have hD := do_10 (mx := n) (g := gab G) (c := (⟨kd, a, b, f, p, q, uu⟩ : OpC)) Zf
  rw [hD]
  exact ⟨G, [], rfl, rfl, gm_0, (S191.f2 2 hmb_gS 0 hc191)⟩
 refine wp_skip (tk H20 (wp_exit (inb_miss V (then_exit (inb_miss V (then_exit (inb_miss V (then_exit (inb_miss V (then_exit (inb_miss V (then_exit (inb_miss V (then_exit (inb_miss V (then_exit (inb_miss V (then_exit (inb_miss V (then_exit (inb_miss V (then_exit (inb_hit (ta H7 fun _ H192 => (ra (fg12 F178) (S3.ob 0 hc3) (xsA0 S3 hc3 V V V (Sa (fg12 F178)) t0 (fun w193 c193 hc193 S193 => W_end (en (Qa F178) fun A194 _ F194 => ?_))))))))))))))))))))))))))))
 have S195 := S193.se [0, 2] [c193, mb_gS]
 refine tk H192 (wp_ret (rt1 F194 (rvA (fg12 F194) (S195.ob 0 hc193)) ?_))
 obtain ⟨c196, hc196, S196⟩ := gen1 (gl_mt S195)
 have hD := do_0 (mx := n) (g := gab G) (c := (⟨kd, a, b, f, p, q, uu⟩ : OpC)) Zf
 rw [hD]
 exact ⟨G, [], rfl, rfl, gm_0, (S196.f2 2 hmb_gS 0 hc196)⟩

end Go.Proofs.YtpgkfndbfocibaaGreat
namespace Go.Proofs.YtpgkfndbfocibaaGreat
open Go.RowKit Go.Own Go.Own.R Go.Own.G Go.Own.Gr Go.Own.Ml


set_option maxHeartbeats 4000000 in
theorem kbg_c {C N Z K Q : Int} {lv : Value} {l : List OpC} {w : World} (h_lv : Ro w NoX (rl 7 opC lv l))  :
  Calls Tryz.prog 43 #[.agg #[.int .i64 C, .int .i64 N, .int .i64 Z, .int .i64 K, .int .i64 Q], lv] w fun e w' => (e = .returned (.tuple #[.pointer none, .int .i64 (scE (cfE C N Z K Q) l).1, .int .i64 (scE (cfE C N Z K Q) l).2]) ∧ ((scE (cfE C N Z K Q) l).2 ≠ 0) ∧ St w NoX [] w') ∨ (∃ gs hv H qv q, e = .returned (.tuple #[.pointer (some ⟨gs, 0, none⟩), .int .i64 0, .int .i64 0]) ∧ ((scE (cfE C N Z K Q) l) = (0, 0)) ∧ (gab ((hv, H), (qv, q)) = ([], nwR K)) ∧ St w NoX [bx gs 77 #[hv, qv, .int .i64 (lgN C N Z K Q)], gls [((hv, H), (qv, q))]] w') := by
 refine ci2 50 Tryz.func43 V (fun A0 _ F0 => ?_)
 have hS := St.nil w
 have bh_lv := SlN.le (sl_SlN h_lv.at)
 refine tb fun _ H1 => (wB (#[.int .i64 (C), .int .i64 (N), .int .i64 (Z), .int .i64 (K), .int .i64 (Q)]) hS (fg0 F0) (fun g2 w2 c2 hc2 S2 => vc (vc (vc (W_end (en (Qc (Ka F0)) fun A3 _ F3 => ta H1 fun _ H4 => (ra (fg0 F3) (S2.ob 0 hc2) (wc (args1 t0) (klg_c (C := C) (N := N) (Z := Z) (K := K) (Q := Q)) (C0 S2 fun w5 S5 => vm t0 (vx (.int .i64 (lgN C N Z K Q)) t0 (vx (.int .i64 (cfE C N Z K Q)) (Sa t0) (va (Sa t0) (va (Sa t0) (W_end (en (Kb (Qe F3)) fun A6 _ F6 => tc H4 fun _ H7 => wp_block (tb fun _ H8 => (vm (fg0 F6) (vn t0 V (vt (W_end (en (Ka (Qb F6)) fun A9 _ F9 => tk H8 (cd (fg0 F9) (fun c10 => ?_) fun c10 => ?_))))))))))))))))))))))
 ·refine tb fun _ H11 => (vm (fg1 F9) (vc (vc (va (Sb t0) (W_end (en (Kc (Qa (fx1 F9))) fun A12 _ F12 => tk H11 (wp_ret (inb_ret (then_ret (rt3 F12 (rv_tmp (fg2 F12)) (rv_tmp (fg1 F12)) (rv_tmp (fg0 F12)) ?_))))))))))
  have h : (scE (cfE C N Z K Q) l) = ((-1), (cfE C N Z K Q)) := sc_cf c10
  rw [h]
  exact .inl ⟨rfl, c10, S5.fin0⟩
 refine tb fun _ H14 => (vm (fg5 F9) (le_ t0 (sl_SlN h_lv.at) (vg t0 V (vt (W_end (en (Ka (Qc F9)) fun A15 _ F15 => tk H14 (cd (fg0 F15) (fun c16 => ?_) fun c16 => ?_)))))))
 ·refine tb fun _ H17 => (vc (vc (vc (W_end (en (Kc (fx2 F15)) fun A18 _ F18 => tk H17 (wp_ret (inb_ret (then_ret (rt3 F18 (rv_tmp (fg2 F18)) (rv_tmp (fg1 F18)) (rv_tmp (fg0 F18)) ?_)))))))))
  have h : (scE (cfE C N Z K Q) l) = ((-1), 3) := sc_long c10 c16
  rw [h]
  exact .inl ⟨rfl, by decide, S5.fin0⟩
 refine wp_skip (inb_n (tc H7 fun _ H20 => tb fun _ H21 => (vm (fg6 F15) (le_ t0 (sl_SlN h_lv.at) (vm V (W_end (en (Kc F15) fun A22 Y22 F22 => tk H21 (wp_block ?_))))))))
 -- loop 7
 refine loopX (fun mz A' w' => SzN A' 50 ∧ A'.defers = [] ∧ (∃ (k : Nat), (mz = l.length - k) ∧ (k ≤ l.length) ∧ (scF 0 l = scF k (l.drop k)) ∧ (EV A' (.tmp 28) = .int .i64 (k : Int)) ∧ (EV A' (.tmp 2) = EV A22 (.tmp 2)) ∧ (EV A' (.tmp 7) = EV A22 (.tmp 7)) ∧ (EV A' (.tmp 26) = EV A22 (.tmp 26)) ∧ (EV A' (.tmp 27) = EV A22 (.tmp 27)) ∧ (St w NoX [bx g2 23 #[.int .i64 (C), .int .i64 (N), .int .i64 (Z), .int .i64 (K), .int .i64 (Q)]] w'))) (l.length - 0) ⟨Y22, F22.d, 0, rfl, Za, rfl, ((fg0 F22).trans (by first | rfl | (simp; done) | (congr 1; omega))), rfl, rfl, rfl, rfl, (by subst hc2; exact S5)⟩ ?_
 clear S5 hc2
 rintro n23 A23 w23 ⟨Y23, hdf23, k, hm23, hk, hz, l28_23, u2_23, u7_23, u26_23, u27_23, S23⟩
 have l2_23 := u2_23.trans (fg7 F22)
 have l7_23 := u7_23.trans (fg6 F22)
 have l26_23 := u26_23.trans (fg2 F22)
 have l27_23 := u27_23.trans (fg1 F22)
 obtain ⟨c2_23, hc2_23, S23⟩ := gen1 S23
 refine tb fun _ H24 => (vl l28_23 l27_23 (W_end (en (((((((ck (FS.n hdf23) V V)).c (es V l2_23)).c (es V l7_23)).c (es V l26_23)).c (es V l27_23)).c (Sa l28_23)) fun A25 _ F25 => tc H24 fun _ H26 => cd (fg5 F25) (fun c27 => ?_) fun c27 => ?_)))
 ·refine wp_skip (tc H26 fun _ H28 => wp_block (tb fun _ H29 => (vm (fg0 F25) ?_)))
  have k30 : k < l.length := by first | omega | (simp only [List.length_cons, List.length_nil]; omega) | (simp only [List.length_set]; omega) | decide
  obtain ⟨y30, hy30⟩ := get_some (xs := l) (k := k) k30
  obtain ⟨B30, O30, C30, hv30⟩ := (SlN.blk (sl_SlN h_lv.at) kr)
  refine wv (V_ixS (off := O30 + k * 7) 7 k V (Sa (fg2 F25)) (Sa (fg0 F25)) hv30 Za k30 Tryz.underlying24 om V) (wr (VR_ldR (ys := opC y30) V t0 (SlN.row opC_len (sl_SlN (S23.ro h_lv)) hv30 hy30 V) Tryz.underlying50 V om) (wA (#[.int .i64 0, .int .i64 0, .int .i64 0, .int .i64 0, .int .i64 0, .int .i64 0, .int .u64 0]) S23 (fun g31 w31 c31 hc31 S31 => ?_)))
  replace S31 : St w NoX [c31, c2_23] w31 := S31
  refine va (Sc t0) (xsA0 S31 hc31 V V V (Sa t0) (Sb t0) (fun w32 c32 hc32 S32 => W_end (en (Kb (Qc F25)) fun A33 _ F33 => ta H29 fun _ H34 => (ra (fg1 F33) (S32.ob 0 hc32) (wc (args1 t0) (kopc_c (kd := y30.kd) (a := y30.a) (b := y30.b) (f := y30.f) (p := y30.p) (q := y30.q) (uu := y30.u)) (C0 S32 fun w35 S35 => vt (W_end (en (Ka (Qb F33)) fun A36 _ F36 => ?_))))))))
  have S37 := S35.se [1] [c2_23]
  refine ta H34 fun _ H38 => (vm (fg0 F36) (vn t0 V (W_end (en (Ka (Qa F36)) fun A39 _ F39 => tk H38 (cd (fg0 F39) (fun c40 => ?_) fun c40 => ?_)))))
  ·refine tb fun _ H41 => (vm (fg2 F39) (vm (Sa (fg1 F39)) (vc (va (Sb t0) (va (Sb t0) (W_end (en (Kc (Qb F39)) fun A42 _ F42 => tk H41 (wp_ret (inb_ret (then_ret (then_ret (inb_ret (then_ret (rt3 F42 (rv_tmp (fg2 F42)) (rv_tmp (fg1 F42)) (rv_tmp (fg0 F42)) ?_))))))))))))))
   have h : (scE (cfE C N Z K Q) l) = ((k : Int), (opE (⟨y30.kd, y30.a, y30.b, y30.f, y30.p, y30.q, y30.u⟩ : OpC))) := sc_op c10 c16 hz hy30 c40
   rw [h]
   exact .inl ⟨rfl, c40, S37.fin0⟩
  refine wp_skip (inb_n (tk H28 (region_in (ad (fg4 F39) V (vm t0 (W_end (en (Ka (Qa (fx4 F39))) fun A44 Y44 F44 => then_n ⟨l.length - (k + 1), by simp only [hm23]; omega, Y44, F44.d, (k + 1), rfl, Za, (sc_step hz hy30 c40), ((fg0 F44).trans (by first | rfl | (simp; done) | (congr 1; omega))), ((fg8 F44).trans (fg7 F22).symm), ((fg7 F44).trans (fg6 F22).symm), ((fg6 F44).trans (fg2 F22).symm), ((fg5 F44).trans (fg1 F22).symm), (by subst hc2_23; exact S37)⟩)))))))
 refine wp_exit (then_exit (then_exit (inb_hit (ta H20 fun _ H45 => (fa 3 (fg4 F25) (rL (.int .i64 (K)) t0 (S23.ob 0 hc2_23) (wc (args1 t0) ((glC (F := fun a_ b_ => .tuple #[.agg #[a_, b_], .int .i64 (nwE K)]) (kNw_c (n := K)))) (fun _ w46 ⟨hv_46, H_46, qv_46, q_46, e, hg_46, hP46⟩ => ⟨_, e, ?_⟩))))))))
 obtain ⟨cK_46, hcK_46, hP46⟩ := gen1 hP46
 have S46 := S23.join hP46
 replace S46 : St w NoX [cK_46, c2_23] w46 := S46
 refine vm t0 (vx (.agg #[hv_46, qv_46]) t0 (vx (.int .i64 (nwE K)) (Sa t0) (wA (#[.slice none 0 0, .slice none 0 0]) S46 (fun g47 w47 c47 hc47 S47 => xsB0 S47 hc47 V V V t0 (Sb t0) (by simp only [List.all_toArray, List.all_cons, List.all_nil, SlN_one (sl_SlN (gl_oa m1 (S47.cq 1 hcK_46))), SlN_one (sl_SlN (gl_ra m1 (S47.cq 1 hcK_46)))] <;> rfl) (fun w48 c48 hc48 S48 => va (Sa t0) (W_end (en (Qa (Ka (Qf F25))) fun A49 _ F49 => ?_)))))))
 have S50 := S48.se [0, 1] [c48, cK_46]
 refine ta H45 fun _ H51 => (ra (fg0 F49) (S50.ob 0 hc48) (vm (Sa (fg4 F49)) (wv (V_bld (cs := #[hv_46, qv_46, .int .i64 (lgN C N Z K Q)]) V (parts2 (Sa t0) t0) om) (wB (#[hv_46, qv_46, .int .i64 (lgN C N Z K Q)]) S50 t0 (fun g52 w52 c52 hc52 S52 => vt (vc (vc (W_end (en (Kc (Qd F49)) fun A53 _ F53 => tk H51 (wp_ret (rt3 F53 (rv_tmp (fg2 F53)) (rv_tmp (fg1 F53)) (rv_tmp (fg0 F53)) ?_)))))))))))
 exact .inr ⟨_, hv_46, H_46, qv_46, q_46, rfl, sc_ok c10 c16 hz Za, hg_46, (S52.f2 0 hc52 2 hcK_46)⟩

set_option maxHeartbeats 4000000 in
theorem kslinan_c {a : Int} {w : World}   :
  Calls Tryz.prog 94 #[.int .i64 a] w fun e w' => e = .returned (.bool false) ∧ St w NoX [] w' := by
 refine ci1 6 Tryz.func94 V (fun A0 _ F0 => ?_)
 have hS := St.nil w
 refine tb fun _ H1 => (vc (W_end (en (Qa F0) fun A2 _ F2 => ta H1 fun _ H3 => (vm (fg0 F2) (vm (Sa (fg0 F2)) (vn (Sa t0) t0 (vt (W_end (en (Ka (Qc F2)) fun A4 _ F4 => tk H3 (wp_ret (rt1 F4 (rv_tmp (fg0 F4)) ?_)))))))))))
 rw [show false = decide (a ≠ a) by simp]
 exact ⟨rfl, hS.fin0⟩

set_option maxHeartbeats 4000000 in
theorem kcmpnan_c {a : Int} {w : World}   :
  Calls Tryz.prog 115 #[.int .i64 a] w fun e w' => e = .returned (.bool false) ∧ St w NoX [] w' := by
 refine ci1 6 Tryz.func115 V (fun A0 _ F0 => ?_)
 have hS := St.nil w
 refine tb fun _ H1 => (vc (W_end (en (Qa F0) fun A2 _ F2 => ta H1 fun _ H3 => (vm (fg0 F2) (vm (Sa (fg0 F2)) (vn (Sa t0) t0 (vt (W_end (en (Ka (Qc F2)) fun A4 _ F4 => tk H3 (wp_ret (rt1 F4 (rv_tmp (fg0 F4)) ?_)))))))))))
 rw [show false = decide (a ≠ a) by simp]
 exact ⟨rfl, hS.fin0⟩

set_option maxHeartbeats 4000000 in
theorem kls_c {a b : Int} {w : World}   :
  Calls Tryz.prog 93 #[.int .i64 a, .int .i64 b] w fun e w' => e = .returned (.bool (decide (a < b))) ∧ St w NoX [] w' := by
 refine ci2 17 Tryz.func93 V (fun A0 _ F0 => ?_)
 have hS := St.nil w
 refine tb fun _ H1 => (vc (W_end (en (Qa F0) fun A2 _ F2 => ta H1 fun _ H3 => (vm (fg0 F2) (wc (args1 t0) (kcmpnan_c (a := a)) (C0 hS fun w4 S4 => vm t0 (xo V t0 (xo V (Sa t0) (xo V (Sb t0) (vF (Sc t0) V (vm t0 (wg V t0 (uvm (Sh (fg0 F2))) (wg V (Sa t0) (uvm (Sh (Sa (fg1 F2)))) (wg V (Sb t0) (uvl (Sa t0) t0) (vF (Sc t0) t0 (vt (W_end (en (Ka (Qd (Qh F2))) fun A5 _ F5 => tk H3 (wp_ret (rt1 F5 (rv_tmp (fg0 F5)) ?_))))))))))))))))))))
 exact ⟨rfl, S4.fin0⟩

set_option maxHeartbeats 4000000 in
theorem kbs_c {lv : Value} {l : List Int} {x : Int} {w : World} (h_lv : Ro w NoX (il .i64 lv l)) (hasc : Asc l) (hl : l.length ≤ 1048576) :
  Calls Tryz.prog 52 #[lv, .int .i64 x] w fun e w' => ∃ p, e = .returned (.tuple #[.int .i64 p, .bool (decide (x ∈ l))]) ∧ St w NoX [] w' := by
 refine ci2 54 Tryz.func52 V (fun A0 _ F0 => ?_)
 have hS := St.nil w
 have bh_lv := SlN.le (sl_SlN h_lv.at)
 refine tb fun _ H1 => (vc (vc (W_end (en (Qb F0) fun A2 _ F2 => ta H1 fun _ H3 => (vm (fg0 F2) (le_ t0 (sl_SlN h_lv.at) (vt (W_end (en (Ka (Qb F2)) fun A4 Y4 F4 => ta H3 fun _ H5 => (vm (fg0 F4) (vc (va (Sa t0) (W_end (eN (Qc F4) fun A6 E6 Y6 F6 => ?_))))))))))))))
 have l7_6 := lookE E6 7 (Sa t0)
 have l8_6 := lookE E6 8 t0
 clear E6 Y4 F4
 refine tc H5 fun _ H7 => wp_block ?_
 -- loop 3
 refine loopX (fun mz A' w' => SzN A' 54 ∧ A'.defers = [] ∧ (∃ (lo : Nat) (hi : Nat), (mz = hi - lo) ∧ (lo ≤ hi ∧ hi ≤ l.length) ∧ (∀ i, i < lo → ∀ z, l[i]? = some z → z < x) ∧ (∀ i, hi ≤ i → ∀ z, l[i]? = some z → x ≤ z) ∧ (EV A' (.tmp 7) = .int .i64 (lo : Int)) ∧ (EV A' (.tmp 8) = .int .i64 (hi : Int)) ∧ (EV A' (.tmp 0) = EV A6 (.tmp 0)) ∧ (EV A' (.tmp 1) = EV A6 (.tmp 1)) ∧ (EV A' (.tmp 6) = EV A6 (.tmp 6)) ∧ (St w NoX [] w'))) (l.length - 0) ⟨Y6, F6.d, 0, l.length, rfl, Za, (fun i hi => by omega), (fun i hi z hz => by rw [List.getElem?_eq_none hi] at hz; cases hz), ((l7_6).trans (by first | rfl | (simp; done) | (congr 1; omega))), ((l8_6).trans (by first | rfl | (simp; done) | (congr 1; omega))), rfl, rfl, rfl, hS⟩ ?_
 clear hS
 rintro n8 A8 w8 ⟨Y8, hdf8, lo, hi, hm8, hb, hlo, hhi, l7_8, l8_8, u0_8, u1_8, u6_8, S8⟩
 have l0_8 := u0_8.trans (fg1 F6)
 have l1_8 := u1_8.trans (fg2 F6)
 have l6_8 := u6_8.trans (fg0 F6)
 refine td fun _ H9 => tb fun _ H10 => (vm l7_8 (vm (Sa l8_8) (vl (Sa t0) t0 (W_end (en (((((((ck (cq2 (FS.n hdf8) V) V V)).c (es3 V l0_8)).c (es3 V l1_8)).c (es3 V l6_8)).c (es3 V l7_8)).c (Sc l8_8)) fun A11 _ F11 => tk H10 (cd (fg5 F11) (fun c12 => ?_) fun c12 => ?_))))))
 ·refine wp_skip (tk H9 (wp_block (tb fun _ H13 => (vm (fg1 F11) (vm (Sa (fg0 F11)) (ad (Sa t0) t0 (wv (V_cvt V t0 Tryz.underlying3 Tryz.underlying137 (wrap_u64 Za Za)) (wv (V_shr1 V t0 V) (wv (V_cvt V t0 Tryz.underlying137 Tryz.underlying3 (wrap_i64 Za Za)) (vt (W_end (en (Ka (Qf F11)) fun A14 _ F14 => ta H13 fun _ H15 => (vm (fg5 F14) (vm (Sa (fg0 F14)) ?_))))))))))))))
  have k16 : ((lo + hi) / 2) < l.length := by first | omega | (simp only [List.length_cons, List.length_nil]; omega) | (simp only [List.length_set]; omega) | decide
  obtain ⟨y16, hy16⟩ := get_some (xs := l) (k := ((lo + hi) / 2)) k16
  obtain ⟨B16, O16, C16, hv16⟩ := (SlN.blk (sl_SlN h_lv.at) kr)
  refine wv (V_ixS (off := O16 + ((lo + hi) / 2)) 1 (((lo + hi) / 2)) V (Sa t0) t0 hv16 Za k16 Tryz.underlying25 om (congrArg _ (Nat.mul_one _))) (rc t0 ((sl_SlN (S8.ro h_lv)).cell hv16 (map_get hy16)) (vm (Sd (fg4 F14)) (wc (args2 (Sa t0) t0) (kls_c (a := y16) (b := x)) (C0 S8 fun w17 S17 => W_end (en (Ka (Qe F14)) fun A18 _ F18 => tk H15 (cd (fg0 F18) (fun c19 => ?_) fun c19 => ?_))))))
  ·refine region_in (vm (fg1 F18) (ad t0 V (vt (W_end (en (Ka (Qb (fx3 F18))) fun A20 Y20 F20 => inb_n (then_n ⟨hi - ((lo + hi) / 2 + 1), by simp only [hm8]; omega, Y20, F20.d, ((lo + hi) / 2 + 1), hi, rfl, Za, (bs_lo hasc hy16 c19), hhi, ((fg0 F20).trans (by first | rfl | (simp; done) | (congr 1; omega))), ((fg3 F20).trans (by first | rfl | (simp; done) | (congr 1; omega))), ((fg6 F20).trans (fg1 F6).symm), ((fg5 F20).trans (fg2 F6).symm), ((fg4 F20).trans (fg0 F6).symm), S17⟩))))))
  refine region_in (vm (fg1 F18) (vt (W_end (en (Ka (Qa (fx2 F18))) fun A21 Y21 F21 => inb_n (then_n ⟨((lo + hi) / 2) - lo, by simp only [hm8]; omega, Y21, F21.d, lo, ((lo + hi) / 2), rfl, Za, hlo, (bs_hi hasc hy16 c19), ((fg3 F21).trans (by first | rfl | (simp; done) | (congr 1; omega))), ((fg0 F21).trans (by first | rfl | (simp; done) | (congr 1; omega))), ((fg6 F21).trans (fg1 F6).symm), ((fg5 F21).trans (fg2 F6).symm), ((fg4 F21).trans (fg0 F6).symm), S17⟩)))))
 refine wp_exit (then_exit (then_exit (inb_hit (ta H7 fun _ H22 => (vm (fg1 F11) (vm (Sa (fg1 F11)) (vm (Sb (fg2 F11)) (vl (Sa t0) t0 (W_split V V (V_mov V t0) (fun c23 => ?_) (fun c23 => ?_))))))))))
 ·refine wg V t0 (uvm (Se (fg4 F11))) (wg V (Sa t0) (uvm (Sf (fg1 F11))) ?_)
  have k24 : lo < l.length := by first | omega | (simp only [List.length_cons, List.length_nil]; omega) | (simp only [List.length_set]; omega) | decide
  obtain ⟨y24, hy24⟩ := get_some (xs := l) (k := lo) k24
  obtain ⟨B24, O24, C24, hv24⟩ := (SlN.blk (sl_SlN h_lv.at) kr)
  refine wg V (Sb t0) (V_ixS (off := O24 + lo) 1 lo V (Sa t0) t0 hv24 Za k24 Tryz.underlying25 om (congrArg _ (Nat.mul_one _))) (wq V (Sc t0) (urc t0 ((sl_SlN (S8.ro h_lv)).cell hv24 (map_get hy24))) (wg V (Sd t0) (uvm (Sh (Sa (fg3 F11)))) (wg V (Se t0) (uve (Sa t0) t0) (W_split V (xwt V V (Sf t0)) (V_mov V t0) (fun c25 => ?_) (fun c25 => ?_)))))
  ·refine xo V t0 (xo V (Sa t0) (xo V (Sb t0) (xo V (Sc t0) (xo V (Sd t0) (xo V (Se t0) (W_off V (wanted_u V V t0 (ez V)) (W_off V (wanted_u V V (Sa t0) (ez V)) (xo V (Sh t0) (wg V (Sh (Sh t0)) (uvT (Sh (Sa t0)) V) (vT (Sh (Sh (Sa t0))) t0 (va (Sh (Sh (Sf t0))) (va (Sa t0) (W_end (en (Kb (Qg (Qh (Qh F11)))) fun A26 _ F26 => tk H22 (wp_ret (rt2 F26 (rv_tmp (fg1 F26)) (rv_tmp (fg0 F26)) ?_))))))))))))))))
   rw [show decide (x ∈ l) = true from decide_eq_true (show x ∈ l by have e := c25; rw [← e]; exact List.mem_of_getElem? hy24)]
   exact ⟨_, rfl, S8.fin0⟩
  refine wg V t0 (uvm (Sh (Sd (fg4 F11)))) (wg V (Sa t0) (uvm (Sh (Se (fg1 F11)))) (wg V (Sb t0) (V_ixS (off := O24 + lo) 1 lo V (Sa t0) t0 hv24 Za k24 Tryz.underlying25 om (congrArg _ (Nat.mul_one _))) (wq V (Sc t0) (urc t0 ((sl_SlN (S8.ro h_lv)).cell hv24 (map_get hy24))) (W_call V (xwt V V (Sd t0)) V Tryz.func94 om V (args1 t0) (kslinan_c (a := y24)) (C0 S8 fun w28 S28 => wg V (Se t0) (uvm t0) (xo V t0 (xo V (Sa t0) (wg V (Sh t0) (uvF (Sb t0) V) (wg V (Sh (Sh t0)) (uvF (Sh (Sa t0)) t0) (vT (Sh (Sh (Sa t0))) t0 (va (Sh (Sh (Sf t0))) (va (Sa t0) (W_end (en (Kb (Qg (Qh (Qh F11)))) fun A29 _ F29 => tk H22 (wp_ret (rt2 F29 (rv_tmp (fg1 F29)) (rv_tmp (fg0 F29)) ?_))))))))))))))))
  rw [show decide (x ∈ l) = false from decide_eq_false (show ¬ x ∈ l from bs_no2 hasc hlo (by rw [show lo = hi by omega]; exact hhi) hy24 c25)]
  exact ⟨_, rfl, S28.fin0⟩
 refine xo V t0 (xo V (Sa t0) (xo V (Sb t0) (xo V (Sc t0) (xo V (Sd t0) (xo V (Se t0) (xo V (Sf t0) (W_off V (wanted_u V V t0 (ez V)) (W_off V (wanted_u V V (Sa t0) (ez V)) (W_off V (wanted_u V V (Sb t0) (ez V)) (W_off V (wanted_u V V (Sc t0) (ez V)) (W_off V (wanted_u V V (Sd t0) (ez V)) (W_off V (wanted_u V V (Se t0) (ez V)) (W_off V (wanted_u V V t0 (ez V)) (W_off V (wanted_u V V (Sa t0) (ez V)) (W_off V (wanted_u V V (Sh t0) (ez V)) (xo V (Sh (Sh t0)) (vF (Sh (Sh (Sa t0))) V (va (Sh (Sh (Sf t0))) (va (Sa t0) (W_end (en (Kb (Qg (Qh (Qh F11)))) fun A30 _ F30 => tk H22 (wp_ret (rt2 F30 (rv_tmp (fg1 F30)) (rv_tmp (fg0 F30)) ?_)))))))))))))))))))))))
 rw [show decide (x ∈ l) = false from decide_eq_false (show ¬ x ∈ l from bs_no1 hlo Za)]
 exact ⟨_, rfl, S8.fin0⟩

set_option maxHeartbeats 4000000 in
theorem kp1_c {i : Int} {fv : Value} {full : List Int} {gfv : Nat} {w : World} (hb_fv : Ro w NoX (bx gfv 25 #[fv])) (h_fv : Ro w NoX (il .i64 fv full)) (hasc : Asc full) (hfl : full.length ≤ 1048576) :
  Calls Tryz.prog 51 #[.int .i64 i, .pointer (some ⟨gfv, 0, none⟩)] w fun e w' => e = .returned (.bool (decide (i ∈ full))) ∧ St w NoX [] w' := by
 refine ci2 13 Tryz.func51 V (fun A0 _ F0 => ?_)
 have hS := St.nil w
 have bh_fv := SlN.le (sl_SlN h_fv.at)
 refine tb fun _ H1 => (vc (W_end (en (Qa F0) fun A2 _ F2 => ta H1 fun _ H3 => (rc (fg1 F2) (cell_box (v := fv) (ob_at (hS.ro hb_fv)) V) (vm (Sa (fg0 F2)) (wc (args2 (Sa t0) t0) (kbs_c (x := i) (hS.roC h_fv) Zc Ze) (fun _ w4 ⟨p_4, e, hP4⟩ => ⟨_, e, ?_⟩)))))))
 have S4 := hS.j0 hP4
 refine vm t0 (vx (.int .i64 (p_4)) t0 (vx (.bool (decide (i ∈ full))) (Sa t0) (va (Sa t0) (va (Sa t0) (W_end (en (Ka (Qg F2)) fun A5 _ F5 => ta H3 fun _ H6 => (vm (fg0 F5) (vt (W_end (en (Ka (Qa F5)) fun A7 _ F7 => tk H6 (wp_ret (rt1 F7 (rv_tmp (fg0 F7)) ?_))))))))))))
 exact ⟨rfl, S4.fin0⟩

set_option maxHeartbeats 4000000 in
theorem kj1_c {i : Int} {av : Value} {ans : List AnC} {gav : Nat} {w : World} (hb_av : Ro w NoX (bx gav 31 #[av])) (h_av : Ro w NoX (rl 3 anC av ans)) (hi : 0 ≤ i ∧ i < (ans.length : Int)) :
  Calls Tryz.prog 46 #[.int .i64 i, .pointer (some ⟨gav, 0, none⟩)] w fun e w' => e = .returned (.bool (decide ((ans.getD i.toNat (AnC.mk 0 false 0)).e = 5))) ∧ St w NoX [] w' := by
 refine ci2 10 Tryz.func46 V (fun A0 _ F0 => ?_)
 have hS := St.nil w
 have bh_av := SlN.le (sl_SlN h_av.at)
 refine tb fun _ H1 => (vc (W_end (en (Qa F0) fun A2 _ F2 => ta H1 fun _ H3 => (rc (fg1 F2) (cell_box (v := av) (ob_at (hS.ro hb_av)) V) (vm (Sa (fg0 F2)) ?_)))))
 have k4 : i.toNat < ans.length := by first | omega | (simp only [List.length_cons, List.length_nil]; omega) | (simp only [List.length_set]; omega) | decide
 obtain ⟨y4, hy4⟩ := get_some (xs := ans) (k := i.toNat) k4
 obtain ⟨B4, O4, C4, hv4⟩ := (SlN.blk (sl_SlN h_av.at) kr)
 refine wv (V_ixS (off := O4 + i.toNat * 3) 3 i.toNat V (Sa t0) t0 hv4 Za k4 Tryz.underlying31 om V) (wv (V_fa (off' := O4 + i.toNat * 3 + 0) V t0 Tryz.underlying54 V Zi V) (rd (.int .i64 (y4.e)) t0 (SlN.row anC_len (sl_SlN (hS.ro h_av)) hv4 hy4 V 0 _ V) (ve t0 V (vt (W_end (en (Ka (Qf F2)) fun A5 _ F5 => tk H3 (wp_ret (rt1 F5 (rv_tmp (fg0 F5)) ?_))))))))
 rw [show ans.getD i.toNat (AnC.mk 0 false 0) = y4 by rw [List.getD_eq_getElem?_getD, hy4]; rfl]
 exact ⟨rfl, hS.fin0⟩

end Go.Proofs.YtpgkfndbfocibaaGreat
namespace Go.Proofs.YtpgkfndbfocibaaGreat
open Go.RowKit Go.Own Go.Own.R Go.Own.G Go.Own.Gr Go.Own.Ml


set_option maxHeartbeats 4000000 in
theorem kmoP_it {gs g3 g4 g5 g7 gc : Nat} {G0 : GV} {n : Int} {lv : Value} {os : List OpC} {fv : Value} {full : List Int} {Rd : World → Prop} (hRd : ∀ W, Rd W → (bx g4 24 #[lv]).at W ∧ (rl 7 opC lv os).at W ∧ (bx g3 75 #[.pointer (some ⟨gs, 0, none⟩)]).at W ∧ (bx g7 78 #[.func (.func 38) #[.pointer (some ⟨gs, 0, none⟩)] #[]]).at W ∧ (bx g5 88 #[.func (.func 51) #[] #[.pointer (some ⟨gc, 0, none⟩)]]).at W ∧ (bx gc 25 #[fv]).at W ∧ (il .i64 fv full).at W) (hsm0 : SM (gab G0).1) (hn : 0 ≤ n ∧ n ≤ 32) (hops : ∀ c ∈ os, opE c = 0) (hol : os.length ≤ 200) (hasc : Asc full) (hfl : full.length ≤ 1048576) :
  IterT (α := ME) Tryz.prog 90 #[.pointer (some ⟨g4, 0, none⟩), .pointer (some ⟨g3, 0, none⟩), .pointer (some ⟨g7, 0, none⟩), .pointer (some ⟨g5, 0, none⟩)] encM (fun xs => Tr n (fun k : Nat => decide ((k : Int) ∈ full)) G0 os xs ∧ os.length ≤ xs.length) (Tr n (fun k : Nat => decide ((k : Int) ∈ full)) G0 os) (Tr n (fun k : Nat => decide ((k : Int) ∈ full)) G0 os) (mT gs 77 n G0) Rd := by
 intro l wb X fr J Jx w hR hY hS
 obtain ⟨cj, ct, hcj, hct, hS⟩ := gen2 hS
 refine calls_inR 48 Tryz.func90 V V Zj (fun A0 hsz0 hdf0 hargs => ?_)
 have l0_0 := hargs 0 (.func (.yield l) #[] #[]) V
 have l1_0 := hargs 1 (.pointer (some ⟨g4, 0, none⟩)) V
 have l2_0 := hargs 2 (.pointer (some ⟨g3, 0, none⟩)) V
 have l3_0 := hargs 3 (.pointer (some ⟨g7, 0, none⟩)) V
 have l4_0 := hargs 4 (.pointer (some ⟨g5, 0, none⟩)) V
 clear hargs; replace hsz0 : SzN A0 48 := ⟨hsz0⟩
 have bh_lv := SlN.le (sl_SlN (hRd _ (hR _ _ _ 0 hS (congrArg some hcj))).2.1)
 have bh_fv := SlN.le (sl_SlN (hRd _ (hR _ _ _ 0 hS (congrArg some hcj))).2.2.2.2.2.2)
 refine R_seq (fun _ H1 => R_region om (rc l1_0 (cell_box (v := lv) (ob_at (hRd _ (hR _ _ _ 0 hS (congrArg some hcj))).1) V) (le_ t0 (sl_SlN (hRd _ (hR _ _ _ 0 hS (congrArg some hcj))).2.1) (vm V (W_end (Qo_normal (en ((((((ck (ck (ck (FS.n hdf0) V V) V V) V V)).c (es3 V l0_0)).c (es3 V l2_0)).c (es3 V l3_0)).c (Sc l4_0)) fun A2 hsz2 F2 => tk H1 (R_block ?_))))))))
 -- loop 1
 refine R_loop (fun mz A' w' => SzN A' 48 ∧ A'.defers = [] ∧ (∃ (pre : List ME), (mz = os.length - pre.length) ∧ (Tr n (fun k : Nat => decide ((k : Int) ∈ full)) G0 os pre) ∧ (EV A' (.tmp 12) = .int .i64 (pre.length : Int)) ∧ (EV A' (.tmp 0) = EV A2 (.tmp 0)) ∧ (EV A' (.tmp 2) = EV A2 (.tmp 2)) ∧ (EV A' (.tmp 3) = EV A2 (.tmp 3)) ∧ (EV A' (.tmp 4) = EV A2 (.tmp 4)) ∧ (EV A' (.tmp 10) = EV A2 (.tmp 10)) ∧ (EV A' (.tmp 11) = EV A2 (.tmp 11)) ∧ (St wb X ((J pre) :: (mT gs 77 n G0 pre) :: fr) w'))) (os.length - [].length) ⟨hsz2, F2.d, [], rfl, (Tr.nil hsm0), ((fg4 F2).trans (rfl)), rfl, rfl, rfl, rfl, rfl, rfl, (by subst hcj hct; exact hS)⟩ ?_
 clear hS hcj hct
 rintro n3 A3 w3 ⟨hsz3, hdf3, pre, hm3, hT, l12_3, u0_3, u2_3, u3_3, u4_3, u10_3, u11_3, S3⟩
 have l0_3 := u0_3.trans (fg3 F2)
 have l2_3 := u2_3.trans (fg2 F2)
 have l3_3 := u3_3.trans (fg1 F2)
 have l4_3 := u4_3.trans (fg0 F2)
 have l10_3 := u10_3.trans (fg6 F2)
 have l11_3 := u11_3.trans (fg5 F2)
 obtain ⟨cj_3, ct_3, hcj_3, hct_3, S3⟩ := gen2 S3
 refine R_seq (fun _ H4 => R_region om (vl l12_3 l11_3 (W_end (Qo_normal (en (((((((((ck (FS.n hdf3) V V)).c (es V l0_3)).c (es V l2_3)).c (es V l3_3)).c (es V l4_3)).c (es V l10_3)).c (es V l11_3)).c (Sa l12_3)) fun A5 _ F5 => tk H4 (R_seq (fun _ H6 => R_cond_dec (fg7 F5) (fun c7 => ?_) (fun c7 => ?_))))))))
 ·have hsm := hT.sm
  obtain ⟨cb8, ck8, hcb8, hck8, S8⟩ := mT_open (hct_3 ▸ S3)
  replace S8 : St wb X (cj_3 :: cb8 :: ck8 :: fr) w3 := S8
  refine R_skip (tk H6 (R_seq (fun _ H9 => R_block (R_seq (fun _ H10 => R_region om (vm (fg0 F5) ?_))))))
  have k11 : pre.length < os.length := by first | omega | (simp only [List.length_cons, List.length_nil]; omega) | (simp only [List.length_set]; omega) | decide
  obtain ⟨y11, hy11⟩ := get_some (xs := os) (k := pre.length) k11
  have hop11 := hops y11 (List.mem_of_getElem? hy11)
  obtain ⟨B11, O11, C11, hv11⟩ := (SlN.blk (sl_SlN (hRd _ (hR _ _ _ 0 S8 (congrArg some hcj_3))).2.1) kr)
  refine wv (V_ixS (off := O11 + pre.length * 7) 7 pre.length V (Sa (fg2 F5)) (Sa (fg0 F5)) hv11 Za k11 Tryz.underlying24 om V) (wr (VR_ldR (ys := opC y11) V t0 (SlN.row opC_len (sl_SlN (hRd _ (hR _ _ _ 0 S8 (congrArg some hcj_3))).2.1) hv11 hy11 V) Tryz.underlying50 V om) (wA (#[.int .i64 0, .int .i64 0, .int .i64 0, .int .i64 0, .int .i64 0, .int .i64 0, .int .u64 0]) S8 (fun g12 w12 c12 hc12 S12 => ?_)))
  replace S12 : St wb X (c12 :: cj_3 :: cb8 :: ck8 :: fr) w12 := S12
  refine va (Sc t0) (xsA 0 S12 V hc12 V V V (Sa t0) (Sb t0) (fun w13 c13 hc13 S13 => ?_))
  replace S13 : St wb X (c13 :: cj_3 :: cb8 :: ck8 :: fr) w13 := S13
  refine W_end (Qo_normal (en (Kb (Qc F5)) fun A14 _ F14 => tk H10 (R_seq (fun _ H15 => R_region om (rc (fg7 F14) (cell_box (v := .pointer (some ⟨gs, 0, none⟩)) (ob_at (hRd _ (hR _ _ _ 1 S13 (congrArg some hcj_3))).2.2.1) V) (ni t0 (fa 0 t0 (wr (VR_ldP (ys := [(lastG G0 pre).1.1, (lastG G0 pre).2.1]) V t0 (S13.ob 2 hcb8) (ldP_at V) Tryz.underlying30 V om) (wA (#[.slice none 0 0, .slice none 0 0]) S13 (fun g16 w16 c16 hc16 S16 => ?_))))))))))
  replace S16 : St wb X (c16 :: c13 :: cj_3 :: cb8 :: ck8 :: fr) w16 := S16
  refine xsB 0 S16 V hc16 V V V t0 (Sa t0) (by simp only [List.all_toArray, List.all_cons, List.all_nil, SlN_one (sl_SlN (gl_oa (lastG_mem G0 pre) (S16.cq 4 hck8))), SlN_one (sl_SlN (gl_ra (lastG_mem G0 pre) (S16.cq 4 hck8)))] <;> rfl) (fun w17 c17 hc17 S17 => ?_)
  replace S17 : St wb X (c17 :: c13 :: cj_3 :: cb8 :: ck8 :: fr) w17 := S17
  refine W_end (Qo_normal (en (Ka (Qd F14)) fun A18 _ F18 => tk H15 (R_seq (fun _ H19 => R_region om (rc (fg7 F18) (cell_box (v := .func (.func 38) #[.pointer (some ⟨gs, 0, none⟩)] #[]) (ob_at (hRd _ (hR _ _ _ 2 S17 (congrArg some hcj_3))).2.2.2.1) V) (ra (Sa (fg2 F18)) (S17.ob 1 hc13) ?_))))))
  have S20 : St wb X (cb8 :: c17 :: c13 :: cj_3 :: ck8 :: fr) w17 := St.selR (l := [c17, c13, cj_3, cb8, ck8]) (l' := [cb8, c17, c13, cj_3, ck8]) (fr := fr) S17 [3, 0, 1, 2, 4] Zg Zd V
  obtain ⟨Y21, hP21, hR21, hF21, hB21⟩ := St.call (pre := [cb8]) (fr := (c17 :: c13 :: cj_3 :: ck8 :: fr)) S20
  rw [hcb8] at hP21
  refine W_callB V V V (Sa t0) Tryz.func38 om V (args1 t0) (kdo_c (G := (lastG G0 pre)) (kd := y11.kd) (a := y11.a) (b := y11.b) (f := y11.f) (p := y11.p) (q := y11.q) (uu := y11.u) (gl_mk (gl_oaR (lastG_mem G0 pre) (hck8 ▸ hF21 3 _ V)) (gl_naR (lastG_mem G0 pre) (hck8 ▸ hF21 3 _ V)) (gl_raR (lastG_mem G0 pre) (hck8 ▸ hF21 3 _ V))) hP21 (by first | with_reducible assumption | exact hsm) Ze Zc) (fun _ w22 ⟨Gx_22, Gn_22, e, hg_22, hm_22, hP22⟩ => ⟨_, e, ?_⟩)
  obtain ⟨cB_22, cK_22, hcB_22, hcK_22, hP22⟩ := gen2 hP22
  have S22 := hB21 _ _ hP22
  replace S22 : St wb X (cB_22 :: cK_22 :: c17 :: c13 :: cj_3 :: ck8 :: fr) w22 := S22
  have S23 : St wb X (ck8 :: cK_22 :: cB_22 :: c17 :: c13 :: cj_3 :: fr) w22 := St.selR (l := [cB_22, cK_22, c17, c13, cj_3, ck8]) (l' := [ck8, cK_22, cB_22, c17, c13, cj_3]) (fr := fr) S22 [5, 1, 0, 2, 3, 4] Zg Zd V
  rw [hck8, hcK_22] at S23
  obtain ⟨c24, hc24, S24⟩ := gen1 (gl_app (L := (gsM G0 pre)) (M := Gn_22) S23)
  replace S24 : St wb X (c24 :: cB_22 :: c17 :: c13 :: cj_3 :: fr) w22 := S24
  refine wA (#[.int .i64 0, .bool false, .int .u64 0]) S24 (fun g25 w25 c25 hc25 S25 => ?_)
  replace S25 : St wb X (c25 :: c24 :: cB_22 :: c17 :: c13 :: cj_3 :: fr) w25 := S25
  refine xsA 0 S25 V hc25 V V V t0 (Sa t0) (fun w26 c26 hc26 S26 => ?_)
  replace S26 : St wb X (c26 :: c24 :: cB_22 :: c17 :: c13 :: cj_3 :: fr) w26 := S26
  refine W_end (Qo_normal (en (Ka (Qc F18)) fun A27 _ F27 => tk H19 (R_seq (fun _ H28 => R_seq (fun _ H29 => R_mid (G := fun A' w' => SzN A' 48 ∧ A'.defers = [] ∧ (EV A' (.tmp 0) = EV A27 (.tmp 0)) ∧ (EV A' (.tmp 2) = EV A27 (.tmp 2)) ∧ (EV A' (.tmp 3) = EV A27 (.tmp 3)) ∧ (EV A' (.tmp 4) = EV A27 (.tmp 4)) ∧ (EV A' (.tmp 6) = EV A27 (.tmp 6)) ∧ (EV A' (.tmp 8) = EV A27 (.tmp 8)) ∧ (EV A' (.tmp 9) = EV A27 (.tmp 9)) ∧ (EV A' (.tmp 10) = EV A27 (.tmp 10)) ∧ (EV A' (.tmp 11) = EV A27 (.tmp 11)) ∧ (EV A' (.tmp 12) = EV A27 (.tmp 12)) ∧ (EV A' (.tmp 36) = .bool (decide (((pre.length : Int) ∈ full) ∧ (y11.kd = 1) ∧ ((doG n (gab (lastG G0 pre)) (⟨y11.kd, y11.a, y11.b, y11.f, y11.p, y11.q, y11.u⟩ : OpC)).2.e = 0)))) ∧ St wb X (c26 :: c24 :: cB_22 :: c17 :: cj_3 :: fr) w') ?_ ?_)))))
  ·have j0_30 := (fg10 F27)
   have j2_30 := (fg9 F27)
   have j3_30 := (fg8 F27)
   have j4_30 := (fg7 F27)
   have j6_30 := (fg2 F27)
   have j8_30 := (fg1 F27)
   have j9_30 := (fg0 F27)
   have j10_30 := (fg6 F27)
   have j11_30 := (fg5 F27)
   have j12_30 := (fg4 F27)
   refine R_region om (rc (fg7 F27) (cell_box (v := .func (.func 51) #[] #[.pointer (some ⟨gc, 0, none⟩)]) (ob_at (hRd _ (hR _ _ _ 5 S26 (congrArg some hcj_3))).2.2.2.2.1) V) (vm (Sa (fg2 F27)) (W_callV V V V (Sa t0) Tryz.func51 om V (args1 t0) (kp1_c (i := (pre.length : Int)) (gfv := gc) (at_obRo (hRd _ (hR _ _ _ 5 S26 (congrArg some hcj_3))).2.2.2.2.2.1) (SlN.ro (sl_SlN (hRd _ (hR _ _ _ 5 S26 (congrArg some hcj_3))).2.2.2.2.2.2)) Zc Ze) (fun _ w31 ⟨e, hP31⟩ => ⟨_, e, ?_⟩))))
   have S31 := S26.join hP31
   replace S31 : St wb X (c26 :: c24 :: cB_22 :: c17 :: c13 :: cj_3 :: fr) w31 := S31
   refine W_split V V (V_mov V t0) (fun c32 => ?_) (fun c32 => ?_)
   ·refine wg V t0 (ufa 0 (Sd (fg3 F27))) (wq V (Sa t0) (urL (.int .i64 (y11.kd)) t0 (S31.ob 4 hc13)) (wg V (Sb t0) (uve t0 V) (vT (Sc t0) t0 (W_split V V (V_mov V t0) (fun c33 => ?_) (fun c33 => ?_)))))
    ·refine wg V t0 (ufa 0 (Sh (Sa (fg0 F27)))) (wq V (Sa t0) (urL (.int .i64 ((doG n (gab (lastG G0 pre)) (⟨y11.kd, y11.a, y11.b, y11.f, y11.p, y11.q, y11.u⟩ : OpC)).2.e)) t0 (S31.ob 0 hc26)) (wg V (Sb t0) (uve t0 V) (vT (Sc t0) t0 (W_end (Qo_normal (en (Kd (Qb (Kc (Qd F27)))) fun A34 hsz34 F34 => ?_))))))
     have S36 := S31.del 4
     replace S36 : St wb X (c26 :: c24 :: cB_22 :: c17 :: cj_3 :: fr) w31 := S36
     exact Mid_n ⟨hsz34, F34.d, ((fg17 F34).trans j0_30.symm), ((fg16 F34).trans j2_30.symm), ((fg15 F34).trans j3_30.symm), ((fg14 F34).trans j4_30.symm), ((fg9 F34).trans j6_30.symm), ((fg8 F34).trans j8_30.symm), ((fg7 F34).trans j9_30.symm), ((fg13 F34).trans j10_30.symm), ((fg12 F34).trans j11_30.symm), ((fg11 F34).trans j12_30.symm), ((fg0 F34).trans (congrArg Value.bool (decide_eq_decide.2 ⟨fun q => ⟨c32, c33, q⟩, fun q => q.2.2⟩))), S36⟩
    refine xo V t0 (xo V (Sa t0) (xo V (Sb t0) (vF (Sc t0) V (W_end (Qo_normal (en (Kd (Qb (Kc (Qd F27)))) fun A37 hsz37 F37 => ?_))))))
    have S39 := S31.del 4
    replace S39 : St wb X (c26 :: c24 :: cB_22 :: c17 :: cj_3 :: fr) w31 := S39
    exact Mid_n ⟨hsz37, F37.d, ((fg17 F37).trans j0_30.symm), ((fg16 F37).trans j2_30.symm), ((fg15 F37).trans j3_30.symm), ((fg14 F37).trans j4_30.symm), ((fg9 F37).trans j6_30.symm), ((fg8 F37).trans j8_30.symm), ((fg7 F37).trans j9_30.symm), ((fg13 F37).trans j10_30.symm), ((fg12 F37).trans j11_30.symm), ((fg11 F37).trans j12_30.symm), ((fg0 F37).trans (congrArg Value.bool ((decide_eq_false (fun q => c33 q.2.1)).symm))), S39⟩
   refine xo V t0 (xo V (Sa t0) (xo V (Sb t0) (vF (Sc t0) V (vm t0 (xo V t0 (xo V (Sa t0) (xo V (Sb t0) (vF (Sc t0) V (W_end (Qo_normal (en (Kd (Qb (Kc (Qd F27)))) fun A40 hsz40 F40 => ?_)))))))))))
   have S42 := S31.del 4
   replace S42 : St wb X (c26 :: c24 :: cB_22 :: c17 :: cj_3 :: fr) w31 := S42
   exact Mid_n ⟨hsz40, F40.d, ((fg17 F40).trans j0_30.symm), ((fg16 F40).trans j2_30.symm), ((fg15 F40).trans j3_30.symm), ((fg14 F40).trans j4_30.symm), ((fg9 F40).trans j6_30.symm), ((fg8 F40).trans j8_30.symm), ((fg7 F40).trans j9_30.symm), ((fg13 F40).trans j10_30.symm), ((fg12 F40).trans j11_30.symm), ((fg11 F40).trans j12_30.symm), ((fg0 F40).trans (congrArg Value.bool ((decide_eq_false (fun q => c32 q.1)).symm))), S42⟩
  rintro A30 w30 ⟨hsz30, hdf30, u0_30, u2_30, u3_30, u4_30, u6_30, u8_30, u9_30, u10_30, u11_30, u12_30, l36_30, S30⟩
  have l0_30 := u0_30.trans (fg10 F27)
  have l2_30 := u2_30.trans (fg9 F27)
  have l3_30 := u3_30.trans (fg8 F27)
  have l4_30 := u4_30.trans (fg7 F27)
  have l6_30 := u6_30.trans (fg2 F27)
  have l8_30 := u8_30.trans (fg1 F27)
  have l9_30 := u9_30.trans (fg0 F27)
  have l10_30 := u10_30.trans (fg6 F27)
  have l11_30 := u11_30.trans (fg5 F27)
  have l12_30 := u12_30.trans (fg4 F27)
  refine tk H29 (R_cond_dec l36_30 (fun c43 => ?_) (fun c43 => ?_))
  ·refine R_region om (rc l2_30 (cell_box (v := .pointer (some ⟨gs, 0, none⟩)) (ob_at (hRd _ (hR _ _ _ 4 S30 (congrArg some hcj_3))).2.2.1) V) (ra (Sa l8_30) (S30.ob 3 hc17) (wv (xbS (n := 3) (z := .agg #[.int .i64 0, .bool false, .int .u64 0]) V (parts1 V)) (ni (Sb t0) (fa 0 t0 (W_stAM (ys := [(lastG G0 pre).1.1, (lastG G0 pre).2.1]) (zs' := #[(lastG G0 pre).1.1, (lastG G0 pre).2.1, .int .i64 (n)]) 2 S30 V hcB_22 V V V t0 (Sc t0) (by intro u hu; simp only [List.mem_cons, List.not_mem_nil, or_false] at hu; rcases hu with rfl | rfl <;> first | exact SlN_one (sl_SlN (gl_oa (List.mem_append_left _ (lastG_mem G0 pre)) (S30.cq 1 hc24))) | exact SlN_one (sl_SlN (gl_ra (List.mem_append_left _ (lastG_mem G0 pre)) (S30.cq 1 hc24)))) Zj om V (fun w44 c44 hc44 S44 => ?_)))))))
   replace S44 : St wb X (c26 :: c24 :: c44 :: c17 :: cj_3 :: fr) w44 := S44
   refine xsA 0 S44 V hc26 V V V (Se l9_30) (Sb t0) (fun w45 c45 hc45 S45 => ?_)
   replace S45 : St wb X (c45 :: c24 :: c44 :: c17 :: cj_3 :: fr) w45 := S45
   refine W_end (Qo_normal (en (((((((((((cq5 (FS.n hdf30) V)).c (es5 V l0_30)).c (es5 V l2_30)).c (es5 V l3_30)).c (es5 V l4_30)).c (es5 V l6_30)).c (es5 V l9_30)).c (es5 V l10_30)).c (es5 V l11_30)).c (Se l12_30)) fun A46 _ F46 => ?_))
   have S48 := S45.del 3
   replace S48 : St wb X (c45 :: c24 :: c44 :: cj_3 :: fr) w45 := S48
   refine tk H28 (R_seq (fun _ H49 => R_regionI (I_v V V Zd (V_mov V (fg8 F46)) (I_v V V Zd (V_mov V (Sa (fg4 F46))) (I_r V V Zd (VR_ldA V (Sb (fg3 F46)) (S48.ob 0 hc45) Tryz.underlying54 V om) ?_)))))
   have hT22 : Tr n (fun k : Nat => decide ((k : Int) ∈ full)) G0 os (pre ++ [((pre.length : Int), AnC.mk 5 false 0, (lastG G0 pre))]) := Tr.step hT hy11 V (by exact (stp_1 (mx := n) (rb := decide ((pre.length : Int) ∈ full)) (g := gab (lastG G0 pre)) (c := y11) ⟨decide_eq_true c43.1, c43.2.1, c43.2.2⟩).symm)
   have S50 : St wb X (c24 :: c45 :: c44 :: cj_3 :: fr) w45 := St.selR (l := [c45, c24, c44, cj_3]) (l' := [c24, c45, c44, cj_3]) (fr := fr) S48 [1, 0, 2, 3] Zg Zd V
   rw [hc24] at S50
   obtain ⟨c51, hc51, S51⟩ := gen1 (gl_subS (M := (gsM G0 (pre ++ [((pre.length : Int), AnC.mk 5 false 0, (lastG G0 pre))]))) S50 (gsM_sub (fun G hG => List.mem_append_left _ hG) (List.mem_append_left _ (lastG_mem G0 pre))))
   replace S51 : St wb X (c51 :: c45 :: c44 :: cj_3 :: fr) w45 := S51
   have S52 : St wb X (cj_3 :: c44 :: c51 :: c45 :: fr) w45 := St.selR (l := [c51, c45, c44, cj_3]) (l' := [cj_3, c44, c51, c45]) (fr := fr) S51 [3, 2, 0, 1] Zg Zd V
   have S53 := mT_shut (pre := (pre ++ [((pre.length : Int), AnC.mk 5 false 0, (lastG G0 pre))])) (hc44.trans (by rw [lastG_app])) hc51 S52
   rw [hcj_3] at S53
   refine I_yield V V Zd (hY pre ((pre.length : Int), AnC.mk 5 false 0, (lastG G0 pre)) _ _ S53 hT22) (fun res hr => run_yield2 V (Sb t0) (Sa t0) t0 hr) ?_
   rintro _ w53 (⟨rfl, S53⟩ | ⟨rfl, S53⟩)
   ·refine ⟨_, rfl, ?_⟩
    obtain ⟨cj53, ct53, hcj53, hct53, S53⟩ := gen2 S53
    replace S53 : St wb X (cj53 :: ct53 :: c45 :: fr) w53 := S53
    refine I_up om (wv (V_notT V t0) (W_end (Qo_normal (en (Ka (Qd F46)) fun A55 _ F55 => ?_))))
    have S57 := S53.del 2
    replace S57 : St wb X (cj53 :: ct53 :: fr) w53 := S57
    refine tk H49 (R_cond_f (fg0 F55) (R_skip (inb_n (tk H9 (R_region om (ad (fg1 F55) V (vm t0 (W_end (Qo_normal (en (Ka (Qa (fx1 F55))) fun A58 hsz58 F58 => then_n ⟨os.length - (pre ++ [((pre.length : Int), AnC.mk 5 false 0, (lastG G0 pre))]).length, by simp only [hm3, List.length_append, List.length_singleton]; omega, hsz58, F58.d, (pre ++ [((pre.length : Int), AnC.mk 5 false 0, (lastG G0 pre))]), rfl, hT22, ((fg0 F58).trans (by simp only [List.length_append, List.length_singleton]; congr 1)), ((fg9 F58).trans (fg3 F2).symm), ((fg8 F58).trans (fg2 F2).symm), ((fg7 F58).trans (fg1 F2).symm), ((fg6 F58).trans (fg0 F2).symm), ((fg3 F58).trans (fg6 F2).symm), ((fg2 F58).trans (fg5 F2).symm), (by subst hcj53 hct53; exact S57)⟩))))))))))
   refine ⟨_, rfl, ?_⟩
   obtain ⟨cj53, ct53, hcj53, hct53, S53⟩ := gen2 S53
   replace S53 : St wb X (cj53 :: ct53 :: c45 :: fr) w53 := S53
   refine I_up om (wv (V_notF V t0) (W_end (Qo_normal (en (Ka (Qd F46)) fun A59 _ F59 => ?_))))
   have S61 := S53.del 2
   replace S61 : St wb X (cj53 :: ct53 :: fr) w53 := S61
   refine tk H49 (R_cond_t (fg0 F59) (R_ret (inb_ret (then_ret (then_ret (inb_ret (ret_inR0 (results_0 Tryz.results90) F59.d ?_)))))))
   exact ⟨⟨_, rfl⟩, .inr ⟨_, hT22, by subst hcj53 hct53; exact S61⟩⟩
  refine R_skip (tk H28 (R_seq (fun _ H62 => R_regionI (I_v V V Zd (V_mov V l0_30) (I_v V V Zd (V_mov V (Sa l6_30)) (I_r V V Zd (VR_ldA V (Sb l9_30) (S30.ob 0 hc26) Tryz.underlying54 V om) ?_))))))
  have hT22 : Tr n (fun k : Nat => decide ((k : Int) ∈ full)) G0 os (pre ++ [((pre.length : Int), AnC.mk ((doG n (gab (lastG G0 pre)) (⟨y11.kd, y11.a, y11.b, y11.f, y11.p, y11.q, y11.u⟩ : OpC)).2.e) ((doG n (gab (lastG G0 pre)) (⟨y11.kd, y11.a, y11.b, y11.f, y11.p, y11.q, y11.u⟩ : OpC)).2.t) ((doG n (gab (lastG G0 pre)) (⟨y11.kd, y11.a, y11.b, y11.f, y11.p, y11.q, y11.u⟩ : OpC)).2.v), Gx_22)]) := Tr.step hT hy11 V (by exact (Prod.ext hg_22 V : (gab Gx_22, (doG n (gab (lastG G0 pre)) y11).2) = doG n (gab (lastG G0 pre)) y11).trans (stp_0 (mx := n) (rb := decide ((pre.length : Int) ∈ full)) (g := gab (lastG G0 pre)) (c := y11) (fun q => c43 ⟨of_decide_eq_true q.1, q.2⟩)).symm)
  have S63 : St wb X (c24 :: c26 :: cB_22 :: c17 :: cj_3 :: fr) w30 := St.selR (l := [c26, c24, cB_22, c17, cj_3]) (l' := [c24, c26, cB_22, c17, cj_3]) (fr := fr) S30 [1, 0, 2, 3, 4] Zg Zd V
  rw [hc24] at S63
  obtain ⟨c64, hc64, S64⟩ := gen1 (gl_subS (M := (gsM G0 (pre ++ [((pre.length : Int), AnC.mk ((doG n (gab (lastG G0 pre)) (⟨y11.kd, y11.a, y11.b, y11.f, y11.p, y11.q, y11.u⟩ : OpC)).2.e) ((doG n (gab (lastG G0 pre)) (⟨y11.kd, y11.a, y11.b, y11.f, y11.p, y11.q, y11.u⟩ : OpC)).2.t) ((doG n (gab (lastG G0 pre)) (⟨y11.kd, y11.a, y11.b, y11.f, y11.p, y11.q, y11.u⟩ : OpC)).2.v), Gx_22)]))) S63 (gsM_sub (fun G hG => List.mem_append_left _ hG) (gm_mem (lastG_mem G0 pre) hm_22)))
  replace S64 : St wb X (c64 :: c26 :: cB_22 :: c17 :: cj_3 :: fr) w30 := S64
  have S65 : St wb X (cj_3 :: cB_22 :: c64 :: c26 :: c17 :: fr) w30 := St.selR (l := [c64, c26, cB_22, c17, cj_3]) (l' := [cj_3, cB_22, c64, c26, c17]) (fr := fr) S64 [4, 2, 0, 1, 3] Zg Zd V
  have S66 := mT_shut (pre := (pre ++ [((pre.length : Int), AnC.mk ((doG n (gab (lastG G0 pre)) (⟨y11.kd, y11.a, y11.b, y11.f, y11.p, y11.q, y11.u⟩ : OpC)).2.e) ((doG n (gab (lastG G0 pre)) (⟨y11.kd, y11.a, y11.b, y11.f, y11.p, y11.q, y11.u⟩ : OpC)).2.t) ((doG n (gab (lastG G0 pre)) (⟨y11.kd, y11.a, y11.b, y11.f, y11.p, y11.q, y11.u⟩ : OpC)).2.v), Gx_22)])) (hcB_22.trans (by rw [lastG_app])) hc64 S65
  rw [hcj_3] at S66
  refine I_yield V V Zd (hY pre ((pre.length : Int), AnC.mk ((doG n (gab (lastG G0 pre)) (⟨y11.kd, y11.a, y11.b, y11.f, y11.p, y11.q, y11.u⟩ : OpC)).2.e) ((doG n (gab (lastG G0 pre)) (⟨y11.kd, y11.a, y11.b, y11.f, y11.p, y11.q, y11.u⟩ : OpC)).2.t) ((doG n (gab (lastG G0 pre)) (⟨y11.kd, y11.a, y11.b, y11.f, y11.p, y11.q, y11.u⟩ : OpC)).2.v), Gx_22) _ _ S66 hT22) (fun res hr => run_yield2 V (Sb t0) (Sa t0) t0 hr) ?_
  rintro _ w66 (⟨rfl, S66⟩ | ⟨rfl, S66⟩)
  ·refine ⟨_, rfl, ?_⟩
   obtain ⟨cj66, ct66, hcj66, hct66, S66⟩ := gen2 S66
   replace S66 : St wb X (cj66 :: ct66 :: c26 :: c17 :: fr) w66 := S66
   refine I_up om (wv (V_notT V t0) (W_end (Qo_normal (en (((((((((ck (cq4 (FS.n hdf30) V) V V)).c (es5 V l0_30)).c (es5 V l2_30)).c (es5 V l3_30)).c (es5 V l4_30)).c (es5 V l10_30)).c (es5 V l11_30)).c (Se l12_30)) fun A68 _ F68 => ?_))))
   have S70 := S66.del 2
   replace S70 : St wb X (cj66 :: ct66 :: c17 :: fr) w66 := S70
   have S71 := S70.del 2
   replace S71 : St wb X (cj66 :: ct66 :: fr) w66 := S71
   refine tk H62 (R_cond_f (fg7 F68) (R_skip (inb_n (tk H9 (R_region om (ad (fg0 F68) V (vm t0 (W_end (Qo_normal (en (Ka (Qa (fx0 F68))) fun A72 hsz72 F72 => then_n ⟨os.length - (pre ++ [((pre.length : Int), AnC.mk ((doG n (gab (lastG G0 pre)) (⟨y11.kd, y11.a, y11.b, y11.f, y11.p, y11.q, y11.u⟩ : OpC)).2.e) ((doG n (gab (lastG G0 pre)) (⟨y11.kd, y11.a, y11.b, y11.f, y11.p, y11.q, y11.u⟩ : OpC)).2.t) ((doG n (gab (lastG G0 pre)) (⟨y11.kd, y11.a, y11.b, y11.f, y11.p, y11.q, y11.u⟩ : OpC)).2.v), Gx_22)]).length, by simp only [hm3, List.length_append, List.length_singleton]; omega, hsz72, F72.d, (pre ++ [((pre.length : Int), AnC.mk ((doG n (gab (lastG G0 pre)) (⟨y11.kd, y11.a, y11.b, y11.f, y11.p, y11.q, y11.u⟩ : OpC)).2.e) ((doG n (gab (lastG G0 pre)) (⟨y11.kd, y11.a, y11.b, y11.f, y11.p, y11.q, y11.u⟩ : OpC)).2.t) ((doG n (gab (lastG G0 pre)) (⟨y11.kd, y11.a, y11.b, y11.f, y11.p, y11.q, y11.u⟩ : OpC)).2.v), Gx_22)]), rfl, hT22, ((fg0 F72).trans (by simp only [List.length_append, List.length_singleton]; congr 1)), ((fg6 F72).trans (fg3 F2).symm), ((fg5 F72).trans (fg2 F2).symm), ((fg4 F72).trans (fg1 F2).symm), ((fg3 F72).trans (fg0 F2).symm), ((fg2 F72).trans (fg6 F2).symm), ((fg1 F72).trans (fg5 F2).symm), (by subst hcj66 hct66; exact S71)⟩))))))))))
  refine ⟨_, rfl, ?_⟩
  obtain ⟨cj66, ct66, hcj66, hct66, S66⟩ := gen2 S66
  replace S66 : St wb X (cj66 :: ct66 :: c26 :: c17 :: fr) w66 := S66
  refine I_up om (wv (V_notF V t0) (W_end (Qo_normal (en (((((((((ck (cq4 (FS.n hdf30) V) V V)).c (es5 V l0_30)).c (es5 V l2_30)).c (es5 V l3_30)).c (es5 V l4_30)).c (es5 V l10_30)).c (es5 V l11_30)).c (Se l12_30)) fun A73 _ F73 => ?_))))
  have S75 := S66.del 2
  replace S75 : St wb X (cj66 :: ct66 :: c17 :: fr) w66 := S75
  have S76 := S75.del 2
  replace S76 : St wb X (cj66 :: ct66 :: fr) w66 := S76
  refine tk H62 (R_cond_t (fg7 F73) (R_ret (inb_ret (then_ret (then_ret (inb_ret (ret_inR0 (results_0 Tryz.results90) F73.d ?_)))))))
  exact ⟨⟨_, rfl⟩, .inr ⟨_, hT22, by subst hcj66 hct66; exact S76⟩⟩
 refine R_exit (then_exit (then_exit (inb_hit (ret_inR0 (results_0 Tryz.results90) F5.d ?_))))
 exact ⟨⟨_, rfl⟩, .inl ⟨_, ⟨hT, by omega⟩, by subst hcj_3 hct_3; exact S3⟩⟩

set_option maxHeartbeats 4000000 in
theorem kmoJ_it {gs g3 g4 g5 g7 gc : Nat} {G0 : GV} {n : Int} {lv : Value} {os : List OpC} {av : Value} {ans : List AnC} {Rd : World → Prop} (hRd : ∀ W, Rd W → (bx g4 24 #[lv]).at W ∧ (rl 7 opC lv os).at W ∧ (bx g3 75 #[.pointer (some ⟨gs, 0, none⟩)]).at W ∧ (bx g7 78 #[.func (.func 38) #[.pointer (some ⟨gs, 0, none⟩)] #[]]).at W ∧ (bx g5 88 #[.func (.func 46) #[] #[.pointer (some ⟨gc, 0, none⟩)]]).at W ∧ (bx gc 31 #[av]).at W ∧ (rl 3 anC av ans).at W) (hsm0 : SM (gab G0).1) (hn : 0 ≤ n ∧ n ≤ 32) (hops : ∀ c ∈ os, opE c = 0) (hol : os.length ≤ 200) (hal : os.length ≤ ans.length) :
  IterT (α := ME) Tryz.prog 90 #[.pointer (some ⟨g4, 0, none⟩), .pointer (some ⟨g3, 0, none⟩), .pointer (some ⟨g7, 0, none⟩), .pointer (some ⟨g5, 0, none⟩)] encM (fun xs => Tr n (fun k : Nat => decide ((ans.getD k (AnC.mk 0 false 0)).e = 5)) G0 os xs ∧ os.length ≤ xs.length) (Tr n (fun k : Nat => decide ((ans.getD k (AnC.mk 0 false 0)).e = 5)) G0 os) (Tr n (fun k : Nat => decide ((ans.getD k (AnC.mk 0 false 0)).e = 5)) G0 os) (mT gs 77 n G0) Rd := by
 intro l wb X fr J Jx w hR hY hS
 obtain ⟨cj, ct, hcj, hct, hS⟩ := gen2 hS
 refine calls_inR 48 Tryz.func90 V V Zj (fun A0 hsz0 hdf0 hargs => ?_)
 have l0_0 := hargs 0 (.func (.yield l) #[] #[]) V
 have l1_0 := hargs 1 (.pointer (some ⟨g4, 0, none⟩)) V
 have l2_0 := hargs 2 (.pointer (some ⟨g3, 0, none⟩)) V
 have l3_0 := hargs 3 (.pointer (some ⟨g7, 0, none⟩)) V
 have l4_0 := hargs 4 (.pointer (some ⟨g5, 0, none⟩)) V
 clear hargs; replace hsz0 : SzN A0 48 := ⟨hsz0⟩
 have bh_lv := SlN.le (sl_SlN (hRd _ (hR _ _ _ 0 hS (congrArg some hcj))).2.1)
 have bh_av := SlN.le (sl_SlN (hRd _ (hR _ _ _ 0 hS (congrArg some hcj))).2.2.2.2.2.2)
 refine R_seq (fun _ H1 => R_region om (rc l1_0 (cell_box (v := lv) (ob_at (hRd _ (hR _ _ _ 0 hS (congrArg some hcj))).1) V) (le_ t0 (sl_SlN (hRd _ (hR _ _ _ 0 hS (congrArg some hcj))).2.1) (vm V (W_end (Qo_normal (en ((((((ck (ck (ck (FS.n hdf0) V V) V V) V V)).c (es3 V l0_0)).c (es3 V l2_0)).c (es3 V l3_0)).c (Sc l4_0)) fun A2 hsz2 F2 => tk H1 (R_block ?_))))))))
 -- loop 1
 refine R_loop (fun mz A' w' => SzN A' 48 ∧ A'.defers = [] ∧ (∃ (pre : List ME), (mz = os.length - pre.length) ∧ (Tr n (fun k : Nat => decide ((ans.getD k (AnC.mk 0 false 0)).e = 5)) G0 os pre) ∧ (EV A' (.tmp 12) = .int .i64 (pre.length : Int)) ∧ (EV A' (.tmp 0) = EV A2 (.tmp 0)) ∧ (EV A' (.tmp 2) = EV A2 (.tmp 2)) ∧ (EV A' (.tmp 3) = EV A2 (.tmp 3)) ∧ (EV A' (.tmp 4) = EV A2 (.tmp 4)) ∧ (EV A' (.tmp 10) = EV A2 (.tmp 10)) ∧ (EV A' (.tmp 11) = EV A2 (.tmp 11)) ∧ (St wb X ((J pre) :: (mT gs 77 n G0 pre) :: fr) w'))) (os.length - [].length) ⟨hsz2, F2.d, [], rfl, (Tr.nil hsm0), ((fg4 F2).trans (rfl)), rfl, rfl, rfl, rfl, rfl, rfl, (by subst hcj hct; exact hS)⟩ ?_
 clear hS hcj hct
 rintro n3 A3 w3 ⟨hsz3, hdf3, pre, hm3, hT, l12_3, u0_3, u2_3, u3_3, u4_3, u10_3, u11_3, S3⟩
 have l0_3 := u0_3.trans (fg3 F2)
 have l2_3 := u2_3.trans (fg2 F2)
 have l3_3 := u3_3.trans (fg1 F2)
 have l4_3 := u4_3.trans (fg0 F2)
 have l10_3 := u10_3.trans (fg6 F2)
 have l11_3 := u11_3.trans (fg5 F2)
 obtain ⟨cj_3, ct_3, hcj_3, hct_3, S3⟩ := gen2 S3
 refine R_seq (fun _ H4 => R_region om (vl l12_3 l11_3 (W_end (Qo_normal (en (((((((((ck (FS.n hdf3) V V)).c (es V l0_3)).c (es V l2_3)).c (es V l3_3)).c (es V l4_3)).c (es V l10_3)).c (es V l11_3)).c (Sa l12_3)) fun A5 _ F5 => tk H4 (R_seq (fun _ H6 => R_cond_dec (fg7 F5) (fun c7 => ?_) (fun c7 => ?_))))))))
 ·have hsm := hT.sm
  obtain ⟨cb8, ck8, hcb8, hck8, S8⟩ := mT_open (hct_3 ▸ S3)
  replace S8 : St wb X (cj_3 :: cb8 :: ck8 :: fr) w3 := S8
  refine R_skip (tk H6 (R_seq (fun _ H9 => R_block (R_seq (fun _ H10 => R_region om (vm (fg0 F5) ?_))))))
  have k11 : pre.length < os.length := by first | omega | (simp only [List.length_cons, List.length_nil]; omega) | (simp only [List.length_set]; omega) | decide
  obtain ⟨y11, hy11⟩ := get_some (xs := os) (k := pre.length) k11
  have hop11 := hops y11 (List.mem_of_getElem? hy11)
  obtain ⟨B11, O11, C11, hv11⟩ := (SlN.blk (sl_SlN (hRd _ (hR _ _ _ 0 S8 (congrArg some hcj_3))).2.1) kr)
  refine wv (V_ixS (off := O11 + pre.length * 7) 7 pre.length V (Sa (fg2 F5)) (Sa (fg0 F5)) hv11 Za k11 Tryz.underlying24 om V) (wr (VR_ldR (ys := opC y11) V t0 (SlN.row opC_len (sl_SlN (hRd _ (hR _ _ _ 0 S8 (congrArg some hcj_3))).2.1) hv11 hy11 V) Tryz.underlying50 V om) (wA (#[.int .i64 0, .int .i64 0, .int .i64 0, .int .i64 0, .int .i64 0, .int .i64 0, .int .u64 0]) S8 (fun g12 w12 c12 hc12 S12 => ?_)))
  replace S12 : St wb X (c12 :: cj_3 :: cb8 :: ck8 :: fr) w12 := S12
  refine va (Sc t0) (xsA 0 S12 V hc12 V V V (Sa t0) (Sb t0) (fun w13 c13 hc13 S13 => ?_))
  replace S13 : St wb X (c13 :: cj_3 :: cb8 :: ck8 :: fr) w13 := S13
  refine W_end (Qo_normal (en (Kb (Qc F5)) fun A14 _ F14 => tk H10 (R_seq (fun _ H15 => R_region om (rc (fg7 F14) (cell_box (v := .pointer (some ⟨gs, 0, none⟩)) (ob_at (hRd _ (hR _ _ _ 1 S13 (congrArg some hcj_3))).2.2.1) V) (ni t0 (fa 0 t0 (wr (VR_ldP (ys := [(lastG G0 pre).1.1, (lastG G0 pre).2.1]) V t0 (S13.ob 2 hcb8) (ldP_at V) Tryz.underlying30 V om) (wA (#[.slice none 0 0, .slice none 0 0]) S13 (fun g16 w16 c16 hc16 S16 => ?_))))))))))
  replace S16 : St wb X (c16 :: c13 :: cj_3 :: cb8 :: ck8 :: fr) w16 := S16
  refine xsB 0 S16 V hc16 V V V t0 (Sa t0) (by simp only [List.all_toArray, List.all_cons, List.all_nil, SlN_one (sl_SlN (gl_oa (lastG_mem G0 pre) (S16.cq 4 hck8))), SlN_one (sl_SlN (gl_ra (lastG_mem G0 pre) (S16.cq 4 hck8)))] <;> rfl) (fun w17 c17 hc17 S17 => ?_)
  replace S17 : St wb X (c17 :: c13 :: cj_3 :: cb8 :: ck8 :: fr) w17 := S17
  refine W_end (Qo_normal (en (Ka (Qd F14)) fun A18 _ F18 => tk H15 (R_seq (fun _ H19 => R_region om (rc (fg7 F18) (cell_box (v := .func (.func 38) #[.pointer (some ⟨gs, 0, none⟩)] #[]) (ob_at (hRd _ (hR _ _ _ 2 S17 (congrArg some hcj_3))).2.2.2.1) V) (ra (Sa (fg2 F18)) (S17.ob 1 hc13) ?_))))))
  have S20 : St wb X (cb8 :: c17 :: c13 :: cj_3 :: ck8 :: fr) w17 := St.selR (l := [c17, c13, cj_3, cb8, ck8]) (l' := [cb8, c17, c13, cj_3, ck8]) (fr := fr) S17 [3, 0, 1, 2, 4] Zg Zd V
  obtain ⟨Y21, hP21, hR21, hF21, hB21⟩ := St.call (pre := [cb8]) (fr := (c17 :: c13 :: cj_3 :: ck8 :: fr)) S20
  rw [hcb8] at hP21
  refine W_callB V V V (Sa t0) Tryz.func38 om V (args1 t0) (kdo_c (G := (lastG G0 pre)) (kd := y11.kd) (a := y11.a) (b := y11.b) (f := y11.f) (p := y11.p) (q := y11.q) (uu := y11.u) (gl_mk (gl_oaR (lastG_mem G0 pre) (hck8 ▸ hF21 3 _ V)) (gl_naR (lastG_mem G0 pre) (hck8 ▸ hF21 3 _ V)) (gl_raR (lastG_mem G0 pre) (hck8 ▸ hF21 3 _ V))) hP21 (by first | with_reducible assumption | exact hsm) Ze Zc) (fun _ w22 ⟨Gx_22, Gn_22, e, hg_22, hm_22, hP22⟩ => ⟨_, e, ?_⟩)
  obtain ⟨cB_22, cK_22, hcB_22, hcK_22, hP22⟩ := gen2 hP22
  have S22 := hB21 _ _ hP22
  replace S22 : St wb X (cB_22 :: cK_22 :: c17 :: c13 :: cj_3 :: ck8 :: fr) w22 := S22
  have S23 : St wb X (ck8 :: cK_22 :: cB_22 :: c17 :: c13 :: cj_3 :: fr) w22 := St.selR (l := [cB_22, cK_22, c17, c13, cj_3, ck8]) (l' := [ck8, cK_22, cB_22, c17, c13, cj_3]) (fr := fr) S22 [5, 1, 0, 2, 3, 4] Zg Zd V
  rw [hck8, hcK_22] at S23
  obtain ⟨c24, hc24, S24⟩ := gen1 (gl_app (L := (gsM G0 pre)) (M := Gn_22) S23)
  replace S24 : St wb X (c24 :: cB_22 :: c17 :: c13 :: cj_3 :: fr) w22 := S24
  refine wA (#[.int .i64 0, .bool false, .int .u64 0]) S24 (fun g25 w25 c25 hc25 S25 => ?_)
  replace S25 : St wb X (c25 :: c24 :: cB_22 :: c17 :: c13 :: cj_3 :: fr) w25 := S25
  refine xsA 0 S25 V hc25 V V V t0 (Sa t0) (fun w26 c26 hc26 S26 => ?_)
  replace S26 : St wb X (c26 :: c24 :: cB_22 :: c17 :: c13 :: cj_3 :: fr) w26 := S26
  refine W_end (Qo_normal (en (Ka (Qc F18)) fun A27 _ F27 => tk H19 (R_seq (fun _ H28 => R_seq (fun _ H29 => R_mid (G := fun A' w' => SzN A' 48 ∧ A'.defers = [] ∧ (EV A' (.tmp 0) = EV A27 (.tmp 0)) ∧ (EV A' (.tmp 2) = EV A27 (.tmp 2)) ∧ (EV A' (.tmp 3) = EV A27 (.tmp 3)) ∧ (EV A' (.tmp 4) = EV A27 (.tmp 4)) ∧ (EV A' (.tmp 6) = EV A27 (.tmp 6)) ∧ (EV A' (.tmp 8) = EV A27 (.tmp 8)) ∧ (EV A' (.tmp 9) = EV A27 (.tmp 9)) ∧ (EV A' (.tmp 10) = EV A27 (.tmp 10)) ∧ (EV A' (.tmp 11) = EV A27 (.tmp 11)) ∧ (EV A' (.tmp 12) = EV A27 (.tmp 12)) ∧ (EV A' (.tmp 36) = .bool (decide (((ans.getD pre.length (AnC.mk 0 false 0)).e = 5) ∧ (y11.kd = 1) ∧ ((doG n (gab (lastG G0 pre)) (⟨y11.kd, y11.a, y11.b, y11.f, y11.p, y11.q, y11.u⟩ : OpC)).2.e = 0)))) ∧ St wb X (c26 :: c24 :: cB_22 :: c17 :: cj_3 :: fr) w') ?_ ?_)))))
  ·have j0_30 := (fg10 F27)
   have j2_30 := (fg9 F27)
   have j3_30 := (fg8 F27)
   have j4_30 := (fg7 F27)
   have j6_30 := (fg2 F27)
   have j8_30 := (fg1 F27)
   have j9_30 := (fg0 F27)
   have j10_30 := (fg6 F27)
   have j11_30 := (fg5 F27)
   have j12_30 := (fg4 F27)
   refine R_region om (rc (fg7 F27) (cell_box (v := .func (.func 46) #[] #[.pointer (some ⟨gc, 0, none⟩)]) (ob_at (hRd _ (hR _ _ _ 5 S26 (congrArg some hcj_3))).2.2.2.2.1) V) (vm (Sa (fg2 F27)) (W_callV V V V (Sa t0) Tryz.func46 om V (args1 t0) (kj1_c (i := (pre.length : Int)) (gav := gc) (at_obRo (hRd _ (hR _ _ _ 5 S26 (congrArg some hcj_3))).2.2.2.2.2.1) (SlN.ro (sl_SlN (hRd _ (hR _ _ _ 5 S26 (congrArg some hcj_3))).2.2.2.2.2.2)) Ze) (fun _ w31 ⟨e, hP31⟩ => ⟨_, e, ?_⟩))))
   have S31 := S26.join hP31
   replace S31 : St wb X (c26 :: c24 :: cB_22 :: c17 :: c13 :: cj_3 :: fr) w31 := S31
   refine W_split V V (V_mov V t0) (fun c32 => ?_) (fun c32 => ?_)
   ·refine wg V t0 (ufa 0 (Sd (fg3 F27))) (wq V (Sa t0) (urL (.int .i64 (y11.kd)) t0 (S31.ob 4 hc13)) (wg V (Sb t0) (uve t0 V) (vT (Sc t0) t0 (W_split V V (V_mov V t0) (fun c33 => ?_) (fun c33 => ?_)))))
    ·refine wg V t0 (ufa 0 (Sh (Sa (fg0 F27)))) (wq V (Sa t0) (urL (.int .i64 ((doG n (gab (lastG G0 pre)) (⟨y11.kd, y11.a, y11.b, y11.f, y11.p, y11.q, y11.u⟩ : OpC)).2.e)) t0 (S31.ob 0 hc26)) (wg V (Sb t0) (uve t0 V) (vT (Sc t0) t0 (W_end (Qo_normal (en (Kd (Qb (Kc (Qd F27)))) fun A34 hsz34 F34 => ?_))))))
     have S36 := S31.del 4
     replace S36 : St wb X (c26 :: c24 :: cB_22 :: c17 :: cj_3 :: fr) w31 := S36
     exact Mid_n ⟨hsz34, F34.d, ((fg17 F34).trans j0_30.symm), ((fg16 F34).trans j2_30.symm), ((fg15 F34).trans j3_30.symm), ((fg14 F34).trans j4_30.symm), ((fg9 F34).trans j6_30.symm), ((fg8 F34).trans j8_30.symm), ((fg7 F34).trans j9_30.symm), ((fg13 F34).trans j10_30.symm), ((fg12 F34).trans j11_30.symm), ((fg11 F34).trans j12_30.symm), ((fg0 F34).trans (congrArg Value.bool (decide_eq_decide.2 ⟨fun q => ⟨c32, c33, q⟩, fun q => q.2.2⟩))), S36⟩
    refine xo V t0 (xo V (Sa t0) (xo V (Sb t0) (vF (Sc t0) V (W_end (Qo_normal (en (Kd (Qb (Kc (Qd F27)))) fun A37 hsz37 F37 => ?_))))))
    have S39 := S31.del 4
    replace S39 : St wb X (c26 :: c24 :: cB_22 :: c17 :: cj_3 :: fr) w31 := S39
    exact Mid_n ⟨hsz37, F37.d, ((fg17 F37).trans j0_30.symm), ((fg16 F37).trans j2_30.symm), ((fg15 F37).trans j3_30.symm), ((fg14 F37).trans j4_30.symm), ((fg9 F37).trans j6_30.symm), ((fg8 F37).trans j8_30.symm), ((fg7 F37).trans j9_30.symm), ((fg13 F37).trans j10_30.symm), ((fg12 F37).trans j11_30.symm), ((fg11 F37).trans j12_30.symm), ((fg0 F37).trans (congrArg Value.bool ((decide_eq_false (fun q => c33 q.2.1)).symm))), S39⟩
   refine xo V t0 (xo V (Sa t0) (xo V (Sb t0) (vF (Sc t0) V (vm t0 (xo V t0 (xo V (Sa t0) (xo V (Sb t0) (vF (Sc t0) V (W_end (Qo_normal (en (Kd (Qb (Kc (Qd F27)))) fun A40 hsz40 F40 => ?_)))))))))))
   have S42 := S31.del 4
   replace S42 : St wb X (c26 :: c24 :: cB_22 :: c17 :: cj_3 :: fr) w31 := S42
   exact Mid_n ⟨hsz40, F40.d, ((fg17 F40).trans j0_30.symm), ((fg16 F40).trans j2_30.symm), ((fg15 F40).trans j3_30.symm), ((fg14 F40).trans j4_30.symm), ((fg9 F40).trans j6_30.symm), ((fg8 F40).trans j8_30.symm), ((fg7 F40).trans j9_30.symm), ((fg13 F40).trans j10_30.symm), ((fg12 F40).trans j11_30.symm), ((fg11 F40).trans j12_30.symm), ((fg0 F40).trans (congrArg Value.bool ((decide_eq_false (fun q => c32 q.1)).symm))), S42⟩
  rintro A30 w30 ⟨hsz30, hdf30, u0_30, u2_30, u3_30, u4_30, u6_30, u8_30, u9_30, u10_30, u11_30, u12_30, l36_30, S30⟩
  have l0_30 := u0_30.trans (fg10 F27)
  have l2_30 := u2_30.trans (fg9 F27)
  have l3_30 := u3_30.trans (fg8 F27)
  have l4_30 := u4_30.trans (fg7 F27)
  have l6_30 := u6_30.trans (fg2 F27)
  have l8_30 := u8_30.trans (fg1 F27)
  have l9_30 := u9_30.trans (fg0 F27)
  have l10_30 := u10_30.trans (fg6 F27)
  have l11_30 := u11_30.trans (fg5 F27)
  have l12_30 := u12_30.trans (fg4 F27)
  refine tk H29 (R_cond_dec l36_30 (fun c43 => ?_) (fun c43 => ?_))
  ·refine R_region om (rc l2_30 (cell_box (v := .pointer (some ⟨gs, 0, none⟩)) (ob_at (hRd _ (hR _ _ _ 4 S30 (congrArg some hcj_3))).2.2.1) V) (ra (Sa l8_30) (S30.ob 3 hc17) (wv (xbS (n := 3) (z := .agg #[.int .i64 0, .bool false, .int .u64 0]) V (parts1 V)) (ni (Sb t0) (fa 0 t0 (W_stAM (ys := [(lastG G0 pre).1.1, (lastG G0 pre).2.1]) (zs' := #[(lastG G0 pre).1.1, (lastG G0 pre).2.1, .int .i64 (n)]) 2 S30 V hcB_22 V V V t0 (Sc t0) (by intro u hu; simp only [List.mem_cons, List.not_mem_nil, or_false] at hu; rcases hu with rfl | rfl <;> first | exact SlN_one (sl_SlN (gl_oa (List.mem_append_left _ (lastG_mem G0 pre)) (S30.cq 1 hc24))) | exact SlN_one (sl_SlN (gl_ra (List.mem_append_left _ (lastG_mem G0 pre)) (S30.cq 1 hc24)))) Zj om V (fun w44 c44 hc44 S44 => ?_)))))))
   replace S44 : St wb X (c26 :: c24 :: c44 :: c17 :: cj_3 :: fr) w44 := S44
   refine xsA 0 S44 V hc26 V V V (Se l9_30) (Sb t0) (fun w45 c45 hc45 S45 => ?_)
   replace S45 : St wb X (c45 :: c24 :: c44 :: c17 :: cj_3 :: fr) w45 := S45
   refine W_end (Qo_normal (en (((((((((((cq5 (FS.n hdf30) V)).c (es5 V l0_30)).c (es5 V l2_30)).c (es5 V l3_30)).c (es5 V l4_30)).c (es5 V l6_30)).c (es5 V l9_30)).c (es5 V l10_30)).c (es5 V l11_30)).c (Se l12_30)) fun A46 _ F46 => ?_))
   have S48 := S45.del 3
   replace S48 : St wb X (c45 :: c24 :: c44 :: cj_3 :: fr) w45 := S48
   refine tk H28 (R_seq (fun _ H49 => R_regionI (I_v V V Zd (V_mov V (fg8 F46)) (I_v V V Zd (V_mov V (Sa (fg4 F46))) (I_r V V Zd (VR_ldA V (Sb (fg3 F46)) (S48.ob 0 hc45) Tryz.underlying54 V om) ?_)))))
   have hT22 : Tr n (fun k : Nat => decide ((ans.getD k (AnC.mk 0 false 0)).e = 5)) G0 os (pre ++ [((pre.length : Int), AnC.mk 5 false 0, (lastG G0 pre))]) := Tr.step hT hy11 V (by exact (stp_1 (mx := n) (rb := decide ((ans.getD pre.length (AnC.mk 0 false 0)).e = 5)) (g := gab (lastG G0 pre)) (c := y11) ⟨decide_eq_true c43.1, c43.2.1, c43.2.2⟩).symm)
   have S50 : St wb X (c24 :: c45 :: c44 :: cj_3 :: fr) w45 := St.selR (l := [c45, c24, c44, cj_3]) (l' := [c24, c45, c44, cj_3]) (fr := fr) S48 [1, 0, 2, 3] Zg Zd V
   rw [hc24] at S50
   obtain ⟨c51, hc51, S51⟩ := gen1 (gl_subS (M := (gsM G0 (pre ++ [((pre.length : Int), AnC.mk 5 false 0, (lastG G0 pre))]))) S50 (gsM_sub (fun G hG => List.mem_append_left _ hG) (List.mem_append_left _ (lastG_mem G0 pre))))
   replace S51 : St wb X (c51 :: c45 :: c44 :: cj_3 :: fr) w45 := S51
   have S52 : St wb X (cj_3 :: c44 :: c51 :: c45 :: fr) w45 := St.selR (l := [c51, c45, c44, cj_3]) (l' := [cj_3, c44, c51, c45]) (fr := fr) S51 [3, 2, 0, 1] Zg Zd V
   have S53 := mT_shut (pre := (pre ++ [((pre.length : Int), AnC.mk 5 false 0, (lastG G0 pre))])) (hc44.trans (by rw [lastG_app])) hc51 S52
   rw [hcj_3] at S53
   refine I_yield V V Zd (hY pre ((pre.length : Int), AnC.mk 5 false 0, (lastG G0 pre)) _ _ S53 hT22) (fun res hr => run_yield2 V (Sb t0) (Sa t0) t0 hr) ?_
   rintro _ w53 (⟨rfl, S53⟩ | ⟨rfl, S53⟩)
   ·refine ⟨_, rfl, ?_⟩
    obtain ⟨cj53, ct53, hcj53, hct53, S53⟩ := gen2 S53
    replace S53 : St wb X (cj53 :: ct53 :: c45 :: fr) w53 := S53
    refine I_up om (wv (V_notT V t0) (W_end (Qo_normal (en (Ka (Qd F46)) fun A55 _ F55 => ?_))))
    have S57 := S53.del 2
    replace S57 : St wb X (cj53 :: ct53 :: fr) w53 := S57
    refine tk H49 (R_cond_f (fg0 F55) (R_skip (inb_n (tk H9 (R_region om (ad (fg1 F55) V (vm t0 (W_end (Qo_normal (en (Ka (Qa (fx1 F55))) fun A58 hsz58 F58 => then_n ⟨os.length - (pre ++ [((pre.length : Int), AnC.mk 5 false 0, (lastG G0 pre))]).length, by simp only [hm3, List.length_append, List.length_singleton]; omega, hsz58, F58.d, (pre ++ [((pre.length : Int), AnC.mk 5 false 0, (lastG G0 pre))]), rfl, hT22, ((fg0 F58).trans (by simp only [List.length_append, List.length_singleton]; congr 1)), ((fg9 F58).trans (fg3 F2).symm), ((fg8 F58).trans (fg2 F2).symm), ((fg7 F58).trans (fg1 F2).symm), ((fg6 F58).trans (fg0 F2).symm), ((fg3 F58).trans (fg6 F2).symm), ((fg2 F58).trans (fg5 F2).symm), (by subst hcj53 hct53; exact S57)⟩))))))))))
   refine ⟨_, rfl, ?_⟩
   obtain ⟨cj53, ct53, hcj53, hct53, S53⟩ := gen2 S53
   replace S53 : St wb X (cj53 :: ct53 :: c45 :: fr) w53 := S53
   refine I_up om (wv (V_notF V t0) (W_end (Qo_normal (en (Ka (Qd F46)) fun A59 _ F59 => ?_))))
   have S61 := S53.del 2
   replace S61 : St wb X (cj53 :: ct53 :: fr) w53 := S61
   refine tk H49 (R_cond_t (fg0 F59) (R_ret (inb_ret (then_ret (then_ret (inb_ret (ret_inR0 (results_0 Tryz.results90) F59.d ?_)))))))
   exact ⟨⟨_, rfl⟩, .inr ⟨_, hT22, by subst hcj53 hct53; exact S61⟩⟩
  refine R_skip (tk H28 (R_seq (fun _ H62 => R_regionI (I_v V V Zd (V_mov V l0_30) (I_v V V Zd (V_mov V (Sa l6_30)) (I_r V V Zd (VR_ldA V (Sb l9_30) (S30.ob 0 hc26) Tryz.underlying54 V om) ?_))))))
  have hT22 : Tr n (fun k : Nat => decide ((ans.getD k (AnC.mk 0 false 0)).e = 5)) G0 os (pre ++ [((pre.length : Int), AnC.mk ((doG n (gab (lastG G0 pre)) (⟨y11.kd, y11.a, y11.b, y11.f, y11.p, y11.q, y11.u⟩ : OpC)).2.e) ((doG n (gab (lastG G0 pre)) (⟨y11.kd, y11.a, y11.b, y11.f, y11.p, y11.q, y11.u⟩ : OpC)).2.t) ((doG n (gab (lastG G0 pre)) (⟨y11.kd, y11.a, y11.b, y11.f, y11.p, y11.q, y11.u⟩ : OpC)).2.v), Gx_22)]) := Tr.step hT hy11 V (by exact (Prod.ext hg_22 V : (gab Gx_22, (doG n (gab (lastG G0 pre)) y11).2) = doG n (gab (lastG G0 pre)) y11).trans (stp_0 (mx := n) (rb := decide ((ans.getD pre.length (AnC.mk 0 false 0)).e = 5)) (g := gab (lastG G0 pre)) (c := y11) (fun q => c43 ⟨of_decide_eq_true q.1, q.2⟩)).symm)
  have S63 : St wb X (c24 :: c26 :: cB_22 :: c17 :: cj_3 :: fr) w30 := St.selR (l := [c26, c24, cB_22, c17, cj_3]) (l' := [c24, c26, cB_22, c17, cj_3]) (fr := fr) S30 [1, 0, 2, 3, 4] Zg Zd V
  rw [hc24] at S63
  obtain ⟨c64, hc64, S64⟩ := gen1 (gl_subS (M := (gsM G0 (pre ++ [((pre.length : Int), AnC.mk ((doG n (gab (lastG G0 pre)) (⟨y11.kd, y11.a, y11.b, y11.f, y11.p, y11.q, y11.u⟩ : OpC)).2.e) ((doG n (gab (lastG G0 pre)) (⟨y11.kd, y11.a, y11.b, y11.f, y11.p, y11.q, y11.u⟩ : OpC)).2.t) ((doG n (gab (lastG G0 pre)) (⟨y11.kd, y11.a, y11.b, y11.f, y11.p, y11.q, y11.u⟩ : OpC)).2.v), Gx_22)]))) S63 (gsM_sub (fun G hG => List.mem_append_left _ hG) (gm_mem (lastG_mem G0 pre) hm_22)))
  replace S64 : St wb X (c64 :: c26 :: cB_22 :: c17 :: cj_3 :: fr) w30 := S64
  have S65 : St wb X (cj_3 :: cB_22 :: c64 :: c26 :: c17 :: fr) w30 := St.selR (l := [c64, c26, cB_22, c17, cj_3]) (l' := [cj_3, cB_22, c64, c26, c17]) (fr := fr) S64 [4, 2, 0, 1, 3] Zg Zd V
  have S66 := mT_shut (pre := (pre ++ [((pre.length : Int), AnC.mk ((doG n (gab (lastG G0 pre)) (⟨y11.kd, y11.a, y11.b, y11.f, y11.p, y11.q, y11.u⟩ : OpC)).2.e) ((doG n (gab (lastG G0 pre)) (⟨y11.kd, y11.a, y11.b, y11.f, y11.p, y11.q, y11.u⟩ : OpC)).2.t) ((doG n (gab (lastG G0 pre)) (⟨y11.kd, y11.a, y11.b, y11.f, y11.p, y11.q, y11.u⟩ : OpC)).2.v), Gx_22)])) (hcB_22.trans (by rw [lastG_app])) hc64 S65
  rw [hcj_3] at S66
  refine I_yield V V Zd (hY pre ((pre.length : Int), AnC.mk ((doG n (gab (lastG G0 pre)) (⟨y11.kd, y11.a, y11.b, y11.f, y11.p, y11.q, y11.u⟩ : OpC)).2.e) ((doG n (gab (lastG G0 pre)) (⟨y11.kd, y11.a, y11.b, y11.f, y11.p, y11.q, y11.u⟩ : OpC)).2.t) ((doG n (gab (lastG G0 pre)) (⟨y11.kd, y11.a, y11.b, y11.f, y11.p, y11.q, y11.u⟩ : OpC)).2.v), Gx_22) _ _ S66 hT22) (fun res hr => run_yield2 V (Sb t0) (Sa t0) t0 hr) ?_
  rintro _ w66 (⟨rfl, S66⟩ | ⟨rfl, S66⟩)
  ·refine ⟨_, rfl, ?_⟩
   obtain ⟨cj66, ct66, hcj66, hct66, S66⟩ := gen2 S66
   replace S66 : St wb X (cj66 :: ct66 :: c26 :: c17 :: fr) w66 := S66
   refine I_up om (wv (V_notT V t0) (W_end (Qo_normal (en (((((((((ck (cq4 (FS.n hdf30) V) V V)).c (es5 V l0_30)).c (es5 V l2_30)).c (es5 V l3_30)).c (es5 V l4_30)).c (es5 V l10_30)).c (es5 V l11_30)).c (Se l12_30)) fun A68 _ F68 => ?_))))
   have S70 := S66.del 2
   replace S70 : St wb X (cj66 :: ct66 :: c17 :: fr) w66 := S70
   have S71 := S70.del 2
   replace S71 : St wb X (cj66 :: ct66 :: fr) w66 := S71
   refine tk H62 (R_cond_f (fg7 F68) (R_skip (inb_n (tk H9 (R_region om (ad (fg0 F68) V (vm t0 (W_end (Qo_normal (en (Ka (Qa (fx0 F68))) fun A72 hsz72 F72 => then_n ⟨os.length - (pre ++ [((pre.length : Int), AnC.mk ((doG n (gab (lastG G0 pre)) (⟨y11.kd, y11.a, y11.b, y11.f, y11.p, y11.q, y11.u⟩ : OpC)).2.e) ((doG n (gab (lastG G0 pre)) (⟨y11.kd, y11.a, y11.b, y11.f, y11.p, y11.q, y11.u⟩ : OpC)).2.t) ((doG n (gab (lastG G0 pre)) (⟨y11.kd, y11.a, y11.b, y11.f, y11.p, y11.q, y11.u⟩ : OpC)).2.v), Gx_22)]).length, by simp only [hm3, List.length_append, List.length_singleton]; omega, hsz72, F72.d, (pre ++ [((pre.length : Int), AnC.mk ((doG n (gab (lastG G0 pre)) (⟨y11.kd, y11.a, y11.b, y11.f, y11.p, y11.q, y11.u⟩ : OpC)).2.e) ((doG n (gab (lastG G0 pre)) (⟨y11.kd, y11.a, y11.b, y11.f, y11.p, y11.q, y11.u⟩ : OpC)).2.t) ((doG n (gab (lastG G0 pre)) (⟨y11.kd, y11.a, y11.b, y11.f, y11.p, y11.q, y11.u⟩ : OpC)).2.v), Gx_22)]), rfl, hT22, ((fg0 F72).trans (by simp only [List.length_append, List.length_singleton]; congr 1)), ((fg6 F72).trans (fg3 F2).symm), ((fg5 F72).trans (fg2 F2).symm), ((fg4 F72).trans (fg1 F2).symm), ((fg3 F72).trans (fg0 F2).symm), ((fg2 F72).trans (fg6 F2).symm), ((fg1 F72).trans (fg5 F2).symm), (by subst hcj66 hct66; exact S71)⟩))))))))))
  refine ⟨_, rfl, ?_⟩
  obtain ⟨cj66, ct66, hcj66, hct66, S66⟩ := gen2 S66
  replace S66 : St wb X (cj66 :: ct66 :: c26 :: c17 :: fr) w66 := S66
  refine I_up om (wv (V_notF V t0) (W_end (Qo_normal (en (((((((((ck (cq4 (FS.n hdf30) V) V V)).c (es5 V l0_30)).c (es5 V l2_30)).c (es5 V l3_30)).c (es5 V l4_30)).c (es5 V l10_30)).c (es5 V l11_30)).c (Se l12_30)) fun A73 _ F73 => ?_))))
  have S75 := S66.del 2
  replace S75 : St wb X (cj66 :: ct66 :: c17 :: fr) w66 := S75
  have S76 := S75.del 2
  replace S76 : St wb X (cj66 :: ct66 :: fr) w66 := S76
  refine tk H62 (R_cond_t (fg7 F73) (R_ret (inb_ret (then_ret (then_ret (inb_ret (ret_inR0 (results_0 Tryz.results90) F73.d ?_)))))))
  exact ⟨⟨_, rfl⟩, .inr ⟨_, hT22, by subst hcj66 hct66; exact S76⟩⟩
 refine R_exit (then_exit (then_exit (inb_hit (ret_inR0 (results_0 Tryz.results90) F5.d ?_))))
 exact ⟨⟨_, rfl⟩, .inl ⟨_, ⟨hT, by omega⟩, by subst hcj_3 hct_3; exact S3⟩⟩

set_option maxHeartbeats 4000000 in
theorem kmtP_c {gs : Nat} {lv : Value} {l : List OpC} {gc : Nat} {w : World} (h_lv : Ro w NoX (rl 7 opC lv l))  :
  Calls Tryz.prog 45 #[.pointer (some ⟨gs, 0, none⟩), lv, .func (.func 51) #[] #[.pointer (some ⟨gc, 0, none⟩)]] w fun e w' => ∃ g4 g3 g7 g5, e = .returned (.func (.func 90) #[] #[.pointer (some ⟨g4, 0, none⟩), .pointer (some ⟨g3, 0, none⟩), .pointer (some ⟨g7, 0, none⟩), .pointer (some ⟨g5, 0, none⟩)]) ∧ St w NoX [bx g4 24 #[lv], bx g3 75 #[.pointer (some ⟨gs, 0, none⟩)], bx g7 78 #[.func (.func 38) #[.pointer (some ⟨gs, 0, none⟩)] #[]], bx g5 88 #[.func (.func 51) #[] #[.pointer (some ⟨gc, 0, none⟩)]]] w' := by
 refine ci3 11 Tryz.func45 V (fun A0 _ F0 => ?_)
 have hS := St.nil w
 have bh_lv := SlN.le (sl_SlN h_lv.at)
 refine tb fun _ H1 => (wB (#[.pointer (some ⟨gs, 0, none⟩)]) hS (fg0 F0) (fun g2 w2 c2 hc2 S2 => W_boxS (zs := #[lv]) S2 V V V (Sa (fg1 F0)) (SlN_cells (sl_SlN h_lv.at)) (fun g3 w3 c3 hc3 S3 => wB (#[.func (.func 51) #[] #[.pointer (some ⟨gc, 0, none⟩)]]) S3 (Sb (fg2 F0)) (fun g4 w4 c4 hc4 S4 => vc (W_end (en (Qa (Kc F0)) fun A5 _ F5 => ta H1 fun _ H6 => (rL (.pointer (some ⟨gs, 0, none⟩)) (fg2 F5) (S4.ob 2 hc2) (wv (V_mkf V (args1 t0) args0) (wZ .nilFunc S4 (fun g7 w7 c7 hc7 S7 => xsC0 (zs' := #[.func (.func 38) #[.pointer (some ⟨gs, 0, none⟩)] #[]]) S7 hc7 V V V t0 (Sa t0) Zd (fun w8 c8 hc8 S8 => W_end (en (Ka (Qb F5)) fun A9 _ F9 => ta H6 fun _ H10 => (wv (V_mkf V args0 (args4 (fg2 F9) (fg3 F9) (fg0 F9) (fg1 F9))) (vt (W_end (en (Ka (Qa F9)) fun A11 _ F11 => tk H10 (wp_ret (rt1 F11 (rv_tmp (fg0 F11)) ?_))))))))))))))))))
 exact ⟨_, _, _, _, rfl, (S8.f4 2 hc3 3 hc2 0 hc8 1 hc4)⟩

set_option maxHeartbeats 4000000 in
theorem kmtJ_c {gs : Nat} {lv : Value} {l : List OpC} {gc : Nat} {w : World} (h_lv : Ro w NoX (rl 7 opC lv l))  :
  Calls Tryz.prog 45 #[.pointer (some ⟨gs, 0, none⟩), lv, .func (.func 46) #[] #[.pointer (some ⟨gc, 0, none⟩)]] w fun e w' => ∃ g4 g3 g7 g5, e = .returned (.func (.func 90) #[] #[.pointer (some ⟨g4, 0, none⟩), .pointer (some ⟨g3, 0, none⟩), .pointer (some ⟨g7, 0, none⟩), .pointer (some ⟨g5, 0, none⟩)]) ∧ St w NoX [bx g4 24 #[lv], bx g3 75 #[.pointer (some ⟨gs, 0, none⟩)], bx g7 78 #[.func (.func 38) #[.pointer (some ⟨gs, 0, none⟩)] #[]], bx g5 88 #[.func (.func 46) #[] #[.pointer (some ⟨gc, 0, none⟩)]]] w' := by
 refine ci3 11 Tryz.func45 V (fun A0 _ F0 => ?_)
 have hS := St.nil w
 have bh_lv := SlN.le (sl_SlN h_lv.at)
 refine tb fun _ H1 => (wB (#[.pointer (some ⟨gs, 0, none⟩)]) hS (fg0 F0) (fun g2 w2 c2 hc2 S2 => W_boxS (zs := #[lv]) S2 V V V (Sa (fg1 F0)) (SlN_cells (sl_SlN h_lv.at)) (fun g3 w3 c3 hc3 S3 => wB (#[.func (.func 46) #[] #[.pointer (some ⟨gc, 0, none⟩)]]) S3 (Sb (fg2 F0)) (fun g4 w4 c4 hc4 S4 => vc (W_end (en (Qa (Kc F0)) fun A5 _ F5 => ta H1 fun _ H6 => (rL (.pointer (some ⟨gs, 0, none⟩)) (fg2 F5) (S4.ob 2 hc2) (wv (V_mkf V (args1 t0) args0) (wZ .nilFunc S4 (fun g7 w7 c7 hc7 S7 => xsC0 (zs' := #[.func (.func 38) #[.pointer (some ⟨gs, 0, none⟩)] #[]]) S7 hc7 V V V t0 (Sa t0) Zd (fun w8 c8 hc8 S8 => W_end (en (Ka (Qb F5)) fun A9 _ F9 => ta H6 fun _ H10 => (wv (V_mkf V args0 (args4 (fg2 F9) (fg3 F9) (fg0 F9) (fg1 F9))) (vt (W_end (en (Ka (Qa F9)) fun A11 _ F11 => tk H10 (wp_ret (rt1 F11 (rv_tmp (fg0 F11)) ?_))))))))))))))))))
 exact ⟨_, _, _, _, rfl, (S8.f4 2 hc3 3 hc2 0 hc8 1 hc4)⟩

end Go.Proofs.YtpgkfndbfocibaaGreat