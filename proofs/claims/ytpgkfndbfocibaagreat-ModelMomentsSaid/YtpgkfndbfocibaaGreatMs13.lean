import Derived.Test.YtpgkfndbfocibaaGreatProg
import Derived.Test.YtpgkfndbfocibaaGreatSqL
import Derived.Test.YtpgkfndbfocibaaGreatMs8
import Derived.Test.YtpgkfndbfocibaaGreatPl29e
import Derived.Test.YtpgkfndbfocibaaGreatGh9b
import Derived.Test.YtpgkfndbfocibaaGreatSep29e
import Derived.Test.YtpgkfndbfocibaaGreatSep29g
import Derived.Test.YtpgkfndbfocibaaGreatSep29f
import Derived.Test.YtpgkfndbfocibaaGreatPl29h
namespace Go.Proofs.YtpgkfndbfocibaaGreat
open Go.RowKit Go.Own Go.Own.R Go.Own.G Go.Own.Gr Go.Own.Ml


set_option maxHeartbeats 4000000 in
theorem krg_c {G : GV} {n : Int} {gS : Nat} {a : Int} {w : World} (hg_G : Ro w NoX (gls [G])) (hb_gS : Ro w NoX (bx gS 77 #[G.1.1, G.2.1, .int .i64 n]))  :
  Calls Tryz.prog 73 #[.pointer (some ⟨gS, 0, none⟩), .int .i64 a] w fun e w' => e = .returned (.tuple #[.int .i64 (rgX (G.1.2.map ab) G.2.2 a), .int .i64 (ckd (G.1.2.map ab) G.2.2 [a, a])]) ∧ St w NoX [] w' := by
 have Go := gl_o m1 hg_G
 have Gn := gl_n m1 hg_G
 have Gr := gl_r m1 hg_G
 refine ci2 29 Tryz.func73 V (fun A0 _ F0 => ?_)
 have hS := St.nil w
 have bGo := SlN.le (sl_SlN Go.at)
 have bGr := SlN.le (sl_SlN Gr.at)
 refine tb fun _ H1 => (vc (vc (W_end (en (Qb F0) fun A2 _ F2 => tc H1 fun _ H3 => tb fun _ H4 => (vm (fg0 F2) (ni t0 (fa 0 t0 (wr (VR_ldP (ys := [G.1.1, G.2.1]) V t0 (ob_at (hS.ro hb_gS)) (ldP_at V) Tryz.underlying30 V kr) (vm (Sd (fg1 F2)) (vm (Se (fg1 F2)) (wc (args3 (Sb t0) (Sa t0) t0) (kAl_c (a := a) (b := a) (hS.roC Go) (hS.roC Gn) (hS.roC Gr)) (C0 hS fun w5 S5 => vm t0 (vx (.bool ((alB (G.1.2.map ab) G.2.2 a a))) t0 (vx (.int .i64 ((ckd (G.1.2.map ab) G.2.2 [a, a]))) (Sa t0) (va (Sa t0) (va (Sa t0) (W_end (en (Ka (Qc (Qh F2))) fun A6 _ F6 => ta H4 fun _ H7 => (vm (fg0 F6) (vn t0 V (W_end (en (Ka (Qa F6)) fun A8 _ F8 => tk H7 (cd (fg0 F8) (fun c9 => ?_) fun c9 => ?_)))))))))))))))))))))))
 ·refine tb fun _ H10 => (vm (fg1 F8) (vc (va (Sa t0) (W_end (en (Kb (Qa F8)) fun A11 _ F11 => tk H10 (wp_ret (then_ret (rt2 F11 (rv_tmp (fg1 F11)) (rv_tmp (fg0 F11)) ?_))))))))
  rw [rgX_e c9]
  exact ⟨rfl, S5.fin0⟩
 have hcd : (ckd (G.1.2.map ab) G.2.2 [a, a]) = 0 := by simpa using c9
 have ha := (ckd_0.1 hcd).2 a Zo
 refine wp_skip (ta H3 fun _ H12 => (vm (fg2 F8) (ni t0 (fa 0 t0 (fa 1 t0 (rc t0 (cell_box (v := G.2.1) (ob_at (S5.ro hb_gS)) V) (vm (Se (fg3 F8)) ?_)))))))
 have k13 : a.toNat < G.2.2.length := om
 obtain ⟨y13, hy13⟩ := get_some (xs := G.2.2) (k := a.toNat) k13
 obtain ⟨B13, O13, C13, hv13⟩ := (SlN.blk (sl_SlN Gr.at) om)
 refine wv (V_ixS (off := O13 + a.toNat) 1 a.toNat V (Sa t0) t0 hv13 Zb k13 Tryz.underlying25 kr (congrArg _ (Nat.mul_one _))) (rc t0 ((sl_SlN (S5.ro Gr)).cell hv13 (map_get hy13)) (vt (vc (W_end (en (Kb (Qh F8)) fun A14 _ F14 => tk H12 (wp_ret (rt2 F14 (rv_tmp (fg1 F14)) (rv_tmp (fg0 F14)) ?_)))))))
 rw [rgX_k hcd hy13]
 rw [hcd]
 exact ⟨rfl, S5.fin0⟩

set_option maxHeartbeats 4000000 in
theorem ksk_c {G : GV} {n : Int} {gS : Nat} {G2 : GV} {er : Int} {w : World} {Y : Nat → Prop} (hg_G : Ro w Y (gls [G])) (hg_G2 : Ro w Y (gls [G2])) (hS : St w Y [bx gS 77 #[G.1.1, G.2.1, .int .i64 n]] w)  :
  Calls Tryz.prog 65 #[.pointer (some ⟨gS, 0, none⟩), .agg #[G2.1.1, G2.2.1], .int .i64 er] w fun e w' => e = .returned (.agg #[.int .i64 er, .bool false, .int .u64 0]) ∧ St w Y [bx gS 77 #[(if er = 0 then G2 else G).1.1, (if er = 0 then G2 else G).2.1, .int .i64 n]] w' := by
 have Go := gl_o m1 hg_G
 have Gn := gl_n m1 hg_G
 have Gr := gl_r m1 hg_G
 have G2o := gl_o m1 hg_G2
 have G2n := gl_n m1 hg_G2
 have G2r := gl_r m1 hg_G2
 refine ci3 15 Tryz.func65 V (fun A0 _ F0 => ?_)
 obtain ⟨mb_gS, hmb_gS, hS⟩ := gen1 hS
 have bGo := SlN.le (sl_SlN Go.at)
 have bGr := SlN.le (sl_SlN Gr.at)
 have bG2o := SlN.le (sl_SlN G2o.at)
 have bG2r := SlN.le (sl_SlN G2r.at)
 refine tb fun _ H1 => (wB (#[G2.1.1, G2.2.1]) hS (fg1 F0) (fun g2 w2 c2 hc2 S2 => wA (#[.int .i64 0, .bool false, .int .u64 0]) S2 (fun g3 w3 c3 hc3 S3 => W_end (en (Kb F0) fun A4 _ F4 => tc H1 fun _ H5 => tb fun _ H6 => (vm (fg4 F4) (ve t0 V (W_end (en (Ka (Qa F4)) fun A7 _ F7 => tk H6 (cd (fg0 F7) (fun c8 => ?_) fun c8 => ?_)))))))))
 ·refine region_in (vm (fg3 F7) (ra (Sa (fg2 F7)) (S3.ob 1 hc2) (ni (Sa t0) (fa 0 t0 (W_stAM (ys := [G2.1.1, G2.2.1]) (zs' := #[G2.1.1, G2.2.1, .int .i64 (n)]) 2 S3 V hmb_gS V V V t0 (Sb t0) (by intro u hu; simp only [List.mem_cons, List.not_mem_nil, or_false] at hu; rcases hu with rfl | rfl <;> first | exact SlN_one (sl_SlN G2o.at) | exact SlN_one (sl_SlN G2r.at)) Zo kr V (fun w9 c9 hc9 S9 => ?_))))))
  replace S9 : St w Y [c3, c2, c9] w9 := S9
  refine W_end (en (Qd F7) fun A10 _ F10 => ?_)
  have S11 := S9.se [0, 2] [c3, c9]
  refine ta H5 fun _ H12 => (vm (fg5 F10) (wv (xbS (n := 3) (z := .agg #[.int .i64 0, .bool false, .int .u64 0]) V (parts1 t0)) (xsA0 S11 hc3 V V V (Sb (fg1 F10)) t0 (fun w13 c13 hc13 S13 => W_end (en (Qb F10) fun A14 _ F14 => tk H12 (wp_ret (rt1 F14 (rvA (fg1 F14) (S13.ob 0 hc13)) ?_)))))))
  exact ⟨rfl, (S13.f1 1 (hc9.trans (by rw [if_pos c8])))⟩
 refine wp_skip (ta H5 fun _ H15 => (vm (fg5 F7) (wv (xbS (n := 3) (z := .agg #[.int .i64 0, .bool false, .int .u64 0]) V (parts1 t0)) (xsA0 S3 hc3 V V V (Sb (fg1 F7)) t0 (fun w16 c16 hc16 S16 => W_end (en (Qb F7) fun A17 _ F17 => tk H15 (wp_ret (rt1 F17 (rvA (fg1 F17) (S16.ob 0 hc16)) ?_))))))))
 exact ⟨rfl, (S16.f1 2 (hmb_gS.trans (by rw [if_neg c8])))⟩

set_option maxHeartbeats 4000000 in
theorem ksa_c {G : GV} {n : Int} {gS : Nat} {kd a b f p q uu : Int} {w : World} {Y : Nat → Prop} (hg_G : Ro w Y (gls [G])) (hS : St w Y [bx gS 77 #[G.1.1, G.2.1, .int .i64 n]] w) (hsm : SM (G.1.2.map ab)) (hn : 0 ≤ n ∧ n ≤ 32) (hpq : (-1000000000 ≤ p ∧ p ≤ 1000000000) ∧ (-1000000000 ≤ q ∧ q ≤ 1000000000)) :
  Calls Tryz.prog 64 #[.pointer (some ⟨gS, 0, none⟩), .agg #[.int .i64 kd, .int .i64 a, .int .i64 b, .int .i64 f, .int .i64 p, .int .i64 q, .int .u64 uu]] w fun e w' => ∃ Gx Gn, e = .returned (.agg #[.int .i64 (alA n (gab G) a p q), .bool false, .int .u64 0]) ∧ (gab Gx = (fin (gab G) (alA n (gab G) a p q) (alO (G.1.2.map ab) G.2.2 a p q, alR (G.1.2.map ab) G.2.2 a p q)).1) ∧ (gmem Gx G Gn) ∧ St w Y [bx gS 77 #[Gx.1.1, Gx.2.1, .int .i64 n], gls Gn] w' := by
 have Go := gl_o m1 hg_G
 have Gn := gl_n m1 hg_G
 have Gr := gl_r m1 hg_G
 refine ci2 55 Tryz.func64 V (fun A0 _ F0 => ?_)
 obtain ⟨mb_gS, hmb_gS, hS⟩ := gen1 hS
 have bGo := SlN.le (sl_SlN Go.at)
 have bGr := SlN.le (sl_SlN Gr.at)
 refine tb fun _ H1 => (wB (#[.int .i64 (kd), .int .i64 (a), .int .i64 (b), .int .i64 (f), .int .i64 (p), .int .i64 (q), .int .u64 (uu)]) hS (fg1 F0) (fun g2 w2 c2 hc2 S2 => wA (#[.int .i64 0, .bool false, .int .u64 0]) S2 (fun g3 w3 c3 hc3 S3 => W_end (en (Kb F0) fun A4 _ F4 => ta H1 fun _ H5 => (vm (fg2 F4) (fa 1 (Sa (fg1 F4)) (rL (.int .i64 (a)) t0 (S3.ob 1 hc2) (wc (args2 (Sb t0) t0) (krg_c (gS := gS) (n := n) (G := G) (a := a) (gl_mk (S3.roC Go) (S3.roC Gn) (S3.roC Gr)) (S3.cC 2 hmb_gS)) (C0 S3 fun w6 S6 => vm t0 (vx (.int .i64 ((rgX (G.1.2.map ab) G.2.2 a))) t0 (vx (.int .i64 ((ckd (G.1.2.map ab) G.2.2 [a, a]))) (Sa t0) (va (Sa t0) (va (Sa t0) (W_end (en (Ka (Qh F4)) fun A7 _ F7 => tc H5 fun _ H8 => wp_block (tb fun _ H9 => (vm (fg0 F7) (vn t0 V (vt (W_end (en (Ka (Qb F7)) fun A10 _ F10 => tk H9 (cd (fg0 F10) (fun c11 => ?_) fun c11 => ?_))))))))))))))))))))))
 ·refine wp_skip (inb_n (ta H8 fun _ H12 => (vm (fg1 F10) (wv (xbS (n := 3) (z := .agg #[.int .i64 0, .bool false, .int .u64 0]) V (parts1 t0)) (xsA0 S6 hc3 V V V (Sb (fg2 F10)) t0 (fun w13 c13 hc13 S13 => W_end (en (Qb F10) fun A14 _ F14 => ?_)))))))
  have S15 := S13.se [0, 2] [c13, mb_gS]
  refine tk H12 (wp_ret (rt1 F14 (rvA (fg2 F14) (S15.ob 0 hc13)) ?_))
  obtain ⟨c16, hc16, S16⟩ := gen1 (gl_mt S15)
  have hA : (alA n (gab G) a p q) = (ckd (G.1.2.map ab) G.2.2 [a, a]) := alA_e c11
  rw [hA]
  exact ⟨G, [], rfl, (fin_e c11).symm, gm_0, (S16.f2 2 hmb_gS 0 hc16)⟩
 refine tb fun _ H17 => (fa 4 (fg3 F10) (rL (.int .i64 (p)) t0 (S6.ob 1 hc2) (vl t0 V (W_split V V (V_mov V t0) (fun c18 => ?_) (fun c18 => ?_)))))
 ·refine xo V t0 (xo V (Sa t0) (xo V (Sb t0) (vT (Sc t0) V (vt (W_end (en (Ka (Qh F10)) fun A19 _ F19 => tk H17 (cond_t (fg0 F19) (region_in (vc (W_end (en (Ka (fx2 F19)) fun A20 _ F20 => ?_)))))))))))
  have S21 := S6.se [0, 2] [c3, mb_gS]
  refine inb_n (ta H8 fun _ H22 => (vm (fg0 F20) (wv (xbS (n := 3) (z := .agg #[.int .i64 0, .bool false, .int .u64 0]) V (parts1 t0)) (xsA0 S21 hc3 V V V (Sb (fg3 F20)) t0 (fun w23 c23 hc23 S23 => W_end (en (Qb F20) fun A24 _ F24 => tk H22 (wp_ret (rt1 F24 (rvA (fg3 F24) (S23.ob 0 hc23)) ?_))))))))
  obtain ⟨c25, hc25, S25⟩ := gen1 (gl_mt S23)
  have hA : (alA n (gab G) a p q) = 10 := alA_b c11 Zb
  rw [hA]
  exact ⟨G, [], rfl, (fin_e Zg).symm, gm_0, (S25.f2 2 hmb_gS 0 hc25)⟩
 refine wg V t0 (ufa 5 (Sd (fg3 F10))) (wq V (Sa t0) (urL (.int .i64 (q)) t0 (S6.ob 1 hc2)) (wg V (Sb t0) (uvl t0 V) (vF (Sc t0) t0 (vt (W_end (en (Ka (Qh F10)) fun A26 _ F26 => tk H17 (cd (fg0 F26) (fun c27 => ?_) fun c27 => ?_)))))))
 ·refine region_in (vc (W_end (en (Ka (fx2 F26)) fun A28 _ F28 => ?_)))
  have S29 := S6.se [0, 2] [c3, mb_gS]
  refine inb_n (ta H8 fun _ H30 => (vm (fg0 F28) (wv (xbS (n := 3) (z := .agg #[.int .i64 0, .bool false, .int .u64 0]) V (parts1 t0)) (xsA0 S29 hc3 V V V (Sb (fg3 F28)) t0 (fun w31 c31 hc31 S31 => W_end (en (Qb F28) fun A32 _ F32 => tk H30 (wp_ret (rt1 F32 (rvA (fg3 F32) (S31.ob 0 hc31)) ?_))))))))
  obtain ⟨c33, hc33, S33⟩ := gen1 (gl_mt S31)
  have hA : (alA n (gab G) a p q) = 10 := alA_b c11 Zb
  rw [hA]
  exact ⟨G, [], rfl, (fin_e Zg).symm, gm_0, (S33.f2 2 hmb_gS 0 hc33)⟩
 refine td fun _ H34 => region_monoS 12 12 [] kr kr (df 4 (fg4 F26) (dr (fun _ hx _ => (urc t0 (cell_box (v := .int .i64 (p)) ((S6.grow hx).ob 1 hc2) V))) (dv (uad V t0) (df 5 (Sc (fg4 F26)) (dr (fun _ hx _ => (urc t0 (cell_box (v := .int .i64 (q)) ((S6.grow hx).ob 1 hc2) V))) (dv (uad (Sb t0) t0) (dm (Sf (fg5 F26)) (dn t0 (df 2 t0 (dr (fun _ hx _ => (urc t0 (cell_box (v := .int .i64 (n)) ((S6.grow hx).ob 2 hmb_gS) V))) (dv (uvg (Sd t0) t0) (dv (V_asg V t0) (ZS_none S6 (Nat.le_refl _) (Nat.le_refl _) (fun s35 hJ35 hL35 hF35 => ?_))))))))))))))
 have S35 := hJ35.st; clear hF35 hJ35 hL35
 generalize s35.1 = w35 at *
 replace S35 : St w Y [c3, c2, mb_gS] w35 := S35
 refine en (Ka (Qc (Qh F26))) fun A36 _ F36 => tk H34 (cd (fg0 F36) (fun c37 => ?_) fun c37 => ?_)
 ·refine region_in (vc (W_end (en (Ka (fx3 F36)) fun A38 _ F38 => ?_)))
  have S39 := S35.se [0, 2] [c3, mb_gS]
  refine inb_n (ta H8 fun _ H40 => (vm (fg0 F38) (wv (xbS (n := 3) (z := .agg #[.int .i64 0, .bool false, .int .u64 0]) V (parts1 t0)) (xsA0 S39 hc3 V V V (Sb (fg4 F38)) t0 (fun w41 c41 hc41 S41 => W_end (en (Qb F38) fun A42 _ F42 => tk H40 (wp_ret (rt1 F42 (rvA (fg4 F42) (S41.ob 0 hc41)) ?_))))))))
  obtain ⟨c43, hc43, S43⟩ := gen1 (gl_mt S41)
  have hA : (alA n (gab G) a p q) = 11 := alA_t c11 Zb Zb
  rw [hA]
  exact ⟨G, [], rfl, (fin_e Zg).symm, gm_0, (S43.f2 2 hmb_gS 0 hc43)⟩
 refine td fun _ H44 => region_monoS 14 15 [none, none, none, none, none, none, none, none, none, none, none, some (SPv [] (fun _ => fun u l' => ∃ hv_s H_s qv_s q_s, u = .tuple #[.agg #[hv_s, qv_s], .int .i64 (alE (G.1.2.map ab) G.2.2 a p q)] ∧ (gab ((hv_s, H_s), (qv_s, q_s)) = ((alO (G.1.2.map ab) G.2.2 a p q), (alR (G.1.2.map ab) G.2.2 a p q))) ∧ ∃ cK_s, cK_s = gls [((hv_s, H_s), (qv_s, q_s))] ∧ l' = [cK_s]) 11)] kr kr (dm (fg6 F36) (dm (Sa (fg6 F36)) (dn t0 (df 0 t0 (dr (fun sx hx hF => (VR_ldP (ys := [G.1.1, G.2.1]) V t0 ((S35.grow hx).ob 2 hmb_gS) (ldP_at V) Tryz.underlying30 V kr)) (df 1 (Se (fg5 F36)) (dr (fun _ hx _ => (urc t0 (cell_box (v := .int .i64 (a)) ((S35.grow hx).ob 1 hc2) V))) (df 4 (Sg (fg5 F36)) (dr (fun _ hx _ => (urc t0 (cell_box (v := .int .i64 (p)) ((S35.grow hx).ob 1 hc2) V))) (df 5 (Sh (Sa (fg5 F36))) (dr (fun _ hx _ => (urc t0 (cell_box (v := .int .i64 (q)) ((S35.grow hx).ob 1 hc2) V))) (D_call (ts := []) (vs := []) (C0 := fun _ => fun u l' => ∃ hv_s H_s qv_s q_s, u = .tuple #[.agg #[hv_s, qv_s], .int .i64 (alE (G.1.2.map ab) G.2.2 a p q)] ∧ (gab ((hv_s, H_s), (qv_s, q_s)) = ((alO (G.1.2.map ab) G.2.2 a p q), (alR (G.1.2.map ab) G.2.2 a p q))) ∧ ∃ cK_s, cK_s = gls [((hv_s, H_s), (qv_s, q_s))] ∧ l' = [cK_s]) (C := fun u l' => ∃ hv_s H_s qv_s q_s, u = .tuple #[.agg #[hv_s, qv_s], .int .i64 (alE (G.1.2.map ab) G.2.2 a p q)] ∧ (gab ((hv_s, H_s), (qv_s, q_s)) = ((alO (G.1.2.map ab) G.2.2 a p q), (alR (G.1.2.map ab) G.2.2 a p q))) ∧ ∃ cK_s, cK_s = gls [((hv_s, H_s), (qv_s, q_s))] ∧ l' = [cK_s]) V V V Tryz.func99 kr V (args4 (Sf t0) (Sd t0) (Sb t0) t0) V V V V (fun sx hx hF => ?_) (fun u45 l45 hu45 => ?_)))))))))))))
 ·refine ((glC (F := fun a_ b_ => .tuple #[.agg #[a_, b_], .int .i64 (alE (G.1.2.map ab) G.2.2 a p q)]) (kAlloc_c (a := a) (p := p) (r := q) ((S35.grow hx).roC Go) ((S35.grow hx).roC Gn) ((S35.grow hx).roC Gr) Ze))).mono ?_
  rintro _ _ ⟨hv_45, H_45, qv_45, q_45, rfl, hg_45, hz⟩
  exact ⟨_, rfl, _, ⟨_, _, _, _, rfl, hg_45, _, rfl, rfl⟩, hz⟩
 obtain ⟨hv_45, H_45, qv_45, q_45, rfl, hg_45, cK_45, hcK_45, hl45⟩ := hu45
 refine dx (.agg #[hv_45, qv_45]) t0 (dx (.int .i64 ((alE (G.1.2.map ab) G.2.2 a p q))) (Sa t0) (D_eff V (ZS_eff S35 V V (fun s46 hJ46 hL46 hF46 => ?_))))
 obtain ⟨ll45, ws45, we45, ⟨hv_45q, H_45q, qv_45q, q_45q, hq45, hg_45r, cK_45r, hcK_45r, hl45r⟩, hm45, k45, e45⟩ := L.all_get hF46; cases hq45; subst hl45r
 replace hJ46 := hJ46.add hL46 (i := 11) V hm45 k45 e45
 have S46 := hJ46.st; clear hF46 hJ46 hL46
 generalize s46.1 = w46 at *
 replace S46 : St w Y [cK_45r, c3, c2, mb_gS] w46 := S46
 have S47 := S46.se [3, 0, 1, 2] [mb_gS, cK_45r, c3, c2]
 obtain ⟨Y48, hP48, hR48, hF48, hB48⟩ := St.call (pre := [mb_gS]) (fr := [cK_45r, c3, c2]) S47
 rw [hmb_gS] at hP48
 refine wc (args3 (Sh (Se t0)) (Sa t0) t0) (ksk_c (G := G) (G2 := ((hv_45, H_45q), (qv_45, q_45q))) (er := (alE (G.1.2.map ab) G.2.2 a p q)) (gl_mk (hR48 _ Go) (hR48 _ Gn) (hR48 _ Gr)) (gl_mk (gl_oaR m1 (hcK_45r ▸ hF48 0 _ V)) (gl_naR m1 (hcK_45r ▸ hF48 0 _ V)) (gl_raR m1 (hcK_45r ▸ hF48 0 _ V))) hP48) (fun _ w49 ⟨e, hP49⟩ => ⟨_, e, ?_⟩)
 obtain ⟨cB_49, hcB_49, hP49⟩ := gen1 hP49
 have S49 := (hB48 _ _ hP49).a1
 refine xsA2 S49 hc3 V V V (Sh (Sg (fg4 F36))) t0 (fun w50 c50 hc50 S50 => W_end (Qo_normal (en (Qg (Qh F36)) fun A51 _ F51 => tk H44 (wp_ret (inb_ret (then_ret (rt1 F51 (rvA (fg4 F51) (S50.ob 2 hc50)) ?_)))))))
 have hA : (alA n (gab G) a p q) = (alE (G.1.2.map ab) G.2.2 a p q) := alA_k c11 Zb Zb
 rw [hA]
 exact ⟨(if (alE (G.1.2.map ab) G.2.2 a p q) = 0 then ((hv_45, H_45q), (qv_45, q_45q)) else G), [((hv_45, H_45q), (qv_45, q_45q))], rfl, fin_g hg_45r, gm_1, (S50.f2 0 hcB_49 1 hcK_45r)⟩

set_option maxHeartbeats 4000000 in
theorem kdo_c {G : GV} {n : Int} {gS : Nat} {kd a b f p q uu : Int} {w : World} {Y : Nat → Prop} (hg_G : Ro w Y (gls [G])) (hS : St w Y [bx gS 77 #[G.1.1, G.2.1, .int .i64 n]] w) (hsm : SM (G.1.2.map ab)) (hn : 0 ≤ n ∧ n ≤ 32) (hop : (opE (⟨kd, a, b, f, p, q, uu⟩ : OpC)) = 0) :
  Calls Tryz.prog 38 #[.pointer (some ⟨gS, 0, none⟩), .agg #[.int .i64 kd, .int .i64 a, .int .i64 b, .int .i64 f, .int .i64 p, .int .i64 q, .int .u64 uu]] w fun e w' => ∃ Gx Gn, e = .returned (.agg #[.int .i64 (doG n (gab G) (⟨kd, a, b, f, p, q, uu⟩ : OpC)).2.e, .bool (doG n (gab G) (⟨kd, a, b, f, p, q, uu⟩ : OpC)).2.t, .int .u64 (doG n (gab G) (⟨kd, a, b, f, p, q, uu⟩ : OpC)).2.v]) ∧ (gab Gx = (doG n (gab G) (⟨kd, a, b, f, p, q, uu⟩ : OpC)).1) ∧ (gmem Gx G Gn) ∧ St w Y [bx gS 77 #[Gx.1.1, Gx.2.1, .int .i64 n], gls Gn] w' := by
 have Go := gl_o m1 hg_G
 have Gn := gl_n m1 hg_G
 have Gr := gl_r m1 hg_G
 refine ci2 172 Tryz.func38 V (fun A0 _ F0 => ?_)
 obtain ⟨mb_gS, hmb_gS, hS⟩ := gen1 hS
 have bGo := SlN.le (sl_SlN Go.at)
 have bGr := SlN.le (sl_SlN Gr.at)
 refine tb fun _ H1 => (wB (#[.int .i64 (kd), .int .i64 (a), .int .i64 (b), .int .i64 (f), .int .i64 (p), .int .i64 (q), .int .u64 (uu)]) hS (fg1 F0) (fun g2 w2 c2 hc2 S2 => wA (#[.int .i64 0, .bool false, .int .u64 0]) S2 (fun g3 w3 c3 hc3 S3 => W_end (en (Kb F0) fun A4 _ F4 => ta H1 fun _ H5 => (fa 1 (fg1 F4) (rL (.int .i64 (a)) t0 (S3.ob 1 hc2) (vt (W_end (en (Ka (Qb F4)) fun A6 _ F6 => tc H5 fun _ H7 => tb fun _ H8 => (fa 0 (fg2 F6) (rL (.int .i64 (kd)) t0 (S3.ob 1 hc2) (W_end (en (Ka (Qa F6)) fun A9 _ F9 => tk H8 (wp_block (td fun _ H10 => wp_block (td fun _ H11 => wp_block (td fun _ H12 => wp_block (td fun _ H13 => wp_block (td fun _ H14 => wp_block (td fun _ H15 => wp_block (td fun _ H16 => wp_block (td fun _ H17 => wp_block (td fun _ H18 => wp_block (td fun _ H19 => wp_block (td fun _ H20 => td fun _ H21 => tb fun _ H22 => (ve (fg0 F9) V (vt (W_end (en (Ka (Qa F9)) fun A23 _ F23 => tk H22 (cd (fg0 F23) (fun c24 => ?_) fun c24 => ?_))))))))))))))))))))))))))))))
 ·have hpq := op_al hop c24
  refine wp_exit (then_exit (then_exit (inb_hit (tc H19 fun _ H25 => tb fun _ H26 => (vm (fg5 F23) (ra (Sa (fg4 F23)) (S3.ob 1 hc2) ?_))))))
  have S27 := S3.se [2, 0, 1] [mb_gS, c3, c2]
  obtain ⟨Y28, hP28, hR28, hF28, hB28⟩ := St.call (pre := [mb_gS]) (fr := [c3, c2]) S27
  rw [hmb_gS] at hP28
  refine wc (args2 (Sa t0) t0) (ksa_c (G := G) (kd := kd) (a := a) (b := b) (f := f) (p := p) (q := q) (uu := uu) (gl_mk (hR28 _ Go) (hR28 _ Gn) (hR28 _ Gr)) hP28 (by first | with_reducible assumption | exact hsm) Zf Zf) (fun _ w29 ⟨Gx_29, Gn_29, e, hg_29, hm_29, hP29⟩ => ⟨_, e, ?_⟩)
  obtain ⟨cB_29, cK_29, hcB_29, hcK_29, hP29⟩ := gen2 hP29
  have S29 := (hB28 _ _ hP29).a2
  refine xsA2 S29 hc3 V V V (Sc (fg3 F23)) t0 (fun w30 c30 hc30 S30 => W_end (en (Qc F23) fun A31 _ F31 => tk H26 (wp_ret (then_ret (inb_ret (then_ret (inb_ret (then_ret (inb_ret (then_ret (inb_ret (then_ret (inb_ret (then_ret (inb_ret (then_ret (inb_ret (then_ret (inb_ret (then_ret (inb_ret (then_ret (inb_ret (then_ret (rt1 F31 (rvA (fg3 F31) (S30.ob 2 hc30)) ?_)))))))))))))))))))))))))
  have hD := do_1 (mx := n) (g := gab G) (c := (⟨kd, a, b, f, p, q, uu⟩ : OpC)) Zk
  rw [hD]
  exact ⟨Gx_29, Gn_29, rfl, hg_29, hm_29, (S30.f2 0 hcB_29 1 hcK_29)⟩
 refine wp_skip (tc H21 fun _ H33 => tb fun _ H34 => (ve (fg1 F23) V (vt (W_end (en (Ka (Qa F23)) fun A35 _ F35 => tk H34 (cd (fg0 F35) (fun c36 => ?_) fun c36 => ?_))))))
 ·refine wp_exit (then_exit (then_exit (inb_miss V (then_exit (inb_hit (tc H18 fun _ H37 => td fun _ H38 => region_monoS 14 15 [none, none, none, none, none, none, none, none, none, none, none, some (SPv [] (fun _ => fun u l' => ∃ hv_s H_s qv_s q_s, u = .tuple #[.agg #[hv_s, qv_s], .int .i64 (ptE (G.1.2.map ab) G.2.2 [a, b] b f)] ∧ (gab ((hv_s, H_s), (qv_s, q_s)) = ((ldO (G.1.2.map ab) G.2.2 a b f), (ldR (G.1.2.map ab) G.2.2 a b f))) ∧ ∃ cK_s, cK_s = gls [((hv_s, H_s), (qv_s, q_s))] ∧ l' = [cK_s]) 11)] kr kr (dm (fg6 F35) (dm (Sa (fg6 F35)) (dn t0 (df 0 t0 (dr (fun sx hx hF => (VR_ldP (ys := [G.1.1, G.2.1]) V t0 ((S3.grow hx).ob 2 hmb_gS) (ldP_at V) Tryz.underlying30 V kr)) (df 1 (Se (fg5 F35)) (dr (fun _ hx _ => (urc t0 (cell_box (v := .int .i64 (a)) ((S3.grow hx).ob 1 hc2) V))) (df 2 (Sg (fg5 F35)) (dr (fun _ hx _ => (urc t0 (cell_box (v := .int .i64 (b)) ((S3.grow hx).ob 1 hc2) V))) (df 3 (Sh (Sa (fg5 F35))) (dr (fun _ hx _ => (urc t0 (cell_box (v := .int .i64 (f)) ((S3.grow hx).ob 1 hc2) V))) (D_call (ts := []) (vs := []) (C0 := fun _ => fun u l' => ∃ hv_s H_s qv_s q_s, u = .tuple #[.agg #[hv_s, qv_s], .int .i64 (ptE (G.1.2.map ab) G.2.2 [a, b] b f)] ∧ (gab ((hv_s, H_s), (qv_s, q_s)) = ((ldO (G.1.2.map ab) G.2.2 a b f), (ldR (G.1.2.map ab) G.2.2 a b f))) ∧ ∃ cK_s, cK_s = gls [((hv_s, H_s), (qv_s, q_s))] ∧ l' = [cK_s]) (C := fun u l' => ∃ hv_s H_s qv_s q_s, u = .tuple #[.agg #[hv_s, qv_s], .int .i64 (ptE (G.1.2.map ab) G.2.2 [a, b] b f)] ∧ (gab ((hv_s, H_s), (qv_s, q_s)) = ((ldO (G.1.2.map ab) G.2.2 a b f), (ldR (G.1.2.map ab) G.2.2 a b f))) ∧ ∃ cK_s, cK_s = gls [((hv_s, H_s), (qv_s, q_s))] ∧ l' = [cK_s]) V V V Tryz.func66 kr V (args4 (Sf t0) (Sd t0) (Sb t0) t0) V V V V (fun sx hx hF => ?_) (fun u39 l39 hu39 => ?_)))))))))))))))))))
  ·refine ((glC (F := fun a_ b_ => .tuple #[.agg #[a_, b_], .int .i64 (ptE (G.1.2.map ab) G.2.2 [a, b] b f)]) (kLoad_c (a := a) (b := b) (f := f) ((S3.grow hx).roC Go) ((S3.grow hx).roC Gn) ((S3.grow hx).roC Gr) Ze))).mono ?_
   rintro _ _ ⟨hv_39, H_39, qv_39, q_39, rfl, hg_39, hz⟩
   exact ⟨_, rfl, _, ⟨_, _, _, _, rfl, hg_39, _, rfl, rfl⟩, hz⟩
  obtain ⟨hv_39, H_39, qv_39, q_39, rfl, hg_39, cK_39, hcK_39, hl39⟩ := hu39
  refine dx (.agg #[hv_39, qv_39]) t0 (dx (.int .i64 ((ptE (G.1.2.map ab) G.2.2 [a, b] b f))) (Sa t0) (D_eff V (ZS_eff S3 V V (fun s40 hJ40 hL40 hF40 => ?_))))
  obtain ⟨ll39, ws39, we39, ⟨hv_39q, H_39q, qv_39q, q_39q, hq39, hg_39r, cK_39r, hcK_39r, hl39r⟩, hm39, k39, e39⟩ := L.all_get hF40; cases hq39; subst hl39r
  replace hJ40 := hJ40.add hL40 (i := 11) V hm39 k39 e39
  have S40 := hJ40.st; clear hF40 hJ40 hL40
  generalize s40.1 = w40 at *
  replace S40 : St w Y [cK_39r, c3, c2, mb_gS] w40 := S40
  have S41 := S40.se [3, 0, 1, 2] [mb_gS, cK_39r, c3, c2]
  obtain ⟨Y42, hP42, hR42, hF42, hB42⟩ := St.call (pre := [mb_gS]) (fr := [cK_39r, c3, c2]) S41
  rw [hmb_gS] at hP42
  refine wc (args3 (Sh (Se t0)) (Sa t0) t0) (ksk_c (G := G) (G2 := ((hv_39, H_39q), (qv_39, q_39q))) (er := (ptE (G.1.2.map ab) G.2.2 [a, b] b f)) (gl_mk (hR42 _ Go) (hR42 _ Gn) (hR42 _ Gr)) (gl_mk (gl_oaR m1 (hcK_39r ▸ hF42 0 _ V)) (gl_naR m1 (hcK_39r ▸ hF42 0 _ V)) (gl_raR m1 (hcK_39r ▸ hF42 0 _ V))) hP42) (fun _ w43 ⟨e, hP43⟩ => ⟨_, e, ?_⟩)
  obtain ⟨cB_43, hcB_43, hP43⟩ := gen1 hP43
  have S43 := (hB42 _ _ hP43).a1
  refine xsA2 S43 hc3 V V V (Sh (Sg (fg4 F35))) t0 (fun w44 c44 hc44 S44 => W_end (Qo_normal (en (Qg (Qh F35)) fun A45 _ F45 => tk H38 (wp_ret (then_ret (inb_ret (then_ret (inb_ret (then_ret (inb_ret (then_ret (inb_ret (then_ret (inb_ret (then_ret (inb_ret (then_ret (inb_ret (then_ret (inb_ret (then_ret (inb_ret (then_ret (rt1 F45 (rvA (fg4 F45) (S44.ob 2 hc44)) ?_))))))))))))))))))))))))
  have hD := do_2 (mx := n) (g := gab G) (c := (⟨kd, a, b, f, p, q, uu⟩ : OpC)) Zk
  rw [hD]
  exact ⟨(if (ptE (G.1.2.map ab) G.2.2 [a, b] b f) = 0 then ((hv_39, H_39q), (qv_39, q_39q)) else G), [((hv_39, H_39q), (qv_39, q_39q))], rfl, fin_g hg_39r, gm_1, (S44.f2 0 hcB_43 1 hcK_39r)⟩
 refine wp_skip (tc H33 fun _ H47 => tb fun _ H48 => (ve (fg2 F35) V (vt (W_end (en (Ka (Qa F35)) fun A49 _ F49 => tk H48 (cd (fg0 F49) (fun c50 => ?_) fun c50 => ?_))))))
 ·refine wp_exit (then_exit (then_exit (inb_miss V (then_exit (inb_miss V (then_exit (inb_hit (tc H17 fun _ H51 => td fun _ H52 => region_monoS 14 15 [none, none, none, none, none, none, none, none, none, none, none, some (SPv [] (fun _ => fun u l' => ∃ hv_s H_s qv_s q_s, u = .tuple #[.agg #[hv_s, qv_s], .int .i64 (ptE (G.1.2.map ab) G.2.2 [a, b] a f)] ∧ (gab ((hv_s, H_s), (qv_s, q_s)) = ((soO (G.1.2.map ab) G.2.2 a f b), (soR (G.1.2.map ab) G.2.2 a f b))) ∧ ∃ cK_s, cK_s = gls [((hv_s, H_s), (qv_s, q_s))] ∧ l' = [cK_s]) 11)] kr kr (dm (fg7 F49) (dm (Sa (fg7 F49)) (dn t0 (df 0 t0 (dr (fun sx hx hF => (VR_ldP (ys := [G.1.1, G.2.1]) V t0 ((S3.grow hx).ob 2 hmb_gS) (ldP_at V) Tryz.underlying30 V kr)) (df 1 (Se (fg6 F49)) (dr (fun _ hx _ => (urc t0 (cell_box (v := .int .i64 (a)) ((S3.grow hx).ob 1 hc2) V))) (df 3 (Sg (fg6 F49)) (dr (fun _ hx _ => (urc t0 (cell_box (v := .int .i64 (f)) ((S3.grow hx).ob 1 hc2) V))) (df 2 (Sh (Sa (fg6 F49))) (dr (fun _ hx _ => (urc t0 (cell_box (v := .int .i64 (b)) ((S3.grow hx).ob 1 hc2) V))) (D_call (ts := []) (vs := []) (C0 := fun _ => fun u l' => ∃ hv_s H_s qv_s q_s, u = .tuple #[.agg #[hv_s, qv_s], .int .i64 (ptE (G.1.2.map ab) G.2.2 [a, b] a f)] ∧ (gab ((hv_s, H_s), (qv_s, q_s)) = ((soO (G.1.2.map ab) G.2.2 a f b), (soR (G.1.2.map ab) G.2.2 a f b))) ∧ ∃ cK_s, cK_s = gls [((hv_s, H_s), (qv_s, q_s))] ∧ l' = [cK_s]) (C := fun u l' => ∃ hv_s H_s qv_s q_s, u = .tuple #[.agg #[hv_s, qv_s], .int .i64 (ptE (G.1.2.map ab) G.2.2 [a, b] a f)] ∧ (gab ((hv_s, H_s), (qv_s, q_s)) = ((soO (G.1.2.map ab) G.2.2 a f b), (soR (G.1.2.map ab) G.2.2 a f b))) ∧ ∃ cK_s, cK_s = gls [((hv_s, H_s), (qv_s, q_s))] ∧ l' = [cK_s]) V V V Tryz.func67 kr V (args4 (Sf t0) (Sd t0) (Sb t0) t0) V V V V (fun sx hx hF => ?_) (fun u53 l53 hu53 => ?_)))))))))))))))))))))
  ·refine ((glC (F := fun a_ b_ => .tuple #[.agg #[a_, b_], .int .i64 (ptE (G.1.2.map ab) G.2.2 [a, b] a f)]) (kStore_c (a := a) (f := f) (b := b) ((S3.grow hx).roC Go) ((S3.grow hx).roC Gn) ((S3.grow hx).roC Gr) Ze))).mono ?_
   rintro _ _ ⟨hv_53, H_53, qv_53, q_53, rfl, hg_53, hz⟩
   exact ⟨_, rfl, _, ⟨_, _, _, _, rfl, hg_53, _, rfl, rfl⟩, hz⟩
  obtain ⟨hv_53, H_53, qv_53, q_53, rfl, hg_53, cK_53, hcK_53, hl53⟩ := hu53
  refine dx (.agg #[hv_53, qv_53]) t0 (dx (.int .i64 ((ptE (G.1.2.map ab) G.2.2 [a, b] a f))) (Sa t0) (D_eff V (ZS_eff S3 V V (fun s54 hJ54 hL54 hF54 => ?_))))
  obtain ⟨ll53, ws53, we53, ⟨hv_53q, H_53q, qv_53q, q_53q, hq53, hg_53r, cK_53r, hcK_53r, hl53r⟩, hm53, k53, e53⟩ := L.all_get hF54; cases hq53; subst hl53r
  replace hJ54 := hJ54.add hL54 (i := 11) V hm53 k53 e53
  have S54 := hJ54.st; clear hF54 hJ54 hL54
  generalize s54.1 = w54 at *
  replace S54 : St w Y [cK_53r, c3, c2, mb_gS] w54 := S54
  have S55 := S54.se [3, 0, 1, 2] [mb_gS, cK_53r, c3, c2]
  obtain ⟨Y56, hP56, hR56, hF56, hB56⟩ := St.call (pre := [mb_gS]) (fr := [cK_53r, c3, c2]) S55
  rw [hmb_gS] at hP56
  refine wc (args3 (Sh (Se t0)) (Sa t0) t0) (ksk_c (G := G) (G2 := ((hv_53, H_53q), (qv_53, q_53q))) (er := (ptE (G.1.2.map ab) G.2.2 [a, b] a f)) (gl_mk (hR56 _ Go) (hR56 _ Gn) (hR56 _ Gr)) (gl_mk (gl_oaR m1 (hcK_53r ▸ hF56 0 _ V)) (gl_naR m1 (hcK_53r ▸ hF56 0 _ V)) (gl_raR m1 (hcK_53r ▸ hF56 0 _ V))) hP56) (fun _ w57 ⟨e, hP57⟩ => ⟨_, e, ?_⟩)
  obtain ⟨cB_57, hcB_57, hP57⟩ := gen1 hP57
  have S57 := (hB56 _ _ hP57).a1
  refine xsA2 S57 hc3 V V V (Sh (Sg (fg5 F49))) t0 (fun w58 c58 hc58 S58 => W_end (Qo_normal (en (Qg (Qh F49)) fun A59 _ F59 => tk H52 (wp_ret (then_ret (inb_ret (then_ret (inb_ret (then_ret (inb_ret (then_ret (inb_ret (then_ret (inb_ret (then_ret (inb_ret (then_ret (inb_ret (then_ret (inb_ret (then_ret (rt1 F59 (rvA (fg5 F59) (S58.ob 2 hc58)) ?_))))))))))))))))))))))
  have hD := do_3 (mx := n) (g := gab G) (c := (⟨kd, a, b, f, p, q, uu⟩ : OpC)) Zk
  rw [hD]
  exact ⟨(if (ptE (G.1.2.map ab) G.2.2 [a, b] a f) = 0 then ((hv_53, H_53q), (qv_53, q_53q)) else G), [((hv_53, H_53q), (qv_53, q_53q))], rfl, fin_g hg_53r, gm_1, (S58.f2 0 hcB_57 1 hcK_53r)⟩
 refine wp_skip (tc H47 fun _ H61 => tb fun _ H62 => (ve (fg3 F49) V (vt (W_end (en (Ka (Qa F49)) fun A63 _ F63 => tk H62 (cd (fg0 F63) (fun c64 => ?_) fun c64 => ?_))))))
 ·refine wp_exit (then_exit (then_exit (inb_miss V (then_exit (inb_miss V (then_exit (inb_miss V (then_exit (inb_hit (tc H16 fun _ H65 => region_monoS 13 14 [none, none, none, none, none, none, none, none, some (SPv [] (fun _ => fun u l' => u = .tuple #[.int .u64 (rdV (G.1.2.map ab) G.2.2 a f), .int .i64 (rwE (G.1.2.map ab) G.2.2 [a] a f)] ∧ l' = []) 8)] kr kr (dm (fg8 F63) (dn t0 (df 0 t0 (dr (fun sx hx hF => (VR_ldP (ys := [G.1.1, G.2.1]) V t0 ((S3.grow hx).ob 2 hmb_gS) (ldP_at V) Tryz.underlying30 V kr)) (df 1 (Sd (fg7 F63)) (dr (fun _ hx _ => (urc t0 (cell_box (v := .int .i64 (a)) ((S3.grow hx).ob 1 hc2) V))) (df 3 (Sf (fg7 F63)) (dr (fun _ hx _ => (urc t0 (cell_box (v := .int .i64 (f)) ((S3.grow hx).ob 1 hc2) V))) (D_call (ts := []) (vs := []) (C0 := fun _ => fun u l' => u = .tuple #[.int .u64 (rdV (G.1.2.map ab) G.2.2 a f), .int .i64 (rwE (G.1.2.map ab) G.2.2 [a] a f)] ∧ l' = []) (C := fun u l' => u = .tuple #[.int .u64 (rdV (G.1.2.map ab) G.2.2 a f), .int .i64 (rwE (G.1.2.map ab) G.2.2 [a] a f)] ∧ l' = []) V V V Tryz.func68 kr V (args3 (Sd t0) (Sb t0) t0) V V V V (fun sx hx hF => ?_) (fun u66 l66 hu66 => ?_))))))))))))))))))))
  ·refine (kRd_c (a := a) (f := f) ((S3.grow hx).roC Go) ((S3.grow hx).roC Gn) ((S3.grow hx).roC Gr) ).mono ?_
   rintro _ _ ⟨rfl, hz⟩
   exact ⟨_, rfl, _, ⟨rfl, rfl⟩, hz⟩
  obtain ⟨rfl, hl66⟩ := hu66
  refine dm t0 (dx (.int .u64 ((rdV (G.1.2.map ab) G.2.2 a f))) t0 (dx (.int .i64 ((rwE (G.1.2.map ab) G.2.2 [a] a f))) (Sa t0) (df 2 (Sh (Sd (fg6 F63))) (D_eff V (ZS_eff S3 V V (fun s67 hJ67 hL67 hF67 => ?_))))))
  obtain ⟨ll66, ws66, we66, ⟨hq66, hl66r⟩, hm66, k66, e66⟩ := L.all_get hF67; cases hq66; subst hl66r
  replace hJ67 := hJ67.add hL67 (i := 8) V hm66 k66 e66
  have S67 := hJ67.st; clear hF67 hJ67 hL67
  generalize s67.1 = w67 at *
  replace S67 : St w Y [c3, c2, mb_gS] w67 := S67
  refine xsC0 (zs' := #[.int .i64 0, .bool false, .int .u64 ((rdV (G.1.2.map ab) G.2.2 a f))]) S67 hc3 V V V t0 (Sb t0) Zi (fun w68 c68 hc68 S68 => fa 0 (Sh (Se (fg6 F63))) (xsC0 (zs' := #[.int .i64 ((rwE (G.1.2.map ab) G.2.2 [a] a f)), .bool false, .int .u64 ((rdV (G.1.2.map ab) G.2.2 a f))]) S68 hc68 V V V t0 (Sb t0) Zi (fun w69 c69 hc69 S69 => W_end (Qo_normal (en (Qf (Qh F63)) fun A70 _ F70 => ?_)))))
  have S71 := S69.se [0, 2] [c69, mb_gS]
  refine tk H65 (wp_exit (inb_miss V (then_exit (inb_miss V (then_exit (inb_miss V (then_exit (inb_miss V (then_exit (inb_miss V (then_exit (inb_miss V (then_exit (inb_hit (ta H7 fun _ H72 => (ra (fg6 F70) (S71.ob 0 hc69) (xsA0 S71 hc69 V V V (Sa (fg6 F70)) t0 (fun w73 c73 hc73 S73 => W_end (en (Qa F70) fun A74 _ F74 => tk H72 (wp_ret (rt1 F74 (rvA (fg6 F74) (S73.ob 0 hc73)) ?_)))))))))))))))))))))
  obtain ⟨c75, hc75, S75⟩ := gen1 (gl_mt S73)
  have hD := do_4 (mx := n) (g := gab G) (c := (⟨kd, a, b, f, p, q, uu⟩ : OpC)) Zk
  rw [hD]
  exact ⟨G, [], rfl, rfl, gm_0, (S75.f2 2 hmb_gS 0 hc75)⟩
 refine wp_skip (tc H61 fun _ H76 => tb fun _ H77 => (ve (fg4 F63) V (vt (W_end (en (Ka (Qa F63)) fun A78 _ F78 => tk H77 (cd (fg0 F78) (fun c79 => ?_) fun c79 => ?_))))))
 ·refine wp_exit (then_exit (then_exit (inb_miss V (then_exit (inb_miss V (then_exit (inb_miss V (then_exit (inb_miss V (then_exit (inb_hit (tc H15 fun _ H80 => td fun _ H81 => region_monoS 14 15 [none, none, none, none, none, none, none, none, none, none, none, some (SPv [] (fun _ => fun u l' => ∃ hv_s H_s qv_s q_s, u = .tuple #[.agg #[hv_s, qv_s], .int .i64 (rwE (G.1.2.map ab) G.2.2 [a] a f)] ∧ (gab ((hv_s, H_s), (qv_s, q_s)) = ((wrO (G.1.2.map ab) G.2.2 a f uu), (wrR (G.1.2.map ab) G.2.2 a f))) ∧ ∃ cK_s, cK_s = gls [((hv_s, H_s), (qv_s, q_s))] ∧ l' = [cK_s]) 11)] kr kr (dm (fg9 F78) (dm (Sa (fg9 F78)) (dn t0 (df 0 t0 (dr (fun sx hx hF => (VR_ldP (ys := [G.1.1, G.2.1]) V t0 ((S3.grow hx).ob 2 hmb_gS) (ldP_at V) Tryz.underlying30 V kr)) (df 1 (Se (fg8 F78)) (dr (fun _ hx _ => (urc t0 (cell_box (v := .int .i64 (a)) ((S3.grow hx).ob 1 hc2) V))) (df 3 (Sg (fg8 F78)) (dr (fun _ hx _ => (urc t0 (cell_box (v := .int .i64 (f)) ((S3.grow hx).ob 1 hc2) V))) (df 6 (Sh (Sa (fg8 F78))) (dr (fun _ hx _ => (urc t0 (cell_box (v := .int .u64 (uu)) ((S3.grow hx).ob 1 hc2) V))) (D_call (ts := []) (vs := []) (C0 := fun _ => fun u l' => ∃ hv_s H_s qv_s q_s, u = .tuple #[.agg #[hv_s, qv_s], .int .i64 (rwE (G.1.2.map ab) G.2.2 [a] a f)] ∧ (gab ((hv_s, H_s), (qv_s, q_s)) = ((wrO (G.1.2.map ab) G.2.2 a f uu), (wrR (G.1.2.map ab) G.2.2 a f))) ∧ ∃ cK_s, cK_s = gls [((hv_s, H_s), (qv_s, q_s))] ∧ l' = [cK_s]) (C := fun u l' => ∃ hv_s H_s qv_s q_s, u = .tuple #[.agg #[hv_s, qv_s], .int .i64 (rwE (G.1.2.map ab) G.2.2 [a] a f)] ∧ (gab ((hv_s, H_s), (qv_s, q_s)) = ((wrO (G.1.2.map ab) G.2.2 a f uu), (wrR (G.1.2.map ab) G.2.2 a f))) ∧ ∃ cK_s, cK_s = gls [((hv_s, H_s), (qv_s, q_s))] ∧ l' = [cK_s]) V V V Tryz.func69 kr V (args4 (Sf t0) (Sd t0) (Sb t0) t0) V V V V (fun sx hx hF => ?_) (fun u82 l82 hu82 => ?_)))))))))))))))))))))))))
  ·refine ((glC (F := fun a_ b_ => .tuple #[.agg #[a_, b_], .int .i64 (rwE (G.1.2.map ab) G.2.2 [a] a f)]) (kWrite_c (a := a) (f := f) (x := uu) ((S3.grow hx).roC Go) ((S3.grow hx).roC Gn) ((S3.grow hx).roC Gr) Ze))).mono ?_
   rintro _ _ ⟨hv_82, H_82, qv_82, q_82, rfl, hg_82, hz⟩
   exact ⟨_, rfl, _, ⟨_, _, _, _, rfl, hg_82, _, rfl, rfl⟩, hz⟩
  obtain ⟨hv_82, H_82, qv_82, q_82, rfl, hg_82, cK_82, hcK_82, hl82⟩ := hu82
  refine dx (.agg #[hv_82, qv_82]) t0 (dx (.int .i64 ((rwE (G.1.2.map ab) G.2.2 [a] a f))) (Sa t0) (D_eff V (ZS_eff S3 V V (fun s83 hJ83 hL83 hF83 => ?_))))
  obtain ⟨ll82, ws82, we82, ⟨hv_82q, H_82q, qv_82q, q_82q, hq82, hg_82r, cK_82r, hcK_82r, hl82r⟩, hm82, k82, e82⟩ := L.all_get hF83; cases hq82; subst hl82r
  replace hJ83 := hJ83.add hL83 (i := 11) V hm82 k82 e82
  have S83 := hJ83.st; clear hF83 hJ83 hL83
  generalize s83.1 = w83 at *
  replace S83 : St w Y [cK_82r, c3, c2, mb_gS] w83 := S83
  have S84 := S83.se [3, 0, 1, 2] [mb_gS, cK_82r, c3, c2]
  obtain ⟨Y85, hP85, hR85, hF85, hB85⟩ := St.call (pre := [mb_gS]) (fr := [cK_82r, c3, c2]) S84
  rw [hmb_gS] at hP85
  refine wc (args3 (Sh (Se t0)) (Sa t0) t0) (ksk_c (G := G) (G2 := ((hv_82, H_82q), (qv_82, q_82q))) (er := (rwE (G.1.2.map ab) G.2.2 [a] a f)) (gl_mk (hR85 _ Go) (hR85 _ Gn) (hR85 _ Gr)) (gl_mk (gl_oaR m1 (hcK_82r ▸ hF85 0 _ V)) (gl_naR m1 (hcK_82r ▸ hF85 0 _ V)) (gl_raR m1 (hcK_82r ▸ hF85 0 _ V))) hP85) (fun _ w86 ⟨e, hP86⟩ => ⟨_, e, ?_⟩)
  obtain ⟨cB_86, hcB_86, hP86⟩ := gen1 hP86
  have S86 := (hB85 _ _ hP86).a1
  refine xsA2 S86 hc3 V V V (Sh (Sg (fg7 F78))) t0 (fun w87 c87 hc87 S87 => W_end (Qo_normal (en (Qg (Qh F78)) fun A88 _ F88 => tk H81 (wp_ret (then_ret (inb_ret (then_ret (inb_ret (then_ret (inb_ret (then_ret (inb_ret (then_ret (inb_ret (then_ret (inb_ret (then_ret (rt1 F88 (rvA (fg7 F88) (S87.ob 2 hc87)) ?_))))))))))))))))))
  have hD := do_5 (mx := n) (g := gab G) (c := (⟨kd, a, b, f, p, q, uu⟩ : OpC)) Zk
  rw [hD]
  exact ⟨(if (rwE (G.1.2.map ab) G.2.2 [a] a f) = 0 then ((hv_82, H_82q), (qv_82, q_82q)) else G), [((hv_82, H_82q), (qv_82, q_82q))], rfl, fin_g hg_82r, gm_1, (S87.f2 0 hcB_86 1 hcK_82r)⟩
 refine wp_skip (tc H76 fun _ H90 => tb fun _ H91 => (ve (fg5 F78) V (vt (W_end (en (Ka (Qa F78)) fun A92 _ F92 => tk H91 (cd (fg0 F92) (fun c93 => ?_) fun c93 => ?_))))))
 ·refine wp_exit (then_exit (then_exit (inb_miss V (then_exit (inb_miss V (then_exit (inb_miss V (then_exit (inb_miss V (then_exit (inb_miss V (then_exit (inb_hit (tc H14 fun _ H94 => td fun _ H95 => region_monoS 12 13 [none, none, none, none, none, none, none, none, none, some (SPv [] (fun _ => fun u l' => ∃ hv_s H_s qv_s q_s, u = .tuple #[.agg #[hv_s, qv_s], .int .i64 (ckd (G.1.2.map ab) G.2.2 [a, b])] ∧ (gab ((hv_s, H_s), (qv_s, q_s)) = ((kpO (G.1.2.map ab) G.2.2 [a, b]), (mvR (G.1.2.map ab) G.2.2 a b))) ∧ ∃ cK_s, cK_s = gls [((hv_s, H_s), (qv_s, q_s))] ∧ l' = [cK_s]) 9)] kr kr (dm (fg10 F92) (dm (Sa (fg10 F92)) (dn t0 (df 0 t0 (dr (fun sx hx hF => (VR_ldP (ys := [G.1.1, G.2.1]) V t0 ((S3.grow hx).ob 2 hmb_gS) (ldP_at V) Tryz.underlying30 V kr)) (df 1 (Se (fg9 F92)) (dr (fun _ hx _ => (urc t0 (cell_box (v := .int .i64 (a)) ((S3.grow hx).ob 1 hc2) V))) (df 2 (Sg (fg9 F92)) (dr (fun _ hx _ => (urc t0 (cell_box (v := .int .i64 (b)) ((S3.grow hx).ob 1 hc2) V))) (D_call (ts := []) (vs := []) (C0 := fun _ => fun u l' => ∃ hv_s H_s qv_s q_s, u = .tuple #[.agg #[hv_s, qv_s], .int .i64 (ckd (G.1.2.map ab) G.2.2 [a, b])] ∧ (gab ((hv_s, H_s), (qv_s, q_s)) = ((kpO (G.1.2.map ab) G.2.2 [a, b]), (mvR (G.1.2.map ab) G.2.2 a b))) ∧ ∃ cK_s, cK_s = gls [((hv_s, H_s), (qv_s, q_s))] ∧ l' = [cK_s]) (C := fun u l' => ∃ hv_s H_s qv_s q_s, u = .tuple #[.agg #[hv_s, qv_s], .int .i64 (ckd (G.1.2.map ab) G.2.2 [a, b])] ∧ (gab ((hv_s, H_s), (qv_s, q_s)) = ((kpO (G.1.2.map ab) G.2.2 [a, b]), (mvR (G.1.2.map ab) G.2.2 a b))) ∧ ∃ cK_s, cK_s = gls [((hv_s, H_s), (qv_s, q_s))] ∧ l' = [cK_s]) V V V Tryz.func70 kr V (args3 (Sd t0) (Sb t0) t0) V V V V (fun sx hx hF => ?_) (fun u96 l96 hu96 => ?_)))))))))))))))))))))))))
  ·refine ((glC (F := fun a_ b_ => .tuple #[.agg #[a_, b_], .int .i64 (ckd (G.1.2.map ab) G.2.2 [a, b])]) (kMove_c (a := a) (b := b) ((S3.grow hx).roC Go) ((S3.grow hx).roC Gn) ((S3.grow hx).roC Gr) Ze))).mono ?_
   rintro _ _ ⟨hv_96, H_96, qv_96, q_96, rfl, hg_96, hz⟩
   exact ⟨_, rfl, _, ⟨_, _, _, _, rfl, hg_96, _, rfl, rfl⟩, hz⟩
  obtain ⟨hv_96, H_96, qv_96, q_96, rfl, hg_96, cK_96, hcK_96, hl96⟩ := hu96
  refine dx (.agg #[hv_96, qv_96]) t0 (dx (.int .i64 ((ckd (G.1.2.map ab) G.2.2 [a, b]))) (Sa t0) (D_eff V (ZS_eff S3 V V (fun s97 hJ97 hL97 hF97 => ?_))))
  obtain ⟨ll96, ws96, we96, ⟨hv_96q, H_96q, qv_96q, q_96q, hq96, hg_96r, cK_96r, hcK_96r, hl96r⟩, hm96, k96, e96⟩ := L.all_get hF97; cases hq96; subst hl96r
  replace hJ97 := hJ97.add hL97 (i := 9) V hm96 k96 e96
  have S97 := hJ97.st; clear hF97 hJ97 hL97
  generalize s97.1 = w97 at *
  replace S97 : St w Y [cK_96r, c3, c2, mb_gS] w97 := S97
  have S98 := S97.se [3, 0, 1, 2] [mb_gS, cK_96r, c3, c2]
  obtain ⟨Y99, hP99, hR99, hF99, hB99⟩ := St.call (pre := [mb_gS]) (fr := [cK_96r, c3, c2]) S98
  rw [hmb_gS] at hP99
  refine wc (args3 (Sh (Sc t0)) (Sa t0) t0) (ksk_c (G := G) (G2 := ((hv_96, H_96q), (qv_96, q_96q))) (er := (ckd (G.1.2.map ab) G.2.2 [a, b])) (gl_mk (hR99 _ Go) (hR99 _ Gn) (hR99 _ Gr)) (gl_mk (gl_oaR m1 (hcK_96r ▸ hF99 0 _ V)) (gl_naR m1 (hcK_96r ▸ hF99 0 _ V)) (gl_raR m1 (hcK_96r ▸ hF99 0 _ V))) hP99) (fun _ w100 ⟨e, hP100⟩ => ⟨_, e, ?_⟩)
  obtain ⟨cB_100, hcB_100, hP100⟩ := gen1 hP100
  have S100 := (hB99 _ _ hP100).a1
  refine xsA2 S100 hc3 V V V (Sh (Se (fg8 F92))) t0 (fun w101 c101 hc101 S101 => W_end (Qo_normal (en (Qe (Qh F92)) fun A102 _ F102 => tk H95 (wp_ret (then_ret (inb_ret (then_ret (inb_ret (then_ret (inb_ret (then_ret (inb_ret (then_ret (inb_ret (then_ret (rt1 F102 (rvA (fg8 F102) (S101.ob 2 hc101)) ?_))))))))))))))))
  have hD := do_6 (mx := n) (g := gab G) (c := (⟨kd, a, b, f, p, q, uu⟩ : OpC)) Zk
  rw [hD]
  exact ⟨(if (ckd (G.1.2.map ab) G.2.2 [a, b]) = 0 then ((hv_96, H_96q), (qv_96, q_96q)) else G), [((hv_96, H_96q), (qv_96, q_96q))], rfl, fin_g hg_96r, gm_1, (S101.f2 0 hcB_100 1 hcK_96r)⟩
 refine wp_skip (tc H90 fun _ H104 => tb fun _ H105 => (ve (fg6 F92) V (vt (W_end (en (Ka (Qa F92)) fun A106 _ F106 => tk H105 (cd (fg0 F106) (fun c107 => ?_) fun c107 => ?_))))))
 ·refine wp_exit (then_exit (then_exit (inb_miss V (then_exit (inb_miss V (then_exit (inb_miss V (then_exit (inb_miss V (then_exit (inb_miss V (then_exit (inb_miss V (then_exit (inb_hit (tc H13 fun _ H108 => td fun _ H109 => region_monoS 10 11 [none, none, none, none, none, none, none, some (SPv [] (fun _ => fun u l' => ∃ hv_s H_s qv_s q_s, u = .tuple #[.agg #[hv_s, qv_s], .int .i64 (ckd (G.1.2.map ab) G.2.2 [a])] ∧ (gab ((hv_s, H_s), (qv_s, q_s)) = ((kpO (G.1.2.map ab) G.2.2 [a]), (clR (G.1.2.map ab) G.2.2 a))) ∧ ∃ cK_s, cK_s = gls [((hv_s, H_s), (qv_s, q_s))] ∧ l' = [cK_s]) 7)] kr kr (dm (fg11 F106) (dm (Sa (fg11 F106)) (dn t0 (df 0 t0 (dr (fun sx hx hF => (VR_ldP (ys := [G.1.1, G.2.1]) V t0 ((S3.grow hx).ob 2 hmb_gS) (ldP_at V) Tryz.underlying30 V kr)) (df 1 (Se (fg10 F106)) (dr (fun _ hx _ => (urc t0 (cell_box (v := .int .i64 (a)) ((S3.grow hx).ob 1 hc2) V))) (D_call (ts := []) (vs := []) (C0 := fun _ => fun u l' => ∃ hv_s H_s qv_s q_s, u = .tuple #[.agg #[hv_s, qv_s], .int .i64 (ckd (G.1.2.map ab) G.2.2 [a])] ∧ (gab ((hv_s, H_s), (qv_s, q_s)) = ((kpO (G.1.2.map ab) G.2.2 [a]), (clR (G.1.2.map ab) G.2.2 a))) ∧ ∃ cK_s, cK_s = gls [((hv_s, H_s), (qv_s, q_s))] ∧ l' = [cK_s]) (C := fun u l' => ∃ hv_s H_s qv_s q_s, u = .tuple #[.agg #[hv_s, qv_s], .int .i64 (ckd (G.1.2.map ab) G.2.2 [a])] ∧ (gab ((hv_s, H_s), (qv_s, q_s)) = ((kpO (G.1.2.map ab) G.2.2 [a]), (clR (G.1.2.map ab) G.2.2 a))) ∧ ∃ cK_s, cK_s = gls [((hv_s, H_s), (qv_s, q_s))] ∧ l' = [cK_s]) V V V Tryz.func71 kr V (args2 (Sb t0) t0) V V V V (fun sx hx hF => ?_) (fun u110 l110 hu110 => ?_)))))))))))))))))))))))))
  ·refine ((glC (F := fun a_ b_ => .tuple #[.agg #[a_, b_], .int .i64 (ckd (G.1.2.map ab) G.2.2 [a])]) (kClear_c (a := a) ((S3.grow hx).roC Go) ((S3.grow hx).roC Gn) ((S3.grow hx).roC Gr) Ze))).mono ?_
   rintro _ _ ⟨hv_110, H_110, qv_110, q_110, rfl, hg_110, hz⟩
   exact ⟨_, rfl, _, ⟨_, _, _, _, rfl, hg_110, _, rfl, rfl⟩, hz⟩
  obtain ⟨hv_110, H_110, qv_110, q_110, rfl, hg_110, cK_110, hcK_110, hl110⟩ := hu110
  refine dx (.agg #[hv_110, qv_110]) t0 (dx (.int .i64 ((ckd (G.1.2.map ab) G.2.2 [a]))) (Sa t0) (D_eff V (ZS_eff S3 V V (fun s111 hJ111 hL111 hF111 => ?_))))
  obtain ⟨ll110, ws110, we110, ⟨hv_110q, H_110q, qv_110q, q_110q, hq110, hg_110r, cK_110r, hcK_110r, hl110r⟩, hm110, k110, e110⟩ := L.all_get hF111; cases hq110; subst hl110r
  replace hJ111 := hJ111.add hL111 (i := 7) V hm110 k110 e110
  have S111 := hJ111.st; clear hF111 hJ111 hL111
  generalize s111.1 = w111 at *
  replace S111 : St w Y [cK_110r, c3, c2, mb_gS] w111 := S111
  have S112 := S111.se [3, 0, 1, 2] [mb_gS, cK_110r, c3, c2]
  obtain ⟨Y113, hP113, hR113, hF113, hB113⟩ := St.call (pre := [mb_gS]) (fr := [cK_110r, c3, c2]) S112
  rw [hmb_gS] at hP113
  refine wc (args3 (Sh (Sa t0)) (Sa t0) t0) (ksk_c (G := G) (G2 := ((hv_110, H_110q), (qv_110, q_110q))) (er := (ckd (G.1.2.map ab) G.2.2 [a])) (gl_mk (hR113 _ Go) (hR113 _ Gn) (hR113 _ Gr)) (gl_mk (gl_oaR m1 (hcK_110r ▸ hF113 0 _ V)) (gl_naR m1 (hcK_110r ▸ hF113 0 _ V)) (gl_raR m1 (hcK_110r ▸ hF113 0 _ V))) hP113) (fun _ w114 ⟨e, hP114⟩ => ⟨_, e, ?_⟩)
  obtain ⟨cB_114, hcB_114, hP114⟩ := gen1 hP114
  have S114 := (hB113 _ _ hP114).a1
  refine xsA2 S114 hc3 V V V (Sh (Sc (fg9 F106))) t0 (fun w115 c115 hc115 S115 => W_end (Qo_normal (en (Qc (Qh F106)) fun A116 _ F116 => tk H109 (wp_ret (then_ret (inb_ret (then_ret (inb_ret (then_ret (inb_ret (then_ret (inb_ret (then_ret (rt1 F116 (rvA (fg9 F116) (S115.ob 2 hc115)) ?_))))))))))))))
  have hD := do_7 (mx := n) (g := gab G) (c := (⟨kd, a, b, f, p, q, uu⟩ : OpC)) Zk
  rw [hD]
  exact ⟨(if (ckd (G.1.2.map ab) G.2.2 [a]) = 0 then ((hv_110, H_110q), (qv_110, q_110q)) else G), [((hv_110, H_110q), (qv_110, q_110q))], rfl, fin_g hg_110r, gm_1, (S115.f2 0 hcB_114 1 hcK_110r)⟩
 refine wp_skip (tc H104 fun _ H118 => tb fun _ H119 => (ve (fg7 F106) V (vt (W_end (en (Ka (Qa F106)) fun A120 _ F120 => tk H119 (cd (fg0 F120) (fun c121 => ?_) fun c121 => ?_))))))
 ·refine wp_exit (then_exit (then_exit (inb_miss V (then_exit (inb_miss V (then_exit (inb_miss V (then_exit (inb_miss V (then_exit (inb_miss V (then_exit (inb_miss V (then_exit (inb_miss V (then_exit (inb_hit (tk H12 (region_in (fa 2 (fg11 F120) (rL (.int .i64 (b)) t0 (S3.ob 1 hc2) (vt (W_end (en (Ka (Qb (fx9 F120))) fun A122 _ F122 => inb_n (tc H11 fun _ H123 => td fun _ H124 => region_monoS 12 13 [none, none, none, none, none, none, none, some (SPv [] (fun _ => fun u l' => u = .tuple #[.bool (alB (G.1.2.map ab) G.2.2 a b), .int .i64 (ckd (G.1.2.map ab) G.2.2 [a, b])] ∧ l' = []) 7)] kr kr (dm (fg12 F122) (dn t0 (df 0 t0 (dr (fun sx hx hF => (VR_ldP (ys := [G.1.1, G.2.1]) V t0 ((S3.grow hx).ob 2 hmb_gS) (ldP_at V) Tryz.underlying30 V kr)) (df 1 (Sd (fg11 F122)) (dr (fun _ hx _ => (urc t0 (cell_box (v := .int .i64 (a)) ((S3.grow hx).ob 1 hc2) V))) (dm (Sf (fg0 F122)) (D_call (ts := []) (vs := []) (C0 := fun _ => fun u l' => u = .tuple #[.bool (alB (G.1.2.map ab) G.2.2 a b), .int .i64 (ckd (G.1.2.map ab) G.2.2 [a, b])] ∧ l' = []) (C := fun u l' => u = .tuple #[.bool (alB (G.1.2.map ab) G.2.2 a b), .int .i64 (ckd (G.1.2.map ab) G.2.2 [a, b])] ∧ l' = []) V V V Tryz.func72 kr V (args3 (Sc t0) (Sa t0) t0) V V V V (fun sx hx hF => ?_) (fun u125 l125 hu125 => ?_))))))))))))))))))))))))))))))))))
  ·refine (kAl_c (a := a) (b := b) ((S3.grow hx).roC Go) ((S3.grow hx).roC Gn) ((S3.grow hx).roC Gr) ).mono ?_
   rintro _ _ ⟨rfl, hz⟩
   exact ⟨_, rfl, _, ⟨rfl, rfl⟩, hz⟩
  obtain ⟨rfl, hl125⟩ := hu125
  refine dm t0 (dx (.bool ((alB (G.1.2.map ab) G.2.2 a b))) t0 (dx (.int .i64 ((ckd (G.1.2.map ab) G.2.2 [a, b]))) (Sa t0) (df 1 (Sh (Sc (fg10 F122))) (D_eff V (ZS_eff S3 V V (fun s126 hJ126 hL126 hF126 => ?_))))))
  obtain ⟨ll125, ws125, we125, ⟨hq125, hl125r⟩, hm125, k125, e125⟩ := L.all_get hF126; cases hq125; subst hl125r
  replace hJ126 := hJ126.add hL126 (i := 7) V hm125 k125 e125
  have S126 := hJ126.st; clear hF126 hJ126 hL126
  generalize s126.1 = w126 at *
  replace S126 : St w Y [c3, c2, mb_gS] w126 := S126
  refine xsC0 (zs' := #[.int .i64 0, .bool ((alB (G.1.2.map ab) G.2.2 a b)), .int .u64 0]) S126 hc3 V V V t0 (Sb t0) Zi (fun w127 c127 hc127 S127 => fa 0 (Sh (Sd (fg10 F122))) (xsC0 (zs' := #[.int .i64 ((ckd (G.1.2.map ab) G.2.2 [a, b])), .bool ((alB (G.1.2.map ab) G.2.2 a b)), .int .u64 0]) S127 hc127 V V V t0 (Sb t0) Zi (fun w128 c128 hc128 S128 => W_end (Qo_normal (en (Qe (Qh F122)) fun A129 _ F129 => ta H124 fun _ H130 => (vm (fg12 F129) (fa 1 (Sa (fg11 F129)) (rL (.int .i64 (a)) t0 (S128.ob 1 hc2) (wc (args2 (Sb t0) t0) (krg_c (gS := gS) (n := n) (G := G) (a := a) (gl_mk (S128.roC Go) (S128.roC Gn) (S128.roC Gr)) (S128.cC 2 hmb_gS)) (C0 S128 fun w131 S131 => vm t0 (vx (.int .i64 ((rgX (G.1.2.map ab) G.2.2 a))) t0 (vx (.int .i64 ((ckd (G.1.2.map ab) G.2.2 [a, a]))) (Sa t0) (va (Sa t0) (va (Sa t0) (W_end (en (Kb (Qg F129)) fun A132 _ F132 => ta H130 fun _ H133 => (vm (fg0 F132) (ve t0 V (W_split V V (V_mov V t0) (fun c134 => ?_) (fun c134 => ?_))))))))))))))))))))
  ·refine wg V t0 (ufa 0 (Sc (fg13 F132))) (wq V (Sa t0) (urL (.int .i64 (kd)) t0 (S131.ob 1 hc2)) (wg V (Sb t0) (uve t0 V) (vT (Sc t0) t0 (W_end (en (Ka (Qf F132)) fun A135 _ F135 => ?_)))))
   have S136 := S131.se [0, 2] [c128, mb_gS]
   refine tk H133 (cond_not (fg0 F135) (by rw [decide_eq_false_iff_not]; omega) (wp_skip (tk H123 (wp_exit (inb_miss V (then_exit (inb_hit (ta H7 fun _ H137 => (ra (fg13 F135) (S136.ob 0 hc128) (xsA0 S136 hc128 V V V (Sa (fg13 F135)) t0 (fun w138 c138 hc138 S138 => W_end (en (Qa F135) fun A139 _ F139 => tk H137 (wp_ret (rt1 F139 (rvA (fg13 F139) (S138.ob 0 hc138)) ?_))))))))))))))
   obtain ⟨c140, hc140, S140⟩ := gen1 (gl_mt S138)
   have hD := do_8 (mx := n) (g := gab G) (c := (⟨kd, a, b, f, p, q, uu⟩ : OpC)) Zk
   rw [hD]
   exact ⟨G, [], rfl, rfl, gm_0, (S140.f2 2 hmb_gS 0 hc140)⟩
  refine xo V t0 (xo V (Sa t0) (xo V (Sb t0) (vF (Sc t0) V (W_end (en (Ka (Qf F132)) fun A141 _ F141 => ?_)))))
  have S142 := S131.se [0, 2] [c128, mb_gS]
  refine tk H133 (cond_f (fg0 F141) (wp_skip (tk H123 (wp_exit (inb_miss V (then_exit (inb_hit (ta H7 fun _ H143 => (ra (fg13 F141) (S142.ob 0 hc128) (xsA0 S142 hc128 V V V (Sa (fg13 F141)) t0 (fun w144 c144 hc144 S144 => W_end (en (Qa F141) fun A145 _ F145 => tk H143 (wp_ret (rt1 F145 (rvA (fg13 F145) (S144.ob 0 hc144)) ?_))))))))))))))
  obtain ⟨c146, hc146, S146⟩ := gen1 (gl_mt S144)
  have hD := do_8 (mx := n) (g := gab G) (c := (⟨kd, a, b, f, p, q, uu⟩ : OpC)) Zk
  rw [hD]
  exact ⟨G, [], rfl, rfl, gm_0, (S146.f2 2 hmb_gS 0 hc146)⟩
 refine wp_skip (tc H118 fun _ H147 => tb fun _ H148 => (ve (fg8 F120) V (vt (W_end (en (Ka (Qa F120)) fun A149 _ F149 => tk H148 (cd (fg0 F149) (fun c150 => ?_) fun c150 => ?_))))))
 ·refine wp_exit (then_exit (then_exit (inb_miss V (then_exit (inb_miss V (then_exit (inb_miss V (then_exit (inb_miss V (then_exit (inb_miss V (then_exit (inb_miss V (then_exit (inb_miss V (then_exit (inb_miss V (then_exit (inb_hit (tc H11 fun _ H151 => td fun _ H152 => region_monoS 12 13 [none, none, none, none, none, none, none, some (SPv [] (fun _ => fun u l' => u = .tuple #[.bool (alB (G.1.2.map ab) G.2.2 a a), .int .i64 (ckd (G.1.2.map ab) G.2.2 [a, a])] ∧ l' = []) 7)] kr kr (dm (fg13 F149) (dn t0 (df 0 t0 (dr (fun sx hx hF => (VR_ldP (ys := [G.1.1, G.2.1]) V t0 ((S3.grow hx).ob 2 hmb_gS) (ldP_at V) Tryz.underlying30 V kr)) (df 1 (Sd (fg12 F149)) (dr (fun _ hx _ => (urc t0 (cell_box (v := .int .i64 (a)) ((S3.grow hx).ob 1 hc2) V))) (dm (Sf (fg10 F149)) (D_call (ts := []) (vs := []) (C0 := fun _ => fun u l' => u = .tuple #[.bool (alB (G.1.2.map ab) G.2.2 a a), .int .i64 (ckd (G.1.2.map ab) G.2.2 [a, a])] ∧ l' = []) (C := fun u l' => u = .tuple #[.bool (alB (G.1.2.map ab) G.2.2 a a), .int .i64 (ckd (G.1.2.map ab) G.2.2 [a, a])] ∧ l' = []) V V V Tryz.func72 kr V (args3 (Sc t0) (Sa t0) t0) V V V V (fun sx hx hF => ?_) (fun u153 l153 hu153 => ?_)))))))))))))))))))))))))))))
  ·refine (kAl_c (a := a) (b := a) ((S3.grow hx).roC Go) ((S3.grow hx).roC Gn) ((S3.grow hx).roC Gr) ).mono ?_
   rintro _ _ ⟨rfl, hz⟩
   exact ⟨_, rfl, _, ⟨rfl, rfl⟩, hz⟩
  obtain ⟨rfl, hl153⟩ := hu153
  refine dm t0 (dx (.bool ((alB (G.1.2.map ab) G.2.2 a a))) t0 (dx (.int .i64 ((ckd (G.1.2.map ab) G.2.2 [a, a]))) (Sa t0) (df 1 (Sh (Sc (fg11 F149))) (D_eff V (ZS_eff S3 V V (fun s154 hJ154 hL154 hF154 => ?_))))))
  obtain ⟨ll153, ws153, we153, ⟨hq153, hl153r⟩, hm153, k153, e153⟩ := L.all_get hF154; cases hq153; subst hl153r
  replace hJ154 := hJ154.add hL154 (i := 7) V hm153 k153 e153
  have S154 := hJ154.st; clear hF154 hJ154 hL154
  generalize s154.1 = w154 at *
  replace S154 : St w Y [c3, c2, mb_gS] w154 := S154
  refine xsC0 (zs' := #[.int .i64 0, .bool ((alB (G.1.2.map ab) G.2.2 a a)), .int .u64 0]) S154 hc3 V V V t0 (Sb t0) Zi (fun w155 c155 hc155 S155 => fa 0 (Sh (Sd (fg11 F149))) (xsC0 (zs' := #[.int .i64 ((ckd (G.1.2.map ab) G.2.2 [a, a])), .bool ((alB (G.1.2.map ab) G.2.2 a a)), .int .u64 0]) S155 hc155 V V V t0 (Sb t0) Zi (fun w156 c156 hc156 S156 => W_end (Qo_normal (en (Qe (Qh F149)) fun A157 _ F157 => ta H152 fun _ H158 => (vm (fg13 F157) (fa 1 (Sa (fg12 F157)) (rL (.int .i64 (a)) t0 (S156.ob 1 hc2) (wc (args2 (Sb t0) t0) (krg_c (gS := gS) (n := n) (G := G) (a := a) (gl_mk (S156.roC Go) (S156.roC Gn) (S156.roC Gr)) (S156.cC 2 hmb_gS)) (C0 S156 fun w159 S159 => vm t0 (vx (.int .i64 ((rgX (G.1.2.map ab) G.2.2 a))) t0 (vx (.int .i64 ((ckd (G.1.2.map ab) G.2.2 [a, a]))) (Sa t0) (va (Sa t0) (va (Sa t0) (W_end (en (Kb (Qg F157)) fun A160 _ F160 => ta H158 fun _ H161 => (vm (fg0 F160) (ve t0 V (W_split V V (V_mov V t0) (fun c162 => ?_) (fun c162 => ?_))))))))))))))))))))
  ·refine wg V t0 (ufa 0 (Sc (fg14 F160))) (wq V (Sa t0) (urL (.int .i64 (kd)) t0 (S159.ob 1 hc2)) (wg V (Sb t0) (uve t0 V) (vT (Sc t0) t0 (W_end (en (Ka (Qf F160)) fun A163 _ F163 => ?_)))))
   have S164 := S159.se [0, 2] [c156, mb_gS]
   refine tk H161 (cond_sure (fg0 F163) (by first | (simp [c150]; done) | exact decide_eq_true Zb | exact decide_eq_false Zb) (region_in (vm (fg2 F163) (ve t0 V (fa 1 (Sb (fg14 F163)) (xsC0 (zs' := #[.int .i64 ((ckd (G.1.2.map ab) G.2.2 [a, a])), .bool (decide ((rgX (G.1.2.map ab) G.2.2 a) = 0)), .int .u64 0]) S164 hc156 V V V t0 (Sa t0) Zi (fun w165 c165 hc165 S165 => W_end (en (Qc F163) fun A166 _ F166 => tk H151 (wp_exit (inb_miss V (then_exit (inb_hit (ta H7 fun _ H167 => (ra (fg14 F166) (S165.ob 0 hc165) (xsA0 S165 hc165 V V V (Sa (fg14 F166)) t0 (fun w168 c168 hc168 S168 => W_end (en (Qa F166) fun A169 _ F169 => tk H167 (wp_ret (rt1 F169 (rvA (fg14 F169) (S168.ob 0 hc168)) ?_)))))))))))))))))))
   obtain ⟨c170, hc170, S170⟩ := gen1 (gl_mt S168)
   have hD := do_9 (mx := n) (g := gab G) (c := (⟨kd, a, b, f, p, q, uu⟩ : OpC)) Zk
   have ht : decide ((ckd (G.1.2.map ab) G.2.2 [a, a]) = 0 ∧ rg G.2.2 a = 0) = decide ((rgX (G.1.2.map ab) G.2.2 a) = 0) := by have h0 : (ckd (G.1.2.map ab) G.2.2 [a, a]) = 0 := Zb; unfold rgX; rw [h0]; simp
   have ht2 : decide (ckd (gab G).1 (gab G).2 [a, a] = 0 ∧ rg (gab G).2 a = 0) = decide ((rgX (G.1.2.map ab) G.2.2 a) = 0) := ht
   rw [hD]
   simp only [ht2]
   exact ⟨G, [], rfl, rfl, gm_0, (S170.f2 2 hmb_gS 0 hc170)⟩
  refine xo V t0 (xo V (Sa t0) (xo V (Sb t0) (vF (Sc t0) V (W_end (en (Ka (Qf F160)) fun A171 _ F171 => ?_)))))
  have S172 := S159.se [0, 2] [c156, mb_gS]
  refine tk H161 (cond_f (fg0 F171) (wp_skip (tk H151 (wp_exit (inb_miss V (then_exit (inb_hit (ta H7 fun _ H173 => (ra (fg14 F171) (S172.ob 0 hc156) (xsA0 S172 hc156 V V V (Sa (fg14 F171)) t0 (fun w174 c174 hc174 S174 => W_end (en (Qa F171) fun A175 _ F175 => tk H173 (wp_ret (rt1 F175 (rvA (fg14 F175) (S174.ob 0 hc174)) ?_))))))))))))))
  obtain ⟨c176, hc176, S176⟩ := gen1 (gl_mt S174)
  have hD := do_9 (mx := n) (g := gab G) (c := (⟨kd, a, b, f, p, q, uu⟩ : OpC)) Zk
  have ht : decide ((ckd (G.1.2.map ab) G.2.2 [a, a]) = 0 ∧ rg G.2.2 a = 0) = (alB (G.1.2.map ab) G.2.2 a a) := by have h0 : ¬ (ckd (G.1.2.map ab) G.2.2 [a, a]) = 0 := Zb; rw [al_err h0]; simp [h0]
  have ht2 : decide (ckd (gab G).1 (gab G).2 [a, a] = 0 ∧ rg (gab G).2 a = 0) = (alB (G.1.2.map ab) G.2.2 a a) := ht
  rw [hD]
  simp only [ht2]
  exact ⟨G, [], rfl, rfl, gm_0, (S176.f2 2 hmb_gS 0 hc176)⟩
 refine wp_skip (ta H147 fun _ H177 => (ve (fg9 F149) V (vt (W_end (en (Ka (Qa F149)) fun A178 _ F178 => tk H177 (cd (fg0 F178) (fun c179 => ?_) fun c179 => ?_))))))
 ·have hsh := sh_rng (rs := G.2.2) (a := a) hsm
  refine wp_exit (then_exit (inb_miss V (then_exit (inb_miss V (then_exit (inb_miss V (then_exit (inb_miss V (then_exit (inb_miss V (then_exit (inb_miss V (then_exit (inb_miss V (then_exit (inb_miss V (then_exit (inb_miss V (then_exit (inb_hit (tc H10 fun _ H180 => td fun _ H181 => region_monoS 14 14 [none, none, none, none, none, none, some (SPv [] (fun _ => fun u l' => u = .tuple #[.int .i64 (shP (G.1.2.map ab) G.2.2 a), .int .i64 (shR (G.1.2.map ab) G.2.2 a), .int .i64 (shE (G.1.2.map ab) G.2.2 a)] ∧ l' = []) 6)] kr kr (dm (fg14 F178) (dn t0 (df 0 t0 (dr (fun sx hx hF => (VR_ldP (ys := [G.1.1, G.2.1]) V t0 ((S3.grow hx).ob 2 hmb_gS) (ldP_at V) Tryz.underlying30 V kr)) (df 1 (Sd (fg13 F178)) (dr (fun _ hx _ => (urc t0 (cell_box (v := .int .i64 (a)) ((S3.grow hx).ob 1 hc2) V))) (D_call (ts := []) (vs := []) (C0 := fun _ => fun u l' => u = .tuple #[.int .i64 (shP (G.1.2.map ab) G.2.2 a), .int .i64 (shR (G.1.2.map ab) G.2.2 a), .int .i64 (shE (G.1.2.map ab) G.2.2 a)] ∧ l' = []) (C := fun u l' => u = .tuple #[.int .i64 (shP (G.1.2.map ab) G.2.2 a), .int .i64 (shR (G.1.2.map ab) G.2.2 a), .int .i64 (shE (G.1.2.map ab) G.2.2 a)] ∧ l' = []) V V V Tryz.func74 kr V (args2 (Sb t0) t0) V V V V (fun sx hx hF => ?_) (fun u182 l182 hu182 => ?_)))))))))))))))))))))))))))))
  ·refine (kSh_c (a := a) ((S3.grow hx).roC Go) ((S3.grow hx).roC Gn) ((S3.grow hx).roC Gr) ).mono ?_
   rintro _ _ ⟨rfl, hz⟩
   exact ⟨_, rfl, _, ⟨rfl, rfl⟩, hz⟩
  obtain ⟨rfl, hl182⟩ := hu182
  refine dm t0 (dx (.int .i64 ((shP (G.1.2.map ab) G.2.2 a))) t0 (dx (.int .i64 ((shR (G.1.2.map ab) G.2.2 a))) (Sa t0) (dx (.int .i64 ((shE (G.1.2.map ab) G.2.2 a))) (Sb t0) (dv (uva (Sb t0)) (dv (uva (Sb t0)) (dv (uva (Sb t0)) (ZS_none S3 (Nat.le_refl _) (Nat.le_refl _) (fun s183 hJ183 hL183 hF183 => ?_))))))))
  obtain ⟨ll182, ws182, we182, ⟨hq182, hl182r⟩, hm182, k182, e182⟩ := L.all_get hF183; cases hq182; subst hl182r
  replace hJ183 := hJ183.add hL183 (i := 6) V hm182 k182 e182
  have S183 := hJ183.st; clear hF183 hJ183 hL183
  generalize s183.1 = w183 at *
  replace S183 : St w Y [c3, c2, mb_gS] w183 := S183
  refine en (Kc (Qc (Qh F178))) fun A184 _ F184 => ?_
  have S185 := S183.se [0, 2] [c3, mb_gS]
  refine tk H181 (region_in (vm (fg0 F184) (vm (Sa (fg2 F184)) (wv (V_mul V V t0 Zb Zb) (vm (Sc (fg1 F184)) (ad (Sa t0) t0 (wv (V_cvt V t0 Tryz.underlying3 Tryz.underlying48 (wrap_u64 Zb Zb)) (wv (xbS (n := 3) (z := .agg #[.int .i64 0, .bool false, .int .u64 0]) V (parts2 (Se t0) t0)) (xsA0 S185 hc3 V V V (Sg (fg15 F184)) t0 (fun w186 c186 hc186 S186 => W_end (en (Qg F184) fun A187 _ F187 => tk H180 (wp_exit (inb_hit (ta H7 fun _ H188 => ra (fg15 F187) (S186.ob 0 hc186) (xsA0 S186 hc186 V V V (Sa (fg15 F187)) t0 (fun w189 c189 hc189 S189 => W_end (en (Qa F187) fun A190 _ F190 => tk H188 (wp_ret (rt1 F190 (rvA (fg15 F190) (S189.ob 0 hc189)) ?_)))))))))))))))))))
  obtain ⟨c191, hc191, S191⟩ := gen1 (gl_mt S189)
  have hD := do_10 (mx := n) (g := gab G) (c := (⟨kd, a, b, f, p, q, uu⟩ : OpC)) Zk
  rw [hD]
  exact ⟨G, [], rfl, rfl, gm_0, (S191.f2 2 hmb_gS 0 hc191)⟩
 refine wp_skip (tk H20 (wp_exit (inb_miss V (then_exit (inb_miss V (then_exit (inb_miss V (then_exit (inb_miss V (then_exit (inb_miss V (then_exit (inb_miss V (then_exit (inb_miss V (then_exit (inb_miss V (then_exit (inb_miss V (then_exit (inb_miss V (then_exit (inb_hit (ta H7 fun _ H192 => (ra (fg12 F178) (S3.ob 0 hc3) (xsA0 S3 hc3 V V V (Sa (fg12 F178)) t0 (fun w193 c193 hc193 S193 => W_end (en (Qa F178) fun A194 _ F194 => ?_))))))))))))))))))))))))))))
 have S195 := S193.se [0, 2] [c193, mb_gS]
 refine tk H192 (wp_ret (rt1 F194 (rvA (fg12 F194) (S195.ob 0 hc193)) ?_))
 obtain ⟨c196, hc196, S196⟩ := gen1 (gl_mt S195)
 have hD := do_0 (mx := n) (g := gab G) (c := (⟨kd, a, b, f, p, q, uu⟩ : OpC)) Zk
 rw [hD]
 exact ⟨G, [], rfl, rfl, gm_0, (S196.f2 2 hmb_gS 0 hc196)⟩

end Go.Proofs.YtpgkfndbfocibaaGreat
namespace Go.Proofs.YtpgkfndbfocibaaGreat
open Go.RowKit Go.Own Go.Own.R Go.Own.G Go.Own.Gr Go.Own.Ml


set_option maxHeartbeats 4000000 in
theorem kbg_c {C N Z K Q : Int} {lv : Value} {l : List OpC} {w : World} (h_lv : Ro w NoX (rl 7 opC lv l))  :
  Calls Tryz.prog 43 #[.agg #[.int .i64 C, .int .i64 N, .int .i64 Z, .int .i64 K, .int .i64 Q], lv] w fun e w' => (e = .returned (.tuple #[.pointer none, .int .i64 (scE (cfE C N Z K Q) l).1, .int .i64 (scE (cfE C N Z K Q) l).2]) ∧ ((scE (cfE C N Z K Q) l).2 ≠ 0) ∧ St w NoX [] w') ∨ (∃ gs hv H qv q, e = .returned (.tuple #[.pointer (some ⟨gs, 0, none⟩), .int .i64 0, .int .i64 0]) ∧ ((scE (cfE C N Z K Q) l) = (0, 0)) ∧ (gab ((hv, H), (qv, q)) = ([], nwR K)) ∧ St w NoX [bx gs 77 #[hv, qv, .int .i64 (lgN C N Z K Q)], gls [((hv, H), (qv, q))]] w') := by
 refine ci2 50 Tryz.func43 V (fun A0 _ F0 => ?_)
 have hS := St.nil w
 have bh_lv := SlN.le (sl_SlN h_lv.at)
 refine tb fun _ H1 => (wB (#[.int .i64 (C), .int .i64 (N), .int .i64 (Z), .int .i64 (K), .int .i64 (Q)]) hS (fg0 F0) (fun g2 w2 c2 hc2 S2 => vc (vc (vc (W_end (en (Qc (Ka F0)) fun A3 _ F3 => ta H1 fun _ H4 => (ra (fg0 F3) (S2.ob 0 hc2) (wc (args1 t0) (klg_c (C := C) (N := N) (Z := Z) (K := K) (Q := Q)) (C0 S2 fun w5 S5 => vm t0 (vx (.int .i64 (lgN C N Z K Q)) t0 (vx (.int .i64 (cfE C N Z K Q)) (Sa t0) (va (Sa t0) (va (Sa t0) (W_end (en (Kb (Qe F3)) fun A6 _ F6 => tc H4 fun _ H7 => wp_block (tb fun _ H8 => (vm (fg0 F6) (vn t0 V (vt (W_end (en (Ka (Qb F6)) fun A9 _ F9 => tk H8 (cd (fg0 F9) (fun c10 => ?_) fun c10 => ?_))))))))))))))))))))))
 ·refine tb fun _ H11 => (vm (fg1 F9) (vc (vc (va (Sb t0) (W_end (en (Kc (Qa (fx1 F9))) fun A12 _ F12 => tk H11 (wp_ret (inb_ret (then_ret (rt3 F12 (rv_tmp (fg2 F12)) (rv_tmp (fg1 F12)) (rv_tmp (fg0 F12)) ?_))))))))))
  have h : (scE (cfE C N Z K Q) l) = ((-1), (cfE C N Z K Q)) := sc_cf c10
  rw [h]
  exact .inl ⟨rfl, c10, S5.fin0⟩
 refine tb fun _ H14 => (vm (fg5 F9) (le_ t0 (sl_SlN h_lv.at) (vg t0 V (vt (W_end (en (Ka (Qc F9)) fun A15 _ F15 => tk H14 (cd (fg0 F15) (fun c16 => ?_) fun c16 => ?_)))))))
 ·refine tb fun _ H17 => (vc (vc (vc (W_end (en (Kc (fx2 F15)) fun A18 _ F18 => tk H17 (wp_ret (inb_ret (then_ret (rt3 F18 (rv_tmp (fg2 F18)) (rv_tmp (fg1 F18)) (rv_tmp (fg0 F18)) ?_)))))))))
  have h : (scE (cfE C N Z K Q) l) = ((-1), 3) := sc_long c10 c16
  rw [h]
  exact .inl ⟨rfl, by decide, S5.fin0⟩
 refine wp_skip (inb_n (tc H7 fun _ H20 => tb fun _ H21 => (vm (fg6 F15) (le_ t0 (sl_SlN h_lv.at) (vm V (W_end (en (Kc F15) fun A22 Y22 F22 => tk H21 (wp_block ?_))))))))
 -- loop 7
 refine loopX (fun mz A' w' => SzN A' 50 ∧ A'.defers = [] ∧ (∃ (k : Nat), (mz = l.length - k) ∧ (k ≤ l.length) ∧ (scF 0 l = scF k (l.drop k)) ∧ (EV A' (.tmp 28) = .int .i64 (k : Int)) ∧ (EV A' (.tmp 2) = EV A22 (.tmp 2)) ∧ (EV A' (.tmp 7) = EV A22 (.tmp 7)) ∧ (EV A' (.tmp 26) = EV A22 (.tmp 26)) ∧ (EV A' (.tmp 27) = EV A22 (.tmp 27)) ∧ (St w NoX [bx g2 23 #[.int .i64 (C), .int .i64 (N), .int .i64 (Z), .int .i64 (K), .int .i64 (Q)]] w'))) (l.length - 0) ⟨Y22, F22.d, 0, rfl, Zb, rfl, ((fg0 F22).trans Za), rfl, rfl, rfl, rfl, (by subst hc2; exact S5)⟩ ?_
 clear S5 hc2
 rintro n23 A23 w23 ⟨Y23, hdf23, k, hm23, hk, hz, l28_23, u2_23, u7_23, u26_23, u27_23, S23⟩
 have l2_23 := u2_23.trans (fg7 F22)
 have l7_23 := u7_23.trans (fg6 F22)
 have l26_23 := u26_23.trans (fg2 F22)
 have l27_23 := u27_23.trans (fg1 F22)
 obtain ⟨c2_23, hc2_23, S23⟩ := gen1 S23
 refine tb fun _ H24 => (vl l28_23 l27_23 (W_end (en (((((((ck (FS.n hdf23) V V)).c (es V l2_23)).c (es V l7_23)).c (es V l26_23)).c (es V l27_23)).c (Sa l28_23)) fun A25 _ F25 => tc H24 fun _ H26 => cd (fg5 F25) (fun c27 => ?_) fun c27 => ?_)))
 ·refine wp_skip (tc H26 fun _ H28 => wp_block (tb fun _ H29 => (vm (fg0 F25) ?_)))
  have k30 : k < l.length := om
  obtain ⟨y30, hy30⟩ := get_some (xs := l) (k := k) k30
  obtain ⟨B30, O30, C30, hv30⟩ := (SlN.blk (sl_SlN h_lv.at) om)
  refine wv (V_ixS (off := O30 + k * 7) 7 k V (Sa (fg2 F25)) (Sa (fg0 F25)) hv30 Zb k30 Tryz.underlying24 kr V) (wr (VR_ldR (ys := opC y30) V t0 (SlN.row opC_len (sl_SlN (S23.ro h_lv)) hv30 hy30 V) Tryz.underlying50 V kr) (wA (#[.int .i64 0, .int .i64 0, .int .i64 0, .int .i64 0, .int .i64 0, .int .i64 0, .int .u64 0]) S23 (fun g31 w31 c31 hc31 S31 => ?_)))
  replace S31 : St w NoX [c31, c2_23] w31 := S31
  refine va (Sc t0) (xsA0 S31 hc31 V V V (Sa t0) (Sb t0) (fun w32 c32 hc32 S32 => W_end (en (Kb (Qc F25)) fun A33 _ F33 => ta H29 fun _ H34 => (ra (fg1 F33) (S32.ob 0 hc32) (wc (args1 t0) (kopc_c (kd := y30.kd) (a := y30.a) (b := y30.b) (f := y30.f) (p := y30.p) (q := y30.q) (uu := y30.u)) (C0 S32 fun w35 S35 => vt (W_end (en (Ka (Qb F33)) fun A36 _ F36 => ?_))))))))
  have S37 := S35.se [1] [c2_23]
  refine ta H34 fun _ H38 => (vm (fg0 F36) (vn t0 V (W_end (en (Ka (Qa F36)) fun A39 _ F39 => tk H38 (cd (fg0 F39) (fun c40 => ?_) fun c40 => ?_)))))
  ·refine tb fun _ H41 => (vm (fg2 F39) (vm (Sa (fg1 F39)) (vc (va (Sb t0) (va (Sb t0) (W_end (en (Kc (Qb F39)) fun A42 _ F42 => tk H41 (wp_ret (inb_ret (then_ret (then_ret (inb_ret (then_ret (rt3 F42 (rv_tmp (fg2 F42)) (rv_tmp (fg1 F42)) (rv_tmp (fg0 F42)) ?_))))))))))))))
   have h : (scE (cfE C N Z K Q) l) = ((k : Int), (opE (⟨y30.kd, y30.a, y30.b, y30.f, y30.p, y30.q, y30.u⟩ : OpC))) := sc_op c10 c16 hz hy30 c40
   rw [h]
   exact .inl ⟨rfl, c40, S37.fin0⟩
  refine wp_skip (inb_n (tk H28 (region_in (ad (fg4 F39) V (vm t0 (W_end (en (Ka (Qa (fx4 F39))) fun A44 Y44 F44 => then_n ⟨l.length - (k + 1), by simp only [hm23]; omega, Y44, F44.d, (k + 1), rfl, Zb, (sc_step hz hy30 c40), ((fg0 F44).trans Za), ((fg8 F44).trans (fg7 F22).symm), ((fg7 F44).trans (fg6 F22).symm), ((fg6 F44).trans (fg2 F22).symm), ((fg5 F44).trans (fg1 F22).symm), (by subst hc2_23; exact S37)⟩)))))))
 refine wp_exit (then_exit (then_exit (inb_hit (ta H20 fun _ H45 => (fa 3 (fg4 F25) (rL (.int .i64 (K)) t0 (S23.ob 0 hc2_23) (wc (args1 t0) ((glC (F := fun a_ b_ => .tuple #[.agg #[a_, b_], .int .i64 (nwE K)]) (kNw_c (n := K)))) (fun _ w46 ⟨hv_46, H_46, qv_46, q_46, e, hg_46, hP46⟩ => ⟨_, e, ?_⟩))))))))
 obtain ⟨cK_46, hcK_46, hP46⟩ := gen1 hP46
 have S46 := S23.join hP46
 replace S46 : St w NoX [cK_46, c2_23] w46 := S46
 refine vm t0 (vx (.agg #[hv_46, qv_46]) t0 (vx (.int .i64 (nwE K)) (Sa t0) (wA (#[.slice none 0 0, .slice none 0 0]) S46 (fun g47 w47 c47 hc47 S47 => xsB0 S47 hc47 V V V t0 (Sb t0) (by simp only [List.all_toArray, List.all_cons, List.all_nil, SlN_one (sl_SlN (gl_oa m1 (S47.cq 1 hcK_46))), SlN_one (sl_SlN (gl_ra m1 (S47.cq 1 hcK_46)))] <;> rfl) (fun w48 c48 hc48 S48 => va (Sa t0) (W_end (en (Qa (Ka (Qf F25))) fun A49 _ F49 => ?_)))))))
 have S50 := S48.se [0, 1] [c48, cK_46]
 refine ta H45 fun _ H51 => (ra (fg0 F49) (S50.ob 0 hc48) (vm (Sa (fg4 F49)) (wv (V_bld (cs := #[hv_46, qv_46, .int .i64 (lgN C N Z K Q)]) V (parts2 (Sa t0) t0) kr) (wB (#[hv_46, qv_46, .int .i64 (lgN C N Z K Q)]) S50 t0 (fun g52 w52 c52 hc52 S52 => vt (vc (vc (W_end (en (Kc (Qd F49)) fun A53 _ F53 => tk H51 (wp_ret (rt3 F53 (rv_tmp (fg2 F53)) (rv_tmp (fg1 F53)) (rv_tmp (fg0 F53)) ?_)))))))))))
 exact .inr ⟨_, hv_46, H_46, qv_46, q_46, rfl, sc_ok c10 c16 hz Zb, hg_46, (S52.f2 0 hc52 2 hcK_46)⟩

set_option maxHeartbeats 4000000 in
theorem kslinan_c {a : Int} {w : World}   :
  Calls Tryz.prog 94 #[.int .i64 a] w fun e w' => e = .returned (.bool false) ∧ St w NoX [] w' := by
 refine ci1 6 Tryz.func94 V (fun A0 _ F0 => ?_)
 have hS := St.nil w
 refine tb fun _ H1 => (vc (W_end (en (Qa F0) fun A2 _ F2 => ta H1 fun _ H3 => (vm (fg0 F2) (vm (Sa (fg0 F2)) (vn (Sa t0) t0 (vt (W_end (en (Ka (Qc F2)) fun A4 _ F4 => tk H3 (wp_ret (rt1 F4 (rv_tmp (fg0 F4)) ?_)))))))))))
 rw [show false = decide (a ≠ a) by simp]
 exact ⟨rfl, hS.fin0⟩

set_option maxHeartbeats 4000000 in
theorem kcmpnan_c {a : Int} {w : World}   :
  Calls Tryz.prog 115 #[.int .i64 a] w fun e w' => e = .returned (.bool false) ∧ St w NoX [] w' := by
 refine ci1 6 Tryz.func115 V (fun A0 _ F0 => ?_)
 have hS := St.nil w
 refine tb fun _ H1 => (vc (W_end (en (Qa F0) fun A2 _ F2 => ta H1 fun _ H3 => (vm (fg0 F2) (vm (Sa (fg0 F2)) (vn (Sa t0) t0 (vt (W_end (en (Ka (Qc F2)) fun A4 _ F4 => tk H3 (wp_ret (rt1 F4 (rv_tmp (fg0 F4)) ?_)))))))))))
 rw [show false = decide (a ≠ a) by simp]
 exact ⟨rfl, hS.fin0⟩

set_option maxHeartbeats 4000000 in
theorem kls_c {a b : Int} {w : World}   :
  Calls Tryz.prog 93 #[.int .i64 a, .int .i64 b] w fun e w' => e = .returned (.bool (decide (a < b))) ∧ St w NoX [] w' := by
 refine ci2 17 Tryz.func93 V (fun A0 _ F0 => ?_)
 have hS := St.nil w
 refine tb fun _ H1 => (vc (W_end (en (Qa F0) fun A2 _ F2 => ta H1 fun _ H3 => (vm (fg0 F2) (wc (args1 t0) (kcmpnan_c (a := a)) (C0 hS fun w4 S4 => vm t0 (xo V t0 (xo V (Sa t0) (xo V (Sb t0) (vF (Sc t0) V (vm t0 (wg V t0 (uvm (Sh (fg0 F2))) (wg V (Sa t0) (uvm (Sh (Sa (fg1 F2)))) (wg V (Sb t0) (uvl (Sa t0) t0) (vF (Sc t0) t0 (vt (W_end (en (Ka (Qd (Qh F2))) fun A5 _ F5 => tk H3 (wp_ret (rt1 F5 (rv_tmp (fg0 F5)) ?_))))))))))))))))))))
 exact ⟨rfl, S4.fin0⟩

set_option maxHeartbeats 4000000 in
theorem kbs_c {lv : Value} {l : List Int} {x : Int} {w : World} (h_lv : Ro w NoX (il .i64 lv l)) (hasc : Asc l) (hl : l.length ≤ 1048576) :
  Calls Tryz.prog 52 #[lv, .int .i64 x] w fun e w' => ∃ p, e = .returned (.tuple #[.int .i64 p, .bool (decide (x ∈ l))]) ∧ St w NoX [] w' := by
 refine ci2 54 Tryz.func52 V (fun A0 _ F0 => ?_)
 have hS := St.nil w
 have bh_lv := SlN.le (sl_SlN h_lv.at)
 refine tb fun _ H1 => (vc (vc (W_end (en (Qb F0) fun A2 _ F2 => ta H1 fun _ H3 => (vm (fg0 F2) (le_ t0 (sl_SlN h_lv.at) (vt (W_end (en (Ka (Qb F2)) fun A4 Y4 F4 => ta H3 fun _ H5 => (vm (fg0 F4) (vc (va (Sa t0) (W_end (eN (Qc F4) fun A6 E6 Y6 F6 => ?_))))))))))))))
 have l7_6 := lookE E6 7 (Sa t0)
 have l8_6 := lookE E6 8 t0
 clear E6 Y4 F4
 refine tc H5 fun _ H7 => wp_block ?_
 -- loop 3
 refine loopX (fun mz A' w' => SzN A' 54 ∧ A'.defers = [] ∧ (∃ (lo : Nat) (hi : Nat), (mz = hi - lo) ∧ (lo ≤ hi ∧ hi ≤ l.length) ∧ (∀ i, i < lo → ∀ z, l[i]? = some z → z < x) ∧ (∀ i, hi ≤ i → ∀ z, l[i]? = some z → x ≤ z) ∧ (EV A' (.tmp 7) = .int .i64 (lo : Int)) ∧ (EV A' (.tmp 8) = .int .i64 (hi : Int)) ∧ (EV A' (.tmp 0) = EV A6 (.tmp 0)) ∧ (EV A' (.tmp 1) = EV A6 (.tmp 1)) ∧ (EV A' (.tmp 6) = EV A6 (.tmp 6)) ∧ (St w NoX [] w'))) (l.length - 0) ⟨Y6, F6.d, 0, l.length, rfl, Zb, (fun i hi => by omega), (fun i hi z hz => by rw [List.getElem?_eq_none hi] at hz; cases hz), ((l7_6).trans Za), ((l8_6).trans Za), rfl, rfl, rfl, hS⟩ ?_
 clear hS
 rintro n8 A8 w8 ⟨Y8, hdf8, lo, hi, hm8, hb, hlo, hhi, l7_8, l8_8, u0_8, u1_8, u6_8, S8⟩
 have l0_8 := u0_8.trans (fg1 F6)
 have l1_8 := u1_8.trans (fg2 F6)
 have l6_8 := u6_8.trans (fg0 F6)
 refine td fun _ H9 => tb fun _ H10 => (vm l7_8 (vm (Sa l8_8) (vl (Sa t0) t0 (W_end (en (((((((ck (cq2 (FS.n hdf8) V) V V)).c (es3 V l0_8)).c (es3 V l1_8)).c (es3 V l6_8)).c (es3 V l7_8)).c (Sc l8_8)) fun A11 _ F11 => tk H10 (cd (fg5 F11) (fun c12 => ?_) fun c12 => ?_))))))
 ·refine wp_skip (tk H9 (wp_block (tb fun _ H13 => (vm (fg1 F11) (vm (Sa (fg0 F11)) (ad (Sa t0) t0 (wv (V_cvt V t0 Tryz.underlying3 Tryz.underlying137 (wrap_u64 Zb Zb)) (wv (V_shr1 V t0 V) (wv (V_cvt V t0 Tryz.underlying137 Tryz.underlying3 (wrap_i64 Zb Zb)) (vt (W_end (en (Ka (Qf F11)) fun A14 _ F14 => ta H13 fun _ H15 => (vm (fg5 F14) (vm (Sa (fg0 F14)) ?_))))))))))))))
  have k16 : ((lo + hi) / 2) < l.length := om
  obtain ⟨y16, hy16⟩ := get_some (xs := l) (k := ((lo + hi) / 2)) k16
  obtain ⟨B16, O16, C16, hv16⟩ := (SlN.blk (sl_SlN h_lv.at) om)
  refine wv (V_ixS (off := O16 + ((lo + hi) / 2)) 1 (((lo + hi) / 2)) V (Sa t0) t0 hv16 Zb k16 Tryz.underlying25 kr (congrArg _ (Nat.mul_one _))) (rc t0 ((sl_SlN (S8.ro h_lv)).cell hv16 (map_get hy16)) (vm (Sd (fg4 F14)) (wc (args2 (Sa t0) t0) (kls_c (a := y16) (b := x)) (C0 S8 fun w17 S17 => W_end (en (Ka (Qe F14)) fun A18 _ F18 => tk H15 (cd (fg0 F18) (fun c19 => ?_) fun c19 => ?_))))))
  ·refine region_in (vm (fg1 F18) (ad t0 V (vt (W_end (en (Ka (Qb (fx3 F18))) fun A20 Y20 F20 => inb_n (then_n ⟨hi - ((lo + hi) / 2 + 1), by simp only [hm8]; omega, Y20, F20.d, ((lo + hi) / 2 + 1), hi, rfl, Zb, (bs_lo hasc hy16 c19), hhi, ((fg0 F20).trans Za), ((fg3 F20).trans Za), ((fg6 F20).trans (fg1 F6).symm), ((fg5 F20).trans (fg2 F6).symm), ((fg4 F20).trans (fg0 F6).symm), S17⟩))))))
  refine region_in (vm (fg1 F18) (vt (W_end (en (Ka (Qa (fx2 F18))) fun A21 Y21 F21 => inb_n (then_n ⟨((lo + hi) / 2) - lo, by simp only [hm8]; omega, Y21, F21.d, lo, ((lo + hi) / 2), rfl, Zb, hlo, (bs_hi hasc hy16 c19), ((fg3 F21).trans Za), ((fg0 F21).trans Za), ((fg6 F21).trans (fg1 F6).symm), ((fg5 F21).trans (fg2 F6).symm), ((fg4 F21).trans (fg0 F6).symm), S17⟩)))))
 refine wp_exit (then_exit (then_exit (inb_hit (ta H7 fun _ H22 => (vm (fg1 F11) (vm (Sa (fg1 F11)) (vm (Sb (fg2 F11)) (vl (Sa t0) t0 (W_split V V (V_mov V t0) (fun c23 => ?_) (fun c23 => ?_))))))))))
 ·refine wg V t0 (uvm (Se (fg4 F11))) (wg V (Sa t0) (uvm (Sf (fg1 F11))) ?_)
  have k24 : lo < l.length := om
  obtain ⟨y24, hy24⟩ := get_some (xs := l) (k := lo) k24
  obtain ⟨B24, O24, C24, hv24⟩ := (SlN.blk (sl_SlN h_lv.at) om)
  refine wg V (Sb t0) (V_ixS (off := O24 + lo) 1 lo V (Sa t0) t0 hv24 Zb k24 Tryz.underlying25 kr (congrArg _ (Nat.mul_one _))) (wq V (Sc t0) (urc t0 ((sl_SlN (S8.ro h_lv)).cell hv24 (map_get hy24))) (wg V (Sd t0) (uvm (Sh (Sa (fg3 F11)))) (wg V (Se t0) (uve (Sa t0) t0) (W_split V (xwt V V (Sf t0)) (V_mov V t0) (fun c25 => ?_) (fun c25 => ?_)))))
  ·refine xo V t0 (xo V (Sa t0) (xo V (Sb t0) (xo V (Sc t0) (xo V (Sd t0) (xo V (Se t0) (W_off V (wanted_u V V t0 (ez V)) (W_off V (wanted_u V V (Sa t0) (ez V)) (xo V (Sh t0) (wg V (Sh (Sh t0)) (uvT (Sh (Sa t0)) V) (vT (Sh (Sh (Sa t0))) t0 (va (Sh (Sh (Sf t0))) (va (Sa t0) (W_end (en (Kb (Qg (Qh (Qh F11)))) fun A26 _ F26 => tk H22 (wp_ret (rt2 F26 (rv_tmp (fg1 F26)) (rv_tmp (fg0 F26)) ?_))))))))))))))))
   rw [show decide (x ∈ l) = true from decide_eq_true (show x ∈ l by have e := c25; rw [← e]; exact List.mem_of_getElem? hy24)]
   exact ⟨_, rfl, S8.fin0⟩
  refine wg V t0 (uvm (Sh (Sd (fg4 F11)))) (wg V (Sa t0) (uvm (Sh (Se (fg1 F11)))) (wg V (Sb t0) (V_ixS (off := O24 + lo) 1 lo V (Sa t0) t0 hv24 Zb k24 Tryz.underlying25 kr (congrArg _ (Nat.mul_one _))) (wq V (Sc t0) (urc t0 ((sl_SlN (S8.ro h_lv)).cell hv24 (map_get hy24))) (W_call V (xwt V V (Sd t0)) V Tryz.func94 kr V (args1 t0) (kslinan_c (a := y24)) (C0 S8 fun w28 S28 => wg V (Se t0) (uvm t0) (xo V t0 (xo V (Sa t0) (wg V (Sh t0) (uvF (Sb t0) V) (wg V (Sh (Sh t0)) (uvF (Sh (Sa t0)) t0) (vT (Sh (Sh (Sa t0))) t0 (va (Sh (Sh (Sf t0))) (va (Sa t0) (W_end (en (Kb (Qg (Qh (Qh F11)))) fun A29 _ F29 => tk H22 (wp_ret (rt2 F29 (rv_tmp (fg1 F29)) (rv_tmp (fg0 F29)) ?_))))))))))))))))
  rw [show decide (x ∈ l) = false from decide_eq_false (show ¬ x ∈ l from bs_no2 hasc hlo (by rw [show lo = hi by omega]; exact hhi) hy24 c25)]
  exact ⟨_, rfl, S28.fin0⟩
 refine xo V t0 (xo V (Sa t0) (xo V (Sb t0) (xo V (Sc t0) (xo V (Sd t0) (xo V (Se t0) (xo V (Sf t0) (W_off V (wanted_u V V t0 (ez V)) (W_off V (wanted_u V V (Sa t0) (ez V)) (W_off V (wanted_u V V (Sb t0) (ez V)) (W_off V (wanted_u V V (Sc t0) (ez V)) (W_off V (wanted_u V V (Sd t0) (ez V)) (W_off V (wanted_u V V (Se t0) (ez V)) (W_off V (wanted_u V V t0 (ez V)) (W_off V (wanted_u V V (Sa t0) (ez V)) (W_off V (wanted_u V V (Sh t0) (ez V)) (xo V (Sh (Sh t0)) (vF (Sh (Sh (Sa t0))) V (va (Sh (Sh (Sf t0))) (va (Sa t0) (W_end (en (Kb (Qg (Qh (Qh F11)))) fun A30 _ F30 => tk H22 (wp_ret (rt2 F30 (rv_tmp (fg1 F30)) (rv_tmp (fg0 F30)) ?_)))))))))))))))))))))))
 rw [show decide (x ∈ l) = false from decide_eq_false (show ¬ x ∈ l from bs_no1 hlo Zb)]
 exact ⟨_, rfl, S8.fin0⟩

set_option maxHeartbeats 4000000 in
theorem kp1_c {i : Int} {fv : Value} {full : List Int} {gfv : Nat} {w : World} (hb_fv : Ro w NoX (bx gfv 25 #[fv])) (h_fv : Ro w NoX (il .i64 fv full)) (hasc : Asc full) (hfl : full.length ≤ 1048576) :
  Calls Tryz.prog 51 #[.int .i64 i, .pointer (some ⟨gfv, 0, none⟩)] w fun e w' => e = .returned (.bool (decide (i ∈ full))) ∧ St w NoX [] w' := by
 refine ci2 13 Tryz.func51 V (fun A0 _ F0 => ?_)
 have hS := St.nil w
 have bh_fv := SlN.le (sl_SlN h_fv.at)
 refine tb fun _ H1 => (vc (W_end (en (Qa F0) fun A2 _ F2 => ta H1 fun _ H3 => (rc (fg1 F2) (cell_box (v := fv) (ob_at (hS.ro hb_fv)) V) (vm (Sa (fg0 F2)) (wc (args2 (Sa t0) t0) (kbs_c (x := i) (hS.roC h_fv) Ze Zf) (fun _ w4 ⟨p_4, e, hP4⟩ => ⟨_, e, ?_⟩)))))))
 have S4 := hS.j0 hP4
 refine vm t0 (vx (.int .i64 (p_4)) t0 (vx (.bool (decide (i ∈ full))) (Sa t0) (va (Sa t0) (va (Sa t0) (W_end (en (Ka (Qg F2)) fun A5 _ F5 => ta H3 fun _ H6 => (vm (fg0 F5) (vt (W_end (en (Ka (Qa F5)) fun A7 _ F7 => tk H6 (wp_ret (rt1 F7 (rv_tmp (fg0 F7)) ?_))))))))))))
 exact ⟨rfl, S4.fin0⟩

end Go.Proofs.YtpgkfndbfocibaaGreat
namespace Go.Proofs.YtpgkfndbfocibaaGreat
open Go.RowKit Go.Own Go.Own.R Go.Own.G Go.Own.Gr Go.Own.Ml


set_option maxHeartbeats 4000000 in
theorem kmoP_it {gs g3 g4 g5 g7 gc : Nat} {G0 : GV} {n : Int} {lv : Value} {os : List OpC} {fv : Value} {full : List Int} {Rd : World → Prop} (hRd : ∀ W, Rd W → (bx g4 24 #[lv]).at W ∧ (rl 7 opC lv os).at W ∧ (bx g3 75 #[.pointer (some ⟨gs, 0, none⟩)]).at W ∧ (bx g7 78 #[.func (.func 38) #[.pointer (some ⟨gs, 0, none⟩)] #[]]).at W ∧ (bx g5 88 #[.func (.func 51) #[] #[.pointer (some ⟨gc, 0, none⟩)]]).at W ∧ (bx gc 25 #[fv]).at W ∧ (il .i64 fv full).at W) (hsm0 : SM (gab G0).1) (hn : 0 ≤ n ∧ n ≤ 32) (hops : ∀ c ∈ os, opE c = 0) (hol : os.length ≤ 200) (hasc : Asc full) (hfl : full.length ≤ 1048576) :
  IterT (α := ME) Tryz.prog 90 #[.pointer (some ⟨g4, 0, none⟩), .pointer (some ⟨g3, 0, none⟩), .pointer (some ⟨g7, 0, none⟩), .pointer (some ⟨g5, 0, none⟩)] encM (fun xs => Tr n (fun k : Nat => decide ((k : Int) ∈ full)) G0 os xs ∧ os.length ≤ xs.length) (Tr n (fun k : Nat => decide ((k : Int) ∈ full)) G0 os) (Tr n (fun k : Nat => decide ((k : Int) ∈ full)) G0 os) (mT gs 77 n G0) Rd := by
 intro l wb X fr J Jx w hR hY hS
 obtain ⟨cj, ct, hcj, hct, hS⟩ := gen2 hS
 refine calls_inR 48 Tryz.func90 V V Zo (fun A0 hsz0 hdf0 hargs => ?_)
 have l0_0 := hargs 0 (.func (.yield l) #[] #[]) V
 have l1_0 := hargs 1 (.pointer (some ⟨g4, 0, none⟩)) V
 have l2_0 := hargs 2 (.pointer (some ⟨g3, 0, none⟩)) V
 have l3_0 := hargs 3 (.pointer (some ⟨g7, 0, none⟩)) V
 have l4_0 := hargs 4 (.pointer (some ⟨g5, 0, none⟩)) V
 clear hargs; replace hsz0 : SzN A0 48 := ⟨hsz0⟩
 have bh_lv := SlN.le (sl_SlN (hRd _ (hR _ _ _ 0 hS (congrArg some hcj))).2.1)
 have bh_fv := SlN.le (sl_SlN (hRd _ (hR _ _ _ 0 hS (congrArg some hcj))).2.2.2.2.2.2)
 refine R_seq (fun _ H1 => R_region kr (rc l1_0 (cell_box (v := lv) (ob_at (hRd _ (hR _ _ _ 0 hS (congrArg some hcj))).1) V) (le_ t0 (sl_SlN (hRd _ (hR _ _ _ 0 hS (congrArg some hcj))).2.1) (vm V (W_end (Qo_normal (en ((((((ck (ck (ck (FS.n hdf0) V V) V V) V V)).c (es3 V l0_0)).c (es3 V l2_0)).c (es3 V l3_0)).c (Sc l4_0)) fun A2 hsz2 F2 => tk H1 (R_block ?_))))))))
 -- loop 1
 refine R_loop (fun mz A' w' => SzN A' 48 ∧ A'.defers = [] ∧ (∃ (pre : List ME), (mz = os.length - pre.length) ∧ (Tr n (fun k : Nat => decide ((k : Int) ∈ full)) G0 os pre) ∧ (EV A' (.tmp 12) = .int .i64 (pre.length : Int)) ∧ (EV A' (.tmp 0) = EV A2 (.tmp 0)) ∧ (EV A' (.tmp 2) = EV A2 (.tmp 2)) ∧ (EV A' (.tmp 3) = EV A2 (.tmp 3)) ∧ (EV A' (.tmp 4) = EV A2 (.tmp 4)) ∧ (EV A' (.tmp 10) = EV A2 (.tmp 10)) ∧ (EV A' (.tmp 11) = EV A2 (.tmp 11)) ∧ (St wb X ((J pre) :: (mT gs 77 n G0 pre) :: fr) w'))) (os.length - [].length) ⟨hsz2, F2.d, [], rfl, (Tr.nil hsm0), ((fg4 F2).trans (rfl)), rfl, rfl, rfl, rfl, rfl, rfl, (by subst hcj hct; exact hS)⟩ ?_
 clear hS hcj hct
 rintro n3 A3 w3 ⟨hsz3, hdf3, pre, hm3, hT, l12_3, u0_3, u2_3, u3_3, u4_3, u10_3, u11_3, S3⟩
 have l0_3 := u0_3.trans (fg3 F2)
 have l2_3 := u2_3.trans (fg2 F2)
 have l3_3 := u3_3.trans (fg1 F2)
 have l4_3 := u4_3.trans (fg0 F2)
 have l10_3 := u10_3.trans (fg6 F2)
 have l11_3 := u11_3.trans (fg5 F2)
 obtain ⟨cj_3, ct_3, hcj_3, hct_3, S3⟩ := gen2 S3
 refine R_seq (fun _ H4 => R_region kr (vl l12_3 l11_3 (W_end (Qo_normal (en (((((((((ck (FS.n hdf3) V V)).c (es V l0_3)).c (es V l2_3)).c (es V l3_3)).c (es V l4_3)).c (es V l10_3)).c (es V l11_3)).c (Sa l12_3)) fun A5 _ F5 => tk H4 (R_seq (fun _ H6 => R_cond_dec (fg7 F5) (fun c7 => ?_) (fun c7 => ?_))))))))
 ·have hsm := hT.sm
  obtain ⟨cb8, ck8, hcb8, hck8, S8⟩ := mT_open (hct_3 ▸ S3)
  replace S8 : St wb X (cj_3 :: cb8 :: ck8 :: fr) w3 := S8
  refine R_skip (tk H6 (R_seq (fun _ H9 => R_block (R_seq (fun _ H10 => R_region kr (vm (fg0 F5) ?_))))))
  have k11 : pre.length < os.length := om
  obtain ⟨y11, hy11⟩ := get_some (xs := os) (k := pre.length) k11
  have hop11 := hops y11 (List.mem_of_getElem? hy11)
  obtain ⟨B11, O11, C11, hv11⟩ := (SlN.blk (sl_SlN (hRd _ (hR _ _ _ 0 S8 (congrArg some hcj_3))).2.1) om)
  refine wv (V_ixS (off := O11 + pre.length * 7) 7 pre.length V (Sa (fg2 F5)) (Sa (fg0 F5)) hv11 Zb k11 Tryz.underlying24 kr V) (wr (VR_ldR (ys := opC y11) V t0 (SlN.row opC_len (sl_SlN (hRd _ (hR _ _ _ 0 S8 (congrArg some hcj_3))).2.1) hv11 hy11 V) Tryz.underlying50 V kr) (wA (#[.int .i64 0, .int .i64 0, .int .i64 0, .int .i64 0, .int .i64 0, .int .i64 0, .int .u64 0]) S8 (fun g12 w12 c12 hc12 S12 => ?_)))
  replace S12 : St wb X (c12 :: cj_3 :: cb8 :: ck8 :: fr) w12 := S12
  refine va (Sc t0) (xsA 0 S12 V hc12 V V V (Sa t0) (Sb t0) (fun w13 c13 hc13 S13 => ?_))
  replace S13 : St wb X (c13 :: cj_3 :: cb8 :: ck8 :: fr) w13 := S13
  refine W_end (Qo_normal (en (Kb (Qc F5)) fun A14 _ F14 => tk H10 (R_seq (fun _ H15 => R_region kr (rc (fg7 F14) (cell_box (v := .pointer (some ⟨gs, 0, none⟩)) (ob_at (hRd _ (hR _ _ _ 1 S13 (congrArg some hcj_3))).2.2.1) V) (ni t0 (fa 0 t0 (wr (VR_ldP (ys := [(lastG G0 pre).1.1, (lastG G0 pre).2.1]) V t0 (S13.ob 2 hcb8) (ldP_at V) Tryz.underlying30 V kr) (wA (#[.slice none 0 0, .slice none 0 0]) S13 (fun g16 w16 c16 hc16 S16 => ?_))))))))))
  replace S16 : St wb X (c16 :: c13 :: cj_3 :: cb8 :: ck8 :: fr) w16 := S16
  refine xsB 0 S16 V hc16 V V V t0 (Sa t0) (by simp only [List.all_toArray, List.all_cons, List.all_nil, SlN_one (sl_SlN (gl_oa (lastG_mem G0 pre) (S16.cq 4 hck8))), SlN_one (sl_SlN (gl_ra (lastG_mem G0 pre) (S16.cq 4 hck8)))] <;> rfl) (fun w17 c17 hc17 S17 => ?_)
  replace S17 : St wb X (c17 :: c13 :: cj_3 :: cb8 :: ck8 :: fr) w17 := S17
  refine W_end (Qo_normal (en (Ka (Qd F14)) fun A18 _ F18 => tk H15 (R_seq (fun _ H19 => R_region kr (rc (fg7 F18) (cell_box (v := .func (.func 38) #[.pointer (some ⟨gs, 0, none⟩)] #[]) (ob_at (hRd _ (hR _ _ _ 2 S17 (congrArg some hcj_3))).2.2.2.1) V) (ra (Sa (fg2 F18)) (S17.ob 1 hc13) ?_))))))
  have S20 : St wb X (cb8 :: c17 :: c13 :: cj_3 :: ck8 :: fr) w17 := St.selR (l := [c17, c13, cj_3, cb8, ck8]) (l' := [cb8, c17, c13, cj_3, ck8]) (fr := fr) S17 [3, 0, 1, 2, 4] Zg Zi V
  obtain ⟨Y21, hP21, hR21, hF21, hB21⟩ := St.call (pre := [cb8]) (fr := (c17 :: c13 :: cj_3 :: ck8 :: fr)) S20
  rw [hcb8] at hP21
  refine W_callB V V V (Sa t0) Tryz.func38 kr V (args1 t0) (kdo_c (G := (lastG G0 pre)) (kd := y11.kd) (a := y11.a) (b := y11.b) (f := y11.f) (p := y11.p) (q := y11.q) (uu := y11.u) (gl_mk (gl_oaR (lastG_mem G0 pre) (hck8 ▸ hF21 3 _ V)) (gl_naR (lastG_mem G0 pre) (hck8 ▸ hF21 3 _ V)) (gl_raR (lastG_mem G0 pre) (hck8 ▸ hF21 3 _ V))) hP21 (by first | with_reducible assumption | exact hsm) Zf Ze) (fun _ w22 ⟨Gx_22, Gn_22, e, hg_22, hm_22, hP22⟩ => ⟨_, e, ?_⟩)
  obtain ⟨cB_22, cK_22, hcB_22, hcK_22, hP22⟩ := gen2 hP22
  have S22 := hB21 _ _ hP22
  replace S22 : St wb X (cB_22 :: cK_22 :: c17 :: c13 :: cj_3 :: ck8 :: fr) w22 := S22
  have S23 : St wb X (ck8 :: cK_22 :: cB_22 :: c17 :: c13 :: cj_3 :: fr) w22 := St.selR (l := [cB_22, cK_22, c17, c13, cj_3, ck8]) (l' := [ck8, cK_22, cB_22, c17, c13, cj_3]) (fr := fr) S22 [5, 1, 0, 2, 3, 4] Zg Zi V
  rw [hck8, hcK_22] at S23
  obtain ⟨c24, hc24, S24⟩ := gen1 (gl_app (L := (gsM G0 pre)) (M := Gn_22) S23)
  replace S24 : St wb X (c24 :: cB_22 :: c17 :: c13 :: cj_3 :: fr) w22 := S24
  refine wA (#[.int .i64 0, .bool false, .int .u64 0]) S24 (fun g25 w25 c25 hc25 S25 => ?_)
  replace S25 : St wb X (c25 :: c24 :: cB_22 :: c17 :: c13 :: cj_3 :: fr) w25 := S25
  refine xsA 0 S25 V hc25 V V V t0 (Sa t0) (fun w26 c26 hc26 S26 => ?_)
  replace S26 : St wb X (c26 :: c24 :: cB_22 :: c17 :: c13 :: cj_3 :: fr) w26 := S26
  refine W_end (Qo_normal (en (Ka (Qc F18)) fun A27 _ F27 => tk H19 (R_seq (fun _ H28 => R_seq (fun _ H29 => R_mid (G := fun A' w' => SzN A' 48 ∧ A'.defers = [] ∧ (EV A' (.tmp 0) = EV A27 (.tmp 0)) ∧ (EV A' (.tmp 2) = EV A27 (.tmp 2)) ∧ (EV A' (.tmp 3) = EV A27 (.tmp 3)) ∧ (EV A' (.tmp 4) = EV A27 (.tmp 4)) ∧ (EV A' (.tmp 6) = EV A27 (.tmp 6)) ∧ (EV A' (.tmp 8) = EV A27 (.tmp 8)) ∧ (EV A' (.tmp 9) = EV A27 (.tmp 9)) ∧ (EV A' (.tmp 10) = EV A27 (.tmp 10)) ∧ (EV A' (.tmp 11) = EV A27 (.tmp 11)) ∧ (EV A' (.tmp 12) = EV A27 (.tmp 12)) ∧ (EV A' (.tmp 36) = .bool (decide (((pre.length : Int) ∈ full) ∧ (y11.kd = 1) ∧ ((doG n (gab (lastG G0 pre)) (⟨y11.kd, y11.a, y11.b, y11.f, y11.p, y11.q, y11.u⟩ : OpC)).2.e = 0)))) ∧ St wb X (c26 :: c24 :: cB_22 :: c17 :: cj_3 :: fr) w') ?_ ?_)))))
  ·have j0_30 := (fg10 F27)
   have j2_30 := (fg9 F27)
   have j3_30 := (fg8 F27)
   have j4_30 := (fg7 F27)
   have j6_30 := (fg2 F27)
   have j8_30 := (fg1 F27)
   have j9_30 := (fg0 F27)
   have j10_30 := (fg6 F27)
   have j11_30 := (fg5 F27)
   have j12_30 := (fg4 F27)
   refine R_region kr (rc (fg7 F27) (cell_box (v := .func (.func 51) #[] #[.pointer (some ⟨gc, 0, none⟩)]) (ob_at (hRd _ (hR _ _ _ 5 S26 (congrArg some hcj_3))).2.2.2.2.1) V) (vm (Sa (fg2 F27)) (W_callV V V V (Sa t0) Tryz.func51 kr V (args1 t0) (kp1_c (i := (pre.length : Int)) (gfv := gc) (at_obRo (hRd _ (hR _ _ _ 5 S26 (congrArg some hcj_3))).2.2.2.2.2.1) (SlN.ro (sl_SlN (hRd _ (hR _ _ _ 5 S26 (congrArg some hcj_3))).2.2.2.2.2.2)) Ze Zf) (fun _ w31 ⟨e, hP31⟩ => ⟨_, e, ?_⟩))))
   have S31 := S26.join hP31
   replace S31 : St wb X (c26 :: c24 :: cB_22 :: c17 :: c13 :: cj_3 :: fr) w31 := S31
   refine W_split V V (V_mov V t0) (fun c32 => ?_) (fun c32 => ?_)
   ·refine wg V t0 (ufa 0 (Sd (fg3 F27))) (wq V (Sa t0) (urL (.int .i64 (y11.kd)) t0 (S31.ob 4 hc13)) (wg V (Sb t0) (uve t0 V) (vT (Sc t0) t0 (W_split V V (V_mov V t0) (fun c33 => ?_) (fun c33 => ?_)))))
    ·refine wg V t0 (ufa 0 (Sh (Sa (fg0 F27)))) (wq V (Sa t0) (urL (.int .i64 ((doG n (gab (lastG G0 pre)) (⟨y11.kd, y11.a, y11.b, y11.f, y11.p, y11.q, y11.u⟩ : OpC)).2.e)) t0 (S31.ob 0 hc26)) (wg V (Sb t0) (uve t0 V) (vT (Sc t0) t0 (W_end (Qo_normal (en (Kd (Qb (Kc (Qd F27)))) fun A34 hsz34 F34 => ?_))))))
     have S36 := S31.del 4
     replace S36 : St wb X (c26 :: c24 :: cB_22 :: c17 :: cj_3 :: fr) w31 := S36
     exact Mid_n ⟨hsz34, F34.d, ((fg17 F34).trans j0_30.symm), ((fg16 F34).trans j2_30.symm), ((fg15 F34).trans j3_30.symm), ((fg14 F34).trans j4_30.symm), ((fg9 F34).trans j6_30.symm), ((fg8 F34).trans j8_30.symm), ((fg7 F34).trans j9_30.symm), ((fg13 F34).trans j10_30.symm), ((fg12 F34).trans j11_30.symm), ((fg11 F34).trans j12_30.symm), ((fg0 F34).trans (congrArg Value.bool (decide_eq_decide.2 ⟨fun q => ⟨c32, c33, q⟩, fun q => q.2.2⟩))), S36⟩
    refine xo V t0 (xo V (Sa t0) (xo V (Sb t0) (vF (Sc t0) V (W_end (Qo_normal (en (Kd (Qb (Kc (Qd F27)))) fun A37 hsz37 F37 => ?_))))))
    have S39 := S31.del 4
    replace S39 : St wb X (c26 :: c24 :: cB_22 :: c17 :: cj_3 :: fr) w31 := S39
    exact Mid_n ⟨hsz37, F37.d, ((fg17 F37).trans j0_30.symm), ((fg16 F37).trans j2_30.symm), ((fg15 F37).trans j3_30.symm), ((fg14 F37).trans j4_30.symm), ((fg9 F37).trans j6_30.symm), ((fg8 F37).trans j8_30.symm), ((fg7 F37).trans j9_30.symm), ((fg13 F37).trans j10_30.symm), ((fg12 F37).trans j11_30.symm), ((fg11 F37).trans j12_30.symm), ((fg0 F37).trans (congrArg Value.bool ((decide_eq_false (fun q => c33 q.2.1)).symm))), S39⟩
   refine xo V t0 (xo V (Sa t0) (xo V (Sb t0) (vF (Sc t0) V (vm t0 (xo V t0 (xo V (Sa t0) (xo V (Sb t0) (vF (Sc t0) V (W_end (Qo_normal (en (Kd (Qb (Kc (Qd F27)))) fun A40 hsz40 F40 => ?_)))))))))))
   have S42 := S31.del 4
   replace S42 : St wb X (c26 :: c24 :: cB_22 :: c17 :: cj_3 :: fr) w31 := S42
   exact Mid_n ⟨hsz40, F40.d, ((fg17 F40).trans j0_30.symm), ((fg16 F40).trans j2_30.symm), ((fg15 F40).trans j3_30.symm), ((fg14 F40).trans j4_30.symm), ((fg9 F40).trans j6_30.symm), ((fg8 F40).trans j8_30.symm), ((fg7 F40).trans j9_30.symm), ((fg13 F40).trans j10_30.symm), ((fg12 F40).trans j11_30.symm), ((fg11 F40).trans j12_30.symm), ((fg0 F40).trans (congrArg Value.bool ((decide_eq_false (fun q => c32 q.1)).symm))), S42⟩
  rintro A30 w30 ⟨hsz30, hdf30, u0_30, u2_30, u3_30, u4_30, u6_30, u8_30, u9_30, u10_30, u11_30, u12_30, l36_30, S30⟩
  have l0_30 := u0_30.trans (fg10 F27)
  have l2_30 := u2_30.trans (fg9 F27)
  have l3_30 := u3_30.trans (fg8 F27)
  have l4_30 := u4_30.trans (fg7 F27)
  have l6_30 := u6_30.trans (fg2 F27)
  have l8_30 := u8_30.trans (fg1 F27)
  have l9_30 := u9_30.trans (fg0 F27)
  have l10_30 := u10_30.trans (fg6 F27)
  have l11_30 := u11_30.trans (fg5 F27)
  have l12_30 := u12_30.trans (fg4 F27)
  refine tk H29 (R_cond_dec l36_30 (fun c43 => ?_) (fun c43 => ?_))
  ·refine R_region kr (rc l2_30 (cell_box (v := .pointer (some ⟨gs, 0, none⟩)) (ob_at (hRd _ (hR _ _ _ 4 S30 (congrArg some hcj_3))).2.2.1) V) (ra (Sa l8_30) (S30.ob 3 hc17) (wv (xbS (n := 3) (z := .agg #[.int .i64 0, .bool false, .int .u64 0]) V (parts1 V)) (ni (Sb t0) (fa 0 t0 (W_stAM (ys := [(lastG G0 pre).1.1, (lastG G0 pre).2.1]) (zs' := #[(lastG G0 pre).1.1, (lastG G0 pre).2.1, .int .i64 (n)]) 2 S30 V hcB_22 V V V t0 (Sc t0) (by intro u hu; simp only [List.mem_cons, List.not_mem_nil, or_false] at hu; rcases hu with rfl | rfl <;> first | exact SlN_one (sl_SlN (gl_oa (List.mem_append_left _ (lastG_mem G0 pre)) (S30.cq 1 hc24))) | exact SlN_one (sl_SlN (gl_ra (List.mem_append_left _ (lastG_mem G0 pre)) (S30.cq 1 hc24)))) Zo kr V (fun w44 c44 hc44 S44 => ?_)))))))
   replace S44 : St wb X (c26 :: c24 :: c44 :: c17 :: cj_3 :: fr) w44 := S44
   refine xsA 0 S44 V hc26 V V V (Se l9_30) (Sb t0) (fun w45 c45 hc45 S45 => ?_)
   replace S45 : St wb X (c45 :: c24 :: c44 :: c17 :: cj_3 :: fr) w45 := S45
   refine W_end (Qo_normal (en (((((((((((cq5 (FS.n hdf30) V)).c (es5 V l0_30)).c (es5 V l2_30)).c (es5 V l3_30)).c (es5 V l4_30)).c (es5 V l6_30)).c (es5 V l9_30)).c (es5 V l10_30)).c (es5 V l11_30)).c (Se l12_30)) fun A46 _ F46 => ?_))
   have S48 := S45.del 3
   replace S48 : St wb X (c45 :: c24 :: c44 :: cj_3 :: fr) w45 := S48
   refine tk H28 (R_seq (fun _ H49 => R_regionI (I_v V V Zi (V_mov V (fg8 F46)) (I_v V V Zi (V_mov V (Sa (fg4 F46))) (I_r V V Zi (VR_ldA V (Sb (fg3 F46)) (S48.ob 0 hc45) Tryz.underlying54 V kr) ?_)))))
   have hT22 : Tr n (fun k : Nat => decide ((k : Int) ∈ full)) G0 os (pre ++ [((pre.length : Int), AnC.mk 5 false 0, (lastG G0 pre))]) := Tr.step hT hy11 V (by exact (stp_1 (mx := n) (rb := decide ((pre.length : Int) ∈ full)) (g := gab (lastG G0 pre)) (c := y11) ⟨decide_eq_true c43.1, c43.2.1, c43.2.2⟩).symm)
   have S50 : St wb X (c24 :: c45 :: c44 :: cj_3 :: fr) w45 := St.selR (l := [c45, c24, c44, cj_3]) (l' := [c24, c45, c44, cj_3]) (fr := fr) S48 [1, 0, 2, 3] Zg Zi V
   rw [hc24] at S50
   obtain ⟨c51, hc51, S51⟩ := gen1 (gl_subS (M := (gsM G0 (pre ++ [((pre.length : Int), AnC.mk 5 false 0, (lastG G0 pre))]))) S50 (gsM_sub (fun G hG => List.mem_append_left _ hG) (List.mem_append_left _ (lastG_mem G0 pre))))
   replace S51 : St wb X (c51 :: c45 :: c44 :: cj_3 :: fr) w45 := S51
   have S52 : St wb X (cj_3 :: c44 :: c51 :: c45 :: fr) w45 := St.selR (l := [c51, c45, c44, cj_3]) (l' := [cj_3, c44, c51, c45]) (fr := fr) S51 [3, 2, 0, 1] Zg Zi V
   have S53 := mT_shut (pre := (pre ++ [((pre.length : Int), AnC.mk 5 false 0, (lastG G0 pre))])) (hc44.trans (by rw [lastG_app])) hc51 S52
   rw [hcj_3] at S53
   refine I_yield V V Zi (hY pre ((pre.length : Int), AnC.mk 5 false 0, (lastG G0 pre)) _ _ S53 hT22) (fun res hr => run_yield2 V (Sb t0) (Sa t0) t0 hr) ?_
   rintro _ w53 (⟨rfl, S53⟩ | ⟨rfl, S53⟩)
   ·refine ⟨_, rfl, ?_⟩
    obtain ⟨cj53, ct53, hcj53, hct53, S53⟩ := gen2 S53
    replace S53 : St wb X (cj53 :: ct53 :: c45 :: fr) w53 := S53
    refine I_up kr (wv (V_notT V t0) (W_end (Qo_normal (en (Ka (Qd F46)) fun A55 _ F55 => ?_))))
    have S57 := S53.del 2
    replace S57 : St wb X (cj53 :: ct53 :: fr) w53 := S57
    refine tk H49 (R_cond_f (fg0 F55) (R_skip (inb_n (tk H9 (R_region kr (ad (fg1 F55) V (vm t0 (W_end (Qo_normal (en (Ka (Qa (fx1 F55))) fun A58 hsz58 F58 => then_n ⟨os.length - (pre ++ [((pre.length : Int), AnC.mk 5 false 0, (lastG G0 pre))]).length, by simp only [hm3, List.length_append, List.length_singleton]; omega, hsz58, F58.d, (pre ++ [((pre.length : Int), AnC.mk 5 false 0, (lastG G0 pre))]), rfl, hT22, ((fg0 F58).trans Zx), ((fg9 F58).trans (fg3 F2).symm), ((fg8 F58).trans (fg2 F2).symm), ((fg7 F58).trans (fg1 F2).symm), ((fg6 F58).trans (fg0 F2).symm), ((fg3 F58).trans (fg6 F2).symm), ((fg2 F58).trans (fg5 F2).symm), (by subst hcj53 hct53; exact S57)⟩))))))))))
   refine ⟨_, rfl, ?_⟩
   obtain ⟨cj53, ct53, hcj53, hct53, S53⟩ := gen2 S53
   replace S53 : St wb X (cj53 :: ct53 :: c45 :: fr) w53 := S53
   refine I_up kr (wv (V_notF V t0) (W_end (Qo_normal (en (Ka (Qd F46)) fun A59 _ F59 => ?_))))
   have S61 := S53.del 2
   replace S61 : St wb X (cj53 :: ct53 :: fr) w53 := S61
   refine tk H49 (R_cond_t (fg0 F59) (R_ret (inb_ret (then_ret (then_ret (inb_ret (ret_inR0 (results_0 Tryz.results90) F59.d ?_)))))))
   exact ⟨⟨_, rfl⟩, .inr ⟨_, hT22, by subst hcj53 hct53; exact S61⟩⟩
  refine R_skip (tk H28 (R_seq (fun _ H62 => R_regionI (I_v V V Zi (V_mov V l0_30) (I_v V V Zi (V_mov V (Sa l6_30)) (I_r V V Zi (VR_ldA V (Sb l9_30) (S30.ob 0 hc26) Tryz.underlying54 V kr) ?_))))))
  have hT22 : Tr n (fun k : Nat => decide ((k : Int) ∈ full)) G0 os (pre ++ [((pre.length : Int), AnC.mk ((doG n (gab (lastG G0 pre)) (⟨y11.kd, y11.a, y11.b, y11.f, y11.p, y11.q, y11.u⟩ : OpC)).2.e) ((doG n (gab (lastG G0 pre)) (⟨y11.kd, y11.a, y11.b, y11.f, y11.p, y11.q, y11.u⟩ : OpC)).2.t) ((doG n (gab (lastG G0 pre)) (⟨y11.kd, y11.a, y11.b, y11.f, y11.p, y11.q, y11.u⟩ : OpC)).2.v), Gx_22)]) := Tr.step hT hy11 V (by exact (Prod.ext hg_22 V : (gab Gx_22, (doG n (gab (lastG G0 pre)) y11).2) = doG n (gab (lastG G0 pre)) y11).trans (stp_0 (mx := n) (rb := decide ((pre.length : Int) ∈ full)) (g := gab (lastG G0 pre)) (c := y11) (fun q => c43 ⟨of_decide_eq_true q.1, q.2⟩)).symm)
  have S63 : St wb X (c24 :: c26 :: cB_22 :: c17 :: cj_3 :: fr) w30 := St.selR (l := [c26, c24, cB_22, c17, cj_3]) (l' := [c24, c26, cB_22, c17, cj_3]) (fr := fr) S30 [1, 0, 2, 3, 4] Zg Zi V
  rw [hc24] at S63
  obtain ⟨c64, hc64, S64⟩ := gen1 (gl_subS (M := (gsM G0 (pre ++ [((pre.length : Int), AnC.mk ((doG n (gab (lastG G0 pre)) (⟨y11.kd, y11.a, y11.b, y11.f, y11.p, y11.q, y11.u⟩ : OpC)).2.e) ((doG n (gab (lastG G0 pre)) (⟨y11.kd, y11.a, y11.b, y11.f, y11.p, y11.q, y11.u⟩ : OpC)).2.t) ((doG n (gab (lastG G0 pre)) (⟨y11.kd, y11.a, y11.b, y11.f, y11.p, y11.q, y11.u⟩ : OpC)).2.v), Gx_22)]))) S63 (gsM_sub (fun G hG => List.mem_append_left _ hG) (gm_mem (lastG_mem G0 pre) hm_22)))
  replace S64 : St wb X (c64 :: c26 :: cB_22 :: c17 :: cj_3 :: fr) w30 := S64
  have S65 : St wb X (cj_3 :: cB_22 :: c64 :: c26 :: c17 :: fr) w30 := St.selR (l := [c64, c26, cB_22, c17, cj_3]) (l' := [cj_3, cB_22, c64, c26, c17]) (fr := fr) S64 [4, 2, 0, 1, 3] Zg Zi V
  have S66 := mT_shut (pre := (pre ++ [((pre.length : Int), AnC.mk ((doG n (gab (lastG G0 pre)) (⟨y11.kd, y11.a, y11.b, y11.f, y11.p, y11.q, y11.u⟩ : OpC)).2.e) ((doG n (gab (lastG G0 pre)) (⟨y11.kd, y11.a, y11.b, y11.f, y11.p, y11.q, y11.u⟩ : OpC)).2.t) ((doG n (gab (lastG G0 pre)) (⟨y11.kd, y11.a, y11.b, y11.f, y11.p, y11.q, y11.u⟩ : OpC)).2.v), Gx_22)])) (hcB_22.trans (by rw [lastG_app])) hc64 S65
  rw [hcj_3] at S66
  refine I_yield V V Zi (hY pre ((pre.length : Int), AnC.mk ((doG n (gab (lastG G0 pre)) (⟨y11.kd, y11.a, y11.b, y11.f, y11.p, y11.q, y11.u⟩ : OpC)).2.e) ((doG n (gab (lastG G0 pre)) (⟨y11.kd, y11.a, y11.b, y11.f, y11.p, y11.q, y11.u⟩ : OpC)).2.t) ((doG n (gab (lastG G0 pre)) (⟨y11.kd, y11.a, y11.b, y11.f, y11.p, y11.q, y11.u⟩ : OpC)).2.v), Gx_22) _ _ S66 hT22) (fun res hr => run_yield2 V (Sb t0) (Sa t0) t0 hr) ?_
  rintro _ w66 (⟨rfl, S66⟩ | ⟨rfl, S66⟩)
  ·refine ⟨_, rfl, ?_⟩
   obtain ⟨cj66, ct66, hcj66, hct66, S66⟩ := gen2 S66
   replace S66 : St wb X (cj66 :: ct66 :: c26 :: c17 :: fr) w66 := S66
   refine I_up kr (wv (V_notT V t0) (W_end (Qo_normal (en (((((((((ck (cq4 (FS.n hdf30) V) V V)).c (es5 V l0_30)).c (es5 V l2_30)).c (es5 V l3_30)).c (es5 V l4_30)).c (es5 V l10_30)).c (es5 V l11_30)).c (Se l12_30)) fun A68 _ F68 => ?_))))
   have S70 := S66.del 2
   replace S70 : St wb X (cj66 :: ct66 :: c17 :: fr) w66 := S70
   have S71 := S70.del 2
   replace S71 : St wb X (cj66 :: ct66 :: fr) w66 := S71
   refine tk H62 (R_cond_f (fg7 F68) (R_skip (inb_n (tk H9 (R_region kr (ad (fg0 F68) V (vm t0 (W_end (Qo_normal (en (Ka (Qa (fx0 F68))) fun A72 hsz72 F72 => then_n ⟨os.length - (pre ++ [((pre.length : Int), AnC.mk ((doG n (gab (lastG G0 pre)) (⟨y11.kd, y11.a, y11.b, y11.f, y11.p, y11.q, y11.u⟩ : OpC)).2.e) ((doG n (gab (lastG G0 pre)) (⟨y11.kd, y11.a, y11.b, y11.f, y11.p, y11.q, y11.u⟩ : OpC)).2.t) ((doG n (gab (lastG G0 pre)) (⟨y11.kd, y11.a, y11.b, y11.f, y11.p, y11.q, y11.u⟩ : OpC)).2.v), Gx_22)]).length, by simp only [hm3, List.length_append, List.length_singleton]; omega, hsz72, F72.d, (pre ++ [((pre.length : Int), AnC.mk ((doG n (gab (lastG G0 pre)) (⟨y11.kd, y11.a, y11.b, y11.f, y11.p, y11.q, y11.u⟩ : OpC)).2.e) ((doG n (gab (lastG G0 pre)) (⟨y11.kd, y11.a, y11.b, y11.f, y11.p, y11.q, y11.u⟩ : OpC)).2.t) ((doG n (gab (lastG G0 pre)) (⟨y11.kd, y11.a, y11.b, y11.f, y11.p, y11.q, y11.u⟩ : OpC)).2.v), Gx_22)]), rfl, hT22, ((fg0 F72).trans Zx), ((fg6 F72).trans (fg3 F2).symm), ((fg5 F72).trans (fg2 F2).symm), ((fg4 F72).trans (fg1 F2).symm), ((fg3 F72).trans (fg0 F2).symm), ((fg2 F72).trans (fg6 F2).symm), ((fg1 F72).trans (fg5 F2).symm), (by subst hcj66 hct66; exact S71)⟩))))))))))
  refine ⟨_, rfl, ?_⟩
  obtain ⟨cj66, ct66, hcj66, hct66, S66⟩ := gen2 S66
  replace S66 : St wb X (cj66 :: ct66 :: c26 :: c17 :: fr) w66 := S66
  refine I_up kr (wv (V_notF V t0) (W_end (Qo_normal (en (((((((((ck (cq4 (FS.n hdf30) V) V V)).c (es5 V l0_30)).c (es5 V l2_30)).c (es5 V l3_30)).c (es5 V l4_30)).c (es5 V l10_30)).c (es5 V l11_30)).c (Se l12_30)) fun A73 _ F73 => ?_))))
  have S75 := S66.del 2
  replace S75 : St wb X (cj66 :: ct66 :: c17 :: fr) w66 := S75
  have S76 := S75.del 2
  replace S76 : St wb X (cj66 :: ct66 :: fr) w66 := S76
  refine tk H62 (R_cond_t (fg7 F73) (R_ret (inb_ret (then_ret (then_ret (inb_ret (ret_inR0 (results_0 Tryz.results90) F73.d ?_)))))))
  exact ⟨⟨_, rfl⟩, .inr ⟨_, hT22, by subst hcj66 hct66; exact S76⟩⟩
 refine R_exit (then_exit (then_exit (inb_hit (ret_inR0 (results_0 Tryz.results90) F5.d ?_))))
 exact ⟨⟨_, rfl⟩, .inl ⟨_, ⟨hT, by omega⟩, by subst hcj_3 hct_3; exact S3⟩⟩

set_option maxHeartbeats 4000000 in
theorem kmtP_c {gs : Nat} {lv : Value} {l : List OpC} {gc : Nat} {w : World} (h_lv : Ro w NoX (rl 7 opC lv l))  :
  Calls Tryz.prog 45 #[.pointer (some ⟨gs, 0, none⟩), lv, .func (.func 51) #[] #[.pointer (some ⟨gc, 0, none⟩)]] w fun e w' => ∃ g4 g3 g7 g5, e = .returned (.func (.func 90) #[] #[.pointer (some ⟨g4, 0, none⟩), .pointer (some ⟨g3, 0, none⟩), .pointer (some ⟨g7, 0, none⟩), .pointer (some ⟨g5, 0, none⟩)]) ∧ St w NoX [bx g4 24 #[lv], bx g3 75 #[.pointer (some ⟨gs, 0, none⟩)], bx g7 78 #[.func (.func 38) #[.pointer (some ⟨gs, 0, none⟩)] #[]], bx g5 88 #[.func (.func 51) #[] #[.pointer (some ⟨gc, 0, none⟩)]]] w' := by
 refine ci3 11 Tryz.func45 V (fun A0 _ F0 => ?_)
 have hS := St.nil w
 have bh_lv := SlN.le (sl_SlN h_lv.at)
 refine tb fun _ H1 => (wB (#[.pointer (some ⟨gs, 0, none⟩)]) hS (fg0 F0) (fun g2 w2 c2 hc2 S2 => W_boxS (zs := #[lv]) S2 V V V (Sa (fg1 F0)) (SlN_cells (sl_SlN h_lv.at)) (fun g3 w3 c3 hc3 S3 => wB (#[.func (.func 51) #[] #[.pointer (some ⟨gc, 0, none⟩)]]) S3 (Sb (fg2 F0)) (fun g4 w4 c4 hc4 S4 => vc (W_end (en (Qa (Kc F0)) fun A5 _ F5 => ta H1 fun _ H6 => (rL (.pointer (some ⟨gs, 0, none⟩)) (fg2 F5) (S4.ob 2 hc2) (wv (V_mkf V (args1 t0) args0) (wZ .nilFunc S4 (fun g7 w7 c7 hc7 S7 => xsC0 (zs' := #[.func (.func 38) #[.pointer (some ⟨gs, 0, none⟩)] #[]]) S7 hc7 V V V t0 (Sa t0) Zi (fun w8 c8 hc8 S8 => W_end (en (Ka (Qb F5)) fun A9 _ F9 => ta H6 fun _ H10 => (wv (V_mkf V args0 (args4 (fg2 F9) (fg3 F9) (fg0 F9) (fg1 F9))) (vt (W_end (en (Ka (Qa F9)) fun A11 _ F11 => tk H10 (wp_ret (rt1 F11 (rv_tmp (fg0 F11)) ?_))))))))))))))))))
 exact ⟨_, _, _, _, rfl, (S8.f4 2 hc3 3 hc2 0 hc8 1 hc4)⟩

end Go.Proofs.YtpgkfndbfocibaaGreat
namespace Go.Proofs.YtpgkfndbfocibaaGreat
open Go.RowKit Go.Own Go.Own.R Go.Own.G Go.Own.Gr Go.Own.Ml


set_option maxHeartbeats 4000000 in
theorem kpl_c {C N Z K Q : Int} {lv : Value} {os : List OpC} {fv : Value} {full : List Int} {w : World} (h_lv : Ro w NoX (rl 7 opC lv os)) (h_fv : Ro w NoX (il .i64 fv full))  :
  Calls Tryz.prog 29 #[.agg #[.int .i64 C, .int .i64 N, .int .i64 Z, .int .i64 K, .int .i64 Q], lv, fv] w fun e w' => (e = .returned (.tuple #[.slice none 0 0, .slice none 0 0, .int .i64 (plF (cfE C N Z K Q) (lgN C N Z K Q) K os full).1, .int .i64 (plF (cfE C N Z K Q) (lgN C N Z K Q) K os full).2]) ∧ ((plF (cfE C N Z K Q) (lgN C N Z K Q) K os full).2 ≠ 0) ∧ St w NoX [] w') ∨ (∃ gv Gs av, e = .returned (.tuple #[gv, av, .int .i64 0, .int .i64 0]) ∧ ((plF (cfE C N Z K Q) (lgN C N Z K Q) K os full) = (0, 0)) ∧ (Gs.map gab = (plG (cfE C N Z K Q) (lgN C N Z K Q) K os full)) ∧ St w NoX [ro 2 grC gv Gs, gls Gs, ro 3 anC av (plA (cfE C N Z K Q) (lgN C N Z K Q) K os full)] w') := by
 refine calls_inR 81 Tryz.func29 V V Zo (fun A0 Y0 hdf0 hargs => ?_)
 have l0_0 := hargs 0 (.agg #[.int .i64 C, .int .i64 N, .int .i64 Z, .int .i64 K, .int .i64 Q]) V
 have l1_0 := hargs 1 lv V
 have l2_0 := hargs 2 fv V
 clear hargs; replace Y0 : SzN A0 81 := ⟨Y0⟩
 have hS := St.nil w
 have bh_lv := SlN.le (sl_SlN h_lv.at)
 have bh_fv := SlN.le (sl_SlN h_fv.at)
 refine R_seq (fun _ H1 => R_region kr (wB (#[.int .i64 (C), .int .i64 (N), .int .i64 (Z), .int .i64 (K), .int .i64 (Q)]) hS l0_0 (fun g2 w2 c2 hc2 S2 => W_boxS (zs := #[fv]) S2 V V V (Sa l2_0) (SlN_cells (sl_SlN h_fv.at)) (fun g3 w3 c3 hc3 S3 => wZ (.slice none 0 0) S3 (fun g4 w4 c4 hc4 S4 => wZ (.slice none 0 0) S4 (fun g5 w5 c5 hc5 S5 => wZ (.int .i64 0) S5 (fun g6 w6 c6 hc6 S6 => wZ (.int .i64 0) S6 (fun g7 w7 c7 hc7 S7 => W_end (Qo_normal (en (((ck (ck (ck (ck (ck (ck (FS.n hdf0) V V) V V) V V) V V) V V) V V)).c (Sf l1_0)) fun A8 _ F8 => tk H1 (R_seq (fun _ H9 => R_region kr (ra (fg6 F8) (S7.ob 5 hc2) (vm (Sa (fg0 F8)) (wc (args2 (Sa t0) t0) (kbg_c (C := C) (N := N) (Z := Z) (K := K) (Q := Q) (S7.roC h_lv)) ?_)))))))))))))))
 rintro _ w10 (⟨rfl, hz_10, hP10⟩ | ⟨gs_10, hv_10, H_10, qv_10, q_10, rfl, hz_10, hg_10, hP10⟩)
 ·refine ⟨_, rfl, ?_⟩
  have S10 := S7.j0 hP10
  refine vm t0 (vx (.pointer none) t0 (vx (.int .i64 ((scE (cfE C N Z K Q) os).1)) (Sa t0) (vx (.int .i64 ((scE (cfE C N Z K Q) os).2)) (Sb t0) (wZ (.pointer none) S10 (fun g11 w11 c11 hc11 S11 => xsC0 (zs' := #[.pointer none]) S11 hc11 V V V t0 (Sc t0) Zi (fun w12 c12 hc12 S12 => xsC2 (zs' := #[.int .i64 ((scE (cfE C N Z K Q) os).1)]) S12 hc6 V V V (Sh (fg2 F8)) (Sb t0) Zi (fun w13 c13 hc13 S13 => xsC1 (zs' := #[.int .i64 ((scE (cfE C N Z K Q) os).2)]) S13 hc7 V V V (Sh (fg1 F8)) (Sa t0) Zi (fun w14 c14 hc14 S14 => W_end (Qo_normal (en (Ka (Qg F8)) fun A15 _ F15 => ?_))))))))))
  have S16 := S14.se [0, 1, 2, 3, 4, 5] [c12, c14, c13, c5, c4, c3]
  refine tk H9 (R_seq (fun _ H17 => R_seq (fun _ H18 => R_region kr (rL (.int .i64 ((scE (cfE C N Z K Q) os).2)) (fg2 F15) (S16.ob 1 hc14) (vn t0 V (W_end (Qo_normal (en (Ka (Qa F15)) fun A19 Y19 F19 => tk H18 (R_cond_sure (fg0 F19) (by rw [decide_eq_true_eq]; exact hz_10) (R_seq (fun _ H20 => R_any kr kr 6 V (fun w141 hx141 => ?_))))))))))))
  have S141 := S16.grow hx141
  refine AX_parL (l0 := [c12, c14, c13, c5, c4, c3]) (k := 0) [⟨[2], [], [26], fun vs => [], fun vs => (vs.getD 0 undef) = .int .i64 ((scE (cfE C N Z K Q) os).1)⟩, ⟨[1], [], [27], fun vs => [], fun vs => (vs.getD 0 undef) = .int .i64 ((scE (cfE C N Z K Q) os).2)⟩, ⟨[], [4], [], fun vs => [bx g4 64 #[.slice none 0 0]], fun vs => True⟩, ⟨[], [3], [], fun vs => [bx g5 31 #[.slice none 0 0]], fun vs => True⟩, ⟨[], [2], [], fun vs => [bx g6 3 #[.int .i64 ((scE (cfE C N Z K Q) os).1)]], fun vs => True⟩, ⟨[], [1], [], fun vs => [bx g7 32 #[.int .i64 ((scE (cfE C N Z K Q) os).2)]], fun vs => True⟩] [c12, c14, c13, c5, c4, c3] S141 V kr V ⟨?_, ?_, ?_, ?_, ?_, ?_, trivial⟩ ?_
  ·refine stepI [] (fun vs => [c13]) V (fun a => by kernel_rfl) ?_
   intro A142 w142 rst hFr hF S142
   replace S142 : St w NoX [c13, rst] w142 := S142
   have Y142 : SzN A142 81 := ⟨hFr.sz.trans Y19.out⟩
   have hdf142 : A142.defers = [] := hFr.df.trans F19.d
   have l8_142 := (oldS hFr 8 kr).trans (fg4 F19)
   obtain ⟨c13_142, hc13_142, S142⟩ := gen1 S142
   replace hc13_142 := hc13_142.trans hc13
   refine rL (.int .i64 ((scE (cfE C N Z K Q) os).1)) l8_142 (S142.ob 0 hc13_142) (W_end (kq _ ?_))
   exact ⟨_, [.int .i64 ((scE (cfE C N Z K Q) os).1)], rfl, ts1 (et V), rfl, rfl, by subst hc13_142 hc13; exact S142⟩
  ·refine stepI [] (fun vs => [c14]) V (fun a => by kernel_rfl) ?_
   intro A143 w143 rst hFr hF S143
   replace S143 : St w NoX [c14, rst] w143 := S143
   have Y143 : SzN A143 81 := ⟨hFr.sz.trans Y19.out⟩
   have hdf143 : A143.defers = [] := hFr.df.trans F19.d
   have l9_143 := (oldS hFr 9 kr).trans (fg3 F19)
   obtain ⟨c14_143, hc14_143, S143⟩ := gen1 S143
   replace hc14_143 := hc14_143.trans hc14
   refine rL (.int .i64 ((scE (cfE C N Z K Q) os).2)) l9_143 (S143.ob 0 hc14_143) (W_end (kq _ ?_))
   exact ⟨_, [.int .i64 ((scE (cfE C N Z K Q) os).2)], rfl, ts1 (et V), rfl, rfl, by subst hc14_143 hc14; exact S143⟩
  ·refine stepI [] (fun vs => [c4]) V (fun a => by kernel_rfl) ?_
   intro A144 w144 rst hFr hF S144
   replace S144 : St w NoX [c4, rst] w144 := S144
   have Y144 : SzN A144 81 := ⟨hFr.sz.trans Y19.out⟩
   have hdf144 : A144.defers = [] := hFr.df.trans F19.d
   have l6_144 := (oldS hFr 6 kr).trans (fg6 F19)
   obtain ⟨c4_144, hc4_144, S144⟩ := gen1 S144
   replace hc4_144 := hc4_144.trans hc4
   refine xsC (zs' := #[.slice none 0 0]) 0 S144 V hc4_144 V V V l6_144 V Zi (fun w145 c145 hc145 S145 => ?_)
   replace S145 : St w NoX (c145 :: [rst]) w145 := S145
   refine W_end (kq _ ?_)
   exact ⟨undef, [], rfl, rfl, trivial, rfl, by subst hc145 hc4; exact S145⟩
  ·refine stepI [] (fun vs => [c5]) V (fun a => by kernel_rfl) ?_
   intro A146 w146 rst hFr hF S146
   replace S146 : St w NoX [c5, rst] w146 := S146
   have Y146 : SzN A146 81 := ⟨hFr.sz.trans Y19.out⟩
   have hdf146 : A146.defers = [] := hFr.df.trans F19.d
   have l7_146 := (oldS hFr 7 kr).trans (fg5 F19)
   obtain ⟨c5_146, hc5_146, S146⟩ := gen1 S146
   replace hc5_146 := hc5_146.trans hc5
   refine xsC (zs' := #[.slice none 0 0]) 0 S146 V hc5_146 V V V l7_146 V Zi (fun w147 c147 hc147 S147 => ?_)
   replace S147 : St w NoX (c147 :: [rst]) w147 := S147
   refine W_end (kq _ ?_)
   exact ⟨undef, [], rfl, rfl, trivial, rfl, by subst hc147 hc5; exact S147⟩
  ·refine stepI [] (fun vs => [c13]) V (fun a => by kernel_rfl) ?_
   intro A148 w148 rst hFr hF S148
   replace S148 : St w NoX [c13, rst] w148 := S148
   have f26_148 : EV A148 (.tmp 26) = .int .i64 ((scE (cfE C N Z K Q) os).1) := hF 0 kr
   generalize q26_148 : EV A148 (.tmp 26) = us26 at S148 f26_148
   have l26_148 := q26_148.trans f26_148
   have Y148 : SzN A148 81 := ⟨hFr.sz.trans Y19.out⟩
   have hdf148 : A148.defers = [] := hFr.df.trans F19.d
   have l8_148 := (oldS hFr 8 kr).trans (fg4 F19)
   obtain ⟨c13_148, hc13_148, S148⟩ := gen1 S148
   replace hc13_148 := hc13_148.trans hc13
   refine xsC (zs' := #[.int .i64 ((scE (cfE C N Z K Q) os).1)]) 0 S148 V hc13_148 V V V l8_148 l26_148 Zi (fun w149 c149 hc149 S149 => ?_)
   replace S149 : St w NoX (c149 :: [rst]) w149 := S149
   refine W_end (kq _ ?_)
   subst q26_148
   exact ⟨undef, [], rfl, rfl, trivial, rfl, by subst hc149 hc13; exact S149⟩
  ·refine stepI [] (fun vs => [c14]) V (fun a => by kernel_rfl) ?_
   intro A150 w150 rst hFr hF S150
   replace S150 : St w NoX [c14, rst] w150 := S150
   have f27_150 : EV A150 (.tmp 27) = .int .i64 ((scE (cfE C N Z K Q) os).2) := hF 1 kr
   generalize q27_150 : EV A150 (.tmp 27) = us27 at S150 f27_150
   have l27_150 := q27_150.trans f27_150
   have Y150 : SzN A150 81 := ⟨hFr.sz.trans Y19.out⟩
   have hdf150 : A150.defers = [] := hFr.df.trans F19.d
   have l9_150 := (oldS hFr 9 kr).trans (fg3 F19)
   obtain ⟨c14_150, hc14_150, S150⟩ := gen1 S150
   replace hc14_150 := hc14_150.trans hc14
   refine xsC (zs' := #[.int .i64 ((scE (cfE C N Z K Q) os).2)]) 0 S150 V hc14_150 V V V l9_150 l27_150 Zi (fun w151 c151 hc151 S151 => ?_)
   replace S151 : St w NoX (c151 :: [rst]) w151 := S151
   refine W_end (kq _ ?_)
   subst q27_150
   exact ⟨undef, [], rfl, rfl, trivial, rfl, by subst hc151 hc14; exact S151⟩
  intro A152 w152 hFr hF S152
  replace S152 : St w NoX [c12, bx g7 32 #[.int .i64 ((scE (cfE C N Z K Q) os).2)], bx g6 3 #[.int .i64 ((scE (cfE C N Z K Q) os).1)], bx g5 31 #[.slice none 0 0], bx g4 64 #[.slice none 0 0], c3] w152 := S152.cast kr
  have Y152 : SzN A152 81 := ⟨hFr.sz.trans Y19.out⟩
  have hdf152 : A152.defers = [] := hFr.df.trans F19.d
  obtain ⟨c12_152, c84_152, c83_152, c82_152, c81_152, c3_152, hc12_152, hc84_152, hc83_152, hc82_152, hc81_152, hc3_152, S152⟩ := gen6 S152
  replace hc12_152 := hc12_152.trans hc12
  replace hc3_152 := hc3_152.trans hc3
  have l6_152 := (oldS hFr 6 kr).trans (fg6 F19)
  have l7_152 := (oldS hFr 7 kr).trans (fg5 F19)
  have l8_152 := (oldS hFr 8 kr).trans (fg4 F19)
  have l9_152 := (oldS hFr 9 kr).trans (fg3 F19)
  clear Y19 F19 S16
  refine Qo_normal (tk H20 (R_ret (then_ret (ret_inR0 (results_4 Tryz.results29 (rvC l6_152 (cell_box (S152.ob 4 hc81_152) V)) (rvC l7_152 (cell_box (S152.ob 3 hc82_152) V)) (rvC l8_152 (cell_box (S152.ob 2 hc83_152) V)) (rvC l9_152 (cell_box (S152.ob 1 hc84_152) V))) hdf152 ?_))))
  have h : (plF (cfE C N Z K Q) (lgN C N Z K Q) K os full) = ((scE (cfE C N Z K Q) os).1, (scE (cfE C N Z K Q) os).2) := pl_sc hz_10
  rw [h]
  exact .inl ⟨rfl, hz_10, S152.fin0⟩
 refine ⟨_, rfl, ?_⟩
 obtain ⟨cB_10, cK_10, hcB_10, hcK_10, hP10⟩ := gen2 hP10
 have S10 := S7.j2 hP10
 obtain ⟨hcf, hl2, hops, hsz⟩ := sc_inv (cf := (cfE C N Z K Q)) (l := os) (by rw [hz_10])
 have hsm0 : SM (gab ((hv_10, H_10), (qv_10, q_10))).1 := by rw [hg_10]; exact SM_nil
 have hgK : gab ((hv_10, H_10), (qv_10, q_10)) = g00 K := hg_10
 refine vm t0 (vx (.pointer (some ⟨gs_10, 0, none⟩)) t0 (vx (.int .i64 0) (Sa t0) (vx (.int .i64 0) (Sb t0) (wZ (.pointer none) S10 (fun g154 w154 c154 hc154 S154 => xsC0 (zs' := #[.pointer (some ⟨gs_10, 0, none⟩)]) S154 hc154 V V V t0 (Sc t0) Zi (fun w155 c155 hc155 S155 => xsC4 (zs' := #[.int .i64 0]) S155 hc6 V V V (Sh (fg2 F8)) (Sb t0) Zi (fun w156 c156 hc156 S156 => xsC3 (zs' := #[.int .i64 0]) S156 hc7 V V V (Sh (fg1 F8)) (Sa t0) Zi (fun w157 c157 hc157 S157 => W_end (Qo_normal (en (Ka (Qg F8)) fun A158 _ F158 => ?_))))))))))
 have S159 := S157.se [0, 1, 2, 3, 4, 5, 6, 7] [c155, cB_10, cK_10, c157, c156, c5, c4, c3]
 refine tk H9 (R_seq (fun _ H160 => R_seq (fun _ H161 => R_region kr (rL (.int .i64 0) (fg2 F158) (S159.ob 3 hc157) (vn t0 V (W_end (Qo_normal (en (Ka (Qa F158)) fun A162 _ F162 => tk H161 (R_cond_not (fg0 F162) Zg (R_skip (tk H160 (R_seq (fun _ H163 => R_region kr (vc (W_end (Qo_normal (en (Ka F162) fun A164 _ F164 => tk H163 (R_seq (fun _ H165 => R_seq (fun _ H166 => R_region kr (rL fv (fg8 F164) (S159.ob 7 hc3) (le_ t0 (sl_SlN h_fv.at) (vm V (W_end (Qo_normal (en (Kc F164) fun A167 Y167 F167 => tk H166 (R_block ?_)))))))))))))))))))))))))))
 -- loop 6
 refine R_loop (fun mz A' w' => SzN A' 81 ∧ A'.defers = [] ∧ (∃ (k : Nat) (last : Int), (mz = full.length - k) ∧ (k ≤ full.length) ∧ (fcF (-1) full os.length = fcF last (full.drop k) os.length) ∧ (EV A' (.tmp 30) = .int .i64 (k : Int)) ∧ (EV A' (.tmp 11) = .int .i64 last) ∧ (EV A' (.tmp 1) = EV A167 (.tmp 1)) ∧ (EV A' (.tmp 5) = EV A167 (.tmp 5)) ∧ (EV A' (.tmp 6) = EV A167 (.tmp 6)) ∧ (EV A' (.tmp 7) = EV A167 (.tmp 7)) ∧ (EV A' (.tmp 8) = EV A167 (.tmp 8)) ∧ (EV A' (.tmp 9) = EV A167 (.tmp 9)) ∧ (EV A' (.tmp 10) = EV A167 (.tmp 10)) ∧ (EV A' (.tmp 28) = EV A167 (.tmp 28)) ∧ (EV A' (.tmp 29) = EV A167 (.tmp 29)) ∧ (St w NoX [bx g154 75 #[.pointer (some ⟨gs_10, 0, none⟩)], bx gs_10 77 #[hv_10, qv_10, .int .i64 (lgN C N Z K Q)], gls [((hv_10, H_10), (qv_10, q_10))], bx g7 32 #[.int .i64 0], bx g6 3 #[.int .i64 0], bx g5 31 #[.slice none 0 0], bx g4 64 #[.slice none 0 0], bx g3 25 #[fv]] w'))) (full.length - 0) ⟨Y167, F167.d, 0, (-1), rfl, Zb, rfl, ((fg0 F167).trans Za), ((fg3 F167).trans Za), rfl, rfl, rfl, rfl, rfl, rfl, rfl, rfl, rfl, (by subst hc155 hcB_10 hcK_10 hc157 hc156 hc5 hc4 hc3; exact S159)⟩ ?_
 clear S159 hc155 hcB_10 hcK_10 hc157 hc156 hc5 hc4 hc3
 rintro n168 A168 w168 ⟨Y168, hdf168, k, last, hm168, hk, hfc, l30_168, l11_168, u1_168, u5_168, u6_168, u7_168, u8_168, u9_168, u10_168, u28_168, u29_168, S168⟩
 have l1_168 := u1_168.trans (fg6 F167)
 have l5_168 := u5_168.trans (fg11 F167)
 have l6_168 := u6_168.trans (fg10 F167)
 have l7_168 := u7_168.trans (fg9 F167)
 have l8_168 := u8_168.trans (fg8 F167)
 have l9_168 := u9_168.trans (fg7 F167)
 have l10_168 := u10_168.trans (fg5 F167)
 have l28_168 := u28_168.trans (fg2 F167)
 have l29_168 := u29_168.trans (fg1 F167)
 obtain ⟨c155_168, cB_168, cK_168, c157_168, c156_168, c5_168, c4_168, c3_168, hc155_168, hcB_168, hcK_168, hc157_168, hc156_168, hc5_168, hc4_168, hc3_168, S168⟩ := gen8 S168
 refine R_seq (fun _ H169 => R_region kr (vl l30_168 l29_168 (W_end (Qo_normal (en (((((((((((((ck (FS.n hdf168) V V)).c (es V l1_168)).c (es V l5_168)).c (es V l6_168)).c (es V l7_168)).c (es V l8_168)).c (es V l9_168)).c (es V l10_168)).c (es V l11_168)).c (es V l28_168)).c (es V l29_168)).c (Sa l30_168)) fun A170 _ F170 => tk H169 (R_seq (fun _ H171 => R_cond_dec (fg11 F170) (fun c172 => ?_) (fun c172 => ?_))))))))
 ·refine R_skip (tk H171 (R_seq (fun _ H173 => R_block (R_seq (fun _ H174 => R_region kr ?_)))))
  have k175 : k < full.length := om
  obtain ⟨y175, hy175⟩ := get_some (xs := full) (k := k) k175
  obtain ⟨B175, O175, C175, hv175⟩ := (SlN.blk (sl_SlN h_fv.at) om)
  refine wv (V_ixS (off := O175 + k) 1 k V (fg2 F170) (fg0 F170) hv175 Zb k175 Tryz.underlying25 kr (congrArg _ (Nat.mul_one _))) (rc t0 ((sl_SlN (S168.ro h_fv)).cell hv175 (map_get hy175)) (vt (W_end (Qo_normal (en (Ka (Qb F170)) fun A176 _ F176 => tk H174 (R_seq (fun _ H177 => R_seq (fun _ H178 => R_region kr (vm (fg0 F176) (vm (Sa (fg4 F176)) (vk (Sa t0) t0 (W_split V V (V_mov V t0) (fun c179 => ?_) (fun c179 => ?_)))))))))))))
  ·refine xo V t0 (xo V (Sa t0) (xo V (Sb t0) (xo V (Sc t0) (vT (Sd t0) V (W_end (Qo_normal (en (Ke (Qd F176)) fun A180 _ F180 => tk H178 (R_cond_t (fg0 F180) (R_seq (fun _ H181 => R_region kr (xsC (zs' := #[.slice none 0 0]) 6 S168 V hc4_168 V V V (fg14 F180) V Zi (fun w182 c182 hc182 S182 => ?_))))))))))))
   replace S182 : St w NoX [c155_168, cB_168, cK_168, c157_168, c156_168, c5_168, c182, c3_168] w182 := S182
   refine xsC5 (zs' := #[.slice none 0 0]) S182 hc5_168 V V V (fg13 F180) V Zi (fun w183 c183 hc183 S183 => xsC4 (zs' := #[.int .i64 (-1)]) S183 hc156_168 V V V (fg12 F180) V Zi (fun w184 c184 hc184 S184 => xsC3 (zs' := #[.int .i64 6]) S184 hc157_168 V V V (fg11 F180) V Zi (fun w185 c185 hc185 S185 => W_end (Qo_normal (tk H181 (R_ret (then_ret (inb_ret (then_ret (then_ret (inb_ret (then_ret (ret_inR0 (results_4 Tryz.results29 (rvC (fg14 F180) (cell_box (S185.ob 6 hc182) V)) (rvC (fg13 F180) (cell_box (S185.ob 5 hc183) V)) (rvC (fg12 F180) (cell_box (S185.ob 4 hc184) V)) (rvC (fg11 F180) (cell_box (S185.ob 3 hc185) V))) F180.d ?_)))))))))))))
   have h : (plF (cfE C N Z K Q) (lgN C N Z K Q) K os full) = ((-1), 6) := pl_fc hsz (fc_bad hfc hy175 Zb)
   rw [h]
   exact .inl ⟨rfl, by decide, S185.fin0⟩
  refine wg V t0 (uvm (Sd (fg0 F176))) (wg V (Sa t0) (uvm (Se (fg11 F176))) (wg V (Sb t0) (ule_ t0 (sl_SlN h_lv.at)) (wg V (Sc t0) (uvh (Sb t0) t0) (vF (Sd t0) t0 (W_end (Qo_normal (en (Ke (Qd F176)) fun A186 _ F186 => tk H178 (R_cond_dec (fg0 F186) (fun c187 => ?_) (fun c187 => ?_)))))))))
  ·refine R_seq (fun _ H188 => R_region kr (xsC (zs' := #[.slice none 0 0]) 6 S168 V hc4_168 V V V (fg14 F186) V Zi (fun w189 c189 hc189 S189 => ?_)))
   replace S189 : St w NoX [c155_168, cB_168, cK_168, c157_168, c156_168, c5_168, c189, c3_168] w189 := S189
   refine xsC5 (zs' := #[.slice none 0 0]) S189 hc5_168 V V V (fg13 F186) V Zi (fun w190 c190 hc190 S190 => xsC4 (zs' := #[.int .i64 (-1)]) S190 hc156_168 V V V (fg12 F186) V Zi (fun w191 c191 hc191 S191 => xsC3 (zs' := #[.int .i64 6]) S191 hc157_168 V V V (fg11 F186) V Zi (fun w192 c192 hc192 S192 => W_end (Qo_normal (tk H188 (R_ret (then_ret (inb_ret (then_ret (then_ret (inb_ret (then_ret (ret_inR0 (results_4 Tryz.results29 (rvC (fg14 F186) (cell_box (S192.ob 6 hc189) V)) (rvC (fg13 F186) (cell_box (S192.ob 5 hc190) V)) (rvC (fg12 F186) (cell_box (S192.ob 4 hc191) V)) (rvC (fg11 F186) (cell_box (S192.ob 3 hc192) V))) F186.d ?_)))))))))))))
   have h : (plF (cfE C N Z K Q) (lgN C N Z K Q) K os full) = ((-1), 6) := pl_fc hsz (fc_bad hfc hy175 Zb)
   rw [h]
   exact .inl ⟨rfl, by decide, S192.fin0⟩
  refine R_skip (tk H177 (R_region kr (vm (fg5 F186) (vt (W_end (Qo_normal (en (Ka (Qa (fx9 F186))) fun A193 _ F193 => inb_n (tk H173 (R_region kr (ad (fg7 F193) V (vm t0 (W_end (Qo_normal (en (Ka (Qa (fx7 F193))) fun A194 Y194 F194 => then_n ⟨full.length - (k + 1), by simp only [hm168]; omega, Y194, F194.d, (k + 1), y175, rfl, Zb, (fc_step hfc hy175 Zb), ((fg0 F194).trans Za), ((fg1 F194).trans Za), ((fg16 F194).trans (fg6 F167).symm), ((fg15 F194).trans (fg11 F167).symm), ((fg14 F194).trans (fg10 F167).symm), ((fg13 F194).trans (fg9 F167).symm), ((fg12 F194).trans (fg8 F167).symm), ((fg11 F194).trans (fg7 F167).symm), ((fg10 F194).trans (fg5 F167).symm), ((fg9 F194).trans (fg2 F167).symm), ((fg8 F194).trans (fg1 F167).symm), (by subst hc155_168 hcB_168 hcK_168 hc157_168 hc156_168 hc5_168 hc4_168 hc3_168; exact S168)⟩))))))))))))))
 refine R_exit (then_exit (then_exit (inb_hit (tk H165 (R_seq (fun _ H195 => R_region kr (wv (V_mkf V args0 (args1 (fg9 F170))) (wZ .nilFunc S168 (fun g196 w196 c196 hc196 S196 => ?_)))))))))
 replace S196 : St w NoX [c196, c155_168, cB_168, cK_168, c157_168, c156_168, c5_168, c4_168, c3_168] w196 := S196
 refine xsC0 (zs' := #[.func (.func 51) #[] #[.pointer (some ⟨g3, 0, none⟩)]]) S196 hc196 V V V t0 (Sa t0) Zi (fun w197 c197 hc197 S197 => W_end (Qo_normal (en (Ka (Qa F170)) fun A198 _ F198 => tk H195 (R_seq (fun _ H199 => R_monoS kr 7 8 [none, none, none, none, none, some (SPv [] (fun _ => fun u l' => ∃ g_, u = .slice (some ⟨g_, 0, none⟩) 1 1 ∧ ∃ c_, c_ = ro 2 grC (.slice (some ⟨g_, 0, none⟩) 1 1) [((hv_10, H_10), (qv_10, q_10))] ∧ l' = [c_]) 5), some (SPv [] (fun _ => fun u l' => ∃ v_, u = v_ ∧ ∃ c_, c_ = ro 2 grC v_ [((hv_10, H_10), (qv_10, q_10))] ∧ l' = [c_]) 6)] kr kr (dr (fun _ hx _ => (urc (fg9 F198) (cell_box (v := .slice none 0 0) ((S197.grow hx).ob 7 hc4_168) V))) (dr (fun _ hx _ => (urc (Sa (fg5 F198)) (cell_box (v := .pointer (some ⟨gs_10, 0, none⟩)) ((S197.grow hx).ob 1 hc155_168) V))) (dn t0 (df 0 t0 (dr (fun sx hx hF => (VR_ldP (ys := [hv_10, qv_10]) V t0 ((S197.grow hx).ob 2 hcB_168) (ldP_at V) Tryz.underlying30 V kr)) ?_))))))))))
 have hll200 : [((hv_10, H_10), (qv_10, q_10))].length = 1 := rfl
 refine D_lay (ts := []) (vs := []) (C0 := fun _ => fun u l' => ∃ g_, u = .slice (some ⟨g_, 0, none⟩) 1 1 ∧ ∃ c_, c_ = ro 2 grC (.slice (some ⟨g_, 0, none⟩) 1 1) [((hv_10, H_10), (qv_10, q_10))] ∧ l' = [c_]) (C := fun u l' => ∃ g_, u = .slice (some ⟨g_, 0, none⟩) 1 1 ∧ ∃ c_, c_ = ro 2 grC (.slice (some ⟨g_, 0, none⟩) 1 1) [((hv_10, H_10), (qv_10, q_10))] ∧ l' = [c_]) V V V V V V (fun sx hx hF => lay_lit (vs := [.agg #[hv_10, qv_10]]) 2 V (parts1 t0) V Tryz.underlying64 kr Zg (by intro v hv; simp only [List.mem_cons, List.not_mem_nil, or_false] at hv; rcases hv with rfl <;> rfl) Zi) (fun u200 l200 hu200 => ?_)
 obtain ⟨g200, rfl, c200, hc200, hl200⟩ := hu200
 refine D_lay (ts := []) (vs := []) (C0 := fun _ => fun u l' => ∃ v_, u = v_ ∧ ∃ c_, c_ = ro 2 grC v_ [((hv_10, H_10), (qv_10, q_10))] ∧ l' = [c_]) (C := fun u l' => ∃ v_, u = v_ ∧ ∃ c_, c_ = ro 2 grC v_ [((hv_10, H_10), (qv_10, q_10))] ∧ l' = [c_]) V V V V V V (fun sx hx hF => by obtain ⟨ll200, ws200, we200, ⟨g200q, hq200, c200_, hc200_, hl200_⟩, hm200, k200, e200⟩ := L.ancF_get hF kr; cases hq200; subst hl200_; exact lay_app0 (a := none) 2 V (es5 V (et V)) trivial (et V) Tryz.underlying64 Tryz.underlying64 (z := .agg #[.slice none 0 0, .slice none 0 0]) (bytes := 48) kr V Zg (ow_at ((k200.grow e200).cq 0 hc200_)) (by intro u hu; simp only [List.flatMap_cons, List.flatMap_nil, grC, List.append_nil, List.cons_append, List.nil_append, List.mem_cons, List.not_mem_nil, or_false] at hu; rcases hu with hu | hu <;> rw [hu] <;> first | exact SlN_one (sl_SlN (gl_oa m1 (S197.cq 3 hcK_168))) | exact SlN_one (sl_SlN (gl_ra m1 (S197.cq 3 hcK_168)))) Zd Zd) (fun u201 l201 hu201 => ?_)
 obtain ⟨v201, rfl, c201, hc201, hl201⟩ := hu201
 refine D_eff V (ZS_eff S197 V V (fun s202 hJ202 hL202 hF202 => ?_))
 obtain ⟨ll200, ws200, we200, ⟨g200q, hq200, c200r, hc200r, hl200r⟩, hm200, k200, e200⟩ := L.all_get (L.all_rest hF202); cases hq200; subst hl200r
 replace hJ202 := hJ202.add hL202 (i := 5) V hm200 k200 e200
 obtain ⟨ll201, ws201, we201, ⟨v201q, hq201, c201r, hc201r, hl201r⟩, hm201, k201, e201⟩ := L.all_get hF202; cases hq201; subst hl201r
 replace hJ202 := hJ202.add hL202 (i := 6) V hm201 k201 e201
 have S202 := hJ202.st; clear hF202 hJ202 hL202
 generalize s202.1 = w202 at *
 replace S202 : St w NoX [c201r, c200r, c197, c155_168, cB_168, cK_168, c157_168, c156_168, c5_168, c4_168, c3_168] w202 := S202
 refine xsC9 (zs' := #[u201]) S202 hc4_168 V V V (Sg (fg9 F198)) t0 (SlN_one (ow_at (S202.cq 0 hc201r))) (fun w203 c203 hc203 S203 => W_end (Qo_normal (en (Qg F198) fun A204 _ F204 => ?_)))
 have S205 := S203.se [0, 2, 3, 4, 5, 6, 7, 8, 9, 10] [c201r, c197, c155_168, cB_168, cK_168, c157_168, c156_168, c5_168, c203, c3_168]
 refine tk H199 (R_seq (fun _ H206 => R_seq (fun _ H207 => R_region kr (rL (.pointer (some ⟨gs_10, 0, none⟩)) (fg5 F204) (S205.ob 2 hc155_168) (vm (Sa (fg11 F204)) (rL (.func (.func 51) #[] #[.pointer (some ⟨g3, 0, none⟩)]) (Sb (fg0 F204)) (S205.ob 1 hc197) (wc (args3 (Sb t0) (Sa t0) t0) (kmtP_c (gs := gs_10) (gc := g3) (S205.roC h_lv)) (fun _ w208 ⟨g4_208, g3_208, g7_208, g5_208, e, hP208⟩ => ⟨_, e, ?_⟩))))))))
 obtain ⟨cb4_208, cb3_208, cb7_208, cb5_208, hcb4_208, hcb3_208, hcb7_208, hcb5_208, hP208⟩ := gen4 hP208
 have S208 := S205.j4 hP208
 refine W_end (Qo_normal (en (Ka (Qc F204)) fun A209 _ F209 => tk H207 (R_block ?_)))
 have hfull := fc_end hfc Zb
 have hasc := (fc_asc full (-1) os.length hfull).2
 have hfl := fc_len hfull
 obtain ⟨c210, hc210, S210⟩ := S208.pnil (s := 3)
 have S212 := S210.se [0, 8, 9, 1, 2, 3, 4, 5, 6, 7, 10, 11, 12, 13, 14] [c210, cB_168, cK_168, cb4_208, cb3_208, cb7_208, cb5_208, c201r, c197, c155_168, c157_168, c156_168, c5_168, c203, c3_168]
 obtain ⟨ct213, hct213, S213⟩ := genS (mT_shut (gs := gs_10) (T := 77) (n := (lgN C N Z K Q)) (G0 := ((hv_10, H_10), (qv_10, q_10))) (pre := []) (hcB_168) hcK_168 S212)
 replace S213 : St w NoX [c210, ct213, cb4_208, cb3_208, cb7_208, cb5_208, c201r, c197, c155_168, c157_168, c156_168, c5_168, c203, c3_168] w208 := S213
 have S214 := S213.se [0, 2, 3, 4, 5, 6, 7, 8, 9, 10, 11, 12, 13, 1] [c210, cb4_208, cb3_208, cb7_208, cb5_208, c201r, c197, c155_168, c157_168, c156_168, c5_168, c203, c3_168, ct213]
 refine R_rangeT (α := ME) (fg0 F209) (fun args w => calls_enter Tryz.func90 V V args w) (kmoP_it (gs := gs_10) (g3 := g3_208) (g4 := g4_208) (g5 := g5_208) (g7 := g7_208) (gc := g3) (G0 := ((hv_10, H_10), (qv_10, q_10))) (n := (lgN C N Z K Q)) (lv := lv) (os := os) (fv := fv) (full := full) (Rd := fun W => (bx g4_208 24 #[lv]).at W ∧ (rl 7 opC lv os).at W ∧ (bx g3_208 75 #[.pointer (some ⟨gs_10, 0, none⟩)]).at W ∧ (bx g7_208 78 #[.func (.func 38) #[.pointer (some ⟨gs_10, 0, none⟩)] #[]]).at W ∧ (bx g5_208 88 #[.func (.func 51) #[] #[.pointer (some ⟨g3, 0, none⟩)]]).at W ∧ (bx g3 25 #[fv]).at W ∧ (il .i64 fv full).at W) (fun _ h => h) hsm0 lg_rng hops hl2 hasc Zb) (fun _ => rfl) (fun pre => pk (fun l => ∃ (gv : Value) (av : Value), (fbd (rfP full) 0 (moP (lgN C N Z K Q) K os full) = fbd (rfP full) pre.length ((moP (lgN C N Z K Q) K os full).drop pre.length)) ∧ l = [ro 3 anC av (pre.map fun x : ME => x.2.1), bx g4_208 24 #[lv], bx g3_208 75 #[.pointer (some ⟨gs_10, 0, none⟩)], bx g7_208 78 #[.func (.func 38) #[.pointer (some ⟨gs_10, 0, none⟩)] #[]], bx g5_208 88 #[.func (.func 51) #[] #[.pointer (some ⟨g3, 0, none⟩)]], ro 2 grC gv (gsM ((hv_10, H_10), (qv_10, q_10)) pre), bx g196 88 #[.func (.func 51) #[] #[.pointer (some ⟨g3, 0, none⟩)]], bx g154 75 #[.pointer (some ⟨gs_10, 0, none⟩)], bx g7 32 #[.int .i64 0], bx g6 3 #[.int .i64 0], bx g5 31 #[av], bx g4 64 #[gv], bx g3 25 #[fv]])) (fun cQ pre => pk (fun l => (cQ = .ret ∧ ∃ (gv : Value) (gL : List GV) (av : Value) (aL : List AnC) (a : Int) (er : Int), (fbd (rfP full) 0 (moP (lgN C N Z K Q) K os full) = (a, er)) ∧ (er ≠ 0) ∧ l = [ro 3 anC av aL, bx g4_208 24 #[lv], bx g3_208 75 #[.pointer (some ⟨gs_10, 0, none⟩)], bx g7_208 78 #[.func (.func 38) #[.pointer (some ⟨gs_10, 0, none⟩)] #[]], bx g5_208 88 #[.func (.func 51) #[] #[.pointer (some ⟨g3, 0, none⟩)]], ro 2 grC gv gL, bx g196 88 #[.func (.func 51) #[] #[.pointer (some ⟨g3, 0, none⟩)]], bx g154 75 #[.pointer (some ⟨gs_10, 0, none⟩)], bx g7 32 #[.int .i64 (er)], bx g6 3 #[.int .i64 (a)], bx g5 31 #[.slice none 0 0], bx g4 64 #[.slice none 0 0], bx g3 25 #[fv]]))) (St.pack (l := [ro 3 anC (.slice none 0 0) ([].map fun x : ME => x.2.1), bx g4_208 24 #[lv], bx g3_208 75 #[.pointer (some ⟨gs_10, 0, none⟩)], bx g7_208 78 #[.func (.func 38) #[.pointer (some ⟨gs_10, 0, none⟩)] #[]], bx g5_208 88 #[.func (.func 51) #[] #[.pointer (some ⟨g3, 0, none⟩)]], ro 2 grC u201 (gsM ((hv_10, H_10), (qv_10, q_10)) []), bx g196 88 #[.func (.func 51) #[] #[.pointer (some ⟨g3, 0, none⟩)]], bx g154 75 #[.pointer (some ⟨gs_10, 0, none⟩)], bx g7 32 #[.int .i64 0], bx g6 3 #[.int .i64 0], bx g5 31 #[(.slice none 0 0)], bx g4 64 #[u201], bx g3 25 #[fv]]) (fr := (mT gs_10 77 (lgN C N Z K Q) ((hv_10, H_10), (qv_10, q_10)) [] :: [])) (by have q0 : c210 = ro 3 anC (.slice none 0 0) ([].map fun x : ME => x.2.1) := hc210; have q1 : cb4_208 = bx g4_208 24 #[lv] := hcb4_208; have q2 : cb3_208 = bx g3_208 75 #[.pointer (some ⟨gs_10, 0, none⟩)] := hcb3_208; have q3 : cb7_208 = bx g7_208 78 #[.func (.func 38) #[.pointer (some ⟨gs_10, 0, none⟩)] #[]] := hcb7_208; have q4 : cb5_208 = bx g5_208 88 #[.func (.func 51) #[] #[.pointer (some ⟨g3, 0, none⟩)]] := hcb5_208; have q5 : c201r = ro 2 grC u201 (gsM ((hv_10, H_10), (qv_10, q_10)) []) := hc201r; have q6 : c197 = bx g196 88 #[.func (.func 51) #[] #[.pointer (some ⟨g3, 0, none⟩)]] := hc197; have q7 : c155_168 = bx g154 75 #[.pointer (some ⟨gs_10, 0, none⟩)] := hc155_168; have q8 : c157_168 = bx g7 32 #[.int .i64 0] := hc157_168; have q9 : c156_168 = bx g6 3 #[.int .i64 0] := hc156_168; have q10 : c5_168 = bx g5 31 #[(.slice none 0 0)] := hc5_168; have q11 : c203 = bx g4 64 #[u201] := hc203; have q12 : c3_168 = bx g3 25 #[fv] := hc3_168; have q13 := hct213; subst q0 q1 q2 q3 q4 q5 q6 q7 q8 q9 q10 q11 q12 q13; exact S214) ⟨u201, (.slice none 0 0), rfl, rfl⟩)
  (fun pre W l' hS => by obtain ⟨l, ⟨gv, av, hz, rfl⟩, hl⟩ := pk_at (hS.ch 0 V); exact ⟨(hl 1 _ V), hS.ro h_lv, (hl 2 _ V), (hl 3 _ V), (hl 4 _ V), (hl 12 _ V), hS.ro h_fv⟩)
  (fun x a' cQ => ∃ g218 : Nat, SzN a' 81 ∧ a'.defers = [] ∧ EV a' (.tmp 6) = EV A209 (.tmp 6) ∧ EV a' (.tmp 7) = EV A209 (.tmp 7) ∧ EV a' (.tmp 8) = EV A209 (.tmp 8) ∧ EV a' (.tmp 9) = EV A209 (.tmp 9) ∧ EV a' (.tmp 10) = EV A209 (.tmp 10) ∧ EV a' (.tmp 14) = EV A209 (.tmp 14) ∧ EV a' (.tmp 15) = .int .i64 (x.1) ∧ EV a' (.tmp 16) = .pointer (some ⟨g218, 0, none⟩) ∧ cQ = pk (·= [bx g218 54 #[.int .i64 (x.2.1.e), .bool (x.2.1.t), .int .u64 (x.2.1.v)]])) ?_ ?_ ?_ ?_
 ·intro la211 pre x wa211 fr K hSa211 hK
  simp only [Ml.encM]
  rw [rnd2]
  obtain ⟨A215, E215⟩ : ∃ A, A = (PT (PT { tmps := A209.tmps, defers := [] } 57 (.int .i64 x.1)) 58 (.agg #[.int .i64 x.2.1.e, .bool x.2.1.t, .int .u64 x.2.1.v])) := ⟨_, rfl⟩
  rw [← E215]
  have Y215 := szq E215
  have hdf215 : A215.defers = [] := by rw [E215]; rfl
  have l6_215 := lookE E215 6 (Sb (rnd_l (fg10 F209)))
  have l7_215 := lookE E215 7 (Sb (rnd_l (fg9 F209)))
  have l8_215 := lookE E215 8 (Sb (rnd_l (fg8 F209)))
  have l9_215 := lookE E215 9 (Sb (rnd_l (fg7 F209)))
  have l10_215 := lookE E215 10 (Sb (rnd_l (fg6 F209)))
  have l14_215 := lookE E215 14 (Sb (rnd_l (fg1 F209)))
  have l57_215 := lookE E215 57 (Sa t0)
  have l58_215 := lookE E215 58 t0
  clear E215
  obtain ⟨cI, hcI, hSa211⟩ := gen1 hSa211
  refine R_seq (fun _ H216 => R_region kr (va l57_215 (W_end (Qo_normal (en (((((((((ck (FS.n hdf215) V V)).c (es V l6_215)).c (es V l7_215)).c (es V l8_215)).c (es V l9_215)).c (es V l10_215)).c (es V l14_215)).c (Sa l58_215)) fun A217 _ F217 => tk H216 (R_region kr (wA (#[.int .i64 0, .bool false, .int .u64 0]) hSa211 (fun g218 w218 c218 hc218 S218 => ?_))))))))
  replace S218 : St w NoX (c218 :: cI :: fr) w218 := S218
  refine xsA 0 S218 V hc218 V V V t0 (Sa (fg0 F217)) (fun w219 c219 hc219 S219 => ?_)
  replace S219 : St w NoX (c219 :: cI :: fr) w219 := S219
  refine W_end (Qo_normal (en (Ka F217) fun A220 Y220 F220 => then_n (hK _ _ _ ⟨g218, Y220, F220.d, ((fg7 F220).trans (fg10 F209).symm), ((fg6 F220).trans (fg9 F209).symm), ((fg5 F220).trans (fg8 F209).symm), ((fg4 F220).trans (fg7 F209).symm), ((fg3 F220).trans (fg6 F209).symm), ((fg2 F220).trans (fg1 F209).symm), (fg8 F220), (fg0 F220), rfl⟩ ?_)))
  subst hc219 hcI; exact S219.asg1
 ·rintro lb221 pre x A221 w221 cQ fr hAx hlr S221 hVd
  obtain ⟨g218, Y221, hdf221, u6_221, u7_221, u8_221, u9_221, u10_221, u14_221, l15_221, l16_221, rfl⟩ := hAx
  have l6_221 := u6_221.trans (fg10 F209)
  have l7_221 := u7_221.trans (fg9 F209)
  have l8_221 := u8_221.trans (fg8 F209)
  have l9_221 := u9_221.trans (fg7 F209)
  have l10_221 := u10_221.trans (fg6 F209)
  have l14_221 := u14_221.trans (fg1 F209)
  obtain ⟨_, _, ⟨gv, av, hz, rfl⟩, rfl, S221⟩ := S221.body2
  replace S221 : St w NoX ((ro 3 anC av (pre.map fun x : ME => x.2.1)) :: (bx g4_208 24 #[lv]) :: (bx g3_208 75 #[.pointer (some ⟨gs_10, 0, none⟩)]) :: (bx g7_208 78 #[.func (.func 38) #[.pointer (some ⟨gs_10, 0, none⟩)] #[]]) :: (bx g5_208 88 #[.func (.func 51) #[] #[.pointer (some ⟨g3, 0, none⟩)]]) :: (ro 2 grC gv (gsM ((hv_10, H_10), (qv_10, q_10)) pre)) :: (bx g196 88 #[.func (.func 51) #[] #[.pointer (some ⟨g3, 0, none⟩)]]) :: (bx g154 75 #[.pointer (some ⟨gs_10, 0, none⟩)]) :: (bx g7 32 #[.int .i64 0]) :: (bx g6 3 #[.int .i64 0]) :: (bx g5 31 #[av]) :: (bx g4 64 #[gv]) :: (bx g3 25 #[fv]) :: (bx g218 54 #[.int .i64 (x.2.1.e), .bool (x.2.1.t), .int .u64 (x.2.1.v)]) :: (mT gs_10 77 (lgN C N Z K Q) ((hv_10, H_10), (qv_10, q_10)) (pre ++ [x])) :: fr) w221 := S221
  obtain ⟨c210_222, cb4_222, cb3_222, cb7_222, cb5_222, c201r_222, c197_222, c155_222, c157_222, c156_222, c5_222, c203_222, c3_222, c219_222, ct_222, hc210_222, hcb4_222, hcb3_222, hcb7_222, hcb5_222, hc201r_222, hc197_222, hc155_222, hc157_222, hc156_222, hc5_222, hc203_222, hc3_222, hc219_222, hct_222, S221⟩ := gen15 S221
  have S223 : St w NoX (c210_222 :: ct_222 :: cb4_222 :: cb3_222 :: cb7_222 :: cb5_222 :: c201r_222 :: c197_222 :: c155_222 :: c157_222 :: c156_222 :: c5_222 :: c203_222 :: c3_222 :: c219_222 :: fr) w221 := St.selR (l := [c210_222, cb4_222, cb3_222, cb7_222, cb5_222, c201r_222, c197_222, c155_222, c157_222, c156_222, c5_222, c203_222, c3_222, c219_222, ct_222]) (l' := [c210_222, ct_222, cb4_222, cb3_222, cb7_222, cb5_222, c201r_222, c197_222, c155_222, c157_222, c156_222, c5_222, c203_222, c3_222, c219_222]) (fr := fr) S221 [0, 14, 1, 2, 3, 4, 5, 6, 7, 8, 9, 10, 11, 12, 13] Zg Zi V
  obtain ⟨cb224, ck224, hcb224, hck224, S224⟩ := mT_open (hct_222 ▸ S223)
  rw [lastG_app] at hcb224
  replace S224 : St w NoX (c210_222 :: cb224 :: ck224 :: cb4_222 :: cb3_222 :: cb7_222 :: cb5_222 :: c201r_222 :: c197_222 :: c155_222 :: c157_222 :: c156_222 :: c5_222 :: c203_222 :: c3_222 :: c219_222 :: fr) w221 := S224
  have hpl : pre.length + 1 ≤ os.length := by have := hVd.len; simpa using this
  have hgl : (gsM ((hv_10, H_10), (qv_10, q_10)) pre).length = pre.length + 1 := by simp [gsM]
  refine R_block (R_seq (fun _ H225 => R_seq (fun _ H226 => R_mid (G := fun A' w' => SzN A' 81 ∧ A'.defers = [] ∧ (EV A' (.tmp 6) = EV A221 (.tmp 6)) ∧ (EV A' (.tmp 7) = EV A221 (.tmp 7)) ∧ (EV A' (.tmp 8) = EV A221 (.tmp 8)) ∧ (EV A' (.tmp 9) = EV A221 (.tmp 9)) ∧ (EV A' (.tmp 10) = EV A221 (.tmp 10)) ∧ (EV A' (.tmp 15) = EV A221 (.tmp 15)) ∧ (EV A' (.tmp 16) = EV A221 (.tmp 16)) ∧ (EV A' (.tmp 66) = .bool (decide ((x.1 ∈ full) ∧ (x.2.1.e ≠ 5)))) ∧ St w NoX (c210_222 :: cb224 :: ck224 :: cb4_222 :: cb3_222 :: cb7_222 :: cb5_222 :: c201r_222 :: c197_222 :: c155_222 :: c157_222 :: c156_222 :: c5_222 :: c203_222 :: c3_222 :: c219_222 :: fr) w') ?_ ?_)))
  ·have j6_227 := l6_221
   have j7_227 := l7_221
   have j8_227 := l8_221
   have j9_227 := l9_221
   have j10_227 := l10_221
   have j15_227 := l15_221
   have j16_227 := l16_221
   refine R_region kr (rL (.func (.func 51) #[] #[.pointer (some ⟨g3, 0, none⟩)]) l14_221 (S224.ob 8 hc197_222) (vm (Sa l15_221) (W_callV V V V (Sa t0) Tryz.func51 kr V (args1 t0) (kp1_c (i := x.1) (gfv := g3) (S224.cC 14 hc3_222) (S224.roC h_fv) Ze Zf) (fun _ w228 ⟨e, hP228⟩ => ⟨_, e, ?_⟩))))
   have S228 := S224.join hP228
   replace S228 : St w NoX (c210_222 :: cb224 :: ck224 :: cb4_222 :: cb3_222 :: cb7_222 :: cb5_222 :: c201r_222 :: c197_222 :: c155_222 :: c157_222 :: c156_222 :: c5_222 :: c203_222 :: c3_222 :: c219_222 :: fr) w228 := S228
   refine W_split V V (V_mov V t0) (fun c229 => ?_) (fun c229 => ?_)
   ·refine wg V t0 (ufa 0 (Sd l16_221)) (wq V (Sa t0) (urL (.int .i64 (x.2.1.e)) t0 (S228.ob 15 hc219_222)) (wg V (Sb t0) (uvn t0 V) (vT (Sc t0) t0 (W_end (Qo_normal (en (((((((((ck (cq7 (FS.n hdf221) V) V V)).c (es8 V l6_221)).c (es8 V l7_221)).c (es8 V l8_221)).c (es8 V l9_221)).c (es8 V l10_221)).c (es8 V l15_221)).c (Sh l16_221)) fun A230 Y230 F230 => ?_))))))
    exact Mid_n ⟨Y230, F230.d, ((fg6 F230).trans j6_227.symm), ((fg5 F230).trans j7_227.symm), ((fg4 F230).trans j8_227.symm), ((fg3 F230).trans j9_227.symm), ((fg2 F230).trans j10_227.symm), ((fg1 F230).trans j15_227.symm), ((fg0 F230).trans j16_227.symm), ((fg7 F230).trans (congrArg Value.bool (decide_eq_decide.2 ⟨fun q => ⟨c229, q⟩, fun q => q.2⟩))), S228⟩
   refine xo V t0 (xo V (Sa t0) (xo V (Sb t0) (vF (Sc t0) V (W_end (Qo_normal (en (((((((((ck (cq7 (FS.n hdf221) V) V V)).c (es8 V l6_221)).c (es8 V l7_221)).c (es8 V l8_221)).c (es8 V l9_221)).c (es8 V l10_221)).c (es8 V l15_221)).c (Sh l16_221)) fun A231 Y231 F231 => ?_))))))
   exact Mid_n ⟨Y231, F231.d, ((fg6 F231).trans j6_227.symm), ((fg5 F231).trans j7_227.symm), ((fg4 F231).trans j8_227.symm), ((fg3 F231).trans j9_227.symm), ((fg2 F231).trans j10_227.symm), ((fg1 F231).trans j15_227.symm), ((fg0 F231).trans j16_227.symm), ((fg7 F231).trans (congrArg Value.bool ((decide_eq_false (fun q => c229 q.1)).symm))), S228⟩
  rintro A227 w227 ⟨Y227, hdf227, u6_227, u7_227, u8_227, u9_227, u10_227, u15_227, u16_227, l66_227, S227⟩
  have l6_227 := u6_227.trans l6_221
  have l7_227 := u7_227.trans l7_221
  have l8_227 := u8_227.trans l8_221
  have l9_227 := u9_227.trans l9_221
  have l10_227 := u10_227.trans l10_221
  have l15_227 := u15_227.trans l15_221
  have l16_227 := u16_227.trans l16_221
  refine tk H226 (R_cond_dec l66_227 (fun c232 => ?_) (fun c232 => ?_))
  ·refine R_seq (fun _ H233 => R_region kr (vm l15_227 (xsC (zs' := #[.slice none 0 0]) 13 S227 V hc203_222 V V V (Sa l6_227) V Zi (fun w234 c234 hc234 S234 => ?_))))
   replace S234 : St w NoX (c210_222 :: cb224 :: ck224 :: cb4_222 :: cb3_222 :: cb7_222 :: cb5_222 :: c201r_222 :: c197_222 :: c155_222 :: c157_222 :: c156_222 :: c5_222 :: c234 :: c3_222 :: c219_222 :: fr) w234 := S234
   refine xsC (zs' := #[.slice none 0 0]) 12 S234 V hc5_222 V V V (Sa l7_227) V Zi (fun w235 c235 hc235 S235 => ?_)
   replace S235 : St w NoX (c210_222 :: cb224 :: ck224 :: cb4_222 :: cb3_222 :: cb7_222 :: cb5_222 :: c201r_222 :: c197_222 :: c155_222 :: c157_222 :: c156_222 :: c235 :: c234 :: c3_222 :: c219_222 :: fr) w235 := S235
   refine xsC (zs' := #[.int .i64 (x.1)]) 11 S235 V hc156_222 V V V (Sa l8_227) t0 Zi (fun w236 c236 hc236 S236 => ?_)
   replace S236 : St w NoX (c210_222 :: cb224 :: ck224 :: cb4_222 :: cb3_222 :: cb7_222 :: cb5_222 :: c201r_222 :: c197_222 :: c155_222 :: c157_222 :: c236 :: c235 :: c234 :: c3_222 :: c219_222 :: fr) w236 := S236
   refine xsC (zs' := #[.int .i64 2]) 10 S236 V hc157_222 V V V (Sa l9_227) V Zi (fun w237 c237 hc237 S237 => ?_)
   replace S237 : St w NoX (c210_222 :: cb224 :: ck224 :: cb4_222 :: cb3_222 :: cb7_222 :: cb5_222 :: c201r_222 :: c197_222 :: c155_222 :: c237 :: c236 :: c235 :: c234 :: c3_222 :: c219_222 :: fr) w237 := S237
   refine W_end (Qo_normal (en ((((((cq1 (FS.n hdf227) V)).c (es V l6_227)).c (es V l7_227)).c (es V l8_227)).c (Sa l9_227)) fun A238 _ F238 => ?_))
   have S240 := S237.del 15
   replace S240 : St w NoX (c210_222 :: cb224 :: ck224 :: cb4_222 :: cb3_222 :: cb7_222 :: cb5_222 :: c201r_222 :: c197_222 :: c155_222 :: c237 :: c236 :: c235 :: c234 :: c3_222 :: fr) w237 := S240
   refine tk H233 (R_ret (then_ret (inb_ret ?_)))
   obtain ⟨ct241, hct241, S241⟩ := genS (mT_shut (gs := gs_10) (T := 77) (n := (lgN C N Z K Q)) (G0 := ((hv_10, H_10), (qv_10, q_10))) (pre := (pre ++ [x])) (hcb224.trans (by rw [lastG_app])) hck224 S240)
   replace S241 : St w NoX (c210_222 :: ct241 :: cb4_222 :: cb3_222 :: cb7_222 :: cb5_222 :: c201r_222 :: c197_222 :: c155_222 :: c237 :: c236 :: c235 :: c234 :: c3_222 :: fr) w237 := S241
   have S242 : St w NoX (c210_222 :: cb4_222 :: cb3_222 :: cb7_222 :: cb5_222 :: c201r_222 :: c197_222 :: c155_222 :: c237 :: c236 :: c235 :: c234 :: c3_222 :: ct241 :: fr) w237 := St.selR (l := [c210_222, ct241, cb4_222, cb3_222, cb7_222, cb5_222, c201r_222, c197_222, c155_222, c237, c236, c235, c234, c3_222]) (l' := [c210_222, cb4_222, cb3_222, cb7_222, cb5_222, c201r_222, c197_222, c155_222, c237, c236, c235, c234, c3_222, ct241]) (fr := fr) S241 [0, 2, 3, 4, 5, 6, 7, 8, 9, 10, 11, 12, 13, 1] Zg Zi V
   exact (St.pack (l := [ro 3 anC av (pre.map fun x : ME => x.2.1), bx g4_208 24 #[lv], bx g3_208 75 #[.pointer (some ⟨gs_10, 0, none⟩)], bx g7_208 78 #[.func (.func 38) #[.pointer (some ⟨gs_10, 0, none⟩)] #[]], bx g5_208 88 #[.func (.func 51) #[] #[.pointer (some ⟨g3, 0, none⟩)]], ro 2 grC gv (gsM ((hv_10, H_10), (qv_10, q_10)) pre), bx g196 88 #[.func (.func 51) #[] #[.pointer (some ⟨g3, 0, none⟩)]], bx g154 75 #[.pointer (some ⟨gs_10, 0, none⟩)], bx g7 32 #[.int .i64 (2)], bx g6 3 #[.int .i64 (x.1)], bx g5 31 #[.slice none 0 0], bx g4 64 #[.slice none 0 0], bx g3 25 #[fv]]) (fr := (mT gs_10 77 (lgN C N Z K Q) ((hv_10, H_10), (qv_10, q_10)) (pre ++ [x]) :: fr)) (by have q0 : c210_222 = ro 3 anC av (pre.map fun x : ME => x.2.1) := hc210_222; have q1 : cb4_222 = bx g4_208 24 #[lv] := hcb4_222; have q2 : cb3_222 = bx g3_208 75 #[.pointer (some ⟨gs_10, 0, none⟩)] := hcb3_222; have q3 : cb7_222 = bx g7_208 78 #[.func (.func 38) #[.pointer (some ⟨gs_10, 0, none⟩)] #[]] := hcb7_222; have q4 : cb5_222 = bx g5_208 88 #[.func (.func 51) #[] #[.pointer (some ⟨g3, 0, none⟩)]] := hcb5_222; have q5 : c201r_222 = ro 2 grC gv (gsM ((hv_10, H_10), (qv_10, q_10)) pre) := hc201r_222; have q6 : c197_222 = bx g196 88 #[.func (.func 51) #[] #[.pointer (some ⟨g3, 0, none⟩)]] := hc197_222; have q7 : c155_222 = bx g154 75 #[.pointer (some ⟨gs_10, 0, none⟩)] := hc155_222; have q8 : c237 = bx g7 32 #[.int .i64 (2)] := hc237; have q9 : c236 = bx g6 3 #[.int .i64 (x.1)] := hc236; have q10 : c235 = bx g5 31 #[.slice none 0 0] := hc235; have q11 : c234 = bx g4 64 #[.slice none 0 0] := hc234; have q12 : c3_222 = bx g3 25 #[fv] := hc3_222; have q13 := hct241; subst q0 q1 q2 q3 q4 q5 q6 q7 q8 q9 q10 q11 q12 q13; exact S242) (⟨rfl, gv, (gsM ((hv_10, H_10), (qv_10, q_10)) pre), av, (pre.map fun x : ME => x.2.1), x.1, 2, (pl_bad hgK hVd hz c232.1 c232.2), Zg, rfl⟩))
  refine R_skip (tk H225 ?_)
  have hll243 : [x.2.2].length = 1 := rfl
  have hll245 : [(AnC.mk x.2.1.e x.2.1.t x.2.1.v)].length = 1 := rfl
  refine R_any kr kr 13 V (fun w363 hx363 => ?_)
  have S363 := S227.grow hx363
  have S363 := pkR (l := [c210_222, cb224, ck224, cb4_222, cb3_222, cb7_222, cb5_222, c201r_222, c197_222, c155_222, c157_222, c156_222, c5_222, c203_222, c3_222, c219_222]) (fr := fr) S363
  refine AX_parL (l0 := [c210_222, cb224, ck224, cb4_222, cb3_222, cb7_222, cb5_222, c201r_222, c197_222, c155_222, c157_222, c156_222, c5_222, c203_222, c3_222, c219_222, pk (·= fr)]) (k := 2) [⟨[13], [], [68], fun vs => [], fun vs => (vs.getD 0 undef) = gv⟩, ⟨[9], [], [69], fun vs => [], fun vs => (vs.getD 0 undef) = .pointer (some ⟨gs_10, 0, none⟩)⟩, ⟨[], [], [70], fun vs => [], fun vs => (vs.getD 0 undef) = .pointer (some ⟨gs_10, 0, none⟩)⟩, ⟨[], [], [71], fun vs => [], fun vs => (vs.getD 0 undef) = .pointer (some ⟨gs_10, 0, none⟩)⟩, ⟨[1], [], [72], fun vs => [], fun vs => (vs.getD 0 undef) = .agg #[x.2.2.1.1, x.2.2.2.1]⟩, ⟨[], [17], [73], fun vs => [ro 2 grC (vs.getD 0 undef) [x.2.2]], fun vs => True⟩, ⟨[17, 2], [7], [74], fun vs => [ro 2 grC (vs.getD 0 undef) ((gsM ((hv_10, H_10), (qv_10, q_10)) pre) ++ [x.2.2])], fun vs => True⟩, ⟨[12], [], [75], fun vs => [], fun vs => (vs.getD 0 undef) = av⟩, ⟨[15], [], [76], fun vs => [], fun vs => (vs.getD 0 undef) = .agg #[.int .i64 (x.2.1.e), .bool (x.2.1.t), .int .u64 (x.2.1.v)]⟩, ⟨[], [18], [77], fun vs => [ro 3 anC (vs.getD 0 undef) [(AnC.mk x.2.1.e x.2.1.t x.2.1.v)]], fun vs => True⟩, ⟨[18], [0], [78], fun vs => [ro 3 anC (vs.getD 0 undef) ((pre.map fun x : ME => x.2.1) ++ [(AnC.mk x.2.1.e x.2.1.t x.2.1.v)])], fun vs => True⟩, ⟨[7], [13], [74], fun vs => [bx g4 64 #[(vs.getD 0 undef)]], fun vs => True⟩, ⟨[0], [12], [78], fun vs => [bx g5 31 #[(vs.getD 0 undef)]], fun vs => True⟩] [c210_222, cb224, ck224, cb4_222, cb3_222, cb7_222, cb5_222, c201r_222, c197_222, c155_222, c157_222, c156_222, c5_222, c203_222, c3_222, c219_222, pk (·= fr), pu True, pu True] S363 V kr V ⟨?_, ?_, ?_, ?_, ?_, ?_, ?_, ?_, ?_, ?_, ?_, ?_, ?_, trivial⟩ ?_
  ·refine stepI [] (fun vs => [c203_222]) V (fun a => by kernel_rfl) ?_
   intro A364 w364 rst hFr hF S364
   replace S364 : St w NoX [c203_222, rst] w364 := S364
   have Y364 : SzN A364 81 := ⟨hFr.sz.trans Y227.out⟩
   have hdf364 : A364.defers = [] := hFr.df.trans hdf227
   have l6_364 := (oldS hFr 6 kr).trans l6_227
   obtain ⟨c203_364, hc203_364, S364⟩ := gen1 S364
   replace hc203_364 := hc203_364.trans hc203_222
   refine rL gv l6_364 (S364.ob 0 hc203_364) (W_end (kq _ ?_))
   exact ⟨_, [gv], rfl, ts1 (et V), rfl, rfl, by subst hc203_364 hc203_222; exact S364⟩
  ·refine stepI [] (fun vs => [c155_222]) V (fun a => by kernel_rfl) ?_
   intro A365 w365 rst hFr hF S365
   replace S365 : St w NoX [c155_222, rst] w365 := S365
   have Y365 : SzN A365 81 := ⟨hFr.sz.trans Y227.out⟩
   have hdf365 : A365.defers = [] := hFr.df.trans hdf227
   have l10_365 := (oldS hFr 10 kr).trans l10_227
   obtain ⟨c155_365, hc155_365, S365⟩ := gen1 S365
   replace hc155_365 := hc155_365.trans hc155_222
   refine rL (.pointer (some ⟨gs_10, 0, none⟩)) l10_365 (S365.ob 0 hc155_365) (W_end (kq _ ?_))
   exact ⟨_, [.pointer (some ⟨gs_10, 0, none⟩)], rfl, ts1 (et V), rfl, rfl, by subst hc155_365 hc155_222; exact S365⟩
  ·refine stepI [] (fun vs => []) V (fun a => by kernel_rfl) ?_
   intro A366 w366 rst hFr hF S366
   replace S366 : St w NoX [rst] w366 := S366
   have f69_366 : EV A366 (.tmp 69) = .pointer (some ⟨gs_10, 0, none⟩) := hF 1 kr
   generalize q69_366 : EV A366 (.tmp 69) = us69 at S366 f69_366
   have l69_366 := q69_366.trans f69_366
   have Y366 : SzN A366 81 := ⟨hFr.sz.trans Y227.out⟩
   have hdf366 : A366.defers = [] := hFr.df.trans hdf227
   refine ni l69_366 (W_end (kq _ ?_))
   subst q69_366
   exact ⟨_, [.pointer (some ⟨gs_10, 0, none⟩)], rfl, ts1 (et V), rfl, rfl, S366⟩
  ·refine stepI [] (fun vs => []) V (fun a => by kernel_rfl) ?_
   intro A367 w367 rst hFr hF S367
   replace S367 : St w NoX [rst] w367 := S367
   have f70_367 : EV A367 (.tmp 70) = .pointer (some ⟨gs_10, 0, none⟩) := hF 2 kr
   generalize q70_367 : EV A367 (.tmp 70) = us70 at S367 f70_367
   have l70_367 := q70_367.trans f70_367
   have Y367 : SzN A367 81 := ⟨hFr.sz.trans Y227.out⟩
   have hdf367 : A367.defers = [] := hFr.df.trans hdf227
   refine fa 0 l70_367 (W_end (kq _ ?_))
   subst q70_367
   exact ⟨_, [.pointer (some ⟨gs_10, 0, none⟩)], rfl, ts1 (et V), rfl, rfl, S367⟩
  ·refine stepI [] (fun vs => [cb224]) V (fun a => by kernel_rfl) ?_
   intro A368 w368 rst hFr hF S368
   replace S368 : St w NoX [cb224, rst] w368 := S368
   have f71_368 : EV A368 (.tmp 71) = .pointer (some ⟨gs_10, 0, none⟩) := hF 3 kr
   generalize q71_368 : EV A368 (.tmp 71) = us71 at S368 f71_368
   have l71_368 := q71_368.trans f71_368
   have Y368 : SzN A368 81 := ⟨hFr.sz.trans Y227.out⟩
   have hdf368 : A368.defers = [] := hFr.df.trans hdf227
   obtain ⟨cb224_368, hcb224_368, S368⟩ := gen1 S368
   replace hcb224_368 := hcb224_368.trans hcb224
   refine wr (VR_ldP (ys := [x.2.2.1.1, x.2.2.2.1]) V l71_368 (S368.ob 0 hcb224_368) (ldP_at V) Tryz.underlying30 V kr) (W_end (kq _ ?_))
   subst q71_368
   exact ⟨_, [.agg #[x.2.2.1.1, x.2.2.2.1]], rfl, ts1 (et V), rfl, rfl, by subst hcb224_368 hcb224; exact S368⟩
  ·refine stepI [] (fun vs => [pu True]) V (fun a => by kernel_rfl) ?_
   intro A369 w369 rst hFr hF S369
   replace S369 : St w NoX [pu True, rst] w369 := S369
   have f72_369 : EV A369 (.tmp 72) = .agg #[x.2.2.1.1, x.2.2.2.1] := hF 4 kr
   generalize q72_369 : EV A369 (.tmp 72) = us72 at S369 f72_369
   have l72_369 := q72_369.trans f72_369
   have Y369 : SzN A369 81 := ⟨hFr.sz.trans Y227.out⟩
   have hdf369 : A369.defers = [] := hFr.df.trans hdf227
   obtain ⟨cz_369, hcz_369, S369⟩ := gen1 S369
   have hll370 : [x.2.2].length = 1 := rfl
   refine xsL (vs := [.agg #[x.2.2.1.1, x.2.2.2.1]]) (xs := ([x.2.2].flatMap grC)) 2 S369 V V V (parts1 l72_369) Tryz.underlying64 (fun g370 w370 c370 hc370 S370 => ?_)
   replace hc370 : c370 = ro 2 grC (.slice (some ⟨g370, 0, none⟩) 1 1) [x.2.2] := hc370
   replace S370 : St w NoX (c370 :: cz_369 :: [rst]) w370 := S370
   refine W_end (kq _ ?_)
   have S372 := S370.del 1
   replace S372 : St w NoX (c370 :: [rst]) w370 := S372
   subst q72_369
   exact ⟨_, [(.slice (some ⟨g370, 0, none⟩) 1 1)], rfl, ts1 (et V), trivial, rfl, by subst hc370; exact S372⟩
  ·refine stepI [73] (fun vs => [ro 2 grC (vs.getD 0 undef) [x.2.2], ck224, c201r_222]) V (fun a => by kernel_rfl) ?_
   intro A373 w373 rst hFr hF S373
   replace S373 : St w NoX [ro 2 grC (EV A373 (.tmp 73)) [x.2.2], ck224, c201r_222, rst] w373 := S373
   have f68_373 : EV A373 (.tmp 68) = gv := hF 0 kr
   generalize q68_373 : EV A373 (.tmp 68) = us68 at S373 f68_373
   generalize q73_373 : EV A373 (.tmp 73) = us73 at S373 f68_373
   have l68_373 := q68_373.trans f68_373
   have l73_373 := q73_373
   have Y373 : SzN A373 81 := ⟨hFr.sz.trans Y227.out⟩
   have hdf373 : A373.defers = [] := hFr.df.trans hdf227
   obtain ⟨c303_373, ck224_373, c201r_373, hc303_373, hck224_373, hc201r_373, S373⟩ := gen3 S373
   replace hck224_373 := hck224_373.trans hck224
   replace hc201r_373 := hc201r_373.trans hc201r_222
   refine W_appS 2 2 S373 V hc201r_373 V V V l68_373 l73_373 Tryz.underlying64 Tryz.underlying64 (z := .agg #[.slice none 0 0, .slice none 0 0]) (bytes := 48) kr V Zg (ow_at (S373.cq 0 hc303_373)) (by intro u hu; simp only [List.flatMap_cons, List.flatMap_nil, grC, List.append_nil, List.cons_append, List.nil_append, List.mem_cons, List.not_mem_nil, or_false] at hu; rcases hu with hu | hu <;> rw [hu] <;> first | exact SlN_one (sl_SlN (gl_oa gsM_last (S373.cq 1 hck224_373))) | exact SlN_one (sl_SlN (gl_ra gsM_last (S373.cq 1 hck224_373)))) Zd Zd (fun v374 w374 c374 hc374 S374 => ?_)
   replace hc374 : c374 = ro 2 grC v374 ((gsM ((hv_10, H_10), (qv_10, q_10)) pre) ++ [x.2.2]) := hc374.trans (app_eqR Zc)
   replace S374 : St w NoX (c303_373 :: ck224_373 :: c374 :: [rst]) w374 := S374
   refine W_end (kq _ ?_)
   subst q68_373 q73_373
   exact ⟨_, [v374], rfl, ts1 (et V), trivial, rfl, by subst hc303_373 hck224_373 hc374 hck224 hc201r_222; exact S374⟩
  ·refine stepI [] (fun vs => [c5_222]) V (fun a => by kernel_rfl) ?_
   intro A375 w375 rst hFr hF S375
   replace S375 : St w NoX [c5_222, rst] w375 := S375
   have Y375 : SzN A375 81 := ⟨hFr.sz.trans Y227.out⟩
   have hdf375 : A375.defers = [] := hFr.df.trans hdf227
   have l7_375 := (oldS hFr 7 kr).trans l7_227
   obtain ⟨c5_375, hc5_375, S375⟩ := gen1 S375
   replace hc5_375 := hc5_375.trans hc5_222
   refine rL av l7_375 (S375.ob 0 hc5_375) (W_end (kq _ ?_))
   exact ⟨_, [av], rfl, ts1 (et V), rfl, rfl, by subst hc5_375 hc5_222; exact S375⟩
  ·refine stepI [] (fun vs => [c219_222]) V (fun a => by kernel_rfl) ?_
   intro A376 w376 rst hFr hF S376
   replace S376 : St w NoX [c219_222, rst] w376 := S376
   have Y376 : SzN A376 81 := ⟨hFr.sz.trans Y227.out⟩
   have hdf376 : A376.defers = [] := hFr.df.trans hdf227
   have l16_376 := (oldS hFr 16 kr).trans l16_227
   obtain ⟨c219_376, hc219_376, S376⟩ := gen1 S376
   replace hc219_376 := hc219_376.trans hc219_222
   refine ra l16_376 (S376.ob 0 hc219_376) (W_end (kq _ ?_))
   exact ⟨_, [.agg #[.int .i64 (x.2.1.e), .bool (x.2.1.t), .int .u64 (x.2.1.v)]], rfl, ts1 (et V), rfl, rfl, by subst hc219_376 hc219_222; exact S376⟩
  ·refine stepI [] (fun vs => [pu True]) V (fun a => by kernel_rfl) ?_
   intro A377 w377 rst hFr hF S377
   replace S377 : St w NoX [pu True, rst] w377 := S377
   have f76_377 : EV A377 (.tmp 76) = .agg #[.int .i64 (x.2.1.e), .bool (x.2.1.t), .int .u64 (x.2.1.v)] := hF 8 kr
   generalize q76_377 : EV A377 (.tmp 76) = us76 at S377 f76_377
   have l76_377 := q76_377.trans f76_377
   have Y377 : SzN A377 81 := ⟨hFr.sz.trans Y227.out⟩
   have hdf377 : A377.defers = [] := hFr.df.trans hdf227
   obtain ⟨cz_377, hcz_377, S377⟩ := gen1 S377
   have hll378 : [(AnC.mk x.2.1.e x.2.1.t x.2.1.v)].length = 1 := rfl
   refine xsL (vs := [.agg #[.int .i64 (x.2.1.e), .bool (x.2.1.t), .int .u64 (x.2.1.v)]]) (xs := ([(AnC.mk x.2.1.e x.2.1.t x.2.1.v)].flatMap anC)) 3 S377 V V V (parts1 l76_377) Tryz.underlying31 (fun g378 w378 c378 hc378 S378 => ?_)
   replace hc378 : c378 = ro 3 anC (.slice (some ⟨g378, 0, none⟩) 1 1) [(AnC.mk x.2.1.e x.2.1.t x.2.1.v)] := hc378
   replace S378 : St w NoX (c378 :: cz_377 :: [rst]) w378 := S378
   refine W_end (kq _ ?_)
   have S380 := S378.del 1
   replace S380 : St w NoX (c378 :: [rst]) w378 := S380
   subst q76_377
   exact ⟨_, [(.slice (some ⟨g378, 0, none⟩) 1 1)], rfl, ts1 (et V), trivial, rfl, by subst hc378; exact S380⟩
  ·refine stepI [77] (fun vs => [ro 3 anC (vs.getD 0 undef) [(AnC.mk x.2.1.e x.2.1.t x.2.1.v)], c210_222]) V (fun a => by kernel_rfl) ?_
   intro A381 w381 rst hFr hF S381
   replace S381 : St w NoX [ro 3 anC (EV A381 (.tmp 77)) [(AnC.mk x.2.1.e x.2.1.t x.2.1.v)], c210_222, rst] w381 := S381
   have f75_381 : EV A381 (.tmp 75) = av := hF 7 kr
   generalize q75_381 : EV A381 (.tmp 75) = us75 at S381 f75_381
   generalize q77_381 : EV A381 (.tmp 77) = us77 at S381 f75_381
   have l75_381 := q75_381.trans f75_381
   have l77_381 := q77_381
   have Y381 : SzN A381 81 := ⟨hFr.sz.trans Y227.out⟩
   have hdf381 : A381.defers = [] := hFr.df.trans hdf227
   obtain ⟨c305_381, c210_381, hc305_381, hc210_381, S381⟩ := gen2 S381
   replace hc210_381 := hc210_381.trans hc210_222
   refine W_appS 3 1 S381 V hc210_381 V V V l75_381 l77_381 Tryz.underlying31 Tryz.underlying31 (z := .agg #[.int .i64 0, .bool false, .int .u64 0]) (bytes := 24) kr V Zg (ow_at (S381.cq 0 hc305_381)) (ones_r anC_one) Zd Zd (fun v382 w382 c382 hc382 S382 => ?_)
   replace hc382 : c382 = ro 3 anC v382 ((pre.map fun x : ME => x.2.1) ++ [(AnC.mk x.2.1.e x.2.1.t x.2.1.v)]) := hc382.trans (app_eqR Zc)
   replace S382 : St w NoX (c305_381 :: c382 :: [rst]) w382 := S382
   refine W_end (kq _ ?_)
   subst q75_381 q77_381
   exact ⟨_, [v382], rfl, ts1 (et V), trivial, rfl, by subst hc305_381 hc382 hc210_222; exact S382⟩
  ·refine stepI [74] (fun vs => [ro 2 grC (vs.getD 0 undef) ((gsM ((hv_10, H_10), (qv_10, q_10)) pre) ++ [x.2.2]), c203_222]) V (fun a => by kernel_rfl) ?_
   intro A383 w383 rst hFr hF S383
   replace S383 : St w NoX [ro 2 grC (EV A383 (.tmp 74)) ((gsM ((hv_10, H_10), (qv_10, q_10)) pre) ++ [x.2.2]), c203_222, rst] w383 := S383
   generalize q74_383 : EV A383 (.tmp 74) = us74 at S383
   have l74_383 := q74_383
   have Y383 : SzN A383 81 := ⟨hFr.sz.trans Y227.out⟩
   have hdf383 : A383.defers = [] := hFr.df.trans hdf227
   have l6_383 := (oldS hFr 6 kr).trans l6_227
   obtain ⟨c304_383, c203_383, hc304_383, hc203_383, S383⟩ := gen2 S383
   replace hc203_383 := hc203_383.trans hc203_222
   refine xsC (zs' := #[us74]) 1 S383 V hc203_383 V V V l6_383 l74_383 (SlN_one (ow_at (S383.cq 0 hc304_383))) (fun w384 c384 hc384 S384 => ?_)
   replace S384 : St w NoX (c304_383 :: c384 :: [rst]) w384 := S384
   refine W_end (kq _ ?_)
   subst q74_383
   exact ⟨undef, [EV A383 (.tmp 74)], rfl, ts1 rfl, trivial, rfl, by subst hc304_383 hc384 hc203_222; exact S384⟩
  ·refine stepI [78] (fun vs => [ro 3 anC (vs.getD 0 undef) ((pre.map fun x : ME => x.2.1) ++ [(AnC.mk x.2.1.e x.2.1.t x.2.1.v)]), c5_222]) V (fun a => by kernel_rfl) ?_
   intro A385 w385 rst hFr hF S385
   replace S385 : St w NoX [ro 3 anC (EV A385 (.tmp 78)) ((pre.map fun x : ME => x.2.1) ++ [(AnC.mk x.2.1.e x.2.1.t x.2.1.v)]), c5_222, rst] w385 := S385
   generalize q78_385 : EV A385 (.tmp 78) = us78 at S385
   have l78_385 := q78_385
   have Y385 : SzN A385 81 := ⟨hFr.sz.trans Y227.out⟩
   have hdf385 : A385.defers = [] := hFr.df.trans hdf227
   have l7_385 := (oldS hFr 7 kr).trans l7_227
   obtain ⟨c306_385, c5_385, hc306_385, hc5_385, S385⟩ := gen2 S385
   replace hc5_385 := hc5_385.trans hc5_222
   refine xsC (zs' := #[us78]) 1 S385 V hc5_385 V V V l7_385 l78_385 (SlN_one (ow_at (S385.cq 0 hc306_385))) (fun w386 c386 hc386 S386 => ?_)
   replace S386 : St w NoX (c306_385 :: c386 :: [rst]) w386 := S386
   refine W_end (kq _ ?_)
   subst q78_385
   exact ⟨undef, [EV A385 (.tmp 78)], rfl, ts1 rfl, trivial, rfl, by subst hc306_385 hc386 hc5_222; exact S386⟩
  intro A387 w387 hFr hF S387
  replace S387 : St w NoX [ro 3 anC (EV A387 (.tmp 78)) ((pre.map fun x : ME => x.2.1) ++ [(AnC.mk x.2.1.e x.2.1.t x.2.1.v)]), cb224, ck224, cb4_222, cb3_222, cb7_222, cb5_222, ro 2 grC (EV A387 (.tmp 74)) ((gsM ((hv_10, H_10), (qv_10, q_10)) pre) ++ [x.2.2]), c197_222, c155_222, c157_222, c156_222, bx g5 31 #[(EV A387 (.tmp 78))], bx g4 64 #[(EV A387 (.tmp 74))], c3_222, c219_222, pk (·= fr), ro 2 grC (EV A387 (.tmp 73)) [x.2.2], ro 3 anC (EV A387 (.tmp 77)) [(AnC.mk x.2.1.e x.2.1.t x.2.1.v)]] w387 := S387.cast kr
  generalize q78_387 : EV A387 (.tmp 78) = us78 at S387
  generalize q74_387 : EV A387 (.tmp 74) = us74 at S387
  generalize q73_387 : EV A387 (.tmp 73) = us73 at S387
  generalize q77_387 : EV A387 (.tmp 77) = us77 at S387
  have l78_387 := q78_387
  have l74_387 := q74_387
  have l73_387 := q73_387
  have l77_387 := q77_387
  have Y387 : SzN A387 81 := ⟨hFr.sz.trans Y227.out⟩
  have hdf387 : A387.defers = [] := hFr.df.trans hdf227
  have S387 := unpkR (l := [ro 3 anC us78 ((pre.map fun x : ME => x.2.1) ++ [(AnC.mk x.2.1.e x.2.1.t x.2.1.v)]), cb224, ck224, cb4_222, cb3_222, cb7_222, cb5_222, ro 2 grC us74 ((gsM ((hv_10, H_10), (qv_10, q_10)) pre) ++ [x.2.2]), c197_222, c155_222, c157_222, c156_222, bx g5 31 #[us78], bx g4 64 #[us74], c3_222, c219_222, ro 2 grC us73 [x.2.2], ro 3 anC us77 [(AnC.mk x.2.1.e x.2.1.t x.2.1.v)]]) (fr := fr) (S387.sel [0, 1, 2, 3, 4, 5, 6, 7, 8, 9, 10, 11, 12, 13, 14, 15, 17, 18, 16] Zg V)
  replace S387 : St w NoX ((ro 3 anC us78 ((pre.map fun x : ME => x.2.1) ++ [(AnC.mk x.2.1.e x.2.1.t x.2.1.v)])) :: cb224 :: ck224 :: cb4_222 :: cb3_222 :: cb7_222 :: cb5_222 :: (ro 2 grC us74 ((gsM ((hv_10, H_10), (qv_10, q_10)) pre) ++ [x.2.2])) :: c197_222 :: c155_222 :: c157_222 :: c156_222 :: (bx g5 31 #[us78]) :: (bx g4 64 #[us74]) :: c3_222 :: c219_222 :: (ro 2 grC us73 [x.2.2]) :: (ro 3 anC us77 [(AnC.mk x.2.1.e x.2.1.t x.2.1.v)]) :: fr) w387 := S387
  obtain ⟨c306_387, cb224_387, ck224_387, cb4_387, cb3_387, cb7_387, cb5_387, c304_387, c197_387, c155_387, c157_387, c156_387, c308_387, c307_387, c3_387, c219_387, c303_387, c305_387, hc306_387, hcb224_387, hck224_387, hcb4_387, hcb3_387, hcb7_387, hcb5_387, hc304_387, hc197_387, hc155_387, hc157_387, hc156_387, hc308_387, hc307_387, hc3_387, hc219_387, hc303_387, hc305_387, S387⟩ := gen18 S387
  replace hcb224_387 := hcb224_387.trans hcb224
  replace hck224_387 := hck224_387.trans hck224
  replace hcb4_387 := hcb4_387.trans hcb4_222
  replace hcb3_387 := hcb3_387.trans hcb3_222
  replace hcb7_387 := hcb7_387.trans hcb7_222
  replace hcb5_387 := hcb5_387.trans hcb5_222
  replace hc197_387 := hc197_387.trans hc197_222
  replace hc155_387 := hc155_387.trans hc155_222
  replace hc157_387 := hc157_387.trans hc157_222
  replace hc156_387 := hc156_387.trans hc156_222
  replace hc3_387 := hc3_387.trans hc3_222
  replace hc219_387 := hc219_387.trans hc219_222
  clear Y227 hdf227 S227 l6_227 l7_227 l8_227 l9_227 l10_227 l15_227 l16_227 l66_227
  refine Qo_normal ?_
  have S389 := S387.del 15
  replace S389 : St w NoX (c306_387 :: cb224_387 :: ck224_387 :: cb4_387 :: cb3_387 :: cb7_387 :: cb5_387 :: c304_387 :: c197_387 :: c155_387 :: c157_387 :: c156_387 :: c308_387 :: c307_387 :: c3_387 :: c303_387 :: c305_387 :: fr) w387 := S389
  have S390 := S389.del 15
  replace S390 : St w NoX (c306_387 :: cb224_387 :: ck224_387 :: cb4_387 :: cb3_387 :: cb7_387 :: cb5_387 :: c304_387 :: c197_387 :: c155_387 :: c157_387 :: c156_387 :: c308_387 :: c307_387 :: c3_387 :: c305_387 :: fr) w387 := S390
  have S391 := S390.del 15
  replace S391 : St w NoX (c306_387 :: cb224_387 :: ck224_387 :: cb4_387 :: cb3_387 :: cb7_387 :: cb5_387 :: c304_387 :: c197_387 :: c155_387 :: c157_387 :: c156_387 :: c308_387 :: c307_387 :: c3_387 :: fr) w387 := S391
  refine inb_n ?_
  obtain ⟨ct392, hct392, S392⟩ := genS (mT_shut (gs := gs_10) (T := 77) (n := (lgN C N Z K Q)) (G0 := ((hv_10, H_10), (qv_10, q_10))) (pre := (pre ++ [x])) (hcb224_387.trans (by rw [lastG_app])) hck224_387 S391)
  replace S392 : St w NoX (c306_387 :: ct392 :: cb4_387 :: cb3_387 :: cb7_387 :: cb5_387 :: c304_387 :: c197_387 :: c155_387 :: c157_387 :: c156_387 :: c308_387 :: c307_387 :: c3_387 :: fr) w387 := S392
  have S393 : St w NoX (c306_387 :: cb4_387 :: cb3_387 :: cb7_387 :: cb5_387 :: c304_387 :: c197_387 :: c155_387 :: c157_387 :: c156_387 :: c308_387 :: c307_387 :: c3_387 :: ct392 :: fr) w387 := St.selR (l := [c306_387, ct392, cb4_387, cb3_387, cb7_387, cb5_387, c304_387, c197_387, c155_387, c157_387, c156_387, c308_387, c307_387, c3_387]) (l' := [c306_387, cb4_387, cb3_387, cb7_387, cb5_387, c304_387, c197_387, c155_387, c157_387, c156_387, c308_387, c307_387, c3_387, ct392]) (fr := fr) S392 [0, 2, 3, 4, 5, 6, 7, 8, 9, 10, 11, 12, 13, 1] Zg Zi V
  exact (St.pack (l := [ro 3 anC us78 ((pre ++ [x]).map fun x : ME => x.2.1), bx g4_208 24 #[lv], bx g3_208 75 #[.pointer (some ⟨gs_10, 0, none⟩)], bx g7_208 78 #[.func (.func 38) #[.pointer (some ⟨gs_10, 0, none⟩)] #[]], bx g5_208 88 #[.func (.func 51) #[] #[.pointer (some ⟨g3, 0, none⟩)]], ro 2 grC us74 (gsM ((hv_10, H_10), (qv_10, q_10)) (pre ++ [x])), bx g196 88 #[.func (.func 51) #[] #[.pointer (some ⟨g3, 0, none⟩)]], bx g154 75 #[.pointer (some ⟨gs_10, 0, none⟩)], bx g7 32 #[.int .i64 0], bx g6 3 #[.int .i64 0], bx g5 31 #[us78], bx g4 64 #[us74], bx g3 25 #[fv]]) (fr := (mT gs_10 77 (lgN C N Z K Q) ((hv_10, H_10), (qv_10, q_10)) (pre ++ [x]) :: fr)) (by have q0 : c306_387 = ro 3 anC us78 ((pre ++ [x]).map fun x : ME => x.2.1) := hc306_387.trans (by rw [List.map_append]; rfl); have q1 : cb4_387 = bx g4_208 24 #[lv] := hcb4_387; have q2 : cb3_387 = bx g3_208 75 #[.pointer (some ⟨gs_10, 0, none⟩)] := hcb3_387; have q3 : cb7_387 = bx g7_208 78 #[.func (.func 38) #[.pointer (some ⟨gs_10, 0, none⟩)] #[]] := hcb7_387; have q4 : cb5_387 = bx g5_208 88 #[.func (.func 51) #[] #[.pointer (some ⟨g3, 0, none⟩)]] := hcb5_387; have q5 : c304_387 = ro 2 grC us74 (gsM ((hv_10, H_10), (qv_10, q_10)) (pre ++ [x])) := hc304_387.trans (by rw [gsM_app]); have q6 : c197_387 = bx g196 88 #[.func (.func 51) #[] #[.pointer (some ⟨g3, 0, none⟩)]] := hc197_387; have q7 : c155_387 = bx g154 75 #[.pointer (some ⟨gs_10, 0, none⟩)] := hc155_387; have q8 : c157_387 = bx g7 32 #[.int .i64 0] := hc157_387; have q9 : c156_387 = bx g6 3 #[.int .i64 0] := hc156_387; have q10 : c308_387 = bx g5 31 #[us78] := hc308_387; have q11 : c307_387 = bx g4 64 #[us74] := hc307_387; have q12 : c3_387 = bx g3 25 #[fv] := hc3_387; have q13 := hct392; subst q0 q1 q2 q3 q4 q5 q6 q7 q8 q9 q10 q11 q12 q13; exact S393) (⟨us74, us78, (pl_nx hgK hVd hz (c232)), rfl⟩))
 ·intro D394 xs394 w394 hxs394 S394
  obtain ⟨_, ⟨gv, av, hz, rfl⟩, S394⟩ := S394.unpack
  replace S394 : St w NoX ((ro 3 anC av (xs394.map fun x : ME => x.2.1)) :: (bx g4_208 24 #[lv]) :: (bx g3_208 75 #[.pointer (some ⟨gs_10, 0, none⟩)]) :: (bx g7_208 78 #[.func (.func 38) #[.pointer (some ⟨gs_10, 0, none⟩)] #[]]) :: (bx g5_208 88 #[.func (.func 51) #[] #[.pointer (some ⟨g3, 0, none⟩)]]) :: (ro 2 grC gv (gsM ((hv_10, H_10), (qv_10, q_10)) xs394)) :: (bx g196 88 #[.func (.func 51) #[] #[.pointer (some ⟨g3, 0, none⟩)]]) :: (bx g154 75 #[.pointer (some ⟨gs_10, 0, none⟩)]) :: (bx g7 32 #[.int .i64 0]) :: (bx g6 3 #[.int .i64 0]) :: (bx g5 31 #[av]) :: (bx g4 64 #[gv]) :: (bx g3 25 #[fv]) :: (ob D394 (.deferred (some []))) :: (mT gs_10 77 (lgN C N Z K Q) ((hv_10, H_10), (qv_10, q_10)) xs394) :: []) w394 := S394
  obtain ⟨c210_394, cb4_394, cb3_394, cb7_394, cb5_394, c201r_394, c197_394, c155_394, c157_394, c156_394, c5_394, c203_394, c3_394, cD394, ct_394, hc210_394, hcb4_394, hcb3_394, hcb7_394, hcb5_394, hc201r_394, hc197_394, hc155_394, hc157_394, hc156_394, hc5_394, hc203_394, hc3_394, hcD394, hct_394, S394⟩ := gen15 S394
  have S395 := S394.se [0, 14, 1, 2, 3, 4, 5, 6, 7, 8, 9, 10, 11, 12, 13] [c210_394, ct_394, cb4_394, cb3_394, cb7_394, cb5_394, c201r_394, c197_394, c155_394, c157_394, c156_394, c5_394, c203_394, c3_394, cD394]
  obtain ⟨cb396, ck396, hcb396, hck396, S396⟩ := mT_open (hct_394 ▸ S395)
  replace S396 : St w NoX [c210_394, cb396, ck396, cb4_394, cb3_394, cb7_394, cb5_394, c201r_394, c197_394, c155_394, c157_394, c156_394, c5_394, c203_394, c3_394, cD394] w394 := S396
  refine gen_Q (fun A394 E394 => ?_)
  have Y394 := szq E394
  have hdf394 : A394.defers = [{ target := .collected D394, args := #[] }] := by rw [E394, df_mk, F209.d] <;> rfl
  have l6_394 := lookE E394 6 (mk_l (fg10 F209))
  have l7_394 := lookE E394 7 (mk_l (fg9 F209))
  have l8_394 := lookE E394 8 (mk_l (fg8 F209))
  have l9_394 := lookE E394 9 (mk_l (fg7 F209))
  clear E394
  refine inb_n (tk H206 (R_seq (fun _ H397 => R_any kr kr 6 V (fun w518 hx518 => ?_))))
  have S518 := S396.grow hx518
  refine AX_parL (l0 := [c210_394, cb396, ck396, cb4_394, cb3_394, cb7_394, cb5_394, c201r_394, c197_394, c155_394, c157_394, c156_394, c5_394, c203_394, c3_394, cD394]) (k := 0) [⟨[13], [], [79], fun vs => [], fun vs => (vs.getD 0 undef) = gv⟩, ⟨[12], [], [80], fun vs => [], fun vs => (vs.getD 0 undef) = av⟩, ⟨[7], [13], [], fun vs => [bx g4 64 #[gv]], fun vs => True⟩, ⟨[0], [12], [], fun vs => [bx g5 31 #[av]], fun vs => True⟩, ⟨[], [11], [], fun vs => [bx g6 3 #[.int .i64 0]], fun vs => True⟩, ⟨[], [10], [], fun vs => [bx g7 32 #[.int .i64 0]], fun vs => True⟩] [c210_394, cb396, ck396, cb4_394, cb3_394, cb7_394, cb5_394, c201r_394, c197_394, c155_394, c157_394, c156_394, c5_394, c203_394, c3_394, cD394] S518 V kr V ⟨?_, ?_, ?_, ?_, ?_, ?_, trivial⟩ ?_
  ·refine stepI [] (fun vs => [c203_394]) V (fun a => by kernel_rfl) ?_
   intro A519 w519 rst hFr hF S519
   replace S519 : St w NoX [c203_394, rst] w519 := S519
   have Y519 : SzN A519 81 := ⟨hFr.sz.trans Y394.out⟩
   have hdf519 : A519.defers = [{ target := .collected D394, args := #[] }] := hFr.df.trans hdf394
   have l6_519 := (oldS hFr 6 kr).trans l6_394
   obtain ⟨c203_519, hc203_519, S519⟩ := gen1 S519
   replace hc203_519 := hc203_519.trans hc203_394
   refine rL gv l6_519 (S519.ob 0 hc203_519) (W_end (kq _ ?_))
   exact ⟨_, [gv], rfl, ts1 (et V), rfl, rfl, by subst hc203_519 hc203_394; exact S519⟩
  ·refine stepI [] (fun vs => [c5_394]) V (fun a => by kernel_rfl) ?_
   intro A520 w520 rst hFr hF S520
   replace S520 : St w NoX [c5_394, rst] w520 := S520
   have Y520 : SzN A520 81 := ⟨hFr.sz.trans Y394.out⟩
   have hdf520 : A520.defers = [{ target := .collected D394, args := #[] }] := hFr.df.trans hdf394
   have l7_520 := (oldS hFr 7 kr).trans l7_394
   obtain ⟨c5_520, hc5_520, S520⟩ := gen1 S520
   replace hc5_520 := hc5_520.trans hc5_394
   refine rL av l7_520 (S520.ob 0 hc5_520) (W_end (kq _ ?_))
   exact ⟨_, [av], rfl, ts1 (et V), rfl, rfl, by subst hc5_520 hc5_394; exact S520⟩
  ·refine stepI [] (fun vs => [c201r_394, c203_394]) V (fun a => by kernel_rfl) ?_
   intro A521 w521 rst hFr hF S521
   replace S521 : St w NoX [c201r_394, c203_394, rst] w521 := S521
   have f79_521 : EV A521 (.tmp 79) = gv := hF 0 kr
   generalize q79_521 : EV A521 (.tmp 79) = us79 at S521 f79_521
   have l79_521 := q79_521.trans f79_521
   have Y521 : SzN A521 81 := ⟨hFr.sz.trans Y394.out⟩
   have hdf521 : A521.defers = [{ target := .collected D394, args := #[] }] := hFr.df.trans hdf394
   have l6_521 := (oldS hFr 6 kr).trans l6_394
   obtain ⟨c201r_521, c203_521, hc201r_521, hc203_521, S521⟩ := gen2 S521
   replace hc201r_521 := hc201r_521.trans hc201r_394
   replace hc203_521 := hc203_521.trans hc203_394
   refine xsC (zs' := #[gv]) 1 S521 V hc203_521 V V V l6_521 l79_521 (SlN_one (ow_at (S521.cq 0 hc201r_521))) (fun w522 c522 hc522 S522 => ?_)
   replace S522 : St w NoX (c201r_521 :: c522 :: [rst]) w522 := S522
   refine W_end (kq _ ?_)
   subst q79_521
   exact ⟨undef, [], rfl, rfl, trivial, rfl, by subst hc201r_521 hc522 hc201r_394 hc203_394; exact S522⟩
  ·refine stepI [] (fun vs => [c210_394, c5_394]) V (fun a => by kernel_rfl) ?_
   intro A523 w523 rst hFr hF S523
   replace S523 : St w NoX [c210_394, c5_394, rst] w523 := S523
   have f80_523 : EV A523 (.tmp 80) = av := hF 1 kr
   generalize q80_523 : EV A523 (.tmp 80) = us80 at S523 f80_523
   have l80_523 := q80_523.trans f80_523
   have Y523 : SzN A523 81 := ⟨hFr.sz.trans Y394.out⟩
   have hdf523 : A523.defers = [{ target := .collected D394, args := #[] }] := hFr.df.trans hdf394
   have l7_523 := (oldS hFr 7 kr).trans l7_394
   obtain ⟨c210_523, c5_523, hc210_523, hc5_523, S523⟩ := gen2 S523
   replace hc210_523 := hc210_523.trans hc210_394
   replace hc5_523 := hc5_523.trans hc5_394
   refine xsC (zs' := #[av]) 1 S523 V hc5_523 V V V l7_523 l80_523 (SlN_one (ow_at (S523.cq 0 hc210_523))) (fun w524 c524 hc524 S524 => ?_)
   replace S524 : St w NoX (c210_523 :: c524 :: [rst]) w524 := S524
   refine W_end (kq _ ?_)
   subst q80_523
   exact ⟨undef, [], rfl, rfl, trivial, rfl, by subst hc210_523 hc524 hc210_394 hc5_394; exact S524⟩
  ·refine stepI [] (fun vs => [c156_394]) V (fun a => by kernel_rfl) ?_
   intro A525 w525 rst hFr hF S525
   replace S525 : St w NoX [c156_394, rst] w525 := S525
   have Y525 : SzN A525 81 := ⟨hFr.sz.trans Y394.out⟩
   have hdf525 : A525.defers = [{ target := .collected D394, args := #[] }] := hFr.df.trans hdf394
   have l8_525 := (oldS hFr 8 kr).trans l8_394
   obtain ⟨c156_525, hc156_525, S525⟩ := gen1 S525
   replace hc156_525 := hc156_525.trans hc156_394
   refine xsC (zs' := #[.int .i64 0]) 0 S525 V hc156_525 V V V l8_525 V Zi (fun w526 c526 hc526 S526 => ?_)
   replace S526 : St w NoX (c526 :: [rst]) w526 := S526
   refine W_end (kq _ ?_)
   exact ⟨undef, [], rfl, rfl, trivial, rfl, by subst hc526 hc156_394; exact S526⟩
  ·refine stepI [] (fun vs => [c157_394]) V (fun a => by kernel_rfl) ?_
   intro A527 w527 rst hFr hF S527
   replace S527 : St w NoX [c157_394, rst] w527 := S527
   have Y527 : SzN A527 81 := ⟨hFr.sz.trans Y394.out⟩
   have hdf527 : A527.defers = [{ target := .collected D394, args := #[] }] := hFr.df.trans hdf394
   have l9_527 := (oldS hFr 9 kr).trans l9_394
   obtain ⟨c157_527, hc157_527, S527⟩ := gen1 S527
   replace hc157_527 := hc157_527.trans hc157_394
   refine xsC (zs' := #[.int .i64 0]) 0 S527 V hc157_527 V V V l9_527 V Zi (fun w528 c528 hc528 S528 => ?_)
   replace S528 : St w NoX (c528 :: [rst]) w528 := S528
   refine W_end (kq _ ?_)
   exact ⟨undef, [], rfl, rfl, trivial, rfl, by subst hc528 hc157_394; exact S528⟩
  intro A529 w529 hFr hF S529
  replace S529 : St w NoX [c210_394, cb396, ck396, cb4_394, cb3_394, cb7_394, cb5_394, c201r_394, c197_394, c155_394, bx g7 32 #[.int .i64 0], bx g6 3 #[.int .i64 0], bx g5 31 #[av], bx g4 64 #[gv], c3_394, cD394] w529 := S529.cast kr
  have Y529 : SzN A529 81 := ⟨hFr.sz.trans Y394.out⟩
  have hdf529 : A529.defers = [{ target := .collected D394, args := #[] }] := hFr.df.trans hdf394
  obtain ⟨c210_529, cb396_529, ck396_529, cb4_529, cb3_529, cb7_529, cb5_529, c201r_529, c197_529, c155_529, c461_529, c460_529, c459_529, c458_529, c3_529, cD394_529, hc210_529, hcb396_529, hck396_529, hcb4_529, hcb3_529, hcb7_529, hcb5_529, hc201r_529, hc197_529, hc155_529, hc461_529, hc460_529, hc459_529, hc458_529, hc3_529, hcD394_529, S529⟩ := gen16 S529
  replace hc210_529 := hc210_529.trans hc210_394
  replace hcb396_529 := hcb396_529.trans hcb396
  replace hck396_529 := hck396_529.trans hck396
  replace hcb4_529 := hcb4_529.trans hcb4_394
  replace hcb3_529 := hcb3_529.trans hcb3_394
  replace hcb7_529 := hcb7_529.trans hcb7_394
  replace hcb5_529 := hcb5_529.trans hcb5_394
  replace hc201r_529 := hc201r_529.trans hc201r_394
  replace hc197_529 := hc197_529.trans hc197_394
  replace hc155_529 := hc155_529.trans hc155_394
  replace hc3_529 := hc3_529.trans hc3_394
  replace hcD394_529 := hcD394_529.trans hcD394
  have l6_529 := (oldS hFr 6 kr).trans l6_394
  have l7_529 := (oldS hFr 7 kr).trans l7_394
  have l8_529 := (oldS hFr 8 kr).trans l8_394
  have l9_529 := (oldS hFr 9 kr).trans l9_394
  clear Y394 hdf394 S396 l6_394 l7_394 l8_394 l9_394
  refine Qo_normal ?_
  have S530 := S529.se [0, 1, 2, 7, 10, 11, 12, 13, 14, 15] [c210_529, cb396_529, ck396_529, c201r_529, c461_529, c460_529, c459_529, c458_529, c3_529, cD394_529]
  refine tk H397 (R_ret ?_)
  have hD531 := S530.ob 9 hcD394_529
  have S531 := S530.put (o' := .deferred none) 9 V hcD394_529
  obtain ⟨w531, hw531⟩ : ∃ w', w' = w529.putObj D394 (.deferred none) := ⟨_, rfl⟩
  rw [← hw531] at S531
  replace S531 : St w NoX [c210_529, cb396_529, ck396_529, c201r_529, c461_529, c460_529, c459_529, c458_529, c3_529, (ob D394 (.deferred none))] w531 := S531
  refine ret_inR1' (D := D394) (w1 := w531) hw531 (results_4 Tryz.results29 (rvC l6_529 (cell_box (S531.ob 7 hc458_529) V)) (rvC l7_529 (cell_box (S531.ob 6 hc459_529) V)) (rvC l8_529 (cell_box (S531.ob 5 hc460_529) V)) (rvC l9_529 (cell_box (S531.ob 4 hc461_529) V))) hdf529 hD531 ?_
  have hd := pl_done hgK hxs394.1 hxs394.2 hsz hfull hz
  exact .inr ⟨_, _, _, rfl, hd.1, hd.2.1, (S531.f3 3 hc201r_529 2 hck396_529 0 (hc210_529.trans (congrArg (ro 3 anC _) hd.2.2)))⟩
 intro D532 cQ pre w532 hpre S532
 obtain ⟨_, hx, S532⟩ := S532.unpack
 rcases hx with ⟨rfl, gv, gL, av, aL, a, er, hx, hne, rfl⟩
 replace S532 : St w NoX ((ro 3 anC av aL) :: (bx g4_208 24 #[lv]) :: (bx g3_208 75 #[.pointer (some ⟨gs_10, 0, none⟩)]) :: (bx g7_208 78 #[.func (.func 38) #[.pointer (some ⟨gs_10, 0, none⟩)] #[]]) :: (bx g5_208 88 #[.func (.func 51) #[] #[.pointer (some ⟨g3, 0, none⟩)]]) :: (ro 2 grC gv gL) :: (bx g196 88 #[.func (.func 51) #[] #[.pointer (some ⟨g3, 0, none⟩)]]) :: (bx g154 75 #[.pointer (some ⟨gs_10, 0, none⟩)]) :: (bx g7 32 #[.int .i64 (er)]) :: (bx g6 3 #[.int .i64 (a)]) :: (bx g5 31 #[.slice none 0 0]) :: (bx g4 64 #[.slice none 0 0]) :: (bx g3 25 #[fv]) :: (ob D532 (.deferred (some []))) :: (mT gs_10 77 (lgN C N Z K Q) ((hv_10, H_10), (qv_10, q_10)) pre) :: []) w532 := S532
 obtain ⟨c210_532, cb4_532, cb3_532, cb7_532, cb5_532, c201r_532, c197_532, c155_532, c157_532, c156_532, c5_532, c203_532, c3_532, cD532, ct_532, hc210_532, hcb4_532, hcb3_532, hcb7_532, hcb5_532, hc201r_532, hc197_532, hc155_532, hc157_532, hc156_532, hc5_532, hc203_532, hc3_532, hcD532, hct_532, S532⟩ := gen15 S532
 have S533 := S532.se [0, 14, 1, 2, 3, 4, 5, 6, 7, 8, 9, 10, 11, 12, 13] [c210_532, ct_532, cb4_532, cb3_532, cb7_532, cb5_532, c201r_532, c197_532, c155_532, c157_532, c156_532, c5_532, c203_532, c3_532, cD532]
 obtain ⟨cb534, ck534, hcb534, hck534, S534⟩ := mT_open (hct_532 ▸ S533)
 replace S534 : St w NoX [c210_532, cb534, ck534, cb4_532, cb3_532, cb7_532, cb5_532, c201r_532, c197_532, c155_532, c157_532, c156_532, c5_532, c203_532, c3_532, cD532] w532 := S534
 refine gen_w (fun A532 E532 => ?_)
 have Y532 := szq E532
 have hdf532 : A532.defers = [{ target := .collected D532, args := #[] }] := by rw [E532, df_mk, F209.d] <;> rfl
 have l6_532 := lookE E532 6 (mk_l (fg10 F209))
 have l7_532 := lookE E532 7 (mk_l (fg9 F209))
 have l8_532 := lookE E532 8 (mk_l (fg8 F209))
 have l9_532 := lookE E532 9 (mk_l (fg7 F209))
 clear E532
 refine R_ret (inb_ret (then_ret ?_))
 have hD535 := S534.ob 15 hcD532
 have S535 := S534.put (o' := .deferred none) 15 V hcD532
 obtain ⟨w535, hw535⟩ : ∃ w', w' = w532.putObj D532 (.deferred none) := ⟨_, rfl⟩
 rw [← hw535] at S535
 replace S535 : St w NoX [c210_532, cb534, ck534, cb4_532, cb3_532, cb7_532, cb5_532, c201r_532, c197_532, c155_532, c157_532, c156_532, c5_532, c203_532, c3_532, (ob D532 (.deferred none))] w535 := S535
 refine ret_inR1' (D := D532) (w1 := w535) hw535 (results_4 Tryz.results29 (rvC l6_532 (cell_box (S535.ob 13 hc203_532) V)) (rvC l7_532 (cell_box (S535.ob 12 hc5_532) V)) (rvC l8_532 (cell_box (S535.ob 11 hc156_532) V)) (rvC l9_532 (cell_box (S535.ob 10 hc157_532) V))) hdf532 hD535 ?_
 have h : (plF (cfE C N Z K Q) (lgN C N Z K Q) K os full) = (a, er) := (pl_fb hsz hfull).trans hx
 rw [h]
 exact .inl ⟨rfl, hne, S535.fin0⟩

end Go.Proofs.YtpgkfndbfocibaaGreat
namespace Go.Proofs.YtpgkfndbfocibaaGreat
open Go.RowKit Go.Own Go.Own.R Go.Own.G Go.Own.Gr Go.Own.Ml


set_option maxHeartbeats 4000000 in
theorem kPl_c {C N Z K Q : Int} {lv : Value} {os : List OpC} {fv : Value} {full : List Int} {w : World} (h_lv : Ro w NoX (rl 7 opC lv os)) (h_fv : Ro w NoX (il .i64 fv full))  :
  Calls Tryz.prog 9 #[.agg #[.int .i64 C, .int .i64 N, .int .i64 Z, .int .i64 K, .int .i64 Q], lv, fv] w fun e w' => (e = .returned (.tuple #[.agg #[.slice none 0 0, .slice none 0 0], .slice none 0 0, .int .i64 (plF (cfE C N Z K Q) (lgN C N Z K Q) K os full).1, .int .i64 (plF (cfE C N Z K Q) (lgN C N Z K Q) K os full).2]) ∧ ((plF (cfE C N Z K Q) (lgN C N Z K Q) K os full).2 ≠ 0) ∧ St w NoX [] w') ∨ (∃ G av, e = .returned (.tuple #[.agg #[G.1.1, G.2.1], av, .int .i64 0, .int .i64 0]) ∧ ((plF (cfE C N Z K Q) (lgN C N Z K Q) K os full) = (0, 0)) ∧ (gab G = (plL (cfE C N Z K Q) (lgN C N Z K Q) K os full)) ∧ St w NoX [gls [G], ro 3 anC av (plA (cfE C N Z K Q) (lgN C N Z K Q) K os full)] w') := by
 refine ci3 32 Tryz.func9 V (fun A0 _ F0 => ?_)
 have hS := St.nil w
 have bh_lv := SlN.le (sl_SlN h_lv.at)
 have bh_fv := SlN.le (sl_SlN h_fv.at)
 refine tb fun _ H1 => (wB (#[.int .i64 (C), .int .i64 (N), .int .i64 (Z), .int .i64 (K), .int .i64 (Q)]) hS (fg0 F0) (fun g2 w2 c2 hc2 S2 => wA (#[.slice none 0 0, .slice none 0 0]) S2 (fun g3 w3 c3 hc3 S3 => vc (vc (vc (W_end (en (Qc (Kb F0)) fun A4 _ F4 => ta H1 fun _ H5 => (ra (fg1 F4) (S3.ob 1 hc2) (vm (Sa (fg3 F4)) (vm (Sb (fg4 F4)) (wc (args3 (Sb t0) (Sa t0) t0) (kpl_c (C := C) (N := N) (Z := Z) (K := K) (Q := Q) (S3.roC h_lv) (S3.roC h_fv)) ?_)))))))))))
 rintro _ w6 (⟨rfl, hz_6, hP6⟩ | ⟨gv_6, Gs_6, av_6, rfl, hz_6, hg_6, hP6⟩)
 ·refine ⟨_, rfl, ?_⟩
  have S6 := S3.j0 hP6
  refine vm t0 (vx (.slice none 0 0) t0 (vx (.slice none 0 0) (Sa t0) (vx (.int .i64 ((plF (cfE C N Z K Q) (lgN C N Z K Q) K os full).1)) (Sb t0) (vx (.int .i64 ((plF (cfE C N Z K Q) (lgN C N Z K Q) K os full).2)) (Sc t0) (va (Sc t0) (va (Sc t0) (va (Sc t0) (va (Sc t0) (W_end (en (Kd (Qa (Qh F4))) fun A7 _ F7 => ?_))))))))))
  have S8 := S6.se [0] [c3]
  refine tc H5 fun _ H9 => tb fun _ H10 => (vm (fg0 F7) (vn t0 V (W_end (en (Ka (Qa F7)) fun A11 _ F11 => tk H10 (cond_sure (fg0 F11) (by rw [decide_eq_true_eq]; exact hz_6) (tb fun _ H12 => (wv (xbS (n := 2) (z := .agg #[.slice none 0 0, .slice none 0 0]) V parts0) (vm (Sa (fg2 F11)) (vm (Sb (fg1 F11)) (xsA0 S8 hc3 V V V (Sc (fg5 F11)) (Sb t0) (fun w13 c13 hc13 S13 => vc (va (Sb t0) (va (Sb t0) (W_end (en (Kc (Qc (fx1 (fx1 (fx1 F11))))) fun A14 _ F14 => tk H12 (wp_ret (then_ret (rt4 F14 (rvA (fg5 F14) (S13.ob 0 hc13)) (rv_tmp (fg2 F14)) (rv_tmp (fg1 F14)) (rv_tmp (fg0 F14)) ?_))))))))))))))))))
  exact .inl ⟨rfl, hz_6, S13.fin0⟩
 refine ⟨_, rfl, ?_⟩
 obtain ⟨cG_6, cK_6, cA_6, hcG_6, hcK_6, hcA_6, hP6⟩ := gen3 hP6
 have S6 := S3.j3 hP6
 have hGl : Gs_6.length = os.length + 1 := by rw [mL hg_6, plG_len hz_6]
 have hol := pl_len hz_6
 refine vm t0 (vx gv_6 t0 (vx av_6 (Sa t0) (vx (.int .i64 0) (Sb t0) (vx (.int .i64 0) (Sc t0) (va (Sc t0) (va (Sc t0) (va (Sc t0) (va (Sc t0) (W_end (en (Kd (Qa (Qh F4))) fun A15 _ F15 => ?_))))))))))
 have S16 := S6.se [0, 1, 2, 3] [cG_6, cK_6, cA_6, c3]
 refine tc H5 fun _ H17 => tb fun _ H18 => (vm (fg0 F15) (vn t0 V (W_end (en (Ka (Qa F15)) fun A19 _ F19 => tk H18 (cond_not (fg0 F19) Zg (wp_skip (ta H17 fun _ H20 => (vm (fg4 F19) (vm (Sa (fg4 F19)) (le_ t0 (ow_at (S16.cq 0 hcG_6)) (su t0 V ?_)))))))))))
 have k21 : (Gs_6.length - 1) < Gs_6.length := om
 obtain ⟨y21, hy21⟩ := get_some (xs := Gs_6) (k := (Gs_6.length - 1)) k21
 have hsm21 := plG_at hg_6 hy21
 obtain ⟨B21, O21, C21, hv21⟩ := (SlN.blk (ow_at (S16.chq 0 rfl hcG_6)) om)
 refine wv (V_ixS (off := O21 + (Gs_6.length - 1) * 2) 2 (Gs_6.length - 1) V (Sc t0) t0 hv21 Zb k21 Tryz.underlying64 kr V) (wr (VR_ldR (ys := grC y21) V t0 (SlN.row grC_len (ow_at (S16.cq 0 hcG_6)) hv21 hy21 V) Tryz.underlying30 V kr) (vm (Sf (fg3 F19)) (xsB3 S16 hc3 V V V (Sg (fg5 F19)) (Sa t0) (by simp only [List.all_toArray, List.all_cons, List.all_nil, grC, SlN_one (sl_SlN (gl_oa (List.mem_of_getElem? hy21) (S16.cq 1 hcK_6))), SlN_one (sl_SlN (gl_ra (List.mem_of_getElem? hy21) (S16.cq 1 hcK_6)))] <;> rfl) (fun w22 c22 hc22 S22 => vt (vc (vc (W_end (en (Kc (Qg (fx1 (fx1 (fx1 F19))))) fun A23 _ F23 => ?_))))))))
 have S24 := S22.se [1, 2, 3] [cK_6, cA_6, c22]
 refine tk H20 (wp_ret (rt4 F23 (rvA (fg5 F23) (S24.ob 2 hc22)) (rv_tmp (fg2 F23)) (rv_tmp (fg1 F23)) (rv_tmp (fg0 F23)) ?_))
 rw [hcK_6] at S24
 obtain ⟨c25, hc25, S25⟩ := gen1 (gl_subS (M := [y21]) S24 (fun G hG => by rw [List.mem_singleton] at hG; subst hG; exact List.mem_of_getElem? hy21))
 replace S25 : St w NoX [c25, cA_6, c22] w22 := S25
 exact .inr ⟨y21, _, rfl, hz_6, pl_last hg_6 hy21, (S25.f2 0 hc25 1 hcA_6)⟩

set_option maxHeartbeats 4000000 in
theorem kLi_c {C N Z K Q : Int} {lv : Value} {os : List OpC} {fv : Value} {full : List Int} {w : World} (h_lv : Ro w NoX (rl 7 opC lv os)) (h_fv : Ro w NoX (il .i64 fv full))  :
  Calls Tryz.prog 11 #[.agg #[.int .i64 C, .int .i64 N, .int .i64 Z, .int .i64 K, .int .i64 Q], lv, fv] w fun e w' => (e = .returned (.tuple #[.slice none 0 0, .int .i64 (plF (cfE C N Z K Q) (lgN C N Z K Q) K os full).2]) ∧ ((plF (cfE C N Z K Q) (lgN C N Z K Q) K os full).2 ≠ 0) ∧ St w NoX [] w') ∨ (∃ lw, e = .returned (.tuple #[lw, .int .i64 0]) ∧ ((plF (cfE C N Z K Q) (lgN C N Z K Q) K os full) = (0, 0)) ∧ St w NoX [io .i64 lw (List.map WF (plG (cfE C N Z K Q) (lgN C N Z K Q) K os full))] w') := by
 refine ci3 46 Tryz.func11 V (fun A0 _ F0 => ?_)
 have hS := St.nil w
 have bh_lv := SlN.le (sl_SlN h_lv.at)
 have bh_fv := SlN.le (sl_SlN h_fv.at)
 refine tb fun _ H1 => (wB (#[.int .i64 (C), .int .i64 (N), .int .i64 (Z), .int .i64 (K), .int .i64 (Q)]) hS (fg0 F0) (fun g2 w2 c2 hc2 S2 => vc (vc (W_end (en (Qb (Ka F0)) fun A3 _ F3 => ta H1 fun _ H4 => (ra (fg0 F3) (S2.ob 0 hc2) (vm (Sa (fg2 F3)) (vm (Sb (fg3 F3)) (wc (args3 (Sb t0) (Sa t0) t0) (kpl_c (C := C) (N := N) (Z := Z) (K := K) (Q := Q) (S2.roC h_lv) (S2.roC h_fv)) ?_)))))))))
 rintro _ w5 (⟨rfl, hz_5, hP5⟩ | ⟨gv_5, Gs_5, av_5, rfl, hz_5, hg_5, hP5⟩)
 ·refine ⟨_, rfl, ?_⟩
  have S5 := S2.j0 hP5
  refine vm t0 (vx (.slice none 0 0) t0 (vx (.slice none 0 0) (Sa t0) (vx (.int .i64 ((plF (cfE C N Z K Q) (lgN C N Z K Q) K os full).1)) (Sb t0) (vx (.int .i64 ((plF (cfE C N Z K Q) (lgN C N Z K Q) K os full).2)) (Sc t0) (va (Sc t0) (va (Sc t0) (va (Sc t0) (va (Sc t0) (W_end (en (Ka (Qb (Ka (Qa (Qh F3))))) fun A6 _ F6 => tc H4 fun _ H8 => tb fun _ H9 => (vm (fg0 F6) (vn t0 V (W_end (en (Ka (Qa F6)) fun A10 _ F10 => tk H9 (cond_sure (fg0 F10) (by rw [decide_eq_true_eq]; exact hz_5) (tb fun _ H11 => (vm (fg1 F10) (vc (va (Sa t0) (W_end (en (Kb (Qa F10)) fun A12 _ F12 => tk H11 (wp_ret (then_ret (rt2 F12 (rv_tmp (fg1 F12)) (rv_tmp (fg0 F12)) ?_))))))))))))))))))))))))
  exact .inl ⟨rfl, hz_5, S5.fin0⟩
 refine ⟨_, rfl, ?_⟩
 obtain ⟨cG_5, cK_5, cA_5, hcG_5, hcK_5, hcA_5, hP5⟩ := gen3 hP5
 have S5 := S2.j3 hP5
 have hGl : Gs_5.length = os.length + 1 := by rw [mL hg_5, plG_len hz_5]
 have hol := pl_len hz_5
 refine vm t0 (vx gv_5 t0 (vx av_5 (Sa t0) (vx (.int .i64 0) (Sb t0) (vx (.int .i64 0) (Sc t0) (va (Sc t0) (va (Sc t0) (va (Sc t0) (va (Sc t0) (W_end (en (Ka (Qb (Ka (Qa (Qh F3))))) fun A13 _ F13 => ?_))))))))))
 have S14 := S5.se [0, 1] [cG_5, cK_5]
 refine tc H4 fun _ H15 => tb fun _ H16 => (vm (fg0 F13) (vn t0 V (W_end (en (Ka (Qa F13)) fun A17 _ F17 => tk H16 (cond_not (fg0 F17) Zg (wp_skip (ta H15 fun _ H18 => (vc (W_end (en (Ka F17) fun A19 _ F19 => tc H18 fun _ H20 => tb fun _ H21 => (vm (fg3 F19) (le_ t0 (ow_at (S14.cq 0 hcG_5)) (vm V (W_end (en (Kc F19) fun A22 Y22 F22 => tk H21 (wp_block ?_))))))))))))))))
 obtain ⟨c23, hc23, S23⟩ := S14.pnil (s := 1)
 -- loop 6
 refine loopX (fun mz A' w' => SzN A' 46 ∧ A'.defers = [] ∧ (∃ (k : Nat) (bv : Value), (mz = Gs_5.length - k) ∧ (k ≤ Gs_5.length) ∧ (EV A' (.tmp 31) = .int .i64 (k : Int)) ∧ (EV A' (.tmp 12) = bv) ∧ (EV A' (.tmp 29) = EV A22 (.tmp 29)) ∧ (EV A' (.tmp 30) = EV A22 (.tmp 30)) ∧ (St w NoX [io .i64 bv ((Gs_5.take k).map fun G => WF (gab G)), ro 2 grC gv_5 Gs_5, gls Gs_5] w'))) (Gs_5.length - 0) ⟨Y22, F22.d, 0, (.slice none 0 0), rfl, Zb, ((fg0 F22).trans Za), ((fg3 F22).trans Za), rfl, rfl, (by have q0 : c23 = io .i64 (.slice none 0 0) ((Gs_5.take 0).map fun G => WF (gab G)) := hc23.trans (rfl); have q1 := hcG_5; have q2 := hcK_5; subst q0 q1 q2; exact S23)⟩ ?_
 clear S23 hc23 hcG_5 hcK_5
 rintro n24 A24 w24 ⟨Y24, hdf24, k, bv, hm24, hk, l31_24, l12_24, u29_24, u30_24, S24⟩
 have l29_24 := u29_24.trans (fg2 F22)
 have l30_24 := u30_24.trans (fg1 F22)
 obtain ⟨c23_24, cG_24, cK_24, hc23_24, hcG_24, hcK_24, S24⟩ := gen3 S24
 refine tb fun _ H25 => (vl l31_24 l30_24 (W_end (en ((((((ck (FS.n hdf24) V V)).c (es V l12_24)).c (es V l29_24)).c (es V l30_24)).c (Sa l31_24)) fun A26 _ F26 => tc H25 fun _ H27 => cd (fg4 F26) (fun c28 => ?_) fun c28 => ?_)))
 ·refine wp_skip (tc H27 fun _ H29 => wp_block (tb fun _ H30 => ?_))
  have k31 : k < Gs_5.length := om
  obtain ⟨y31, hy31⟩ := get_some (xs := Gs_5) (k := k) k31
  have hsm31 := plG_at hg_5 hy31
  obtain ⟨B31, O31, C31, hv31⟩ := (SlN.blk (ow_at (S24.chq 1 rfl hcG_24)) om)
  refine wv (V_ixS (off := O31 + k * 2) 2 k V (fg2 F26) (fg0 F26) hv31 Zb k31 Tryz.underlying64 kr V) (wr (VR_ldR (ys := grC y31) V t0 (SlN.row grC_len (ow_at (S24.cq 1 hcG_24)) hv31 hy31 V) Tryz.underlying30 V kr) (wA (#[.slice none 0 0, .slice none 0 0]) S24 (fun g32 w32 c32 hc32 S32 => ?_)))
  replace S32 : St w NoX [c32, c23_24, cG_24, cK_24] w32 := S32
  refine xsB0 S32 hc32 V V V t0 (Sa t0) (by simp only [List.all_toArray, List.all_cons, List.all_nil, grC, SlN_one (sl_SlN (gl_oa (List.mem_of_getElem? hy31) (S32.cq 3 hcK_24))), SlN_one (sl_SlN (gl_ra (List.mem_of_getElem? hy31) (S32.cq 3 hcK_24)))] <;> rfl) (fun w33 c33 hc33 S33 => W_end (en (Ka (Qb F26)) fun A34 _ F34 => ta H30 fun _ H35 => (ra (fg0 F34) (S33.ob 0 hc33) (wc (args1 t0) (kWd_c (gl_oaR (List.mem_of_getElem? hy31) (S33.cC 3 hcK_24)) (gl_naR (List.mem_of_getElem? hy31) (S33.cC 3 hcK_24)) (gl_raR (List.mem_of_getElem? hy31) (S33.cC 3 hcK_24)) Ze) (C0 S33 fun w36 S36 => vm t0 (vx (.int .i64 ((wdN (y31.1.2.map ab) y31.2.2))) t0 (vx (.int .i64 ((ckG (y31.1.2.map ab) y31.2.2).2)) (Sa t0) (va (Sa t0) (va (Sa t0) (W_end (en (Qa (Ka (Qe F34))) fun A37 _ F37 => ?_)))))))))))
  have S38 := S36.se [1, 2, 3] [c23_24, cG_24, cK_24]
  refine tk H35 (region_in (vm (fg5 F37) (vm (Sa (fg0 F37)) ?_)))
  have hll39 : [(wdN (y31.1.2.map ab) y31.2.2)].length = 1 := rfl
  refine xsL (vs := [.int .i64 ((wdN (y31.1.2.map ab) y31.2.2))]) (xs := ([(wdN (y31.1.2.map ab) y31.2.2)].map (Value.int .i64))) 1 S38 V V V (parts1 t0) Tryz.underlying25 (fun g39 w39 c39 hc39 S39 => ?_)
  replace hc39 : c39 = io .i64 (.slice (some ⟨g39, 0, none⟩) 1 1) [(wdN (y31.1.2.map ab) y31.2.2)] := hc39
  replace S39 : St w NoX [c39, c23_24, cG_24, cK_24] w39 := S39
  refine W_appS 1 1 S39 V hc23_24 V V V (Sb t0) t0 Tryz.underlying25 Tryz.underlying25 (z := .int .i64 0) (bytes := 8) kr V Zg (ow_at (S39.cq 0 hc39)) ones_i Zv Zv (fun v40 w40 c40 hc40 S40 => ?_)
  replace hc40 : c40 = io .i64 v40 (((Gs_5.take k).map fun G => WF (gab G)) ++ [(wdN (y31.1.2.map ab) y31.2.2)]) := hc40.trans (app_eq Zc)
  replace S40 : St w NoX [c39, c40, cG_24, cK_24] w40 := S40
  refine vt (W_end (en (Ka (Qd (fx5 F37))) fun A41 _ F41 => ?_))
  have S42 := S40.se [1, 2, 3] [c40, cG_24, cK_24]
  refine inb_n (tk H29 (region_in (ad (fg3 F41) V (vm t0 (W_end (en (Ka (Qa (fx3 F41))) fun A43 Y43 F43 => then_n ⟨Gs_5.length - (k + 1), by simp only [hm24]; omega, Y43, F43.d, (k + 1), v40, rfl, Zb, ((fg0 F43).trans Za), ((fg1 F43).trans Za), ((fg5 F43).trans (fg2 F22).symm), ((fg4 F43).trans (fg1 F22).symm), (by have q0 : c40 = io .i64 v40 ((Gs_5.take (k + 1)).map fun G => WF (gab G)) := hc40.trans ((congrArg (io .i64 _) (Ml.tk_snoc hy31).symm)); have q1 := hcG_24; have q2 := hcK_24; subst q0 q1 q2; exact S42)⟩))))))
 refine wp_exit (then_exit (then_exit (inb_hit (ta H20 fun _ H44 => (vm (fg3 F26) (vt (vc (W_end (en (Kb (Qa F26)) fun A45 _ F45 => tk H44 (wp_ret (rt2 F45 (rv_tmp (fg1 F45)) (rv_tmp (fg0 F45)) ?_)))))))))))
 exact .inr ⟨_, rfl, hz_5, (S24.f1 0 (hc23_24.trans (congrArg (io .i64 _) (lv_end hg_5 Zb))))⟩

set_option maxHeartbeats 4000000 in
theorem kLf_c {C N Z K Q : Int} {lv : Value} {os : List OpC} {fv : Value} {full : List Int} {a b : Int} {w : World} (h_lv : Ro w NoX (rl 7 opC lv os)) (h_fv : Ro w NoX (il .i64 fv full))  :
  Calls Tryz.prog 18 #[.agg #[.int .i64 C, .int .i64 N, .int .i64 Z, .int .i64 K, .int .i64 Q], lv, fv, .int .i64 a, .int .i64 b] w fun e w' => e = .returned (.tuple #[.int .i64 (lfF (cfE C N Z K Q) (lgN C N Z K Q) K os full a b).1, .int .i64 (lfF (cfE C N Z K Q) (lgN C N Z K Q) K os full a b).2]) ∧ St w NoX [] w' := by
 refine ci5 81 Tryz.func18 V (fun A0 _ F0 => ?_)
 have hS := St.nil w
 have bh_lv := SlN.le (sl_SlN h_lv.at)
 have bh_fv := SlN.le (sl_SlN h_fv.at)
 refine tb fun _ H1 => (wB (#[.int .i64 (C), .int .i64 (N), .int .i64 (Z), .int .i64 (K), .int .i64 (Q)]) hS (fg0 F0) (fun g2 w2 c2 hc2 S2 => vc (vc (W_end (en (Qb (Ka F0)) fun A3 _ F3 => ta H1 fun _ H4 => (ra (fg0 F3) (S2.ob 0 hc2) (vm (Sa (fg2 F3)) (vm (Sb (fg3 F3)) (wc (args3 (Sb t0) (Sa t0) t0) (kpl_c (C := C) (N := N) (Z := Z) (K := K) (Q := Q) (S2.roC h_lv) (S2.roC h_fv)) ?_)))))))))
 rintro _ w5 (⟨rfl, hz_5, hP5⟩ | ⟨gv_5, Gs_5, av_5, rfl, hz_5, hg_5, hP5⟩)
 ·refine ⟨_, rfl, ?_⟩
  have S5 := S2.j0 hP5
  refine vm t0 (vx (.slice none 0 0) t0 (vx (.slice none 0 0) (Sa t0) (vx (.int .i64 ((plF (cfE C N Z K Q) (lgN C N Z K Q) K os full).1)) (Sb t0) (vx (.int .i64 ((plF (cfE C N Z K Q) (lgN C N Z K Q) K os full).2)) (Sc t0) (va (Sc t0) (va (Sc t0) (va (Sc t0) (va (Sc t0) (W_end (en (Ka (Qb (Ka (Qa (Qh F3))))) fun A6 _ F6 => tc H4 fun _ H8 => wp_block (tb fun _ H9 => (vm (fg0 F6) (vn t0 V (vt (W_end (en (Ka (Qb F6)) fun A10 _ F10 => tk H9 (cond_sure (fg0 F10) (by rw [decide_eq_true_eq]; exact hz_5) (tb fun _ H11 => (vm (fg1 F10) (vc (va (Sa t0) (W_end (en (Kb (Qa (fx1 F10))) fun A12 _ F12 => tk H11 (wp_ret (inb_ret (then_ret (rt2 F12 (rv_tmp (fg1 F12)) (rv_tmp (fg0 F12)) ?_)))))))))))))))))))))))))))
  have h : (lfF (cfE C N Z K Q) (lgN C N Z K Q) K os full a b) = (0, (plF (cfE C N Z K Q) (lgN C N Z K Q) K os full).2) := lf_e hz_5
  rw [h]
  exact ⟨rfl, S5.fin0⟩
 refine ⟨_, rfl, ?_⟩
 obtain ⟨cG_5, cK_5, cA_5, hcG_5, hcK_5, hcA_5, hP5⟩ := gen3 hP5
 have S5 := S2.j3 hP5
 have hGl : Gs_5.length = os.length + 1 := by rw [mL hg_5, plG_len hz_5]
 have hol := pl_len hz_5
 have S13 := S5.se [2, 3, 0, 1] [cA_5, c2, cG_5, cK_5]
 obtain ⟨Yb14, S14, hY14, hF14, hB14⟩ := St.call (pre := [cA_5, c2]) (fr := [cG_5, cK_5]) S13
 have back14 : ∀ w2 post, St w5 Yb14 post w2 → St w NoX post w2 := fun _ _ h => (hB14 _ _ h).left
 have h_lv_14 := hY14 _ h_lv
 have h_fv_14 := hY14 _ h_fv
 have fz14_0 : Ro w5 Yb14 (rl 2 grC gv_5 Gs_5) := (hcG_5 ▸ hF14 0 _ V : Ro w5 Yb14 (ro 2 grC gv_5 Gs_5)).own
 have fz14_1 : Ro w5 Yb14 (gls Gs_5) := (hcK_5 ▸ hF14 1 _ V : Ro w5 Yb14 (gls Gs_5))
 refine vm t0 (vx gv_5 t0 (vx av_5 (Sa t0) (vx (.int .i64 0) (Sb t0) (vx (.int .i64 0) (Sc t0) (va (Sc t0) (va (Sc t0) (va (Sc t0) (va (Sc t0) (W_end (en (Ka (Qb (Ka (Qa (Qh F3))))) fun A15 _ F15 => ?_))))))))))
 have S16 := S14.se [] []
 refine tc H4 fun _ H17 => wp_block (tb fun _ H18 => (vm (fg0 F15) (vn t0 V (vt (W_end (en (Ka (Qb F15)) fun A19 _ F19 => tk H18 (cond_not (fg0 F19) Zg (tb fun _ H20 => (vm (fg7 F19) (vl t0 V (W_split V V (V_mov V t0) (fun c21 => ?_) (fun c21 => ?_))))))))))))
 ·refine xo V t0 (xo V (Sa t0) (xo V (Sb t0) (vT (Sc t0) V (vm t0 (xo V t0 (xo V (Sa t0) (xo V (Sb t0) (xo V (Sc t0) (vT (Sd t0) V (vt (W_end (en (Ka (Qe (Qh F19))) fun A22 _ F22 => tk H20 (cond_t (fg0 F22) (tb fun _ H23 => (vc (vc (W_end (en (Kb (fx2 F22)) fun A24 _ F24 => tk H23 (wp_ret (inb_ret (then_ret (rt2 F24 (rv_tmp (fg1 F24)) (rv_tmp (fg0 F24)) ?_))))))))))))))))))))))
  have h : (lfF (cfE C N Z K Q) (lgN C N Z K Q) K os full a b) = (0, 7) := lf_7 hz_5 Zb
  rw [h]
  exact ⟨rfl, (back14 _ _ S16.fin0)⟩
 refine wg V t0 (uvm (Sc (fg8 F19))) (wg V (Sa t0) (uvm (Sd (fg7 F19))) (wg V (Sb t0) (uvl (Sa t0) t0) (vF (Sc t0) t0 (W_split V V (V_mov V t0) (fun c25 => ?_) (fun c25 => ?_)))))
 ·refine xo V t0 (xo V (Sa t0) (xo V (Sb t0) (xo V (Sc t0) (vT (Sd t0) V (vt (W_end (en (Ka (Qe (Qh F19))) fun A26 _ F26 => tk H20 (cond_t (fg0 F26) (tb fun _ H27 => (vc (vc (W_end (en (Kb (fx2 F26)) fun A28 _ F28 => tk H27 (wp_ret (inb_ret (then_ret (rt2 F28 (rv_tmp (fg1 F28)) (rv_tmp (fg0 F28)) ?_)))))))))))))))))
  have h : (lfF (cfE C N Z K Q) (lgN C N Z K Q) K os full a b) = (0, 7) := lf_7 hz_5 Zb
  rw [h]
  exact ⟨rfl, (back14 _ _ S16.fin0)⟩
 refine wg V t0 (uvm (Sh (fg8 F19))) (wg V (Sa t0) (uvm (Sh (Sa (fg5 F19)))) (wg V (Sb t0) (ule_ t0 (sl_SlN h_lv_14.at)) (wg V (Sc t0) (uvg (Sb t0) t0) (vF (Sd t0) t0 (vt (W_end (en (Ka (Qe (Qh F19))) fun A29 _ F29 => tk H20 (cd (fg0 F29) (fun c30 => ?_) fun c30 => ?_))))))))
 ·refine tb fun _ H31 => (vc (vc (W_end (en (Kb (fx2 F29)) fun A32 _ F32 => tk H31 (wp_ret (inb_ret (then_ret (rt2 F32 (rv_tmp (fg1 F32)) (rv_tmp (fg0 F32)) ?_))))))))
  have h : (lfF (cfE C N Z K Q) (lgN C N Z K Q) K os full a b) = (0, 7) := lf_7 hz_5 Zb
  rw [h]
  exact ⟨rfl, (back14 _ _ S16.fin0)⟩
 refine wp_skip (inb_n (ta H17 fun _ H33 => (vm (fg3 F29) (vm (Sa (fg8 F29)) ?_))))
 have k34 : a.toNat < Gs_5.length := om
 obtain ⟨y34, hy34⟩ := get_some (xs := Gs_5) (k := a.toNat) k34
 have hsm34 := plG_at hg_5 hy34
 obtain ⟨B34, O34, C34, hv34⟩ := (SlN.blk (sl_SlN fz14_0.at) om)
 refine wv (V_ixS (off := O34 + a.toNat * 2) 2 a.toNat V (Sa t0) t0 hv34 Zb k34 Tryz.underlying64 kr V) ?_
 have fgy34o := gl_o (List.mem_of_getElem? hy34) fz14_1
 have fgy34n := gl_n (List.mem_of_getElem? hy34) fz14_1
 have fgy34r := gl_r (List.mem_of_getElem? hy34) fz14_1
 refine wr (VR_ldR (ys := grC y34) V t0 (SlN.row grC_len (sl_SlN (S16.ro fz14_0)) hv34 hy34 V) Tryz.underlying30 V kr) (wc (args1 t0) (kWd_c (S16.roC fgy34o) (S16.roC fgy34n) (S16.roC fgy34r) Ze) (C0 S16 fun w35 S35 => vm t0 (vx (.int .i64 ((wdN (y34.1.2.map ab) y34.2.2))) t0 (vx (.int .i64 ((ckG (y34.1.2.map ab) y34.2.2).2)) (Sa t0) (va (Sa t0) (W_end (en (Ka (Qh F29)) fun A36 _ F36 => tc H33 fun _ H37 => td fun _ H38 => region_monoS 14 14 [] kr kr (dm (fg4 F36) (dm (Sa (fg10 F36)) ?_)))))))))
 have k39 : b.toNat < Gs_5.length := om
 obtain ⟨y39, hy39⟩ := get_some (xs := Gs_5) (k := b.toNat) k39
 have hsm39 := plG_at hg_5 hy39
 have hlf39 := lf_len hz_5 hg_5 hy34 hy39 Zb
 refine dv (V_ixS (off := O34 + b.toNat * 2) 2 b.toNat V (Sa t0) t0 hv34 Zb k39 Tryz.underlying64 kr V) (dv (V_fa (off' := O34 + b.toNat * 2 + 0) V t0 Tryz.underlying30 V Zj V) ?_)
 have fgy39o := gl_o (List.mem_of_getElem? hy39) fz14_1
 have fgy39n := gl_n (List.mem_of_getElem? hy39) fz14_1
 have fgy39r := gl_r (List.mem_of_getElem? hy39) fz14_1
 refine dr (fun _ hx _ => (urd y39.1.1 t0 (SlN.row grC_len (sl_SlN ((S35.grow hx).ro fz14_0)) hv34 hy39 V 0 _ V))) (dm (Se (fg4 F36)) (dm (Sf (fg9 F36)) (dv (V_ixS (off := O34 + a.toNat * 2) 2 a.toNat V (Sa t0) t0 hv34 Zb k34 Tryz.underlying64 kr V) (dv (V_fa (off' := O34 + a.toNat * 2 + 0) V t0 Tryz.underlying30 V Zj V) (dr (fun _ hx _ => (urd y34.1.1 t0 (SlN.row grC_len (sl_SlN ((S35.grow hx).ro fz14_0)) hv34 hy34 V 0 _ V))) (dv (ule_ t0 (sl_SlN fgy34o.at)) ?_))))))
 have k41 : y34.1.2.length ≤ y39.1.2.length := by omega
 have m41 : y39.1.2.length ≤ y39.1.2.length := by omega
 have f41 := Ro_partR obC_len fgy39o y34.1.2.length y39.1.2.length k41 m41
 replace f41 : Ro w5 Yb14 (rl 2 obC (subS 2 y39.1.1 y34.1.2.length y39.1.2.length) (y39.1.2.drop y34.1.2.length)) := by rw [show (y39.1.2.drop y34.1.2.length).take (y39.1.2.length - y34.1.2.length) = (y39.1.2.drop y34.1.2.length) by first | (simp; done) | exact List.take_of_length_le Zo] at f41; exact f41
 have fn41 := nst_drop fgy39n y34.1.2.length
 refine dv (V_subS 2 y34.1.2.length y39.1.2.length V (Sf t0) (.inr ⟨_, _, rfl, (et V), by omega⟩) (.inl ⟨rfl, rfl⟩) Tryz.underlying28 kr (sl_SlN fgy39o.at) k41 m41) (dv (ule_ t0 (sl_SlN f41.at)) (dm V (ZS_none S35 (Nat.le_refl _) (Nat.le_refl _) (fun s42 hJ42 hL42 hF42 => ?_))))
 have S42 := hJ42.st; clear hF42 hJ42 hL42
 generalize s42.1 = w42 at *
 replace S42 : St w5 Yb14 [] w42 := S42
 refine en (Kc (Qc (Qh F36))) fun A43 Y43 F43 => tk H38 (wp_block ?_)
 -- loop 8
 have hdl : (y39.1.2.drop y34.1.2.length).length ≤ 200 := by rw [List.length_drop]; omega
 have hwf := WF_bd hsm34
 refine loopX (fun mz A' w' => SzN A' 81 ∧ A'.defers = [] ∧ (∃ (k : Nat), (mz = (y39.1.2.drop y34.1.2.length).length - k) ∧ (k ≤ (y39.1.2.drop y34.1.2.length).length) ∧ (EV A' (.tmp 65) = .int .i64 (k : Int)) ∧ (EV A' (.tmp 10) = .int .i64 (WF (gab y34) + smB (y39.1.2.drop y34.1.2.length) k)) ∧ (EV A' (.tmp 63) = EV A43 (.tmp 63)) ∧ (EV A' (.tmp 64) = EV A43 (.tmp 64)) ∧ (St w5 Yb14 [] w'))) ((y39.1.2.drop y34.1.2.length).length - 0) ⟨Y43, F43.d, 0, rfl, Zb, ((fg0 F43).trans Za), ((fg3 F43).trans (by rw [smB_0, Int.add_zero]; rfl)), rfl, rfl, S42⟩ ?_
 clear S42
 rintro n44 A44 w44 ⟨Y44, hdf44, k, hm44, hk, l65_44, l10_44, u63_44, u64_44, S44⟩
 have l63_44 := u63_44.trans (fg2 F43)
 have l64_44 := u64_44.trans (fg1 F43)
 refine tb fun _ H45 => (vl l65_44 l64_44 (W_end (en ((((((ck (FS.n hdf44) V V)).c (es V l10_44)).c (es V l63_44)).c (es V l64_44)).c (Sa l65_44)) fun A46 _ F46 => tc H45 fun _ H47 => cd (fg4 F46) (fun c48 => ?_) fun c48 => ?_)))
 ·refine wp_skip (tc H47 fun _ H49 => wp_block (tb fun _ H50 => ?_))
  have k51 : k < (y39.1.2.drop y34.1.2.length).length := om
  obtain ⟨y51, hy51⟩ := get_some (xs := (y39.1.2.drop y34.1.2.length)) (k := k) k51
  have hsy51 := (SM_drop (m := y34.1.2.length) hsm39).at hy51
  have hbd51 := smB_bd (k := k) (SM_drop (m := y34.1.2.length) hsm39)
  obtain ⟨B51, O51, C51, hv51⟩ := (SlN.blk (sl_SlN f41.at) om)
  refine wv (V_ixS (off := O51 + k * 2) 2 k V (fg2 F46) (fg0 F46) hv51 Zb k51 Tryz.underlying28 kr V) ?_
  have fn52 : Ro w5 Yb14 (il .i64 y51.1.1 y51.1.2) := nst_ro1 fn41 hy51
  have bfn52 := SlN.le (sl_SlN (S44.ro fn52))
  have fn53 : Ro w5 Yb14 (il .u64 y51.2.1 y51.2.2) := nst_ro2 fn41 hy51
  have bfn53 := SlN.le (sl_SlN (S44.ro fn53))
  refine wr (VR_ldR (ys := obC y51) V t0 (SlN.row obC_len (sl_SlN (S44.ro f41)) hv51 hy51 V) Tryz.underlying70 V kr) (wA (#[.slice none 0 0, .slice none 0 0]) S44 (fun g54 w54 c54 hc54 S54 => xsB0 S54 hc54 V V V t0 (Sa t0) (by simp only [List.all_toArray, List.all_cons, List.all_nil, grC, obC, SlN_one (sl_SlN fn52.at), SlN_one (sl_SlN fn53.at)] <;> rfl) (fun w55 c55 hc55 S55 => W_end (en (Ka (Qb F46)) fun A56 _ F56 => tk H50 (region_in (vm (fg4 F56) (fa 0 (Sa (fg0 F56)) (rL y51.1.1 t0 (S55.ob 0 hc55) (le_ t0 (sl_SlN fn52.at) (ad V t0 (fa 1 (Se (fg0 F56)) (rL y51.2.1 t0 (S55.ob 0 hc55) (le_ t0 (sl_SlN fn53.at) (ad (Sc t0) t0 (ad (Sh t0) t0 (vt (W_end (en (Ka (Qb (Qh (fx4 F56)))) fun A57 _ F57 => ?_))))))))))))))))))
  have S58 := S55.se [] []
  refine inb_n (tk H49 (region_in (ad (fg2 F57) V (vm t0 (W_end (en (Ka (Qa (fx2 F57))) fun A59 Y59 F59 => then_n ⟨(y39.1.2.drop y34.1.2.length).length - (k + 1), by simp only [hm44]; omega, Y59, F59.d, (k + 1), rfl, Zb, ((fg0 F59).trans Za), ((fg1 F59).trans (by rw [smB_s hy51, Int.add_assoc])), ((fg4 F59).trans (fg2 F43).symm), ((fg3 F59).trans (fg1 F43).symm), S58⟩))))))
 refine wp_exit (then_exit (then_exit (inb_hit (ta H37 fun _ H60 => (vm (fg3 F46) (vt (vc (W_end (en (Kb (Qa (fx3 F46))) fun A61 _ F61 => tk H60 (wp_ret (rt2 F61 (rv_tmp (fg1 F61)) (rv_tmp (fg0 F61)) ?_)))))))))))
 have h : (lfF (cfE C N Z K Q) (lgN C N Z K Q) K os full a b) = ((WF (gab y34) + smB (y39.1.2.drop y34.1.2.length) k), 0) := lf_k hz_5 Zb hg_5 hy34 hy39 (by rw [List.length_drop] at hk; have := c48; rw [List.length_drop] at this; omega)
 rw [h]
 exact ⟨rfl, (back14 _ _ S44.fin0)⟩

end Go.Proofs.YtpgkfndbfocibaaGreat