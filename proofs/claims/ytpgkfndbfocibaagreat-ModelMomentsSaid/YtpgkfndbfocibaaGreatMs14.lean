import Derived.Test.YtpgkfndbfocibaaGreatProg
import Derived.Test.YtpgkfndbfocibaaGreatSqL
import Derived.Test.YtpgkfndbfocibaaGreatMs13
import Derived.Test.YtpgkfndbfocibaaGreatGh10
namespace Go.Proofs.YtpgkfndbfocibaaGreat
open Go.RowKit Go.Own Go.Own.R Go.Own.G Go.Own.Gr Go.Own.Ml


set_option maxHeartbeats 4000000 in
theorem kcf29_c  {w : World}   :
  Calls Tryz.prog 26 #[] w fun e w' => e = .returned (.agg #[.int .i64 8, .int .i64 8, .int .i64 6, .int .i64 2, .int .i64 2]) ∧ St w NoX [] w' := by
 refine ci0 2 Tryz.func26 V (fun A0 _ F0 => ?_)
 have hS := St.nil w
 refine tb fun _ H1 => (wA (#[.int .i64 0, .int .i64 0, .int .i64 0, .int .i64 0, .int .i64 0]) hS (fun g2 w2 c2 hc2 S2 => W_end (en (Ka F0) fun A3 _ F3 => ta H1 fun _ H4 => (wv (xbS (n := 5) (z := .agg #[.int .i64 0, .int .i64 0, .int .i64 0, .int .i64 0, .int .i64 0]) V (parts5 V V V V V)) (xsA0 S2 hc2 V V V (Sa (fg0 F3)) t0 (fun w5 c5 hc5 S5 => W_end (en (Qa F3) fun A6 _ F6 => tk H4 (wp_ret (rt1 F6 (rvA (fg0 F6) (S5.ob 0 hc5)) ?_)))))))))
 exact ⟨rfl, S5.fin0⟩

set_option maxHeartbeats 4000000 in
theorem kas_29 {ev : Value} {ei : List Int} {w : World} (h_ev : Ro w NoX (il .i64 ev ei)) (hel : ei.length ≤ 1000000) :
  Calls Tryz.prog 28 #[ev] w fun e w' => ∃ v, e = .returned (v) ∧ St w NoX [ro 3 anC (v) (List.map (fun x : Int => AnC.mk x false 0) ei)] w' := by
 refine ci1 20 Tryz.func28 V (fun A0 _ F0 => ?_)
 have hS := St.nil w
 have bh_ev := SlN.le (sl_SlN h_ev.at)
 refine tb fun _ H1 => (vc (W_end (en (Qa F0) fun A2 _ F2 => ta H1 fun _ H3 => (vc (W_end (en (Ka F2) fun A4 _ F4 => tc H3 fun _ H5 => tb fun _ H6 => (vc (W_end (en (Ka F4) fun A7 Y7 F7 => tk H6 (wp_block ?_))))))))))
 obtain ⟨c8, hc8, S8⟩ := hS.pnil (s := 3)
 -- loop 3
 refine loopX (fun mz A' w' => SzN A' 20 ∧ A'.defers = [] ∧ (∃ (k : Nat) (bv : Value), (mz = ei.length - k) ∧ (k ≤ ei.length) ∧ (EV A' (.tmp 4) = .int .i64 (k : Int)) ∧ (EV A' (.tmp 3) = bv) ∧ (EV A' (.tmp 0) = EV A7 (.tmp 0)) ∧ (St w NoX [ro 3 anC bv ((ei.take k).map fun x : Int => AnC.mk x false 0)] w'))) (ei.length - 0) ⟨Y7, F7.d, 0, (.slice none 0 0), rfl, Zb, ((fg0 F7).trans Za), ((fg1 F7).trans Za), rfl, (by have q0 : c8 = ro 3 anC (.slice none 0 0) ((ei.take 0).map fun x : Int => AnC.mk x false 0) := hc8.trans (rfl); subst q0; exact S8)⟩ ?_
 clear S8 hc8
 rintro n9 A9 w9 ⟨Y9, hdf9, k, bv, hm9, hk, l4_9, l3_9, u0_9, S9⟩
 have l0_9 := u0_9.trans (fg2 F7)
 obtain ⟨c8_9, hc8_9, S9⟩ := gen1 S9
 refine td fun _ H10 => tb fun _ H11 => (vm l4_9 (vm (Sa l0_9) (le_ t0 (sl_SlN h_ev.at) (vl (Sb t0) t0 (W_end (en (((((ck (cq3 (FS.n hdf9) V) V V)).c (es4 V l0_9)).c (es4 V l3_9)).c (Sd l4_9)) fun A12 _ F12 => tk H11 (cd (fg3 F12) (fun c13 => ?_) fun c13 => ?_)))))))
 ·refine wp_skip (tc H10 fun _ H14 => wp_block (region_in (vm (fg1 F12) (vm (Sa (fg2 F12)) (vm (Sb (fg0 F12)) ?_)))))
  have k15 : k < ei.length := om
  obtain ⟨y15, hy15⟩ := get_some (xs := ei) (k := k) k15
  obtain ⟨B15, O15, C15, hv15⟩ := (SlN.blk (sl_SlN h_ev.at) om)
  refine wv (V_ixS (off := O15 + k) 1 k V (Sa t0) t0 hv15 Zb k15 Tryz.underlying93 kr (congrArg _ (Nat.mul_one _))) (rc t0 ((sl_SlN (S9.ro h_ev)).cell hv15 (map_get hy15)) (wv (xbS (n := 3) (z := .agg #[.int .i64 0, .bool false, .int .u64 0]) V (parts1 t0)) ?_))
  have hll16 : [(AnC.mk y15 false 0)].length = 1 := rfl
  refine xsL (vs := [.agg #[.int .i64 (y15), .bool false, .int .u64 0]]) (xs := ([(AnC.mk y15 false 0)].flatMap anC)) 3 S9 V V V (parts1 t0) Tryz.underlying31 (fun g16 w16 c16 hc16 S16 => ?_)
  replace hc16 : c16 = ro 3 anC (.slice (some ⟨g16, 0, none⟩) 1 1) [(AnC.mk y15 false 0)] := hc16
  replace S16 : St w NoX [c16, c8_9] w16 := S16
  refine W_appS 3 1 S16 V hc8_9 V V V (Sf t0) t0 Tryz.underlying31 Tryz.underlying31 (z := .agg #[.int .i64 0, .bool false, .int .u64 0]) (bytes := 24) kr V Zg (ow_at (S16.cq 0 hc16)) (ones_r anC_one) Zv Zv (fun v17 w17 c17 hc17 S17 => ?_)
  replace hc17 : c17 = ro 3 anC v17 (((ei.take k).map fun x : Int => AnC.mk x false 0) ++ [(AnC.mk y15 false 0)]) := hc17.trans (app_eqR Zc)
  replace S17 : St w NoX [c16, c17] w17 := S17
  refine vt (W_end (en (Ka (Qh (fx1 F12))) fun A18 _ F18 => ?_))
  have S19 := S17.se [1] [c17]
  refine inb_n (tk H14 (region_in (vm (fg1 F18) (ad t0 V (vt (W_end (en (Ka (Qb (fx1 F18))) fun A20 Y20 F20 => then_n ⟨ei.length - (k + 1), by simp only [hm9]; omega, Y20, F20.d, (k + 1), v17, rfl, Zb, ((fg0 F20).trans Za), ((fg1 F20).trans Za), ((fg2 F20).trans (fg2 F7).symm), (by have q0 : c17 = ro 3 anC v17 ((ei.take (k + 1)).map fun x : Int => AnC.mk x false 0) := hc17.trans ((congrArg (ro 3 anC _) (Ml.tk_snoc hy15).symm)); subst q0; exact S19)⟩)))))))
 refine wp_exit (then_exit (then_exit (inb_hit (ta H5 fun _ H21 => (vm (fg1 F12) (vt (W_end (en (Ka (Qa F12)) fun A22 _ F22 => tk H21 (wp_ret (rt1 F22 (rv_tmp (fg0 F22)) ?_))))))))))
 exact ⟨_, rfl, (S9.f1 0 (hc8_9.trans (by rw [List.take_of_length_le Zb])))⟩

set_option maxHeartbeats 4000000 in
theorem ksm29_c {xv : Value} {xs : List AnC} {yv : Value} {ys : List AnC} {w : World} (h_xv : Ro w NoX (rl 3 anC xv xs)) (h_yv : Ro w NoX (rl 3 anC yv ys))  :
  Calls Tryz.prog 14 #[xv, yv] w fun e w' => e = .returned (.bool (decide (xs = ys))) ∧ St w NoX [] w' := by
 refine ci2 26 Tryz.func14 V (fun A0 _ F0 => ?_)
 have hS := St.nil w
 have bh_xv := SlN.le (sl_SlN h_xv.at)
 have bh_yv := SlN.le (sl_SlN h_yv.at)
 refine tb fun _ H1 => (vc (W_end (en (Qa F0) fun A2 _ F2 => tc H1 fun _ H3 => tb fun _ H4 => (vm (fg0 F2) (le_ t0 (sl_SlN h_xv.at) (vm (Sb (fg1 F2)) (le_ t0 (sl_SlN h_yv.at) (vn (Sb t0) t0 (W_end (en (Ka (Qd F2)) fun A5 _ F5 => tk H4 (cd (fg0 F5) (fun c6 => ?_) fun c6 => ?_)))))))))))
 ·refine tb fun _ H7 => (vc (W_end (en (Ka F5) fun A8 _ F8 => tk H7 (wp_ret (then_ret (rt1 F8 (rv_tmp (fg0 F8)) ?_))))))
  rw [decide_eq_false (show ¬ xs = ys from fun q => absurd (congrArg List.length q) Zb)]
  exact ⟨rfl, hS.fin0⟩
 have hl : xs.length = ys.length := by omega
 refine wp_skip (tc H3 fun _ H9 => tb fun _ H10 => (vc (W_end (en (Ka F5) fun A11 Y11 F11 => tk H10 (wp_block ?_)))))
 -- loop 4
 refine loopX (fun mz A' w' => SzN A' 26 ∧ A'.defers = [] ∧ (∃ (k : Nat), (mz = xs.length - k) ∧ (k ≤ xs.length) ∧ (∀ i, i < k → xs[i]? = ys[i]?) ∧ (EV A' (.tmp 5) = .int .i64 (k : Int)) ∧ (EV A' (.tmp 0) = EV A11 (.tmp 0)) ∧ (EV A' (.tmp 1) = EV A11 (.tmp 1)) ∧ (St w NoX [] w'))) (xs.length - 0) ⟨Y11, F11.d, 0, rfl, Zb, (fun i hi => by omega), ((fg0 F11).trans Za), rfl, rfl, hS⟩ ?_
 clear hS
 rintro n12 A12 w12 ⟨Y12, hdf12, k, hm12, hk, hz, l5_12, u0_12, u1_12, S12⟩
 have l0_12 := u0_12.trans (fg2 F11)
 have l1_12 := u1_12.trans (fg3 F11)
 refine td fun _ H13 => tb fun _ H14 => (vm l5_12 (vm (Sa l0_12) (le_ t0 (sl_SlN h_xv.at) (vl (Sb t0) t0 (W_end (en (((((ck (cq3 (FS.n hdf12) V) V V)).c (es4 V l0_12)).c (es4 V l1_12)).c (Sd l5_12)) fun A15 _ F15 => tk H14 (cd (fg3 F15) (fun c16 => ?_) fun c16 => ?_)))))))
 ·refine wp_skip (tc H13 fun _ H17 => wp_block (td fun _ H18 => region_monoS 9 9 [] kr kr (dm (fg2 F15) (dm (Sa (fg0 F15)) ?_))))
  have k19 : k < xs.length := om
  obtain ⟨y19, hy19⟩ := get_some (xs := xs) (k := k) k19
  obtain ⟨B19, O19, C19, hv19⟩ := (SlN.blk (sl_SlN h_xv.at) om)
  refine dv (V_ixS (off := O19 + k * 3) 3 k V (Sa t0) t0 hv19 Zb k19 Tryz.underlying31 kr V) (dr (fun sx hx hF => (VR_ldR (ys := anC y19) V t0 (SlN.row anC_len (sl_SlN ((S12.grow hx).ro h_xv)) hv19 hy19 V) Tryz.underlying54 V kr)) (dm (Sd (fg1 F15)) (dm (Se (fg0 F15)) ?_)))
  have k20 : k < ys.length := om
  obtain ⟨y20, hy20⟩ := get_some (xs := ys) (k := k) k20
  obtain ⟨B20, O20, C20, hv20⟩ := (SlN.blk (sl_SlN h_yv.at) om)
  refine dv (V_ixS (off := O20 + k * 3) 3 k V (Sa t0) t0 hv20 Zb k20 Tryz.underlying31 kr V) (dr (fun sx hx hF => (VR_ldR (ys := anC y20) V t0 (SlN.row anC_len (sl_SlN ((S12.grow hx).ro h_yv)) hv20 hy20 V) Tryz.underlying54 V kr)) (dv (V_neStA V (Sd t0) t0 kr) (ZS_none S12 (Nat.le_refl _) (Nat.le_refl _) (fun s21 hJ21 hL21 hF21 => ?_))))
  have S21 := hJ21.st; clear hF21 hJ21 hL21
  generalize s21.1 = w21 at *
  replace S21 : St w NoX [] w21 := S21
  refine en (Ka (Qh F15)) fun A22 _ F22 => tk H18 (cd (fg0 F22) (fun c23 => ?_) fun c23 => ?_)
  ·refine tb fun _ H24 => (vc (W_end (en (Ka F22) fun A25 _ F25 => tk H24 (wp_ret (inb_ret (then_ret (then_ret (inb_ret (then_ret (rt1 F25 (rv_tmp (fg0 F25)) ?_))))))))))
   rw [decide_eq_false (show ¬ xs = ys from eqA_ne hy19 hy20 (fun q => c23 (anIff.1 q)))]
   exact ⟨rfl, S21.fin0⟩
  refine wp_skip (inb_n (tk H17 (region_in (vm (fg1 F22) (ad t0 V (vt (W_end (en (Ka (Qb (fx1 F22))) fun A26 Y26 F26 => then_n ⟨xs.length - (k + 1), by simp only [hm12]; omega, Y26, F26.d, (k + 1), rfl, Zb, (eqA_step hz hy19 hy20 (anIff.2 (by simpa using c23))), ((fg0 F26).trans Za), ((fg3 F26).trans (fg2 F11).symm), ((fg2 F26).trans (fg3 F11).symm), S21⟩))))))))
 refine wp_exit (then_exit (then_exit (inb_hit (ta H9 fun _ H27 => (vc (W_end (en (Ka F15) fun A28 _ F28 => tk H27 (wp_ret (rt1 F28 (rv_tmp (fg0 F28)) ?_)))))))))
 rw [decide_eq_true (show xs = ys from eqA_all hl Zb hz)]
 exact ⟨rfl, S12.fin0⟩

set_option maxHeartbeats 4000000 in
theorem kfar_c {lv : Value} {os : List OpC} {fv : Value} {full : List Int} {w : World} (h_lv : Ro w NoX (rl 7 opC lv os)) (h_fv : Ro w NoX (il .i64 fv full))  :
  Calls Tryz.prog 7 #[lv, fv] w fun e w' => e = .returned (.bool (decide ((25 < os.length ∧ os.length ≤ 200) ∨ 205 < os.length ∨ 30 < full.length))) ∧ St w NoX [] w' := by
 refine ci2 23 Tryz.func7 V (fun A0 _ F0 => ?_)
 have hS := St.nil w
 have bh_lv := SlN.le (sl_SlN h_lv.at)
 have bh_fv := SlN.le (sl_SlN h_fv.at)
 refine tb fun _ H1 => (vc (W_end (en (Qa F0) fun A2 _ F2 => ta H1 fun _ H3 => (vm (fg0 F2) (le_ t0 (sl_SlN h_lv.at) (vg t0 V (W_split V V (V_mov V t0) (fun c4 => ?_) (fun c4 => ?_))))))))
 ·refine wg V t0 (uvm (Sd (fg0 F2))) (wg V (Sa t0) (ule_ t0 (sl_SlN h_lv.at)) (wg V (Sb t0) (uvk t0 V) (vT (Sc t0) t0 (W_split V V (V_mov V t0) (fun c5 => ?_) (fun c5 => ?_)))))
  ·refine xo V t0 (xo V (Sa t0) (xo V (Sb t0) (vT (Sc t0) V (vm t0 (xo V t0 (xo V (Sa t0) (xo V (Sb t0) (vT (Sc t0) V (vt (W_end (en (Ka (Qb (Qh (Qh F2)))) fun A6 _ F6 => tk H3 (wp_ret (rt1 F6 (rv_tmp (fg0 F6)) ?_)))))))))))))
   rw [show (decide ((25 < os.length ∧ os.length ≤ 200) ∨ 205 < os.length ∨ 30 < full.length)) = true from decide_eq_true Zb]
   exact ⟨rfl, hS.fin0⟩
  refine wg V t0 (uvm (Sh (Sa (fg0 F2)))) (wg V (Sa t0) (ule_ t0 (sl_SlN h_lv.at)) (wg V (Sb t0) (uvg t0 V) (vF (Sc t0) t0 (W_split V V (V_mov V t0) (fun c7 => ?_) (fun c7 => ?_)))))
  ·refine xo V t0 (xo V (Sa t0) (xo V (Sb t0) (vT (Sc t0) V (vt (W_end (en (Ka (Qb (Qh (Qh F2)))) fun A8 _ F8 => tk H3 (wp_ret (rt1 F8 (rv_tmp (fg0 F8)) ?_))))))))
   rw [show (decide ((25 < os.length ∧ os.length ≤ 200) ∨ 205 < os.length ∨ 30 < full.length)) = true from decide_eq_true Zb]
   exact ⟨rfl, hS.fin0⟩
  refine wg V t0 (uvm (Sh (Sf (fg1 F2)))) (wg V (Sa t0) (ule_ t0 (sl_SlN h_fv.at)) (wg V (Sb t0) (uvg t0 V) (vF (Sc t0) t0 (vt (W_end (en (Ka (Qb (Qh (Qh F2)))) fun A9 _ F9 => tk H3 (wp_ret (rt1 F9 (rv_tmp (fg0 F9)) ?_))))))))
  rw [show (decide ((25 < os.length ∧ os.length ≤ 200) ∨ 205 < os.length ∨ 30 < full.length)) = decide (30 < (full.length : Int)) from decide_eq_decide.2 Zb]
  exact ⟨rfl, hS.fin0⟩
 refine xo V t0 (xo V (Sa t0) (xo V (Sb t0) (vF (Sc t0) V (vm t0 (wg V t0 (uvm (Sh (Sa (fg0 F2)))) (wg V (Sa t0) (ule_ t0 (sl_SlN h_lv.at)) (wg V (Sb t0) (uvg t0 V) (vF (Sc t0) t0 (W_split V V (V_mov V t0) (fun c10 => ?_) (fun c10 => ?_))))))))))
 ·refine xo V t0 (xo V (Sa t0) (xo V (Sb t0) (vT (Sc t0) V (vt (W_end (en (Ka (Qb (Qh (Qh F2)))) fun A11 _ F11 => tk H3 (wp_ret (rt1 F11 (rv_tmp (fg0 F11)) ?_))))))))
  rw [show (decide ((25 < os.length ∧ os.length ≤ 200) ∨ 205 < os.length ∨ 30 < full.length)) = true from decide_eq_true Zb]
  exact ⟨rfl, hS.fin0⟩
 refine wg V t0 (uvm (Sh (Sf (fg1 F2)))) (wg V (Sa t0) (ule_ t0 (sl_SlN h_fv.at)) (wg V (Sb t0) (uvg t0 V) (vF (Sc t0) t0 (vt (W_end (en (Ka (Qb (Qh (Qh F2)))) fun A12 _ F12 => tk H3 (wp_ret (rt1 F12 (rv_tmp (fg0 F12)) ?_))))))))
 rw [show (decide ((25 < os.length ∧ os.length ≤ 200) ∨ 205 < os.length ∨ 30 < full.length)) = decide (30 < (full.length : Int)) from decide_eq_decide.2 Zb]
 exact ⟨rfl, hS.fin0⟩

set_option maxHeartbeats 4000000 in
theorem kshn_c  {w : World}   :
  Calls Tryz.prog 8 #[] w fun e w' => e = .returned (.bool true) ∧ St w NoX [] w' := by
 refine ci0 118 Tryz.func8 V (fun A0 _ F0 => ?_)
 have hS := St.nil w
 refine tb fun _ H1 => (vc (W_end (en (Qa F0) fun A2 _ F2 => ta H1 fun _ H3 => (wc args0 (kcf29_c  ) (C0 hS fun w4 S4 => wc args0 (scr_c  ) (fun _ w5 ⟨v_5, e, hP5⟩ => ⟨_, e, ?_⟩))))))
 obtain ⟨c_5, hc_5, hP5⟩ := gen1 hP5
 have S5 := S4.j1 hP5
 refine wA (#[.int .i64 0, .int .i64 0, .int .i64 0, .int .i64 0, .int .i64 0]) S5 (fun g6 w6 c6 hc6 S6 => xsA0 S6 hc6 V V V t0 (Sb t0) (fun w7 c7 hc7 S7 => va (Sa t0) (W_end (en (Kb (Qb F2)) fun A8 _ F8 => ta H3 fun _ H9 => (ra (fg1 F8) (S7.ob 0 hc7) (vm (Sa (fg0 F8)) (wc (args3 (Sa t0) t0 V) (kPl_c (C := 8) (N := 8) (Z := 6) (K := 2) (Q := 2) (full := []) (fv := .slice none 0 0) (S7.cC 1 hc_5).own ro_nil) ?_)))))))
 rintro _ w10 (⟨rfl, hz_10, hP10⟩ | ⟨G_10, av_10, rfl, hz_10, hg_10, hP10⟩)
 ·refine ⟨_, rfl, ?_⟩
  have S10 := S7.j0 hP10
  exact absurd Zj hz_10
 refine ⟨_, rfl, ?_⟩
 obtain ⟨cK_10, cA_10, hcK_10, hcA_10, hP10⟩ := gen2 hP10
 have S10 := S7.j2 hP10
 refine vm t0 (vx (.agg #[G_10.1.1, G_10.2.1]) t0 (vx av_10 (Sa t0) (vx (.int .i64 0) (Sb t0) (vx (.int .i64 0) (Sc t0) (wA (#[.slice none 0 0, .slice none 0 0]) S10 (fun g11 w11 c11 hc11 S11 => xsB0 S11 hc11 V V V t0 (Sd t0) (by simp only [List.all_toArray, List.all_cons, List.all_nil, SlN_one (sl_SlN (gl_oa m1 (S11.cq 1 hcK_10))), SlN_one (sl_SlN (gl_ra m1 (S11.cq 1 hcK_10)))] <;> rfl) (fun w12 c12 hc12 S12 => va (Sc t0) (va (Sc t0) (va (Sc t0) (W_end (en (Ka (Qa (Ka (Qa (Qh F8))))) fun A13 _ F13 => ?_)))))))))))
 have S14 := S12.se [1, 2, 3, 4] [cK_10, cA_10, c7, c_5]
 refine ta H9 fun _ H15 => (ra (fg3 F13) (S14.ob 2 hc7) (vm (Sa (fg2 F13)) (wc (args3 (Sa t0) t0 V) (kLi_c (C := 8) (N := 8) (Z := 6) (K := 2) (Q := 2) (full := []) (fv := .slice none 0 0) (S14.cC 3 hc_5).own ro_nil) ?_)))
 rintro _ w16 (⟨rfl, hz_16, hP16⟩ | ⟨lw_16, rfl, hz_16, hP16⟩)
 ·refine ⟨_, rfl, ?_⟩
  have S16 := S14.j0 hP16
  exact absurd Zj hz_16
 refine ⟨_, rfl, ?_⟩
 obtain ⟨cL_16, hcL_16, hP16⟩ := gen1 hP16
 have S16 := S14.j1 hP16
 refine vm t0 (vx lw_16 t0 (vx (.int .i64 0) (Sa t0) (va (Sa t0) (va (Sa t0) (W_end (en (Kb (Qf F13)) fun A17 _ F17 => ta H15 fun _ H18 => (ra (fg5 F17) (S16.ob 3 hc7) (vm (Sa (fg4 F17)) (wc (args5 (Sa t0) t0 V V V) (kLf_c (C := 8) (N := 8) (Z := 6) (K := 2) (Q := 2) (full := []) (fv := .slice none 0 0) (a := 4) (b := 8) (S16.cC 4 hc_5).own ro_nil) (C0 S16 fun w19 S19 => vm t0 (vx (.int .i64 ((lfF (cfE 8 8 6 2 2) (lgN 8 8 6 2 2) 2 scr [] 4 8).1)) t0 (vx (.int .i64 ((lfF (cfE 8 8 6 2 2) (lgN 8 8 6 2 2) 2 scr [] 4 8).2)) (Sa t0) (va (Sa t0) (va (Sa t0) (W_end (en (Kb (Qf F17)) fun A20 _ F20 => ta H18 fun _ H21 => (ra (fg7 F20) (S19.ob 3 hc7) (vm (Sa (fg6 F20)) (wc (args5 (Sa t0) t0 V V V) (kLf_c (C := 8) (N := 8) (Z := 6) (K := 2) (Q := 2) (full := []) (fv := .slice none 0 0) (a := 6) (b := 8) (S19.cC 4 hc_5).own ro_nil) (C0 S19 fun w22 S22 => vm t0 (vx (.int .i64 ((lfF (cfE 8 8 6 2 2) (lgN 8 8 6 2 2) 2 scr [] 6 8).1)) t0 (vx (.int .i64 ((lfF (cfE 8 8 6 2 2) (lgN 8 8 6 2 2) 2 scr [] 6 8).2)) (Sa t0) (va (Sa t0) (va (Sa t0) (W_end (en (Kb (Qf F20)) fun A23 _ F23 => ta H21 fun _ H24 => (ra (fg9 F23) (S22.ob 3 hc7) (vm (Sa (fg8 F23)) ?_))))))))))))))))))))))))))))
 have hll25 : [1].length = 1 := rfl
 refine xsL (vs := [.int .i64 1]) (xs := ([1].map (Value.int .i64))) 1 S22 V V V (parts1 V) Tryz.underlying25 (fun g25 w25 c25 hc25 S25 => ?_)
 replace hc25 : c25 = io .i64 (.slice (some ⟨g25, 0, none⟩) 1 1) [1] := hc25
 replace S25 : St w NoX [c25, cL_16, cK_10, cA_10, c7, c_5] w25 := S25
 refine wc (args3 (Sb t0) (Sa t0) t0) (kPl_c (C := 8) (N := 8) (Z := 6) (K := 2) (Q := 2) (S25.cC 5 hc_5).own (S25.cC 0 hc25).own) ?_
 rintro _ w26 (⟨rfl, hz_26, hP26⟩ | ⟨G_26, av_26, rfl, hz_26, hg_26, hP26⟩)
 ·refine ⟨_, rfl, ?_⟩
  have S26 := S25.j0 hP26
  exact absurd Zj hz_26
 refine ⟨_, rfl, ?_⟩
 obtain ⟨cK_26, cA_26, hcK_26, hcA_26, hP26⟩ := gen2 hP26
 have S26 := S25.j2 hP26
 refine vm t0 (vx (.agg #[G_26.1.1, G_26.2.1]) t0 (vx av_26 (Sa t0) (vx (.int .i64 0) (Sb t0) (vx (.int .i64 0) (Sc t0) (wA (#[.slice none 0 0, .slice none 0 0]) S26 (fun g27 w27 c27 hc27 S27 => xsB0 S27 hc27 V V V t0 (Sd t0) (by simp only [List.all_toArray, List.all_cons, List.all_nil, SlN_one (sl_SlN (gl_oa m1 (S27.cq 1 hcK_26))), SlN_one (sl_SlN (gl_ra m1 (S27.cq 1 hcK_26)))] <;> rfl) (fun w28 c28 hc28 S28 => va (Sc t0) (va (Sc t0) (va (Sc t0) (W_end (en (Ka (Qa (Ka (Qb (Qh F23))))) fun A29 _ F29 => ?_)))))))))))
 have S30 := S28.se [1, 2, 4, 5, 6, 7, 8] [cK_26, cA_26, cL_16, cK_10, cA_10, c7, c_5]
 refine ta H24 fun _ H31 => (ra (fg11 F29) (S30.ob 5 hc7) (vm (Sa (fg10 F29)) ?_))
 have hll32 : [2].length = 1 := rfl
 refine xsL (vs := [.int .i64 2]) (xs := ([2].map (Value.int .i64))) 1 S30 V V V (parts1 V) Tryz.underlying25 (fun g32 w32 c32 hc32 S32 => ?_)
 replace hc32 : c32 = io .i64 (.slice (some ⟨g32, 0, none⟩) 1 1) [2] := hc32
 replace S32 : St w NoX [c32, cK_26, cA_26, cL_16, cK_10, cA_10, c7, c_5] w32 := S32
 refine wc (args3 (Sb t0) (Sa t0) t0) (kPl_c (C := 8) (N := 8) (Z := 6) (K := 2) (Q := 2) (S32.cC 7 hc_5).own (S32.cC 0 hc32).own) ?_
 rintro _ w33 (⟨rfl, hz_33, hP33⟩ | ⟨G_33, av_33, rfl, hz_33, hg_33, hP33⟩)
 ·refine ⟨_, rfl, ?_⟩
  have S33 := S32.j0 hP33
  refine vm t0 (vx (.agg #[.slice none 0 0, .slice none 0 0]) t0 (vx (.slice none 0 0) (Sa t0) (vx (.int .i64 ((plF (cfE 8 8 6 2 2) (lgN 8 8 6 2 2) 2 scr [2]).1)) (Sb t0) (vx (.int .i64 ((plF (cfE 8 8 6 2 2) (lgN 8 8 6 2 2) 2 scr [2]).2)) (Sc t0) (wA (#[.slice none 0 0, .slice none 0 0]) S33 (fun g34 w34 c34 hc34 S34 => xsA0 S34 hc34 V V V t0 (Sd t0) (fun w35 c35 hc35 S35 => va (Sc t0) (va (Sc t0) (va (Sc t0) (W_end (en (Kb (Qc (Qh F29))) fun A36 _ F36 => ?_)))))))))))
  have S37 := S35.se [2, 3, 4, 5, 6] [cK_26, cA_26, cL_16, cK_10, cA_10]
  refine ta H31 fun _ H38 => (vm (fg11 F36) ?_)
  have hll39 : [0, 0, 0, 0, 0, 0, 11, 10].length = 8 := rfl
  refine xsL (vs := [.int .i64 0, .int .i64 0, .int .i64 0, .int .i64 0, .int .i64 0, .int .i64 0, .int .i64 11, .int .i64 10]) (xs := ([0, 0, 0, 0, 0, 0, 11, 10].map (Value.int .i64))) 1 S37 V V V (parts8 V V V V V V V V) Tryz.underlying93 (fun g39 w39 c39 hc39 S39 => ?_)
  replace hc39 : c39 = io .i64 (.slice (some ⟨g39, 0, none⟩) 8 8) [0, 0, 0, 0, 0, 0, 11, 10] := hc39
  replace S39 : St w NoX [c39, cK_26, cA_26, cL_16, cK_10, cA_10] w39 := S39
  refine wc (args1 t0) (kas_29 (S39.cC 0 hc39).own Zw) (fun _ w40 ⟨v_40, e, hP40⟩ => ⟨_, e, ?_⟩)
  obtain ⟨c_40, hc_40, hP40⟩ := gen1 hP40
  have S40 := S39.j1 hP40
  refine wc (args2 (Sb t0) t0) (ksm29_c (S40.cC 6 hcA_10).own (S40.cC 0 hc_40).own) (C0 S40 fun w41 S41 => W_sure (c' := true) V V (V_mov V t0) Zj (wg V t0 (uvm (Se (fg10 F36))) (wg V (Sa t0) (uve t0 V) (vT (Sb t0) t0 (W_sure (c' := true) V V (V_mov V t0) Zo (wg V t0 (uvm (Sh (Sa (fg9 F36)))) ?_))))))
  have hll42 : [0, 3, 5, 5, 5, 5, 2, 2, 2].length = 9 := rfl
  refine xsL (vs := [.int .i64 0, .int .i64 3, .int .i64 5, .int .i64 5, .int .i64 5, .int .i64 5, .int .i64 2, .int .i64 2, .int .i64 2]) (xs := ([0, 3, 5, 5, 5, 5, 2, 2, 2].map (Value.int .i64))) 1 S41 V (xwt V V (Sa t0)) V (parts9 V V V V V V V V V) Tryz.underlying25 (fun g42 w42 c42 hc42 S42 => ?_)
  replace hc42 : c42 = io .i64 (.slice (some ⟨g42, 0, none⟩) 9 9) [0, 3, 5, 5, 5, 5, 2, 2, 2] := hc42
  replace S42 : St w NoX [c42, c_40, c39, cK_26, cA_26, cL_16, cK_10, cA_10] w42 := S42
  refine W_call V (xwt V V (Sb t0)) V Tryz.func15 kr V (args2 (Sa t0) t0) (qInts_c (S42.cC 5 hcL_16).own (S42.cC 0 hc42).own) (C0 S42 fun w43 S43 => vT (Sc t0) t0 (W_sure (c' := true) V V (V_mov V t0) Zj (wg V t0 (uvm (Sh (Sf (fg8 F36)))) (wg V (Sa t0) (uve t0 V) (vT (Sb t0) t0 (W_sure (c' := true) V V (V_mov V t0) Zo (wg V t0 (uvm (Sh (Sh (Sb (fg7 F36))))) (wg V (Sa t0) (uve t0 V) (vT (Sb t0) t0 (W_sure (c' := true) V V (V_mov V t0) Zj (wg V t0 (uvm (Sh (Sh (Sf (fg6 F36))))) (wg V (Sa t0) (uve t0 V) (vT (Sb t0) t0 (W_sure (c' := true) V V (V_mov V t0) Zj (wg V t0 (uvm (Sh (Sh (Sh (Sb (fg5 F36)))))) (wg V (Sa t0) (uve t0 V) (vT (Sb t0) t0 (W_sure (c' := true) V V (V_mov V t0) Zj (wg V t0 (uvm (Sh (Sh (Sh (Sf (fg4 F36)))))) (wg V (Sa t0) (uve t0 V) (vT (Sb t0) t0 (W_sure (c' := true) V V (V_mov V t0) Zj (wg V t0 (uvm (Sh (Sh (Sh (Sh (Sb (fg3 F36))))))) ?_)))))))))))))))))))))))
  have hll44 : [0, 5, 0, 0, 0, 0, 11, 10].length = 8 := rfl
  refine xsL (vs := [.int .i64 0, .int .i64 5, .int .i64 0, .int .i64 0, .int .i64 0, .int .i64 0, .int .i64 11, .int .i64 10]) (xs := ([0, 5, 0, 0, 0, 0, 11, 10].map (Value.int .i64))) 1 S43 V (xwt V V (Sa t0)) V (parts8 V V V V V V V V) Tryz.underlying93 (fun g44 w44 c44 hc44 S44 => ?_)
  replace hc44 : c44 = io .i64 (.slice (some ⟨g44, 0, none⟩) 8 8) [0, 5, 0, 0, 0, 0, 11, 10] := hc44
  replace S44 : St w NoX [c44, c42, c_40, c39, cK_26, cA_26, cL_16, cK_10, cA_10] w44 := S44
  refine W_call V (xwt V V (Sb t0)) V Tryz.func28 kr V (args1 t0) (kas_29 (S44.cC 0 hc44).own Zw) (fun _ w45 ⟨v_45, e, hP45⟩ => ⟨_, e, ?_⟩)
  obtain ⟨c_45, hc_45, hP45⟩ := gen1 hP45
  have S45 := S44.j1 hP45
  refine W_call V (xwt V V (Sc t0)) V Tryz.func14 kr V (args2 (Sb t0) t0) (ksm29_c (S45.cC 6 hcA_26).own (S45.cC 0 hc_45).own) (C0 S45 fun w46 S46 => vT (Sd t0) t0 (W_sure (c' := true) V V (V_mov V t0) Zj (wg V t0 (uvm (Sh (Sh (Sh (Sh (Sh (fg2 F36))))))) (wg V (Sa t0) (uve t0 V) (vT (Sb t0) t0 (W_sure (c' := true) V V (V_mov V t0) Zo (wg V t0 (uvm (Sh (Sh (Sh (Sh (Sh (Sd (fg1 F36)))))))) (wg V (Sa t0) (uve t0 V) (vT (Sb t0) t0 (W_sure (c' := true) V V (V_mov V t0) Zj (wg V t0 (uvm (Sh (Sh (Sh (Sh (Sh (Sh (fg0 F36)))))))) (wg V (Sa t0) (uve t0 V) (vT (Sb t0) t0 (vt (W_end (en (Ka (Qc (Qh (Qh (Qh (Qh (Qh (Qh F36)))))))) fun A47 _ F47 => tk H38 (wp_ret (rt1 F47 (rv_tmp (fg0 F47)) ?_))))))))))))))))))
  rw [show true = decide ((plF (cfE 8 8 6 2 2) (lgN 8 8 6 2 2) 2 scr [2]).2 = 2) by first | rfl | decide +kernel]
  exact ⟨rfl, S46.fin0⟩
 refine ⟨_, rfl, ?_⟩
 obtain ⟨cK_33, cA_33, hcK_33, hcA_33, hP33⟩ := gen2 hP33
 have S33 := S32.j2 hP33
 exact absurd hz_33 Zj

end Go.Proofs.YtpgkfndbfocibaaGreat