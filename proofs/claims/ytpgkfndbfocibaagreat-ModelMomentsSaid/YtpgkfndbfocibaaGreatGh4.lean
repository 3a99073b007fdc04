import Derived.Test.YtpgkfndbfocibaaGreatProg
import Derived.Test.YtpgkfndbfocibaaGreatSqL
import Derived.Test.YtpgkfndbfocibaaGreatPl15c
import Derived.Test.YtpgkfndbfocibaaGreatSepE
import Derived.Test.YtpgkfndbfocibaaGreatSepU
import Derived.Test.YtpgkfndbfocibaaGreatSepX
import Derived.Test.YtpgkfndbfocibaaGreatPl15d
import Derived.Test.YtpgkfndbfocibaaGreatSepG
import Derived.Test.YtpgkfndbfocibaaGreatPl15e
import Derived.Test.YtpgkfndbfocibaaGreatSepZ
namespace Go.Proofs.YtpgkfndbfocibaaGreat
open Go.RowKit Go.Own Go.Own.R Go.Own.G Go.Own.Gr


set_option maxHeartbeats 4000000 in
theorem kck1_c {x n : Int} {gn : Nat} {w : World} (hb_n : Ro w NoX (bx gn 3 #[.int .i64 n]))  :
  Calls Tryz.prog 59 #[.int .i64 x, .pointer (some ⟨gn, 0, none⟩)] w fun e w' => e = .returned (.bool (decide (x < 0 ∨ n < x))) ∧ St w NoX [] w' := by
 refine ci2 11 Tryz.func59 V (fun A0 _ F0 => ?_)
 have hS := St.nil w
 refine tb fun _ H1 => (vc (W_end (en (Qa F0) fun A2 _ F2 => ta H1 fun _ H3 => (vm (fg0 F2) (vl t0 V (W_split V V (V_mov V t0) (fun c4 => ?_) (fun c4 => ?_)))))))
 ·refine xo V t0 (xo V (Sa t0) (xo V (Sb t0) (vT (Sc t0) V (vt (W_end (en (Ka (Qg F2)) fun A5 _ F5 => tk H3 (wp_ret (rt1 F5 (rv_tmp (fg0 F5)) ?_))))))))
  rw [show (decide (x < 0 ∨ n < x)) = true by exact decide_eq_true Zb]
  exact ⟨rfl, hS.fin0⟩
 refine wg V t0 (uvm (Sc (fg0 F2))) (wq V (Sa t0) (urc (Sd (fg1 F2)) (cell_box (v := .int .i64 (n)) (ob_at (hS.ro hb_n)) V)) (wg V (Sb t0) (uvg (Sa t0) t0) (vF (Sc t0) t0 (vt (W_end (en (Ka (Qg F2)) fun A6 _ F6 => tk H3 (wp_ret (rt1 F6 (rv_tmp (fg0 F6)) ?_))))))))
 rw [show (decide (x < 0 ∨ n < x)) = decide (n < x) by exact decide_eq_decide.2 Zb]
 exact ⟨rfl, hS.fin0⟩

set_option maxHeartbeats 4000000 in
theorem kix_c {rv : Value} {l : List Int} {n : Int} {gn : Nat} {w : World} (h_rv : Ro w NoX (il .i64 rv l)) (hb_n : Ro w NoX (bx gn 3 #[.int .i64 n]))  :
  Calls Tryz.prog 98 #[rv, .func (.func 59) #[] #[.pointer (some ⟨gn, 0, none⟩)]] w fun e w' => e = .returned (.int .i64 (idxFG (fun x => decide (x < 0 ∨ n < x)) l)) ∧ St w NoX [] w' := by
 refine ci2 19 Tryz.func98 V (fun A0 _ F0 => ?_)
 have hS := St.nil w
 have bh_rv := SlN.le (sl_SlN h_rv.at)
 refine tb fun _ H1 => (vc (W_end (en (Qa F0) fun A2 Y2 F2 => tc H1 fun _ H3 => tb fun _ H4 => (vm (fg0 F2) (le_ t0 (sl_SlN h_rv.at) (vm V (W_end (eN (Ka (Qb F2)) fun A5 E5 Y5 F5 => ?_))))))))
 have l0_5 := lookE E5 0 (Sc (fg0 F2))
 have l1_5 := lookE E5 1 (Sc (fg1 F2))
 have l7_5 := lookE E5 7 (Sa t0)
 clear E5 Y2 F2
 refine tk H4 (wp_block ?_)
 -- loop 2
 refine loopX (fun mz A' w' => SzN A' 19 ∧ A'.defers = [] ∧ (∃ (k : Nat), (mz = l.length - k) ∧ (k ≤ l.length) ∧ (∀ i, i < k → ∀ x, l[i]? = some x → (fun x => decide (x < 0 ∨ n < x)) x = false) ∧ (EV A' (.tmp 8) = .int .i64 (k : Int)) ∧ (EV A' (.tmp 0) = EV A5 (.tmp 0)) ∧ (EV A' (.tmp 1) = EV A5 (.tmp 1)) ∧ (EV A' (.tmp 7) = EV A5 (.tmp 7)) ∧ (St w NoX [] w'))) (l.length - 0) ⟨Y5, F5.d, 0, rfl, (Nat.zero_le _), (fun i hi => by omega), ((fg0 F5).trans Za), rfl, rfl, rfl, hS⟩ ?_
 clear hS
 rintro n6 A6 w6 ⟨Y6, hdf6, k, hm6, hk, hz, l8_6, u0_6, u1_6, u7_6, S6⟩
 have l0_6 := u0_6.trans l0_5
 have l1_6 := u1_6.trans l1_5
 have l7_6 := u7_6.trans l7_5
 refine tb fun _ H7 => (vl l8_6 l7_6 (W_end (en ((((((ck (FS.n hdf6) V V)).c (es V l0_6)).c (es V l1_6)).c (es V l7_6)).c (Sa l8_6)) fun A8 _ F8 => tc H7 fun _ H9 => cd (fg4 F8) (fun c10 => ?_) fun c10 => ?_)))
 ·refine wp_skip (tc H9 fun _ H11 => wp_block (tb fun _ H12 => (vm (fg0 F8) (vt (W_end (en (Ka (Qa F8)) fun A13 _ F13 => ta H12 fun _ H14 => (vm (fg3 F13) (vm (Sa (fg4 F13)) (vm (Sb (fg0 F13)) ?_)))))))))
  have k15 : k < l.length := om
  obtain ⟨y15, hy15⟩ := get_some (xs := l) (k := k) k15
  obtain ⟨B15, O15, C15, hv15⟩ := (SlN.blk (sl_SlN h_rv.at) om)
  refine wv (V_ixS (off := O15 + k) 1 k V (Sa t0) t0 hv15 Zb k15 Tryz.underlying25 kr (congrArg _ (Nat.mul_one _))) (rc t0 ((sl_SlN (S6.ro h_rv)).cell hv15 (map_get hy15)) (W_callV V V V (Sd t0) Tryz.func59 kr V (args1 t0) (kck1_c (x := y15) (n := n) (gn := gn) (S6.roC hb_n)) (fun _ w16 ⟨e, hP16⟩ => ⟨_, e, ?_⟩)))
  have S16 := S6.j0 hP16
  refine W_end (en (Ka (Qe F13)) fun A17 Y17 F17 => tk H14 (cd (fg0 F17) (fun c18 => ?_) fun c18 => ?_))
  ·refine tb fun _ H19 => (vm (fg1 F17) (vt (W_end (en (Ka (Qa F17)) fun A20 _ F20 => tk H19 (wp_ret (inb_ret (then_ret (then_ret (inb_ret (then_ret (rt1 F20 (rv_tmp (fg0 F20)) ?_)))))))))))
   have e0 : idxFG (fun x => decide (x < 0 ∨ n < x)) l = (k : Int) := by exact idxF_atG hz hy15 (show (fun x => decide (x < 0 ∨ n < x)) y15 = true by have hc := c18; first | simpa using hc | (simp at hc ⊢; omega))
   rw [e0]
   exact ⟨rfl, S16.fin0⟩
  refine wp_skip (inb_n (tk H11 (region_in (ad (fg2 F17) V (vm t0 (W_end (eN (Qb (fx2 F17)) fun A21 E21 Y21 F21 => ?_)))))))
  have l0_21 := lookE E21 0 (Sb (fg5 F17))
  have l1_21 := lookE E21 1 (Sb (fg4 F17))
  have l7_21 := lookE E21 7 (Sb (fg3 F17))
  have l8_21 := lookE E21 8 t0
  clear E21 Y17 F17
  refine then_n ⟨l.length - (k + 1), by simp only [hm6]; omega, Y21, F21.d, (k + 1), rfl, Zb, (no_stepG hz hy15 (show (fun x => decide (x < 0 ∨ n < x)) y15 = false by have hc := c18; first | simpa using hc | (simp at hc ⊢; omega))), ((l8_21).trans Za), ((l0_21).trans l0_5.symm), ((l1_21).trans l1_5.symm), ((l7_21).trans l7_5.symm), S16⟩
 refine wp_exit (then_exit (then_exit (inb_hit (ta H3 fun _ H22 => (vc (W_end (en (Ka F8) fun A23 _ F23 => tk H22 (wp_ret (rt1 F23 (rv_tmp (fg0 F23)) ?_)))))))))
 have e0 : idxFG (fun x => decide (x < 0 ∨ n < x)) l = (-1) := by exact idxF_noG (fun i hi x hx => hz i Zb x hx)
 rw [e0]
 exact ⟨rfl, S6.fin0⟩

set_option maxHeartbeats 4000000 in
theorem kcf_c {rv : Value} {l : List Int} {n : Int} {gn : Nat} {w : World} (h_rv : Ro w NoX (il .i64 rv l)) (hb_n : Ro w NoX (bx gn 3 #[.int .i64 n]))  :
  Calls Tryz.prog 60 #[rv, .func (.func 59) #[] #[.pointer (some ⟨gn, 0, none⟩)]] w fun e w' => e = .returned (.bool (decide (0 ≤ idxFG (fun x => decide (x < 0 ∨ n < x)) l))) ∧ St w NoX [] w' := by
 refine ci2 9 Tryz.func60 V (fun A0 _ F0 => ?_)
 have hS := St.nil w
 have bh_rv := SlN.le (sl_SlN h_rv.at)
 refine tb fun _ H1 => (vc (W_end (en (Qa F0) fun A2 _ F2 => ta H1 fun _ H3 => (vm (fg0 F2) (vm (Sa (fg1 F2)) (wc (args2 (Sa t0) t0) (kix_c (n := n) (gn := gn) (hS.roC h_rv) (hS.roC hb_n)) (C0 hS fun w4 S4 => vh t0 V (vt (W_end (en (Ka (Qd F2)) fun A5 _ F5 => tk H3 (wp_ret (rt1 F5 (rv_tmp (fg0 F5)) ?_))))))))))))
 exact ⟨rfl, S4.fin0⟩

set_option maxHeartbeats 4000000 in
theorem kCk_c {ov : Value} {O : List Ob} {rv : Value} {rs : List Int} {w : World} (h_ov : Ro w NoX (rl 2 obC ov O)) (n_ov : Ro w NoX (nst O)) (h_rv : Ro w NoX (il .i64 rv rs))  :
  Calls Tryz.prog 34 #[.agg #[ov, rv]] w fun e w' => e = .returned (.tuple #[.int .i64 (ckG (O.map ab) rs).1, .int .i64 (ckG (O.map ab) rs).2]) ∧ St w NoX [] w' := by
 refine ci1 57 Tryz.func34 V (fun A0 _ F0 => ?_)
 have hS := St.nil w
 have bh_ov := SlN.le (sl_SlN h_ov.at)
 have bh_rv := SlN.le (sl_SlN h_rv.at)
 refine tb fun _ H1 => (wB (#[ov, rv]) hS (fg0 F0) (fun g2 w2 c2 hc2 S2 => vc (vc (W_end (en (Qb (Ka F0)) fun A3 _ F3 => ta H1 fun _ H4 => (fa 0 (fg0 F3) (rL ov t0 (S2.ob 0 hc2) (le_ t0 (sl_SlN h_ov.at) (wZ (.int .i64 0) S2 (fun g5 w5 c5 hc5 S5 => xsC0 (zs' := #[.int .i64 (O.length : Int)]) S5 hc5 V V V t0 (Sa t0) Zi (fun w6 c6 hc6 S6 => W_end (en (Ka (Qc F3)) fun A7 _ F7 => ta H4 fun _ H8 => wv (V_mkf V args0 (args1 (fg0 F7))) (vt (W_end (en (Ka (Qa F7)) fun A9 _ F9 => tc H8 fun _ H10 => wp_block (tb fun _ H11 => (fa 1 (fg2 F9) (rL rv t0 (S6.ob 1 hc2) (le_ t0 (sl_SlN h_rv.at) (vl t0 V (W_split V V (V_mov V t0) (fun c12 => ?_) (fun c12 => ?_))))))))))))))))))))))
 ·refine xo V t0 (xo V (Sa t0) (xo V (Sb t0) (xo V (Sc t0) (vT (Sd t0) V (vt (W_end (en (Ka (Qb (Qh F9))) fun A13 _ F13 => tk H11 (cond_t (fg0 F13) (tb fun _ H14 => (vc (vc (W_end (en (Kb F13) fun A15 _ F15 => tk H14 (wp_ret (inb_ret (then_ret (rt2 F15 (rv_tmp (fg1 F15)) (rv_tmp (fg0 F15)) ?_)))))))))))))))))
  have h : ckG (O.map ab) rs = (0, 7) := ckG_rng Zb
  rw [h]
  exact ⟨rfl, S6.fin0⟩
 refine wg V t0 (ufa 1 (Se (fg2 F9))) (wq V (Sa t0) (urL rv t0 (S6.ob 1 hc2)) (wg V (Sb t0) (ule_ t0 (sl_SlN h_rv.at)) (wg V (Sc t0) (uvg t0 V) (vF (Sd t0) t0 (vt (W_end (en (Ka (Qb (Qh F9))) fun A17 _ F17 => tk H11 (cd (fg0 F17) (fun c18 => ?_) fun c18 => ?_))))))))
 ·refine tb fun _ H19 => (vc (vc (W_end (en (Kb F17) fun A20 _ F20 => tk H19 (wp_ret (inb_ret (then_ret (rt2 F20 (rv_tmp (fg1 F20)) (rv_tmp (fg0 F20)) ?_))))))))
  have h : ckG (O.map ab) rs = (0, 7) := ckG_rng Zb
  rw [h]
  exact ⟨rfl, S6.fin0⟩
 refine tb fun _ H22 => (rL (.int .i64 (O.length : Int)) (fg2 F17) (S6.ob 0 hc6) (vg t0 V (vt (W_end (en (Ka (Qb F17)) fun A23 _ F23 => tk H22 (cd (fg0 F23) (fun c24 => ?_) fun c24 => ?_))))))
 ·refine tb fun _ H25 => (vc (vc (W_end (en (Kb F23) fun A26 _ F26 => tk H25 (wp_ret (inb_ret (then_ret (rt2 F26 (rv_tmp (fg1 F26)) (rv_tmp (fg0 F26)) ?_))))))))
  have h : ckG (O.map ab) rs = (0, 3) := ckG_long Zb Zp
  rw [h]
  exact ⟨rfl, S6.fin0⟩
 refine wp_skip (inb_n (tc H10 fun _ H28 => tb fun _ H29 => (fa 0 (fg4 F23) (rL ov t0 (S6.ob 1 hc2) (le_ t0 (sl_SlN h_ov.at) (vm V (W_end (en (Kc (Qa F23)) fun A30 Y30 F30 => tk H29 (wp_block ?_)))))))))
 -- loop 8
 refine loopX (fun mz A' w' => SzN A' 57 ∧ A'.defers = [] ∧ (∃ (k : Nat), (mz = O.length - k) ∧ (k ≤ O.length) ∧ (cgAt (O.map ab) k) ∧ (EV A' (.tmp 29) = .int .i64 (k : Int)) ∧ (EV A' (.tmp 1) = EV A30 (.tmp 1)) ∧ (EV A' (.tmp 5) = EV A30 (.tmp 5)) ∧ (EV A' (.tmp 27) = EV A30 (.tmp 27)) ∧ (EV A' (.tmp 28) = EV A30 (.tmp 28)) ∧ (St w NoX [bx g5 3 #[.int .i64 (O.length : Int)], bx g2 30 #[ov, rv]] w'))) (O.length - 0) ⟨Y30, F30.d, 0, rfl, Zb, rfl, ((fg0 F30).trans Za), rfl, rfl, rfl, rfl, (by subst hc6 hc2; exact S6)⟩ ?_
 clear S6 hc6 hc2
 rintro n31 A31 w31 ⟨Y31, hdf31, k, hm31, hk, hz, l29_31, u1_31, u5_31, u27_31, u28_31, S31⟩
 have l1_31 := u1_31.trans (fg7 F30)
 have l5_31 := u5_31.trans (fg5 F30)
 have l27_31 := u27_31.trans (fg2 F30)
 have l28_31 := u28_31.trans (fg1 F30)
 obtain ⟨c6_31, c2_31, hc6_31, hc2_31, S31⟩ := gen2 S31
 refine tb fun _ H32 => (vl l29_31 l28_31 (W_end (en (((((((ck (FS.n hdf31) V V)).c (es V l1_31)).c (es V l5_31)).c (es V l27_31)).c (es V l28_31)).c (Sa l29_31)) fun A33 _ F33 => tc H32 fun _ H34 => cd (fg5 F33) (fun c35 => ?_) fun c35 => ?_)))
 ·refine wp_skip (tc H34 fun _ H36 => wp_block (tb fun _ H37 => (vm (fg0 F33) ?_)))
  have k38 : k < O.length := om
  obtain ⟨y38, hy38⟩ := get_some (xs := O) (k := k) k38
  have hm38 : (O.map ab)[k]? = some (ab y38) := mapE hy38
  obtain ⟨B38, O38, C38, hv38⟩ := (SlN.blk (sl_SlN h_ov.at) om)
  refine wv (V_ixS (off := O38 + k * 2) 2 k V (Sa (fg2 F33)) (Sa (fg0 F33)) hv38 Zb k38 Tryz.underlying28 kr V) ?_
  have fn39 : Ro w NoX (il .i64 y38.1.1 y38.1.2) := nst_ro1 n_ov hy38
  have bfn39 := SlN.le (sl_SlN (S31.ro fn39))
  have fn40 : Ro w NoX (il .u64 y38.2.1 y38.2.2) := nst_ro2 n_ov hy38
  have bfn40 := SlN.le (sl_SlN (S31.ro fn40))
  refine wr (VR_ldR (ys := obC y38) V t0 (SlN.row obC_len (sl_SlN (S31.ro h_ov)) hv38 hy38 V) Tryz.underlying70 V kr) (wA (#[.slice none 0 0, .slice none 0 0]) S31 (fun g41 w41 c41 hc41 S41 => ?_))
  replace S41 : St w NoX [c41, c6_31, c2_31] w41 := S41
  refine va (Sc t0) (xsB0 S41 hc41 V V V (Sa t0) (Sb t0) (by simp only [List.all_toArray, List.all_cons, List.all_nil, obC, SlN_one (sl_SlN fn39.at), SlN_one (sl_SlN fn40.at)] <;> rfl) (fun w42 c42 hc42 S42 => W_end (en (Kb (Qc F33)) fun A43 _ F43 => tk H37 (wp_block (tb fun _ H44 => (fa 0 (fg1 F43) (rL y38.1.1 t0 (S42.ob 0 hc42) (le_ t0 (sl_SlN fn39.at) (fa 1 (Sc (fg1 F43)) (rL y38.2.1 t0 (S42.ob 0 hc42) (le_ t0 (sl_SlN fn40.at) (wv (V_addw V (Sc t0) t0) (vg t0 V (vt (W_end (en (Ka (Qh F43)) fun A45 _ F45 => tk H44 (cd (fg0 F45) (fun c46 => ?_) fun c46 => ?_)))))))))))))))))
  ·refine tb fun _ H47 => (vm (fg1 F45) (ad t0 V (vt (vc (W_end (en (Kb (Qb F45)) fun A48 _ F48 => tk H47 (wp_ret (inb_ret (inb_ret (then_ret (then_ret (inb_ret (then_ret (rt2 F48 (rv_tmp (fg1 F48)) (rv_tmp (fg0 F48)) ?_))))))))))))))
   have h : ckG (O.map ab) rs = (((k : Int) + 1), 3) := (ckG_obj Zb Zp hz hm38).1 c46
   rw [h]
   exact ⟨rfl, S42.fin0⟩
  refine tb fun _ H50 => (fa 0 (fg2 F45) (rL y38.1.1 t0 (S42.ob 0 hc42) (vm (Sb (fg6 F45)) (wc (args2 (Sa t0) t0) (kcf_c (n := (O.length : Int)) (gn := g5) (S42.roC fn39) (S42.cC 1 hc6_31)) (C0 S42 fun w51 S51 => vt (W_end (en (Ka (Qd F45)) fun A52 _ F52 => ?_)))))))
  have S53 := S51.se [1, 2] [c6_31, c2_31]
  refine tk H50 (cd (fg0 F52) (fun c54 => ?_) fun c54 => ?_)
  ·refine tb fun _ H55 => (vm (fg2 F52) (ad t0 V (vt (vc (W_end (en (Kb (Qb F52)) fun A56 _ F56 => tk H55 (wp_ret (inb_ret (inb_ret (then_ret (then_ret (inb_ret (then_ret (rt2 F56 (rv_tmp (fg1 F56)) (rv_tmp (fg0 F56)) ?_))))))))))))))
   have h : ckG (O.map ab) rs = (((k : Int) + 1), 6) := (ckG_obj Zb Zp hz hm38).2 c46 (any_idx Zo c54)
   rw [h]
   exact ⟨rfl, S53.fin0⟩
  refine wp_skip (inb_n (inb_n (tk H36 (region_in (ad (fg4 F52) V (vm t0 (W_end (en (Ka (Qa (fx4 F52))) fun A58 Y58 F58 => then_n ⟨O.length - (k + 1), by simp only [hm31]; omega, Y58, F58.d, (k + 1), rfl, Zb, (cg_step hz hm38 c46 (no_idx Zo c54)), ((fg0 F58).trans Za), ((fg8 F58).trans (fg7 F30).symm), ((fg7 F58).trans (fg5 F30).symm), ((fg6 F58).trans (fg2 F30).symm), ((fg5 F58).trans (fg1 F30).symm), (by subst hc6_31 hc2_31; exact S53)⟩))))))))
 refine wp_exit (then_exit (then_exit (inb_hit (tc H28 fun _ H59 => tb fun _ H60 => (fa 1 (fg4 F33) (rL rv t0 (S31.ob 1 hc2_31) (vm (Sb (fg3 F33)) (wc (args2 (Sa t0) t0) (kcf_c (n := (O.length : Int)) (gn := g5) (S31.roC h_rv) (S31.cC 0 hc6_31)) (fun _ w61 ⟨e, hP61⟩ => ⟨_, e, ?_⟩)))))))))
 have S61 := S31.join hP61
 replace S61 : St w NoX [c6_31, c2_31] w61 := S61
 refine W_end (en (Ka (Qc F33)) fun A62 _ F62 => tk H60 (cd (fg0 F62) (fun c64 => ?_) fun c64 => ?_))
 ·refine tb fun _ H65 => (vc (vc (W_end (en (Kb F62) fun A66 _ F66 => tk H65 (wp_ret (then_ret (rt2 F66 (rv_tmp (fg1 F66)) (rv_tmp (fg0 F66)) ?_)))))))
  have h : ckG (O.map ab) rs = (0, 6) := (ckG_end Zb Zp hz Zp).trans (if_pos (any_idx Zo c64))
  rw [h]
  exact ⟨rfl, S61.fin0⟩
 refine wp_skip (ta H59 fun _ H67 => (vc (vc (W_end (en (Kb F62) fun A68 _ F68 => tk H67 (wp_ret (rt2 F68 (rv_tmp (fg1 F68)) (rv_tmp (fg0 F68)) ?_)))))))
 have h : ckG (O.map ab) rs = (0, 0) := (ckG_end Zb Zp hz Zp).trans (if_neg (fun q => c64 (idx_any Zo q)))
 rw [h]
 exact ⟨rfl, S61.fin0⟩

set_option maxHeartbeats 4000000 in
theorem kcd_c {ov : Value} {O : List Ob} {rv : Value} {rs : List Int} {nv : Value} {ns : List Int} {w : World} (h_ov : Ro w NoX (rl 2 obC ov O)) (n_ov : Ro w NoX (nst O)) (h_rv : Ro w NoX (il .i64 rv rs)) (h_nv : Ro w NoX (il .i64 nv ns))  :
  Calls Tryz.prog 54 #[.agg #[ov, rv], nv] w fun e w' => e = .returned (.int .i64 (ckd (O.map ab) rs ns)) ∧ St w NoX [] w' := by
 refine ci2 33 Tryz.func54 V (fun A0 _ F0 => ?_)
 have hS := St.nil w
 have bh_ov := SlN.le (sl_SlN h_ov.at)
 have bh_rv := SlN.le (sl_SlN h_rv.at)
 have bh_nv := SlN.le (sl_SlN h_nv.at)
 refine tb fun _ H1 => (wB (#[ov, rv]) hS (fg0 F0) (fun g2 w2 c2 hc2 S2 => vc (W_end (en (Qa (Ka F0)) fun A3 _ F3 => tc H1 fun _ H4 => tb fun _ H5 => (ra (fg0 F3) (S2.ob 0 hc2) (wc (args1 t0) (kCk_c (S2.roC h_ov) (S2.roC n_ov) (S2.roC h_rv)) (C0 S2 fun w6 S6 => vm t0 (vx (.int .i64 ((ckG (O.map ab) rs).1)) t0 (vx (.int .i64 ((ckG (O.map ab) rs).2)) (Sa t0) (va (Sa t0) (va (Sa t0) (W_end (en (Ka (Qf F3)) fun A7 _ F7 => ta H5 fun _ H8 => (vm (fg0 F7) (vn t0 V (W_end (en (Ka (Qa F7)) fun A9 _ F9 => tk H8 (cd (fg0 F9) (fun c10 => ?_) fun c10 => ?_))))))))))))))))))
 ·refine tb fun _ H11 => (vm (fg1 F9) (vt (W_end (en (Ka (Qa F9)) fun A12 _ F12 => tk H11 (wp_ret (then_ret (rt1 F12 (rv_tmp (fg0 F12)) ?_)))))))
  have h : ckd (O.map ab) rs ns = (ckG (O.map ab) rs).2 := ckd_ck Zb
  rw [h]
  exact ⟨rfl, S6.fin0⟩
 refine wp_skip (tc H4 fun _ H14 => tb fun _ H15 => (vm (fg4 F9) (le_ t0 (sl_SlN h_nv.at) (vm V (W_end (en (Kc F9) fun A16 Y16 F16 => tk H15 (wp_block ?_)))))))
 -- loop 5
 refine loopX (fun mz A' w' => SzN A' 33 ∧ A'.defers = [] ∧ (∃ (j : Nat), (mz = ns.length - j) ∧ (j ≤ ns.length) ∧ (∀ i, i < j → ∀ x, ns[i]? = some x → 0 ≤ x ∧ x < (rs.length : Int)) ∧ (EV A' (.tmp 19) = .int .i64 (j : Int)) ∧ (EV A' (.tmp 2) = EV A16 (.tmp 2)) ∧ (EV A' (.tmp 17) = EV A16 (.tmp 17)) ∧ (EV A' (.tmp 18) = EV A16 (.tmp 18)) ∧ (St w NoX [bx g2 30 #[ov, rv]] w'))) (ns.length - 0) ⟨Y16, F16.d, 0, rfl, Zb, (fun i hi => by omega), ((fg0 F16).trans Za), rfl, rfl, rfl, (by subst hc2; exact S6)⟩ ?_
 clear S6 hc2
 rintro n17 A17 w17 ⟨Y17, hdf17, j, hm17, hjl, hj, l19_17, u2_17, u17_17, u18_17, S17⟩
 have l2_17 := u2_17.trans (fg5 F16)
 have l17_17 := u17_17.trans (fg2 F16)
 have l18_17 := u18_17.trans (fg1 F16)
 obtain ⟨c2_17, hc2_17, S17⟩ := gen1 S17
 refine tb fun _ H18 => (vl l19_17 l18_17 (W_end (en ((((((ck (FS.n hdf17) V V)).c (es V l2_17)).c (es V l17_17)).c (es V l18_17)).c (Sa l19_17)) fun A19 _ F19 => tc H18 fun _ H20 => cd (fg4 F19) (fun c21 => ?_) fun c21 => ?_)))
 ·refine wp_skip (tc H20 fun _ H22 => wp_block (tb fun _ H23 => ?_))
  have k24 : j < ns.length := om
  obtain ⟨y24, hy24⟩ := get_some (xs := ns) (k := j) k24
  obtain ⟨B24, O24, C24, hv24⟩ := (SlN.blk (sl_SlN h_nv.at) om)
  refine wv (V_ixS (off := O24 + j) 1 j V (fg2 F19) (fg0 F19) hv24 Zb k24 Tryz.underlying25 kr (congrArg _ (Nat.mul_one _))) (rc t0 ((sl_SlN (S17.ro h_nv)).cell hv24 (map_get hy24)) (vt (W_end (en (Ka (Qb F19)) fun A25 _ F25 => ta H23 fun _ H26 => (vm (fg0 F25) (vl t0 V (W_split V V (V_mov V t0) (fun c27 => ?_) (fun c27 => ?_))))))))
  ·refine xo V t0 (xo V (Sa t0) (xo V (Sb t0) (xo V (Sc t0) (xo V (Sd t0) (vT (Se t0) V (W_end (en (Kf (Qc F25)) fun A28 _ F28 => tk H26 (cond_t (fg0 F28) (tb fun _ H29 => (vc (W_end (en (Ka F28) fun A30 _ F30 => tk H29 (wp_ret (inb_ret (then_ret (then_ret (inb_ret (then_ret (rt1 F30 (rv_tmp (fg0 F30)) ?_)))))))))))))))))))
   have h : ckd (O.map ab) rs ns = 10 := ckd_bad Zb hy24 Zb
   rw [h]
   exact ⟨rfl, S17.fin0⟩
  refine wg V t0 (uvm (Sc (fg0 F25))) (wg V (Sa t0) (ufa 1 (Sd (fg4 F25))) (wq V (Sb t0) (urL rv t0 (S17.ob 0 hc2_17)) (wg V (Sc t0) (ule_ t0 (sl_SlN h_rv.at)) (wg V (Sd t0) (uvh (Sc t0) t0) (vF (Se t0) t0 (W_end (en (Kf (Qc F25)) fun A32 _ F32 => tk H26 (cd (fg0 F32) (fun c33 => ?_) fun c33 => ?_))))))))
  ·refine tb fun _ H34 => (vc (W_end (en (Ka F32) fun A35 _ F35 => tk H34 (wp_ret (inb_ret (then_ret (then_ret (inb_ret (then_ret (rt1 F35 (rv_tmp (fg0 F35)) ?_))))))))))
   have h : ckd (O.map ab) rs ns = 10 := ckd_bad Zb hy24 Zb
   rw [h]
   exact ⟨rfl, S17.fin0⟩
  refine wp_skip (inb_n (tk H22 (region_in (ad (fg7 F32) V (vm t0 (W_end (en (Ka (Qa (fx7 F32))) fun A37 Y37 F37 => then_n ⟨ns.length - (j + 1), by simp only [hm17]; omega, Y37, F37.d, (j + 1), rfl, Zb, (rg_step hj hy24 Zb), ((fg0 F37).trans Za), ((fg10 F37).trans (fg5 F16).symm), ((fg9 F37).trans (fg2 F16).symm), ((fg8 F37).trans (fg1 F16).symm), (by subst hc2_17; exact S17)⟩)))))))
 refine wp_exit (then_exit (then_exit (inb_hit (ta H14 fun _ H38 => (vc (W_end (en (Ka F19) fun A39 _ F39 => tk H38 (wp_ret (rt1 F39 (rv_tmp (fg0 F39)) ?_)))))))))
 have h : ckd (O.map ab) rs ns = 0 := ckd_ok Zb hj Zb
 rw [h]
 exact ⟨rfl, S17.fin0⟩

end Go.Proofs.YtpgkfndbfocibaaGreat
namespace Go.Proofs.YtpgkfndbfocibaaGreat
open Go.RowKit Go.Own Go.Own.R Go.Own.G Go.Own.Gr


set_option maxHeartbeats 4000000 in
theorem khd_c {ov : Value} {O : List Ob} {rv : Value} {rs : List Int} {gov : Nat} {a : Int} {w : World} (h_ov : Ro w NoX (rl 2 obC ov O)) (n_ov : Ro w NoX (nst O)) (h_rv : Ro w NoX (il .i64 rv rs)) (hb_ov : Ro w NoX (bx gov 30 #[ov, rv])) (hrg : ∀ p ∈ rs, 0 ≤ p ∧ p ≤ (O.length : Int)) (ha : 0 ≤ a ∧ a < (rs.length : Int)) :
  Calls Tryz.prog 108 #[.pointer (some ⟨gov, 0, none⟩), .int .i64 a] w fun e w' => (e = .returned (.pointer none) ∧ (rg rs a = 0) ∧ St w NoX [] w') ∨ (∃ B Of C y, e = .returned (.pointer (some ⟨B, Of + (rg rs a - 1).toNat * 2, none⟩)) ∧ (ov = .slice (some ⟨B, Of, none⟩) O.length C) ∧ (O[(rg rs a - 1).toNat]? = some y) ∧ (¬ rg rs a = 0) ∧ St w NoX [] w') := by
 refine ci2 26 Tryz.func108 V (fun A0 _ F0 => ?_)
 have hS := St.nil w
 have bh_ov := SlN.le (sl_SlN h_ov.at)
 have bh_rv := SlN.le (sl_SlN h_rv.at)
 refine tb fun _ H1 => (vc (W_end (en (Qa F0) fun A2 _ F2 => tc H1 fun _ H3 => tb fun _ H4 => (vm (fg0 F2) (ni t0 (fa 1 t0 (rc t0 (cell_box (v := rv) (ob_at (hS.ro hb_ov)) V) (vm (Sd (fg1 F2)) ?_))))))))
 have k5 : a.toNat < rs.length := om
 obtain ⟨y5, hy5⟩ := get_some (xs := rs) (k := a.toNat) k5
 have hrg5 := hrg y5 (List.mem_of_getElem? hy5)
 have hq5 : rg rs a = y5 := rg_at hy5
 obtain ⟨B5, O5, C5, hv5⟩ := (SlN.blk (sl_SlN h_rv.at) om)
 refine wv (V_ixS (off := O5 + a.toNat) 1 a.toNat V (Sa t0) t0 hv5 Zb k5 Tryz.underlying25 kr (congrArg _ (Nat.mul_one _))) (rc t0 ((sl_SlN (hS.ro h_rv)).cell hv5 (map_get hy5)) (ve t0 V (W_end (en (Ka (Qg F2)) fun A6 _ F6 => tk H4 (cd (fg0 F6) (fun c7 => ?_) fun c7 => ?_)))))
 ·refine tb fun _ H8 => (vc (W_end (en (Ka F6) fun A9 _ F9 => tk H8 (wp_ret (then_ret (rt1 F9 (rv_tmp (fg0 F9)) ?_))))))
  exact .inl ⟨rfl, by omega, hS.fin0⟩
 refine wp_skip (tc H3 fun _ H10 => region_monoS 14 14 [] kr kr (dm (fg1 F6) (dn t0 (df 0 t0 (dr (fun _ hx _ => (urc t0 (cell_box (v := ov) (ob_at ((hS.grow hx).ro hb_ov)) V))) (dm (Sd (fg1 F6)) (dn t0 (df 1 t0 (dr (fun _ hx _ => (urc t0 (cell_box (v := rv) (ob_at ((hS.grow hx).ro hb_ov)) V))) (dm (Sh (fg2 F6)) (dv (V_ixS (off := O5 + a.toNat) 1 a.toNat V (Sa t0) t0 hv5 Zb k5 Tryz.underlying25 kr (congrArg _ (Nat.mul_one _))) (dr (fun _ hx _ => (urc t0 ((sl_SlN ((hS.grow hx).ro h_rv)).cell hv5 (map_get hy5)))) (dv (usu t0 V) ?_)))))))))))))
 have k12 : (y5 - 1).toNat < O.length := om
 obtain ⟨y12, hy12⟩ := get_some (xs := O) (k := (y5 - 1).toNat) k12
 obtain ⟨B12, O12, C12, hv12⟩ := (SlN.blk (sl_SlN h_ov.at) om)
 refine dv (V_ixS (off := O12 + ((y5 - 1).toNat) * 2) 2 ((y5 - 1).toNat) V (Sh t0) t0 hv12 Zb k12 Tryz.underlying28 kr V) (dv (V_asg V t0) (ZS_none hS (Nat.le_refl _) (Nat.le_refl _) (fun s13 hJ13 hL13 hF13 => ?_)))
 have S13 := hJ13.st; clear hF13 hJ13 hL13
 generalize s13.1 = w13 at *
 replace S13 : St w NoX [] w13 := S13
 refine en (Ka (Qe (Qh F6))) fun A14 _ F14 => tk H10 (wp_ret (rt1 F14 (rv_tmp (fg0 F14)) ?_))
 have hkk : ((y5 - 1).toNat : Nat) = (rg rs a - 1).toNat := by omega
 rw [hkk] at hy12
 exact .inr ⟨B12, O12, C12, y12, by rw [hkk], hv12, hy12, by omega, S13.fin0⟩

set_option maxHeartbeats 4000000 in
theorem kpt_c {ov : Value} {O : List Ob} {rv : Value} {rs : List Int} {gov : Nat} {a f : Int} {w : World} (h_ov : Ro w NoX (rl 2 obC ov O)) (n_ov : Ro w NoX (nst O)) (h_rv : Ro w NoX (il .i64 rv rs)) (hb_ov : Ro w NoX (bx gov 30 #[ov, rv])) (hrg : ∀ p ∈ rs, 0 ≤ p ∧ p ≤ (O.length : Int)) (ha : 0 ≤ a ∧ a < (rs.length : Int)) :
  Calls Tryz.prog 102 #[.pointer (some ⟨gov, 0, none⟩), .int .i64 a, .int .i64 f] w fun e w' => (e = .returned (.pointer none) ∧ (rg rs a = 0 ∨ f < 0 ∨ ((ob (O.map ab) rs a).1.length : Int) ≤ f) ∧ St w NoX [] w') ∨ (∃ B Of C y x, e = .returned (.pointer (some ⟨B, Of + f.toNat, none⟩)) ∧ (y.1.1 = .slice (some ⟨B, Of, none⟩) y.1.2.length C) ∧ (O[(rg rs a - 1).toNat]? = some y) ∧ (y.1.2[f.toNat]? = some x) ∧ (¬ (rg rs a = 0 ∨ f < 0 ∨ ((ob (O.map ab) rs a).1.length : Int) ≤ f)) ∧ (ob (O.map ab) rs a = ab y) ∧ St w NoX [] w') := by
 refine ci3 32 Tryz.func102 V (fun A0 _ F0 => ?_)
 have hS := St.nil w
 have bh_ov := SlN.le (sl_SlN h_ov.at)
 have bh_rv := SlN.le (sl_SlN h_rv.at)
 refine tb fun _ H1 => (vc (W_end (en (Qa F0) fun A2 _ F2 => ta H1 fun _ H3 => (vm (fg0 F2) (vm (Sa (fg1 F2)) (wc (args2 (Sa t0) t0) (khd_c (gov := gov) (a := a) (hS.roC h_ov) (hS.roC n_ov) (hS.roC h_rv) (hS.roC hb_ov) (by first | with_reducible assumption | (have q := hG.reg; simpa using q)) Zm) ?_))))))
 rintro _ w4 (⟨rfl, hz_4, hP4⟩ | ⟨B_4, O_4, C_4, y_4, rfl, hv_4, hy_4, hz_4, hP4⟩)
 ·refine ⟨_, rfl, ?_⟩
  have S4 := hS.j0 hP4
  refine vt (W_end (en (Ka (Qc F2)) fun A5 _ F5 => tc H3 fun _ H6 => tb fun _ H7 => (vm (fg0 F5) (wv (V_eqNN V t0 V Tryz.underlying150) (vm t0 (xo V t0 (xo V (Sa t0) (vT (Sb t0) V (vm t0 (xo V t0 (xo V (Sa t0) (xo V (Sb t0) (xo V (Sc t0) (xo V (Sd t0) (xo V (Se t0) (xo V (Sf t0) (vT (Sg t0) V (W_end (en (Ka (Qf (Qh F5))) fun A8 _ F8 => tk H7 (cond_t (fg0 F8) (tb fun _ H9 => (vc (W_end (en (Ka F8) fun A10 _ F10 => tk H9 (wp_ret (then_ret (rt1 F10 (rv_tmp (fg0 F10)) ?_)))))))))))))))))))))))))))
  exact .inl ⟨rfl, by first | exact .inl Zr | exact .inr (.inl Zb) | (rw [ob_at Zr]; exact .inr (.inr (by simp only [ab]; omega))), S4.fin0⟩
 refine ⟨_, rfl, ?_⟩
 have S4 := hS.j0 hP4
 refine vt (W_end (en (Ka (Qc F2)) fun A11 _ F11 => tc H3 fun _ H12 => tb fun _ H13 => (vm (fg0 F11) (wv (V_eqPN V t0 V Tryz.underlying150) (vm t0 (wg V t0 (uvm (Sc (fg3 F11))) (wg V (Sa t0) (uvl t0 V) (vF (Sb t0) t0 (W_split V V (V_mov V t0) (fun c14 => ?_) (fun c14 => ?_))))))))))
 ·refine xo V t0 (xo V (Sa t0) (xo V (Sb t0) (xo V (Sc t0) (xo V (Sd t0) (xo V (Se t0) (xo V (Sf t0) (vT (Sg t0) V (W_end (en (Ka (Qf (Qh F11))) fun A15 _ F15 => tk H13 (cond_t (fg0 F15) (tb fun _ H16 => (vc (W_end (en (Ka F15) fun A17 _ F17 => tk H16 (wp_ret (then_ret (rt1 F17 (rv_tmp (fg0 F17)) ?_)))))))))))))))))
  exact .inl ⟨rfl, by first | exact .inl Zr | exact .inr (.inl Zb) | (rw [ob_at Zr]; exact .inr (.inr (by simp only [ab]; omega))), S4.fin0⟩
 refine wg V t0 (uvm (Sg (fg3 F11))) (wg V (Sa t0) (uvm (Sh (fg0 F11))) (wg V (Sb t0) (uni t0) (wg V (Sc t0) (V_fa (off' := O_4 + ((rg rs a - 1).toNat) * 2 + 0) V t0 Tryz.underlying70 V Zj V) ?_)))
 have fn18 : Ro w NoX (il .i64 y_4.1.1 y_4.1.2) := nst_ro1 n_ov hy_4
 have bfn18 := SlN.le (sl_SlN (S4.ro fn18))
 have fn19 : Ro w NoX (il .u64 y_4.2.1 y_4.2.2) := nst_ro2 n_ov hy_4
 have bfn19 := SlN.le (sl_SlN (S4.ro fn19))
 refine wq V (Sd t0) (urd y_4.1.1 t0 (SlN.row obC_len (sl_SlN (S4.ro h_ov)) hv_4 hy_4 V 0 _ V)) (wg V (Se t0) (ule_ t0 (sl_SlN fn18.at)) (wg V (Sf t0) (uvh (Se t0) t0) (vF (Sg t0) t0 (W_end (en (Ka (Qf (Qh F11))) fun A20 _ F20 => tk H13 (cd (fg0 F20) (fun c21 => ?_) fun c21 => ?_))))))
 ·refine tb fun _ H22 => (vc (W_end (en (Ka F20) fun A23 _ F23 => tk H22 (wp_ret (then_ret (rt1 F23 (rv_tmp (fg0 F23)) ?_))))))
  exact .inl ⟨rfl, by first | exact .inl Zr | exact .inr (.inl Zb) | (rw [ob_at Zr]; exact .inr (.inr (by simp only [ab]; omega))), S4.fin0⟩
 refine wp_skip (ta H12 fun _ H24 => (vm (fg1 F20) (ni t0 (wv (V_fa (off' := O_4 + ((rg rs a - 1).toNat) * 2 + 0) V t0 Tryz.underlying70 V Zj V) (rd y_4.1.1 t0 (SlN.row obC_len (sl_SlN (S4.ro h_ov)) hv_4 hy_4 V 0 _ V) (vm (Sd (fg4 F20)) ?_))))))
 have k25 : f.toNat < y_4.1.2.length := om
 obtain ⟨y25, hy25⟩ := get_some (xs := y_4.1.2) (k := f.toNat) k25
 obtain ⟨B25, O25, C25, hv25⟩ := (SlN.blk (sl_SlN fn18.at) om)
 refine wv (V_ixS (off := O25 + f.toNat) 1 f.toNat V (Sa t0) t0 hv25 Zb k25 Tryz.underlying25 kr (congrArg _ (Nat.mul_one _))) (vt (W_end (en (Ka (Qf F20)) fun A26 _ F26 => tk H24 (wp_ret (rt1 F26 (rv_tmp (fg0 F26)) ?_)))))
 have hob := ob_at hy_4
 exact .inr ⟨B25, O25, C25, y_4, y25, rfl, hv25, hy_4, hy25, (by rw [hob]; simp only [ab]; omega), hob, S4.fin0⟩

set_option maxHeartbeats 4000000 in
theorem krw_c {ov : Value} {O : List Ob} {rv : Value} {rs : List Int} {gov : Nat} {a f : Int} {w : World} (h_ov : Ro w NoX (rl 2 obC ov O)) (n_ov : Ro w NoX (nst O)) (h_rv : Ro w NoX (il .i64 rv rs)) (hb_ov : Ro w NoX (bx gov 30 #[ov, rv])) (hrg : ∀ p ∈ rs, 0 ≤ p ∧ p ≤ (O.length : Int)) (ha : 0 ≤ a ∧ a < (rs.length : Int)) :
  Calls Tryz.prog 104 #[.pointer (some ⟨gov, 0, none⟩), .int .i64 a, .int .i64 f] w fun e w' => (e = .returned (.pointer none) ∧ (rg rs a = 0 ∨ f < 0 ∨ ((ob (O.map ab) rs a).2.length : Int) ≤ f) ∧ St w NoX [] w') ∨ (∃ B Of C y x, e = .returned (.pointer (some ⟨B, Of + f.toNat, none⟩)) ∧ (y.2.1 = .slice (some ⟨B, Of, none⟩) y.2.2.length C) ∧ (O[(rg rs a - 1).toNat]? = some y) ∧ (y.2.2[f.toNat]? = some x) ∧ (¬ (rg rs a = 0 ∨ f < 0 ∨ ((ob (O.map ab) rs a).2.length : Int) ≤ f)) ∧ (ob (O.map ab) rs a = ab y) ∧ St w NoX [] w') := by
 refine ci3 32 Tryz.func104 V (fun A0 _ F0 => ?_)
 have hS := St.nil w
 have bh_ov := SlN.le (sl_SlN h_ov.at)
 have bh_rv := SlN.le (sl_SlN h_rv.at)
 refine tb fun _ H1 => (vc (W_end (en (Qa F0) fun A2 _ F2 => ta H1 fun _ H3 => (vm (fg0 F2) (vm (Sa (fg1 F2)) (wc (args2 (Sa t0) t0) (khd_c (gov := gov) (a := a) (hS.roC h_ov) (hS.roC n_ov) (hS.roC h_rv) (hS.roC hb_ov) (by first | with_reducible assumption | (have q := hG.reg; simpa using q)) Zm) ?_))))))
 rintro _ w4 (⟨rfl, hz_4, hP4⟩ | ⟨B_4, O_4, C_4, y_4, rfl, hv_4, hy_4, hz_4, hP4⟩)
 ·refine ⟨_, rfl, ?_⟩
  have S4 := hS.j0 hP4
  refine vt (W_end (en (Ka (Qc F2)) fun A5 _ F5 => tc H3 fun _ H6 => tb fun _ H7 => (vm (fg0 F5) (wv (V_eqNN V t0 V Tryz.underlying150) (vm t0 (xo V t0 (xo V (Sa t0) (vT (Sb t0) V (vm t0 (xo V t0 (xo V (Sa t0) (xo V (Sb t0) (xo V (Sc t0) (xo V (Sd t0) (xo V (Se t0) (xo V (Sf t0) (vT (Sg t0) V (W_end (en (Ka (Qf (Qh F5))) fun A8 _ F8 => tk H7 (cond_t (fg0 F8) (tb fun _ H9 => (vc (W_end (en (Ka F8) fun A10 _ F10 => tk H9 (wp_ret (then_ret (rt1 F10 (rv_tmp (fg0 F10)) ?_)))))))))))))))))))))))))))
  exact .inl ⟨rfl, by first | exact .inl Zr | exact .inr (.inl Zb) | (rw [ob_at Zr]; exact .inr (.inr (by simp only [ab]; omega))), S4.fin0⟩
 refine ⟨_, rfl, ?_⟩
 have S4 := hS.j0 hP4
 refine vt (W_end (en (Ka (Qc F2)) fun A11 _ F11 => tc H3 fun _ H12 => tb fun _ H13 => (vm (fg0 F11) (wv (V_eqPN V t0 V Tryz.underlying150) (vm t0 (wg V t0 (uvm (Sc (fg3 F11))) (wg V (Sa t0) (uvl t0 V) (vF (Sb t0) t0 (W_split V V (V_mov V t0) (fun c14 => ?_) (fun c14 => ?_))))))))))
 ·refine xo V t0 (xo V (Sa t0) (xo V (Sb t0) (xo V (Sc t0) (xo V (Sd t0) (xo V (Se t0) (xo V (Sf t0) (vT (Sg t0) V (W_end (en (Ka (Qf (Qh F11))) fun A15 _ F15 => tk H13 (cond_t (fg0 F15) (tb fun _ H16 => (vc (W_end (en (Ka F15) fun A17 _ F17 => tk H16 (wp_ret (then_ret (rt1 F17 (rv_tmp (fg0 F17)) ?_)))))))))))))))))
  exact .inl ⟨rfl, by first | exact .inl Zr | exact .inr (.inl Zb) | (rw [ob_at Zr]; exact .inr (.inr (by simp only [ab]; omega))), S4.fin0⟩
 refine wg V t0 (uvm (Sg (fg3 F11))) (wg V (Sa t0) (uvm (Sh (fg0 F11))) (wg V (Sb t0) (uni t0) (wg V (Sc t0) (V_fa (off' := O_4 + ((rg rs a - 1).toNat) * 2 + 1) V t0 Tryz.underlying70 V Zj V) ?_)))
 have fn18 : Ro w NoX (il .i64 y_4.1.1 y_4.1.2) := nst_ro1 n_ov hy_4
 have bfn18 := SlN.le (sl_SlN (S4.ro fn18))
 have fn19 : Ro w NoX (il .u64 y_4.2.1 y_4.2.2) := nst_ro2 n_ov hy_4
 have bfn19 := SlN.le (sl_SlN (S4.ro fn19))
 refine wq V (Sd t0) (urd y_4.2.1 t0 (SlN.row obC_len (sl_SlN (S4.ro h_ov)) hv_4 hy_4 V 1 _ V)) (wg V (Se t0) (ule_ t0 (sl_SlN fn19.at)) (wg V (Sf t0) (uvh (Se t0) t0) (vF (Sg t0) t0 (W_end (en (Ka (Qf (Qh F11))) fun A20 _ F20 => tk H13 (cd (fg0 F20) (fun c21 => ?_) fun c21 => ?_))))))
 ·refine tb fun _ H22 => (vc (W_end (en (Ka F20) fun A23 _ F23 => tk H22 (wp_ret (then_ret (rt1 F23 (rv_tmp (fg0 F23)) ?_))))))
  exact .inl ⟨rfl, by first | exact .inl Zr | exact .inr (.inl Zb) | (rw [ob_at Zr]; exact .inr (.inr (by simp only [ab]; omega))), S4.fin0⟩
 refine wp_skip (ta H12 fun _ H24 => (vm (fg1 F20) (ni t0 (wv (V_fa (off' := O_4 + ((rg rs a - 1).toNat) * 2 + 1) V t0 Tryz.underlying70 V Zj V) (rd y_4.2.1 t0 (SlN.row obC_len (sl_SlN (S4.ro h_ov)) hv_4 hy_4 V 1 _ V) (vm (Sd (fg4 F20)) ?_))))))
 have k25 : f.toNat < y_4.2.2.length := om
 obtain ⟨y25, hy25⟩ := get_some (xs := y_4.2.2) (k := f.toNat) k25
 obtain ⟨B25, O25, C25, hv25⟩ := (SlN.blk (sl_SlN fn19.at) om)
 refine wv (V_ixS (off := O25 + f.toNat) 1 f.toNat V (Sa t0) t0 hv25 Zb k25 Tryz.underlying68 kr (congrArg _ (Nat.mul_one _))) (vt (W_end (en (Ka (Qf F20)) fun A26 _ F26 => tk H24 (wp_ret (rt1 F26 (rv_tmp (fg0 F26)) ?_)))))
 have hob := ob_at hy_4
 exact .inr ⟨B25, O25, C25, y_4, y25, rfl, hv25, hy_4, hy25, (by rw [hob]; simp only [ab]; omega), hob, S4.fin0⟩

end Go.Proofs.YtpgkfndbfocibaaGreat
namespace Go.Proofs.YtpgkfndbfocibaaGreat
open Go.RowKit Go.Own Go.Own.R Go.Own.G Go.Own.Gr


set_option maxHeartbeats 4000000 in
theorem kRd_c {ov : Value} {O : List Ob} {rv : Value} {rs : List Int} {a f : Int} {w : World} (h_ov : Ro w NoX (rl 2 obC ov O)) (n_ov : Ro w NoX (nst O)) (h_rv : Ro w NoX (il .i64 rv rs))  :
  Calls Tryz.prog 68 #[.agg #[ov, rv], .int .i64 a, .int .i64 f] w fun e w' => e = .returned (.tuple #[.int .u64 (rdV (O.map ab) rs a f), .int .i64 (rwE (O.map ab) rs [a] a f)]) ∧ St w NoX [] w' := by
 refine ci3 25 Tryz.func68 V (fun A0 _ F0 => ?_)
 have hS := St.nil w
 have bh_ov := SlN.le (sl_SlN h_ov.at)
 have bh_rv := SlN.le (sl_SlN h_rv.at)
 refine tb fun _ H1 => (wB (#[ov, rv]) hS (fg0 F0) (fun g2 w2 c2 hc2 S2 => vc (vc (W_end (en (Qb (Ka F0)) fun A3 _ F3 => tc H1 fun _ H4 => tb fun _ H5 => (ra (fg0 F3) (S2.ob 0 hc2) (vm (Sa (fg2 F3)) ?_)))))))
 have hll6 : [a].length = 1 := rfl
 refine xsL (vs := [.int .i64 (a)]) (xs := ([a].map (Value.int .i64))) 1 S2 V V V (parts1 t0) Tryz.underlying25 (fun g6 w6 c6 hc6 S6 => ?_)
 replace hc6 : c6 = io .i64 (.slice (some ⟨g6, 0, none⟩) 1 1) [a] := hc6
 replace S6 : St w NoX [c6, c2] w6 := S6
 refine wc (args2 (Sb t0) t0) (kcd_c (S6.roC h_ov) (S6.roC n_ov) (S6.roC h_rv) (S6.cC 0 hc6).own) (C0 S6 fun w7 S7 => vt (W_end (en (Ka (Qd F3)) fun A8 _ F8 => ?_)))
 have S9 := S7.se [1] [c2]
 refine ta H5 fun _ H10 => (vm (fg0 F8) (vn t0 V (W_end (en (Ka (Qa F8)) fun A11 _ F11 => tk H10 (cd (fg0 F11) (fun c12 => ?_) fun c12 => ?_)))))
 ·refine tb fun _ H13 => (vm (fg1 F11) (vc (va (Sa t0) (W_end (en (Kb (Qa F11)) fun A14 _ F14 => tk H13 (wp_ret (then_ret (rt2 F14 (rv_tmp (fg1 F14)) (rv_tmp (fg0 F14)) ?_))))))))
  have h := rw_ck (f := f) Zr
  rw [h.1, h.2]
  exact ⟨rfl, S9.fin0⟩
 have hcd : ckd (O.map ab) rs [a] = 0 := by simpa using c12
 have hG0 := (ckd_0.1 hcd).1
 have hG := hG0
 have hrg : ∀ p ∈ rs, 0 ≤ p ∧ p ≤ (O.length : Int) := fun p hp => by have q := hG0.reg p hp; rw [List.length_map] at q; exact q
 have ha := (ckd_0.1 hcd).2 a Zo
 refine wp_skip (ta H4 fun _ H16 => (vm (fg4 F11) (vm (Sa (fg5 F11)) (wc (args3 (Sb (fg2 F11)) (Sa t0) t0) (krw_c (gov := g2) (a := a) (f := f) (S9.roC h_ov) (S9.roC n_ov) (S9.roC h_rv) (S9.cC 0 hc2) (by first | with_reducible assumption | (have q := hG.reg; simpa using q)) Zm) ?_))))
 rintro _ w17 (⟨rfl, hz_17, hP17⟩ | ⟨B_17, O_17, C_17, y_17, x_17, rfl, hv_17, hy_17, hx_17, hz_17, hob_17, hP17⟩)
 ·refine ⟨_, rfl, ?_⟩
  have S17 := S9.j0 hP17
  refine vt (W_end (en (Ka (Qc F11)) fun A18 _ F18 => tc H16 fun _ H20 => tb fun _ H21 => (vm (fg0 F18) (wv (V_eqNN V t0 V Tryz.underlying148) (W_end (en (Ka (Qa F18)) fun A22 _ F22 => tk H21 (cond_t (fg0 F22) (tb fun _ H23 => (vc (vc (W_end (en (Kb F22) fun A24 _ F24 => tk H23 (wp_ret (then_ret (rt2 F24 (rv_tmp (fg1 F24)) (rv_tmp (fg0 F24)) ?_)))))))))))))))
  have h := rw_no (f := f) hcd hz_17
  rw [h.1, h.2]
  exact ⟨rfl, S17.fin0⟩
 refine ⟨_, rfl, ?_⟩
 have S17 := S9.j0 hP17
 have fn25 : Ro w NoX (il .i64 y_17.1.1 y_17.1.2) := nst_ro1 n_ov hy_17
 have bfn25 := SlN.le (sl_SlN (S17.ro fn25))
 have fn26 : Ro w NoX (il .u64 y_17.2.1 y_17.2.2) := nst_ro2 n_ov hy_17
 have bfn26 := SlN.le (sl_SlN (S17.ro fn26))
 refine vt (W_end (en (Ka (Qc F11)) fun A27 _ F27 => tc H16 fun _ H29 => tb fun _ H30 => (vm (fg0 F27) (wv (V_eqPN V t0 V Tryz.underlying148) (W_end (en (Ka (Qa F27)) fun A31 _ F31 => tk H30 (cond_f (fg0 F31) (wp_skip (ta H29 fun _ H32 => (vm (fg1 F31) (ni t0 (rc t0 ((sl_SlN (S17.ro fn26)).cell hv_17 (map_get hx_17)) (vt (vc (W_end (en (Kb (Qc F31)) fun A33 _ F33 => tk H32 (wp_ret (rt2 F33 (rv_tmp (fg1 F33)) (rv_tmp (fg0 F33)) ?_))))))))))))))))))
 have h := rw_ok (f := f) hcd hz_17 hob_17 hx_17
 rw [h.1, h.2]
 exact ⟨rfl, S17.fin0⟩

set_option maxHeartbeats 4000000 in
theorem kSh_c {ov : Value} {O : List Ob} {rv : Value} {rs : List Int} {a : Int} {w : World} (h_ov : Ro w NoX (rl 2 obC ov O)) (n_ov : Ro w NoX (nst O)) (h_rv : Ro w NoX (il .i64 rv rs))  :
  Calls Tryz.prog 74 #[.agg #[ov, rv], .int .i64 a] w fun e w' => e = .returned (.tuple #[.int .i64 (shP (O.map ab) rs a), .int .i64 (shR (O.map ab) rs a), .int .i64 (shE (O.map ab) rs a)]) ∧ St w NoX [] w' := by
 refine ci2 30 Tryz.func74 V (fun A0 _ F0 => ?_)
 have hS := St.nil w
 have bh_ov := SlN.le (sl_SlN h_ov.at)
 have bh_rv := SlN.le (sl_SlN h_rv.at)
 refine tb fun _ H1 => (wB (#[ov, rv]) hS (fg0 F0) (fun g2 w2 c2 hc2 S2 => vc (vc (vc (W_end (en (Qc (Ka F0)) fun A3 _ F3 => tc H1 fun _ H4 => tb fun _ H5 => (ra (fg0 F3) (S2.ob 0 hc2) (vm (Sa (fg2 F3)) ?_))))))))
 have hll6 : [a].length = 1 := rfl
 refine xsL (vs := [.int .i64 (a)]) (xs := ([a].map (Value.int .i64))) 1 S2 V V V (parts1 t0) Tryz.underlying25 (fun g6 w6 c6 hc6 S6 => ?_)
 replace hc6 : c6 = io .i64 (.slice (some ⟨g6, 0, none⟩) 1 1) [a] := hc6
 replace S6 : St w NoX [c6, c2] w6 := S6
 refine wc (args2 (Sb t0) t0) (kcd_c (S6.roC h_ov) (S6.roC n_ov) (S6.roC h_rv) (S6.cC 0 hc6).own) (C0 S6 fun w7 S7 => vt (W_end (en (Ka (Qd F3)) fun A8 _ F8 => ?_)))
 have S9 := S7.se [1] [c2]
 refine ta H5 fun _ H10 => (vm (fg0 F8) (vn t0 V (W_end (en (Ka (Qa F8)) fun A11 _ F11 => tk H10 (cd (fg0 F11) (fun c12 => ?_) fun c12 => ?_)))))
 ·refine tb fun _ H13 => (vm (fg1 F11) (vc (vc (va (Sb t0) (W_end (en (Kc (Qa F11)) fun A14 _ F14 => tk H13 (wp_ret (then_ret (rt3 F14 (rv_tmp (fg2 F14)) (rv_tmp (fg1 F14)) (rv_tmp (fg0 F14)) ?_)))))))))
  have h := sh_ck Zr
  rw [h.1, h.2.1, h.2.2]
  exact ⟨rfl, S9.fin0⟩
 have hcd : ckd (O.map ab) rs [a] = 0 := by simpa using c12
 have hG0 := (ckd_0.1 hcd).1
 have hG := hG0
 have hrg : ∀ p ∈ rs, 0 ≤ p ∧ p ≤ (O.length : Int) := fun p hp => by have q := hG0.reg p hp; rw [List.length_map] at q; exact q
 have ha := (ckd_0.1 hcd).2 a Zo
 refine wp_skip (ta H4 fun _ H16 => (vm (fg4 F11) (wc (args2 (Sa (fg2 F11)) t0) (khd_c (gov := g2) (a := a) (S9.roC h_ov) (S9.roC n_ov) (S9.roC h_rv) (S9.cC 0 hc2) (by first | with_reducible assumption | (have q := hG.reg; simpa using q)) Zm) ?_)))
 rintro _ w17 (⟨rfl, hz_17, hP17⟩ | ⟨B_17, O_17, C_17, y_17, rfl, hv_17, hy_17, hz_17, hP17⟩)
 ·refine ⟨_, rfl, ?_⟩
  have S17 := S9.j0 hP17
  refine vt (W_end (en (Ka (Qb F11)) fun A18 _ F18 => tc H16 fun _ H20 => tb fun _ H21 => (vm (fg0 F18) (wv (V_eqNN V t0 V Tryz.underlying150) (W_end (en (Ka (Qa F18)) fun A22 _ F22 => tk H21 (cond_t (fg0 F22) (tb fun _ H23 => (vc (vc (vc (W_end (en (Kc F22) fun A24 _ F24 => tk H23 (wp_ret (then_ret (rt3 F24 (rv_tmp (fg2 F24)) (rv_tmp (fg1 F24)) (rv_tmp (fg0 F24)) ?_))))))))))))))))
  have h := sh_no hcd hz_17
  rw [h.1, h.2.1, h.2.2]
  exact ⟨rfl, S17.fin0⟩
 refine ⟨_, rfl, ?_⟩
 have S17 := S9.j0 hP17
 refine vt (W_end (en (Ka (Qb F11)) fun A25 _ F25 => ?_))
 have S26 := S17.se [] []
 refine tc H16 fun _ H27 => tb fun _ H28 => (vm (fg0 F25) (wv (V_eqPN V t0 V Tryz.underlying150) (W_end (en (Ka (Qa F25)) fun A29 _ F29 => tk H28 (cond_f (fg0 F29) (wp_skip (tc H27 fun _ H30 => region_monoS 13 13 [] kr kr (dm (fg1 F29) (dn t0 (dv (V_fa (off' := O_17 + ((rg rs a - 1).toNat) * 2 + 0) V t0 Tryz.underlying70 V Zj V) ?_))))))))))
 have fn31 : Ro w NoX (il .i64 y_17.1.1 y_17.1.2) := nst_ro1 n_ov hy_17
 have bfn31 := SlN.le (sl_SlN (S26.ro fn31))
 have fn32 : Ro w NoX (il .u64 y_17.2.1 y_17.2.2) := nst_ro2 n_ov hy_17
 have bfn32 := SlN.le (sl_SlN (S26.ro fn32))
 refine dr (fun _ hx _ => (urd y_17.1.1 t0 (SlN.row obC_len (sl_SlN ((S26.grow hx).ro h_ov)) hv_17 hy_17 V 0 _ V))) (dv (ule_ t0 (sl_SlN fn31.at)) (dm (Se (fg1 F29)) (dn t0 (dv (V_fa (off' := O_17 + ((rg rs a - 1).toNat) * 2 + 1) V t0 Tryz.underlying70 V Zj V) (dr (fun _ hx _ => (urd y_17.2.1 t0 (SlN.row obC_len (sl_SlN ((S26.grow hx).ro h_ov)) hv_17 hy_17 V 1 _ V))) (dv (ule_ t0 (sl_SlN fn32.at)) (dv (uva (Se t0)) (dv (uva (Sa t0)) (dv (V_asg V V) (ZS_none S26 (Nat.le_refl _) (Nat.le_refl _) (fun s33 hJ33 hL33 hF33 => ?_)))))))))))
 have S33 := hJ33.st; clear hF33 hJ33 hL33
 generalize s33.1 = w33 at *
 replace S33 : St w NoX [] w33 := S33
 refine en (Kc (Qb (Qh F29))) fun A34 _ F34 => tk H30 (wp_ret (rt3 F34 (rv_tmp (fg2 F34)) (rv_tmp (fg1 F34)) (rv_tmp (fg0 F34)) ?_))
 have h := sh_ok hcd hz_17 (ob_at hy_17)
 rw [h.1, h.2.1, h.2.2]
 exact ⟨rfl, S33.fin0⟩

set_option maxHeartbeats 4000000 in
theorem kAl_c {ov : Value} {O : List Ob} {rv : Value} {rs : List Int} {a b : Int} {w : World} (h_ov : Ro w NoX (rl 2 obC ov O)) (n_ov : Ro w NoX (nst O)) (h_rv : Ro w NoX (il .i64 rv rs))  :
  Calls Tryz.prog 72 #[.agg #[ov, rv], .int .i64 a, .int .i64 b] w fun e w' => e = .returned (.tuple #[.bool (alB (O.map ab) rs a b), .int .i64 (ckd (O.map ab) rs [a, b])]) ∧ St w NoX [] w' := by
 refine ci3 30 Tryz.func72 V (fun A0 _ F0 => ?_)
 have hS := St.nil w
 have bh_ov := SlN.le (sl_SlN h_ov.at)
 have bh_rv := SlN.le (sl_SlN h_rv.at)
 refine tb fun _ H1 => (wB (#[ov, rv]) hS (fg0 F0) (fun g2 w2 c2 hc2 S2 => vc (vc (W_end (en (Qb (Ka F0)) fun A3 _ F3 => ta H1 fun _ H4 => (ra (fg0 F3) (S2.ob 0 hc2) (vm (Sa (fg2 F3)) (vm (Sb (fg3 F3)) ?_))))))))
 have hll5 : [a, b].length = 2 := rfl
 refine xsL (vs := [.int .i64 (a), .int .i64 (b)]) (xs := ([a, b].map (Value.int .i64))) 1 S2 V V V (parts2 (Sa t0) t0) Tryz.underlying25 (fun g5 w5 c5 hc5 S5 => ?_)
 replace hc5 : c5 = io .i64 (.slice (some ⟨g5, 0, none⟩) 2 2) [a, b] := hc5
 replace S5 : St w NoX [c5, c2] w5 := S5
 refine wc (args2 (Sc t0) t0) (kcd_c (S5.roC h_ov) (S5.roC n_ov) (S5.roC h_rv) (S5.cC 0 hc5).own) (C0 S5 fun w6 S6 => vt (W_end (en (Ka (Qe F3)) fun A7 _ F7 => ?_)))
 have S8 := S6.se [1] [c2]
 refine tc H4 fun _ H9 => region_monoS 18 18 [] kr kr (dm (fg0 F7) (dv (uve t0 V) (D_split V V (V_mov V t0) V V (fun c10 => ?_) (fun c10 => ?_))))
 ·have hcd : ckd (O.map ab) rs [a, b] = 0 := by simpa using c10
  have hG0 := (ckd_0.1 hcd).1
  have hG := hG0
  have hrg : ∀ p ∈ rs, 0 ≤ p ∧ p ≤ (O.length : Int) := fun p hp => by have q := hG0.reg p hp; rw [List.length_map] at q; exact q
  have ha := (ckd_0.1 hcd).2 a Zo
  have hb := (ckd_0.1 hcd).2 b Zo
  refine D_v V (xwt V V t0) (V_fa (off' := 1) V (Sc (fg1 F7)) Tryz.underlying30 V Zj V) V V (D_r V (xwt V V (Sa t0)) kr (fun sx hx hF => (VR_ldC V t0 (cell_box (v := rv) ((S8.grow hx).ob 0 hc2) V) Tryz.underlying25 V)) V V (D_v V (xwt V V (Sb t0)) (V_mov V (Se (fg3 F7))) V V ?_))
  have k11 : a.toNat < rs.length := om
  obtain ⟨y11, hy11⟩ := get_some (xs := rs) (k := a.toNat) k11
  obtain ⟨B11, O11, C11, hv11⟩ := (SlN.blk (sl_SlN h_rv.at) om)
  refine D_v V (xwt V V (Sc t0)) (V_ixS (off := O11 + a.toNat) 1 a.toNat V (Sa t0) t0 hv11 Zb k11 Tryz.underlying25 kr (congrArg _ (Nat.mul_one _))) V V (D_r V (xwt V V (Sd t0)) kr (fun sx hx hF => (VR_ldC V t0 ((sl_SlN ((S8.grow hx).ro h_rv)).cell hv11 (map_get hy11)) Tryz.underlying3 V)) V V (D_v V (xwt V V (Se t0)) (V_fa (off' := 1) V (Sh (fg1 F7)) Tryz.underlying30 V Zj V) V V (D_r V (xwt V V (Sf t0)) kr (fun sx hx hF => (VR_ldC V t0 (cell_box (v := rv) ((S8.grow hx).ob 0 hc2) V) Tryz.underlying25 V)) V V (D_v V (xwt V V (Sg t0)) (V_mov V (Sh (Sb (fg4 F7)))) V V ?_))))
  have k12 : b.toNat < rs.length := om
  obtain ⟨y12, hy12⟩ := get_some (xs := rs) (k := b.toNat) k12
  refine D_v V (xwt V V (Sh t0)) (V_ixS (off := O11 + b.toNat) 1 b.toNat V (Sa t0) t0 hv11 Zb k12 Tryz.underlying25 kr (congrArg _ (Nat.mul_one _))) V V (D_r V (xwt V V (Sh (Sa t0))) kr (fun sx hx hF => (VR_ldC V t0 ((sl_SlN ((S8.grow hx).ro h_rv)).cell hv11 (map_get hy12)) Tryz.underlying3 V)) V V (D_v V (xwt V V (Sh (Sb t0))) (V_eql V (Se t0) t0) V V (dv (uvT (Sh (Sc t0)) t0) (dm (Sh (Sg (fg0 F7))) (dv (uva (Sa t0)) (dv (uva (Sa t0)) (ZS_none S8 (Nat.le_refl _) (Nat.le_refl _) (fun s13 hJ13 hL13 hF13 => ?_))))))))
  have S13 := hJ13.st; clear hF13 hJ13 hL13
  generalize s13.1 = w13 at *
  replace S13 : St w NoX [c2] w13 := S13
  refine en (Kb (Qh (Qh F7))) fun A14 _ F14 => tk H9 (wp_ret (rt2 F14 (rv_tmp (fg1 F14)) (rv_tmp (fg0 F14)) ?_))
  have h := al_ok hcd hy11 hy12
  rw [h]
  exact ⟨rfl, S13.fin0⟩
 refine D_off V (wanted_f V V t0 (ez V) V) V (D_off V (wanted_f V V (Sa t0) (ez V) V) V (D_off V (wanted_f V V (Sb t0) (ez V) V) V (D_off V (wanted_f V V (Sc t0) (ez V) V) V (D_off V (wanted_f V V (Sd t0) (ez V) V) V (D_off V (wanted_f V V (Se t0) (ez V) V) V (D_off V (wanted_f V V (Sf t0) (ez V) V) V (D_off V (wanted_f V V (Sg t0) (ez V) V) V (D_off V (wanted_f V V (Sh t0) (ez V) V) V (D_off V (wanted_f V V (Sh (Sa t0)) (ez V) V) V (D_off V (wanted_f V V (Sh (Sb t0)) (ez V) V) V (dv (uvF (Sh (Sc t0)) V) (dm (Sh (Sg (fg0 F7))) (dv (uva (Sa t0)) (dv (uva (Sa t0)) (ZS_none S8 (Nat.le_refl _) (Nat.le_refl _) (fun s16 hJ16 hL16 hF16 => ?_))))))))))))))))
 have S16 := hJ16.st; clear hF16 hJ16 hL16
 generalize s16.1 = w16 at *
 replace S16 : St w NoX [c2] w16 := S16
 refine en (Kb (Qh (Qh F7))) fun A17 _ F17 => tk H9 (wp_ret (rt2 F17 (rv_tmp (fg1 F17)) (rv_tmp (fg0 F17)) ?_))
 have h := al_err (O := (O.map ab)) (rs := rs) (a := a) (b := b) c10
 rw [h]
 exact ⟨rfl, S16.fin0⟩

set_option maxHeartbeats 4000000 in
theorem qid_c {ov : Value} {O : List Ob} {rv : Value} {rs : List Int} {n : Int} {w : World} (h_ov : Ro w NoX (rl 2 obC ov O)) (n_ov : Ro w NoX (nst O)) (h_rv : Ro w NoX (il .i64 rv rs))  :
  Calls Tryz.prog 76 #[.agg #[ov, rv], .int .i64 n] w fun e w' => e = .returned (.bool (decide (0 ≤ n ∧ n ≤ (O.length : Int)))) ∧ St w NoX [] w' := by
 refine ci2 14 Tryz.func76 V (fun A0 _ F0 => ?_)
 have hS := St.nil w
 have bh_ov := SlN.le (sl_SlN h_ov.at)
 have bh_rv := SlN.le (sl_SlN h_rv.at)
 refine tb fun _ H1 => (wB (#[ov, rv]) hS (fg0 F0) (fun g2 w2 c2 hc2 S2 => vc (W_end (en (Qa (Ka F0)) fun A3 _ F3 => ta H1 fun _ H4 => (vm (fg2 F3) (vh t0 V (W_split V V (V_mov V t0) (fun c5 => ?_) (fun c5 => ?_))))))))
 ·refine wg V t0 (uvm (Sc (fg2 F3))) (wg V (Sa t0) (ufa 0 (Sd (fg0 F3))) (wq V (Sb t0) (urL ov t0 (S2.ob 0 hc2)) (wg V (Sc t0) (ule_ t0 (sl_SlN h_ov.at)) (wg V (Sd t0) (uvk (Sc t0) t0) (vT (Se t0) t0 (vt (W_end (en (Ka (Qa (Qh F3))) fun A6 _ F6 => tk H4 (wp_ret (rt1 F6 (rv_tmp (fg0 F6)) ?_))))))))))
  rw [show (decide (0 ≤ n ∧ n ≤ (O.length : Int))) = decide (n ≤ (O.length : Int)) by exact decide_eq_decide.2 Zb]
  exact ⟨rfl, S2.fin0⟩
 refine xo V t0 (xo V (Sa t0) (xo V (Sb t0) (xo V (Sc t0) (xo V (Sd t0) (vF (Se t0) V (vt (W_end (en (Ka (Qa (Qh F3))) fun A8 _ F8 => tk H4 (wp_ret (rt1 F8 (rv_tmp (fg0 F8)) ?_))))))))))
 rw [show (decide (0 ≤ n ∧ n ≤ (O.length : Int))) = false by exact decide_eq_false Zb]
 exact ⟨rfl, S2.fin0⟩

set_option maxHeartbeats 4000000 in
theorem qCk_c {ov : Value} {O : List Ob} {rv : Value} {rs : List Int} {w : World} (h_ov : Ro w NoX (rl 2 obC ov O)) (n_ov : Ro w NoX (nst O)) (h_rv : Ro w NoX (il .i64 rv rs))  :
  Calls Tryz.prog 40 #[.agg #[ov, rv]] w fun e w' => e = .returned (.tuple #[.int .i64 (ckG (O.map ab) rs).1, .int .i64 (ckG (O.map ab) rs).2]) ∧ St w NoX [] w' := by
 refine ci1 76 Tryz.func40 V (fun A0 _ F0 => ?_)
 have hS := St.nil w
 have bh_ov := SlN.le (sl_SlN h_ov.at)
 have bh_rv := SlN.le (sl_SlN h_rv.at)
 refine tb fun _ H1 => (wB (#[ov, rv]) hS (fg0 F0) (fun g2 w2 c2 hc2 S2 => vc (vc (W_end (en (Qb (Ka F0)) fun A3 _ F3 => tc H1 fun _ H4 => tb fun _ H5 => (fa 1 (fg0 F3) (rL rv t0 (S2.ob 0 hc2) (le_ t0 (sl_SlN h_rv.at) (vl t0 V (W_split V V (V_mov V t0) (fun c6 => ?_) (fun c6 => ?_)))))))))))
 ·refine xo V t0 (xo V (Sa t0) (xo V (Sb t0) (xo V (Sc t0) (vT (Sd t0) V (W_end (en (Ka (Qa (Qh F3))) fun A7 _ F7 => tk H5 (cond_t (fg0 F7) (tb fun _ H8 => (vc (vc (W_end (en (Kb F7) fun A9 _ F9 => tk H8 (wp_ret (then_ret (rt2 F9 (rv_tmp (fg1 F9)) (rv_tmp (fg0 F9)) ?_)))))))))))))))
  have h : ckG (O.map ab) rs = (0, 7) := ckG_rng Zb
  rw [h]
  exact ⟨rfl, S2.fin0⟩
 refine wg V t0 (ufa 1 (Se (fg0 F3))) (wq V (Sa t0) (urL rv t0 (S2.ob 0 hc2)) (wg V (Sb t0) (ule_ t0 (sl_SlN h_rv.at)) (wg V (Sc t0) (uvg t0 V) (vF (Sd t0) t0 (W_end (en (Ka (Qa (Qh F3))) fun A11 _ F11 => tk H5 (cd (fg0 F11) (fun c12 => ?_) fun c12 => ?_)))))))
 ·refine tb fun _ H13 => (vc (vc (W_end (en (Kb F11) fun A14 _ F14 => tk H13 (wp_ret (then_ret (rt2 F14 (rv_tmp (fg1 F14)) (rv_tmp (fg0 F14)) ?_)))))))
  have h : ckG (O.map ab) rs = (0, 7) := ckG_rng Zb
  rw [h]
  exact ⟨rfl, S2.fin0⟩
 refine wp_skip (tc H4 fun _ H16 => tb fun _ H17 => (fa 0 (fg1 F11) (rL ov t0 (S2.ob 0 hc2) (le_ t0 (sl_SlN h_ov.at) (vg t0 V (W_end (en (Ka (Qc F11)) fun A18 _ F18 => tk H17 (cd (fg0 F18) (fun c19 => ?_) fun c19 => ?_))))))))
 ·refine tb fun _ H20 => (vc (vc (W_end (en (Kb F18) fun A21 _ F21 => tk H20 (wp_ret (then_ret (rt2 F21 (rv_tmp (fg1 F21)) (rv_tmp (fg0 F21)) ?_)))))))
  have h : ckG (O.map ab) rs = (0, 3) := ckG_long Zb Zp
  rw [h]
  exact ⟨rfl, S2.fin0⟩
 refine wp_skip (tc H16 fun _ H23 => tb fun _ H24 => (vc (W_end (en (Ka F18) fun A25 Y25 F25 => tk H24 (wp_block ?_)))))
 -- loop 6
 refine loopX (fun mz A' w' => SzN A' 76 ∧ A'.defers = [] ∧ (∃ (k : Nat), (mz = O.length - k) ∧ (k ≤ O.length) ∧ (cgAt (O.map ab) k) ∧ (EV A' (.tmp 4) = .int .i64 (k : Int)) ∧ (EV A' (.tmp 1) = EV A25 (.tmp 1)) ∧ (St w NoX [bx g2 30 #[ov, rv]] w'))) (O.length - 0) ⟨Y25, F25.d, 0, rfl, Zb, rfl, ((fg0 F25).trans Za), rfl, (by subst hc2; exact S2)⟩ ?_
 clear S2 hc2
 rintro n26 A26 w26 ⟨Y26, hdf26, k, hm26, hk, hz, l4_26, u1_26, S26⟩
 have l1_26 := u1_26.trans (fg3 F25)
 obtain ⟨c2_26, hc2_26, S26⟩ := gen1 S26
 refine td fun _ H27 => tb fun _ H28 => (vm l4_26 (fa 0 (Sa l1_26) (rL ov t0 (S26.ob 0 hc2_26) (le_ t0 (sl_SlN h_ov.at) (vl (Sc t0) t0 (W_end (en ((((ck (cq4 (FS.n hdf26) V) V V)).c (es5 V l1_26)).c (Se l4_26)) fun A29 _ F29 => tk H28 (cd (fg2 F29) (fun c30 => ?_) fun c30 => ?_))))))))
 ·refine wp_skip (tc H27 fun _ H31 => wp_block (tb fun _ H32 => (fa 0 (fg1 F29) (rL ov t0 (S26.ob 0 hc2_26) (vm (Sb (fg0 F29)) ?_)))))
  have k33 : k < O.length := om
  obtain ⟨y33, hy33⟩ := get_some (xs := O) (k := k) k33
  have hm33 : (O.map ab)[k]? = some (ab y33) := mapE hy33
  obtain ⟨B33, O33, C33, hv33⟩ := (SlN.blk (sl_SlN h_ov.at) om)
  refine wv (V_ixS (off := O33 + k * 2) 2 k V (Sa t0) t0 hv33 Zb k33 Tryz.underlying28 kr V) ?_
  have fn34 : Ro w NoX (il .i64 y33.1.1 y33.1.2) := nst_ro1 n_ov hy33
  have bfn34 := SlN.le (sl_SlN (S26.ro fn34))
  have fn35 : Ro w NoX (il .u64 y33.2.1 y33.2.2) := nst_ro2 n_ov hy33
  have bfn35 := SlN.le (sl_SlN (S26.ro fn35))
  refine wr (VR_ldR (ys := obC y33) V t0 (SlN.row obC_len (sl_SlN (S26.ro h_ov)) hv33 hy33 V) Tryz.underlying70 V kr) (wA (#[.slice none 0 0, .slice none 0 0]) S26 (fun g36 w36 c36 hc36 S36 => ?_))
  replace S36 : St w NoX [c36, c2_26] w36 := S36
  refine xsB0 S36 hc36 V V V t0 (Sa t0) (by simp only [List.all_toArray, List.all_cons, List.all_nil, obC, SlN_one (sl_SlN fn34.at), SlN_one (sl_SlN fn35.at)] <;> rfl) (fun w37 c37 hc37 S37 => W_end (en (Ka (Qe F29)) fun A38 _ F38 => tc H32 fun _ H39 => tb fun _ H40 => (fa 0 (fg0 F38) (rL y33.1.1 t0 (S37.ob 0 hc37) (le_ t0 (sl_SlN fn34.at) (fa 1 (Sc (fg0 F38)) (rL y33.2.1 t0 (S37.ob 0 hc37) (le_ t0 (sl_SlN fn35.at) (wv (V_addw V (Sc t0) t0) (vg t0 V (W_end (en (Ka (Qg F38)) fun A41 _ F41 => tk H40 (cd (fg0 F41) (fun c42 => ?_) fun c42 => ?_)))))))))))))
  ·refine tb fun _ H43 => (vm (fg2 F41) (ad t0 V (vt (vc (W_end (en (Kb (Qb F41)) fun A44 _ F44 => tk H43 (wp_ret (then_ret (inb_ret (then_ret (then_ret (inb_ret (then_ret (rt2 F44 (rv_tmp (fg1 F44)) (rv_tmp (fg0 F44)) ?_))))))))))))))
   have h : ckG (O.map ab) rs = (((k : Int) + 1), 3) := (ckG_obj Zb Zp hz hm33).1 c42
   rw [h]
   exact ⟨rfl, S37.fin0⟩
  refine wp_skip (ta H39 fun _ H46 => (vc (W_end (en (Ka F41) fun A47 Y47 F47 => tk H46 (wp_block ?_)))))
  -- loop 12
  refine loopX (fun mz A' w' => SzN A' 76 ∧ A'.defers = [] ∧ (∃ (j : Nat), (mz = y33.1.2.length - j) ∧ (j ≤ y33.1.2.length) ∧ (∀ i, i < j → ∀ x, y33.1.2[i]? = some x → 0 ≤ x ∧ x ≤ (((O.map ab).length : Nat) : Int)) ∧ (EV A' (.tmp 6) = .int .i64 (j : Int)) ∧ (EV A' (.tmp 1) = EV A47 (.tmp 1)) ∧ (EV A' (.tmp 4) = EV A47 (.tmp 4)) ∧ (EV A' (.tmp 5) = EV A47 (.tmp 5)) ∧ (St w NoX [bx g36 70 #[y33.1.1, y33.2.1], bx g2 30 #[ov, rv]] w'))) (y33.1.2.length - 0) ⟨Y47, F47.d, 0, rfl, Zb, (fun i hi => by omega), ((fg0 F47).trans Za), rfl, rfl, rfl, (by subst hc37 hc2_26; exact S37)⟩ ?_
  clear S37 hc37 hc2_26
  rintro n48 A48 w48 ⟨Y48, hdf48, j, hm48, hj, hpp, l6_48, u1_48, u4_48, u5_48, S48⟩
  have l1_48 := u1_48.trans (fg4 F47)
  have l4_48 := u4_48.trans (fg3 F47)
  have l5_48 := u5_48.trans (fg2 F47)
  obtain ⟨c37_48, c2_48, hc37_48, hc2_48, S48⟩ := gen2 S48
  refine td fun _ H49 => tb fun _ H50 => (vm l6_48 (fa 0 (Sa l5_48) (rL y33.1.1 t0 (S48.ob 0 hc37_48) (le_ t0 (sl_SlN fn34.at) (vl (Sc t0) t0 (W_end (en ((((((ck (cq4 (FS.n hdf48) V) V V)).c (es5 V l1_48)).c (es5 V l4_48)).c (es5 V l5_48)).c (Se l6_48)) fun A51 _ F51 => tk H50 (cd (fg4 F51) (fun c52 => ?_) fun c52 => ?_))))))))
  ·refine wp_skip (tc H49 fun _ H53 => wp_block (td fun _ H54 => ?_))
   have k55 : j < y33.1.2.length := om
   obtain ⟨y55, hy55⟩ := get_some (xs := y33.1.2) (k := j) k55
   refine region_monoS 8 8 [none, none, none, none, none, none, some (SPv [] (fun _ => fun u l' => u = .bool (decide (0 ≤ y55 ∧ y55 ≤ (O.length : Int))) ∧ l' = []) 6)] kr kr (dr (fun _ hx _ => (ura (fg3 F51) ((S48.grow hx).ob 1 hc2_48))) (df 0 (Sa (fg1 F51)) (dr (fun _ hx _ => (urc t0 (cell_box (v := y33.1.1) ((S48.grow hx).ob 0 hc37_48) V))) (dm (Sc (fg0 F51)) ?_))))
   obtain ⟨B55, O55, C55, hv55⟩ := (SlN.blk (sl_SlN fn34.at) om)
   refine dv (V_ixS (off := O55 + j) 1 j V (Sa t0) t0 hv55 Zb k55 Tryz.underlying25 kr (congrArg _ (Nat.mul_one _))) (dr (fun _ hx _ => (urc t0 ((sl_SlN ((S48.grow hx).ro fn34)).cell hv55 (map_get hy55)))) (D_call (ts := []) (vs := []) (C0 := fun _ => fun u l' => u = .bool (decide (0 ≤ y55 ∧ y55 ≤ (O.length : Int))) ∧ l' = []) (C := fun u l' => u = .bool (decide (0 ≤ y55 ∧ y55 ≤ (O.length : Int))) ∧ l' = []) V V V Tryz.func76 kr V (args2 (Se t0) t0) V V V V (fun sx hx hF => ?_) (fun u56 l56 hu56 => ?_)))
   ·refine (qid_c (n := y55) ((S48.grow hx).roC h_ov) ((S48.grow hx).roC n_ov) ((S48.grow hx).roC h_rv) ).mono ?_
    rintro _ _ ⟨rfl, hz⟩
    exact ⟨_, rfl, _, ⟨rfl, rfl⟩, hz⟩
   obtain ⟨rfl, hl56⟩ := hu56
   refine dv (V_notd V t0) (ZS_none S48 (Nat.le_refl _) (Nat.le_refl _) (fun s57 hJ57 hL57 hF57 => ?_))
   obtain ⟨ll56, ws56, we56, ⟨hq56, hl56r⟩, hm56, k56, e56⟩ := L.all_get hF57; cases hq56; subst hl56r
   replace hJ57 := hJ57.add hL57 (i := 6) V hm56 k56 e56
   have S57 := hJ57.st; clear hF57 hJ57 hL57
   generalize s57.1 = w57 at *
   replace S57 : St w NoX [c37_48, c2_48] w57 := S57
   refine en (Ka (Qg F51)) fun A58 _ F58 => tk H54 (cd (fg0 F58) (fun c59 => ?_) fun c59 => ?_)
   ·refine tb fun _ H60 => (vm (fg3 F58) (ad t0 V (vt (vc (W_end (en (Kb (Qb F58)) fun A61 _ F61 => tk H60 (wp_ret (inb_ret (then_ret (then_ret (inb_ret (inb_ret (then_ret (then_ret (inb_ret (then_ret (rt2 F61 (rv_tmp (fg1 F61)) (rv_tmp (fg0 F61)) ?_)))))))))))))))))
    have h : ckG (O.map ab) rs = (((k : Int) + 1), 6) := (ckG_obj Zb Zp hz hm33).2 c42 (any_at hy55 (by rw [List.length_map]; have hc := c59; simpa using hc))
    rw [h]
    exact ⟨rfl, S57.fin0⟩
   refine wp_skip (inb_n (tk H53 (region_in (vm (fg1 F58) (ad t0 V (vt (W_end (en (Ka (Qb (fx1 F58))) fun A63 Y63 F63 => then_n ⟨y33.1.2.length - (j + 1), by simp only [hm48]; omega, Y63, F63.d, (j + 1), rfl, Zb, (rn_step hpp hy55 (by rw [List.length_map]; have hc := c59; simpa using hc)), ((fg0 F63).trans Za), ((fg4 F63).trans (fg4 F47).symm), ((fg3 F63).trans (fg3 F47).symm), ((fg2 F63).trans (fg2 F47).symm), (by subst hc37_48 hc2_48; exact S57)⟩))))))))
  refine wp_exit (then_exit (then_exit (inb_hit (inb_n (tk H31 (region_in (vm (fg2 F51) (ad t0 V (vt (W_end (en (Ka (Qb (fx2 F51))) fun A64 Y64 F64 => ?_)))))))))))
  have S65 := S48.se [1] [c2_48]
  refine then_n ⟨O.length - (k + 1), by simp only [hm26]; omega, Y64, F64.d, (k + 1), rfl, Zb, (cg_step hz hm33 c42 (any_none (l := (ab y33).1) hpp (by simp only [ab]; omega))), ((fg0 F64).trans Za), ((fg3 F64).trans (fg3 F25).symm), (by subst hc2_48; exact S65)⟩
 refine wp_exit (then_exit (then_exit (inb_hit (tc H23 fun _ H66 => tb fun _ H67 => (vc (W_end (en (Ka F29) fun A68 Y68 F68 => tk H67 (wp_block ?_))))))))
 -- loop 17
 refine loopX (fun mz A' w' => SzN A' 76 ∧ A'.defers = [] ∧ (∃ (m : Nat), (mz = rs.length - m) ∧ (m ≤ rs.length) ∧ (∀ i, i < m → ∀ x, rs[i]? = some x → 0 ≤ x ∧ x ≤ (((O.map ab).length : Nat) : Int)) ∧ (EV A' (.tmp 7) = .int .i64 (m : Int)) ∧ (EV A' (.tmp 1) = EV A68 (.tmp 1)) ∧ (St w NoX [bx g2 30 #[ov, rv]] w'))) (rs.length - 0) ⟨Y68, F68.d, 0, rfl, Zb, (fun i hi => by omega), ((fg0 F68).trans Za), rfl, (by subst hc2_26; exact S26)⟩ ?_
 clear S26 hc2_26
 rintro n69 A69 w69 ⟨Y69, hdf69, m, hm69, hmm, hrr, l7_69, u1_69, S69⟩
 have l1_69 := u1_69.trans (fg2 F68)
 obtain ⟨c2_69, hc2_69, S69⟩ := gen1 S69
 refine td fun _ H70 => tb fun _ H71 => (vm l7_69 (fa 1 (Sa l1_69) (rL rv t0 (S69.ob 0 hc2_69) (le_ t0 (sl_SlN h_rv.at) (vl (Sc t0) t0 (W_end (en ((((ck (cq4 (FS.n hdf69) V) V V)).c (es5 V l1_69)).c (Se l7_69)) fun A72 _ F72 => tk H71 (cd (fg2 F72) (fun c73 => ?_) fun c73 => ?_))))))))
 ·refine wp_skip (tc H70 fun _ H74 => wp_block (td fun _ H75 => ?_))
  have k76 : m < rs.length := om
  obtain ⟨y76, hy76⟩ := get_some (xs := rs) (k := m) k76
  refine region_monoS 8 8 [none, none, none, none, none, none, some (SPv [] (fun _ => fun u l' => u = .bool (decide (0 ≤ y76 ∧ y76 ≤ (O.length : Int))) ∧ l' = []) 6)] kr kr (dr (fun _ hx _ => (ura (fg1 F72) ((S69.grow hx).ob 0 hc2_69))) (df 1 (Sa (fg1 F72)) (dr (fun _ hx _ => (urc t0 (cell_box (v := rv) ((S69.grow hx).ob 0 hc2_69) V))) (dm (Sc (fg0 F72)) ?_))))
  obtain ⟨B76, O76, C76, hv76⟩ := (SlN.blk (sl_SlN h_rv.at) om)
  refine dv (V_ixS (off := O76 + m) 1 m V (Sa t0) t0 hv76 Zb k76 Tryz.underlying25 kr (congrArg _ (Nat.mul_one _))) (dr (fun _ hx _ => (urc t0 ((sl_SlN ((S69.grow hx).ro h_rv)).cell hv76 (map_get hy76)))) (D_call (ts := []) (vs := []) (C0 := fun _ => fun u l' => u = .bool (decide (0 ≤ y76 ∧ y76 ≤ (O.length : Int))) ∧ l' = []) (C := fun u l' => u = .bool (decide (0 ≤ y76 ∧ y76 ≤ (O.length : Int))) ∧ l' = []) V V V Tryz.func76 kr V (args2 (Se t0) t0) V V V V (fun sx hx hF => ?_) (fun u77 l77 hu77 => ?_)))
  ·refine (qid_c (n := y76) ((S69.grow hx).roC h_ov) ((S69.grow hx).roC n_ov) ((S69.grow hx).roC h_rv) ).mono ?_
   rintro _ _ ⟨rfl, hz⟩
   exact ⟨_, rfl, _, ⟨rfl, rfl⟩, hz⟩
  obtain ⟨rfl, hl77⟩ := hu77
  refine dv (V_notd V t0) (ZS_none S69 (Nat.le_refl _) (Nat.le_refl _) (fun s78 hJ78 hL78 hF78 => ?_))
  obtain ⟨ll77, ws77, we77, ⟨hq77, hl77r⟩, hm77, k77, e77⟩ := L.all_get hF78; cases hq77; subst hl77r
  replace hJ78 := hJ78.add hL78 (i := 6) V hm77 k77 e77
  have S78 := hJ78.st; clear hF78 hJ78 hL78
  generalize s78.1 = w78 at *
  replace S78 : St w NoX [c2_69] w78 := S78
  refine en (Ka (Qg F72)) fun A79 _ F79 => tk H75 (cd (fg0 F79) (fun c80 => ?_) fun c80 => ?_)
  ·refine tb fun _ H81 => (vc (vc (W_end (en (Kb F79) fun A82 _ F82 => tk H81 (wp_ret (inb_ret (then_ret (then_ret (inb_ret (then_ret (rt2 F82 (rv_tmp (fg1 F82)) (rv_tmp (fg0 F82)) ?_)))))))))))
   have h : ckG (O.map ab) rs = (0, 6) := (ckG_end Zb Zp hz Zp).trans (if_pos (any_at hy76 (by rw [List.length_map]; have hc := c80; simpa using hc)))
   rw [h]
   exact ⟨rfl, S78.fin0⟩
  refine wp_skip (inb_n (tk H74 (region_in (vm (fg1 F79) (ad t0 V (vt (W_end (en (Ka (Qb (fx1 F79))) fun A84 Y84 F84 => then_n ⟨rs.length - (m + 1), by simp only [hm69]; omega, Y84, F84.d, (m + 1), rfl, Zb, (rn_step hrr hy76 (by rw [List.length_map]; have hc := c80; simpa using hc)), ((fg0 F84).trans Za), ((fg2 F84).trans (fg2 F68).symm), (by subst hc2_69; exact S78)⟩))))))))
 refine wp_exit (then_exit (then_exit (inb_hit (ta H66 fun _ H85 => (vc (vc (W_end (en (Kb F72) fun A86 _ F86 => tk H85 (wp_ret (rt2 F86 (rv_tmp (fg1 F86)) (rv_tmp (fg0 F86)) ?_))))))))))
 have h : ckG (O.map ab) rs = (0, 0) := (ckG_end Zb Zp hz Zp).trans (if_neg (by rw [any_none (n := (O.map ab).length) hrr Zb]; decide))
 rw [h]
 exact ⟨rfl, S69.fin0⟩

set_option maxHeartbeats 4000000 in
theorem qcd_c {ov : Value} {O : List Ob} {rv : Value} {rs : List Int} {nv : Value} {ns : List Int} {w : World} (h_ov : Ro w NoX (rl 2 obC ov O)) (n_ov : Ro w NoX (nst O)) (h_rv : Ro w NoX (il .i64 rv rs)) (h_nv : Ro w NoX (il .i64 nv ns))  :
  Calls Tryz.prog 109 #[.agg #[ov, rv], nv] w fun e w' => e = .returned (.int .i64 (ckd (O.map ab) rs ns)) ∧ St w NoX [] w' := by
 refine ci2 39 Tryz.func109 V (fun A0 _ F0 => ?_)
 have hS := St.nil w
 have bh_ov := SlN.le (sl_SlN h_ov.at)
 have bh_rv := SlN.le (sl_SlN h_rv.at)
 have bh_nv := SlN.le (sl_SlN h_nv.at)
 refine tb fun _ H1 => (wB (#[ov, rv]) hS (fg0 F0) (fun g2 w2 c2 hc2 S2 => vc (W_end (en (Qa (Ka F0)) fun A3 _ F3 => ta H1 fun _ H4 => (ra (fg0 F3) (S2.ob 0 hc2) (wc (args1 t0) (qCk_c (S2.roC h_ov) (S2.roC n_ov) (S2.roC h_rv)) (C0 S2 fun w5 S5 => vm t0 (vx (.int .i64 ((ckG (O.map ab) rs).1)) t0 (vx (.int .i64 ((ckG (O.map ab) rs).2)) (Sa t0) (va (Sa t0) (va (Sa t0) (W_end (en (Ka (Qf F3)) fun A6 _ F6 => tc H4 fun _ H7 => tb fun _ H8 => (vc (W_end (en (Ka F6) fun A9 Y9 F9 => tk H8 (wp_block ?_)))))))))))))))))
 -- loop 3
 refine loopX (fun mz A' w' => SzN A' 39 ∧ A'.defers = [] ∧ (∃ (j : Nat) (e0 : Int), (mz = ns.length - j) ∧ (j ≤ ns.length) ∧ (e0 = if (ckG (O.map ab) rs).2 ≠ 0 then (ckG (O.map ab) rs).2 else if (ns.take j).all (inR rs.length) then 0 else 10) ∧ (EV A' (.tmp 7) = .int .i64 (j : Int)) ∧ (EV A' (.tmp 6) = .int .i64 e0) ∧ (EV A' (.tmp 1) = EV A9 (.tmp 1)) ∧ (EV A' (.tmp 2) = EV A9 (.tmp 2)) ∧ (St w NoX [bx g2 30 #[ov, rv]] w'))) (ns.length - 0) ⟨Y9, F9.d, 0, (ckG (O.map ab) rs).2, rfl, (Nat.zero_le _), (as_init _ _ _), ((fg0 F9).trans Za), ((fg1 F9).trans Za), rfl, rfl, (by subst hc2; exact S5)⟩ ?_
 clear S5 hc2
 rintro n10 A10 w10 ⟨Y10, hdf10, j, e0, hm10, hj, he0, l7_10, l6_10, u1_10, u2_10, S10⟩
 have l1_10 := u1_10.trans (fg4 F9)
 have l2_10 := u2_10.trans (fg2 F9)
 obtain ⟨c2_10, hc2_10, S10⟩ := gen1 S10
 refine td fun _ H11 => tb fun _ H12 => (vm l7_10 (vm (Sa l1_10) (le_ t0 (sl_SlN h_nv.at) (vl (Sb t0) t0 (W_split V V (V_mov V t0) (fun c13 => ?_) (fun c13 => ?_))))))
 ·refine wg V t0 (uvm (Se l6_10)) (wg V (Sa t0) (uve t0 V) (vT (Sb t0) t0 (W_end (en ((((((ck (ck (ck (cq5 (FS.n hdf10) V) V V) V V) V V)).c (es8 V l1_10)).c (es8 V l2_10)).c (es8 V l6_10)).c (Sh l7_10)) fun A14 _ F14 => tk H12 (cd (fg4 F14) (fun c15 => ?_) fun c15 => ?_)))))
  ·refine wp_skip (tc H11 fun _ H16 => wp_block (td fun _ H17 => region_monoS 15 15 [] kr kr (dm (fg3 F14) (dm (Sa (fg0 F14)) ?_))))
   have k18 : j < ns.length := om
   obtain ⟨y18, hy18⟩ := get_some (xs := ns) (k := j) k18
   obtain ⟨B18, O18, C18, hv18⟩ := (SlN.blk (sl_SlN h_nv.at) om)
   refine dv (V_ixS (off := O18 + j) 1 j V (Sa t0) t0 hv18 Zb k18 Tryz.underlying25 kr (congrArg _ (Nat.mul_one _))) (dr (fun _ hx _ => (urc t0 ((sl_SlN ((S10.grow hx).ro h_nv)).cell hv18 (map_get hy18)))) (dv (uvl t0 V) (D_split V V (V_mov V t0) V V (fun c19 => ?_) (fun c19 => ?_))))
   ·refine D_off V (wanted_f V V t0 (ez V) V) V (D_off V (wanted_f V V (Sa t0) (ez V) V) V (D_off V (wanted_f V V (Sb t0) (ez V) V) V (D_off V (wanted_f V V (Sc t0) (ez V) V) V (D_off V (wanted_f V V (Sd t0) (ez V) V) V (D_off V (wanted_f V V (Se t0) (ez V) V) V (D_off V (wanted_f V V (Sf t0) (ez V) V) V (D_off V (wanted_f V V (Sg t0) (ez V) V) V (dv (uvT (Sh t0) V) (ZS_none S10 (Nat.le_refl _) (Nat.le_refl _) (fun s20 hJ20 hL20 hF20 => ?_))))))))))
    have S20 := hJ20.st; clear hF20 hJ20 hL20
    generalize s20.1 = w20 at *
    replace S20 : St w NoX [c2_10] w20 := S20
    refine en (Kh (Ka (Qf F14))) fun A21 _ F21 => tk H17 (cond_t (fg0 F21) (region_in (vc (W_end (en (Ka (fx10 F21)) fun A22 _ F22 => inb_n (tk H16 (region_in (vm (fg10 F22) (ad t0 V (vt (W_end (en (Ka (Qb (fx10 F22))) fun A23 Y23 F23 => then_n ⟨ns.length - (j + 1), by simp only [hm10]; omega, Y23, F23.d, (j + 1), 10, rfl, Zb, (as_step he0 Zr hy18 _ (fun h => by first | rfl | omega) (fun h => by first | omega | rfl)), ((fg0 F23).trans Za), ((fg1 F23).trans Za), ((fg12 F23).trans (fg4 F9).symm), ((fg11 F23).trans (fg2 F9).symm), (by subst hc2_10; exact S20)⟩))))))))))))
   refine D_v V (xwt V V t0) (V_mov V (Sf (fg3 F14))) V V (D_v V (xwt V V (Sa t0)) (V_mov V (Sg (fg0 F14))) V V (D_v V (xwt V V (Sb t0)) (V_ixS (off := O18 + j) 1 j V (Sa t0) t0 hv18 Zb k18 Tryz.underlying25 kr (congrArg _ (Nat.mul_one _))) V V (D_r V (xwt V V (Sc t0)) kr (fun sx hx hF => (VR_ldC V t0 ((sl_SlN ((S10.grow hx).ro h_nv)).cell hv18 (map_get hy18)) Tryz.underlying3 V)) V V (D_v V (xwt V V (Sd t0)) (V_fa (off' := 1) V (Sh (Sb (fg2 F14))) Tryz.underlying30 V Zj V) V V (D_r V (xwt V V (Se t0)) kr (fun sx hx hF => (VR_ldC V t0 (cell_box (v := rv) ((S10.grow hx).ob 0 hc2_10) V) Tryz.underlying25 V)) V V (D_v V (xwt V V (Sf t0)) (V_lenS V t0 (sl_SlN h_rv.at) Tryz.underlying25) V V (D_v V (xwt V V (Sg t0)) (V_geq V (Sc t0) t0) V V (dv (uvF (Sh t0) t0) (ZS_none S10 (Nat.le_refl _) (Nat.le_refl _) (fun s25 hJ25 hL25 hF25 => ?_))))))))))
   have S25 := hJ25.st; clear hF25 hJ25 hL25
   generalize s25.1 = w25 at *
   replace S25 : St w NoX [c2_10] w25 := S25
   refine en (Kh (Ka (Qf F14))) fun A26 _ F26 => tk H17 (cd (fg0 F26) (fun c27 => ?_) fun c27 => ?_)
   ·refine region_in (vc (W_end (en (Ka (fx10 F26)) fun A28 _ F28 => inb_n (tk H16 (region_in (vm (fg10 F28) (ad t0 V (vt (W_end (en (Ka (Qb (fx10 F28))) fun A29 Y29 F29 => then_n ⟨ns.length - (j + 1), by simp only [hm10]; omega, Y29, F29.d, (j + 1), 10, rfl, Zb, (as_step he0 Zr hy18 _ (fun h => by first | rfl | omega) (fun h => by first | omega | rfl)), ((fg0 F29).trans Za), ((fg1 F29).trans Za), ((fg12 F29).trans (fg4 F9).symm), ((fg11 F29).trans (fg2 F9).symm), (by subst hc2_10; exact S25)⟩))))))))))
   refine wp_skip (inb_n (tk H16 (region_in (vm (fg9 F26) (ad t0 V (vt (W_end (en (Ka (Qb (fx9 F26))) fun A30 Y30 F30 => then_n ⟨ns.length - (j + 1), by simp only [hm10]; omega, Y30, F30.d, (j + 1), e0, rfl, Zb, (as_step he0 Zr hy18 _ (fun h => by first | rfl | omega) (fun h => by first | omega | rfl)), ((fg0 F30).trans Za), ((fg10 F30).trans Za), ((fg12 F30).trans (fg4 F9).symm), ((fg11 F30).trans (fg2 F9).symm), (by subst hc2_10; exact S25)⟩))))))))
  refine wp_exit (then_exit (then_exit (inb_hit (ta H7 fun _ H31 => (vm (fg1 F14) (vt (W_end (en (Ka (Qa F14)) fun A32 _ F32 => tk H31 (wp_ret (rt1 F32 (rv_tmp (fg0 F32)) ?_))))))))))
  have h := as_done he0 Zb
  rw [← h]
  exact ⟨rfl, S10.fin0⟩
 refine xo V t0 (xo V (Sa t0) (vF (Sb t0) V (W_end (en ((((((ck (ck (ck (cq5 (FS.n hdf10) V) V V) V V) V V)).c (es8 V l1_10)).c (es8 V l2_10)).c (es8 V l6_10)).c (Sh l7_10)) fun A34 _ F34 => tk H12 (cond_f (fg4 F34) (wp_exit (then_exit (then_exit (inb_hit (ta H7 fun _ H35 => (vm (fg1 F34) (vt (W_end (en (Ka (Qa F34)) fun A36 _ F36 => tk H35 (wp_ret (rt1 F36 (rv_tmp (fg0 F36)) ?_))))))))))))))))
 have h := as_done he0 Zb
 rw [← h]
 exact ⟨rfl, S10.fin0⟩

set_option maxHeartbeats 4000000 in
theorem qob_c {ov : Value} {O : List Ob} {rv : Value} {rs : List Int} {a : Int} {w : World} (h_ov : Ro w NoX (rl 2 obC ov O)) (n_ov : Ro w NoX (nst O)) (h_rv : Ro w NoX (il .i64 rv rs)) (hrg : ∀ p ∈ rs, 0 ≤ p ∧ p ≤ (O.length : Int)) (ha : 0 ≤ a ∧ a < (rs.length : Int)) :
  Calls Tryz.prog 110 #[.agg #[ov, rv], .int .i64 a] w fun e w' => (e = .returned (.tuple #[.agg #[.slice none 0 0, .slice none 0 0], .bool false]) ∧ (rg rs a = 0) ∧ St w NoX [] w') ∨ (∃ y, e = .returned (.tuple #[.agg #[y.1.1, y.2.1], .bool true]) ∧ (O[(rg rs a - 1).toNat]? = some y) ∧ (¬ rg rs a = 0) ∧ St w NoX [] w') := by
 refine ci2 23 Tryz.func110 V (fun A0 _ F0 => ?_)
 have hS := St.nil w
 have bh_ov := SlN.le (sl_SlN h_ov.at)
 have bh_rv := SlN.le (sl_SlN h_rv.at)
 refine tb fun _ H1 => (wB (#[ov, rv]) hS (fg0 F0) (fun g2 w2 c2 hc2 S2 => wA (#[.slice none 0 0, .slice none 0 0]) S2 (fun g3 w3 c3 hc3 S3 => vc (W_end (en (Qa (Kb F0)) fun A4 _ F4 => tc H1 fun _ H5 => tb fun _ H6 => (fa 1 (fg1 F4) (rL rv t0 (S3.ob 1 hc2) (vm (Sb (fg3 F4)) ?_))))))))
 have k7 : a.toNat < rs.length := om
 obtain ⟨y7, hy7⟩ := get_some (xs := rs) (k := a.toNat) k7
 have hrg7 := hrg y7 (List.mem_of_getElem? hy7)
 have hq7 : rg rs a = y7 := rg_at hy7
 obtain ⟨B7, O7, C7, hv7⟩ := (SlN.blk (sl_SlN h_rv.at) om)
 refine wv (V_ixS (off := O7 + a.toNat) 1 a.toNat V (Sa t0) t0 hv7 Zb k7 Tryz.underlying25 kr (congrArg _ (Nat.mul_one _))) (rc t0 ((sl_SlN (S3.ro h_rv)).cell hv7 (map_get hy7)) (ve t0 V (W_end (en (Ka (Qe F4)) fun A8 _ F8 => tk H6 (cd (fg0 F8) (fun c9 => ?_) fun c9 => ?_)))))
 ·refine tb fun _ H10 => (wv (xbS (n := 2) (z := .agg #[.slice none 0 0, .slice none 0 0]) V parts0) (xsA0 S3 hc3 V V V (Sa (fg1 F8)) t0 (fun w11 c11 hc11 S11 => vc (W_end (en (Ka (Qa F8)) fun A12 _ F12 => tk H10 (wp_ret (then_ret (rt2 F12 (rvA (fg2 F12) (S11.ob 0 hc11)) (rv_tmp (fg0 F12)) ?_))))))))
  exact .inl ⟨rfl, by omega, S11.fin0⟩
 refine wp_skip (tc H5 fun _ H14 => region_monoS 10 11 [] kr kr (df 0 (fg2 F8) (dr (fun _ hx _ => (urc t0 (cell_box (v := ov) ((S3.grow hx).ob 1 hc2) V))) (df 1 (Sb (fg2 F8)) (dr (fun _ hx _ => (urc t0 (cell_box (v := rv) ((S3.grow hx).ob 1 hc2) V))) (dm (Sd (fg4 F8)) (dv (V_ixS (off := O7 + a.toNat) 1 a.toNat V (Sa t0) t0 hv7 Zb k7 Tryz.underlying25 kr (congrArg _ (Nat.mul_one _))) (dr (fun _ hx _ => (urc t0 ((sl_SlN ((S3.grow hx).ro h_rv)).cell hv7 (map_get hy7)))) (dv (usu t0 V) ?_)))))))))
 have k16 : (y7 - 1).toNat < O.length := om
 obtain ⟨y16, hy16⟩ := get_some (xs := O) (k := (y7 - 1).toNat) k16
 obtain ⟨B16, O16, C16, hv16⟩ := (SlN.blk (sl_SlN h_ov.at) om)
 refine dv (V_ixS (off := O16 + ((y7 - 1).toNat) * 2) 2 ((y7 - 1).toNat) V (Sf t0) t0 hv16 Zb k16 Tryz.underlying28 kr V) ?_
 have fn17 : Ro w NoX (il .i64 y16.1.1 y16.1.2) := nst_ro1 n_ov hy16
 have bfn17 := SlN.le (sl_SlN (S3.ro fn17))
 have fn18 : Ro w NoX (il .u64 y16.2.1 y16.2.2) := nst_ro2 n_ov hy16
 have bfn18 := SlN.le (sl_SlN (S3.ro fn18))
 refine dr (fun sx hx hF => (VR_ldR (ys := obC y16) V t0 (SlN.row obC_len (sl_SlN ((S3.grow hx).ro h_ov)) hv16 hy16 V) Tryz.underlying70 V kr)) (D_eff V (ZS_eff S3 V V (fun s19 hJ19 hL19 hF19 => ?_)))
 have S19 := hJ19.st; clear hF19 hJ19 hL19
 generalize s19.1 = w19 at *
 replace S19 : St w NoX [c3, c2] w19 := S19
 refine xsB0 S19 hc3 V V V (Sh (Sb (fg1 F8))) t0 (by simp only [List.all_toArray, List.all_cons, List.all_nil, obC, SlN_one (sl_SlN fn17.at), SlN_one (sl_SlN fn18.at)] <;> rfl) (fun w20 c20 hc20 S20 => vc (W_end (Qo_normal (en (Ka (Qb (Qh F8))) fun A21 _ F21 => tk H14 (wp_ret (rt2 F21 (rvA (fg2 F21) (S20.ob 0 hc20)) (rv_tmp (fg0 F21)) ?_))))))
 have hkk : ((y7 - 1).toNat : Nat) = (rg rs a - 1).toNat := by omega
 rw [hkk] at hy16
 exact .inr ⟨y16, rfl, hy16, by omega, S20.fin0⟩

set_option maxHeartbeats 4000000 in
theorem qRd_c {ov : Value} {O : List Ob} {rv : Value} {rs : List Int} {a f : Int} {w : World} (h_ov : Ro w NoX (rl 2 obC ov O)) (n_ov : Ro w NoX (nst O)) (h_rv : Ro w NoX (il .i64 rv rs))  :
  Calls Tryz.prog 111 #[.agg #[ov, rv], .int .i64 a, .int .i64 f] w fun e w' => e = .returned (.tuple #[.int .u64 (rdV (O.map ab) rs a f), .int .i64 (rwE (O.map ab) rs [a] a f)]) ∧ St w NoX [] w' := by
 refine ci3 42 Tryz.func111 V (fun A0 _ F0 => ?_)
 have hS := St.nil w
 have bh_ov := SlN.le (sl_SlN h_ov.at)
 have bh_rv := SlN.le (sl_SlN h_rv.at)
 refine tb fun _ H1 => (wB (#[ov, rv]) hS (fg0 F0) (fun g2 w2 c2 hc2 S2 => vc (vc (W_end (en (Qb (Ka F0)) fun A3 _ F3 => ta H1 fun _ H4 => (ra (fg0 F3) (S2.ob 0 hc2) (vm (Sa (fg2 F3)) ?_)))))))
 have hll5 : [a].length = 1 := rfl
 refine xsL (vs := [.int .i64 (a)]) (xs := ([a].map (Value.int .i64))) 1 S2 V V V (parts1 t0) Tryz.underlying25 (fun g5 w5 c5 hc5 S5 => ?_)
 replace hc5 : c5 = io .i64 (.slice (some ⟨g5, 0, none⟩) 1 1) [a] := hc5
 replace S5 : St w NoX [c5, c2] w5 := S5
 refine wc (args2 (Sb t0) t0) (qcd_c (S5.roC h_ov) (S5.roC n_ov) (S5.roC h_rv) (S5.cC 0 hc5).own) (C0 S5 fun w6 S6 => vt (W_end (en (Ka (Qd F3)) fun A7 _ F7 => ?_)))
 have S8 := S6.se [1] [c2]
 refine tc H4 fun _ H9 => tb fun _ H10 => (vm (fg0 F7) (vn t0 V (W_end (en (Ka (Qa F7)) fun A11 _ F11 => tk H10 (cd (fg0 F11) (fun c12 => ?_) fun c12 => ?_)))))
 ·refine tb fun _ H13 => (vm (fg1 F11) (vc (va (Sa t0) (W_end (en (Kb (Qa F11)) fun A14 _ F14 => tk H13 (wp_ret (then_ret (rt2 F14 (rv_tmp (fg1 F14)) (rv_tmp (fg0 F14)) ?_))))))))
  have h := rw_ck (f := f) Zr
  rw [h.1, h.2]
  exact ⟨rfl, S8.fin0⟩
 have hcd : ckd (O.map ab) rs [a] = 0 := by simpa using c12
 have hG0 := (ckd_0.1 hcd).1
 have hG := hG0
 have hrg : ∀ p ∈ rs, 0 ≤ p ∧ p ≤ (O.length : Int) := fun p hp => by have q := hG0.reg p hp; rw [List.length_map] at q; exact q
 have ha := (ckd_0.1 hcd).2 a Zo
 refine wp_skip (ta H9 fun _ H16 => (ra (fg2 F11) (S8.ob 0 hc2) (vm (Sa (fg4 F11)) (wc (args2 (Sa t0) t0) (qob_c (a := a) (S8.roC h_ov) (S8.roC n_ov) (S8.roC h_rv) (by first | with_reducible assumption | (have q := hG.reg; simpa using q)) Zm) ?_))))
 rintro _ w17 (⟨rfl, hz_17, hP17⟩ | ⟨y_17, rfl, hy_17, hz_17, hP17⟩)
 ·refine ⟨_, rfl, ?_⟩
  have S17 := S8.j0 hP17
  refine vm t0 (vx (.agg #[.slice none 0 0, .slice none 0 0]) t0 (vx (.bool false) (Sa t0) (wA (#[.slice none 0 0, .slice none 0 0]) S17 (fun g18 w18 c18 hc18 S18 => xsA0 S18 hc18 V V V t0 (Sb t0) (fun w19 c19 hc19 S19 => va (Sa t0) (W_end (en (Kb (Qf F11)) fun A20 _ F20 => tc H16 fun _ H22 => tb fun _ H23 => (vm (fg0 F20) (wv (V_notF V t0) (vm t0 (xo V t0 (xo V (Sa t0) (vT (Sb t0) V (vm t0 (xo V t0 (xo V (Sa t0) (xo V (Sb t0) (xo V (Sc t0) (xo V (Sd t0) (vT (Se t0) V (W_end (en (Ka (Qd (Qh F20))) fun A24 _ F24 => tk H23 (cond_t (fg0 F24) (tb fun _ H25 => (vc (vc (W_end (en (Kb F24) fun A26 _ F26 => tk H25 (wp_ret (then_ret (rt2 F26 (rv_tmp (fg1 F26)) (rv_tmp (fg0 F26)) ?_)))))))))))))))))))))))))))))))
  have h := rw_no (f := f) hcd (.inl hz_17)
  rw [h.1, h.2]
  exact ⟨rfl, S19.fin0⟩
 refine ⟨_, rfl, ?_⟩
 have S17 := S8.j0 hP17
 have fn28 : Ro w NoX (il .i64 y_17.1.1 y_17.1.2) := nst_ro1 n_ov hy_17
 have bfn28 := SlN.le (sl_SlN (S17.ro fn28))
 have fn29 : Ro w NoX (il .u64 y_17.2.1 y_17.2.2) := nst_ro2 n_ov hy_17
 have bfn29 := SlN.le (sl_SlN (S17.ro fn29))
 refine vm t0 (vx (.agg #[y_17.1.1, y_17.2.1]) t0 (vx (.bool true) (Sa t0) (wA (#[.slice none 0 0, .slice none 0 0]) S17 (fun g30 w30 c30 hc30 S30 => xsB0 S30 hc30 V V V t0 (Sb t0) (by simp only [List.all_toArray, List.all_cons, List.all_nil, SlN_one (sl_SlN fn28.at), SlN_one (sl_SlN fn29.at)] <;> rfl) (fun w31 c31 hc31 S31 => va (Sa t0) (W_end (en (Kb (Qf F11)) fun A32 _ F32 => tc H16 fun _ H34 => tb fun _ H35 => (vm (fg0 F32) (wv (V_notT V t0) (vm t0 (wg V t0 (uvm (Sc (fg7 F32))) (wg V (Sa t0) (uvl t0 V) (vF (Sb t0) t0 (W_split V V (V_mov V t0) (fun c36 => ?_) (fun c36 => ?_)))))))))))))))
 ·refine xo V t0 (xo V (Sa t0) (xo V (Sb t0) (xo V (Sc t0) (xo V (Sd t0) (vT (Se t0) V (W_end (en (Ka (Qd (Qh F32))) fun A37 _ F37 => tk H35 (cond_t (fg0 F37) (tb fun _ H38 => (vc (vc (W_end (en (Kb F37) fun A39 _ F39 => tk H38 (wp_ret (then_ret (rt2 F39 (rv_tmp (fg1 F39)) (rv_tmp (fg0 F39)) ?_))))))))))))))))
  have h := rw_no (f := f) hcd (by rw [ob_at hy_17]; simp only [ab]; omega)
  rw [h.1, h.2]
  exact ⟨rfl, S31.fin0⟩
 refine wg V t0 (uvm (Sg (fg7 F32))) (wg V (Sa t0) (ufa 1 (Sh (fg1 F32))) (wq V (Sb t0) (urL y_17.2.1 t0 (S31.ob 0 hc31)) (wg V (Sc t0) (ule_ t0 (sl_SlN fn29.at)) (wg V (Sd t0) (uvh (Sc t0) t0) (vF (Se t0) t0 (W_end (en (Ka (Qd (Qh F32))) fun A41 _ F41 => tk H35 (cd (fg0 F41) (fun c42 => ?_) fun c42 => ?_))))))))
 ·refine tb fun _ H43 => (vc (vc (W_end (en (Kb F41) fun A44 _ F44 => tk H43 (wp_ret (then_ret (rt2 F44 (rv_tmp (fg1 F44)) (rv_tmp (fg0 F44)) ?_)))))))
  have h := rw_no (f := f) hcd (by rw [ob_at hy_17]; simp only [ab]; omega)
  rw [h.1, h.2]
  exact ⟨rfl, S31.fin0⟩
 refine wp_skip (ta H34 fun _ H46 => (fa 1 (fg2 F41) (rL y_17.2.1 t0 (S31.ob 0 hc31) (vm (Sb (fg8 F41)) ?_))))
 have k47 : f.toNat < y_17.2.2.length := om
 obtain ⟨y47, hy47⟩ := get_some (xs := y_17.2.2) (k := f.toNat) k47
 obtain ⟨B47, O47, C47, hv47⟩ := (SlN.blk (sl_SlN fn29.at) om)
 refine wv (V_ixS (off := O47 + f.toNat) 1 f.toNat V (Sa t0) t0 hv47 Zb k47 Tryz.underlying68 kr (congrArg _ (Nat.mul_one _))) (rc t0 ((sl_SlN (S31.ro fn29)).cell hv47 (map_get hy47)) (vt (vc (W_end (en (Kb (Qe F41)) fun A48 _ F48 => tk H46 (wp_ret (rt2 F48 (rv_tmp (fg1 F48)) (rv_tmp (fg0 F48)) ?_)))))))
 have h := rw_ok (f := f) hcd (by rw [ob_at hy_17]; simp only [ab]; omega) (ob_at hy_17) hy47
 rw [h.1, h.2]
 exact ⟨rfl, S31.fin0⟩

set_option maxHeartbeats 4000000 in
theorem qSh_c {ov : Value} {O : List Ob} {rv : Value} {rs : List Int} {a : Int} {w : World} (h_ov : Ro w NoX (rl 2 obC ov O)) (n_ov : Ro w NoX (nst O)) (h_rv : Ro w NoX (il .i64 rv rs))  :
  Calls Tryz.prog 112 #[.agg #[ov, rv], .int .i64 a] w fun e w' => e = .returned (.tuple #[.int .i64 (shP (O.map ab) rs a), .int .i64 (shR (O.map ab) rs a), .int .i64 (shE (O.map ab) rs a)]) ∧ St w NoX [] w' := by
 refine ci2 31 Tryz.func112 V (fun A0 _ F0 => ?_)
 have hS := St.nil w
 have bh_ov := SlN.le (sl_SlN h_ov.at)
 have bh_rv := SlN.le (sl_SlN h_rv.at)
 refine tb fun _ H1 => (wB (#[ov, rv]) hS (fg0 F0) (fun g2 w2 c2 hc2 S2 => vc (vc (vc (W_end (en (Qc (Ka F0)) fun A3 _ F3 => ta H1 fun _ H4 => (ra (fg0 F3) (S2.ob 0 hc2) (vm (Sa (fg2 F3)) ?_))))))))
 have hll5 : [a].length = 1 := rfl
 refine xsL (vs := [.int .i64 (a)]) (xs := ([a].map (Value.int .i64))) 1 S2 V V V (parts1 t0) Tryz.underlying25 (fun g5 w5 c5 hc5 S5 => ?_)
 replace hc5 : c5 = io .i64 (.slice (some ⟨g5, 0, none⟩) 1 1) [a] := hc5
 replace S5 : St w NoX [c5, c2] w5 := S5
 refine wc (args2 (Sb t0) t0) (qcd_c (S5.roC h_ov) (S5.roC n_ov) (S5.roC h_rv) (S5.cC 0 hc5).own) (C0 S5 fun w6 S6 => vt (W_end (en (Ka (Qd F3)) fun A7 _ F7 => ?_)))
 have S8 := S6.se [1] [c2]
 refine tc H4 fun _ H9 => tb fun _ H10 => (vm (fg0 F7) (vn t0 V (W_end (en (Ka (Qa F7)) fun A11 _ F11 => tk H10 (cd (fg0 F11) (fun c12 => ?_) fun c12 => ?_)))))
 ·refine tb fun _ H13 => (vm (fg1 F11) (vc (vc (va (Sb t0) (W_end (en (Kc (Qa F11)) fun A14 _ F14 => tk H13 (wp_ret (then_ret (rt3 F14 (rv_tmp (fg2 F14)) (rv_tmp (fg1 F14)) (rv_tmp (fg0 F14)) ?_)))))))))
  have h := sh_ck Zr
  rw [h.1, h.2.1, h.2.2]
  exact ⟨rfl, S8.fin0⟩
 have hcd : ckd (O.map ab) rs [a] = 0 := by simpa using c12
 have hG0 := (ckd_0.1 hcd).1
 have hG := hG0
 have hrg : ∀ p ∈ rs, 0 ≤ p ∧ p ≤ (O.length : Int) := fun p hp => by have q := hG0.reg p hp; rw [List.length_map] at q; exact q
 have ha := (ckd_0.1 hcd).2 a Zo
 refine wp_skip (ta H9 fun _ H16 => (ra (fg2 F11) (S8.ob 0 hc2) (vm (Sa (fg4 F11)) (wc (args2 (Sa t0) t0) (qob_c (a := a) (S8.roC h_ov) (S8.roC n_ov) (S8.roC h_rv) (by first | with_reducible assumption | (have q := hG.reg; simpa using q)) Zm) ?_))))
 rintro _ w17 (⟨rfl, hz_17, hP17⟩ | ⟨y_17, rfl, hy_17, hz_17, hP17⟩)
 ·refine ⟨_, rfl, ?_⟩
  have S17 := S8.j0 hP17
  refine vm t0 (vx (.agg #[.slice none 0 0, .slice none 0 0]) t0 (vx (.bool false) (Sa t0) (wA (#[.slice none 0 0, .slice none 0 0]) S17 (fun g18 w18 c18 hc18 S18 => xsA0 S18 hc18 V V V t0 (Sb t0) (fun w19 c19 hc19 S19 => va (Sa t0) (W_end (en (Kb (Qf F11)) fun A20 _ F20 => tc H16 fun _ H22 => tb fun _ H23 => (vm (fg0 F20) (wv (V_notF V t0) (W_end (en (Ka (Qa F20)) fun A24 _ F24 => tk H23 (cond_t (fg0 F24) (tb fun _ H25 => (vc (vc (vc (W_end (en (Kc F24) fun A26 _ F26 => tk H25 (wp_ret (then_ret (rt3 F26 (rv_tmp (fg2 F26)) (rv_tmp (fg1 F26)) (rv_tmp (fg0 F26)) ?_)))))))))))))))))))))
  have h := sh_no hcd hz_17
  rw [h.1, h.2.1, h.2.2]
  exact ⟨rfl, S19.fin0⟩
 refine ⟨_, rfl, ?_⟩
 have S17 := S8.j0 hP17
 have fn28 : Ro w NoX (il .i64 y_17.1.1 y_17.1.2) := nst_ro1 n_ov hy_17
 have bfn28 := SlN.le (sl_SlN (S17.ro fn28))
 have fn29 : Ro w NoX (il .u64 y_17.2.1 y_17.2.2) := nst_ro2 n_ov hy_17
 have bfn29 := SlN.le (sl_SlN (S17.ro fn29))
 refine vm t0 (vx (.agg #[y_17.1.1, y_17.2.1]) t0 (vx (.bool true) (Sa t0) (wA (#[.slice none 0 0, .slice none 0 0]) S17 (fun g30 w30 c30 hc30 S30 => xsB0 S30 hc30 V V V t0 (Sb t0) (by simp only [List.all_toArray, List.all_cons, List.all_nil, SlN_one (sl_SlN fn28.at), SlN_one (sl_SlN fn29.at)] <;> rfl) (fun w31 c31 hc31 S31 => va (Sa t0) (W_end (en (Kb (Qf F11)) fun A32 _ F32 => ?_)))))))
 have S33 := S31.se [0] [c31]
 refine tc H16 fun _ H34 => tb fun _ H35 => (vm (fg0 F32) (wv (V_notT V t0) (W_end (en (Ka (Qa F32)) fun A36 _ F36 => tk H35 (cond_f (fg0 F36) (wp_skip (tc H34 fun _ H37 => region_monoS 9 9 [] kr kr (df 0 (fg2 F36) (dr (fun _ hx _ => (urc t0 (cell_box (v := y_17.1.1) ((S33.grow hx).ob 0 hc31) V))) (dv (ule_ t0 (sl_SlN fn28.at)) (df 1 (Sc (fg2 F36)) (dr (fun _ hx _ => (urc t0 (cell_box (v := y_17.2.1) ((S33.grow hx).ob 0 hc31) V))) (dv (ule_ t0 (sl_SlN fn29.at)) (dv (uva (Sc t0)) (dv (uva (Sa t0)) (dv (V_asg V V) (ZS_none S33 (Nat.le_refl _) (Nat.le_refl _) (fun s38 hJ38 hL38 hF38 => ?_))))))))))))))))))
 have S38 := hJ38.st; clear hF38 hJ38 hL38
 generalize s38.1 = w38 at *
 replace S38 : St w NoX [c31] w38 := S38
 refine en (Kc (Qf F36)) fun A39 _ F39 => tk H37 (wp_ret (rt3 F39 (rv_tmp (fg2 F39)) (rv_tmp (fg1 F39)) (rv_tmp (fg0 F39)) ?_))
 have h := sh_ok hcd hz_17 (ob_at hy_17)
 rw [h.1, h.2.1, h.2.2]
 exact ⟨rfl, S38.fin0⟩

set_option maxHeartbeats 4000000 in
theorem qAl_c {ov : Value} {O : List Ob} {rv : Value} {rs : List Int} {a b : Int} {w : World} (h_ov : Ro w NoX (rl 2 obC ov O)) (n_ov : Ro w NoX (nst O)) (h_rv : Ro w NoX (il .i64 rv rs))  :
  Calls Tryz.prog 80 #[.agg #[ov, rv], .int .i64 a, .int .i64 b] w fun e w' => e = .returned (.tuple #[.bool (alB (O.map ab) rs a b), .int .i64 (ckd (O.map ab) rs [a, b])]) ∧ St w NoX [] w' := by
 refine ci3 30 Tryz.func80 V (fun A0 _ F0 => ?_)
 have hS := St.nil w
 have bh_ov := SlN.le (sl_SlN h_ov.at)
 have bh_rv := SlN.le (sl_SlN h_rv.at)
 refine tb fun _ H1 => (wB (#[ov, rv]) hS (fg0 F0) (fun g2 w2 c2 hc2 S2 => vc (vc (W_end (en (Qb (Ka F0)) fun A3 _ F3 => ta H1 fun _ H4 => (ra (fg0 F3) (S2.ob 0 hc2) (vm (Sa (fg2 F3)) (vm (Sb (fg3 F3)) ?_))))))))
 have hll5 : [a, b].length = 2 := rfl
 refine xsL (vs := [.int .i64 (a), .int .i64 (b)]) (xs := ([a, b].map (Value.int .i64))) 1 S2 V V V (parts2 (Sa t0) t0) Tryz.underlying25 (fun g5 w5 c5 hc5 S5 => ?_)
 replace hc5 : c5 = io .i64 (.slice (some ⟨g5, 0, none⟩) 2 2) [a, b] := hc5
 replace S5 : St w NoX [c5, c2] w5 := S5
 refine wc (args2 (Sc t0) t0) (qcd_c (S5.roC h_ov) (S5.roC n_ov) (S5.roC h_rv) (S5.cC 0 hc5).own) (C0 S5 fun w6 S6 => vt (W_end (en (Ka (Qe F3)) fun A7 _ F7 => ?_)))
 have S8 := S6.se [1] [c2]
 refine tc H4 fun _ H9 => region_monoS 18 18 [] kr kr (dm (fg0 F7) (dv (uve t0 V) (D_split V V (V_mov V t0) V V (fun c10 => ?_) (fun c10 => ?_))))
 ·have hcd : ckd (O.map ab) rs [a, b] = 0 := by simpa using c10
  have hG0 := (ckd_0.1 hcd).1
  have hG := hG0
  have hrg : ∀ p ∈ rs, 0 ≤ p ∧ p ≤ (O.length : Int) := fun p hp => by have q := hG0.reg p hp; rw [List.length_map] at q; exact q
  have ha := (ckd_0.1 hcd).2 a Zo
  have hb := (ckd_0.1 hcd).2 b Zo
  refine D_v V (xwt V V t0) (V_fa (off' := 1) V (Sc (fg1 F7)) Tryz.underlying30 V Zj V) V V (D_r V (xwt V V (Sa t0)) kr (fun sx hx hF => (VR_ldC V t0 (cell_box (v := rv) ((S8.grow hx).ob 0 hc2) V) Tryz.underlying25 V)) V V (D_v V (xwt V V (Sb t0)) (V_mov V (Se (fg3 F7))) V V ?_))
  have k11 : a.toNat < rs.length := om
  obtain ⟨y11, hy11⟩ := get_some (xs := rs) (k := a.toNat) k11
  obtain ⟨B11, O11, C11, hv11⟩ := (SlN.blk (sl_SlN h_rv.at) om)
  refine D_v V (xwt V V (Sc t0)) (V_ixS (off := O11 + a.toNat) 1 a.toNat V (Sa t0) t0 hv11 Zb k11 Tryz.underlying25 kr (congrArg _ (Nat.mul_one _))) V V (D_r V (xwt V V (Sd t0)) kr (fun sx hx hF => (VR_ldC V t0 ((sl_SlN ((S8.grow hx).ro h_rv)).cell hv11 (map_get hy11)) Tryz.underlying3 V)) V V (D_v V (xwt V V (Se t0)) (V_fa (off' := 1) V (Sh (fg1 F7)) Tryz.underlying30 V Zj V) V V (D_r V (xwt V V (Sf t0)) kr (fun sx hx hF => (VR_ldC V t0 (cell_box (v := rv) ((S8.grow hx).ob 0 hc2) V) Tryz.underlying25 V)) V V (D_v V (xwt V V (Sg t0)) (V_mov V (Sh (Sb (fg4 F7)))) V V ?_))))
  have k12 : b.toNat < rs.length := om
  obtain ⟨y12, hy12⟩ := get_some (xs := rs) (k := b.toNat) k12
  refine D_v V (xwt V V (Sh t0)) (V_ixS (off := O11 + b.toNat) 1 b.toNat V (Sa t0) t0 hv11 Zb k12 Tryz.underlying25 kr (congrArg _ (Nat.mul_one _))) V V (D_r V (xwt V V (Sh (Sa t0))) kr (fun sx hx hF => (VR_ldC V t0 ((sl_SlN ((S8.grow hx).ro h_rv)).cell hv11 (map_get hy12)) Tryz.underlying3 V)) V V (D_v V (xwt V V (Sh (Sb t0))) (V_eql V (Se t0) t0) V V (dv (uvT (Sh (Sc t0)) t0) (dm (Sh (Sg (fg0 F7))) (dv (uva (Sa t0)) (dv (uva (Sa t0)) (ZS_none S8 (Nat.le_refl _) (Nat.le_refl _) (fun s13 hJ13 hL13 hF13 => ?_))))))))
  have S13 := hJ13.st; clear hF13 hJ13 hL13
  generalize s13.1 = w13 at *
  replace S13 : St w NoX [c2] w13 := S13
  refine en (Kb (Qh (Qh F7))) fun A14 _ F14 => tk H9 (wp_ret (rt2 F14 (rv_tmp (fg1 F14)) (rv_tmp (fg0 F14)) ?_))
  have h := al_ok hcd hy11 hy12
  rw [h]
  exact ⟨rfl, S13.fin0⟩
 refine D_off V (wanted_f V V t0 (ez V) V) V (D_off V (wanted_f V V (Sa t0) (ez V) V) V (D_off V (wanted_f V V (Sb t0) (ez V) V) V (D_off V (wanted_f V V (Sc t0) (ez V) V) V (D_off V (wanted_f V V (Sd t0) (ez V) V) V (D_off V (wanted_f V V (Se t0) (ez V) V) V (D_off V (wanted_f V V (Sf t0) (ez V) V) V (D_off V (wanted_f V V (Sg t0) (ez V) V) V (D_off V (wanted_f V V (Sh t0) (ez V) V) V (D_off V (wanted_f V V (Sh (Sa t0)) (ez V) V) V (D_off V (wanted_f V V (Sh (Sb t0)) (ez V) V) V (dv (uvF (Sh (Sc t0)) V) (dm (Sh (Sg (fg0 F7))) (dv (uva (Sa t0)) (dv (uva (Sa t0)) (ZS_none S8 (Nat.le_refl _) (Nat.le_refl _) (fun s16 hJ16 hL16 hF16 => ?_))))))))))))))))
 have S16 := hJ16.st; clear hF16 hJ16 hL16
 generalize s16.1 = w16 at *
 replace S16 : St w NoX [c2] w16 := S16
 refine en (Kb (Qh (Qh F7))) fun A17 _ F17 => tk H9 (wp_ret (rt2 F17 (rv_tmp (fg1 F17)) (rv_tmp (fg0 F17)) ?_))
 have h := al_err (O := (O.map ab)) (rs := rs) (a := a) (b := b) c10
 rw [h]
 exact ⟨rfl, S16.fin0⟩

end Go.Proofs.YtpgkfndbfocibaaGreat
namespace Go.Own
open Go Go.RowKit
def StF (w0 : World) (X : Nat → Prop) (n : Nat) (f : Nat → HP) (w : World) : Prop :=
  ExtX X w0 w ∧ ∃ fs : Nat → Nat → Prop, (∀ r, r < n → (f r).p w (fs r)) ∧ (∀ r b, fs r b → r < n ∧ (w0.heap.size ≤ b ∨ X b) ∧ b < w.heap.size) ∧ ∀ r q b, fs r b → fs q b → r = q
def bag (n : Nat) (rs : List Nat) (f : Nat → HP) : HP where
  p w g := ∃ gs : Nat → Nat → Prop, (∀ r, r < n → r ∉ rs → (f r).p w (gs r)) ∧ (∀ r b, gs r b → (r < n ∧ r ∉ rs) ∧ g b) ∧ ∀ r q b, gs r b → gs q b → r = q
  loc := fun ⟨gs, h1, h2, h3⟩ hs hb => ⟨gs, fun r hr hn => (f r).loc (h1 r hr hn) (fun b h => hs b (h2 r b h).2) fun b h => hb b (h2 r b h).2, h2, h3⟩
section
variable {w0 w : World} {X : Nat → Prop} {n : Nat} {f : Nat → HP} {rs : List Nat}
theorem StF.of {l : List HP} (h : St w0 X l w) (hn : l.length = n) (hf : ∀ r c, l[r]? = some c → f r = c) : StF w0 X n f w := by
  obtain ⟨he, fs, h1, h2, h3⟩ := h
  refine ⟨he, fs, fun r hr => ?_, fun r b hb => by rw [← hn]; exact h2 r b hb, h3⟩
  have := List.getElem?_eq_getElem (l := l) (i := r) (by omega)
  rw [hf r _ this]; exact h1 r _ this
theorem StF.st (h : StF w0 X n f w) : St w0 X ((List.range n).map f) w := by
  obtain ⟨he, fs, h1, h2, h3⟩ := h
  refine ⟨he, fs, fun r c hc => ?_, fun r b hb => by simpa using h2 r b hb, h3⟩
  have hr : r < n := by
    have := (List.getElem?_eq_some_iff.1 hc).1
    simpa using this
  rw [List.getElem?_map, List.getElem?_range hr] at hc
  simp only [Option.map_some, Option.some.injEq] at hc
  subst hc; exact h1 r hr
theorem StF.congr {g : Nat → HP} (h : StF w0 X n f w) (e : ∀ r, r < n → f r = g r) : StF w0 X n g w := by
  obtain ⟨he, fs, h1, h2, h3⟩ := h
  exact ⟨he, fs, fun r hr => e r hr ▸ h1 r hr, h2, h3⟩
theorem StF.pick (h : StF w0 X n f w) (hr : ∀ r ∈ rs, r < n) (hn : rs.Nodup) : St w0 X (rs.map f ++ [bag n rs f]) w := by
  obtain ⟨he, fs, h1, h2, h3⟩ := h
  have gi : ∀ {i : Nat}, i < rs.length → ∃ r, rs[i]? = some r ∧ r ∈ rs := fun {i} hi => ⟨rs[i], List.getElem?_eq_getElem hi, List.getElem_mem hi⟩
  refine ⟨he, fun i b => if i < rs.length then ∃ r, rs[i]? = some r ∧ fs r b else i = rs.length ∧ ∃ r, r < n ∧ r ∉ rs ∧ fs r b, fun i c hc => ?_, fun i b hb => ?_, fun i j b hi hj => ?_⟩
  · by_cases hi : i < rs.length
    · rw [List.getElem?_append_left (by simpa using hi), List.getElem?_map, List.getElem?_eq_getElem hi] at hc
      simp only [Option.map_some, Option.some.injEq] at hc
      subst hc
      exact HP.eq_p (by funext b; simp [hi]) (h1 _ (hr _ (List.getElem_mem hi)))
    · have hi2 : i = rs.length := by
        have := (List.getElem?_eq_some_iff.1 hc).1
        simp at this; omega
      subst hi2
      rw [List.getElem?_append_right (by simp)] at hc
      simp at hc; subst hc
      have hb : (bag n rs f).p w (fun b => ∃ r, r < n ∧ r ∉ rs ∧ fs r b) := ⟨fun r b => r < n ∧ r ∉ rs ∧ fs r b, fun r hr' hn' => HP.eq_p (g := fs r) (f := fun b => r < n ∧ r ∉ rs ∧ fs r b) (by funext b; simp [hr', hn']) (h1 r hr'), fun r b hb => ⟨⟨hb.1, hb.2.1⟩, r, hb⟩, fun r q b h h' => h3 r q b h.2.2 h'.2.2⟩
      exact HP.eq_p (by funext b; simp) hb
  · by_cases hi : i < rs.length
    · simp only [hi, if_true] at hb
      obtain ⟨r, _, hb⟩ := hb
      exact ⟨by simp; omega, (h2 r b hb).2⟩
    · simp only [hi, if_false] at hb
      obtain ⟨e, r, _, _, hb⟩ := hb
      exact ⟨by simp; omega, (h2 r b hb).2⟩
  · by_cases hi' : i < rs.length <;> by_cases hj' : j < rs.length
    · simp only [hi', hj', if_true] at hi hj
      obtain ⟨r, hr1, hb1⟩ := hi
      obtain ⟨q, hq1, hb2⟩ := hj
      have e := h3 r q b hb1 hb2
      subst e
      obtain ⟨_, e1⟩ := List.getElem?_eq_some_iff.1 hr1
      obtain ⟨_, e2⟩ := List.getElem?_eq_some_iff.1 hq1
      exact (List.getElem_inj hn).1 (e1.trans e2.symm)
    · simp only [hi', hj', if_true, if_false] at hi hj
      obtain ⟨r, hr1, hb1⟩ := hi
      obtain ⟨_, q, _, hq, hb2⟩ := hj
      exact absurd (h3 r q b hb1 hb2 ▸ List.mem_of_getElem? hr1) hq
    · simp only [hi', hj', if_true, if_false] at hi hj
      obtain ⟨r, hr1, hb1⟩ := hj
      obtain ⟨_, q, _, hq, hb2⟩ := hi
      exact absurd (h3 r q b hb1 hb2 ▸ List.mem_of_getElem? hr1) hq
    · simp only [hi', hj', if_false] at hi hj; omega
theorem StF.unpick {g : List HP} (h : St w0 X (g ++ [bag n rs f]) w) (hr : ∀ r ∈ rs, r < n) (hn : rs.Nodup) (hg : g.length = rs.length) : StF w0 X n (fun r => if r ∈ rs then g.getD (rs.idxOf r) (pu True) else f r) w := by
  obtain ⟨he, hs, h1, h2, h3⟩ := h
  obtain ⟨gs, g1, g2, g3⟩ := h1 rs.length (bag n rs f) (by rw [List.getElem?_append_right (by omega)]; simp [hg])
  have ix : ∀ {r}, r ∈ rs → rs.idxOf r < rs.length := fun h => List.idxOf_lt_length_of_mem h
  refine ⟨he, fun r b => if r ∈ rs then hs (rs.idxOf r) b else gs r b, fun r hr' => ?_, fun r b hb => ?_, fun r q b hb hb' => ?_⟩
  · by_cases h : r ∈ rs
    · simp only [h, if_true]
      have hl : rs.idxOf r < g.length := by rw [hg]; exact ix h
      have e : g.getD (rs.idxOf r) (pu True) = g[rs.idxOf r] := by rw [List.getD_eq_getElem?_getD, List.getElem?_eq_getElem hl]; rfl
      rw [e]
      exact HP.eq_p (g := hs (rs.idxOf r)) (by funext b; simp [h]) (h1 (rs.idxOf r) _ (by rw [List.getElem?_append_left hl]; exact List.getElem?_eq_getElem hl))
    · simp only [h, if_false]
      exact HP.eq_p (by funext b; simp [h]) (g1 r hr' h)
  · by_cases h : r ∈ rs
    · simp only [h, if_true] at hb
      exact ⟨hr r h, (h2 _ b hb).2⟩
    · simp only [h, if_false] at hb
      have := g2 r b hb
      exact ⟨this.1.1, (h2 _ b this.2).2⟩
  · by_cases hA : r ∈ rs <;> by_cases hC : q ∈ rs
    · simp only [hA, hC, if_true] at hb hb'
      have e := h3 _ _ b hb hb'
      have e1 := List.getElem_idxOf (ix hA)
      have e2 := List.getElem_idxOf (ix hC)
      rw [← e1, ← e2]; congr 1
    · simp only [hA, hC, if_true, if_false] at hb hb'
      have := h3 _ _ b hb (g2 q b hb').2
      have := ix hA; omega
    · simp only [hA, hC, if_true, if_false] at hb hb'
      have := h3 _ _ b hb' (g2 r b hb).2
      have := ix hC; omega
    · simp only [hA, hC, if_false] at hb hb'; exact g3 r q b hb hb'
end
structure PO where
  rd : List Nat
  wr : List Nat
  ts : List Tmp
  post : List Value → List HP
  fact : List Value → Prop
def po0 : PO := ⟨[], [], [], fun _ => [], fun _ => True⟩
def vsA (ts : List Tmp) (a : Act) : List Value := ts.map fun t => EV a (.tmp t)
def ver (I : List HP) (po : List PO) (on : Nat → Bool) (a : Act) : Nat → Nat → HP
  | 0, r => I.getD r (pu True)
  | n + 1, r => if (on n && (po.getD n po0).wr.contains r) = true then ((po.getD n po0).post (vsA (po.getD n po0).ts a)).getD ((po.getD n po0).wr.idxOf r) (pu True) else ver I po on a n r
def dstB (o : Oper) (t : Tmp) : Bool := match o.dst with | some d => d == t | none => false
def parB (ops : Array Oper) (po : List PO) (nr : Nat) : Bool :=
  L.ancB ops && decide (po.length = ops.size) &&
  ((List.range ops.size).all fun i => (match ops[i]? with | some o => o.after.all fun d => !(Region.binds .any d) || (decide (d.on < i) && L.anc ops i d.on) | none => true)) &&
  ((List.range ops.size).all fun i => ((po.getD i po0).rd ++ (po.getD i po0).wr).all (fun r => decide (r < nr)) && decide (((po.getD i po0).rd ++ (po.getD i po0).wr).Nodup)) &&
  ((List.range ops.size).all fun i => (List.range ops.size).all fun j => i == j || L.anc ops i j || L.anc ops j i || ((po.getD i po0).rd ++ (po.getD i po0).wr).all fun r => !(po.getD j po0).wr.contains r) &&
  ((List.range ops.size).all fun j => (po.getD j po0).ts.all fun t => (List.range ops.size).all fun i => i == j || L.anc ops j i || (match ops[i]? with | some o => !dstB o t | none => true))
structure FrA (ops : Array Oper) (on : Nat → Bool) (A a : Act) : Prop where
  sz : a.tmps.size = A.tmps.size
  df : a.defers = A.defers
  old : ∀ t : Tmp, (∀ (i : Nat) (o : Oper), ops[i]? = some o → dstB o t = true → on i = false) → EV a (.tmp t) = EV A (.tmp t)
theorem FrA.mono {ops : Array Oper} {on on' : Nat → Bool} {A a : Act} (h : FrA ops on A a) (hm : ∀ i, i < ops.size → on i = true → on' i = true) : FrA ops on' A a :=
  ⟨h.sz, h.df, fun t ht => h.old t fun i o ho hd => by
    cases hq : on i with
    | false => rfl
    | true => have := hm i (Array.getElem?_eq_some_iff.1 ho).1 hq; rw [ht i o ho hd] at this; cases this⟩
def onI (ops : Array Oper) (i j : Nat) : Bool := !(L.anc ops j i) && !(j == i)
theorem ver_congr {I : List HP} {po : List PO} {on on' : Nat → Bool} {a a' : Act} {r : Nat} : ∀ n, (∀ j, j < n → (po.getD j po0).wr.contains r = true → on j = on' j ∧ (on j = true → vsA (po.getD j po0).ts a = vsA (po.getD j po0).ts a')) → ver I po on a n r = ver I po on' a' n r
  | 0, _ => rfl
  | n + 1, h => by
    unfold ver
    by_cases hw : (po.getD n po0).wr.contains r = true
    · obtain ⟨h1, h2⟩ := h n (by omega) hw
      rw [← h1]
      by_cases ho : on n = true
      · rw [h2 ho]; simp only [ho, hw, Bool.true_and, if_true]
      · have ho' : on n = false := by simpa using ho
        simp only [ho', Bool.false_and]
        exact ver_congr n fun j hj hc => h j (by omega) hc
    · have hw' : (po.getD n po0).wr.contains r = false := by simpa using hw
      simp only [hw', Bool.and_false]
      exact ver_congr n fun j hj hc => h j (by omega) hc
theorem ver_at {I : List HP} {po : List PO} {on : Nat → Bool} {a : Act} {r i : Nat} (hi : on i = true) (hw : (po.getD i po0).wr.contains r = true) : ∀ n, i < n → (∀ j, j < n → i < j → (po.getD j po0).wr.contains r = true → on j = false) → ver I po on a n r = ((po.getD i po0).post (vsA (po.getD i po0).ts a)).getD ((po.getD i po0).wr.idxOf r) (pu True)
  | 0, h, _ => by omega
  | n + 1, h, hn => by
    unfold ver
    by_cases e : i = n
    · subst e; simp only [hi, hw, Bool.true_and, if_true]
    · have : (on n && (po.getD n po0).wr.contains r) = false := by
        by_cases hc : (po.getD n po0).wr.contains r = true
        · rw [hn n (by omega) (by omega) hc]; rfl
        · simp only [hc, Bool.and_false]
      rw [this]
      exact ver_at hi hw n (by omega) fun j hj hij hc => hn j (by omega) hij hc
theorem vs_put {ts : List Tmp} {a : Act} {d : Option Tmp} {v : Value} (h : ∀ t, d = some t → t ∉ ts) : vsA ts (a.put d v) = vsA ts a := by
  cases d with
  | none => rfl
  | some t =>
    refine List.map_congr_left fun q hq => ?_
    have hne : (t == q) = false := by
      cases e : (t == q) with
      | false => rfl
      | true => exact absurd (by rw [eq_of_beq e]; exact hq) (h t rfl)
    exact Go.Own.ev_ne hne
theorem all_listed {ops : Array Oper} (hT : ∀ i o, ops[i]? = some o → ∀ d ∈ o.after, Region.binds .any d = true → d.on < i) {listed : Array Bool} (hs : listed.size = ops.size) (hr : Region.ready .any ops listed = []) : ∀ i, i < ops.size → listed.getD i false = true := by
  intro i
  induction i using Nat.strongRecOn with
  | _ i ih =>
    intro hi
    have ho := Array.getElem?_eq_getElem hi
    cases hl : listed.getD i true with
    | true => have : i < listed.size := by omega
              simp [this] at hl ⊢; exact hl
    | false =>
      exfalso
      have : i ∈ Region.ready .any ops listed := mem_ready.2 ⟨hl, _, ho, fun d hd hb => ih d.on (hT i _ ho d hd hb) (by have := hT i _ ho d hd hb; omega)⟩
      rw [hr] at this; cases this
section
variable {P : Program} {ops : Array Oper} {Q : Exit → Act → World → Prop} {A : Act} {wb w : World} {X : Nat → Prop} {I : List HP} {po : List PO}
def StepA (P : Program) (ops : Array Oper) (Q : Exit → Act → World → Prop) (A : Act) (wb : World) (X : Nat → Prop) (I : List HP) (po : List PO) (i : Nat) (o : Oper) : Prop :=
  ∀ (a : Act) (w : World) (rest : HP), FrA ops (onI ops i) A a → (∀ j, L.anc ops i j = true → (po.getD j po0).fact (vsA (po.getD j po0).ts a)) →
    St wb X (((po.getD i po0).rd ++ (po.getD i po0).wr).map (ver I po (L.anc ops i) a ops.size) ++ [rest]) w →
    WX P ops (KQ (fun a' w' => ∃ u, a' = a.put o.dst u ∧ (po.getD i po0).fact (vsA (po.getD i po0).ts a') ∧
      ((po.getD i po0).post (vsA (po.getD i po0).ts a')).length = (po.getD i po0).wr.length ∧
      St wb X ((po.getD i po0).rd.map (ver I po (L.anc ops i) a ops.size) ++ (po.getD i po0).post (vsA (po.getD i po0).ts a') ++ [rest]) w') Q) [o] a w
theorem dst_sz {a : Act} {d : Option Tmp} {u : Value} : (a.put d u).tmps.size = a.tmps.size := by cases d <;> simp [Act.put]
theorem dst_df {a : Act} {d : Option Tmp} {u : Value} : (a.put d u).defers = a.defers := by cases d <;> rfl
theorem FrA.put {a : Act} {i : Nat} {o : Oper} {u : Value} {on on' : Nat → Bool} (h : FrA ops on A a) (ho : ops[i]? = some o) (hi : on' i = true) (hm : ∀ j, j < ops.size → on j = true → on' j = true) : FrA ops on' A (a.put o.dst u) := by
  refine ⟨dst_sz.trans h.sz, dst_df.trans h.df, fun t ht => ?_⟩
  rw [← (h.mono hm).old t ht]
  have hb : dstB o t = false := by
    cases hq : dstB o t with
    | false => rfl
    | true => have := ht i o ho hq; rw [hi] at this; cases this
  unfold dstB at hb
  cases hd : o.dst with
  | none => rfl
  | some d => rw [hd] at hb; exact Go.Own.ev_ne hb
theorem AX_par (hB : parB ops po I.length = true) (hS : St wb X I w) (hstep : ∀ i o, ops[i]? = some o → StepA P ops Q A wb X I po i o)
    (hend : ∀ a w, FrA ops (fun _ => true) A a → (∀ j, j < ops.size → (po.getD j po0).fact (vsA (po.getD j po0).ts a)) → St wb X ((List.range I.length).map (ver I po (fun _ => true) a ops.size)) w → Q .normal a w) :
    AX P ops Q ops.size (Array.replicate ops.size false) A w := by
  simp only [parB, Bool.and_eq_true, List.all_eq_true, List.mem_range, decide_eq_true_eq, Bool.or_eq_true, beq_iff_eq, Bool.not_eq_true'] at hB
  obtain ⟨⟨⟨⟨⟨hA, hl⟩, hT⟩, hR⟩, hC⟩, hN⟩ := hB
  have hA := L.AncOk.of hA
  have hTop : ∀ i o, ops[i]? = some o → ∀ d ∈ o.after, Region.binds .any d = true → d.on < i ∧ L.anc ops i d.on = true := fun i o ho d hd hb => by
    have h1 := hT i (Array.getElem?_eq_some_iff.1 ho).1
    rw [ho] at h1
    simp only at h1
    have h2 := Array.all_eq_true'.1 h1 d hd
    simp only [hb, Bool.not_true, Bool.false_or, Bool.and_eq_true, decide_eq_true_eq] at h2
    exact h2
  have key : ∀ (fuel : Nat) (listed : Array Bool) (a : Act) (w : World), listed.size = ops.size → L.Closed ops listed → FrA ops (fun j => listed.getD j false) A a →
      (∀ j, j < ops.size → listed.getD j false = true → (po.getD j po0).fact (vsA (po.getD j po0).ts a)) →
      StF wb X I.length (ver I po (fun j => listed.getD j false) a ops.size) w → (fuel = 0 → Region.ready .any ops listed = []) → (fuel = ((List.range ops.size).filter fun j => !(listed.getD j true)).length) → wpAny P .any ops Q fuel listed a w := by
    intro fuel
    have fin : ∀ (listed : Array Bool) (a : Act) (w : World), listed.size = ops.size → FrA ops (fun j => listed.getD j false) A a →
      (∀ j, j < ops.size → listed.getD j false = true → (po.getD j po0).fact (vsA (po.getD j po0).ts a)) →
      StF wb X I.length (ver I po (fun j => listed.getD j false) a ops.size) w → Region.ready .any ops listed = [] → Q .normal a w := by
      intro listed a w hs hFr hF hSt h0
      have hall := all_listed (fun i o ho d hd hb => (hTop i o ho d hd hb).1) hs h0
      refine hend a w (hFr.mono fun _ _ _ => rfl) (fun j hj => hF j hj (hall j hj)) ?_
      refine (hSt.congr fun r _ => ?_).st
      exact ver_congr _ fun j hj _ => ⟨hall j hj, fun _ => rfl⟩
    induction fuel with
    | zero => intro listed a w hs hcl hFr hF hSt h0 _; exact ⟨h0 rfl, fin listed a w hs hFr hF hSt (h0 rfl)⟩
    | succ fuel ih =>
      intro listed a w hs hcl hFr hF hSt _ hfu
      refine ⟨fun h0 => fin listed a w hs hFr hF hSt h0, fun i hi => ?_⟩
      obtain ⟨hun, o, ho, hall⟩ := mem_ready.1 hi
      have hin : i < ops.size := (Array.getElem?_eq_some_iff.1 ho).1
      have hil : i < listed.size := by omega
      have gd : ∀ j, j < ops.size → listed.getD j true = listed.getD j false := fun j hj => by
        have : j < listed.size := by omega
        simp [this]
      have hanc : ∀ j, L.anc ops i j = true → listed.getD j false = true := fun j hj =>
        L.anc_listed hA hcl i i j (Nat.le_refl _) (fun o' ho' d hd hb => by rw [ho] at ho'; cases ho'; exact hall d hd hb) hj
      have hlt : ∀ i j, L.anc ops i j = true → j < i := by
        intro i
        induction i using Nat.strongRecOn with
        | _ i ih =>
          intro j hj
          obtain ⟨_, _, d, _, _, h1, h2⟩ := hA i j hj
          rcases h2 with rfl | h2
          · exact h1
          · have := ih d.on h1 j h2; omega
      have hcmp : ∀ j, j < ops.size → ∀ r, r ∈ (po.getD i po0).rd ++ (po.getD i po0).wr → (po.getD j po0).wr.contains r = true → j ≠ i → (listed.getD j false = L.anc ops i j) := by
        intro j hj r hr hc hji
        have h := hC i hin j hj
        rcases h with ((h | h) | h) | h
        · exact absurd h.symm hji
        · rw [h]; exact hanc j h
        · have h1 : listed.getD j false = false := by
            cases hq : listed.getD j false with
            | false => rfl
            | true =>
              have := L.anc_listed hA hcl j j i (Nat.le_refl _) (fun o' ho' d hd hb => hcl j o' ho' hq d hd hb) h
              rw [← gd i hin, hun] at this; cases this
          have h2 : L.anc ops i j = false := by
            cases hq : L.anc ops i j with
            | false => rfl
            | true => have := hanc j hq; rw [h1] at this; cases this
          rw [h1, h2]
        · have := h r hr
          rw [hc] at this; cases this
      have hrs := (hR i hin).1
      have hnd := (hR i hin).2
      have hpick := hSt.pick hrs hnd
      have hve : ∀ r ∈ (po.getD i po0).rd ++ (po.getD i po0).wr, ver I po (fun j => listed.getD j false) a ops.size r = ver I po (L.anc ops i) a ops.size r := fun r hr => ver_congr _ fun j hj hc => by
        by_cases e : j = i
        · subst e
          refine ⟨?_, fun _ => rfl⟩
          have : L.anc ops j j = false := by
            cases hq : L.anc ops j j with
            | false => rfl
            | true => have := hlt j j hq; omega
          rw [this, ← gd j hj, hun]
        · exact ⟨hcmp j hj r hr hc e, fun _ => rfl⟩
      rw [List.map_congr_left hve] at hpick
      have hstp := hstep i o ho a w _ (hFr.mono fun j hj hlj => by
        have h1 : ¬ j = i := fun e => by subst e; rw [← gd j hj, hun] at hlj; cases hlj
        have h2 : L.anc ops j i = false := by
          cases hq : L.anc ops j i with
          | false => rfl
          | true =>
            have := L.anc_listed hA hcl j j i (Nat.le_refl _) (fun o' ho' d hd hb => hcl j o' ho' hlj d hd hb) hq
            rw [← gd i hin, hun] at this; cases this
        unfold onI; rw [h2]; simp [h1]) (fun j hj => by
        have hjs : j < ops.size := by have := hlt i j hj; omega
        exact hF j hjs (hanc j hj)) hpick
      refine wpOp_mono (K := _) ?_ (op_any ho hstp)
      rintro a' w' ⟨u, rfl, hf, hpl, hS'⟩
      have hs' : (listed.setIfInBounds i true).size = ops.size := by simp [hs]
      have gl : ∀ j, j < ops.size → (listed.setIfInBounds i true).getD j false = if j = i then true else listed.getD j false := fun j hj => by
        by_cases e : j = i
        · subst e; simp [hil]
        · rw [getD_set_ne false (fun q => e q.symm), if_neg e]
      have hput : ∀ j, j < ops.size → listed.getD j false = true → vsA (po.getD j po0).ts (a.put o.dst u) = vsA (po.getD j po0).ts a := fun j hj hlj => vs_put fun t ht hm => by
        have h := hN j hj t hm i hin
        have hji : j ≠ i := fun e => by subst e; rw [← gd j hj, hun] at hlj; cases hlj
        rcases h with (h | h) | h
        · exact hji h.symm
        · have := L.anc_listed hA hcl j j i (Nat.le_refl _) (fun o' ho' d hd hb => hcl j o' ho' hlj d hd hb) h
          rw [← gd i hin, hun] at this; cases this
        · simp [ho, dstB, ht] at h
      refine ih _ _ _ hs' (hcl.set hi) (hFr.put ho (by rw [gl i hin, if_pos rfl]) fun j hj hlj => by rw [gl j hj]; split <;> first | rfl | exact hlj) (fun j hj hlj => ?_) ?_ (fun h0 => ?_) ?_
      · by_cases e : j = i
        · subst e; exact hf
        · rw [gl j hj, if_neg e] at hlj
          rw [hput j hj hlj]; exact hF j hj hlj
      · have h5 := StF.unpick (rs := (po.getD i po0).rd ++ (po.getD i po0).wr) hS' hrs hnd (by rw [List.length_append, List.length_append, List.length_map, hpl])
        refine h5.congr fun r hr => ?_
        by_cases hw : (po.getD i po0).wr.contains r = true
        · have hm : r ∈ (po.getD i po0).wr := by simpa using hw
          have hnr : r ∉ (po.getD i po0).rd := fun q => by
            have := (List.nodup_append.1 hnd).2.2 r q r hm
            exact this rfl
          rw [if_pos (List.mem_append_right _ hm)]
          rw [ver_at (i := i) (by rw [gl i hin, if_pos rfl]) hw ops.size hin fun j hj hij hc => by
            rw [gl j hj, if_neg (by omega), hcmp j hj r (List.mem_append_right _ hm) hc (by omega)]
            cases hq : L.anc ops i j with
            | false => rfl
            | true => have := hlt i j hq; omega]
          rw [List.idxOf_append, if_neg hnr, List.getD_eq_getElem?_getD, List.getD_eq_getElem?_getD, List.getElem?_append_right (by simp)]
          simp
        · have hm : r ∉ (po.getD i po0).wr := by simpa using hw
          have e2 : ver I po (fun j => (listed.setIfInBounds i true).getD j false) (a.put o.dst u) ops.size r = ver I po (fun j => listed.getD j false) a ops.size r := ver_congr _ fun j hj hc => by
            have hji : j ≠ i := fun e => by subst e; exact hw hc
            rw [gl j hj, if_neg hji]
            exact ⟨rfl, fun q => hput j hj q⟩
          rw [e2]
          by_cases hrd : r ∈ (po.getD i po0).rd
          · rw [if_pos (List.mem_append_left _ hrd), List.idxOf_append, if_pos hrd, List.getD_eq_getElem?_getD]
            have hlt' := List.idxOf_lt_length_of_mem hrd
            rw [List.getElem?_append_left (by simpa using hlt'), List.getElem?_map, List.getElem?_eq_getElem hlt']
            simp only [Option.map_some, Option.getD_some, List.getElem_idxOf]
            exact (hve r (List.mem_append_left _ hrd)).symm
          · rw [if_neg (fun q => (List.mem_append.1 q).elim hrd hm)]
      · subst h0
        have hnone : ∀ j, j < ops.size → (listed.setIfInBounds i true).getD j true = true := by
          intro j hj
          by_cases e : j = i
          · subst e; simp [hil]
          · rw [getD_set_ne true (fun q => e q.symm)]
            cases hq : listed.getD j true with
            | true => rfl
            | false =>
              exfalso
              have h1 : i ∈ (List.range ops.size).filter fun j => !(listed.getD j true) := by rw [List.mem_filter]; exact ⟨by simpa using hin, by rw [hun]; rfl⟩
              have h2 : j ∈ (List.range ops.size).filter fun j => !(listed.getD j true) := by rw [List.mem_filter]; exact ⟨by simpa using hj, by rw [hq]; rfl⟩
              obtain ⟨x, hx⟩ := List.length_eq_one_iff.1 hfu.symm
              rw [hx] at h1 h2
              simp at h1 h2; omega
        unfold Region.ready
        rw [List.filter_eq_nil_iff]
        intro j hj
        have := hnone j (by simpa using hj)
        simp only [this]
        cases ops[j]? <;> simp
      · have hcount : ∀ (l : List Nat), l.Nodup → i ∈ l → (l.filter fun j => !(listed.getD j true)).length = (l.filter fun j => !((listed.setIfInBounds i true).getD j true)).length + 1 := by
          intro l
          induction l with
          | nil => intro _ h; cases h
          | cons x l ihl =>
            intro nd hm
            obtain ⟨nx, nl⟩ := List.nodup_cons.1 nd
            by_cases e : x = i
            · subst e
              have e1 : (l.filter fun j => !(listed.getD j true)) = l.filter fun j => !((listed.setIfInBounds x true).getD j true) := List.filter_congr fun j hj => by
                rw [getD_set_ne true (fun q => by subst q; exact nx hj)]
              simp only [List.filter_cons, hun, Bool.not_false, if_true, List.length_cons, e1]
              simp [hil]
            · have hm' : i ∈ l := (List.mem_cons.1 hm).resolve_left fun q => e q.symm
              have h8 := ihl nl hm'
              simp only [List.filter_cons, getD_set_ne true (show i ≠ x from fun q => e q.symm)]
              split
              · simp only [List.length_cons]; omega
              · exact h8
        have := hcount (List.range ops.size) List.nodup_range (by simpa using hin)
        omega
  refine ⟨key ops.size _ A w (by simp) (fun i o ho hli => by rw [getD_replicate_false] at hli; cases hli) ⟨rfl, rfl, fun _ _ => rfl⟩ (fun j hj hlj => by rw [getD_replicate_false] at hlj; cases hlj) ?_ (fun h0 => ?_) ?_⟩
  · refine StF.of hS rfl fun r c hc => ?_
    have : ∀ n, ver I po (fun j => (Array.replicate ops.size false).getD j false) A n r = I.getD r (pu True) := by
      intro n
      induction n with
      | zero => rfl
      | succ n ih => unfold ver; rw [getD_replicate_false]; simpa using ih
    rw [this, List.getD_eq_getElem?_getD, hc]; rfl
  · unfold Region.ready
    rw [List.filter_eq_nil_iff]
    intro j hj
    have : j < ops.size := by simpa using hj
    omega
  · rw [List.filter_eq_self.2 fun j hj => ?_]
    · simp
    · have : j < ops.size := by simpa using hj
      simp [this]
theorem stepI {i : Nat} {o : Oper} (tsp : List Tmp) (pre : List Value → List HP) {rd wr : List Nat} {ts : List Tmp} {post : List Value → List HP} {fact : List Value → Prop} (hpo : po.getD i po0 = ⟨rd, wr, ts, post, fact⟩)
    (hR : ∀ a, (rd ++ wr).map (ver I po (L.anc ops i) a ops.size) = pre (vsA tsp a))
    (h : ∀ (a : Act) (w : World) (rest : HP), FrA ops (onI ops i) A a → (∀ j, L.anc ops i j = true → (po.getD j po0).fact (vsA (po.getD j po0).ts a)) → St wb X (pre (vsA tsp a) ++ [rest]) w →
      WX P ops (KQ (fun a' w' => ∃ u vs, a' = a.put o.dst u ∧ vsA ts a' = vs ∧ fact vs ∧ (post vs).length = wr.length ∧ St wb X ((pre (vsA tsp a)).take rd.length ++ post vs ++ [rest]) w') Q) [o] a w) : StepA P ops Q A wb X I po i o := by
  intro a w rest hF hf hS
  rw [hpo] at hS ⊢
  simp only at hS ⊢
  rw [hR a] at hS
  have h2 := h a w rest hF hf hS
  have e : rd.map (ver I po (L.anc ops i) a ops.size) = (pre (vsA tsp a)).take rd.length := by
    rw [← hR a, List.map_append, List.take_left' (by simp)]
  rw [e]
  have : KQ (fun a' w' => ∃ u vs, a' = a.put o.dst u ∧ vsA ts a' = vs ∧ fact vs ∧ (post vs).length = wr.length ∧ St wb X ((pre (vsA tsp a)).take rd.length ++ post vs ++ [rest]) w') Q =
      KQ (fun a' w' => ∃ u, a' = a.put o.dst u ∧ fact (vsA ts a') ∧ (post (vsA ts a')).length = wr.length ∧ St wb X ((pre (vsA tsp a)).take rd.length ++ post (vsA ts a') ++ [rest]) w') Q := by
    funext x a' w'
    cases x <;> simp only [KQ]
    refine propext ⟨fun ⟨u, vs, q1, q2, q3, q4, q5⟩ => ⟨u, q1, by rw [q2]; exact q3, by rw [q2]; exact q4, by rw [q2]; exact q5⟩, fun ⟨u, q1, q3, q4, q5⟩ => ⟨u, _, q1, rfl, q3, q4, q5⟩⟩
  rw [← this]; exact h2
def StepsA (P : Program) (ops : Array Oper) (Q : Exit → Act → World → Prop) (A : Act) (wb : World) (X : Nat → Prop) (I : List HP) (po : List PO) : List Oper → Nat → Prop
  | [], _ => True
  | o :: l, k => StepA P ops Q A wb X I po k o ∧ StepsA P ops Q A wb X I po l (k + 1)
theorem steps_at : ∀ (l : List Oper) (k : Nat), StepsA P ops Q A wb X I po l k → ∀ i o, l[i]? = some o → StepA P ops Q A wb X I po (k + i) o
  | [], _, _, i, o, h => by simp at h
  | x :: l, k, ⟨h1, h2⟩, 0, o, h => by simp at h; subst h; exact h1
  | x :: l, k, ⟨h1, h2⟩, i + 1, o, h => by
    have := steps_at l (k + 1) h2 i o (by simpa using h)
    rwa [show k + 1 + i = k + (i + 1) by omega] at this
theorem AX_parL {l : List Oper} {n : Nat} {l0 : List HP} {k : Nat} (po : List PO) (I : List HP) (hS : St wb X l0 w) (hI : I = l0 ++ List.replicate k (pu True)) (hB : parB l.toArray po I.length = true) (hn : l.toArray.size = n)
    (hstep : StepsA P l.toArray Q A wb X I po l 0)
    (hend : ∀ a w, FrA l.toArray (fun _ => true) A a → (∀ j, j < n → (po.getD j po0).fact (vsA (po.getD j po0).ts a)) → St wb X ((List.range I.length).map (ver I po (fun _ => true) a n)) w → Q .normal a w) :
    AX P l.toArray Q n (Array.replicate n false) A w := by
  subst hn
  refine AX_par hB ?_ (fun i o ho => by simpa using steps_at l 0 hstep i o (by simpa using ho)) hend
  subst hI
  clear hB hstep hend
  obtain ⟨he, fs, h1, h2, h3⟩ := hS
  refine ⟨he, fs, fun i c hc => ?_, fun i b hb => ?_, h3⟩
  · rcases Nat.lt_or_ge i l0.length with h | h
    · rw [List.getElem?_append_left h] at hc; exact h1 i c hc
    · rw [List.getElem?_append_right h] at hc
      have := List.eq_of_mem_replicate (List.mem_of_getElem? hc)
      subst this; trivial
  · have := h2 i b hb
    exact ⟨by simp; omega, this.2⟩
theorem oldS {ops : Array Oper} {on : Nat → Bool} {A a : Act} (h : FrA ops on A a) (t : Tmp) (ht : ((List.range ops.size).all fun i => match ops[i]? with | some o => !(dstB o t) || !(on i) | none => true) = true) : EV a (.tmp t) = EV A (.tmp t) := h.old t fun i o ho hd => by
  have := List.all_eq_true.1 ht i (List.mem_range.2 (Array.getElem?_eq_some_iff.1 ho).1)
  simp only [ho, hd, Bool.not_true, Bool.false_or, Bool.not_eq_true'] at this
  exact this
theorem St.cast {l l' : List HP} (h : St wb X l w) (e : l = l') : St wb X l' w := e ▸ h
def gOf (v : Value) : Nat := match v with | .pointer (some a) => a.block | _ => 0
theorem pkR {l fr : List HP} (h : St wb X (l ++ fr) w) : St wb X (l ++ [pk (· = fr)]) w := by
  obtain ⟨he, fs, h1, h2, h3⟩ := h
  refine ⟨he, fun i b => if i < l.length then fs i b else i = l.length ∧ ∃ j, fs (l.length + j) b, fun i c hc => ?_, fun i b hb => ?_, fun i j b hi hj => ?_⟩
  · by_cases hi : i < l.length
    · rw [List.getElem?_append_left hi] at hc
      exact HP.eq_p (by funext b; simp [hi]) (h1 i c (by rw [List.getElem?_append_left hi]; exact hc))
    · have e : i = l.length := by have := (List.getElem?_eq_some_iff.1 hc).1; simp at this; omega
      subst e
      rw [List.getElem?_append_right (by omega)] at hc
      simp at hc; subst hc
      have hp : (pk (· = fr)).p w (fun b => ∃ j, fs (l.length + j) b) := ⟨fr, rfl, fun j b => fs (l.length + j) b, fun j c hc => h1 _ c (by rw [List.getElem?_append_right (by omega)]; simpa using hc), fun j b hb => ⟨by have := (h2 _ b hb).1; simp at this; omega, j, hb⟩, fun j k b hj hk => by have := h3 _ _ b hj hk; omega⟩
      exact HP.eq_p (by funext b; simp) hp
  · by_cases hi : i < l.length
    · simp only [hi, if_true] at hb; exact ⟨by simp; omega, (h2 i b hb).2⟩
    · simp only [hi, if_false] at hb; obtain ⟨e, j, hb⟩ := hb; exact ⟨by simp; omega, (h2 _ b hb).2⟩
  · by_cases hi' : i < l.length <;> by_cases hj' : j < l.length
    · simp only [hi', hj', if_true] at hi hj; exact h3 i j b hi hj
    · simp only [hi', hj', if_true, if_false] at hi hj; obtain ⟨_, k, hk⟩ := hj; have := h3 _ _ b hi hk; omega
    · simp only [hi', hj', if_true, if_false] at hi hj; obtain ⟨_, k, hk⟩ := hi; have := h3 _ _ b hj hk; omega
    · simp only [hi', hj', if_false] at hi hj; omega
theorem unpkR {l fr : List HP} (h : St wb X (l ++ [pk (· = fr)]) w) : St wb X (l ++ fr) w := by
  obtain ⟨he, fs, h1, h2, h3⟩ := h
  obtain ⟨l', rfl, gs, g1, g2, g3⟩ := h1 l.length (pk (· = fr)) (by rw [List.getElem?_append_right (by omega)]; simp)
  refine ⟨he, fun i b => if i < l.length then fs i b else gs (i - l.length) b, fun i c hc => ?_, fun i b hb => ?_, fun i j b hi hj => ?_⟩
  · by_cases hi : i < l.length
    · rw [List.getElem?_append_left hi] at hc
      exact HP.eq_p (by funext b; simp [hi]) (h1 i c (by rw [List.getElem?_append_left hi]; exact hc))
    · rw [List.getElem?_append_right (by omega)] at hc
      exact HP.eq_p (by funext b; simp [hi]) (g1 _ c hc)
  · by_cases hi : i < l.length
    · simp only [hi, if_true] at hb; exact ⟨by simp; omega, (h2 i b hb).2⟩
    · simp only [hi, if_false] at hb; have := g2 _ b hb; exact ⟨by simp; omega, (h2 _ b this.2).2⟩
  · by_cases hi' : i < l.length <;> by_cases hj' : j < l.length
    · simp only [hi', hj', if_true] at hi hj; exact h3 i j b hi hj
    · simp only [hi', hj', if_true, if_false] at hi hj; have := h3 _ _ b hi (g2 _ b hj).2; omega
    · simp only [hi', hj', if_true, if_false] at hi hj; have := h3 _ _ b hj (g2 _ b hi).2; omega
    · simp only [hi', hj', if_false] at hi hj; have := g3 _ _ b hi hj; omega
end
end Go.Own

namespace Go.Proofs.YtpgkfndbfocibaaGreat
open Go.RowKit Go.Own Go.Own.R Go.Own.G Go.Own.Gr


set_option maxHeartbeats 4000000 in
theorem kcl_c {cv : Value} {c : List Int} {w : World} (h_cv : Ro w NoX (il .i64 cv c)) (hl : c.length ≤ 1048576) :
  Calls Tryz.prog 36 #[cv] w fun e w' => ∃ v, e = .returned (v) ∧ St w NoX [io .i64 (v) c] w' := by
 refine ci1 8 Tryz.func36 V (fun A0 _ F0 => ?_)
 have hS := St.nil w
 have bh_cv := SlN.le (sl_SlN h_cv.at)
 refine tb fun _ H1 => (vc (W_end (en (Qa F0) fun A2 _ F2 => tc H1 fun _ H3 => tb fun _ H4 => (vm (fg0 F2) (wv (V_eqNilB V t0 V (sl_SlN h_cv.at) Tryz.underlying25) (W_end (en (Ka (Qa F2)) fun A5 _ F5 => tk H4 (cond_b (fg0 F5) (fun c6 => ?_) (fun c6 => ?_)))))))))
 ·refine tb fun _ H7 => (vc (W_end (en (Ka F5) fun A8 _ F8 => tk H7 (wp_ret (then_ret (rt1 F8 (rv_tmp (fg0 F8)) ?_))))))
  obtain ⟨c9, hc9, S9⟩ := hS.pnil (s := 1)
  obtain rfl : c = [] := List.eq_nil_of_length_eq_zero (nilB_len (sl_SlN h_cv.at) c6)
  exact ⟨_, rfl, (S9.f1 0 hc9)⟩
 refine wp_skip (ta H3 fun _ H10 => (W_litS (vs := []) (xs := []) 1 hS V V V parts0 V Tryz.underlying25 kr Zg (by intro v hv; cases hv) Zi (fun g11 w11 c11 hc11 S11 => ?_)))
 replace hc11 : c11 = io .i64 (.slice (some ⟨g11, 0, none⟩) 0 0) [] := hc11
 replace S11 : St w NoX [c11] w11 := S11
 refine vm (Sa (fg1 F5)) (W_appS 1 0 S11 V hc11 V V V (Sa t0) t0 Tryz.underlying25 Tryz.underlying25 (z := .int .i64 0) (bytes := 8) kr V Zg (sl_SlN (S11.ro h_cv)) ones_i Zd Zd (fun v12 w12 c12 hc12 S12 => ?_))
 replace hc12 : c12 = io .i64 v12 c := hc12.trans (app_eq Zc)
 replace S12 : St w NoX [c12] w12 := S12
 refine vt (W_end (en (Ka (Qc F5)) fun A13 _ F13 => tk H10 (wp_ret (rt1 F13 (rv_tmp (fg0 F13)) ?_))))
 exact ⟨_, rfl, (S12.f1 0 hc12)⟩

set_option maxHeartbeats 4000000 in
theorem kcu_c {cv : Value} {c : List Int} {w : World} (h_cv : Ro w NoX (il .u64 cv c)) (hl : c.length ≤ 1048576) :
  Calls Tryz.prog 37 #[cv] w fun e w' => ∃ v, e = .returned (v) ∧ St w NoX [io .u64 (v) c] w' := by
 refine ci1 8 Tryz.func37 V (fun A0 _ F0 => ?_)
 have hS := St.nil w
 have bh_cv := SlN.le (sl_SlN h_cv.at)
 refine tb fun _ H1 => (vc (W_end (en (Qa F0) fun A2 _ F2 => tc H1 fun _ H3 => tb fun _ H4 => (vm (fg0 F2) (wv (V_eqNilB V t0 V (sl_SlN h_cv.at) Tryz.underlying68) (W_end (en (Ka (Qa F2)) fun A5 _ F5 => tk H4 (cond_b (fg0 F5) (fun c6 => ?_) (fun c6 => ?_)))))))))
 ·refine tb fun _ H7 => (vc (W_end (en (Ka F5) fun A8 _ F8 => tk H7 (wp_ret (then_ret (rt1 F8 (rv_tmp (fg0 F8)) ?_))))))
  obtain ⟨c9, hc9, S9⟩ := hS.pnil (s := 1)
  obtain rfl : c = [] := List.eq_nil_of_length_eq_zero (nilB_len (sl_SlN h_cv.at) c6)
  exact ⟨_, rfl, (S9.f1 0 hc9)⟩
 refine wp_skip (ta H3 fun _ H10 => (W_litS (vs := []) (xs := []) 1 hS V V V parts0 V Tryz.underlying68 kr Zg (by intro v hv; cases hv) Zi (fun g11 w11 c11 hc11 S11 => ?_)))
 replace hc11 : c11 = io .u64 (.slice (some ⟨g11, 0, none⟩) 0 0) [] := hc11
 replace S11 : St w NoX [c11] w11 := S11
 refine vm (Sa (fg1 F5)) (W_appS 1 0 S11 V hc11 V V V (Sa t0) t0 Tryz.underlying68 Tryz.underlying68 (z := .int .u64 0) (bytes := 8) kr V Zg (sl_SlN (S11.ro h_cv)) ones_i Zd Zd (fun v12 w12 c12 hc12 S12 => ?_))
 replace hc12 : c12 = io .u64 v12 c := hc12.trans (app_eq Zc)
 replace S12 : St w NoX [c12] w12 := S12
 refine vt (W_end (en (Ka (Qc F5)) fun A13 _ F13 => tk H10 (wp_ret (rt1 F13 (rv_tmp (fg0 F13)) ?_))))
 exact ⟨_, rfl, (S12.f1 0 hc12)⟩

set_option maxHeartbeats 4000000 in
theorem qsm_c {ov : Value} {O : List Ob} {rv : Value} {rs : List Int} {ov2 : Value} {O2 : List Ob} {rv2 : Value} {rs2 : List Int} {w : World} (h_ov : Ro w NoX (rl 2 obC ov O)) (n_ov : Ro w NoX (nst O)) (h_rv : Ro w NoX (il .i64 rv rs)) (h_ov2 : Ro w NoX (rl 2 obC ov2 O2)) (n_ov2 : Ro w NoX (nst O2)) (h_rv2 : Ro w NoX (il .i64 rv2 rs2))  :
  Calls Tryz.prog 13 #[.agg #[ov, rv], .agg #[ov2, rv2]] w fun e w' => e = .returned (.bool (smG (O.map ab) rs (O2.map ab) rs2)) ∧ St w NoX [] w' := by
 refine ci2 114 Tryz.func13 V (fun A0 _ F0 => ?_)
 have hS := St.nil w
 have bh_ov := SlN.le (sl_SlN h_ov.at)
 have bh_rv := SlN.le (sl_SlN h_rv.at)
 have bh_ov2 := SlN.le (sl_SlN h_ov2.at)
 have bh_rv2 := SlN.le (sl_SlN h_rv2.at)
 refine tb fun _ H1 => (wB (#[ov, rv]) hS (fg0 F0) (fun g2 w2 c2 hc2 S2 => wB (#[ov2, rv2]) S2 (Sa (fg1 F0)) (fun g3 w3 c3 hc3 S3 => vc (W_end (en (Qa (Kb F0)) fun A4 _ F4 => tc H1 fun _ H5 => tb fun _ H6 => (fa 0 (fg1 F4) (rL ov t0 (S3.ob 1 hc2) (le_ t0 (sl_SlN h_ov.at) (fa 0 (Sc (fg0 F4)) (rL ov2 t0 (S3.ob 0 hc3) (le_ t0 (sl_SlN h_ov2.at) (vn (Sc t0) t0 (W_split V V (V_mov V t0) (fun c7 => ?_) (fun c7 => ?_))))))))))))))
 ·refine xo V t0 (xo V (Sa t0) (xo V (Sb t0) (xo V (Sc t0) (xo V (Sd t0) (xo V (Se t0) (xo V (Sf t0) (vT (Sg t0) V (W_end (en (Ka (Qg (Qh F4))) fun A8 _ F8 => tk H6 (cond_t (fg0 F8) (tb fun _ H9 => (vc (W_end (en (Ka F8) fun A10 _ F10 => tk H9 (wp_ret (then_ret (rt1 F10 (rv_tmp (fg0 F10)) ?_)))))))))))))))))
  rw [show smG (O.map ab) rs (O2.map ab) rs2 = false from decide_eq_false (fun q => by have := congrArg List.length q.1; simp only [List.length_map] at this; have hc := c7; omega)]
  exact ⟨rfl, S3.fin0⟩
 refine wg V t0 (ufa 1 (Sh (fg1 F4))) (wq V (Sa t0) (urL rv t0 (S3.ob 1 hc2)) (wg V (Sb t0) (ule_ t0 (sl_SlN h_rv.at)) (wg V (Sc t0) (ufa 1 (Sh (Sc (fg0 F4)))) (wq V (Sd t0) (urL rv2 t0 (S3.ob 0 hc3)) (wg V (Se t0) (ule_ t0 (sl_SlN h_rv2.at)) (wg V (Sf t0) (uvn (Sc t0) t0) (vF (Sg t0) t0 (W_end (en (Ka (Qg (Qh F4))) fun A12 _ F12 => tk H6 (cd (fg0 F12) (fun c13 => ?_) fun c13 => ?_))))))))))
 ·refine tb fun _ H14 => (vc (W_end (en (Ka F12) fun A15 _ F15 => tk H14 (wp_ret (then_ret (rt1 F15 (rv_tmp (fg0 F15)) ?_))))))
  rw [show smG (O.map ab) rs (O2.map ab) rs2 = false from decide_eq_false (fun q => by have := congrArg List.length q.2; have hc := c13; omega)]
  exact ⟨rfl, S3.fin0⟩
 refine wp_skip (tc H5 fun _ H17 => tb fun _ H18 => (vc (W_end (en (Ka F12) fun A19 Y19 F19 => tk H18 (wp_block ?_)))))
 -- loop 4
 refine loopX (fun mz A' w' => SzN A' 114 ∧ A'.defers = [] ∧ (∃ (k : Nat), (mz = rs.length - k) ∧ (k ≤ rs.length) ∧ (rs.take k = rs2.take k) ∧ (EV A' (.tmp 5) = .int .i64 (k : Int)) ∧ (EV A' (.tmp 2) = EV A19 (.tmp 2)) ∧ (EV A' (.tmp 3) = EV A19 (.tmp 3)) ∧ (St w NoX [bx g3 30 #[ov2, rv2], bx g2 30 #[ov, rv]] w'))) (rs.length - 0) ⟨Y19, F19.d, 0, rfl, Zb, rfl, ((fg0 F19).trans Za), rfl, rfl, (by subst hc3 hc2; exact S3)⟩ ?_
 clear S3 hc3 hc2
 rintro n20 A20 w20 ⟨Y20, hdf20, k, hm20, hk, hz, l5_20, u2_20, u3_20, S20⟩
 have l2_20 := u2_20.trans (fg3 F19)
 have l3_20 := u3_20.trans (fg2 F19)
 obtain ⟨c3_20, c2_20, hc3_20, hc2_20, S20⟩ := gen2 S20
 refine td fun _ H21 => tb fun _ H22 => (vm l5_20 (fa 1 (Sa l2_20) (rL rv t0 (S20.ob 1 hc2_20) (le_ t0 (sl_SlN h_rv.at) (vl (Sc t0) t0 (W_end (en (((((ck (cq4 (FS.n hdf20) V) V V)).c (es5 V l2_20)).c (es5 V l3_20)).c (Se l5_20)) fun A23 _ F23 => tk H22 (cd (fg3 F23) (fun c24 => ?_) fun c24 => ?_))))))))
 ·refine wp_skip (tc H21 fun _ H25 => wp_block (td fun _ H26 => region_monoS 11 11 [] kr kr (df 1 (fg2 F23) (dr (fun _ hx _ => (urc t0 (cell_box (v := rv) ((S20.grow hx).ob 1 hc2_20) V))) (dm (Sb (fg0 F23)) ?_)))))
  have k27 : k < rs.length := om
  obtain ⟨y27, hy27⟩ := get_some (xs := rs) (k := k) k27
  obtain ⟨B27, O27, C27, hv27⟩ := (SlN.blk (sl_SlN h_rv.at) om)
  refine dv (V_ixS (off := O27 + k) 1 k V (Sa t0) t0 hv27 Zb k27 Tryz.underlying25 kr (congrArg _ (Nat.mul_one _))) (dr (fun _ hx _ => (urc t0 ((sl_SlN ((S20.grow hx).ro h_rv)).cell hv27 (map_get hy27)))) (df 1 (Se (fg1 F23)) (dr (fun _ hx _ => (urc t0 (cell_box (v := rv2) ((S20.grow hx).ob 0 hc3_20) V))) (dm (Sg (fg0 F23)) ?_))))
  have k28 : k < rs2.length := om
  obtain ⟨y28, hy28⟩ := get_some (xs := rs2) (k := k) k28
  obtain ⟨B28, O28, C28, hv28⟩ := (SlN.blk (sl_SlN h_rv2.at) om)
  refine dv (V_ixS (off := O28 + k) 1 k V (Sa t0) t0 hv28 Zb k28 Tryz.underlying25 kr (congrArg _ (Nat.mul_one _))) (dr (fun _ hx _ => (urc t0 ((sl_SlN ((S20.grow hx).ro h_rv2)).cell hv28 (map_get hy28)))) (dv (uvn (Se t0) t0) (ZS_none S20 (Nat.le_refl _) (Nat.le_refl _) (fun s29 hJ29 hL29 hF29 => ?_))))
  have S29 := hJ29.st; clear hF29 hJ29 hL29
  generalize s29.1 = w29 at *
  replace S29 : St w NoX [c3_20, c2_20] w29 := S29
  refine en (Ka (Qb (Qh F23))) fun A30 _ F30 => tk H26 (cd (fg0 F30) (fun c31 => ?_) fun c31 => ?_)
  ·refine tb fun _ H32 => (vc (W_end (en (Ka F30) fun A33 _ F33 => tk H32 (wp_ret (inb_ret (then_ret (then_ret (inb_ret (then_ret (rt1 F33 (rv_tmp (fg0 F33)) ?_))))))))))
   rw [show smG (O.map ab) rs (O2.map ab) rs2 = false from decide_eq_false (fun q => tk_ne hy27 hy28 (by have hc := c31; omega) q.2)]
   exact ⟨rfl, S29.fin0⟩
  refine wp_skip (inb_n (tk H25 (region_in (vm (fg1 F30) (ad t0 V (vt (W_end (en (Ka (Qb (fx1 F30))) fun A35 Y35 F35 => then_n ⟨rs.length - (k + 1), by simp only [hm20]; omega, Y35, F35.d, (k + 1), rfl, Zb, (tk_step hz hy27 hy28 (by have hc := c31; omega)), ((fg0 F35).trans Za), ((fg3 F35).trans (fg3 F19).symm), ((fg2 F35).trans (fg2 F19).symm), (by subst hc3_20 hc2_20; exact S29)⟩))))))))
 refine wp_exit (then_exit (then_exit (inb_hit (tc H17 fun _ H36 => tb fun _ H37 => (vc (W_end (en (Ka F23) fun A38 Y38 F38 => tk H37 (wp_block ?_))))))))
 -- loop 9
 have hrs : rs = rs2 := tk_all hz Zb Zb
 refine loopX (fun mz A' w' => SzN A' 114 ∧ A'.defers = [] ∧ (∃ (k : Nat), (mz = O.length - k) ∧ (k ≤ O.length) ∧ ((O.map ab).take k = (O2.map ab).take k) ∧ (EV A' (.tmp 6) = .int .i64 (k : Int)) ∧ (EV A' (.tmp 2) = EV A38 (.tmp 2)) ∧ (EV A' (.tmp 3) = EV A38 (.tmp 3)) ∧ (St w NoX [bx g3 30 #[ov2, rv2], bx g2 30 #[ov, rv]] w'))) (O.length - 0) ⟨Y38, F38.d, 0, rfl, Zb, rfl, ((fg0 F38).trans Za), rfl, rfl, (by subst hc3_20 hc2_20; exact S20)⟩ ?_
 clear S20 hc3_20 hc2_20
 rintro n39 A39 w39 ⟨Y39, hdf39, k, hm39, hk, hz, l6_39, u2_39, u3_39, S39⟩
 have l2_39 := u2_39.trans (fg3 F38)
 have l3_39 := u3_39.trans (fg2 F38)
 obtain ⟨c3_39, c2_39, hc3_39, hc2_39, S39⟩ := gen2 S39
 refine td fun _ H40 => tb fun _ H41 => (vm l6_39 (fa 0 (Sa l2_39) (rL ov t0 (S39.ob 1 hc2_39) (le_ t0 (sl_SlN h_ov.at) (vl (Sc t0) t0 (W_end (en (((((ck (cq4 (FS.n hdf39) V) V V)).c (es5 V l2_39)).c (es5 V l3_39)).c (Se l6_39)) fun A42 Y42 F42 => tk H41 (cd (fg3 F42) (fun c43 => ?_) fun c43 => ?_))))))))
 ·refine wp_skip (tc H40 fun _ H44 => wp_block (td fun _ H45 => ?_))
  have k46 : k < O.length := om
  obtain ⟨y46, hy46⟩ := get_some (xs := O) (k := k) k46
  obtain ⟨B46, O46, C46, hv46⟩ := (SlN.blk (sl_SlN h_ov.at) om)
  have fn47 : Ro w NoX (il .i64 y46.1.1 y46.1.2) := nst_ro1 n_ov hy46
  have bfn47 := SlN.le (sl_SlN (S39.ro fn47))
  have fn48 : Ro w NoX (il .u64 y46.2.1 y46.2.2) := nst_ro2 n_ov hy46
  have bfn48 := SlN.le (sl_SlN (S39.ro fn48))
  have k49 : k < O2.length := om
  obtain ⟨y49, hy49⟩ := get_some (xs := O2) (k := k) k49
  obtain ⟨B49, O49, C49, hv49⟩ := (SlN.blk (sl_SlN h_ov2.at) om)
  have fn50 : Ro w NoX (il .i64 y49.1.1 y49.1.2) := nst_ro1 n_ov2 hy49
  have bfn50 := SlN.le (sl_SlN (S39.ro fn50))
  have fn51 : Ro w NoX (il .u64 y49.2.1 y49.2.2) := nst_ro2 n_ov2 hy49
  have bfn51 := SlN.le (sl_SlN (S39.ro fn51))
  refine region_anyQ kr 14 V (fun w166 hx166 => ?_)
  have S166 := S39.grow hx166
  refine AX_parL (l0 := [c3_39, c2_39]) (k := 2) [⟨[], [], [52], fun vs => [], fun vs => (vs.getD 0 undef) = .pointer (some ⟨g2, 0, none⟩)⟩, ⟨[1], [], [53], fun vs => [], fun vs => (vs.getD 0 undef) = ov⟩, ⟨[], [], [54], fun vs => [], fun vs => (vs.getD 0 undef) = .int .i64 (k : Int)⟩, ⟨[], [], [55], fun vs => [], fun vs => (vs.getD 0 undef) = .pointer (some ⟨B46, O46 + k * 2, none⟩)⟩, ⟨[], [], [56], fun vs => [], fun vs => (vs.getD 0 undef) = .agg #[y46.1.1, y46.2.1]⟩, ⟨[], [], [57], fun vs => [], fun vs => (vs.getD 0 undef) = .pointer (some ⟨g3, 0, none⟩)⟩, ⟨[0], [], [58], fun vs => [], fun vs => (vs.getD 0 undef) = ov2⟩, ⟨[], [], [59], fun vs => [], fun vs => (vs.getD 0 undef) = .int .i64 (k : Int)⟩, ⟨[], [], [60], fun vs => [], fun vs => (vs.getD 0 undef) = .pointer (some ⟨B49, O49 + k * 2, none⟩)⟩, ⟨[], [], [61], fun vs => [], fun vs => (vs.getD 0 undef) = .agg #[y49.1.1, y49.2.1]⟩, ⟨[], [2], [7], fun vs => [bx (gOf (vs.getD 0 undef)) 70 #[.slice none 0 0, .slice none 0 0]], fun vs => (vs.getD 0 undef) = .pointer (some ⟨(gOf (vs.getD 0 undef)), 0, none⟩)⟩, ⟨[], [3], [8], fun vs => [bx (gOf (vs.getD 0 undef)) 70 #[.slice none 0 0, .slice none 0 0]], fun vs => (vs.getD 0 undef) = .pointer (some ⟨(gOf (vs.getD 0 undef)), 0, none⟩)⟩, ⟨[], [2], [7], fun vs => [bx (gOf (vs.getD 0 undef)) 70 #[y46.1.1, y46.2.1]], fun vs => True⟩, ⟨[], [3], [8], fun vs => [bx (gOf (vs.getD 0 undef)) 70 #[y49.1.1, y49.2.1]], fun vs => True⟩] [c3_39, c2_39, pu True, pu True] S166 V kr V ⟨?_, ?_, ?_, ?_, ?_, ?_, ?_, ?_, ?_, ?_, ?_, ?_, ?_, ?_, trivial⟩ ?_
  ·refine stepI [] (fun vs => []) V (fun a => by kernel_rfl) ?_
   intro A167 w167 rst hFr hF S167
   replace S167 : St w NoX [rst] w167 := S167
   have Y167 : SzN A167 114 := ⟨hFr.sz.trans Y42.out⟩
   have hdf167 : A167.defers = [] := hFr.df.trans F42.d
   have l2_167 := (oldS hFr 2 kr).trans (fg2 F42)
   refine fa 0 l2_167 (W_end (kq _ ?_))
   exact ⟨_, [.pointer (some ⟨g2, 0, none⟩)], rfl, ts1 (et V), rfl, rfl, S167⟩
  ·refine stepI [] (fun vs => [c2_39]) V (fun a => by kernel_rfl) ?_
   intro A168 w168 rst hFr hF S168
   replace S168 : St w NoX [c2_39, rst] w168 := S168
   have f52_168 : EV A168 (.tmp 52) = .pointer (some ⟨g2, 0, none⟩) := hF 0 kr
   generalize q52_168 : EV A168 (.tmp 52) = us52 at S168 f52_168
   have l52_168 := q52_168.trans f52_168
   have Y168 : SzN A168 114 := ⟨hFr.sz.trans Y42.out⟩
   have hdf168 : A168.defers = [] := hFr.df.trans F42.d
   obtain ⟨c2_168, hc2_168, S168⟩ := gen1 S168
   replace hc2_168 := hc2_168.trans hc2_39
   refine rL ov l52_168 (S168.ob 0 hc2_168) (W_end (kq _ ?_))
   subst q52_168
   exact ⟨_, [ov], rfl, ts1 (et V), rfl, rfl, by subst hc2_168 hc2_39; exact S168⟩
  ·refine stepI [] (fun vs => []) V (fun a => by kernel_rfl) ?_
   intro A169 w169 rst hFr hF S169
   replace S169 : St w NoX [rst] w169 := S169
   have Y169 : SzN A169 114 := ⟨hFr.sz.trans Y42.out⟩
   have hdf169 : A169.defers = [] := hFr.df.trans F42.d
   have l6_169 := (oldS hFr 6 kr).trans (fg0 F42)
   refine vm l6_169 (W_end (kq _ ?_))
   exact ⟨_, [.int .i64 (k : Int)], rfl, ts1 (et V), rfl, rfl, S169⟩
  ·refine stepI [] (fun vs => []) V (fun a => by kernel_rfl) ?_
   intro A170 w170 rst hFr hF S170
   replace S170 : St w NoX [rst] w170 := S170
   have f53_170 : EV A170 (.tmp 53) = ov := hF 1 kr
   have f54_170 : EV A170 (.tmp 54) = .int .i64 (k : Int) := hF 2 kr
   generalize q53_170 : EV A170 (.tmp 53) = us53 at S170 f53_170 f54_170
   generalize q54_170 : EV A170 (.tmp 54) = us54 at S170 f53_170 f54_170
   have l53_170 := q53_170.trans f53_170
   have l54_170 := q54_170.trans f54_170
   have Y170 : SzN A170 114 := ⟨hFr.sz.trans Y42.out⟩
   have hdf170 : A170.defers = [] := hFr.df.trans F42.d
   refine wv (V_ixS (off := O46 + k * 2) 2 k V l53_170 l54_170 hv46 Zb k46 Tryz.underlying28 kr V) (W_end (kq _ ?_))
   subst q53_170 q54_170
   exact ⟨_, [.pointer (some ⟨B46, O46 + k * 2, none⟩)], rfl, ts1 (et V), rfl, rfl, S170⟩
  ·refine stepI [] (fun vs => []) V (fun a => by kernel_rfl) ?_
   intro A172 w172 rst hFr hF S172
   replace S172 : St w NoX [rst] w172 := S172
   have f55_172 : EV A172 (.tmp 55) = .pointer (some ⟨B46, O46 + k * 2, none⟩) := hF 3 kr
   generalize q55_172 : EV A172 (.tmp 55) = us55 at S172 f55_172
   have l55_172 := q55_172.trans f55_172
   have Y172 : SzN A172 114 := ⟨hFr.sz.trans Y42.out⟩
   have hdf172 : A172.defers = [] := hFr.df.trans F42.d
   refine wr (VR_ldR (ys := obC y46) V l55_172 (SlN.row obC_len (sl_SlN (S172.ro h_ov)) hv46 hy46 V) Tryz.underlying70 V kr) (W_end (kq _ ?_))
   subst q55_172
   exact ⟨_, [.agg #[y46.1.1, y46.2.1]], rfl, ts1 (et V), rfl, rfl, S172⟩
  ·refine stepI [] (fun vs => []) V (fun a => by kernel_rfl) ?_
   intro A173 w173 rst hFr hF S173
   replace S173 : St w NoX [rst] w173 := S173
   have Y173 : SzN A173 114 := ⟨hFr.sz.trans Y42.out⟩
   have hdf173 : A173.defers = [] := hFr.df.trans F42.d
   have l3_173 := (oldS hFr 3 kr).trans (fg1 F42)
   refine fa 0 l3_173 (W_end (kq _ ?_))
   exact ⟨_, [.pointer (some ⟨g3, 0, none⟩)], rfl, ts1 (et V), rfl, rfl, S173⟩
  ·refine stepI [] (fun vs => [c3_39]) V (fun a => by kernel_rfl) ?_
   intro A174 w174 rst hFr hF S174
   replace S174 : St w NoX [c3_39, rst] w174 := S174
   have f57_174 : EV A174 (.tmp 57) = .pointer (some ⟨g3, 0, none⟩) := hF 5 kr
   generalize q57_174 : EV A174 (.tmp 57) = us57 at S174 f57_174
   have l57_174 := q57_174.trans f57_174
   have Y174 : SzN A174 114 := ⟨hFr.sz.trans Y42.out⟩
   have hdf174 : A174.defers = [] := hFr.df.trans F42.d
   obtain ⟨c3_174, hc3_174, S174⟩ := gen1 S174
   replace hc3_174 := hc3_174.trans hc3_39
   refine rL ov2 l57_174 (S174.ob 0 hc3_174) (W_end (kq _ ?_))
   subst q57_174
   exact ⟨_, [ov2], rfl, ts1 (et V), rfl, rfl, by subst hc3_174 hc3_39; exact S174⟩
  ·refine stepI [] (fun vs => []) V (fun a => by kernel_rfl) ?_
   intro A175 w175 rst hFr hF S175
   replace S175 : St w NoX [rst] w175 := S175
   have Y175 : SzN A175 114 := ⟨hFr.sz.trans Y42.out⟩
   have hdf175 : A175.defers = [] := hFr.df.trans F42.d
   have l6_175 := (oldS hFr 6 kr).trans (fg0 F42)
   refine vm l6_175 (W_end (kq _ ?_))
   exact ⟨_, [.int .i64 (k : Int)], rfl, ts1 (et V), rfl, rfl, S175⟩
  ·refine stepI [] (fun vs => []) V (fun a => by kernel_rfl) ?_
   intro A176 w176 rst hFr hF S176
   replace S176 : St w NoX [rst] w176 := S176
   have f58_176 : EV A176 (.tmp 58) = ov2 := hF 6 kr
   have f59_176 : EV A176 (.tmp 59) = .int .i64 (k : Int) := hF 7 kr
   generalize q58_176 : EV A176 (.tmp 58) = us58 at S176 f58_176 f59_176
   generalize q59_176 : EV A176 (.tmp 59) = us59 at S176 f58_176 f59_176
   have l58_176 := q58_176.trans f58_176
   have l59_176 := q59_176.trans f59_176
   have Y176 : SzN A176 114 := ⟨hFr.sz.trans Y42.out⟩
   have hdf176 : A176.defers = [] := hFr.df.trans F42.d
   refine wv (V_ixS (off := O49 + k * 2) 2 k V l58_176 l59_176 hv49 Zb k49 Tryz.underlying28 kr V) (W_end (kq _ ?_))
   subst q58_176 q59_176
   exact ⟨_, [.pointer (some ⟨B49, O49 + k * 2, none⟩)], rfl, ts1 (et V), rfl, rfl, S176⟩
  ·refine stepI [] (fun vs => []) V (fun a => by kernel_rfl) ?_
   intro A178 w178 rst hFr hF S178
   replace S178 : St w NoX [rst] w178 := S178
   have f60_178 : EV A178 (.tmp 60) = .pointer (some ⟨B49, O49 + k * 2, none⟩) := hF 8 kr
   generalize q60_178 : EV A178 (.tmp 60) = us60 at S178 f60_178
   have l60_178 := q60_178.trans f60_178
   have Y178 : SzN A178 114 := ⟨hFr.sz.trans Y42.out⟩
   have hdf178 : A178.defers = [] := hFr.df.trans F42.d
   refine wr (VR_ldR (ys := obC y49) V l60_178 (SlN.row obC_len (sl_SlN (S178.ro h_ov2)) hv49 hy49 V) Tryz.underlying70 V kr) (W_end (kq _ ?_))
   subst q60_178
   exact ⟨_, [.agg #[y49.1.1, y49.2.1]], rfl, ts1 (et V), rfl, rfl, S178⟩
  ·refine stepI [] (fun vs => [pu True]) V (fun a => by kernel_rfl) ?_
   intro A179 w179 rst hFr hF S179
   replace S179 : St w NoX [pu True, rst] w179 := S179
   have Y179 : SzN A179 114 := ⟨hFr.sz.trans Y42.out⟩
   have hdf179 : A179.defers = [] := hFr.df.trans F42.d
   obtain ⟨cz_179, hcz_179, S179⟩ := gen1 S179
   refine wA (#[.slice none 0 0, .slice none 0 0]) S179 (fun g180 w180 c180 hc180 S180 => ?_)
   replace S180 : St w NoX (c180 :: cz_179 :: [rst]) w180 := S180
   refine W_end (kq _ ?_)
   have S182 := S180.del 1
   replace S182 : St w NoX (c180 :: [rst]) w180 := S182
   exact ⟨_, [.pointer (some ⟨g180, 0, none⟩)], rfl, ts1 (et V), rfl, rfl, by subst hc180; exact S182⟩
  ·refine stepI [] (fun vs => [pu True]) V (fun a => by kernel_rfl) ?_
   intro A183 w183 rst hFr hF S183
   replace S183 : St w NoX [pu True, rst] w183 := S183
   have Y183 : SzN A183 114 := ⟨hFr.sz.trans Y42.out⟩
   have hdf183 : A183.defers = [] := hFr.df.trans F42.d
   obtain ⟨cz_183, hcz_183, S183⟩ := gen1 S183
   refine wA (#[.slice none 0 0, .slice none 0 0]) S183 (fun g184 w184 c184 hc184 S184 => ?_)
   replace S184 : St w NoX (c184 :: cz_183 :: [rst]) w184 := S184
   refine W_end (kq _ ?_)
   have S186 := S184.del 1
   replace S186 : St w NoX (c184 :: [rst]) w184 := S186
   exact ⟨_, [.pointer (some ⟨g184, 0, none⟩)], rfl, ts1 (et V), rfl, rfl, by subst hc184; exact S186⟩
  ·refine stepI [7] (fun vs => [bx (gOf (vs.getD 0 undef)) 70 #[.slice none 0 0, .slice none 0 0]]) V (fun a => by kernel_rfl) ?_
   intro A187 w187 rst hFr hF S187
   replace S187 : St w NoX [bx (gOf (EV A187 (.tmp 7))) 70 #[.slice none 0 0, .slice none 0 0], rst] w187 := S187
   have f7_187 : EV A187 (.tmp 7) = .pointer (some ⟨(gOf (EV A187 (.tmp 7))), 0, none⟩) := hF 10 kr
   have f56_187 : EV A187 (.tmp 56) = .agg #[y46.1.1, y46.2.1] := hF 4 kr
   generalize q7_187 : EV A187 (.tmp 7) = us7 at S187 f7_187 f56_187
   generalize q56_187 : EV A187 (.tmp 56) = us56 at S187 f7_187 f56_187
   have l7_187 := q7_187.trans f7_187
   have l56_187 := q56_187.trans f56_187
   have Y187 : SzN A187 114 := ⟨hFr.sz.trans Y42.out⟩
   have hdf187 : A187.defers = [] := hFr.df.trans F42.d
   obtain ⟨c108_187, hc108_187, S187⟩ := gen1 S187
   refine xsB 0 S187 V hc108_187 V V V l7_187 l56_187 (by simp only [List.all_toArray, List.all_cons, List.all_nil, obC, SlN_one (sl_SlN fn47.at), SlN_one (sl_SlN fn48.at)] <;> rfl) (fun w188 c188 hc188 S188 => ?_)
   replace S188 : St w NoX (c188 :: [rst]) w188 := S188
   refine W_end (kq _ ?_)
   subst q7_187 q56_187
   exact ⟨undef, [EV A187 (.tmp 7)], rfl, ts1 rfl, trivial, rfl, by subst hc188; exact S188⟩
  ·refine stepI [8] (fun vs => [bx (gOf (vs.getD 0 undef)) 70 #[.slice none 0 0, .slice none 0 0]]) V (fun a => by kernel_rfl) ?_
   intro A189 w189 rst hFr hF S189
   replace S189 : St w NoX [bx (gOf (EV A189 (.tmp 8))) 70 #[.slice none 0 0, .slice none 0 0], rst] w189 := S189
   have f8_189 : EV A189 (.tmp 8) = .pointer (some ⟨(gOf (EV A189 (.tmp 8))), 0, none⟩) := hF 11 kr
   have f61_189 : EV A189 (.tmp 61) = .agg #[y49.1.1, y49.2.1] := hF 9 kr
   generalize q8_189 : EV A189 (.tmp 8) = us8 at S189 f8_189 f61_189
   generalize q61_189 : EV A189 (.tmp 61) = us61 at S189 f8_189 f61_189
   have l8_189 := q8_189.trans f8_189
   have l61_189 := q61_189.trans f61_189
   have Y189 : SzN A189 114 := ⟨hFr.sz.trans Y42.out⟩
   have hdf189 : A189.defers = [] := hFr.df.trans F42.d
   obtain ⟨c109_189, hc109_189, S189⟩ := gen1 S189
   refine xsB 0 S189 V hc109_189 V V V l8_189 l61_189 (by simp only [List.all_toArray, List.all_cons, List.all_nil, obC, SlN_one (sl_SlN fn50.at), SlN_one (sl_SlN fn51.at)] <;> rfl) (fun w190 c190 hc190 S190 => ?_)
   replace S190 : St w NoX (c190 :: [rst]) w190 := S190
   refine W_end (kq _ ?_)
   subst q8_189 q61_189
   exact ⟨undef, [EV A189 (.tmp 8)], rfl, ts1 rfl, trivial, rfl, by subst hc190; exact S190⟩
  intro A191 w191 hFr hF S191
  replace S191 : St w NoX [c3_39, c2_39, bx (gOf (EV A191 (.tmp 7))) 70 #[y46.1.1, y46.2.1], bx (gOf (EV A191 (.tmp 8))) 70 #[y49.1.1, y49.2.1]] w191 := S191.cast kr
  have f7_191 : EV A191 (.tmp 7) = .pointer (some ⟨(gOf (EV A191 (.tmp 7))), 0, none⟩) := hF 10 Zg
  have f8_191 : EV A191 (.tmp 8) = .pointer (some ⟨(gOf (EV A191 (.tmp 8))), 0, none⟩) := hF 11 Zg
  generalize q7_191 : EV A191 (.tmp 7) = us7 at S191 f7_191 f8_191
  generalize q8_191 : EV A191 (.tmp 8) = us8 at S191 f7_191 f8_191
  have l7_191 := q7_191.trans f7_191
  have l8_191 := q8_191.trans f8_191
  have Y191 : SzN A191 114 := ⟨hFr.sz.trans Y42.out⟩
  have hdf191 : A191.defers = [] := hFr.df.trans F42.d
  obtain ⟨c3_191, c2_191, c110_191, c111_191, hc3_191, hc2_191, hc110_191, hc111_191, S191⟩ := gen4 S191
  replace hc3_191 := hc3_191.trans hc3_39
  replace hc2_191 := hc2_191.trans hc2_39
  have l2_191 := (oldS hFr 2 kr).trans (fg2 F42)
  have l3_191 := (oldS hFr 3 kr).trans (fg1 F42)
  have l6_191 := (oldS hFr 6 kr).trans (fg0 F42)
  clear Y42 F42 S39
  refine Qo_normal (tc H45 fun _ H192 => tb fun _ H193 => (fa 0 l7_191 (rL y46.1.1 t0 (S191.ob 2 hc110_191) (le_ t0 (sl_SlN fn47.at) (fa 0 (Sc l8_191) (rL y49.1.1 t0 (S191.ob 3 hc111_191) (le_ t0 (sl_SlN fn50.at) (vn (Sc t0) t0 (W_split V V (V_mov V t0) (fun c194 => ?_) (fun c194 => ?_))))))))))
  ·refine xo V t0 (xo V (Sa t0) (xo V (Sb t0) (xo V (Sc t0) (xo V (Sd t0) (xo V (Se t0) (xo V (Sf t0) (vT (Sg t0) V (W_end (en (((((((ck (ck (ck (ck (ck (ck (ck (ck (cq8 (FS.n hdf191) V) V V) V V) V V) V V) V V) V V) V V) V V)).c ((es8 V (es8 V l2_191)))).c ((es8 V (es8 V l3_191)))).c ((es8 V (es8 V l6_191)))).c ((es8 V (es8 V l7_191)))).c ((Sh (Sh l8_191)))) fun A195 _ F195 => tk H193 (cond_t (fg5 F195) (tb fun _ H196 => (vc (W_end (en (Ka F195) fun A197 _ F197 => tk H196 (wp_ret (then_ret (inb_ret (then_ret (then_ret (inb_ret (then_ret (rt1 F197 (rv_tmp (fg0 F197)) ?_))))))))))))))))))))))
   rw [show smG (O.map ab) rs (O2.map ab) rs2 = false from decide_eq_false (fun q => by have h1 := congrArg List.length (mp_get q.1 hy46 hy49).1; have h2 := congrArg List.length (mp_get q.1 hy46 hy49).2; have hc := c194; omega)]
   exact ⟨rfl, S191.fin0⟩
  refine wg V t0 (ufa 1 (Sh l7_191)) (wq V (Sa t0) (urL y46.2.1 t0 (S191.ob 2 hc110_191)) (wg V (Sb t0) (ule_ t0 (sl_SlN fn48.at)) (wg V (Sc t0) (ufa 1 (Sh (Sc l8_191))) (wq V (Sd t0) (urL y49.2.1 t0 (S191.ob 3 hc111_191)) (wg V (Se t0) (ule_ t0 (sl_SlN fn51.at)) (wg V (Sf t0) (uvn (Sc t0) t0) (vF (Sg t0) t0 (W_end (en (((((((ck (ck (ck (ck (ck (ck (ck (ck (cq8 (FS.n hdf191) V) V V) V V) V V) V V) V V) V V) V V) V V)).c ((es8 V (es8 V l2_191)))).c ((es8 V (es8 V l3_191)))).c ((es8 V (es8 V l6_191)))).c ((es8 V (es8 V l7_191)))).c ((Sh (Sh l8_191)))) fun A199 _ F199 => tk H193 (cd (fg5 F199) (fun c200 => ?_) fun c200 => ?_))))))))))
  ·refine tb fun _ H201 => (vc (W_end (en (Ka F199) fun A202 _ F202 => tk H201 (wp_ret (then_ret (inb_ret (then_ret (then_ret (inb_ret (then_ret (rt1 F202 (rv_tmp (fg0 F202)) ?_)))))))))))
   rw [show smG (O.map ab) rs (O2.map ab) rs2 = false from decide_eq_false (fun q => by have h1 := congrArg List.length (mp_get q.1 hy46 hy49).1; have h2 := congrArg List.length (mp_get q.1 hy46 hy49).2; have hc := c200; omega)]
   exact ⟨rfl, S191.fin0⟩
  refine wp_skip (tc H192 fun _ H204 => tb fun _ H205 => (vc (W_end (en (Ka F199) fun A206 Y206 F206 => tk H205 (wp_block ?_)))))
  -- loop 15
  refine loopX (fun mz A' w' => SzN A' 114 ∧ A'.defers = [] ∧ (∃ (m : Nat), (mz = y46.1.2.length - m) ∧ (m ≤ y46.1.2.length) ∧ (y46.1.2.take m = y49.1.2.take m) ∧ (EV A' (.tmp 9) = .int .i64 (m : Int)) ∧ (EV A' (.tmp 2) = EV A206 (.tmp 2)) ∧ (EV A' (.tmp 3) = EV A206 (.tmp 3)) ∧ (EV A' (.tmp 6) = EV A206 (.tmp 6)) ∧ (EV A' (.tmp 7) = EV A206 (.tmp 7)) ∧ (EV A' (.tmp 8) = EV A206 (.tmp 8)) ∧ (EV A' (.tmp 70) = EV A206 (.tmp 70)) ∧ (EV A' (.tmp 71) = EV A206 (.tmp 71)) ∧ (EV A' (.tmp 72) = EV A206 (.tmp 72)) ∧ (EV A' (.tmp 73) = EV A206 (.tmp 73)) ∧ (EV A' (.tmp 74) = EV A206 (.tmp 74)) ∧ (EV A' (.tmp 75) = EV A206 (.tmp 75)) ∧ (EV A' (.tmp 76) = EV A206 (.tmp 76)) ∧ (St w NoX [bx g3 30 #[ov2, rv2], bx g2 30 #[ov, rv], bx (gOf us7) 70 #[y46.1.1, y46.2.1], bx (gOf us8) 70 #[y49.1.1, y49.2.1]] w'))) (y46.1.2.length - 0) ⟨Y206, F206.d, 0, rfl, Zb, rfl, ((fg0 F206).trans Za), rfl, rfl, rfl, rfl, rfl, rfl, rfl, rfl, rfl, rfl, rfl, rfl, (by subst hc3_191 hc2_191 hc110_191 hc111_191; exact S191)⟩ ?_
  clear S191 hc3_191 hc2_191 hc110_191 hc111_191
  rintro n207 A207 w207 ⟨Y207, hdf207, m, hm207, hm, hzi, l9_207, u2_207, u3_207, u6_207, u7_207, u8_207, u70_207, u71_207, u72_207, u73_207, u74_207, u75_207, u76_207, S207⟩
  have l2_207 := u2_207.trans (fg5 F206)
  have l3_207 := u3_207.trans (fg4 F206)
  have l6_207 := u6_207.trans (fg3 F206)
  have l7_207 := u7_207.trans (fg2 F206)
  have l8_207 := u8_207.trans (fg1 F206)
  have l70_207 := u70_207.trans (fg13 F206)
  have l71_207 := u71_207.trans (fg12 F206)
  have l72_207 := u72_207.trans (fg11 F206)
  have l73_207 := u73_207.trans (fg10 F206)
  have l74_207 := u74_207.trans (fg9 F206)
  have l75_207 := u75_207.trans (fg8 F206)
  have l76_207 := u76_207.trans (fg7 F206)
  obtain ⟨c3_207, c2_207, c110_207, c111_207, hc3_207, hc2_207, hc110_207, hc111_207, S207⟩ := gen4 S207
  refine td fun _ H208 => tb fun _ H209 => (vm l9_207 (fa 0 (Sa l7_207) (rL y46.1.1 t0 (S207.ob 2 hc110_207) (le_ t0 (sl_SlN fn47.at) (vl (Sc t0) t0 (W_end (en (((((((((((((((ck (cq4 (FS.n hdf207) V) V V)).c (es5 V l2_207)).c (es5 V l3_207)).c (es5 V l6_207)).c (es5 V l7_207)).c (es5 V l8_207)).c (es5 V l9_207)).c (es5 V l70_207)).c (es5 V l71_207)).c (es5 V l72_207)).c (es5 V l73_207)).c (es5 V l74_207)).c (es5 V l75_207)).c (Se l76_207)) fun A210 _ F210 => tk H209 (cd (fg13 F210) (fun c211 => ?_) fun c211 => ?_))))))))
  ·refine wp_skip (tc H208 fun _ H212 => wp_block (td fun _ H213 => region_monoS 11 11 [] kr kr (df 0 (fg9 F210) (dr (fun _ hx _ => (urc t0 (cell_box (v := y46.1.1) ((S207.grow hx).ob 2 hc110_207) V))) (dm (Sb (fg7 F210)) ?_)))))
   have k214 : m < y46.1.2.length := om
   obtain ⟨y214, hy214⟩ := get_some (xs := y46.1.2) (k := m) k214
   obtain ⟨B214, O214, C214, hv214⟩ := (SlN.blk (sl_SlN fn47.at) om)
   refine dv (V_ixS (off := O214 + m) 1 m V (Sa t0) t0 hv214 Zb k214 Tryz.underlying25 kr (congrArg _ (Nat.mul_one _))) (dr (fun _ hx _ => (urc t0 ((sl_SlN ((S207.grow hx).ro fn47)).cell hv214 (map_get hy214)))) (df 0 (Se (fg8 F210)) (dr (fun _ hx _ => (urc t0 (cell_box (v := y49.1.1) ((S207.grow hx).ob 3 hc111_207) V))) (dm (Sg (fg7 F210)) ?_))))
   have k215 : m < y49.1.2.length := om
   obtain ⟨y215, hy215⟩ := get_some (xs := y49.1.2) (k := m) k215
   obtain ⟨B215, O215, C215, hv215⟩ := (SlN.blk (sl_SlN fn50.at) om)
   refine dv (V_ixS (off := O215 + m) 1 m V (Sa t0) t0 hv215 Zb k215 Tryz.underlying25 kr (congrArg _ (Nat.mul_one _))) (dr (fun _ hx _ => (urc t0 ((sl_SlN ((S207.grow hx).ro fn50)).cell hv215 (map_get hy215)))) (dv (uvn (Se t0) t0) (ZS_none S207 (Nat.le_refl _) (Nat.le_refl _) (fun s216 hJ216 hL216 hF216 => ?_))))
   have S216 := hJ216.st; clear hF216 hJ216 hL216
   generalize s216.1 = w216 at *
   replace S216 : St w NoX [c3_207, c2_207, c110_207, c111_207] w216 := S216
   refine en (Ka (Qb (Qh F210))) fun A217 _ F217 => tk H213 (cd (fg0 F217) (fun c218 => ?_) fun c218 => ?_)
   ·refine tb fun _ H219 => (vc (W_end (en (Ka F217) fun A220 _ F220 => tk H219 (wp_ret (inb_ret (then_ret (then_ret (inb_ret (then_ret (inb_ret (then_ret (then_ret (inb_ret (then_ret (rt1 F220 (rv_tmp (fg0 F220)) ?_)))))))))))))))
    rw [show smG (O.map ab) rs (O2.map ab) rs2 = false from decide_eq_false (fun q => tk_ne hy214 hy215 (by have hc := c218; omega) (mp_get q.1 hy46 hy49).1)]
    exact ⟨rfl, S216.fin0⟩
   refine wp_skip (inb_n (tk H212 (region_in (vm (fg8 F217) (ad t0 V (vt (W_end (en (Ka (Qb (fx8 F217))) fun A222 Y222 F222 => then_n ⟨y46.1.2.length - (m + 1), by simp only [hm207]; omega, Y222, F222.d, (m + 1), rfl, Zb, (tk_step hzi hy214 hy215 (by have hc := c218; omega)), ((fg0 F222).trans Za), ((fg13 F222).trans (fg5 F206).symm), ((fg12 F222).trans (fg4 F206).symm), ((fg11 F222).trans (fg3 F206).symm), ((fg10 F222).trans (fg2 F206).symm), ((fg9 F222).trans (fg1 F206).symm), ((fg8 F222).trans (fg13 F206).symm), ((fg7 F222).trans (fg12 F206).symm), ((fg6 F222).trans (fg11 F206).symm), ((fg5 F222).trans (fg10 F206).symm), ((fg4 F222).trans (fg9 F206).symm), ((fg3 F222).trans (fg8 F206).symm), ((fg2 F222).trans (fg7 F206).symm), (by subst hc3_207 hc2_207 hc110_207 hc111_207; exact S216)⟩))))))))
  refine wp_exit (then_exit (then_exit (inb_hit (ta H204 fun _ H223 => (vc (W_end (en (Ka F210) fun A224 Y224 F224 => tk H223 (wp_block ?_))))))))
  -- loop 20
  have hps : y46.1.2 = y49.1.2 := tk_all hzi Zb Zb
  refine loopX (fun mz A' w' => SzN A' 114 ∧ A'.defers = [] ∧ (∃ (m : Nat), (mz = y46.2.2.length - m) ∧ (m ≤ y46.2.2.length) ∧ (y46.2.2.take m = y49.2.2.take m) ∧ (EV A' (.tmp 10) = .int .i64 (m : Int)) ∧ (EV A' (.tmp 2) = EV A224 (.tmp 2)) ∧ (EV A' (.tmp 3) = EV A224 (.tmp 3)) ∧ (EV A' (.tmp 6) = EV A224 (.tmp 6)) ∧ (EV A' (.tmp 7) = EV A224 (.tmp 7)) ∧ (EV A' (.tmp 8) = EV A224 (.tmp 8)) ∧ (EV A' (.tmp 70) = EV A224 (.tmp 70)) ∧ (EV A' (.tmp 71) = EV A224 (.tmp 71)) ∧ (EV A' (.tmp 72) = EV A224 (.tmp 72)) ∧ (EV A' (.tmp 73) = EV A224 (.tmp 73)) ∧ (EV A' (.tmp 74) = EV A224 (.tmp 74)) ∧ (EV A' (.tmp 75) = EV A224 (.tmp 75)) ∧ (EV A' (.tmp 76) = EV A224 (.tmp 76)) ∧ (St w NoX [bx g3 30 #[ov2, rv2], bx g2 30 #[ov, rv], bx (gOf us7) 70 #[y46.1.1, y46.2.1], bx (gOf us8) 70 #[y49.1.1, y49.2.1]] w'))) (y46.2.2.length - 0) ⟨Y224, F224.d, 0, rfl, Zb, rfl, ((fg0 F224).trans Za), rfl, rfl, rfl, rfl, rfl, rfl, rfl, rfl, rfl, rfl, rfl, rfl, (by subst hc3_207 hc2_207 hc110_207 hc111_207; exact S207)⟩ ?_
  clear S207 hc3_207 hc2_207 hc110_207 hc111_207
  rintro n225 A225 w225 ⟨Y225, hdf225, m, hm225, hm, hzi, l10_225, u2_225, u3_225, u6_225, u7_225, u8_225, u70_225, u71_225, u72_225, u73_225, u74_225, u75_225, u76_225, S225⟩
  have l2_225 := u2_225.trans (fg13 F224)
  have l3_225 := u3_225.trans (fg12 F224)
  have l6_225 := u6_225.trans (fg11 F224)
  have l7_225 := u7_225.trans (fg10 F224)
  have l8_225 := u8_225.trans (fg9 F224)
  have l70_225 := u70_225.trans (fg7 F224)
  have l71_225 := u71_225.trans (fg6 F224)
  have l72_225 := u72_225.trans (fg5 F224)
  have l73_225 := u73_225.trans (fg4 F224)
  have l74_225 := u74_225.trans (fg3 F224)
  have l75_225 := u75_225.trans (fg2 F224)
  have l76_225 := u76_225.trans (fg1 F224)
  obtain ⟨c3_225, c2_225, c110_225, c111_225, hc3_225, hc2_225, hc110_225, hc111_225, S225⟩ := gen4 S225
  refine td fun _ H226 => tb fun _ H227 => (vm l10_225 (fa 1 (Sa l7_225) (rL y46.2.1 t0 (S225.ob 2 hc110_225) (le_ t0 (sl_SlN fn48.at) (vl (Sc t0) t0 (W_end (en (((((((((((((((ck (cq4 (FS.n hdf225) V) V V)).c (es5 V l2_225)).c (es5 V l3_225)).c (es5 V l6_225)).c (es5 V l7_225)).c (es5 V l8_225)).c (es5 V l10_225)).c (es5 V l70_225)).c (es5 V l71_225)).c (es5 V l72_225)).c (es5 V l73_225)).c (es5 V l74_225)).c (es5 V l75_225)).c (Se l76_225)) fun A228 _ F228 => tk H227 (cd (fg13 F228) (fun c229 => ?_) fun c229 => ?_))))))))
  ·refine wp_skip (tc H226 fun _ H230 => wp_block (td fun _ H231 => region_monoS 11 11 [] kr kr (df 1 (fg9 F228) (dr (fun _ hx _ => (urc t0 (cell_box (v := y46.2.1) ((S225.grow hx).ob 2 hc110_225) V))) (dm (Sb (fg7 F228)) ?_)))))
   have k232 : m < y46.2.2.length := om
   obtain ⟨y232, hy232⟩ := get_some (xs := y46.2.2) (k := m) k232
   obtain ⟨B232, O232, C232, hv232⟩ := (SlN.blk (sl_SlN fn48.at) om)
   refine dv (V_ixS (off := O232 + m) 1 m V (Sa t0) t0 hv232 Zb k232 Tryz.underlying68 kr (congrArg _ (Nat.mul_one _))) (dr (fun _ hx _ => (urc t0 ((sl_SlN ((S225.grow hx).ro fn48)).cell hv232 (map_get hy232)))) (df 1 (Se (fg8 F228)) (dr (fun _ hx _ => (urc t0 (cell_box (v := y49.2.1) ((S225.grow hx).ob 3 hc111_225) V))) (dm (Sg (fg7 F228)) ?_))))
   have k233 : m < y49.2.2.length := om
   obtain ⟨y233, hy233⟩ := get_some (xs := y49.2.2) (k := m) k233
   obtain ⟨B233, O233, C233, hv233⟩ := (SlN.blk (sl_SlN fn51.at) om)
   refine dv (V_ixS (off := O233 + m) 1 m V (Sa t0) t0 hv233 Zb k233 Tryz.underlying68 kr (congrArg _ (Nat.mul_one _))) (dr (fun _ hx _ => (urc t0 ((sl_SlN ((S225.grow hx).ro fn51)).cell hv233 (map_get hy233)))) (dv (uvn (Se t0) t0) (ZS_none S225 (Nat.le_refl _) (Nat.le_refl _) (fun s234 hJ234 hL234 hF234 => ?_))))
   have S234 := hJ234.st; clear hF234 hJ234 hL234
   generalize s234.1 = w234 at *
   replace S234 : St w NoX [c3_225, c2_225, c110_225, c111_225] w234 := S234
   refine en (Ka (Qb (Qh F228))) fun A235 _ F235 => tk H231 (cd (fg0 F235) (fun c236 => ?_) fun c236 => ?_)
   ·refine tb fun _ H237 => (vc (W_end (en (Ka F235) fun A238 _ F238 => tk H237 (wp_ret (inb_ret (then_ret (then_ret (inb_ret (inb_ret (then_ret (then_ret (inb_ret (then_ret (rt1 F238 (rv_tmp (fg0 F238)) ?_))))))))))))))
    rw [show smG (O.map ab) rs (O2.map ab) rs2 = false from decide_eq_false (fun q => tk_ne hy232 hy233 (by have hc := c236; omega) (mp_get q.1 hy46 hy49).2)]
    exact ⟨rfl, S234.fin0⟩
   refine wp_skip (inb_n (tk H230 (region_in (vm (fg8 F235) (ad t0 V (vt (W_end (en (Ka (Qb (fx8 F235))) fun A240 Y240 F240 => then_n ⟨y46.2.2.length - (m + 1), by simp only [hm225]; omega, Y240, F240.d, (m + 1), rfl, Zb, (tk_step hzi hy232 hy233 (by have hc := c236; omega)), ((fg0 F240).trans Za), ((fg13 F240).trans (fg13 F224).symm), ((fg12 F240).trans (fg12 F224).symm), ((fg11 F240).trans (fg11 F224).symm), ((fg10 F240).trans (fg10 F224).symm), ((fg9 F240).trans (fg9 F224).symm), ((fg8 F240).trans (fg7 F224).symm), ((fg7 F240).trans (fg6 F224).symm), ((fg6 F240).trans (fg5 F224).symm), ((fg5 F240).trans (fg4 F224).symm), ((fg4 F240).trans (fg3 F224).symm), ((fg3 F240).trans (fg2 F224).symm), ((fg2 F240).trans (fg1 F224).symm), (by subst hc3_225 hc2_225 hc110_225 hc111_225; exact S234)⟩))))))))
  refine wp_exit (then_exit (then_exit (inb_hit (inb_n (tk H44 (region_in (vm (fg10 F228) (ad t0 V (vt (W_end (en (Ka (Qb (fx10 F228))) fun A241 Y241 F241 => ?_)))))))))))
  have S242 := S225.se [0, 1] [c3_225, c2_225]
  refine then_n ⟨O.length - (k + 1), by simp only [hm39]; omega, Y241, F241.d, (k + 1), rfl, Zb, (mp_step hz hy46 hy49 hps (tk_all hzi Zb Zb)), ((fg0 F241).trans Za), ((fg12 F241).trans (fg3 F38).symm), ((fg11 F241).trans (fg2 F38).symm), (by subst hc3_225 hc2_225; exact S242)⟩
 refine wp_exit (then_exit (then_exit (inb_hit (ta H36 fun _ H243 => (vc (W_end (en (Ka F42) fun A244 _ F244 => tk H243 (wp_ret (rt1 F244 (rv_tmp (fg0 F244)) ?_)))))))))
 rw [show smG (O.map ab) rs (O2.map ab) rs2 = true from decide_eq_true ⟨tk_all hz (by simp only [List.length_map]; omega) (by simp only [List.length_map]; omega), hrs⟩]
 exact ⟨rfl, S39.fin0⟩

end Go.Proofs.YtpgkfndbfocibaaGreat