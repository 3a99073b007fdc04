import Derived.Test.YtpgkfndbfocibaaGreatProg
import Derived.Test.YtpgkfndbfocibaaGreatSqL
import Derived.Test.YtpgkfndbfocibaaGreatPl29
import Derived.Test.YtpgkfndbfocibaaGreatPl15c
import Derived.Test.YtpgkfndbfocibaaGreatSepE
import Derived.Test.YtpgkfndbfocibaaGreatSepU
import Derived.Test.YtpgkfndbfocibaaGreatSepX
import Derived.Test.YtpgkfndbfocibaaGreatSepT2
import Derived.Test.YtpgkfndbfocibaaGreatPl29b
import Derived.Test.YtpgkfndbfocibaaGreatPl29c
import Derived.Test.YtpgkfndbfocibaaGreatPl29d
import Derived.Test.YtpgkfndbfocibaaGreatGen
import Derived.Test.YtpgkfndbfocibaaGreatSep8
import Derived.Test.YtpgkfndbfocibaaGreatSep29
namespace Go.Proofs.YtpgkfndbfocibaaGreat
open Go.RowKit Go.Own Go.Own.R Go.Own.G Go.Own.Gr Go.Own.Ml


set_option maxHeartbeats 4000000 in
theorem qpln_c {b : Int} {w : World}   :
  Calls Tryz.prog 129 #[.int .u8 b] w fun e w' => e = .returned (.bool (decide (32 ≤ b ∧ b ≤ 126 ∧ b ≠ 34 ∧ b ≠ 92))) ∧ St w NoX [] w' := by
 refine ci1 17 Tryz.func129 V (fun A0 _ F0 => ?_)
 have hS := St.nil w
 refine tb fun _ H1 => (vc (W_end (en (Qa F0) fun A2 _ F2 => ta H1 fun _ H3 => (vm (fg0 F2) (vh t0 V (W_split V V (V_mov V t0) (fun c4 => ?_) (fun c4 => ?_)))))))
 ·refine wg V t0 (uvm (Sc (fg0 F2))) (wg V (Sa t0) (uvk t0 V) (vT (Sb t0) t0 (W_split V V (V_mov V t0) (fun c5 => ?_) (fun c5 => ?_))))
  ·refine wg V t0 (uvm (Sg (fg0 F2))) (wg V (Sa t0) (uvn t0 V) (vT (Sb t0) t0 (W_split V V (V_mov V t0) (fun c6 => ?_) (fun c6 => ?_))))
   ·refine wg V t0 (uvm (Sh (Sc (fg0 F2)))) (wg V (Sa t0) (uvn t0 V) (vT (Sb t0) t0 (vt (W_end (en (Ka (Qf (Qh F2))) fun A7 _ F7 => tk H3 (wp_ret (rt1 F7 (rv_tmp (fg0 F7)) ?_)))))))
    rw [show (decide (32 ≤ b ∧ b ≤ 126 ∧ b ≠ 34 ∧ b ≠ 92)) = decide (b ≠ 92) by exact decide_eq_decide.2 Zb]
    exact ⟨rfl, hS.fin0⟩
   refine xo V t0 (xo V (Sa t0) (vF (Sb t0) V (vt (W_end (en (Ka (Qf (Qh F2))) fun A8 _ F8 => tk H3 (wp_ret (rt1 F8 (rv_tmp (fg0 F8)) ?_)))))))
   rw [show (decide (32 ≤ b ∧ b ≤ 126 ∧ b ≠ 34 ∧ b ≠ 92)) = false by exact decide_eq_false Zb]
   exact ⟨rfl, hS.fin0⟩
  refine xo V t0 (xo V (Sa t0) (vF (Sb t0) V (vm t0 (xo V t0 (xo V (Sa t0) (vF (Sb t0) V (vt (W_end (en (Ka (Qf (Qh F2))) fun A9 _ F9 => tk H3 (wp_ret (rt1 F9 (rv_tmp (fg0 F9)) ?_)))))))))))
  rw [show (decide (32 ≤ b ∧ b ≤ 126 ∧ b ≠ 34 ∧ b ≠ 92)) = false by exact decide_eq_false Zb]
  exact ⟨rfl, hS.fin0⟩
 refine xo V t0 (xo V (Sa t0) (vF (Sb t0) V (vm t0 (xo V t0 (xo V (Sa t0) (vF (Sb t0) V (vm t0 (xo V t0 (xo V (Sa t0) (vF (Sb t0) V (vt (W_end (en (Ka (Qf (Qh F2))) fun A10 _ F10 => tk H3 (wp_ret (rt1 F10 (rv_tmp (fg0 F10)) ?_)))))))))))))))
 rw [show (decide (32 ≤ b ∧ b ≤ 126 ∧ b ≠ 34 ∧ b ≠ 92)) = false by exact decide_eq_false Zb]
 exact ⟨rfl, hS.fin0⟩

set_option maxHeartbeats 4000000 in
theorem qbar_c {l : List UInt8} {w : World}  (hll : l.length ≤ 1048576) :
  Calls Tryz.prog 119 #[(stv l)] w fun e w' => e = .returned (.bool (barB l)) ∧ St w NoX [] w' := by
 refine ci1 24 Tryz.func119 V (fun A0 _ F0 => ?_)
 have hS := St.nil w
 refine tb fun _ H1 => (vc (W_end (en (Qa F0) fun A2 _ F2 => tc H1 fun _ H3 => tb fun _ H4 => (vc (W_end (en (Ka F2) fun A5 Y5 F5 => tk H4 (wp_block ?_)))))))
 -- loop 2
 refine loopX (fun mz A' w' => SzN A' 24 ∧ A'.defers = [] ∧ (∃ (k : Nat), (mz = l.length - k) ∧ (k ≤ l.length) ∧ (∀ i, i < k → ∀ b, l[i]? = some b → okB b) ∧ (EV A' (.tmp 3) = .int .i64 (k : Int)) ∧ (EV A' (.tmp 0) = EV A5 (.tmp 0)) ∧ (St w NoX [] w'))) (l.length - 0) ⟨Y5, F5.d, 0, rfl, Zb, (fun i hi => by omega), ((fg0 F5).trans Za), rfl, hS⟩ ?_
 clear hS
 rintro n6 A6 w6 ⟨Y6, hdf6, k, hm6, hk, hz, l3_6, u0_6, S6⟩
 have l0_6 := u0_6.trans (fg1 F5)
 refine td fun _ H7 => tb fun _ H8 => (vm l3_6 (vm (Sa l0_6) (wv (V_lenT V t0 Tryz.underlying9) (vl (Sb t0) t0 (W_end (en ((((ck (cq3 (FS.n hdf6) V) V V)).c (es4 V l0_6)).c (Sd l3_6)) fun A9 _ F9 => tk H8 (cd (fg2 F9) (fun c10 => ?_) fun c10 => ?_)))))))
 ·refine wp_skip (tc H7 fun _ H11 => wp_block (tb fun _ H12 => (vm (fg1 F9) (vm (Sa (fg0 F9)) ?_))))
  have k13 : k < l.length := Zh
  obtain ⟨y13, hy13⟩ := get_some (xs := l) (k := k) k13
  have hu13 := y13.toNat_lt
  refine wv (V_idxT V (Sa t0) t0 Zb hy13 Tryz.underlying9) (wc (args1 t0) (qpln_c (b := (y13.toNat : Int))) (C0 S6 fun w14 S14 => wv (V_notd V t0) (W_split V V (V_mov V t0) (fun c15 => ?_) (fun c15 => ?_))))
  ·refine xo V t0 (xo V (Sa t0) (xo V (Sb t0) (xo V (Sc t0) (vT (Sd t0) V (W_end (en (Ke (Qf F9)) fun A16 _ F16 => tk H12 (cond_t (fg0 F16) (tb fun _ H17 => (vc (W_end (en (Ka F16) fun A18 _ F18 => tk H17 (wp_ret (inb_ret (then_ret (then_ret (inb_ret (then_ret (rt1 F18 (rv_tmp (fg0 F18)) ?_))))))))))))))))))
   rw [show barB l = false from bar_no hy13 (by unfold okB; omega)]
   exact ⟨rfl, S14.fin0⟩
  refine wg V t0 (uvm (Sf (fg1 F9))) (wg V (Sa t0) (uvm (Sg (fg0 F9))) (wg V (Sb t0) (V_idxT V (Sa t0) t0 Zb hy13 Tryz.underlying9) (wg V (Sc t0) (uve t0 V) (vF (Sd t0) t0 (W_end (en (Ke (Qf F9)) fun A20 _ F20 => tk H12 (cd (fg0 F20) (fun c21 => ?_) fun c21 => ?_)))))))
  ·refine tb fun _ H22 => (vc (W_end (en (Ka F20) fun A23 _ F23 => tk H22 (wp_ret (inb_ret (then_ret (then_ret (inb_ret (then_ret (rt1 F23 (rv_tmp (fg0 F23)) ?_))))))))))
   rw [show barB l = false from bar_no hy13 (by unfold okB; omega)]
   exact ⟨rfl, S14.fin0⟩
  refine wp_skip (inb_n (tk H11 (region_in (vm (fg5 F20) (ad t0 V (vt (W_end (en (Ka (Qb (fx5 F20))) fun A24 Y24 F24 => then_n ⟨l.length - (k + 1), by simp only [hm6]; omega, Y24, F24.d, (k + 1), rfl, Zb, (bar_step hz hy13 (by unfold okB; omega)), ((fg0 F24).trans Za), ((fg6 F24).trans (fg1 F5).symm), S14⟩))))))))
 refine wp_exit (then_exit (then_exit (inb_hit (ta H3 fun _ H25 => (vm (fg1 F9) (wv (V_lenT V t0 Tryz.underlying9) (vg t0 V (vt (W_end (en (Ka (Qc F9)) fun A26 _ F26 => tk H25 (wp_ret (rt1 F26 (rv_tmp (fg0 F26)) ?_))))))))))))
 rw [show barB l = decide (0 < (l.length : Int)) from bar_end hz Zb]
 exact ⟨rfl, S6.fin0⟩

set_option maxHeartbeats 4000000 in
theorem qlns_c {l : List UInt8} {w : World}  (hll : 0 < l.length ∧ l.length ≤ 5000) (hlt : l.getD (l.length - 1) 0 = 10) :
  Calls Tryz.prog 91 #[(stv l)] w fun e w' => ∃ v, e = .returned (.tuple #[v, .int .i64 0]) ∧ St w NoX [ro 1 strC v (lnK l l.length)] w' := by
 have hsl := fun k => st_le (l := l) k
 have hnl := fun k => lnK_len (l := l) k
 refine ci1 41 Tryz.func91 V (fun A0 _ F0 => ?_)
 have hS := St.nil w
 refine tb fun _ H1 => (vc (vc (W_end (en (Qb F0) fun A2 _ F2 => tc H1 fun _ H3 => tb fun _ H4 => (vm (fg0 F2) (wv (V_lenT V t0 Tryz.underlying9) (vg t0 V (W_end (en (Ka (Qb F2)) fun A5 _ F5 => tk H4 (cond_not (fg0 F5) (by rw [decide_eq_false_iff_not]; omega) (wp_skip (tc H3 fun _ H6 => tb fun _ H7 => (vm (fg1 F5) (wv (V_eqlT V t0 V) (W_end (en (Ka (Qa F5)) fun A8 _ F8 => tk H7 (cond_not (fg0 F8) (by rw [decide_eq_false_iff_not]; intro q; subst q; simp at hll) (wp_skip (tc H6 fun _ H9 => tb fun _ H10 => (vm (fg2 F8) (vm (Sa (fg2 F8)) (wv (V_lenT V t0 Tryz.underlying9) (su t0 V ?_)))))))))))))))))))))))
 have k11 : (l.length - 1) < l.length := Zh
 obtain ⟨y11, hy11⟩ := get_some (xs := l) (k := (l.length - 1)) k11
 have hu11 := y11.toNat_lt
 refine wv (V_idxT V (Sc t0) t0 Zb hy11 Tryz.underlying9) (vn t0 V (W_end (en (Ka (Qe F8)) fun A12 _ F12 => tk H10 (cond_not (fg0 F12) (by rw [decide_eq_false_iff_not]; have h := gD8 hy11; rw [hlt] at h; subst h; simp) (wp_skip (ta H9 fun _ H13 => (vc (W_end (en (Ka F12) fun A14 _ F14 => ta H13 fun _ H15 => (vc (W_end (en (Ka F14) fun A16 _ F16 => tc H15 fun _ H17 => tb fun _ H18 => (vc (W_end (en (Ka F16) fun A19 Y19 F19 => tk H18 (wp_block ?_))))))))))))))))
 obtain ⟨c20, hc20, S20⟩ := hS.pnil (s := 1)
 -- loop 10
 refine loopX (fun mz A' w' => SzN A' 41 ∧ A'.defers = [] ∧ (∃ (k : Nat) (bv : Value), (mz = l.length - k) ∧ (k ≤ l.length) ∧ (EV A' (.tmp 6) = .int .i64 (k : Int)) ∧ (EV A' (.tmp 5) = .int .i64 ((stK l k : Nat) : Int)) ∧ (EV A' (.tmp 4) = bv) ∧ (EV A' (.tmp 0) = EV A19 (.tmp 0)) ∧ (St w NoX [ro 1 strC bv (lnK l k)] w'))) (l.length - 0) ⟨Y19, F19.d, 0, (.slice none 0 0), rfl, Zb, ((fg0 F19).trans Za), ((fg1 F19).trans Za), ((fg2 F19).trans Za), rfl, (by have q0 : c20 = ro 1 strC (.slice none 0 0) (lnK l 0) := hc20.trans (rfl); subst q0; exact S20)⟩ ?_
 clear S20 hc20
 rintro n21 A21 w21 ⟨Y21, hdf21, k, bv, hm21, hk, l6_21, l5_21, l4_21, u0_21, S21⟩
 have l0_21 := u0_21.trans (fg6 F19)
 obtain ⟨c20_21, hc20_21, S21⟩ := gen1 S21
 refine td fun _ H22 => tb fun _ H23 => (vm l6_21 (vm (Sa l0_21) (wv (V_lenT V t0 Tryz.underlying9) (vl (Sb t0) t0 (W_end (en ((((((ck (cq3 (FS.n hdf21) V) V V)).c (es4 V l0_21)).c (es4 V l4_21)).c (es4 V l5_21)).c (Sd l6_21)) fun A24 _ F24 => tk H23 (cd (fg4 F24) (fun c25 => ?_) fun c25 => ?_)))))))
 ·refine wp_skip (tc H22 fun _ H26 => wp_block (tb fun _ H27 => (vm (fg3 F24) (vm (Sa (fg0 F24)) ?_))))
  have k28 : k < l.length := Zh
  obtain ⟨y28, hy28⟩ := get_some (xs := l) (k := k) k28
  have hu28 := y28.toNat_lt
  have hsk28 := st_le (l := l) k
  have hnk28 := lnK_len (l := l) k
  refine wv (V_idxT V (Sa t0) t0 Zb hy28 Tryz.underlying9) (ve t0 V (W_end (en (Ka (Qc F24)) fun A29 _ F29 => tk H27 (cd (fg0 F29) (fun c30 => ?_) fun c30 => ?_))))
  ·refine tb fun _ H31 => (vm (fg3 F29) (vm (Sa (fg4 F29)) (vm (Sb (fg2 F29)) (vm (Sc (fg1 F29)) (wv (V_sliceT (a := (stK l k)) (b := k) V (Sb t0) (Sa t0) t0 Zb Zb Zb Zb Tryz.underlying9) ?_)))))
   have hll33 : [((l.take k).drop (stK l k))].length = 1 := rfl
   refine xsL (vs := [(stv ((l.take k).drop (stK l k)))]) (xs := ([((l.take k).drop (stK l k))].flatMap strC)) 1 S21 V V V (parts1 t0) Tryz.underlying132 (fun g33 w33 c33 hc33 S33 => ?_)
   replace hc33 : c33 = ro 1 strC (.slice (some ⟨g33, 0, none⟩) 1 1) [((l.take k).drop (stK l k))] := hc33
   replace S33 : St w NoX [c33, c20_21] w33 := S33
   refine W_appS 1 1 S33 V hc20_21 V V V (Se t0) t0 Tryz.underlying132 Tryz.underlying132 (z := .string ByteArray.empty) (bytes := 16) kr V Zg (ow_at (S33.cq 0 hc33)) (ones_r strC_one) Zd Zd (fun v34 w34 c34 hc34 S34 => ?_)
   replace hc34 : c34 = ro 1 strC v34 ((lnK l k) ++ [((l.take k).drop (stK l k))]) := hc34.trans (app_eqR Zc)
   replace S34 : St w NoX [c33, c34] w34 := S34
   refine vt (W_end (en (Ka (Qg (fx3 F29))) fun A35 _ F35 => ?_))
   have S36 := S34.se [1] [c34]
   refine tk H31 (region_in (vm (fg2 F35) (ad t0 V (vt (W_end (en (Ka (Qb (fx3 F35))) fun A37 _ F37 => inb_n (tk H26 (region_in (vm (fg3 F37) (ad t0 V (vt (W_end (en (Ka (Qb (fx3 F37))) fun A38 Y38 F38 => then_n ⟨l.length - (k + 1), by simp only [hm21]; omega, Y38, F38.d, (k + 1), v34, rfl, Zb, ((fg0 F38).trans Za), ((fg1 F38).trans ((by rw [(ln_T hy28 Zb).2] <;> rfl))), ((fg2 F38).trans Za), ((fg4 F38).trans (fg6 F19).symm), (by have q0 : c34 = ro 1 strC v34 (lnK l (k + 1)) := hc34.trans ((congrArg (ro 1 strC _) (ln_T hy28 Zb).1)); subst q0; exact S36)⟩)))))))))))))
  refine wp_skip (inb_n (tk H26 (region_in (vm (fg1 F29) (ad t0 V (vt (W_end (en (Ka (Qb (fx1 F29))) fun A39 Y39 F39 => then_n ⟨l.length - (k + 1), by simp only [hm21]; omega, Y39, F39.d, (k + 1), bv, rfl, Zb, ((fg0 F39).trans Za), ((fg2 F39).trans ((by rw [(ln_F hy28 Zb).2] <;> rfl))), ((fg3 F39).trans Za), ((fg4 F39).trans (fg6 F19).symm), (by have q0 : c20_21 = ro 1 strC bv (lnK l (k + 1)) := hc20_21.trans ((congrArg (ro 1 strC _) (ln_F hy28 Zb).1)); subst q0; exact S21)⟩))))))))
 refine wp_exit (then_exit (then_exit (inb_hit (tc H17 fun _ H40 => tb fun _ H41 => (vm (fg2 F24) (le_ t0 (ow_at (S21.cq 0 hc20_21)) (vg t0 V (W_end (en (Ka (Qb F24)) fun A42 _ F42 => tk H41 (cond_not (fg0 F42) (by rw [decide_eq_false_iff_not]; have := hnl k; omega) (wp_skip (ta H40 fun _ H43 => (vm (fg3 F42) (vt (vc (W_end (en (Kb (Qa F42)) fun A44 _ F44 => tk H43 (wp_ret (rt2 F44 (rv_tmp (fg1 F44)) (rv_tmp (fg0 F44)) ?_)))))))))))))))))))
 exact ⟨_, rfl, (S21.f1 0 (hc20_21.trans (by rw [show k = l.length by omega])))⟩

end Go.Proofs.YtpgkfndbfocibaaGreat
namespace Go.Proofs.YtpgkfndbfocibaaGreat
open Go.RowKit Go.Own Go.Own.R Go.Own.G Go.Own.Gr Go.Own.Ml


set_option maxHeartbeats 4000000 in
theorem qwrd_c {k : Int} {w : World}   :
  Calls Tryz.prog 77 #[.int .i64 k] w fun e w' => e = .returned (.tuple #[stv (wrdA k), stv (wrdB k)]) ∧ St w NoX [] w' := by
 refine ci1 27 Tryz.func77 V (fun A0 _ F0 => ?_)
 have hS := St.nil w
 refine tb fun _ H1 => (vc (vc (W_end (en (Qb F0) fun A2 _ F2 => tc H1 fun _ H3 => tb fun _ H4 => (vm (fg0 F2) (W_end (en (Ka F2) fun A5 _ F5 => tk H4 (wp_block (tb fun _ H6 => (ve (fg0 F5) V (vt (W_end (en (Ka (Qa F5)) fun A7 _ F7 => tk H6 (cd (fg0 F7) (fun c8 => ?_) fun c8 => ?_))))))))))))))
 ·refine tb fun _ H9 => (vc (vc (W_end (en (Kb F7) fun A10 _ F10 => tk H9 (wp_ret (inb_ret (then_ret (rt2 F10 (rv_tmp (fg1 F10)) (rv_tmp (fg0 F10)) ?_))))))))
  obtain rfl : k = 1 := by omega
  exact ⟨rfl, hS.fin0⟩
 refine tb fun _ H11 => (ve (fg1 F7) V (vt (W_end (en (Ka (Qa F7)) fun A12 _ F12 => tk H11 (cd (fg0 F12) (fun c13 => ?_) fun c13 => ?_)))))
 ·refine tb fun _ H14 => (vc (vc (W_end (en (Kb F12) fun A15 _ F15 => tk H14 (wp_ret (inb_ret (then_ret (rt2 F15 (rv_tmp (fg1 F15)) (rv_tmp (fg0 F15)) ?_))))))))
  obtain rfl : k = 2 := by omega
  exact ⟨rfl, hS.fin0⟩
 refine tb fun _ H16 => (ve (fg2 F12) V (vt (W_end (en (Ka (Qa F12)) fun A17 _ F17 => tk H16 (cd (fg0 F17) (fun c18 => ?_) fun c18 => ?_)))))
 ·refine tb fun _ H19 => (vc (vc (W_end (en (Kb F17) fun A20 _ F20 => tk H19 (wp_ret (inb_ret (then_ret (rt2 F20 (rv_tmp (fg1 F20)) (rv_tmp (fg0 F20)) ?_))))))))
  obtain rfl : k = 3 := by omega
  exact ⟨rfl, hS.fin0⟩
 refine tb fun _ H21 => (ve (fg3 F17) V (vt (W_end (en (Ka (Qa F17)) fun A22 _ F22 => tk H21 (cd (fg0 F22) (fun c23 => ?_) fun c23 => ?_)))))
 ·refine tb fun _ H24 => (vc (vc (W_end (en (Kb F22) fun A25 _ F25 => tk H24 (wp_ret (inb_ret (then_ret (rt2 F25 (rv_tmp (fg1 F25)) (rv_tmp (fg0 F25)) ?_))))))))
  obtain rfl : k = 4 := by omega
  exact ⟨rfl, hS.fin0⟩
 refine tb fun _ H26 => (ve (fg4 F22) V (vt (W_end (en (Ka (Qa F22)) fun A27 _ F27 => tk H26 (cd (fg0 F27) (fun c28 => ?_) fun c28 => ?_)))))
 ·refine tb fun _ H29 => (vc (vc (W_end (en (Kb F27) fun A30 _ F30 => tk H29 (wp_ret (inb_ret (then_ret (rt2 F30 (rv_tmp (fg1 F30)) (rv_tmp (fg0 F30)) ?_))))))))
  obtain rfl : k = 5 := by omega
  exact ⟨rfl, hS.fin0⟩
 refine tb fun _ H31 => (ve (fg5 F27) V (vt (W_end (en (Ka (Qa F27)) fun A32 _ F32 => tk H31 (cd (fg0 F32) (fun c33 => ?_) fun c33 => ?_)))))
 ·refine tb fun _ H34 => (vc (vc (W_end (en (Kb F32) fun A35 _ F35 => tk H34 (wp_ret (inb_ret (then_ret (rt2 F35 (rv_tmp (fg1 F35)) (rv_tmp (fg0 F35)) ?_))))))))
  obtain rfl : k = 6 := by omega
  exact ⟨rfl, hS.fin0⟩
 refine tb fun _ H36 => (ve (fg6 F32) V (vt (W_end (en (Ka (Qa F32)) fun A37 _ F37 => tk H36 (cd (fg0 F37) (fun c38 => ?_) fun c38 => ?_)))))
 ·refine tb fun _ H39 => (vc (vc (W_end (en (Kb F37) fun A40 _ F40 => tk H39 (wp_ret (inb_ret (then_ret (rt2 F40 (rv_tmp (fg1 F40)) (rv_tmp (fg0 F40)) ?_))))))))
  obtain rfl : k = 7 := by omega
  exact ⟨rfl, hS.fin0⟩
 refine tb fun _ H41 => (ve (fg7 F37) V (vt (W_end (en (Ka (Qa F37)) fun A42 _ F42 => tk H41 (cd (fg0 F42) (fun c43 => ?_) fun c43 => ?_)))))
 ·refine tb fun _ H44 => (vc (vc (W_end (en (Kb F42) fun A45 _ F45 => tk H44 (wp_ret (inb_ret (then_ret (rt2 F45 (rv_tmp (fg1 F45)) (rv_tmp (fg0 F45)) ?_))))))))
  obtain rfl : k = 8 := by omega
  exact ⟨rfl, hS.fin0⟩
 refine tb fun _ H46 => (ve (fg8 F42) V (vt (W_end (en (Ka (Qa F42)) fun A47 _ F47 => tk H46 (cd (fg0 F47) (fun c48 => ?_) fun c48 => ?_)))))
 ·refine tb fun _ H49 => (vc (vc (W_end (en (Kb F47) fun A50 _ F50 => tk H49 (wp_ret (inb_ret (then_ret (rt2 F50 (rv_tmp (fg1 F50)) (rv_tmp (fg0 F50)) ?_))))))))
  obtain rfl : k = 9 := by omega
  exact ⟨rfl, hS.fin0⟩
 refine tb fun _ H51 => (ve (fg9 F47) V (vt (W_end (en (Ka (Qa F47)) fun A52 _ F52 => tk H51 (cd (fg0 F52) (fun c53 => ?_) fun c53 => ?_)))))
 ·refine tb fun _ H54 => (vc (vc (W_end (en (Kb F52) fun A55 _ F55 => tk H54 (wp_ret (inb_ret (then_ret (rt2 F55 (rv_tmp (fg1 F55)) (rv_tmp (fg0 F55)) ?_))))))))
  obtain rfl : k = 10 := by omega
  exact ⟨rfl, hS.fin0⟩
 refine tb fun _ H56 => (ve (fg10 F52) V (vt (W_end (en (Ka (Qa F52)) fun A57 _ F57 => tk H56 (cd (fg0 F57) (fun c58 => ?_) fun c58 => ?_)))))
 ·refine tb fun _ H59 => (vc (vc (W_end (en (Kb F57) fun A60 _ F60 => tk H59 (wp_ret (inb_ret (then_ret (rt2 F60 (rv_tmp (fg1 F60)) (rv_tmp (fg0 F60)) ?_))))))))
  obtain rfl : k = 11 := by omega
  exact ⟨rfl, hS.fin0⟩
 refine wp_skip (inb_n (ta H3 fun _ H61 => (vc (vc (W_end (en (Kb F57) fun A62 _ F62 => tk H61 (wp_ret (rt2 F62 (rv_tmp (fg1 F62)) (rv_tmp (fg0 F62)) ?_))))))))
 have e1 : wrdA k = [] := by unfold wrdA; rw [if_neg (show ¬ k = 1 by omega), if_neg (show ¬ k = 2 by omega), if_neg (show ¬ k = 3 by omega), if_neg (show ¬ k = 4 by omega), if_neg (show ¬ k = 5 by omega), if_neg (show ¬ k = 6 by omega), if_neg (show ¬ k = 7 by omega), if_neg (show ¬ k = 8 by omega), if_neg (show ¬ k = 9 by omega), if_neg (show ¬ k = 10 by omega), if_neg (show ¬ k = 11 by omega)]
 have e2 : wrdB k = [] := by unfold wrdB; rw [if_neg (show ¬ k = 1 by omega), if_neg (show ¬ k = 2 by omega), if_neg (show ¬ k = 3 by omega), if_neg (show ¬ k = 4 by omega), if_neg (show ¬ k = 5 by omega), if_neg (show ¬ k = 6 by omega), if_neg (show ¬ k = 7 by omega), if_neg (show ¬ k = 8 by omega), if_neg (show ¬ k = 9 by omega), if_neg (show ¬ k = 10 by omega), if_neg (show ¬ k = 11 by omega)]
 rw [e1, e2]
 exact ⟨rfl, hS.fin0⟩

set_option maxHeartbeats 4000000 in
theorem qdg_c {b : Int} {w : World}   :
  Calls Tryz.prog 133 #[.int .u8 b] w fun e w' => e = .returned (.bool (decide (48 ≤ b ∧ b ≤ 57))) ∧ St w NoX [] w' := by
 refine ci1 9 Tryz.func133 V (fun A0 _ F0 => ?_)
 have hS := St.nil w
 refine tb fun _ H1 => (vc (W_end (en (Qa F0) fun A2 _ F2 => ta H1 fun _ H3 => (vm (fg0 F2) (vh t0 V (W_split V V (V_mov V t0) (fun c4 => ?_) (fun c4 => ?_)))))))
 ·refine wg V t0 (uvm (Sc (fg0 F2))) (wg V (Sa t0) (uvk t0 V) (vT (Sb t0) t0 (vt (W_end (en (Ka (Qf F2)) fun A5 _ F5 => tk H3 (wp_ret (rt1 F5 (rv_tmp (fg0 F5)) ?_)))))))
  rw [show (decide (48 ≤ b ∧ b ≤ 57)) = decide (b ≤ 57) by exact decide_eq_decide.2 Zb]
  exact ⟨rfl, hS.fin0⟩
 refine xo V t0 (xo V (Sa t0) (vF (Sb t0) V (vt (W_end (en (Ka (Qf F2)) fun A6 _ F6 => tk H3 (wp_ret (rt1 F6 (rv_tmp (fg0 F6)) ?_)))))))
 rw [show (decide (48 ≤ b ∧ b ≤ 57)) = false by exact decide_eq_false Zb]
 exact ⟨rfl, hS.fin0⟩

set_option maxHeartbeats 4000000 in
theorem qset_c {kd a b f p q u c z : Int} {w : World}   :
  Calls Tryz.prog 122 #[.agg #[.int .i64 kd, .int .i64 a, .int .i64 b, .int .i64 f, .int .i64 p, .int .i64 q, .int .u64 u], .int .u8 c, .int .i64 z] w fun e w' => e = .returned (.agg #[.int .i64 kd, .int .i64 (if c = 97 then z else a), .int .i64 (if c = 98 then z else b), .int .i64 (if c = 102 then z else f), .int .i64 (if c = 112 then z else p), .int .i64 (if c = 97 ∨ c = 98 ∨ c = 102 ∨ c = 112 then q else z), .int .u64 u]) ∧ St w NoX [] w' := by
 refine ci3 27 Tryz.func122 V (fun A0 _ F0 => ?_)
 have hS := St.nil w
 refine tb fun _ H1 => (wB (#[.int .i64 (kd), .int .i64 (a), .int .i64 (b), .int .i64 (f), .int .i64 (p), .int .i64 (q), .int .u64 (u)]) hS (fg0 F0) (fun g2 w2 c2 hc2 S2 => wA (#[.int .i64 0, .int .i64 0, .int .i64 0, .int .i64 0, .int .i64 0, .int .i64 0, .int .u64 0]) S2 (fun g3 w3 c3 hc3 S3 => W_end (en (Kb F0) fun A4 _ F4 => tc H1 fun _ H5 => tb fun _ H6 => (vm (fg3 F4) (W_end (en (Ka F4) fun A7 _ F7 => tk H6 (wp_block (tb fun _ H8 => (ve (fg0 F7) V (vt (W_end (en (Ka (Qa F7)) fun A9 _ F9 => tk H8 (cd (fg0 F9) (fun c10 => ?_) fun c10 => ?_))))))))))))))
 ·refine region_in (vm (fg6 F9) (fa 1 (Sa (fg3 F9)) (xsC1 (zs' := #[.int .i64 (kd), .int .i64 (z), .int .i64 (b), .int .i64 (f), .int .i64 (p), .int .i64 (q), .int .u64 (u)]) S3 hc2 V V V t0 (Sa t0) Zi (fun w11 c11 hc11 S11 => W_end (en (Qb F9) fun A12 _ F12 => inb_n (ta H5 fun _ H13 => (ra (fg3 F12) (S11.ob 1 hc11) (xsA0 S11 hc3 V V V (Sa (fg2 F12)) t0 (fun w14 c14 hc14 S14 => W_end (en (Qa F12) fun A15 _ F15 => tk H13 (wp_ret (rt1 F15 (rvA (fg2 F15) (S14.ob 0 hc14)) ?_))))))))))))
  rw [show (if c = 97 then z else a) = z from if_pos Zb]
  rw [show (if c = 98 then z else b) = b from if_neg Zb]
  rw [show (if c = 102 then z else f) = f from if_neg Zb]
  rw [show (if c = 112 then z else p) = p from if_neg Zb]
  rw [show (if c = 97 ∨ c = 98 ∨ c = 102 ∨ c = 112 then q else z) = q from if_pos Zb]
  exact ⟨rfl, S14.fin0⟩
 refine tb fun _ H17 => (ve (fg1 F9) V (vt (W_end (en (Ka (Qa F9)) fun A18 _ F18 => tk H17 (cd (fg0 F18) (fun c19 => ?_) fun c19 => ?_)))))
 ·refine region_in (vm (fg7 F18) (fa 2 (Sa (fg4 F18)) (xsC1 (zs' := #[.int .i64 (kd), .int .i64 (a), .int .i64 (z), .int .i64 (f), .int .i64 (p), .int .i64 (q), .int .u64 (u)]) S3 hc2 V V V t0 (Sa t0) Zi (fun w20 c20 hc20 S20 => W_end (en (Qb F18) fun A21 _ F21 => inb_n (ta H5 fun _ H22 => (ra (fg4 F21) (S20.ob 1 hc20) (xsA0 S20 hc3 V V V (Sa (fg3 F21)) t0 (fun w23 c23 hc23 S23 => W_end (en (Qa F21) fun A24 _ F24 => tk H22 (wp_ret (rt1 F24 (rvA (fg3 F24) (S23.ob 0 hc23)) ?_))))))))))))
  rw [show (if c = 97 then z else a) = a from if_neg Zb]
  rw [show (if c = 98 then z else b) = z from if_pos Zb]
  rw [show (if c = 102 then z else f) = f from if_neg Zb]
  rw [show (if c = 112 then z else p) = p from if_neg Zb]
  rw [show (if c = 97 ∨ c = 98 ∨ c = 102 ∨ c = 112 then q else z) = q from if_pos Zb]
  exact ⟨rfl, S23.fin0⟩
 refine tb fun _ H26 => (ve (fg2 F18) V (vt (W_end (en (Ka (Qa F18)) fun A27 _ F27 => tk H26 (cd (fg0 F27) (fun c28 => ?_) fun c28 => ?_)))))
 ·refine region_in (vm (fg8 F27) (fa 3 (Sa (fg5 F27)) (xsC1 (zs' := #[.int .i64 (kd), .int .i64 (a), .int .i64 (b), .int .i64 (z), .int .i64 (p), .int .i64 (q), .int .u64 (u)]) S3 hc2 V V V t0 (Sa t0) Zi (fun w29 c29 hc29 S29 => W_end (en (Qb F27) fun A30 _ F30 => inb_n (ta H5 fun _ H31 => (ra (fg5 F30) (S29.ob 1 hc29) (xsA0 S29 hc3 V V V (Sa (fg4 F30)) t0 (fun w32 c32 hc32 S32 => W_end (en (Qa F30) fun A33 _ F33 => tk H31 (wp_ret (rt1 F33 (rvA (fg4 F33) (S32.ob 0 hc32)) ?_))))))))))))
  rw [show (if c = 97 then z else a) = a from if_neg Zb]
  rw [show (if c = 98 then z else b) = b from if_neg Zb]
  rw [show (if c = 102 then z else f) = z from if_pos Zb]
  rw [show (if c = 112 then z else p) = p from if_neg Zb]
  rw [show (if c = 97 ∨ c = 98 ∨ c = 102 ∨ c = 112 then q else z) = q from if_pos Zb]
  exact ⟨rfl, S32.fin0⟩
 refine tb fun _ H35 => (ve (fg3 F27) V (vt (W_end (en (Ka (Qa F27)) fun A36 _ F36 => tk H35 (cd (fg0 F36) (fun c37 => ?_) fun c37 => ?_)))))
 ·refine region_in (vm (fg9 F36) (fa 4 (Sa (fg6 F36)) (xsC1 (zs' := #[.int .i64 (kd), .int .i64 (a), .int .i64 (b), .int .i64 (f), .int .i64 (z), .int .i64 (q), .int .u64 (u)]) S3 hc2 V V V t0 (Sa t0) Zi (fun w38 c38 hc38 S38 => W_end (en (Qb F36) fun A39 _ F39 => inb_n (ta H5 fun _ H40 => (ra (fg6 F39) (S38.ob 1 hc38) (xsA0 S38 hc3 V V V (Sa (fg5 F39)) t0 (fun w41 c41 hc41 S41 => W_end (en (Qa F39) fun A42 _ F42 => tk H40 (wp_ret (rt1 F42 (rvA (fg5 F42) (S41.ob 0 hc41)) ?_))))))))))))
  rw [show (if c = 97 then z else a) = a from if_neg Zb]
  rw [show (if c = 98 then z else b) = b from if_neg Zb]
  rw [show (if c = 102 then z else f) = f from if_neg Zb]
  rw [show (if c = 112 then z else p) = z from if_pos Zb]
  rw [show (if c = 97 ∨ c = 98 ∨ c = 102 ∨ c = 112 then q else z) = q from if_pos Zb]
  exact ⟨rfl, S41.fin0⟩
 refine region_in (vm (fg9 F36) (fa 5 (Sa (fg6 F36)) (xsC1 (zs' := #[.int .i64 (kd), .int .i64 (a), .int .i64 (b), .int .i64 (f), .int .i64 (p), .int .i64 (z), .int .u64 (u)]) S3 hc2 V V V t0 (Sa t0) Zi (fun w44 c44 hc44 S44 => W_end (en (Qb F36) fun A45 _ F45 => inb_n (ta H5 fun _ H46 => (ra (fg6 F45) (S44.ob 1 hc44) (xsA0 S44 hc3 V V V (Sa (fg5 F45)) t0 (fun w47 c47 hc47 S47 => W_end (en (Qa F45) fun A48 _ F48 => tk H46 (wp_ret (rt1 F48 (rvA (fg5 F48) (S47.ob 0 hc47)) ?_))))))))))))
 rw [show (if c = 97 then z else a) = a from if_neg Zb]
 rw [show (if c = 98 then z else b) = b from if_neg Zb]
 rw [show (if c = 102 then z else f) = f from if_neg Zb]
 rw [show (if c = 112 then z else p) = p from if_neg Zb]
 rw [show (if c = 97 ∨ c = 98 ∨ c = 102 ∨ c = 112 then q else z) = z from if_neg Zb]
 exact ⟨rfl, S47.fin0⟩

end Go.Proofs.YtpgkfndbfocibaaGreat
namespace Go.Proofs.YtpgkfndbfocibaaGreat
open Go.RowKit Go.Own Go.Own.R Go.Own.G Go.Own.Gr Go.Own.Ml


set_option maxHeartbeats 4000000 in
theorem qdec_c {l : List UInt8} {w : World}  (h1 : l.length = 1) (h2 : 48 ≤ (l.getD 0 0).toNat ∧ (l.getD 0 0).toNat ≤ 57) :
  Calls Tryz.prog 131 #[(stv l)] w fun e w' => e = .returned (.bool true) ∧ St w NoX [] w' := by
 refine ci1 43 Tryz.func131 V (fun A0 _ F0 => ?_)
 have hS := St.nil w
 refine tb fun _ H1 => (vc (W_end (en (Qa F0) fun A2 _ F2 => tc H1 fun _ H3 => tb fun _ H4 => (vm (fg0 F2) (wv (V_lenT V t0 Tryz.underlying9) (vg t0 V (W_sure (c' := false) V V (V_mov V t0) (by rw [decide_eq_false_iff_not]; omega) (xo V t0 (xo V (Sa t0) (xo V (Sb t0) (vF (Sc t0) V (vm t0 (xo V t0 (xo V (Sa t0) (xo V (Sb t0) (vF (Sc t0) V (W_end (en (Ka (Qd (Qh F2))) fun A5 _ F5 => tk H4 (cond_f (fg0 F5) (wp_skip (tc H3 fun _ H6 => tb fun _ H7 => (vm (fg1 F5) (wv (V_lenT V t0 Tryz.underlying9) (ve t0 V (W_sure (c' := false) V V (V_mov V t0) (by rw [decide_eq_false_iff_not]; omega) (wg V t0 (uvm (Sd (fg1 F5))) (wg V (Sa t0) (V_lenT V t0 Tryz.underlying9) (wg V (Sb t0) (uvg t0 V) (W_sure (c' := false) V (xwt V V (Sc t0)) (V_mov V t0) (by rw [decide_eq_false_iff_not]; omega) (xo V t0 (xo V (Sa t0) (xo V (Sb t0) (wg V (Sg t0) (uvF (Sc t0) V) (vF (Sh t0) t0 (W_end (en (Ka (Qd (Qh F5))) fun A8 _ F8 => tk H7 (cond_f (fg0 F8) (wp_skip (tc H6 fun _ H9 => tb fun _ H10 => (vc (W_end (en (Ka F8) fun A11 Y11 F11 => tk H10 (wp_block ?_)))))))))))))))))))))))))))))))))))))))))))
 -- loop 6
 refine loopX (fun mz A' w' => SzN A' 43 ∧ A'.defers = [] ∧ (∃ (k : Nat), (mz = l.length - k) ∧ (k ≤ l.length) ∧ (EV A' (.tmp 3) = .int .i64 (k : Int)) ∧ (EV A' (.tmp 0) = EV A11 (.tmp 0)) ∧ (St w NoX [] w'))) (l.length - 0) ⟨Y11, F11.d, 0, rfl, Zb, ((fg0 F11).trans Za), rfl, hS⟩ ?_
 clear hS
 rintro n12 A12 w12 ⟨Y12, hdf12, k, hm12, hk, l3_12, u0_12, S12⟩
 have l0_12 := u0_12.trans (fg3 F11)
 refine td fun _ H13 => tb fun _ H14 => (vm l3_12 (vm (Sa l0_12) (wv (V_lenT V t0 Tryz.underlying9) (vl (Sb t0) t0 (W_end (en ((((ck (cq3 (FS.n hdf12) V) V V)).c (es4 V l0_12)).c (Sd l3_12)) fun A15 _ F15 => tk H14 (cd (fg2 F15) (fun c16 => ?_) fun c16 => ?_)))))))
 ·refine wp_skip (tc H13 fun _ H17 => wp_block (tb fun _ H18 => (vm (fg1 F15) (vm (Sa (fg0 F15)) ?_))))
  have k19 : k < l.length := Zh
  obtain ⟨y19, hy19⟩ := get_some (xs := l) (k := k) k19
  have hu19 := y19.toNat_lt
  have hd19 := dg_at h1 h2 hy19
  refine wv (V_idxT V (Sa t0) t0 Zb hy19 Tryz.underlying9) (wc (args1 t0) (qdg_c (b := (y19.toNat : Int))) (C0 S12 fun w20 S20 => wv (V_notd V t0) (W_end (en (Ka (Qd F15)) fun A21 _ F21 => tk H18 (cond_not (fg0 F21) (by rw [decide_eq_false_iff_not]; omega) (wp_skip (inb_n (tk H17 (region_in (vm (fg1 F21) (ad t0 V (vt (W_end (en (Ka (Qb (fx1 F21))) fun A22 Y22 F22 => then_n ⟨l.length - (k + 1), by simp only [hm12]; omega, Y22, F22.d, (k + 1), rfl, Zb, ((fg0 F22).trans Za), ((fg2 F22).trans (fg3 F11).symm), S20⟩))))))))))))))
 refine wp_exit (then_exit (then_exit (inb_hit (ta H9 fun _ H23 => (vc (W_end (en (Ka F15) fun A24 _ F24 => tk H23 (wp_ret (rt1 F24 (rv_tmp (fg0 F24)) ?_)))))))))
 exact ⟨rfl, S12.fin0⟩

set_option maxHeartbeats 4000000 in
theorem qint_c {l : List UInt8} {lo hi : Int} {w : World}  (h1 : l.length = 1) (h2 : 48 ≤ (l.getD 0 0).toNat ∧ (l.getD 0 0).toNat ≤ 57) (hlo : lo ≤ 0) (hhi : 9 ≤ hi) :
  Calls Tryz.prog 121 #[(stv l), .int .i64 lo, .int .i64 hi] w fun e w' => e = .returned (.tuple #[.int .i64 (((l.getD 0 0).toNat : Int) - 48), .int .i64 0]) ∧ St w NoX [] w' := by
 refine ci3 61 Tryz.func121 V (fun A0 _ F0 => ?_)
 have hS := St.nil w
 refine tb fun _ H1 => (vc (vc (W_end (en (Qb F0) fun A2 _ F2 => tc H1 fun _ H3 => tb fun _ H4 => (vm (fg0 F2) (wc (args1 t0) (qdec_c Zf Zf) (C0 hS fun w5 S5 => wv (V_notT V t0) (W_end (en (Ka (Qb F2)) fun A6 _ F6 => tk H4 (cond_f (fg0 F6) (wp_skip (ta H3 fun _ H7 => (vm (fg1 F6) ?_)))))))))))))
 have k8 : 0 < l.length := Zh
 obtain ⟨y8, hy8⟩ := get_some (xs := l) (k := 0) k8
 have hu8 := y8.toNat_lt
 have hd8 := dg_at h1 h2 hy8
 refine wv (V_idxT V t0 V Zb hy8 Tryz.underlying9) (ve t0 V (vt (W_end (en (Ka (Qc F6)) fun A9 _ F9 => ta H7 fun _ H10 => (vc (W_end (en (Ka F9) fun A11 _ F11 => tc H10 fun _ H12 => tb fun _ H13 => (vc (W_end (en (Ka F11) fun A14 Y14 F14 => tk H13 (wp_block ?_)))))))))))
 -- loop 6
 refine loopX (fun mz A' w' => SzN A' 61 ∧ A'.defers = [] ∧ (∃ (k : Nat) (n : Int), (mz = l.length - k) ∧ (k ≤ l.length) ∧ (k = 0 → n = 0) ∧ (k = 1 → n = 48 - ((l.getD 0 0).toNat : Int)) ∧ (EV A' (.tmp 10) = .int .i64 (k : Int)) ∧ (EV A' (.tmp 9) = .int .i64 n) ∧ (EV A' (.tmp 0) = EV A14 (.tmp 0)) ∧ (EV A' (.tmp 1) = EV A14 (.tmp 1)) ∧ (EV A' (.tmp 2) = EV A14 (.tmp 2)) ∧ (EV A' (.tmp 8) = EV A14 (.tmp 8)) ∧ (St w NoX [] w'))) (l.length - 0) ⟨Y14, F14.d, 0, 0, rfl, Zb, (fun _ => rfl), (fun h => by omega), ((fg0 F14).trans Za), ((fg1 F14).trans Za), rfl, rfl, rfl, rfl, S5⟩ ?_
 clear S5
 rintro n15 A15 w15 ⟨Y15, hdf15, k, n, hm15, hk, hn0, hn1, l10_15, l9_15, u0_15, u1_15, u2_15, u8_15, S15⟩
 have l0_15 := u0_15.trans (fg4 F14)
 have l1_15 := u1_15.trans (fg5 F14)
 have l2_15 := u2_15.trans (fg6 F14)
 have l8_15 := u8_15.trans (fg2 F14)
 refine td fun _ H16 => tb fun _ H17 => (vm l10_15 (vm (Sa l0_15) (wv (V_lenT V t0 Tryz.underlying9) (vl (Sb t0) t0 (W_end (en ((((((((ck (cq3 (FS.n hdf15) V) V V)).c (es4 V l0_15)).c (es4 V l1_15)).c (es4 V l2_15)).c (es4 V l8_15)).c (es4 V l9_15)).c (Sd l10_15)) fun A18 _ F18 => tk H17 (cd (fg6 F18) (fun c19 => ?_) fun c19 => ?_)))))))
 ·refine wp_skip (tc H16 fun _ H20 => wp_block (td fun _ H21 => tb fun _ H22 => (vm (fg5 F18) (vm (Sa (fg0 F18)) ?_))))
  have k23 : k < l.length := Zh
  obtain ⟨y23, hy23⟩ := get_some (xs := l) (k := k) k23
  have hu23 := y23.toNat_lt
  have hd23 := dg_at h1 h2 hy23
  refine wv (V_idxT V (Sa t0) t0 Zb hy23 Tryz.underlying9) (ve t0 V (W_end (en (Ka (Qc F18)) fun A24 _ F24 => tk H22 (cond_not (fg0 F24) (by rw [decide_eq_false_iff_not]; omega) (wp_skip (ta H21 fun _ H25 => (vm (fg6 F24) (vm (Sa (fg1 F24)) (wv (V_idxT V (Sa t0) t0 Zb hy23 Tryz.underlying9) (wv (V_subU8 V t0 V Zb Zb) (wv (V_cvt V t0 Tryz.underlying5 Tryz.underlying2 (wrap_i64 Zb Zb)) (vt (W_end (en (Ka (Qe F24)) fun A27 _ F27 => tc H25 fun _ H28 => tb fun _ H29 => (vm (fg3 F27) (vm (Sa (fg0 F27)) (ad V t0 (wv (V_quoN V t0 V Zb Zb) (vl (Sc t0) t0 (W_end (en (Ka (Qd F27)) fun A30 _ F30 => tk H29 (cond_not (fg0 F30) (by rw [decide_eq_false_iff_not]; exact Int.not_lt.2 (Int.le_trans (td_rng ⟨by omega, by omega⟩ Zb).2 Zb)) (wp_skip (tk H28 (region_in (vm (fg4 F30) (wv (V_mul V V t0 Zb Zb) (vm (Sb (fg1 F30)) (su (Sa t0) t0 (vt (W_end (en (Ka (Qd (fx4 F30))) fun A31 _ F31 => inb_n (tk H20 (region_in (vm (fg4 F31) (ad t0 V (vt (W_end (en (Ka (Qb (fx4 F31))) fun A32 Y32 F32 => then_n ⟨l.length - (k + 1), by simp only [hm15]; omega, Y32, F32.d, (k + 1), ((10 * n) - ((y23.toNat : Int) - 48)), rfl, Zb, (fun h => by omega), (fun h => by omega), ((fg0 F32).trans Za), ((fg1 F32).trans Za), ((fg8 F32).trans (fg4 F14).symm), ((fg7 F32).trans (fg5 F14).symm), ((fg6 F32).trans (fg6 F14).symm), ((fg5 F32).trans (fg2 F14).symm), S15⟩)))))))))))))))))))))))))))))))))))))))
 refine wp_exit (then_exit (then_exit (inb_hit (tc H12 fun _ H33 => tb fun _ H34 => (vm (fg2 F18) (wv (V_notd V t0) (W_sure (c' := true) V V (V_mov V t0) (by rw [decide_eq_true_eq]; omega) (wg V t0 (uvm (Sc (fg1 F18))) (wg V (Sa t0) (uve t0 V) (vT (Sb t0) t0 (W_end (en (Ka (Qe F18)) fun A35 _ F35 => tk H34 (cond_not (fg0 F35) (by rw [decide_eq_false_iff_not]; omega) (wp_skip (tc H33 fun _ H36 => tb fun _ H37 => (vm (fg3 F35) (wv (V_notd V t0) (W_end (en (Ka (Qa F35)) fun A38 _ F38 => tk H37 (cond_sure (fg0 F38) (by rw [decide_eq_true_eq]; omega) (region_in (vm (fg3 F38) (wv (V_negI V t0 Zb Zb) (vt (W_end (en (Ka (Qb (fx3 F38))) fun A39 _ F39 => tc H36 fun _ H40 => tb fun _ H41 => (vm (fg0 F39) (vm (Sa (fg6 F39)) (vl (Sa t0) t0 (W_sure (c' := false) V V (V_mov V t0) (by rw [decide_eq_false_iff_not]; omega) (wg V t0 (uvm (Sd (fg0 F39))) (wg V (Sa t0) (uvm (Se (fg5 F39))) (wg V (Sb t0) (uvg (Sa t0) t0) (vF (Sc t0) t0 (W_end (en (Ka (Qg F39)) fun A42 _ F42 => tk H41 (cond_not (fg0 F42) (by rw [decide_eq_false_iff_not]; omega) (wp_skip (ta H40 fun _ H43 => (vm (fg1 F42) (vt (vc (W_end (en (Kb (Qa F42)) fun A44 _ F44 => tk H43 (wp_ret (rt2 F44 (rv_tmp (fg1 F44)) (rv_tmp (fg0 F44)) ?_))))))))))))))))))))))))))))))))))))))))))))))
 rw [show ((l.getD 0 0).toNat : Int) - 48 = (-n) by omega]
 exact ⟨rfl, S15.fin0⟩

set_option maxHeartbeats 4000000 in
theorem qfld_c {kd a b f p q u c : Int} {l : List UInt8} {qd : Bool} {w : World}  (h1 : l.length = 1) (h2 : 48 ≤ (l.getD 0 0).toNat ∧ (l.getD 0 0).toNat ≤ 57) (hc : c ≠ 118) (hqd : qd = false) :
  Calls Tryz.prog 114 #[.agg #[.int .i64 kd, .int .i64 a, .int .i64 b, .int .i64 f, .int .i64 p, .int .i64 q, .int .u64 u], .int .u8 c, .agg #[stv l, .bool qd]] w fun e w' => e = .returned (.tuple #[.agg #[.int .i64 kd, .int .i64 (if c = 97 then (((l.getD 0 0).toNat : Int) - 48) else a), .int .i64 (if c = 98 then (((l.getD 0 0).toNat : Int) - 48) else b), .int .i64 (if c = 102 then (((l.getD 0 0).toNat : Int) - 48) else f), .int .i64 (if c = 112 then (((l.getD 0 0).toNat : Int) - 48) else p), .int .i64 (if c = 97 ∨ c = 98 ∨ c = 102 ∨ c = 112 then q else (((l.getD 0 0).toNat : Int) - 48)), .int .u64 u], .int .i64 0]) ∧ St w NoX [] w' := by
 refine ci3 38 Tryz.func114 V (fun A0 _ F0 => ?_)
 have hS := St.nil w
 refine tb fun _ H1 => (wB (#[.int .i64 (kd), .int .i64 (a), .int .i64 (b), .int .i64 (f), .int .i64 (p), .int .i64 (q), .int .u64 (u)]) hS (fg0 F0) (fun g2 w2 c2 hc2 S2 => wB (#[(stv l), .bool (qd)]) S2 (Sa (fg2 F0)) (fun g3 w3 c3 hc3 S3 => wA (#[.int .i64 0, .int .i64 0, .int .i64 0, .int .i64 0, .int .i64 0, .int .i64 0, .int .u64 0]) S3 (fun g4 w4 c4 hc4 S4 => vc (W_end (en (Qa (Kc F0)) fun A5 _ F5 => tc H1 fun _ H6 => tb fun _ H7 => (fa 1 (fg1 F5) (rL (.bool (qd)) t0 (S4.ob 1 hc3) (W_end (en (Ka (Qa F5)) fun A8 _ F8 => tk H7 (cond_not (fg0 F8) hqd (wp_skip (tc H6 fun _ H9 => tb fun _ H10 => (vm (fg5 F8) (ve t0 V (W_end (en (Ka (Qa F8)) fun A11 _ F11 => tk H10 (cond_not (fg0 F11) (by rw [decide_eq_false_iff_not]; omega) (wp_skip (ta H9 fun _ H12 => (fa 0 (fg3 F11) (rL (stv l) t0 (S4.ob 1 hc3) (wc (args3 t0 V V) (qint_c (lo := (-1000000000)) (hi := 1000000000) Zf Zf Zf Zf) (C0 S4 fun w13 S13 => vm t0 (vx (.int .i64 ((((l.getD 0 0).toNat : Int) - 48))) t0 (vx (.int .i64 (0)) (Sa t0) (va (Sa t0) (va (Sa t0) (W_end (en (Kb (Qf F11)) fun A14 _ F14 => ?_))))))))))))))))))))))))))))))
 have S15 := S13.se [0, 2] [c4, c2]
 refine ta H12 fun _ H16 => (ra (fg6 F14) (S15.ob 1 hc2) (vm (Sa (fg8 F14)) (vm (Sb (fg1 F14)) (wc (args3 (Sb t0) (Sa t0) t0) (qset_c (kd := kd) (a := a) (b := b) (f := f) (p := p) (q := q) (u := u) (c := c) (z := (((l.getD 0 0).toNat : Int) - 48))) (C0 S15 fun w17 S17 => vm (Sd (fg0 F14)) (xsA0 S17 hc4 V V V (Se (fg4 F14)) (Sa t0) (fun w18 c18 hc18 S18 => vt (W_end (en (Ka (Qe F14)) fun A19 _ F19 => tk H16 (wp_ret (rt2 F19 (rvA (fg5 F19) (S18.ob 0 hc18)) (rv_tmp (fg0 F19)) ?_)))))))))))
 exact ⟨rfl, S18.fin0⟩

end Go.Proofs.YtpgkfndbfocibaaGreat
namespace Go.Proofs.YtpgkfndbfocibaaGreat
open Go.RowKit Go.Own Go.Own.R Go.Own.G Go.Own.Gr Go.Own.Ml


set_option maxHeartbeats 4000000 in
theorem qquo_c {l : List UInt8} {w : World}  (hq : l.getD 0 0 ≠ 34) :
  Calls Tryz.prog 118 #[(stv l)] w fun e w' => e = .returned (.tuple #[stv [], .int .i64 0]) ∧ St w NoX [] w' := by
 refine ci1 75 Tryz.func118 V (fun A0 _ F0 => ?_)
 have hS := St.nil w
 refine tb fun _ H1 => (vc (vc (W_end (en (Qb F0) fun A2 _ F2 => tc H1 fun _ H3 => tb fun _ H4 => (vm (fg0 F2) (wv (V_lenT V t0 Tryz.underlying9) (ve t0 V (W_split V V (V_mov V t0) (fun c5 => ?_) (fun c5 => ?_)))))))))
 ·refine xo V t0 (xo V (Sa t0) (xo V (Sb t0) (vT (Sc t0) V (W_end (en (Ka (Qg F2)) fun A6 _ F6 => tk H4 (cond_t (fg0 F6) (tb fun _ H7 => (vc (vc (W_end (en (Kb F6) fun A8 _ F8 => tk H7 (wp_ret (then_ret (rt2 F8 (rv_tmp (fg1 F8)) (rv_tmp (fg0 F8)) ?_))))))))))))))
  exact ⟨rfl, hS.fin0⟩
 refine wg V t0 (uvm (Sd (fg0 F2))) ?_
 have k9 : 0 < l.length := Zh
 obtain ⟨y9, hy9⟩ := get_some (xs := l) (k := 0) k9
 have hu9 := y9.toNat_lt
 have hq9 := gD8 hy9
 refine wg V (Sa t0) (V_idxT V t0 V Zb hy9 Tryz.underlying9) (wg V (Sb t0) (uvn t0 V) (vF (Sc t0) t0 (W_end (en (Ka (Qg F2)) fun A10 _ F10 => tk H4 (cond_sure (fg0 F10) (by rw [decide_eq_true_eq]; intro h; exact hq (hq9.trans (u8_eq (c := 34) Zg h))) (tb fun _ H11 => (vc (vc (W_end (en (Kb F10) fun A12 _ F12 => tk H11 (wp_ret (then_ret (rt2 F12 (rv_tmp (fg1 F12)) (rv_tmp (fg0 F12)) ?_)))))))))))))
 exact ⟨rfl, hS.fin0⟩

set_option maxHeartbeats 4000000 in
theorem qspl_c {l : List UInt8} {w : World}  (hll : 0 < l.length ∧ l.length ≤ 2000) (hq : ∀ b ∈ l, b ≠ 34) (hRb : (splGo l (l.length + 1) 0 []).all (fun w => barB w.1) = true) (hRl : (splGo l (l.length + 1) 0 []).length ≤ 64) :
  Calls Tryz.prog 113 #[(stv l)] w fun e w' => ∃ v, e = .returned (.tuple #[v, .int .i64 0]) ∧ St w NoX [ro 2 sbC v (splGo l (l.length + 1) 0 [])] w' := by
 refine ci1 84 Tryz.func113 V (fun A0 _ F0 => ?_)
 have hS := St.nil w
 refine tb fun _ H1 => (vc (vc (W_end (en (Qb F0) fun A2 _ F2 => tc H1 fun _ H3 => tb fun _ H4 => (vm (fg0 F2) (wv (V_lenT V t0 Tryz.underlying9) (vg t0 V (W_end (en (Ka (Qb F2)) fun A5 _ F5 => tk H4 (cond_not (fg0 F5) (by rw [decide_eq_false_iff_not]; omega) (wp_skip (tc H3 fun _ H6 => tb fun _ H7 => (vm (fg1 F5) (wv (V_eqlT V t0 V) (W_end (en (Ka (Qa F5)) fun A8 _ F8 => tk H7 (cond_not (fg0 F8) (by rw [decide_eq_false_iff_not]; intro q; subst q; simp at hll) (wp_skip (ta H6 fun _ H9 => (vc (W_end (en (Ka F8) fun A10 _ F10 => ta H9 fun _ H11 => vc (W_end (en (Ka F10) fun A12 _ F12 => ta H11 fun _ H13 => (vc (W_end (en (Ka F12) fun A14 Y14 F14 => tc H13 fun _ H15 => wp_block ?_)))))))))))))))))))))))))))
 obtain ⟨c16, hc16, S16⟩ := hS.pnil (s := 2)
 -- loop 8
 refine loopX (fun mz A' w' => SzN A' 84 ∧ A'.defers = [] ∧ (∃ (f : Nat) (pos : Nat) (acc : List (List UInt8 × Bool)) (bv : Value), (mz = f + 1) ∧ (l.length ≤ f + pos) ∧ (pos ≤ l.length) ∧ (splGo l (f + 1) pos acc = (splGo l (l.length + 1) 0 [])) ∧ (EV A' (.tmp 6) = .int .i64 (pos : Int)) ∧ (EV A' (.tmp 5) = .bool false) ∧ (EV A' (.tmp 4) = bv) ∧ (EV A' (.tmp 0) = EV A14 (.tmp 0)) ∧ (St w NoX [ro 2 sbC bv acc] w'))) (l.length + 1) ⟨Y14, F14.d, l.length, 0, [], (.slice none 0 0), rfl, Zb, Zb, rfl, ((fg0 F14).trans Za), ((fg1 F14).trans Za), ((fg2 F14).trans Za), rfl, (by have q0 : c16 = ro 2 sbC (.slice none 0 0) [] := hc16.trans (rfl); subst q0; exact S16)⟩ ?_
 clear S16 hc16
 rintro n17 A17 w17 ⟨Y17, hdf17, f, pos, acc, bv, hm17, hf, hp, hS, l6_17, l5_17, l4_17, u0_17, S17⟩
 have l0_17 := u0_17.trans (fg5 F14)
 obtain ⟨c16_17, hc16_17, S17⟩ := gen1 S17
 refine wp_block (tb fun _ H18 => (vm l0_17 (vm (Sa l6_17) (wv (V_sliceLT (a := pos) V (Sa t0) t0 Zb Zb Tryz.underlying9) (wc (args1 t0) (qquo_c (by first | with_reducible assumption | exact nq_drop hq)) (fun _ w20 ⟨e, hP20⟩ => ⟨_, e, ?_⟩))))))
 have S20 := S17.join hP20
 replace S20 : St w NoX [c16_17] w20 := S20
 refine vm t0 (vx (stv ([] : List UInt8)) t0 (vx (.int .i64 0) (Sa t0) (va (Sa t0) (va (Sa t0) (W_end (en ((((((ck (ck (cq7 (FS.n hdf17) V) V V) V V)).c ((es8 V (es V l0_17)))).c ((es8 V (es V l4_17)))).c ((es8 V (es V l5_17)))).c ((Sh (Sa l6_17)))) fun A21 _ F21 => ta H18 fun _ H22 => (vm (fg5 F21) (wv (xbS (n := 2) (z := .agg #[.string ByteArray.empty, .bool false]) V (parts2 t0 V)) (wA (#[.string ByteArray.empty, .bool false]) S20 (fun g23 w23 c23 hc23 S23 => xsA0 S23 hc23 V V V t0 (Sa t0) (fun w24 c24 hc24 S24 => W_end (en (Ka (Qb F21)) fun A25 _ F25 => tc H22 fun _ H26 => tb fun _ H27 => (vm (fg5 F25) (ve t0 V (W_end (en (Ka (Qa F25)) fun A28 Y28 F28 => tk H27 (cond_sure (fg0 F28) Zo (td fun _ H29 => wp_block ?_))))))))))))))))))
 -- loop 11
 have hac := spl_len hS hRl
 refine loopX (fun mz A' w' => SzN A' 84 ∧ A'.defers = [] ∧ (∃ (n : Nat), (mz = l.length - n) ∧ (∀ j, j < n → ∀ c, l[pos + j]? = some c → c ≠ 32) ∧ (pos + n ≤ l.length) ∧ (EV A' (.tmp 8) = .int .i64 (n : Int)) ∧ (EV A' (.tmp 0) = EV A28 (.tmp 0)) ∧ (EV A' (.tmp 4) = EV A28 (.tmp 4)) ∧ (EV A' (.tmp 5) = EV A28 (.tmp 5)) ∧ (EV A' (.tmp 6) = EV A28 (.tmp 6)) ∧ (EV A' (.tmp 9) = EV A28 (.tmp 9)) ∧ (St w NoX [bx g23 159 #[(stv ([] : List UInt8)), .bool true], ro 2 sbC bv acc] w'))) (l.length - 0) ⟨Y28, F28.d, 0, rfl, (fun j hj => by omega), Zb, ((fg6 F28).trans Za), rfl, rfl, rfl, rfl, rfl, (by subst hc24 hc16_17; exact S24)⟩ ?_
 clear S24 hc24 hc16_17
 rintro n30 A30 w30 ⟨Y30, hdf30, n, hm30, hz, hn, l8_30, u0_30, u4_30, u5_30, u6_30, u9_30, S30⟩
 have l0_30 := u0_30.trans (fg5 F28)
 have l4_30 := u4_30.trans (fg4 F28)
 have l5_30 := u5_30.trans (fg3 F28)
 have l6_30 := u6_30.trans (fg2 F28)
 have l9_30 := u9_30.trans (fg1 F28)
 obtain ⟨c24_30, c16_30, hc24_30, hc16_30, S30⟩ := gen2 S30
 refine td fun _ H31 => tb fun _ H32 => (vm l6_30 (vm (Sa l8_30) (ad (Sa t0) t0 (vm (Sc l0_30) (wv (V_lenT V t0 Tryz.underlying9) (vl (Sb t0) t0 (W_split V V (V_mov V t0) (fun c33 => ?_) (fun c33 => ?_))))))))
 ·refine wg V t0 (uvm (Sg l0_30)) (wg V (Sa t0) (uvm (Sh l6_30)) (wg V (Sb t0) (uvm (Sh (Sa l8_30))) (wg V (Sc t0) (uad (Sa t0) t0) ?_)))
  have k34 : (pos + n) < l.length := Zh
  obtain ⟨y34, hy34⟩ := get_some (xs := l) (k := (pos + n)) k34
  have hu34 := y34.toNat_lt
  refine wg V (Sd t0) (V_idxT V (Sc t0) t0 Zb hy34 Tryz.underlying9) (wg V (Se t0) (uvn t0 V) (vT (Sf t0) t0 (W_end (en ((((((((ck (ck (ck (ck (ck (ck (ck (cq7 (FS.n hdf30) V) V V) V V) V V) V V) V V) V V) V V)).c ((es8 V (es6 V l0_30)))).c ((es8 V (es6 V l4_30)))).c ((es8 V (es6 V l5_30)))).c ((es8 V (es6 V l6_30)))).c ((es8 V (es6 V l8_30)))).c ((Sh (Sf l9_30)))) fun A35 _ F35 => tk H32 (cd (fg6 F35) (fun c36 => ?_) fun c36 => ?_)))))
  ·refine wp_skip (tk H31 (wp_block (region_in (vm (fg1 F35) (ad t0 V (vt (W_end (en (Ka (Qb (fx1 F35))) fun A37 Y37 F37 => inb_n (then_n ⟨l.length - (n + 1), by simp only [hm30]; omega, Y37, F37.d, (n + 1), rfl, (nz_stepW hz hy34 Zb), Zb, ((fg0 F37).trans Za), ((fg5 F37).trans (fg5 F28).symm), ((fg4 F37).trans (fg4 F28).symm), ((fg3 F37).trans (fg3 F28).symm), ((fg2 F37).trans (fg2 F28).symm), ((fg1 F37).trans (fg1 F28).symm), (by subst hc24_30 hc16_30; exact S30)⟩)))))))))
  have hwe := wE_at hz hn (.inr (by rw [hy34, u8_eq (c := 32) Zg (show (y34.toNat : Int) = ((32 : Nat) : Int) by omega)]; rfl))
  refine wp_exit (then_exit (then_exit (inb_hit (ta H29 fun _ H38 => (vm (fg5 F35) (vm (Sa (fg2 F35)) (vm (Sb (fg2 F35)) (vm (Sc (fg1 F35)) (ad (Sa t0) t0 (wv (V_sliceT (a := pos) (b := (pos + n)) V (Sd t0) (Sc t0) t0 Zb Zb Zb Zb Tryz.underlying9) (wv (xbS (n := 2) (z := .agg #[.string ByteArray.empty, .bool false]) V (parts1 t0)) (xsA 0 S30 V hc24_30 V V V (Sg (fg0 F35)) t0 (fun w40 c40 hc40 S40 => ?_)))))))))))))
  replace S40 : St w NoX [c40, c16_30] w40 := S40
  refine W_end (en (Qg F35) fun A41 _ F41 => ta H38 fun _ H42 => (fa 0 (fg0 F41) (rL (stv ((l.take (pos + n)).drop pos)) t0 (S40.ob 0 hc40) (wc (args1 t0) (qbar_c Zu) (C0 S40 fun w43 S43 => wv (V_not V t0) (W_end (en (Ka (Qc F41)) fun A44 _ F44 => tk H42 (cond_not (fg0 F44) (by rw [spl_bar hS hRb hwe]; rfl) (wp_skip (ta H26 fun _ H45 => (vm (fg5 F44) (ra (Sa (fg1 F44)) (S43.ob 0 hc40) ?_))))))))))))
  have hll46 : [(((l.take (pos + n)).drop pos), false)].length = 1 := rfl
  refine xsL (vs := [.agg #[(stv ((l.take (pos + n)).drop pos)), .bool false]]) (xs := ([(((l.take (pos + n)).drop pos), false)].flatMap sbC)) 2 S43 V V V (parts1 t0) Tryz.underlying155 (fun g46 w46 c46 hc46 S46 => ?_)
  replace hc46 : c46 = ro 2 sbC (.slice (some ⟨g46, 0, none⟩) 1 1) [(((l.take (pos + n)).drop pos), false)] := hc46
  replace S46 : St w NoX [c46, c40, c16_30] w46 := S46
  refine W_appS 2 2 S46 V hc16_30 V V V (Sb t0) t0 Tryz.underlying155 Tryz.underlying155 (z := .agg #[.string ByteArray.empty, .bool false]) (bytes := 24) kr V Zg (ow_at (S46.cq 0 hc46)) (ones_r sbC_one) Zd Zd (fun v47 w47 c47 hc47 S47 => ?_)
  replace hc47 : c47 = ro 2 sbC v47 (acc ++ [(((l.take (pos + n)).drop pos), false)]) := hc47.trans (app_eqR Zc)
  replace S47 : St w NoX [c46, c40, c47] w47 := S47
  refine vt (W_end (en (Ka (Qd (fx5 F44))) fun A48 _ F48 => ?_))
  have S49 := S47.se [1, 2] [c40, c47]
  refine ta H45 fun _ H50 => (vm (fg5 F48) (vm t0 (wg V t0 (ufa 0 (Sb (fg2 F48))) (wq V (Sa t0) (urL (stv ((l.take (pos + n)).drop pos)) t0 (S49.ob 0 hc40)) (wg V (Sb t0) (V_lenT V t0 Tryz.underlying9) (wg V (Sc t0) (uvg t0 V) (vF (Sd t0) t0 (vt (W_end (en (Ka (Qa (Kd (Qb (fx5 F48))))) fun A51 _ F51 => ta H50 fun _ H52 => (vm (fg9 F51) (vm (Sa (fg8 F51)) (ad (Sa t0) t0 (vt (W_end (en (Ka (Qc (fx9 F51))) fun A53 _ F53 => tc H52 fun _ H54 => tb fun _ H55 => (vm (fg0 F53) (vm (Sa (fg10 F53)) (wv (V_lenT V t0 Tryz.underlying9) (ve (Sb t0) t0 (W_end (en (Ka (Qc F53)) fun A56 _ F56 => tk H55 (cond_not (fg0 F56) (by rw [decide_eq_false_iff_not]; omega) (wp_skip (tc H54 fun _ H57 => tb fun _ H58 => vm (fg11 F56) (vm (Sa (fg1 F56)) (wv (V_idxT V (Sa t0) t0 Zb hy34 Tryz.underlying9) (vn t0 V (W_end (en (Ka (Qc F56)) fun A60 _ F60 => tk H58 (cond_not (fg0 F60) (by first | (simp [c36]; done) | exact decide_eq_true Zb | exact decide_eq_false Zb) (wp_skip (tk H57 (region_in (vm (fg2 F60) (ad t0 V (vt (W_end (en (Ka (Qb (fx2 F60))) fun A61 Y61 F61 => inb_n ?_)))))))))))))))))))))))))))))))))))))))
  have S62 := S49.se [1] [c47]
  refine then_n ⟨(f - 1) + 1, by simp only [hm17]; omega, Y61, F61.d, (f - 1), (pos + n + 1), (acc ++ [(((l.take (pos + n)).drop pos), false)]), v47, rfl, Zb, Zb, (by have q := spl_next hS hwe Zb; rw [show f - 1 + 1 = f by omega]; exact q), ((fg0 F61).trans Za), ((fg3 F61).trans (by congr 1; rw [decide_eq_false_iff_not, List.length_drop, List.length_take]; omega)), ((fg8 F61).trans Za), ((fg12 F61).trans (fg5 F14).symm), (by subst hc47; exact S62)⟩
 have hwe := wE_at hz hn (.inl Zb)
 refine xo V t0 (xo V (Sa t0) (xo V (Sb t0) (xo V (Sc t0) (xo V (Sd t0) (xo V (Se t0) (vF (Sf t0) V (W_end (en ((((((((ck (ck (ck (ck (ck (ck (ck (cq7 (FS.n hdf30) V) V V) V V) V V) V V) V V) V V) V V)).c ((es8 V (es6 V l0_30)))).c ((es8 V (es6 V l4_30)))).c ((es8 V (es6 V l5_30)))).c ((es8 V (es6 V l6_30)))).c ((es8 V (es6 V l8_30)))).c ((Sh (Sf l9_30)))) fun A63 _ F63 => tk H32 (cond_f (fg6 F63) (wp_exit (then_exit (then_exit (inb_hit (ta H29 fun _ H64 => (vm (fg5 F63) (vm (Sa (fg2 F63)) (vm (Sb (fg2 F63)) (vm (Sc (fg1 F63)) (ad (Sa t0) t0 (wv (V_sliceT (a := pos) (b := (pos + n)) V (Sd t0) (Sc t0) t0 Zb Zb Zb Zb Tryz.underlying9) (wv (xbS (n := 2) (z := .agg #[.string ByteArray.empty, .bool false]) V (parts1 t0)) (xsA 0 S30 V hc24_30 V V V (Sg (fg0 F63)) t0 (fun w66 c66 hc66 S66 => ?_)))))))))))))))))))))))
 replace S66 : St w NoX [c66, c16_30] w66 := S66
 refine W_end (en (Qg F63) fun A67 _ F67 => ta H64 fun _ H68 => (fa 0 (fg0 F67) (rL (stv ((l.take (pos + n)).drop pos)) t0 (S66.ob 0 hc66) (wc (args1 t0) (qbar_c Zu) (C0 S66 fun w69 S69 => wv (V_not V t0) (W_end (en (Ka (Qc F67)) fun A70 _ F70 => tk H68 (cond_not (fg0 F70) (by rw [spl_bar hS hRb hwe]; rfl) (wp_skip (ta H26 fun _ H71 => (vm (fg5 F70) (ra (Sa (fg1 F70)) (S69.ob 0 hc66) ?_))))))))))))
 have hll72 : [(((l.take (pos + n)).drop pos), false)].length = 1 := rfl
 refine xsL (vs := [.agg #[(stv ((l.take (pos + n)).drop pos)), .bool false]]) (xs := ([(((l.take (pos + n)).drop pos), false)].flatMap sbC)) 2 S69 V V V (parts1 t0) Tryz.underlying155 (fun g72 w72 c72 hc72 S72 => ?_)
 replace hc72 : c72 = ro 2 sbC (.slice (some ⟨g72, 0, none⟩) 1 1) [(((l.take (pos + n)).drop pos), false)] := hc72
 replace S72 : St w NoX [c72, c66, c16_30] w72 := S72
 refine W_appS 2 2 S72 V hc16_30 V V V (Sb t0) t0 Tryz.underlying155 Tryz.underlying155 (z := .agg #[.string ByteArray.empty, .bool false]) (bytes := 24) kr V Zg (ow_at (S72.cq 0 hc72)) (ones_r sbC_one) Zd Zd (fun v73 w73 c73 hc73 S73 => ?_)
 replace hc73 : c73 = ro 2 sbC v73 (acc ++ [(((l.take (pos + n)).drop pos), false)]) := hc73.trans (app_eqR Zc)
 replace S73 : St w NoX [c72, c66, c73] w73 := S73
 refine vt (W_end (en (Ka (Qd (fx5 F70))) fun A74 _ F74 => ta H71 fun _ H76 => (vm (fg5 F74) (vm t0 (wg V t0 (ufa 0 (Sb (fg2 F74))) (wq V (Sa t0) (urL (stv ((l.take (pos + n)).drop pos)) t0 (S73.ob 1 hc66)) (wg V (Sb t0) (V_lenT V t0 Tryz.underlying9) (wg V (Sc t0) (uvg t0 V) (vF (Sd t0) t0 (vt (W_end (en (Ka (Qa (Kd (Qb (fx5 F74))))) fun A77 _ F77 => ta H76 fun _ H78 => vm (fg9 F77) (vm (Sa (fg8 F77)) (ad (Sa t0) t0 (vt (W_end (en (Ka (Qc (fx9 F77))) fun A79 _ F79 => tc H78 fun _ H80 => tb fun _ H81 => (vm (fg0 F79) (vm (Sa (fg10 F79)) (wv (V_lenT V t0 Tryz.underlying9) (ve (Sb t0) t0 (W_end (en (Ka (Qc F79)) fun A82 _ F82 => tk H81 (cond_sure (fg0 F82) (by rw [decide_eq_true_eq]; omega) (wp_exit (then_exit (inb_miss V (then_exit (inb_hit (tc H15 fun _ H83 => tb fun _ H84 => (vm (fg2 F82) (W_sure (c' := false) V V (V_mov V t0) (by rw [decide_eq_false_iff_not, List.length_drop, List.length_take]; omega) (wg V t0 (uvm (Sb (fg7 F82))) (wg V (Sa t0) (ule_ t0 (ow_at (S73.cq 2 hc73))) (wg V (Sb t0) (uvg t0 V) (vF (Sc t0) t0 (W_end (en (Ka (Qe F82)) fun A85 _ F85 => tk H84 (cond_not (fg0 F85) (by rw [decide_eq_false_iff_not, spl_end hS hwe Zb]; omega) (wp_skip (ta H83 fun _ H87 => (vm (fg8 F85) (vt (vc (W_end (en (Kb (Qa F85)) fun A88 _ F88 => tk H87 (wp_ret (rt2 F88 (rv_tmp (fg1 F88)) (rv_tmp (fg0 F88)) ?_))))))))))))))))))))))))))))))))))))))))))))))))
 exact ⟨_, rfl, (S73.f1 2 (hc73.trans (congrArg (ro 2 sbC _) (spl_end hS hwe Zb))))⟩

end Go.Proofs.YtpgkfndbfocibaaGreat
namespace Go.Proofs.YtpgkfndbfocibaaGreat
open Go.RowKit Go.Own Go.Own.R Go.Own.G Go.Own.Gr Go.Own.Ml


set_option maxHeartbeats 4000000 in
theorem qprs_c {l : List UInt8} {w : World}  (hll : 0 < l.length ∧ l.length ≤ 2000) (hq : ∀ b ∈ l, b ≠ 34) (hRb : (splGo l (l.length + 1) 0 []).all (fun w => barB w.1) = true) (hok : okW (splGo l (l.length + 1) 0 []) = true) :
  Calls Tryz.prog 92 #[(stv l)] w fun e w' => e = .returned (.tuple #[.agg #[.int .i64 (prs (splGo l (l.length + 1) 0 [])).kd, .int .i64 (prs (splGo l (l.length + 1) 0 [])).a, .int .i64 (prs (splGo l (l.length + 1) 0 [])).b, .int .i64 (prs (splGo l (l.length + 1) 0 [])).f, .int .i64 (prs (splGo l (l.length + 1) 0 [])).p, .int .i64 (prs (splGo l (l.length + 1) 0 [])).q, .int .u64 (prs (splGo l (l.length + 1) 0 [])).u], .int .i64 0]) ∧ St w NoX [] w' := by
 obtain ⟨k0, hk0⟩ := okW_k hok
 have hRl := okW_l hok
 have hk5 := okW_5 hok
 refine ci1 87 Tryz.func92 V (fun A0 _ F0 => ?_)
 have hS := St.nil w
 refine tb fun _ H1 => (wA (#[.int .i64 0, .int .i64 0, .int .i64 0, .int .i64 0, .int .i64 0, .int .i64 0, .int .u64 0]) hS (fun g2 w2 c2 hc2 S2 => vc (W_end (en (Qa (Ka F0)) fun A3 _ F3 => ta H1 fun _ H4 => (vm (fg1 F3) (wc (args1 t0) (qspl_c Zl Zl Zl Zl) (fun _ w5 ⟨v_5, e, hP5⟩ => ⟨_, e, ?_⟩)))))))
 obtain ⟨c_5, hc_5, hP5⟩ := gen1 hP5
 have S5 := S2.j1 hP5
 refine vm t0 (vx v_5 t0 (vx (.int .i64 (0)) (Sa t0) (va (Sa t0) (va (Sa t0) (W_end (en (Kb (Qe F3)) fun A6 _ F6 => tc H4 fun _ H7 => tb fun _ H8 => (vm (fg0 F6) (vn t0 V (W_end (en (Ka (Qa F6)) fun A9 _ F9 => tk H8 (cond_not (fg0 F9) Zg (wp_skip (tc H7 fun _ H10 => tb fun _ H11 => (vc (W_end (en (Ka F9) fun A12 Y12 F12 => tk H11 (wp_block ?_)))))))))))))))))
 -- loop 5
 refine loopX (fun mz A' w' => SzN A' 87 ∧ A'.defers = [] ∧ (∃ (k : Nat), (mz = 12 - k) ∧ (1 ≤ k ∧ k ≤ 12) ∧ ((List.range' k (12 - k)).find? (mtc (splGo l (l.length + 1) 0 [])) = some k0) ∧ (EV A' (.tmp 6) = .int .i64 (k : Int)) ∧ (EV A' (.tmp 2) = EV A12 (.tmp 2)) ∧ (EV A' (.tmp 4) = EV A12 (.tmp 4)) ∧ (St w NoX [ro 2 sbC v_5 (splGo l (l.length + 1) 0 []), bx g2 50 #[.int .i64 0, .int .i64 0, .int .i64 0, .int .i64 0, .int .i64 0, .int .i64 0, .int .u64 0]] w'))) (12 - 1) ⟨Y12, F12.d, 1, rfl, Zb, hk0, ((fg0 F12).trans Za), rfl, rfl, (by subst hc_5 hc2; exact S5)⟩ ?_
 clear S5 hc_5 hc2
 rintro n13 A13 w13 ⟨Y13, hdf13, k, hm13, hk1, hK, l6_13, u2_13, u4_13, S13⟩
 have l2_13 := u2_13.trans (fg4 F12)
 have l4_13 := u4_13.trans (fg3 F12)
 obtain ⟨c_13, c2_13, hc_13, hc2_13, S13⟩ := gen2 S13
 refine td fun _ H14 => tb fun _ H15 => (vm l6_13 (vk t0 V (W_end (en (((((ck (cq1 (FS.n hdf13) V) V V)).c (es2 V l2_13)).c (es2 V l4_13)).c (Sb l6_13)) fun A16 _ F16 => tk H15 (cond_sure (fg3 F16) (by rw [decide_eq_true_eq]; have := mt_le hK; omega) (wp_skip (tc H14 fun _ H17 => wp_block (tb fun _ H18 => (vm (fg0 F16) (wc (args1 t0) (qwrd_c (k := (k : Int))) (fun _ w19 ⟨e, hP19⟩ => ⟨_, e, ?_⟩)))))))))))
 have S19 := S13.join hP19
 replace S19 : St w NoX [c_13, c2_13] w19 := S19
 have hwb19 := wrdB_le (k : Int)
 refine vm t0 (vx (stv (wrdA (k : Int))) t0 (vx (stv (wrdB (k : Int))) (Sa t0) (va (Sa t0) (va (Sa t0) (W_end (en (Kb (Qe F16)) fun A20 _ F20 => tc H18 fun _ H21 => tb fun _ H22 => (vm (fg3 F20) (le_ t0 (ow_at (S19.cq 0 hc_13)) (vm (Sb (fg0 F20)) (wv (V_lenT V t0 Tryz.underlying9) (ad t0 V (vn (Sc t0) t0 (W_split V V (V_mov V t0) (fun c23 => ?_) (fun c23 => ?_))))))))))))))
 ·refine xo V t0 (xo V (Sa t0) (xo V (Sb t0) (xo V (Sc t0) (xo V (Sd t0) (xo V (Se t0) (vT (Sf t0) V (vm t0 (xo V t0 (xo V (Sa t0) (xo V (Sb t0) (xo V (Sc t0) (vT (Sd t0) V (W_end (en (Ke (Qb (Kf (Qg F20)))) fun A24 _ F24 => tk H22 (cond_t (fg0 F24) (wp_exit (then_exit (inb_hit (tk H17 (region_in (vm (fg13 F24) (ad t0 V (vt (W_end (en (Ka (Qb (fx13 F24))) fun A25 Y25 F25 => then_n ⟨12 - (k + 1), by have := mt_le hK; simp only [hm13]; omega, Y25, F25.d, (k + 1), rfl, (by have := mt_le hK; omega), (mt_no hK (fun q => by have := c23; omega)), ((fg0 F25).trans Za), ((fg15 F25).trans (fg4 F12).symm), ((fg14 F25).trans (fg3 F12).symm), (by subst hc_13 hc2_13; exact S19)⟩)))))))))))))))))))))))))
 refine wg V t0 (uvm (Sg (fg3 F20))) ?_
 have k26 : 0 < (splGo l (l.length + 1) 0 []).length := om
 obtain ⟨y26, hy26⟩ := get_some (xs := (splGo l (l.length + 1) 0 [])) (k := 0) k26
 have hqd26 := okW_q hok hy26
 obtain ⟨B26, O26, C26, hv26⟩ := (SlN.blk (ow_at (S19.chq 0 rfl hc_13)) om)
 refine wg V (Sa t0) (V_ixS (off := O26 + 0 * 2) 2 0 V t0 V hv26 Zb k26 Tryz.underlying155 kr V) (wg V (Sb t0) (V_fa (off' := O26 + 0 * 2 + 0) V t0 Tryz.underlying159 V Zj V) (wq V (Sc t0) (urd (stv y26.1) t0 (SlN.row sbC_len (ow_at (S19.cq 0 hc_13)) hv26 hy26 V 0 _ V)) (wg V (Sd t0) (uvm (Sh (Sc (fg1 F20)))) (wg V (Se t0) (V_neqT V (Sa t0) t0) (vF (Sf t0) t0 (W_split V V (V_mov V t0) (fun c27 => ?_) (fun c27 => ?_)))))))
 ·refine xo V t0 (xo V (Sa t0) (xo V (Sb t0) (xo V (Sc t0) (vT (Sd t0) V (W_end (en (Ke (Qb (Kf (Qg F20)))) fun A28 _ F28 => tk H22 (cond_t (fg0 F28) (wp_exit (then_exit (inb_hit (tk H17 (region_in (vm (fg13 F28) (ad t0 V (vt (W_end (en (Ka (Qb (fx13 F28))) fun A29 Y29 F29 => then_n ⟨12 - (k + 1), by have := mt_le hK; simp only [hm13]; omega, Y29, F29.d, (k + 1), rfl, (by have := mt_le hK; omega), (mt_no hK (fun q => c27 (by rw [← gDw hy26]; exact q.2))), ((fg0 F29).trans Za), ((fg15 F29).trans (fg4 F12).symm), ((fg14 F29).trans (fg3 F12).symm), (by subst hc_13 hc2_13; exact S19)⟩)))))))))))))))))
 have hkk := mt_yes hK Zb (by rw [gDw hy26]; exact Decidable.not_not.1 c27)
 have hk5n : (k : Int) ≠ 5 := fun e => hk5 (by rw [hk0, hkk]; congr 1; omega)
 refine wg V t0 (uvm (Sh (Sg (fg3 F20)))) (wg V (Sa t0) (V_ixS (off := O26 + 0 * 2) 2 0 V t0 V hv26 Zb k26 Tryz.underlying155 kr V) (wg V (Sb t0) (V_fa (off' := O26 + 0 * 2 + 1) V t0 Tryz.underlying159 V Zj V) (wq V (Sc t0) (urd (.bool (y26.2)) t0 (SlN.row sbC_len (ow_at (S19.cq 0 hc_13)) hv26 hy26 V 1 _ V)) (vF (Sd t0) t0 (W_end (en (Ke (Qb (Kf (Qg F20)))) fun A31 _ F31 => tk H22 (cond_not (fg0 F31) hqd26 (wp_skip (ta H21 fun _ H32 => (vm (fg13 F31) (wv (xbS (n := 7) (z := .agg #[.int .i64 0, .int .i64 0, .int .i64 0, .int .i64 0, .int .i64 0, .int .i64 0, .int .u64 0]) V (parts1 t0)) (wA (#[.int .i64 0, .int .i64 0, .int .i64 0, .int .i64 0, .int .i64 0, .int .i64 0, .int .u64 0]) S19 (fun g33 w33 c33 hc33 S33 => xsA0 S33 hc33 V V V t0 (Sa t0) (fun w34 c34 hc34 S34 => W_end (en (Ka (Qb F31)) fun A35 _ F35 => ta H32 fun _ H36 => (vc (W_end (en (Ka F35) fun A37 Y37 F37 => tc H36 fun _ H38 => tb fun _ H39 => (vc (W_end (eN (Qa F37) fun A40 E40 Y40 F40 => ?_)))))))))))))))))))))
 have l2_40 := lookE E40 2 (Sa (fg17 F37))
 have l4_40 := lookE E40 4 (Sa (fg16 F37))
 have l8_40 := lookE E40 8 (Sa (fg13 F37))
 have l9_40 := lookE E40 9 (Sa (fg1 F37))
 have l10_40 := lookE E40 10 (Sa (fg0 F37))
 have l11_40 := lookE E40 11 t0
 clear E40 Y37 F37
 refine tk H39 (wp_block ?_)
 -- loop 12
 refine loopX (fun mz A' w' => SzN A' 87 ∧ A'.defers = [] ∧ (∃ (i : Nat) (za : Int) (zb : Int) (zf : Int) (zp : Int) (zq : Int), (mz = (wrdB (k : Int)).length - i) ∧ (i ≤ (wrdB (k : Int)).length) ∧ (prF (splGo l (l.length + 1) 0 []) ((wrdB (k : Int)).drop i) (i + 1) ⟨(k : Int), za, zb, zf, zp, zq, 0⟩ = (prs (splGo l (l.length + 1) 0 []))) ∧ (EV A' (.tmp 11) = .int .i64 (i : Int)) ∧ (EV A' (.tmp 2) = EV A40 (.tmp 2)) ∧ (EV A' (.tmp 4) = EV A40 (.tmp 4)) ∧ (EV A' (.tmp 8) = EV A40 (.tmp 8)) ∧ (EV A' (.tmp 9) = EV A40 (.tmp 9)) ∧ (EV A' (.tmp 10) = EV A40 (.tmp 10)) ∧ (St w NoX [bx g33 50 #[.int .i64 (k : Int), .int .i64 (za), .int .i64 (zb), .int .i64 (zf), .int .i64 (zp), .int .i64 (zq), .int .u64 0], ro 2 sbC v_5 (splGo l (l.length + 1) 0 []), bx g2 50 #[.int .i64 0, .int .i64 0, .int .i64 0, .int .i64 0, .int .i64 0, .int .i64 0, .int .u64 0]] w'))) ((wrdB (k : Int)).length - 0) ⟨Y40, F40.d, 0, 0, 0, 0, 0, 0, rfl, Zb, (by rw [hkk] at hk0; exact prs_of hk0), ((l11_40).trans Za), rfl, rfl, rfl, rfl, rfl, (by subst hc34 hc_13 hc2_13; exact S34)⟩ ?_
 clear S34 hc34 hc_13 hc2_13
 rintro n41 A41 w41 ⟨Y41, hdf41, i, za, zb, zf, zp, zq, hm41, hi, hF, l11_41, u2_41, u4_41, u8_41, u9_41, u10_41, S41⟩
 have l2_41 := u2_41.trans l2_40
 have l4_41 := u4_41.trans l4_40
 have l8_41 := u8_41.trans l8_40
 have l9_41 := u9_41.trans l9_40
 have l10_41 := u10_41.trans l10_40
 obtain ⟨c34_41, c_41, c2_41, hc34_41, hc_41, hc2_41, S41⟩ := gen3 S41
 refine td fun _ H42 => tb fun _ H43 => (vm l11_41 (vm (Sa l8_41) (wv (V_lenT V t0 Tryz.underlying9) (vl (Sb t0) t0 (W_end (en ((((((((ck (cq3 (FS.n hdf41) V) V V)).c (es4 V l2_41)).c (es4 V l4_41)).c (es4 V l8_41)).c (es4 V l9_41)).c (es4 V l10_41)).c (Sd l11_41)) fun A44 _ F44 => tk H43 (cd (fg6 F44) (fun c45 => ?_) fun c45 => ?_)))))))
 ·refine wp_skip (tc H42 fun _ H46 => wp_block (td fun _ H47 => ?_))
  have k48 : i < (wrdB (k : Int)).length := Zh
  obtain ⟨y48, hy48⟩ := get_some (xs := (wrdB (k : Int))) (k := i) k48
  have hu48 := y48.toNat_lt
  have hv48 := wrdB_v hk5n hy48
  have k49 : (i + 1) < (splGo l (l.length + 1) 0 []).length := om
  obtain ⟨y49, hy49⟩ := get_some (xs := (splGo l (l.length + 1) 0 [])) (k := (i + 1)) k49
  have hqd49 := okW_q hok hy49
  have hd49 := okW_d hok hy49
  refine region_monoS 14 15 [none, none, none, none, none, none, none, none, none, some (SPv [] (fun _ => fun u l' => u = .tuple #[.agg #[.int .i64 (k : Int), .int .i64 (if (y48.toNat : Int) = 97 then (((y49.1.getD 0 0).toNat : Int) - 48) else za), .int .i64 (if (y48.toNat : Int) = 98 then (((y49.1.getD 0 0).toNat : Int) - 48) else zb), .int .i64 (if (y48.toNat : Int) = 102 then (((y49.1.getD 0 0).toNat : Int) - 48) else zf), .int .i64 (if (y48.toNat : Int) = 112 then (((y49.1.getD 0 0).toNat : Int) - 48) else zp), .int .i64 (if (y48.toNat : Int) = 97 ∨ (y48.toNat : Int) = 98 ∨ (y48.toNat : Int) = 102 ∨ (y48.toNat : Int) = 112 then zq else (((y49.1.getD 0 0).toNat : Int) - 48)), .int .u64 0], .int .i64 0] ∧ l' = []) 9), none, none, none, some (SPv [] (fun _ => fun u l' => ∃ g_, u = .pointer (some ⟨g_, 0, none⟩) ∧ ∃ c_, c_ = bx g_ 50 #[.int .i64 0, .int .i64 0, .int .i64 0, .int .i64 0, .int .i64 0, .int .i64 0, .int .u64 0] ∧ l' = [c_]) 13)] kr kr (dr (fun _ hx _ => (ura (fg2 F44) ((S41.grow hx).ob 0 hc34_41))) (dm (Sa (fg3 F44)) (dm (Sb (fg0 F44)) (dv (V_idxT V (Sa t0) t0 Zb hy48 Tryz.underlying9) (dm (Sd (fg4 F44)) (dm (Se (fg0 F44)) (dv (uad t0 V) ?_)))))))
  obtain ⟨B49, O49, C49, hv49⟩ := (SlN.blk (ow_at (S41.chq 1 rfl hc_41)) om)
  refine dv (V_ixS (off := O49 + (i + 1) * 2) 2 (i + 1) V (Sb t0) t0 hv49 Zb k49 Tryz.underlying155 kr V) (dr (fun sx hx hF => (VR_ldR (ys := sbC y49) V t0 (SlN.row sbC_len (ow_at ((S41.grow hx).cq 1 hc_41)) hv49 hy49 V) Tryz.underlying159 V kr)) (D_call (ts := []) (vs := []) (C0 := fun _ => fun u l' => u = .tuple #[.agg #[.int .i64 (k : Int), .int .i64 (if (y48.toNat : Int) = 97 then (((y49.1.getD 0 0).toNat : Int) - 48) else za), .int .i64 (if (y48.toNat : Int) = 98 then (((y49.1.getD 0 0).toNat : Int) - 48) else zb), .int .i64 (if (y48.toNat : Int) = 102 then (((y49.1.getD 0 0).toNat : Int) - 48) else zf), .int .i64 (if (y48.toNat : Int) = 112 then (((y49.1.getD 0 0).toNat : Int) - 48) else zp), .int .i64 (if (y48.toNat : Int) = 97 ∨ (y48.toNat : Int) = 98 ∨ (y48.toNat : Int) = 102 ∨ (y48.toNat : Int) = 112 then zq else (((y49.1.getD 0 0).toNat : Int) - 48)), .int .u64 0], .int .i64 0] ∧ l' = []) (C := fun u l' => u = .tuple #[.agg #[.int .i64 (k : Int), .int .i64 (if (y48.toNat : Int) = 97 then (((y49.1.getD 0 0).toNat : Int) - 48) else za), .int .i64 (if (y48.toNat : Int) = 98 then (((y49.1.getD 0 0).toNat : Int) - 48) else zb), .int .i64 (if (y48.toNat : Int) = 102 then (((y49.1.getD 0 0).toNat : Int) - 48) else zf), .int .i64 (if (y48.toNat : Int) = 112 then (((y49.1.getD 0 0).toNat : Int) - 48) else zp), .int .i64 (if (y48.toNat : Int) = 97 ∨ (y48.toNat : Int) = 98 ∨ (y48.toNat : Int) = 102 ∨ (y48.toNat : Int) = 112 then zq else (((y49.1.getD 0 0).toNat : Int) - 48)), .int .u64 0], .int .i64 0] ∧ l' = []) V V V Tryz.func114 kr V (args3 (Sh t0) (Se t0) t0) V V V V (fun sx hx hF => ?_) (fun u50 l50 hu50 => ?_)))
  ·refine (qfld_c (kd := (k : Int)) (a := za) (b := zb) (f := zf) (p := zp) (q := zq) (u := 0) (c := (y48.toNat : Int))  Zf Zf Zf Ze).mono ?_
   rintro _ _ ⟨rfl, hz⟩
   exact ⟨_, rfl, _, ⟨rfl, rfl⟩, hz⟩
  obtain ⟨rfl, hl50⟩ := hu50
  refine dm t0 (dx (.agg #[.int .i64 (k : Int), .int .i64 ((if (y48.toNat : Int) = 97 then (((y49.1.getD 0 0).toNat : Int) - 48) else za)), .int .i64 ((if (y48.toNat : Int) = 98 then (((y49.1.getD 0 0).toNat : Int) - 48) else zb)), .int .i64 ((if (y48.toNat : Int) = 102 then (((y49.1.getD 0 0).toNat : Int) - 48) else zf)), .int .i64 ((if (y48.toNat : Int) = 112 then (((y49.1.getD 0 0).toNat : Int) - 48) else zp)), .int .i64 ((if (y48.toNat : Int) = 97 ∨ (y48.toNat : Int) = 98 ∨ (y48.toNat : Int) = 102 ∨ (y48.toNat : Int) = 112 then zq else (((y49.1.getD 0 0).toNat : Int) - 48))), .int .u64 (0)]) t0 (dx (.int .i64 0) (Sa t0) (D_lay (ts := []) (vs := []) (C0 := fun _ => fun u l' => ∃ g_, u = .pointer (some ⟨g_, 0, none⟩) ∧ ∃ c_, c_ = bx g_ 50 #[.int .i64 0, .int .i64 0, .int .i64 0, .int .i64 0, .int .i64 0, .int .i64 0, .int .u64 0] ∧ l' = [c_]) (C := fun u l' => ∃ g_, u = .pointer (some ⟨g_, 0, none⟩) ∧ ∃ c_, c_ = bx g_ 50 #[.int .i64 0, .int .i64 0, .int .i64 0, .int .i64 0, .int .i64 0, .int .i64 0, .int .u64 0] ∧ l' = [c_]) V V V V V V (fun sx hx hF => lay_alloc (z := .agg #[.int .i64 0, .int .i64 0, .int .i64 0, .int .i64 0, .int .i64 0, .int .i64 0, .int .u64 0]) V kr Zi) (fun u51 l51 hu51 => ?_))))
  obtain ⟨g51, rfl, c51, hc51, hl51⟩ := hu51
  refine D_eff V (ZS_eff S41 V V (fun s52 hJ52 hL52 hF52 => ?_))
  obtain ⟨ll50, ws50, we50, ⟨hq50, hl50r⟩, hm50, k50, e50⟩ := L.all_get (L.all_rest hF52); cases hq50; subst hl50r
  replace hJ52 := hJ52.add hL52 (i := 9) V hm50 k50 e50
  obtain ⟨ll51, ws51, we51, ⟨g51q, hq51, c51r, hc51r, hl51r⟩, hm51, k51, e51⟩ := L.all_get hF52; cases hq51; subst hl51r
  replace hJ52 := hJ52.add hL52 (i := 13) V hm51 k51 e51
  have S52 := hJ52.st; clear hF52 hJ52 hL52
  generalize s52.1 = w52 at *
  replace S52 : St w NoX [c51r, c34_41, c_41, c2_41] w52 := S52
  refine xsA0 S52 hc51r V V V t0 (Sb t0) (fun w53 c53 hc53 S53 => va (Sa t0) (W_end (Qo_normal (en (Kb (Qe (Qh F44))) fun A54 _ F54 => tc H47 fun _ H55 => tb fun _ H56 => (vm (fg0 F54) (ve t0 V (W_end (en (Ka (Qa F54)) fun A57 _ F57 => tk H56 (cond_not (fg0 F57) Zg (wp_skip (tc H55 fun _ H58 => tb fun _ H59 => vm (fg1 F57) (vn t0 V (W_end (en (Ka (Qa F57)) fun A60 _ F60 => tk H59 (cond_not (fg0 F60) Zg (wp_skip (tk H58 (region_in (ra (fg3 F60) (S53.ob 0 hc53) (xsA1 S53 hc34_41 V V V (Sa (fg6 F60)) t0 (fun w61 c61 hc61 S61 => W_end (en (Qa F60) fun A62 Y62 F62 => ?_))))))))))))))))))))))
  have S63 := S61.se [1, 2, 3] [c61, c_41, c2_41]
  refine inb_n (tk H46 (region_in (vm (fg4 F62) (ad t0 V (vt (W_end (eN (Qc (fx4 F62)) fun A64 E64 Y64 F64 => ?_)))))))
  have l2_64 := lookE E64 2 (Sc (fg9 F62))
  have l4_64 := lookE E64 4 (Sc (fg8 F62))
  have l8_64 := lookE E64 8 (Sc (fg7 F62))
  have l9_64 := lookE E64 9 (Sc (fg6 F62))
  have l10_64 := lookE E64 10 (Sc (fg5 F62))
  have l11_64 := lookE E64 11 t0
  clear E64 Y62 F62
  refine then_n ⟨(wrdB (k : Int)).length - (i + 1), by simp only [hm41]; omega, Y64, F64.d, (i + 1), (if (y48.toNat : Int) = 97 then (((y49.1.getD 0 0).toNat : Int) - 48) else za), (if (y48.toNat : Int) = 98 then (((y49.1.getD 0 0).toNat : Int) - 48) else zb), (if (y48.toNat : Int) = 102 then (((y49.1.getD 0 0).toNat : Int) - 48) else zf), (if (y48.toNat : Int) = 112 then (((y49.1.getD 0 0).toNat : Int) - 48) else zp), (if (y48.toNat : Int) = 97 ∨ (y48.toNat : Int) = 98 ∨ (y48.toNat : Int) = 102 ∨ (y48.toNat : Int) = 112 then zq else (((y49.1.getD 0 0).toNat : Int) - 48)), rfl, Zb, (by have q := prF_step hF hy48; rw [dv_at hy49] at q; exact q), ((l11_64).trans Za), ((l2_64).trans l2_40.symm), ((l4_64).trans l4_40.symm), ((l8_64).trans l8_40.symm), ((l9_64).trans l9_40.symm), ((l10_64).trans l10_40.symm), (by subst hc61 hc_41 hc2_41; exact S63)⟩
 refine wp_exit (then_exit (then_exit (inb_hit (tc H38 fun _ H65 => tb fun _ H66 => (vm (fg1 F44) (vn t0 V (W_end (en (Ka (Qa F44)) fun A67 _ F67 => ?_))))))))
 have S68 := S41.se [0, 2] [c34_41, c2_41]
 refine tk H66 (cond_not (fg0 F67) Zg (wp_skip (ta H65 fun _ H69 => (ra (fg3 F67) (S68.ob 0 hc34_41) (xsA1 S68 hc2_41 V V V (Sa (fg6 F67)) t0 (fun w70 c70 hc70 S70 => vc (W_end (en (Ka (Qa F67)) fun A71 _ F71 => tk H69 (wp_ret (inb_ret (then_ret (then_ret (inb_ret (then_ret (rt2 F71 (rvA (fg7 F71) (S70.ob 1 hc70)) (rv_tmp (fg0 F71)) ?_)))))))))))))))
 have e := prF_end hF Zb
 rw [← e]
 exact ⟨rfl, S70.fin0⟩

set_option maxHeartbeats 4000000 in
theorem qlst_c {l : List UInt8} {w : World}  (hll : 0 < l.length ∧ l.length ≤ 5000) (hlt : l.getD (l.length - 1) 0 = 10) (hok : (lnK l l.length).all okL = true) (hn : (lnK l l.length).length ≤ 200) :
  Calls Tryz.prog 50 #[(stv l)] w fun e w' => ∃ v, e = .returned (.tuple #[v, .int .i64 0, .int .i64 0]) ∧ St w NoX [ro 7 opC v (opsT l)] w' := by
 refine ci1 55 Tryz.func50 V (fun A0 _ F0 => ?_)
 have hS := St.nil w
 refine tb fun _ H1 => (vc (vc (vc (W_end (en (Qc F0) fun A2 _ F2 => ta H1 fun _ H3 => (vm (fg0 F2) (wc (args1 t0) (qlns_c Zl Zl) (fun _ w4 ⟨v_4, e, hP4⟩ => ⟨_, e, ?_⟩))))))))
 obtain ⟨c_4, hc_4, hP4⟩ := gen1 hP4
 have S4 := hS.j1 hP4
 refine vm t0 (vx v_4 t0 (vx (.int .i64 (0)) (Sa t0) (va (Sa t0) (va (Sa t0) (W_end (en (Kb (Qe F2)) fun A5 _ F5 => tc H3 fun _ H6 => tb fun _ H7 => (vm (fg0 F5) (vn t0 V (W_end (en (Ka (Qa F5)) fun A8 _ F8 => tk H7 (cond_not (fg0 F8) Zg (wp_skip (ta H6 fun _ H9 => (vc (W_end (en (Ka F8) fun A10 _ F10 => tc H9 fun _ H11 => tb fun _ H12 => (vc (W_end (en (Ka F10) fun A13 Y13 F13 => tk H12 (wp_block ?_))))))))))))))))))))
 obtain ⟨c14, hc14, S14⟩ := S4.pnil (s := 7)
 -- loop 6
 refine loopX (fun mz A' w' => SzN A' 55 ∧ A'.defers = [] ∧ (∃ (k : Nat) (bv : Value), (mz = (lnK l l.length).length - k) ∧ (k ≤ (lnK l l.length).length) ∧ (EV A' (.tmp 8) = .int .i64 (k : Int)) ∧ (EV A' (.tmp 7) = bv) ∧ (EV A' (.tmp 5) = EV A13 (.tmp 5)) ∧ (St w NoX [ro 7 opC bv (opsL (lnK l l.length) k), ro 1 strC v_4 (lnK l l.length)] w'))) ((lnK l l.length).length - 0) ⟨Y13, F13.d, 0, (.slice none 0 0), rfl, Zb, ((fg0 F13).trans Za), ((fg1 F13).trans Za), rfl, (by have q0 : c14 = ro 7 opC (.slice none 0 0) (opsL (lnK l l.length) 0) := hc14.trans (rfl); have q1 := hc_4; subst q0 q1; exact S14)⟩ ?_
 clear S14 hc14 hc_4
 rintro n15 A15 w15 ⟨Y15, hdf15, k, bv, hm15, hk, l8_15, l7_15, u5_15, S15⟩
 have l5_15 := u5_15.trans (fg4 F13)
 obtain ⟨c14_15, c_15, hc14_15, hc_15, S15⟩ := gen2 S15
 refine td fun _ H16 => tb fun _ H17 => (vm l8_15 (vm (Sa l5_15) (le_ t0 (ow_at (S15.cq 1 hc_15)) (vl (Sb t0) t0 (W_end (en (((((ck (cq3 (FS.n hdf15) V) V V)).c (es4 V l5_15)).c (es4 V l7_15)).c (Sd l8_15)) fun A18 _ F18 => tk H17 (cd (fg3 F18) (fun c19 => ?_) fun c19 => ?_)))))))
 ·refine wp_skip (tc H16 fun _ H20 => wp_block (td fun _ H21 => tb fun _ H22 => (vm (fg2 F18) (vm (Sa (fg0 F18)) ?_))))
  have k23 : k < (lnK l l.length).length := om
  obtain ⟨y23, hy23⟩ := get_some (xs := (lnK l l.length)) (k := k) k23
  obtain ⟨B23, O23, C23, hv23⟩ := (SlN.blk (ow_at (S15.chq 1 rfl hc_15)) om)
  refine wv (V_ixS (off := O23 + k * 1) 1 k V (Sa t0) t0 hv23 Zb k23 Tryz.underlying132 kr V) (rd (stv y23) t0 (SlN.row strC_len (ow_at (S15.cq 1 hc_15)) hv23 hy23 V 0 _ V) (wv (V_eqlT V t0 V) (W_end (en (Ka (Qd F18)) fun A24 _ F24 => tk H22 (cd (fg0 F24) (fun c25 => ?_) fun c25 => ?_)))))
  ·refine wp_exit (then_exit (inb_hit (tk H20 (region_in (vm (fg1 F24) (ad t0 V (vt (W_end (en (Ka (Qb (fx1 F24))) fun A26 Y26 F26 => then_n ⟨(lnK l l.length).length - (k + 1), by simp only [hm15]; omega, Y26, F26.d, (k + 1), bv, rfl, Zb, ((fg0 F26).trans Za), ((fg2 F26).trans Za), ((fg3 F26).trans (fg4 F13).symm), (by have q0 : c14_15 = ro 7 opC bv (opsL (lnK l l.length) (k + 1)) := hc14_15.trans ((congrArg (ro 7 opC _) (opsL_skip hy23 c25).symm)); have q1 := hc_15; subst q0 q1; exact S15)⟩)))))))))
  have ho := okL_h (List.all_eq_true.1 hok _ (List.mem_of_getElem? hy23)) c25
  have ho1 := ho.1
  have ho2 := ho.2.1
  have ho3 := ho.2.2.1
  have ho4 := ho.2.2.2
  have hopl := opsL_len (ls := lnK l l.length) (k := k)
  refine wp_skip (ta H21 fun _ H27 => (vm (fg3 F24) (vm (Sa (fg1 F24)) (wv (V_ixS (off := O23 + k * 1) 1 k V (Sa t0) t0 hv23 Zb k23 Tryz.underlying132 kr V) (rd (stv y23) t0 (SlN.row strC_len (ow_at (S15.cq 1 hc_15)) hv23 hy23 V 0 _ V) (wc (args1 t0) (qprs_c Zl Zl Zl Zl) (fun _ w29 ⟨e, hP29⟩ => ⟨_, e, ?_⟩)))))))
  have S29 := S15.join hP29
  replace S29 : St w NoX [c14_15, c_15] w29 := S29
  refine vm t0 (vx (.agg #[.int .i64 ((prs (splGo y23 (y23.length + 1) 0 [])).kd), .int .i64 ((prs (splGo y23 (y23.length + 1) 0 [])).a), .int .i64 ((prs (splGo y23 (y23.length + 1) 0 [])).b), .int .i64 ((prs (splGo y23 (y23.length + 1) 0 [])).f), .int .i64 ((prs (splGo y23 (y23.length + 1) 0 [])).p), .int .i64 ((prs (splGo y23 (y23.length + 1) 0 [])).q), .int .u64 ((prs (splGo y23 (y23.length + 1) 0 [])).u)]) t0 (vx (.int .i64 0) (Sa t0) (wA (#[.int .i64 0, .int .i64 0, .int .i64 0, .int .i64 0, .int .i64 0, .int .i64 0, .int .u64 0]) S29 (fun g30 w30 c30 hc30 S30 => xsA0 S30 hc30 V V V t0 (Sb t0) (fun w31 c31 hc31 S31 => va (Sa t0) (W_end (en (Kb (Qh F24)) fun A32 _ F32 => tc H27 fun _ H33 => tb fun _ H34 => (vm (fg0 F32) (ve t0 V (W_sure (c' := true) V V (V_mov V t0) Zo (wg V t0 (uvm (Sc (fg4 F32))) (wg V (Sa t0) (ule_ t0 (ow_at (S31.cq 1 hc14_15))) (wg V (Sb t0) (uve t0 V) (vT (Sc t0) t0 (W_end (en (Kd (Qc F32)) fun A35 _ F35 => tk H34 (cond_not (fg0 F35) (by rw [decide_eq_false_iff_not]; have := opsL_len (ls := lnK l l.length) (k := k); omega) (wp_skip (tc H33 fun _ H36 => tb fun _ H37 => (vm (fg4 F35) (vn t0 V (W_end (en (Ka (Qa F35)) fun A38 _ F38 => tk H37 (cond_not (fg0 F38) Zg (wp_skip (tk H36 (region_in (vm (fg9 F38) (ra (Sa (fg6 F38)) (S31.ob 0 hc31) ?_)))))))))))))))))))))))))))))
  have hll39 : [(OpC.mk ((prs (splGo y23 (y23.length + 1) 0 [])).kd) ((prs (splGo y23 (y23.length + 1) 0 [])).a) ((prs (splGo y23 (y23.length + 1) 0 [])).b) ((prs (splGo y23 (y23.length + 1) 0 [])).f) ((prs (splGo y23 (y23.length + 1) 0 [])).p) ((prs (splGo y23 (y23.length + 1) 0 [])).q) ((prs (splGo y23 (y23.length + 1) 0 [])).u))].length = 1 := rfl
  refine xsL (vs := [.agg #[.int .i64 ((prs (splGo y23 (y23.length + 1) 0 [])).kd), .int .i64 ((prs (splGo y23 (y23.length + 1) 0 [])).a), .int .i64 ((prs (splGo y23 (y23.length + 1) 0 [])).b), .int .i64 ((prs (splGo y23 (y23.length + 1) 0 [])).f), .int .i64 ((prs (splGo y23 (y23.length + 1) 0 [])).p), .int .i64 ((prs (splGo y23 (y23.length + 1) 0 [])).q), .int .u64 ((prs (splGo y23 (y23.length + 1) 0 [])).u)]]) (xs := ([(OpC.mk ((prs (splGo y23 (y23.length + 1) 0 [])).kd) ((prs (splGo y23 (y23.length + 1) 0 [])).a) ((prs (splGo y23 (y23.length + 1) 0 [])).b) ((prs (splGo y23 (y23.length + 1) 0 [])).f) ((prs (splGo y23 (y23.length + 1) 0 [])).p) ((prs (splGo y23 (y23.length + 1) 0 [])).q) ((prs (splGo y23 (y23.length + 1) 0 [])).u))].flatMap opC)) 7 S31 V V V (parts1 t0) Tryz.underlying24 (fun g39 w39 c39 hc39 S39 => ?_)
  replace hc39 : c39 = ro 7 opC (.slice (some ⟨g39, 0, none⟩) 1 1) [(OpC.mk ((prs (splGo y23 (y23.length + 1) 0 [])).kd) ((prs (splGo y23 (y23.length + 1) 0 [])).a) ((prs (splGo y23 (y23.length + 1) 0 [])).b) ((prs (splGo y23 (y23.length + 1) 0 [])).f) ((prs (splGo y23 (y23.length + 1) 0 [])).p) ((prs (splGo y23 (y23.length + 1) 0 [])).q) ((prs (splGo y23 (y23.length + 1) 0 [])).u))] := hc39
  replace S39 : St w NoX [c39, c31, c14_15, c_15] w39 := S39
  refine W_appS 7 2 S39 V hc14_15 V V V (Sb t0) t0 Tryz.underlying24 Tryz.underlying24 (z := .agg #[.int .i64 0, .int .i64 0, .int .i64 0, .int .i64 0, .int .i64 0, .int .i64 0, .int .u64 0]) (bytes := 56) kr V Zg (ow_at (S39.cq 0 hc39)) (ones_r opC_one) Zd Zd (fun v40 w40 c40 hc40 S40 => ?_)
  replace hc40 : c40 = ro 7 opC v40 ((opsL (lnK l l.length) k) ++ [(OpC.mk ((prs (splGo y23 (y23.length + 1) 0 [])).kd) ((prs (splGo y23 (y23.length + 1) 0 [])).a) ((prs (splGo y23 (y23.length + 1) 0 [])).b) ((prs (splGo y23 (y23.length + 1) 0 [])).f) ((prs (splGo y23 (y23.length + 1) 0 [])).p) ((prs (splGo y23 (y23.length + 1) 0 [])).q) ((prs (splGo y23 (y23.length + 1) 0 [])).u))]) := hc40.trans (app_eqR Zc)
  replace S40 : St w NoX [c39, c31, c40, c_15] w40 := S40
  refine vt (W_end (en (Ka (Qd (fx9 F38))) fun A41 _ F41 => ?_))
  have S42 := S40.se [2, 3] [c40, c_15]
  refine inb_n (tk H20 (region_in (vm (fg9 F41) (ad t0 V (vt (W_end (en (Ka (Qb (fx9 F41))) fun A43 Y43 F43 => then_n ⟨(lnK l l.length).length - (k + 1), by simp only [hm15]; omega, Y43, F43.d, (k + 1), v40, rfl, Zb, ((fg0 F43).trans Za), ((fg1 F43).trans Za), ((fg10 F43).trans (fg4 F13).symm), (by have q0 : c40 = ro 7 opC v40 (opsL (lnK l l.length) (k + 1)) := hc40.trans ((congrArg (ro 7 opC _) (opsL_add hy23 c25).symm)); have q1 := hc_15; subst q0 q1; exact S42)⟩)))))))
 refine wp_exit (then_exit (then_exit (inb_hit (ta H11 fun _ H44 => (vm (fg1 F18) (vt (vc (vc (W_end (en (Kc (Qa F18)) fun A45 _ F45 => tk H44 (wp_ret (rt3 F45 (rv_tmp (fg2 F45)) (rv_tmp (fg1 F45)) (rv_tmp (fg0 F45)) ?_))))))))))))
 exact ⟨_, rfl, (S15.f1 0 (hc14_15.trans (by rw [show k = (lnK l l.length).length by omega] <;> rfl)))⟩

set_option maxHeartbeats 4000000 in
theorem scr_c  {w : World}   :
  Calls Tryz.prog 27 #[] w fun e w' => ∃ v, e = .returned (v) ∧ St w NoX [ro 7 opC v scr] w' := by
 refine ci0 10 Tryz.func27 V (fun A0 _ F0 => ?_)
 have hS := St.nil w
 refine tb fun _ H1 => (vc (W_end (en (Qa F0) fun A2 _ F2 => ta H1 fun _ H3 => (wc (args1 V) (qlst_c Zl Zl Zl Zl) (fun _ w4 ⟨v_4, e, hP4⟩ => ⟨_, e, ?_⟩)))))
 obtain ⟨c_4, hc_4, hP4⟩ := gen1 hP4
 have S4 := hS.j1 hP4
 refine vm t0 (vx v_4 t0 (vx (.int .i64 (0)) (Sa t0) (vx (.int .i64 (0)) (Sb t0) (va (Sb t0) (va (Sb t0) (va (Sb t0) (W_end (en (Qb (Ka (Qe F2))) fun A5 _ F5 => ta H3 fun _ H6 => (vm (fg0 F5) (vt (W_end (en (Ka (Qa F5)) fun A7 _ F7 => tk H6 (wp_ret (rt1 F7 (rv_tmp (fg0 F7)) ?_))))))))))))))
 exact ⟨_, rfl, (S4.f1 0 (hc_4.trans (congrArg (ro 7 opC _) scr_eq)))⟩

end Go.Proofs.YtpgkfndbfocibaaGreat
namespace Go.Proofs.YtpgkfndbfocibaaGreat
open Go.RowKit Go.Own Go.Own.R Go.Own.G Go.Own.Gr Go.Own.Ml

abbrev LimR := Value × Value × Value × Value
def limC (y : LimR) : List Value := [y.1, y.2.1, y.2.2.1, y.2.2.2]
theorem limC_len : ∀ a : LimR, (limC a).length = 4 := fun _ => rfl
def limL : List LimR := [((Value.string ⟨#[99, 97, 114, 115]⟩), Value.int .i64 7, Value.int .i64 24, Value.func (.func 123) #[] #[]), ((Value.string ⟨#[111, 102]⟩), Value.int .i64 8, Value.int .i64 64, Value.func (.func 124) #[] #[]), ((Value.string ⟨#[110, 117, 114, 115, 101, 114, 121]⟩), Value.int .i64 4, Value.int .i64 64, Value.func (.func 125) #[] #[]), ((Value.string ⟨#[114, 101, 103, 105, 115, 116, 101, 114, 115]⟩), Value.int .i64 1, Value.int .i64 8, Value.func (.func 126) #[] #[]), ((Value.string ⟨#[112, 111, 112, 117, 108, 97, 114]⟩), Value.int .i64 2, Value.int .i64 16, Value.func (.func 127) #[] #[])]
set_option maxHeartbeats 4000000 in
theorem klim1_c {g : Nat} {w : World}   :
  Calls Tryz.prog 123 #[.pointer (some ⟨g, 0, none⟩)] w fun e w' => e = .returned (.pointer (some ⟨g, 1, none⟩)) ∧ St w NoX [] w' := by
 refine ci1 6 Tryz.func123 V (fun A0 _ F0 => ?_)
 have hS := St.nil w
 refine tb fun _ H1 => (vc (W_end (en (Qa F0) fun A2 _ F2 => ta H1 fun _ H3 => (vm (fg0 F2) (ni t0 (fa 1 t0 (vt (W_end (en (Ka (Qc F2)) fun A4 _ F4 => tk H3 (wp_ret (rt1 F4 (rv_tmp (fg0 F4)) ?_)))))))))))
 exact ⟨rfl, hS.fin0⟩

set_option maxHeartbeats 4000000 in
theorem klim2_c {g : Nat} {w : World}   :
  Calls Tryz.prog 124 #[.pointer (some ⟨g, 0, none⟩)] w fun e w' => e = .returned (.pointer (some ⟨g, 0, none⟩)) ∧ St w NoX [] w' := by
 refine ci1 6 Tryz.func124 V (fun A0 _ F0 => ?_)
 have hS := St.nil w
 refine tb fun _ H1 => (vc (W_end (en (Qa F0) fun A2 _ F2 => ta H1 fun _ H3 => (vm (fg0 F2) (ni t0 (fa 0 t0 (vt (W_end (en (Ka (Qc F2)) fun A4 _ F4 => tk H3 (wp_ret (rt1 F4 (rv_tmp (fg0 F4)) ?_)))))))))))
 exact ⟨rfl, hS.fin0⟩

set_option maxHeartbeats 4000000 in
theorem klim3_c {g : Nat} {w : World}   :
  Calls Tryz.prog 125 #[.pointer (some ⟨g, 0, none⟩)] w fun e w' => e = .returned (.pointer (some ⟨g, 2, none⟩)) ∧ St w NoX [] w' := by
 refine ci1 6 Tryz.func125 V (fun A0 _ F0 => ?_)
 have hS := St.nil w
 refine tb fun _ H1 => (vc (W_end (en (Qa F0) fun A2 _ F2 => ta H1 fun _ H3 => (vm (fg0 F2) (ni t0 (fa 2 t0 (vt (W_end (en (Ka (Qc F2)) fun A4 _ F4 => tk H3 (wp_ret (rt1 F4 (rv_tmp (fg0 F4)) ?_)))))))))))
 exact ⟨rfl, hS.fin0⟩

set_option maxHeartbeats 4000000 in
theorem klim4_c {g : Nat} {w : World}   :
  Calls Tryz.prog 126 #[.pointer (some ⟨g, 0, none⟩)] w fun e w' => e = .returned (.pointer (some ⟨g, 3, none⟩)) ∧ St w NoX [] w' := by
 refine ci1 6 Tryz.func126 V (fun A0 _ F0 => ?_)
 have hS := St.nil w
 refine tb fun _ H1 => (vc (W_end (en (Qa F0) fun A2 _ F2 => ta H1 fun _ H3 => (vm (fg0 F2) (ni t0 (fa 3 t0 (vt (W_end (en (Ka (Qc F2)) fun A4 _ F4 => tk H3 (wp_ret (rt1 F4 (rv_tmp (fg0 F4)) ?_)))))))))))
 exact ⟨rfl, hS.fin0⟩

set_option maxHeartbeats 4000000 in
theorem klim5_c {g : Nat} {w : World}   :
  Calls Tryz.prog 127 #[.pointer (some ⟨g, 0, none⟩)] w fun e w' => e = .returned (.pointer (some ⟨g, 4, none⟩)) ∧ St w NoX [] w' := by
 refine ci1 6 Tryz.func127 V (fun A0 _ F0 => ?_)
 have hS := St.nil w
 refine tb fun _ H1 => (vc (W_end (en (Qa F0) fun A2 _ F2 => ta H1 fun _ H3 => (vm (fg0 F2) (ni t0 (fa 4 t0 (vt (W_end (en (Ka (Qc F2)) fun A4 _ F4 => tk H3 (wp_ret (rt1 F4 (rv_tmp (fg0 F4)) ?_)))))))))))
 exact ⟨rfl, hS.fin0⟩

set_option maxHeartbeats 4000000 in
theorem klims_c  {w : World}   :
  Calls Tryz.prog 116 #[] w fun e w' => ∃ v, e = .returned (v) ∧ St w NoX [ro 4 limC v limL] w' := by
 refine ci0 7 Tryz.func116 V (fun A0 _ F0 => ?_)
 have hS := St.nil w
 refine tb fun _ H1 => (vc (W_end (en (Qa F0) fun A2 _ F2 => ta H1 fun _ H3 => (wv (xbS (n := 4) (z := .agg #[.string ByteArray.empty, .int .i64 0, .int .i64 0, .nilFunc]) V (parts4 V V V V)) (wv (xbS (n := 4) (z := .agg #[.string ByteArray.empty, .int .i64 0, .int .i64 0, .nilFunc]) V (parts4 V V V V)) (wv (xbS (n := 4) (z := .agg #[.string ByteArray.empty, .int .i64 0, .int .i64 0, .nilFunc]) V (parts4 V V V V)) (wv (xbS (n := 4) (z := .agg #[.string ByteArray.empty, .int .i64 0, .int .i64 0, .nilFunc]) V (parts4 V V V V)) (wv (xbS (n := 4) (z := .agg #[.string ByteArray.empty, .int .i64 0, .int .i64 0, .nilFunc]) V (parts4 V V V V)) ?_))))))))
 have hll4 : [((Value.string ⟨#[99, 97, 114, 115]⟩), Value.int .i64 7, Value.int .i64 24, Value.func (.func 123) #[] #[]), ((Value.string ⟨#[111, 102]⟩), Value.int .i64 8, Value.int .i64 64, Value.func (.func 124) #[] #[]), ((Value.string ⟨#[110, 117, 114, 115, 101, 114, 121]⟩), Value.int .i64 4, Value.int .i64 64, Value.func (.func 125) #[] #[]), ((Value.string ⟨#[114, 101, 103, 105, 115, 116, 101, 114, 115]⟩), Value.int .i64 1, Value.int .i64 8, Value.func (.func 126) #[] #[]), ((Value.string ⟨#[112, 111, 112, 117, 108, 97, 114]⟩), Value.int .i64 2, Value.int .i64 16, Value.func (.func 127) #[] #[])].length = 5 := rfl
 refine xsL (vs := [.agg #[(Value.string ⟨#[99, 97, 114, 115]⟩), .int .i64 7, .int .i64 24, .func (.func 123) #[] #[]], .agg #[(Value.string ⟨#[111, 102]⟩), .int .i64 8, .int .i64 64, .func (.func 124) #[] #[]], .agg #[(Value.string ⟨#[110, 117, 114, 115, 101, 114, 121]⟩), .int .i64 4, .int .i64 64, .func (.func 125) #[] #[]], .agg #[(Value.string ⟨#[114, 101, 103, 105, 115, 116, 101, 114, 115]⟩), .int .i64 1, .int .i64 8, .func (.func 126) #[] #[]], .agg #[(Value.string ⟨#[112, 111, 112, 117, 108, 97, 114]⟩), .int .i64 2, .int .i64 16, .func (.func 127) #[] #[]]]) (xs := ([((Value.string ⟨#[99, 97, 114, 115]⟩), Value.int .i64 7, Value.int .i64 24, Value.func (.func 123) #[] #[]), ((Value.string ⟨#[111, 102]⟩), Value.int .i64 8, Value.int .i64 64, Value.func (.func 124) #[] #[]), ((Value.string ⟨#[110, 117, 114, 115, 101, 114, 121]⟩), Value.int .i64 4, Value.int .i64 64, Value.func (.func 125) #[] #[]), ((Value.string ⟨#[114, 101, 103, 105, 115, 116, 101, 114, 115]⟩), Value.int .i64 1, Value.int .i64 8, Value.func (.func 126) #[] #[]), ((Value.string ⟨#[112, 111, 112, 117, 108, 97, 114]⟩), Value.int .i64 2, Value.int .i64 16, Value.func (.func 127) #[] #[])].flatMap limC)) 4 hS V V V (parts5 (Sd t0) (Sc t0) (Sb t0) (Sa t0) t0) Tryz.underlying161 (fun g4 w4 c4 hc4 S4 => ?_)
 replace hc4 : c4 = ro 4 limC (.slice (some ⟨g4, 0, none⟩) 5 5) [((Value.string ⟨#[99, 97, 114, 115]⟩), Value.int .i64 7, Value.int .i64 24, Value.func (.func 123) #[] #[]), ((Value.string ⟨#[111, 102]⟩), Value.int .i64 8, Value.int .i64 64, Value.func (.func 124) #[] #[]), ((Value.string ⟨#[110, 117, 114, 115, 101, 114, 121]⟩), Value.int .i64 4, Value.int .i64 64, Value.func (.func 125) #[] #[]), ((Value.string ⟨#[114, 101, 103, 105, 115, 116, 101, 114, 115]⟩), Value.int .i64 1, Value.int .i64 8, Value.func (.func 126) #[] #[]), ((Value.string ⟨#[112, 111, 112, 117, 108, 97, 114]⟩), Value.int .i64 2, Value.int .i64 16, Value.func (.func 127) #[] #[])] := hc4
 replace S4 : St w NoX [c4] w4 := S4
 refine vt (W_end (en (Ka (Qf F2)) fun A5 _ F5 => tk H3 (wp_ret (rt1 F5 (rv_tmp (fg0 F5)) ?_))))
 exact ⟨_, rfl, (S4.f1 0 hc4)⟩

set_option maxHeartbeats 4000000 in
theorem kcfg_c {C N Z K Q : Int} {w : World}   :
  Calls Tryz.prog 97 #[.agg #[.int .i64 C, .int .i64 N, .int .i64 Z, .int .i64 K, .int .i64 Q]] w fun e w' => e = .returned (.int .i64 (cfE C N Z K Q)) ∧ St w NoX [] w' := by
 refine ci1 28 Tryz.func97 V (fun A0 _ F0 => ?_)
 have hS := St.nil w
 refine tb fun _ H1 => (wB (#[.int .i64 (C), .int .i64 (N), .int .i64 (Z), .int .i64 (K), .int .i64 (Q)]) hS (fg0 F0) (fun g2 w2 c2 hc2 S2 => vc (W_end (en (Qa (Ka F0)) fun A3 _ F3 => tc H1 fun _ H4 => tb fun _ H5 => (wc args0 (klims_c  ) (fun _ w6 ⟨v_6, e, hP6⟩ => ⟨_, e, ?_⟩))))))
 obtain ⟨c_6, hc_6, hP6⟩ := gen1 hP6
 have S6 := S2.j1 hP6
 refine le_ t0 (ow_at (S6.cq 0 hc_6)) (vm V (W_end (en (Kc F3) fun A7 _ F7 => tk H5 (wp_block ?_))))
 -- loop 2, round by round
 refine loopL (LW_step ?_)
 have l8_8 : EV A7 (.tmp 8) = .int .i64 (0 : Int) := (fg0 F7)
 refine tb fun _ H9 => (vl l8_8 (fg1 F7) (W_end (en (((ck (fx0 F7) V V)).c (Sa l8_8)) fun A10 _ F10 => tc H9 fun _ H11 => cond_sure (fg1 F10) Zj (wp_skip (tc H11 fun _ H12 => wp_block (tb fun _ H13 => ?_))))))
 have k14 : 0 < limL.length := Zs
 obtain ⟨B14, O14, C14, hv14⟩ := (SlN.blk (ow_at (S6.chq 0 rfl hc_6)) Zs)
 refine wv (V_ixS (off := O14 + 0 * 4) 4 0 V (fg3 F10) (fg0 F10) hv14 Zb k14 Tryz.underlying161 kr V) (wr (VR_ldR (ys := limC ((Value.string ⟨#[99, 97, 114, 115]⟩), Value.int .i64 7, Value.int .i64 24, Value.func (.func 123) #[] #[])) V t0 (SlN.row limC_len (ow_at (S6.cq 0 hc_6)) hv14 (show limL[0]? = some ((Value.string ⟨#[99, 97, 114, 115]⟩), Value.int .i64 7, Value.int .i64 24, Value.func (.func 123) #[] #[]) from rfl) V) Tryz.underlying165 V kr) (wA (#[.string ByteArray.empty, .int .i64 0, .int .i64 0, .nilFunc]) S6 (fun g15 w15 c15 hc15 S15 => xsA0 S15 hc15 V V V t0 (Sa t0) (fun w16 c16 hc16 S16 => W_end (en (Ka (Qb F10)) fun A17 _ F17 => ta H13 fun _ H18 => (fa 3 (fg0 F17) (rL (.func (.func 123) #[] #[]) t0 (S16.ob 0 hc16) (W_callV V V V t0 Tryz.func123 kr V (args1 (Sb (fg5 F17))) (klim1_c (g := g2)) (fun _ w19 ⟨e, hP19⟩ => ⟨_, e, ?_⟩)))))))))
 have S19 := S16.j0 hP19
 refine ni t0 (rL (.int .i64 (N)) t0 (S19.ob 2 hc2) (vt (W_end (en (Ka (Qe F17)) fun A20 _ F20 => ta H18 fun _ H21 => (vm (fg0 F20) (fa 1 (Sa (fg1 F20)) (rL (.int .i64 7) t0 (S19.ob 0 hc16) (vl (Sb t0) t0 (W_split V V (V_mov V t0) (fun c22 => ?_) (fun c22 => ?_))))))))))
 ·refine xo V t0 (xo V (Sa t0) (xo V (Sb t0) (xo V (Sc t0) (vT (Sd t0) V (W_end (en (Ke (Qe F20)) fun A23 _ F23 => tk H21 (cond_t (fg0 F23) (tb fun _ H25 => (vc (W_end (en (Ka F23) fun A26 _ F26 => tk H25 (wp_ret (inb_ret (then_ret (then_ret (inb_ret (then_ret (rt1 F26 (rv_tmp (fg0 F26)) ?_))))))))))))))))))
  have he : (cfE C N Z K Q) = 7 := cf_bad Zb
  rw [he]
  exact ⟨rfl, S19.fin0⟩
 refine wg V t0 (uvm (Se (fg0 F20))) (wg V (Sa t0) (ufa 2 (Sf (fg1 F20))) (wq V (Sb t0) (urL (.int .i64 24) t0 (S19.ob 0 hc16)) (wg V (Sc t0) (uvg (Sb t0) t0) (vF (Sd t0) t0 (W_end (en (Ke (Qe F20)) fun A28 _ F28 => tk H21 (cd (fg0 F28) (fun c29 => ?_) fun c29 => ?_)))))))
 ·refine tb fun _ H30 => (vc (W_end (en (Ka F28) fun A31 _ F31 => tk H30 (wp_ret (inb_ret (then_ret (then_ret (inb_ret (then_ret (rt1 F31 (rv_tmp (fg0 F31)) ?_))))))))))
  have he : (cfE C N Z K Q) = 7 := cf_bad Zb
  rw [he]
  exact ⟨rfl, S19.fin0⟩
 refine wp_skip (inb_n (tk H12 (region_in (ad (fg7 F28) V (vm t0 (W_end (en (Ka (Qa (fx7 F28))) fun A33 _ F33 => then_n (LW_step ?_))))))))
 have l8_34 : EV A33 (.tmp 8) = .int .i64 (1 : Int) := (fg0 F33)
 refine tb fun _ H35 => (vl l8_34 (fg9 F33) (W_end (en (((ck (fx7 (fx0 F33)) V V)).c (Sa l8_34)) fun A36 _ F36 => tc H35 fun _ H37 => cond_sure (fg1 F36) Zj (wp_skip (tc H37 fun _ H38 => wp_block (tb fun _ H39 => ?_))))))
 have k40 : 1 < limL.length := Zs
 refine wv (V_ixS (off := O14 + 1 * 4) 4 1 V (fg10 F36) (fg0 F36) hv14 Zb k40 Tryz.underlying161 kr V) (wr (VR_ldR (ys := limC ((Value.string ⟨#[111, 102]⟩), Value.int .i64 8, Value.int .i64 64, Value.func (.func 124) #[] #[])) V t0 (SlN.row limC_len (ow_at (S19.cq 1 hc_6)) hv14 (show limL[1]? = some ((Value.string ⟨#[111, 102]⟩), Value.int .i64 8, Value.int .i64 64, Value.func (.func 124) #[] #[]) from rfl) V) Tryz.underlying165 V kr) (wA (#[.string ByteArray.empty, .int .i64 0, .int .i64 0, .nilFunc]) S19 (fun g41 w41 c41 hc41 S41 => xsA0 S41 hc41 V V V t0 (Sa t0) (fun w42 c42 hc42 S42 => W_end (en (Ka (Qb (fx8 F36))) fun A43 _ F43 => ta H39 fun _ H44 => (fa 3 (fg0 F43) (rL (.func (.func 124) #[] #[]) t0 (S42.ob 0 hc42) (W_callV V V V t0 Tryz.func124 kr V (args1 (Sb (fg11 F43))) (klim2_c (g := g2)) (fun _ w45 ⟨e, hP45⟩ => ⟨_, e, ?_⟩)))))))))
 have S45 := S42.j0 hP45
 refine ni t0 (rL (.int .i64 (C)) t0 (S45.ob 3 hc2) (vt (W_end (en (Ka (Qe (fx8 F43))) fun A46 _ F46 => ta H44 fun _ H47 => (vm (fg0 F46) (fa 1 (Sa (fg1 F46)) (rL (.int .i64 8) t0 (S45.ob 0 hc42) (vl (Sb t0) t0 (W_split V V (V_mov V t0) (fun c48 => ?_) (fun c48 => ?_))))))))))
 ·refine xo V t0 (xo V (Sa t0) (xo V (Sb t0) (xo V (Sc t0) (vT (Sd t0) V (W_end (en (Ke (Qe (fx4 (fx4 (fx4 (fx4 (fx4 F46))))))) fun A49 _ F49 => tk H47 (cond_t (fg0 F49) (tb fun _ H51 => (vc (W_end (en (Ka F49) fun A52 _ F52 => tk H51 (wp_ret (inb_ret (then_ret (then_ret (inb_ret (then_ret (rt1 F52 (rv_tmp (fg0 F52)) ?_))))))))))))))))))
  have he : (cfE C N Z K Q) = 7 := cf_bad Zb
  rw [he]
  exact ⟨rfl, S45.fin0⟩
 refine wg V t0 (uvm (Se (fg0 F46))) (wg V (Sa t0) (ufa 2 (Sf (fg1 F46))) (wq V (Sb t0) (urL (.int .i64 64) t0 (S45.ob 0 hc42)) (wg V (Sc t0) (uvg (Sb t0) t0) (vF (Sd t0) t0 (W_end (en (Ke (Qe (fx4 (fx4 (fx4 (fx4 (fx4 F46))))))) fun A54 _ F54 => ?_))))))
 have S55 := S45.se [0, 2, 3] [c42, c_6, c2]
 refine tk H47 (cd (fg0 F54) (fun c56 => ?_) fun c56 => ?_)
 ·refine tb fun _ H57 => (vc (W_end (en (Ka F54) fun A58 _ F58 => tk H57 (wp_ret (inb_ret (then_ret (then_ret (inb_ret (then_ret (rt1 F58 (rv_tmp (fg0 F58)) ?_))))))))))
  have he : (cfE C N Z K Q) = 7 := cf_bad Zb
  rw [he]
  exact ⟨rfl, S55.fin0⟩
 refine wp_skip (inb_n (tk H38 (region_in (ad (fg7 F54) V (vm t0 (W_end (en (Ka (Qa (fx7 F54))) fun A60 _ F60 => then_n (LW_step ?_))))))))
 have l8_61 : EV A60 (.tmp 8) = .int .i64 (2 : Int) := (fg0 F60)
 refine tb fun _ H62 => (vl l8_61 (fg9 F60) (W_end (en (((ck (fx7 (fx0 F60)) V V)).c (Sa l8_61)) fun A63 _ F63 => tc H62 fun _ H64 => cond_sure (fg1 F63) Zj (wp_skip (tc H64 fun _ H65 => wp_block (tb fun _ H66 => ?_))))))
 have k67 : 2 < limL.length := Zs
 refine wv (V_ixS (off := O14 + 2 * 4) 4 2 V (fg10 F63) (fg0 F63) hv14 Zb k67 Tryz.underlying161 kr V) (wr (VR_ldR (ys := limC ((Value.string ⟨#[110, 117, 114, 115, 101, 114, 121]⟩), Value.int .i64 4, Value.int .i64 64, Value.func (.func 125) #[] #[])) V t0 (SlN.row limC_len (ow_at (S55.cq 1 hc_6)) hv14 (show limL[2]? = some ((Value.string ⟨#[110, 117, 114, 115, 101, 114, 121]⟩), Value.int .i64 4, Value.int .i64 64, Value.func (.func 125) #[] #[]) from rfl) V) Tryz.underlying165 V kr) (wA (#[.string ByteArray.empty, .int .i64 0, .int .i64 0, .nilFunc]) S55 (fun g68 w68 c68 hc68 S68 => xsA0 S68 hc68 V V V t0 (Sa t0) (fun w69 c69 hc69 S69 => W_end (en (Ka (Qb (fx8 F63))) fun A70 _ F70 => ta H66 fun _ H71 => (fa 3 (fg0 F70) (rL (.func (.func 125) #[] #[]) t0 (S69.ob 0 hc69) (W_callV V V V t0 Tryz.func125 kr V (args1 (Sb (fg11 F70))) (klim3_c (g := g2)) (fun _ w72 ⟨e, hP72⟩ => ⟨_, e, ?_⟩)))))))))
 have S72 := S69.j0 hP72
 refine ni t0 (rL (.int .i64 (Z)) t0 (S72.ob 3 hc2) (vt (W_end (en (Ka (Qe (fx8 F70))) fun A73 _ F73 => ta H71 fun _ H74 => (vm (fg0 F73) (fa 1 (Sa (fg1 F73)) (rL (.int .i64 4) t0 (S72.ob 0 hc69) (vl (Sb t0) t0 (W_split V V (V_mov V t0) (fun c75 => ?_) (fun c75 => ?_))))))))))
 ·refine xo V t0 (xo V (Sa t0) (xo V (Sb t0) (xo V (Sc t0) (vT (Sd t0) V (W_end (en (Ke (Qe (fx4 (fx4 (fx4 (fx4 (fx4 F73))))))) fun A76 _ F76 => tk H74 (cond_t (fg0 F76) (tb fun _ H78 => (vc (W_end (en (Ka F76) fun A79 _ F79 => tk H78 (wp_ret (inb_ret (then_ret (then_ret (inb_ret (then_ret (rt1 F79 (rv_tmp (fg0 F79)) ?_))))))))))))))))))
  have he : (cfE C N Z K Q) = 7 := cf_bad Zb
  rw [he]
  exact ⟨rfl, S72.fin0⟩
 refine wg V t0 (uvm (Se (fg0 F73))) (wg V (Sa t0) (ufa 2 (Sf (fg1 F73))) (wq V (Sb t0) (urL (.int .i64 64) t0 (S72.ob 0 hc69)) (wg V (Sc t0) (uvg (Sb t0) t0) (vF (Sd t0) t0 (W_end (en (Ke (Qe (fx4 (fx4 (fx4 (fx4 (fx4 F73))))))) fun A81 _ F81 => ?_))))))
 have S82 := S72.se [0, 2, 3] [c69, c_6, c2]
 refine tk H74 (cd (fg0 F81) (fun c83 => ?_) fun c83 => ?_)
 ·refine tb fun _ H84 => (vc (W_end (en (Ka F81) fun A85 _ F85 => tk H84 (wp_ret (inb_ret (then_ret (then_ret (inb_ret (then_ret (rt1 F85 (rv_tmp (fg0 F85)) ?_))))))))))
  have he : (cfE C N Z K Q) = 7 := cf_bad Zb
  rw [he]
  exact ⟨rfl, S82.fin0⟩
 refine wp_skip (inb_n (tk H65 (region_in (ad (fg7 F81) V (vm t0 (W_end (en (Ka (Qa (fx7 F81))) fun A87 _ F87 => then_n (LW_step ?_))))))))
 have l8_88 : EV A87 (.tmp 8) = .int .i64 (3 : Int) := (fg0 F87)
 refine tb fun _ H89 => (vl l8_88 (fg9 F87) (W_end (en (((ck (fx7 (fx0 F87)) V V)).c (Sa l8_88)) fun A90 _ F90 => tc H89 fun _ H91 => cond_sure (fg1 F90) Zj (wp_skip (tc H91 fun _ H92 => wp_block (tb fun _ H93 => ?_))))))
 have k94 : 3 < limL.length := Zs
 refine wv (V_ixS (off := O14 + 3 * 4) 4 3 V (fg10 F90) (fg0 F90) hv14 Zb k94 Tryz.underlying161 kr V) (wr (VR_ldR (ys := limC ((Value.string ⟨#[114, 101, 103, 105, 115, 116, 101, 114, 115]⟩), Value.int .i64 1, Value.int .i64 8, Value.func (.func 126) #[] #[])) V t0 (SlN.row limC_len (ow_at (S82.cq 1 hc_6)) hv14 (show limL[3]? = some ((Value.string ⟨#[114, 101, 103, 105, 115, 116, 101, 114, 115]⟩), Value.int .i64 1, Value.int .i64 8, Value.func (.func 126) #[] #[]) from rfl) V) Tryz.underlying165 V kr) (wA (#[.string ByteArray.empty, .int .i64 0, .int .i64 0, .nilFunc]) S82 (fun g95 w95 c95 hc95 S95 => xsA0 S95 hc95 V V V t0 (Sa t0) (fun w96 c96 hc96 S96 => W_end (en (Ka (Qb (fx8 F90))) fun A97 _ F97 => ta H93 fun _ H98 => (fa 3 (fg0 F97) (rL (.func (.func 126) #[] #[]) t0 (S96.ob 0 hc96) (W_callV V V V t0 Tryz.func126 kr V (args1 (Sb (fg11 F97))) (klim4_c (g := g2)) (fun _ w99 ⟨e, hP99⟩ => ⟨_, e, ?_⟩)))))))))
 have S99 := S96.j0 hP99
 refine ni t0 (rL (.int .i64 (K)) t0 (S99.ob 3 hc2) (vt (W_end (en (Ka (Qe (fx8 F97))) fun A100 _ F100 => ta H98 fun _ H101 => (vm (fg0 F100) (fa 1 (Sa (fg1 F100)) (rL (.int .i64 1) t0 (S99.ob 0 hc96) (vl (Sb t0) t0 (W_split V V (V_mov V t0) (fun c102 => ?_) (fun c102 => ?_))))))))))
 ·refine xo V t0 (xo V (Sa t0) (xo V (Sb t0) (xo V (Sc t0) (vT (Sd t0) V (W_end (en (Ke (Qe (fx4 (fx4 (fx4 (fx4 (fx4 F100))))))) fun A103 _ F103 => tk H101 (cond_t (fg0 F103) (tb fun _ H105 => (vc (W_end (en (Ka F103) fun A106 _ F106 => tk H105 (wp_ret (inb_ret (then_ret (then_ret (inb_ret (then_ret (rt1 F106 (rv_tmp (fg0 F106)) ?_))))))))))))))))))
  have he : (cfE C N Z K Q) = 7 := cf_bad Zb
  rw [he]
  exact ⟨rfl, S99.fin0⟩
 refine wg V t0 (uvm (Se (fg0 F100))) (wg V (Sa t0) (ufa 2 (Sf (fg1 F100))) (wq V (Sb t0) (urL (.int .i64 8) t0 (S99.ob 0 hc96)) (wg V (Sc t0) (uvg (Sb t0) t0) (vF (Sd t0) t0 (W_end (en (Ke (Qe (fx4 (fx4 (fx4 (fx4 (fx4 F100))))))) fun A108 _ F108 => ?_))))))
 have S109 := S99.se [0, 2, 3] [c96, c_6, c2]
 refine tk H101 (cd (fg0 F108) (fun c110 => ?_) fun c110 => ?_)
 ·refine tb fun _ H111 => (vc (W_end (en (Ka F108) fun A112 _ F112 => tk H111 (wp_ret (inb_ret (then_ret (then_ret (inb_ret (then_ret (rt1 F112 (rv_tmp (fg0 F112)) ?_))))))))))
  have he : (cfE C N Z K Q) = 7 := cf_bad Zb
  rw [he]
  exact ⟨rfl, S109.fin0⟩
 refine wp_skip (inb_n (tk H92 (region_in (ad (fg7 F108) V (vm t0 (W_end (en (Ka (Qa (fx7 F108))) fun A114 _ F114 => then_n (LW_step ?_))))))))
 have l8_115 : EV A114 (.tmp 8) = .int .i64 (4 : Int) := (fg0 F114)
 refine tb fun _ H116 => (vl l8_115 (fg9 F114) (W_end (en (((ck (fx7 (fx0 F114)) V V)).c (Sa l8_115)) fun A117 _ F117 => tc H116 fun _ H118 => cond_sure (fg1 F117) Zj (wp_skip (tc H118 fun _ H119 => wp_block (tb fun _ H120 => ?_))))))
 have k121 : 4 < limL.length := Zs
 refine wv (V_ixS (off := O14 + 4 * 4) 4 4 V (fg10 F117) (fg0 F117) hv14 Zb k121 Tryz.underlying161 kr V) (wr (VR_ldR (ys := limC ((Value.string ⟨#[112, 111, 112, 117, 108, 97, 114]⟩), Value.int .i64 2, Value.int .i64 16, Value.func (.func 127) #[] #[])) V t0 (SlN.row limC_len (ow_at (S109.cq 1 hc_6)) hv14 (show limL[4]? = some ((Value.string ⟨#[112, 111, 112, 117, 108, 97, 114]⟩), Value.int .i64 2, Value.int .i64 16, Value.func (.func 127) #[] #[]) from rfl) V) Tryz.underlying165 V kr) (wA (#[.string ByteArray.empty, .int .i64 0, .int .i64 0, .nilFunc]) S109 (fun g122 w122 c122 hc122 S122 => xsA0 S122 hc122 V V V t0 (Sa t0) (fun w123 c123 hc123 S123 => W_end (en (Ka (Qb (fx8 F117))) fun A124 _ F124 => ta H120 fun _ H125 => (fa 3 (fg0 F124) (rL (.func (.func 127) #[] #[]) t0 (S123.ob 0 hc123) (W_callV V V V t0 Tryz.func127 kr V (args1 (Sb (fg11 F124))) (klim5_c (g := g2)) (fun _ w126 ⟨e, hP126⟩ => ⟨_, e, ?_⟩)))))))))
 have S126 := S123.j0 hP126
 refine ni t0 (rL (.int .i64 (Q)) t0 (S126.ob 3 hc2) (vt (W_end (en (Ka (Qe (fx8 F124))) fun A127 _ F127 => ta H125 fun _ H128 => (vm (fg0 F127) (fa 1 (Sa (fg1 F127)) (rL (.int .i64 2) t0 (S126.ob 0 hc123) (vl (Sb t0) t0 (W_split V V (V_mov V t0) (fun c129 => ?_) (fun c129 => ?_))))))))))
 ·refine xo V t0 (xo V (Sa t0) (xo V (Sb t0) (xo V (Sc t0) (vT (Sd t0) V (W_end (en (Ke (Qe (fx4 (fx4 (fx4 (fx4 (fx4 F127))))))) fun A130 _ F130 => tk H128 (cond_t (fg0 F130) (tb fun _ H132 => (vc (W_end (en (Ka F130) fun A133 _ F133 => tk H132 (wp_ret (inb_ret (then_ret (then_ret (inb_ret (then_ret (rt1 F133 (rv_tmp (fg0 F133)) ?_))))))))))))))))))
  have he : (cfE C N Z K Q) = 7 := cf_bad Zb
  rw [he]
  exact ⟨rfl, S126.fin0⟩
 refine wg V t0 (uvm (Se (fg0 F127))) (wg V (Sa t0) (ufa 2 (Sf (fg1 F127))) (wq V (Sb t0) (urL (.int .i64 16) t0 (S126.ob 0 hc123)) (wg V (Sc t0) (uvg (Sb t0) t0) (vF (Sd t0) t0 (W_end (en (Ke (Qe (fx4 (fx4 (fx4 (fx4 (fx4 F127))))))) fun A135 _ F135 => tk H128 (cd (fg0 F135) (fun c137 => ?_) fun c137 => ?_)))))))
 ·refine tb fun _ H138 => (vc (W_end (en (Ka F135) fun A139 _ F139 => tk H138 (wp_ret (inb_ret (then_ret (then_ret (inb_ret (then_ret (rt1 F139 (rv_tmp (fg0 F139)) ?_))))))))))
  have he : (cfE C N Z K Q) = 7 := cf_bad Zb
  rw [he]
  exact ⟨rfl, S126.fin0⟩
 refine wp_skip (inb_n (tk H119 (region_in (ad (fg7 F135) V (vm t0 (W_end (en (Ka (Qa (fx7 F135))) fun A141 _ F141 => then_n (LW_step ?_))))))))
 have l8_142 : EV A141 (.tmp 8) = .int .i64 (5 : Int) := (fg0 F141)
 refine tb fun _ H143 => (vl l8_142 (fg9 F141) (W_end (en (((ck (fx7 (fx0 F141)) V V)).c (Sa l8_142)) fun A144 _ F144 => tc H143 fun _ H145 => cond_not (fg1 F144) Zj (wp_exit (then_exit (then_exit (inb_hit (ta H4 fun _ H146 => (vc (W_end (en (Ka F144) fun A147 _ F147 => tk H146 (wp_ret (rt1 F147 (rv_tmp (fg0 F147)) ?_)))))))))))))
 have he : (cfE C N Z K Q) = 0 := cf_ok Zb
 rw [he]
 exact ⟨rfl, S126.fin0⟩

set_option maxHeartbeats 4000000 in
theorem qin_c {n a b : Int} {w : World}   :
  Calls Tryz.prog 75 #[.int .i64 n, .int .i64 a, .int .i64 b] w fun e w' => e = .returned (.bool (decide (a ≤ n ∧ n ≤ b))) ∧ St w NoX [] w' := by
 refine ci3 15 Tryz.func75 V (fun A0 _ F0 => ?_)
 have hS := St.nil w
 refine tb fun _ H1 => (vc (W_end (en (Qa F0) fun A2 _ F2 => ta H1 fun _ H3 => (vm (fg0 F2) (vm (Sa (fg1 F2)) (vh (Sa t0) t0 (W_split V V (V_mov V t0) (fun c4 => ?_) (fun c4 => ?_))))))))
 ·refine wg V t0 (uvm (Sd (fg0 F2))) (wg V (Sa t0) (uvm (Se (fg2 F2))) (wg V (Sb t0) (uvk (Sa t0) t0) (vT (Sc t0) t0 (vt (W_end (en (Ka (Qh F2)) fun A5 _ F5 => tk H3 (wp_ret (rt1 F5 (rv_tmp (fg0 F5)) ?_))))))))
  rw [show (decide (a ≤ n ∧ n ≤ b)) = decide (n ≤ b) by exact decide_eq_decide.2 Zb]
  exact ⟨rfl, hS.fin0⟩
 refine xo V t0 (xo V (Sa t0) (xo V (Sb t0) (vF (Sc t0) V (vt (W_end (en (Ka (Qh F2)) fun A6 _ F6 => tk H3 (wp_ret (rt1 F6 (rv_tmp (fg0 F6)) ?_))))))))
 rw [show (decide (a ≤ n ∧ n ≤ b)) = false by exact decide_eq_false Zb]
 exact ⟨rfl, hS.fin0⟩

set_option maxHeartbeats 4000000 in
theorem qcfg_c {C N Z K Q : Int} {w : World}   :
  Calls Tryz.prog 39 #[.agg #[.int .i64 C, .int .i64 N, .int .i64 Z, .int .i64 K, .int .i64 Q]] w fun e w' => e = .returned (.int .i64 (cfE C N Z K Q)) ∧ St w NoX [] w' := by
 refine ci1 26 Tryz.func39 V (fun A0 _ F0 => ?_)
 have hS := St.nil w
 refine tb fun _ H1 => (wB (#[.int .i64 (C), .int .i64 (N), .int .i64 (Z), .int .i64 (K), .int .i64 (Q)]) hS (fg0 F0) (fun g2 w2 c2 hc2 S2 => vc (W_end (en (Qa (Ka F0)) fun A3 _ F3 => tc H1 fun _ H4 => tb fun _ H5 => (fa 0 (fg0 F3) (rL (.int .i64 (C)) t0 (S2.ob 0 hc2) (wc (args3 t0 V V) (qin_c (n := C) (a := 8) (b := 64)) (C0 S2 fun w6 S6 => W_split V V (V_mov V t0) (fun c7 => ?_) (fun c7 => ?_)))))))))
 ·refine wg V t0 (ufa 1 (Sd (fg0 F3))) (wq V (Sa t0) (urL (.int .i64 (N)) t0 (S6.ob 0 hc2)) (W_call V (xwt V V (Sb t0)) V Tryz.func75 kr V (args3 t0 V V) (qin_c (n := N) (a := 7) (b := 24)) (C0 S6 fun w8 S8 => vT (Sc t0) t0 (W_split V V (V_mov V t0) (fun c9 => ?_) (fun c9 => ?_)))))
  ·refine wg V t0 (ufa 2 (Sh (Sa (fg0 F3)))) (wq V (Sa t0) (urL (.int .i64 (Z)) t0 (S8.ob 0 hc2)) (W_call V (xwt V V (Sb t0)) V Tryz.func75 kr V (args3 t0 V V) (qin_c (n := Z) (a := 4) (b := 64)) (C0 S8 fun w10 S10 => vT (Sc t0) t0 (W_split V V (V_mov V t0) (fun c11 => ?_) (fun c11 => ?_)))))
   ·refine wg V t0 (ufa 3 (Sh (Sf (fg0 F3)))) (wq V (Sa t0) (urL (.int .i64 (K)) t0 (S10.ob 0 hc2)) (W_call V (xwt V V (Sb t0)) V Tryz.func75 kr V (args3 t0 V V) (qin_c (n := K) (a := 1) (b := 8)) (C0 S10 fun w12 S12 => vT (Sc t0) t0 (W_split V V (V_mov V t0) (fun c13 => ?_) (fun c13 => ?_)))))
    ·refine wg V t0 (ufa 4 (Sh (Sh (Sc (fg0 F3))))) (wq V (Sa t0) (urL (.int .i64 (Q)) t0 (S12.ob 0 hc2)) (W_call V (xwt V V (Sb t0)) V Tryz.func75 kr V (args3 t0 V V) (qin_c (n := Q) (a := 2) (b := 16)) (C0 S12 fun w14 S14 => vT (Sc t0) t0 (W_end (en (Ka (Qf (Qh (Qh F3)))) fun A15 _ F15 => tk H5 (cd (fg0 F15) (fun c17 => ?_) fun c17 => ?_))))))
     ·refine tb fun _ H18 => (vc (W_end (en (Ka F15) fun A19 _ F19 => tk H18 (wp_ret (then_ret (rt1 F19 (rv_tmp (fg0 F19)) ?_))))))
      have he : (cfE C N Z K Q) = 0 := cf_ok Zb
      rw [he]
      exact ⟨rfl, S14.fin0⟩
     refine wp_skip (ta H4 fun _ H20 => (vc (W_end (en (Ka F15) fun A21 _ F21 => tk H20 (wp_ret (rt1 F21 (rv_tmp (fg0 F21)) ?_))))))
     have he : (cfE C N Z K Q) = 7 := cf_bad Zb
     rw [he]
     exact ⟨rfl, S14.fin0⟩
    refine xo V t0 (xo V (Sa t0) (xo V (Sb t0) (vF (Sc t0) V (W_end (en (Ka (Qf (Qh (Qh F3)))) fun A22 _ F22 => tk H5 (cond_f (fg0 F22) (wp_skip (ta H4 fun _ H24 => (vc (W_end (en (Ka F22) fun A25 _ F25 => tk H24 (wp_ret (rt1 F25 (rv_tmp (fg0 F25)) ?_)))))))))))))
    have he : (cfE C N Z K Q) = 7 := cf_bad Zb
    rw [he]
    exact ⟨rfl, S12.fin0⟩
   refine xo V t0 (xo V (Sa t0) (xo V (Sb t0) (vF (Sc t0) V (vm t0 (xo V t0 (xo V (Sa t0) (xo V (Sb t0) (vF (Sc t0) V (W_end (en (Ka (Qf (Qh (Qh F3)))) fun A26 _ F26 => tk H5 (cond_f (fg0 F26) (wp_skip (ta H4 fun _ H28 => (vc (W_end (en (Ka F26) fun A29 _ F29 => tk H28 (wp_ret (rt1 F29 (rv_tmp (fg0 F29)) ?_))))))))))))))))))
   have he : (cfE C N Z K Q) = 7 := cf_bad Zb
   rw [he]
   exact ⟨rfl, S10.fin0⟩
  refine xo V t0 (xo V (Sa t0) (xo V (Sb t0) (vF (Sc t0) V (vm t0 (xo V t0 (xo V (Sa t0) (xo V (Sb t0) (vF (Sc t0) V (vm t0 (xo V t0 (xo V (Sa t0) (xo V (Sb t0) (vF (Sc t0) V (W_end (en (Ka (Qf (Qh (Qh F3)))) fun A30 _ F30 => tk H5 (cond_f (fg0 F30) (wp_skip (ta H4 fun _ H32 => (vc (W_end (en (Ka F30) fun A33 _ F33 => tk H32 (wp_ret (rt1 F33 (rv_tmp (fg0 F33)) ?_)))))))))))))))))))))))
  have he : (cfE C N Z K Q) = 7 := cf_bad Zb
  rw [he]
  exact ⟨rfl, S8.fin0⟩
 refine xo V t0 (xo V (Sa t0) (xo V (Sb t0) (vF (Sc t0) V (vm t0 (xo V t0 (xo V (Sa t0) (xo V (Sb t0) (vF (Sc t0) V (vm t0 (xo V t0 (xo V (Sa t0) (xo V (Sb t0) (vF (Sc t0) V (vm t0 (xo V t0 (xo V (Sa t0) (xo V (Sb t0) (vF (Sc t0) V (W_end (en (Ka (Qf (Qh (Qh F3)))) fun A34 _ F34 => tk H5 (cond_f (fg0 F34) (wp_skip (ta H4 fun _ H36 => vc (W_end (en (Ka F34) fun A37 _ F37 => tk H36 (wp_ret (rt1 F37 (rv_tmp (fg0 F37)) ?_)))))))))))))))))))))))))))
 have he : (cfE C N Z K Q) = 7 := cf_bad Zb
 rw [he]
 exact ⟨rfl, S6.fin0⟩

set_option maxHeartbeats 4000000 in
theorem klg1_c {C N Z K Q : Int} {gc : Nat} {w : World} (hb_gc : Ro w NoX (bx gc 23 #[.int .i64 C, .int .i64 N, .int .i64 Z, .int .i64 K, .int .i64 Q])) (hc : (cfE C N Z K Q) = 0) :
  Calls Tryz.prog 58 #[.pointer (some ⟨gc, 0, none⟩)] w fun e w' => e = .returned (.int .i64 (lgX C Z)) ∧ St w NoX [] w' := by
 have hr := cf_rng (show cfE C N Z K Q = 0 by omega)
 refine ci1 8 Tryz.func58 V (fun A0 _ F0 => ?_)
 have hS := St.nil w
 refine tb fun _ H1 => (vc (W_end (en (Qa F0) fun A2 _ F2 => ta H1 fun _ H3 => (fa 0 (fg0 F2) (rc t0 (cell_box (v := .int .i64 (C)) (ob_at (hS.ro hb_gc)) V) (wv (V_quo V t0 V Zb Zb (wrap_div Zb Zb Zb)) (fa 2 (Sc (fg0 F2)) (rc t0 (cell_box (v := .int .i64 (Z)) (ob_at (hS.ro hb_gc)) V) (wv (V_min V (Sb t0) t0) (vt (W_end (en (Ka (Qf F2)) fun A4 _ F4 => tk H3 (wp_ret (rt1 F4 (rv_tmp (fg0 F4)) ?_))))))))))))))
 exact ⟨rfl, hS.fin0⟩

set_option maxHeartbeats 4000000 in
theorem kof_c {C N Z K Q : Int} {gc : Nat} {w : World} (hb_gc : Ro w NoX (bx gc 23 #[.int .i64 C, .int .i64 N, .int .i64 Z, .int .i64 K, .int .i64 Q]))  :
  Calls Tryz.prog 57 #[.agg #[.int .i64 C, .int .i64 N, .int .i64 Z, .int .i64 K, .int .i64 Q], .func (.func 58) #[] #[.pointer (some ⟨gc, 0, none⟩)]] w fun e w' => e = .returned (.tuple #[.int .i64 (lgN C N Z K Q), .int .i64 (cfE C N Z K Q)]) ∧ St w NoX [] w' := by
 refine ci2 14 Tryz.func57 V (fun A0 _ F0 => ?_)
 have hS := St.nil w
 refine tb fun _ H1 => (wB (#[.int .i64 (C), .int .i64 (N), .int .i64 (Z), .int .i64 (K), .int .i64 (Q)]) hS (fg0 F0) (fun g2 w2 c2 hc2 S2 => vc (vc (W_end (en (Qb (Ka F0)) fun A3 _ F3 => tc H1 fun _ H4 => tb fun _ H5 => (ra (fg0 F3) (S2.ob 0 hc2) (wc (args1 t0) (kcfg_c (C := C) (N := N) (Z := Z) (K := K) (Q := Q)) (C0 S2 fun w6 S6 => vt (W_end (en (Ka (Qb F3)) fun A7 _ F7 => ?_))))))))))
 have S8 := S6.se [] []
 refine ta H5 fun _ H9 => (vm (fg0 F7) (vn t0 V (W_end (en (Ka (Qa F7)) fun A10 _ F10 => tk H9 (cd (fg0 F10) (fun c11 => ?_) fun c11 => ?_)))))
 ·refine tb fun _ H12 => (vm (fg1 F10) (vc (va (Sa t0) (W_end (en (Kb (Qa F10)) fun A13 _ F13 => tk H12 (wp_ret (then_ret (rt2 F13 (rv_tmp (fg1 F13)) (rv_tmp (fg0 F13)) ?_))))))))
  have hw := lg_bad (show cfE C N Z K Q ≠ 0 by omega)
  rw [hw]
  exact ⟨rfl, S8.fin0⟩
 refine wp_skip (ta H4 fun _ H14 => (vm (fg4 F10) (W_callV V V V t0 Tryz.func58 kr V args0 (klg1_c (gc := gc) (C := C) (N := N) (Z := Z) (K := K) (Q := Q) (S8.roC hb_gc) Zf) (fun _ w15 ⟨e, hP15⟩ => ⟨_, e, ?_⟩))))
 have S15 := S8.j0 hP15
 refine vt (vc (W_end (en (Kb (Qb F10)) fun A16 _ F16 => tk H14 (wp_ret (rt2 F16 (rv_tmp (fg1 F16)) (rv_tmp (fg0 F16)) ?_)))))
 have hw := lg_ok (show cfE C N Z K Q = 0 by omega)
 have he : cfE C N Z K Q = 0 := by omega
 rw [he, hw]
 exact ⟨rfl, S15.fin0⟩

set_option maxHeartbeats 4000000 in
theorem klg_c {C N Z K Q : Int} {w : World}   :
  Calls Tryz.prog 33 #[.agg #[.int .i64 C, .int .i64 N, .int .i64 Z, .int .i64 K, .int .i64 Q]] w fun e w' => e = .returned (.tuple #[.int .i64 (lgN C N Z K Q), .int .i64 (cfE C N Z K Q)]) ∧ St w NoX [] w' := by
 refine ci1 9 Tryz.func33 V (fun A0 _ F0 => ?_)
 have hS := St.nil w
 refine tb fun _ H1 => (wB (#[.int .i64 (C), .int .i64 (N), .int .i64 (Z), .int .i64 (K), .int .i64 (Q)]) hS (fg0 F0) (fun g2 w2 c2 hc2 S2 => vc (vc (W_end (en (Qb (Ka F0)) fun A3 _ F3 => ta H1 fun _ H4 => (ra (fg0 F3) (S2.ob 0 hc2) (wv (V_mkf V args0 (args1 (Sa (fg0 F3)))) (wc (args2 (Sa t0) t0) (kof_c (C := C) (N := N) (Z := Z) (K := K) (Q := Q) (gc := g2) (S2.cC 0 hc2)) (C0 S2 fun w5 S5 => vx (.int .i64 (lgN C N Z K Q)) t0 (vx (.int .i64 (cfE C N Z K Q)) (Sa t0) (va (Sa t0) (va (Sa t0) (W_end (en (Kb (Qe F3)) fun A6 _ F6 => tk H4 (wp_ret (rt2 F6 (rv_tmp (fg1 F6)) (rv_tmp (fg0 F6)) ?_))))))))))))))))
 exact ⟨rfl, S5.fin0⟩

set_option maxHeartbeats 4000000 in
theorem qlg_c {C N Z K Q : Int} {w : World}   :
  Calls Tryz.prog 81 #[.agg #[.int .i64 C, .int .i64 N, .int .i64 Z, .int .i64 K, .int .i64 Q]] w fun e w' => e = .returned (.tuple #[.int .i64 (lgN C N Z K Q), .int .i64 (cfE C N Z K Q)]) ∧ St w NoX [] w' := by
 refine ci1 16 Tryz.func81 V (fun A0 _ F0 => ?_)
 have hS := St.nil w
 refine tb fun _ H1 => (wB (#[.int .i64 (C), .int .i64 (N), .int .i64 (Z), .int .i64 (K), .int .i64 (Q)]) hS (fg0 F0) (fun g2 w2 c2 hc2 S2 => vc (vc (W_end (en (Qb (Ka F0)) fun A3 _ F3 => ta H1 fun _ H4 => (ra (fg0 F3) (S2.ob 0 hc2) (wc (args1 t0) (qcfg_c (C := C) (N := N) (Z := Z) (K := K) (Q := Q)) (C0 S2 fun w5 S5 => vt (W_end (en (Ka (Qb F3)) fun A6 _ F6 => tc H4 fun _ H7 => tb fun _ H8 => (vm (fg0 F6) (vn t0 V (W_end (en (Ka (Qa F6)) fun A9 _ F9 => tk H8 (cd (fg0 F9) (fun c10 => ?_) fun c10 => ?_)))))))))))))))
 ·refine tb fun _ H11 => (vm (fg1 F9) (vc (va (Sa t0) (W_end (en (Kb (Qa F9)) fun A12 _ F12 => tk H11 (wp_ret (then_ret (rt2 F12 (rv_tmp (fg1 F12)) (rv_tmp (fg0 F12)) ?_))))))))
  have hw := lg_bad (show cfE C N Z K Q ≠ 0 by omega)
  rw [hw]
  exact ⟨rfl, S5.fin0⟩
 have hr := cf_rng (show cfE C N Z K Q = 0 by omega)
 refine wp_skip (ta H7 fun _ H14 => (fa 0 (fg2 F9) (rL (.int .i64 (C)) t0 (S5.ob 0 hc2) (wv (V_quo V t0 V Zb Zb (wrap_div Zb Zb Zb)) (fa 2 (Sc (fg2 F9)) (rL (.int .i64 (Z)) t0 (S5.ob 0 hc2) (wv (V_min V (Sb t0) t0) (vt (vc (W_end (en (Kb (Qf F9)) fun A15 _ F15 => tk H14 (wp_ret (rt2 F15 (rv_tmp (fg1 F15)) (rv_tmp (fg0 F15)) ?_)))))))))))))
 have hw := lg_ok (show cfE C N Z K Q = 0 by omega)
 have he : cfE C N Z K Q = 0 := by omega
 rw [he, hw]
 exact ⟨rfl, S5.fin0⟩

end Go.Proofs.YtpgkfndbfocibaaGreat
namespace Go.Own
open Go Go.RowKit
theorem parts8 {A : Act} {i0 i1 i2 i3 i4 i5 i6 i7 : Nat} {x0 x1 x2 x3 x4 x5 x6 x7 : Operand} {v0 v1 v2 v3 v4 v5 v6 v7 : Value} (h0 : EV A x0 = v0) (h1 : EV A x1 = v1) (h2 : EV A x2 = v2) (h3 : EV A x3 = v3) (h4 : EV A x4 = v4) (h5 : EV A x5 = v5) (h6 : EV A x6 = v6) (h7 : EV A x7 = v7) : ((#[(i0, x0), (i1, x1), (i2, x2), (i3, x3), (i4, x4), (i5, x5), (i6, x6), (i7, x7)] : Array (Nat × Operand)).map fun (i, x) => (i, EV A x)).toList = [(i0, v0), (i1, v1), (i2, v2), (i3, v3), (i4, v4), (i5, v5), (i6, v6), (i7, v7)] := by subst_vars; simp
theorem parts9 {A : Act} {i0 i1 i2 i3 i4 i5 i6 i7 i8 : Nat} {x0 x1 x2 x3 x4 x5 x6 x7 x8 : Operand} {v0 v1 v2 v3 v4 v5 v6 v7 v8 : Value} (h0 : EV A x0 = v0) (h1 : EV A x1 = v1) (h2 : EV A x2 = v2) (h3 : EV A x3 = v3) (h4 : EV A x4 = v4) (h5 : EV A x5 = v5) (h6 : EV A x6 = v6) (h7 : EV A x7 = v7) (h8 : EV A x8 = v8) : ((#[(i0, x0), (i1, x1), (i2, x2), (i3, x3), (i4, x4), (i5, x5), (i6, x6), (i7, x7), (i8, x8)] : Array (Nat × Operand)).map fun (i, x) => (i, EV A x)).toList = [(i0, v0), (i1, v1), (i2, v2), (i3, v3), (i4, v4), (i5, v5), (i6, v6), (i7, v7), (i8, v8)] := by subst_vars; simp
theorem parts11 {A : Act} {i0 i1 i2 i3 i4 i5 i6 i7 i8 i9 i10 : Nat} {x0 x1 x2 x3 x4 x5 x6 x7 x8 x9 x10 : Operand} {v0 v1 v2 v3 v4 v5 v6 v7 v8 v9 v10 : Value} (h0 : EV A x0 = v0) (h1 : EV A x1 = v1) (h2 : EV A x2 = v2) (h3 : EV A x3 = v3) (h4 : EV A x4 = v4) (h5 : EV A x5 = v5) (h6 : EV A x6 = v6) (h7 : EV A x7 = v7) (h8 : EV A x8 = v8) (h9 : EV A x9 = v9) (h10 : EV A x10 = v10) : ((#[(i0, x0), (i1, x1), (i2, x2), (i3, x3), (i4, x4), (i5, x5), (i6, x6), (i7, x7), (i8, x8), (i9, x9), (i10, x10)] : Array (Nat × Operand)).map fun (i, x) => (i, EV A x)).toList = [(i0, v0), (i1, v1), (i2, v2), (i3, v3), (i4, v4), (i5, v5), (i6, v6), (i7, v7), (i8, v8), (i9, v9), (i10, v10)] := by subst_vars; simp
end Go.Own

namespace Go.Own
open Go Go.RowKit Go.Own.Ml
inductive SF where
 | i (k : IntKind) (a b : Int)
 | b (p q : Bool)
def SF.l : SF → Value
 | .i k z _ => .int k z
 | .b p _ => .bool p
def SF.r : SF → Value
 | .i k _ z => .int k z
 | .b _ q => .bool q
def SF.e : SF → Bool
 | .i _ z z' => z == z'
 | .b p q => p == q
def SF.k : SF → Bool
 | .i _ _ _ => true
 | .b _ _ => false
section
variable {P : Program} {w : World}
theorem run_part_s {t : TypeId} {p : SF} {cs : Array Value} {i : Nat} {v : Value} (ht : (∃ k, P.underlying t = some (.int k)) ∨ P.underlying t = some .bool) (h : cs[i]? = some v) : (part t cs i).run P w = .ok v w := by
 have hagg : (isAgg t).run P w = .ok false w := by
  unfold isAgg
  rcases ht with ⟨k, ht⟩ | ht <;> (rw [Sem.run_bind, run_underlying ht w]; rfl)
 simp [part, hagg, h]
def okF (P : Program) (t : TypeId) (k : Bool) : Prop := if k then ∃ k, P.underlying t = some (.int k) else P.underlying t = some .bool
theorem eqFields_s (d : Nat) (xs ys : Array Value) : ∀ (fs : List Field) (i : Nat) (l : List SF), (∀ (j : Nat) (f : Field) (p : SF), fs[j]? = some f → l[j]? = some p → f.name ≠ "_" ∧ f.offset = i + j ∧ okF P f.type p.k) →
  (∀ (j : Nat) (p : SF), l[j]? = some p → xs[i + j]? = some p.l ∧ ys[i + j]? = some p.r) → fs.length = l.length → (Op.eqFields (d + 1) xs ys fs).run P w = .ok (l.all SF.e) w
 | [], i, l, _, _, hl => by
  have : l = [] := List.eq_nil_of_length_eq_zero hl.symm
  subst this; rfl
 | f :: fs, i, [], _, _, hl => by simp at hl
 | f :: fs, i, p :: l, hf, hp, hl => by
  obtain ⟨h1, h2, h3⟩ := hf 0 f p rfl rfl
  obtain ⟨q1, q2⟩ := hp 0 p rfl
  simp only [Nat.add_zero] at h2 q1 q2
  have ih := eqFields_s d xs ys fs (i + 1) l (fun j f' p' h hh => by have := hf (j + 1) f' p' (by simpa using h) (by simpa using hh); rwa [show i + (j + 1) = i + 1 + j by omega] at this)
   (fun j p' h => by have := hp (j + 1) p' (by simpa using h); rwa [show i + (j + 1) = i + 1 + j by omega] at this) (by simpa using hl)
  have hor : (∃ k, P.underlying f.type = some (.int k)) ∨ P.underlying f.type = some .bool := by
   unfold okF at h3; split at h3
   ·exact .inl h3
   ·exact .inr h3
  have he : (Op.equalIn (d + 1) f.type p.l p.r).run P w = .ok p.e w := by
   cases p with
   | i k a b => obtain ⟨k', hk⟩ := h3; exact run_equalIn_int w d f.type k k' a b hk
   | b p q => exact run_equalIn_bool w d f.type p q h3
  unfold Op.eqFields
  rw [if_pos h1, h2]
  simp only [Sem.run_bind, run_part_s (p := p) hor q1, run_part_s (p := p) hor q2, Result.andThen_ok, he]
  cases h : p.e <;> simp [h, ih]
def stG (P : Program) (t : TypeId) (ks : List Bool) : Bool := (match P.underlying t with
 | some (.struct fs) => fs.size == ks.length && (List.range ks.length).all fun j => match fs[j]? with
  | some f => f.name != "_" && f.offset == j && (match P.underlying f.type with | some (.int _) => ks.getD j true | some .bool => !ks.getD j true | _ => false)
  | none => false
 | _ => false) && !P.stoodInHeld t && !P.eqGuardType P.depth t
theorem run_eqG {t : TypeId} {xs ys : Array Value} (l : List SF) (h : stG P t (l.map SF.k) = true) (hx : xs = (l.map SF.l).toArray) (hy : ys = (l.map SF.r).toArray) :
  (Op.equalIn 10000 t (.agg xs) (.agg ys)).run P w = .ok (l.all SF.e) w ∧ P.eqGuardType P.depth t = false := by
 unfold stG at h
 simp only [Bool.and_eq_true, Bool.not_eq_true'] at h
 obtain ⟨⟨h1, h2⟩, h3⟩ := h
 refine ⟨?_, h3⟩
 split at h1
 ·rename_i fs hu
  have hfs : P.fieldsOf t = fs := by unfold Program.fieldsOf; rw [hu]
  rw [run_equalIn_struct w 9999 t xs ys (by rw [hfs]; exact hu) h2, hfs]
  simp only [Bool.and_eq_true, beq_iff_eq, List.all_eq_true, List.mem_range, List.length_map] at h1
  refine eqFields_s 9998 xs ys fs.toList 0 l (fun j f p hf hp => ?_) (fun j p h => by subst hx hy; simp [h]) (by simp [h1.1])
  have hlt := (List.getElem?_eq_some_iff.1 hp).1
  have := h1.2 j hlt
  have hf' : fs[j]? = some f := by simpa using hf
  rw [hf'] at this
  simp only [Bool.and_eq_true, bne_iff_ne, beq_iff_eq] at this
  obtain ⟨⟨a, b⟩, c⟩ := this
  refine ⟨a, by omega, ?_⟩
  have hk : (l.map SF.k).getD j true = p.k := by rw [List.getD_eq_getElem?_getD, List.getElem?_map, hp]; rfl
  rw [hk] at c
  unfold okF
  split at c
  ·rw [if_pos c]; exact ⟨_, by assumption⟩
  ·rw [if_neg (by simpa using c)]; assumption
  ·cases c
 ·cases h1
variable {A : Act} {o : Oper} {x y : Operand} {t t' : TypeId} {xs ys : Array Value}
theorem V_neG {B : Bool} (l : List SF) (ho : o.op = .binOp .neq t x y t') (hx : EV A x = .agg xs) (hy : EV A y = .agg ys) (h : stG P t (l.map SF.k) = true) (h1 : xs = (l.map SF.l).toArray) (h2 : ys = (l.map SF.r).toArray) (hB : (!l.all SF.e) = B) : Val P A o (.bool B) := fun w => by
 obtain ⟨q1, q2⟩ := run_eqG (w := w) l h h1 h2
 unfold execOp
 simp only [ho, hx, hy, Sem.run_bind, run_eqGuard_agg w .neq t x y _ _ q2, Result.andThen_ok, run_neq_struct, q1, Sem.run_pure, hB]
section
variable {k0 k1 k2 k3 k4 k5 k6 : IntKind} {a0 a1 a2 a3 a4 a5 a6 b0 b1 b2 b3 b4 b5 b6 : Int} {p q : Bool}
theorem V_neSt7 (ho : o.op = .binOp .neq t x y t') (hx : EV A x = .agg #[.int k0 a0, .int k1 a1, .int k2 a2, .int k3 a3, .int k4 a4, .int k5 a5, .int k6 a6]) (hy : EV A y = .agg #[.int k0 b0, .int k1 b1, .int k2 b2, .int k3 b3, .int k4 b4, .int k5 b5, .int k6 b6]) (h : stG P t [true, true, true, true, true, true, true] = true) :
  Val P A o (.bool (decide (¬ (a0 = b0 ∧ a1 = b1 ∧ a2 = b2 ∧ a3 = b3 ∧ a4 = b4 ∧ a5 = b5 ∧ a6 = b6)))) :=
 V_neG [.i k0 a0 b0, .i k1 a1 b1, .i k2 a2 b2, .i k3 a3 b3, .i k4 a4 b4, .i k5 a5 b5, .i k6 a6 b6] ho hx hy h rfl rfl (by rw [Bool.eq_iff_iff]; simp [SF.e])
theorem V_neStA (ho : o.op = .binOp .neq t x y t') (hx : EV A x = .agg #[.int k0 a0, .bool p, .int k2 a2]) (hy : EV A y = .agg #[.int k0 b0, .bool q, .int k2 b2]) (h : stG P t [true, false, true] = true) : Val P A o (.bool (decide (¬ (a0 = b0 ∧ p = q ∧ a2 = b2)))) :=
 V_neG [.i k0 a0 b0, .b p q, .i k2 a2 b2] ho hx hy h rfl rfl (by rw [Bool.eq_iff_iff]; simp [SF.e])
end
end
section
variable {P : Program} {A : Act} {o : Oper} {x p : Operand} {t e n : Nat} {kd : IntKind} {z : Int}
theorem V_ixvV {xs : List Value} {y : Value} {de : TypeDesc} (k : Nat) (ho : o.op = .index t x p) (hx : EV A x = .agg xs.toArray) (hp : EV A p = .int kd z) (hz : z = (k : Int)) (hu : P.underlying t = some (.array n e)) (hn : xs.length = n) (hy : xs[k]? = some y)
  (hd : P.underlying e = some de) (ha : (match de with | .struct _ | .array _ _ => true | _ => false) = false) (hi : (P.info? e).map (·.size) = some 1) : Val P A o y :=
 V_ixvT (f := id) (xs := xs) k ho (by rw [hx, List.map_id]) hp hz hu hn hy hd ha hi
end
section
variable {w0 w : World} {X : Nat → Prop} {l : List HP}
theorem nsi_allM : ∀ (M L : List SL), St w0 X (nsi L :: ((M.map fun y : SL => io .i64 y.1 y.2) ++ l)) w → St w0 X (nsi (M ++ L) :: l) w
 | [], L, h => h
 | y :: M, L, h => by
  have h3 : St w0 X (nsi (y :: L) :: ((M.map fun y : SL => io .i64 y.1 y.2) ++ l)) w := St.two h fun f g p1 p2 _ => ⟨fun b => f b ∨ g b, fun z hz => by
   rcases List.mem_cons.1 hz with rfl | hz
   ·exact sl_mono (ow_sl p2) fun b => .inr
   ·exact sl_mono (p1 z hz) fun b => .inl, fun _ h => h⟩
  exact (nsi_allM M (y :: L) h3).conv fun f h z hz => h z (by simp only [List.mem_append, List.mem_cons, List.cons_append] at hz ⊢; rcases hz with q | q | q <;> simp [q])
theorem nsi_own (M : List SL) (h : St w0 X (M.map fun y : SL => io .i64 y.1 y.2) w) : St w0 X [nsi M] w := by
 have := nsi_allM (l := []) M [] (by rw [List.append_nil]; exact h.emp fun y hy => by cases hy)
 rwa [List.append_nil] at this
theorem tr_at {us : List TR} {k : Nat} {y : TR} (hy : us[k]? = some y) (h : (nsi (us.map fun y : TR => y.2)).at w) : (il .i64 y.2.1 y.2.2).at w := nsi_at1 h (mapE (g := fun y : TR => y.2) hy)
end
theorem ret_inN {P : Program} {A : Act} {w : World} {fn : Func} {R : Ending → World → Prop} {v : Value} (hr : (results fn A.tmps).run P w = .ok v w) (hd : A.defers = []) (h : R (.returned v) w) : bodyPost P fn R .normal A w := ⟨hd, v, hr, h⟩
theorem V_shr1 {P : Program} {A : Act} {o : Oper} {x y : Operand} {t t' : TypeId} {yk : IntKind} {a : Int} (ho : o.op = .binOp .shr t x y t') (hx : EV A x = .int .u64 a) (hy : EV A y = .int yk 1) : Val P A o (.int .u64 (a / 2)) := fun w => by
 unfold execOp
 simp [ho, hx, hy, eqGuard, binOp, shift_shr .u64 yk a 1 (by decide) (by decide)]
end Go.Own

namespace Go.Proofs.YtpgkfndbfocibaaGreat
open Go.RowKit Go.Own Go.Own.R Go.Own.G Go.Own.Gr Go.Own.Ml


set_option maxHeartbeats 4000000 in
theorem knum_c {g : Nat} {wt : Int} {w : World}  (hw : 1 ≤ wt ∧ wt ≤ 5) :
  Calls Tryz.prog 62 #[.pointer (some ⟨g, 0, none⟩), .int .i64 wt] w fun e w' => e = .returned (.pointer (some ⟨g, Int.toNat wt, none⟩)) ∧ St w NoX [] w' := by
 refine ci2 23 Tryz.func62 V (fun A0 _ F0 => ?_)
 have hS := St.nil w
 refine tb fun _ H1 => (vc (W_end (en (Qa F0) fun A2 _ F2 => tc H1 fun _ H3 => region_monoS 19 19 [] kr kr (dm (fg0 F2) (dn t0 (df 1 t0 (dm (Sc (fg0 F2)) (dn t0 (df 2 t0 (dm (Sf (fg0 F2)) (dn t0 (df 3 t0 (dm (Sh (Sa (fg0 F2))) (dn t0 (df 4 t0 (dm (Sh (Sd (fg0 F2))) (dn t0 (df 5 t0 (dv (V_bldA (n := 6) (z := .agg #[.pointer none, .pointer none, .pointer none, .pointer none, .pointer none, .pointer none]) V (parts5 (Sh (Sd t0)) (Sh (Sa t0)) (Sf t0) (Sc t0) t0) kr (by simp only [List.all_cons, List.all_nil, Bool.and_true] <;> rfl) kr Zn) (dm (Sh (Sh (fg1 F2))) (dv (V_ixvV (xs := [.pointer none, .pointer (some ⟨g, 1, none⟩), .pointer (some ⟨g, 2, none⟩), .pointer (some ⟨g, 3, none⟩), .pointer (some ⟨g, 4, none⟩), .pointer (some ⟨g, 5, none⟩)]) (y := .pointer (some ⟨g, Int.toNat wt, none⟩)) (Int.toNat wt) V (Sa t0) t0 Zb Tryz.underlying143 V (num_at hw) Tryz.underlying104 V kr) (dv (V_asg V t0) (ZS_none hS (Nat.le_refl _) (Nat.le_refl _) (fun s4 hJ4 hL4 hF4 => ?_))))))))))))))))))))))))
 have S4 := hJ4.st; clear hF4 hJ4 hL4
 generalize s4.1 = w4 at *
 replace S4 : St w NoX [] w4 := S4
 refine en (Ka (Qb (Qh (Qh F2)))) fun A5 _ F5 => tk H3 (wp_ret (rt1 F5 (rv_tmp (fg0 F5)) ?_))
 exact ⟨rfl, S4.fin0⟩

set_option maxHeartbeats 4000000 in
theorem ktk1_c {kd a b f p q uu : Int} {gb : Nat} {er : Int} {ge : Nat} {w : World} {Y : Nat → Prop}  (hS : St w Y [bx gb 50 #[.int .i64 kd, .int .i64 a, .int .i64 b, .int .i64 f, .int .i64 p, .int .i64 q, .int .u64 uu], bx ge 32 #[.int .i64 er]] w)  :
  Calls Tryz.prog 61 #[.int .i64 1, .pointer (some ⟨gb, 0, none⟩), .pointer (some ⟨ge, 0, none⟩)] w fun e w' => e = .returned (.tuple #[]) ∧ St w Y [bx gb 50 #[.int .i64 kd, .int .i64 (if (1 : Int) = 1 then 0 else a), .int .i64 (if (1 : Int) = 2 then 0 else b), .int .i64 (if (1 : Int) = 3 then 0 else f), .int .i64 (if (1 : Int) = 4 then 0 else p), .int .i64 (if (1 : Int) = 5 then 0 else q), .int .u64 (if (1 : Int) = 6 then 0 else uu)], bx ge 32 #[.int .i64 (if ((1 : Int) = 1 ∧ badN a) ∨ ((1 : Int) = 2 ∧ badN b) ∨ ((1 : Int) = 3 ∧ badN f) ∨ ((1 : Int) = 4 ∧ badN p) ∨ ((1 : Int) = 5 ∧ badN q) then 7 else er)]] w' := by
 refine ci3 22 Tryz.func61 V (fun A0 _ F0 => ?_)
 obtain ⟨mb_gb, mb_ge, hmb_gb, hmb_ge, hS⟩ := gen2 hS
 refine td fun _ H1 => tb fun _ H2 => (vm (fg0 F0) (ve t0 V (W_end (en (Ka (Qa F0)) fun A3 _ F3 => tk H2 (cond_not (fg0 F3) Zg (wp_skip (ta H1 fun _ H4 => (vm (fg1 F3) (wc (args2 (Sa (fg2 F3)) t0) (knum_c (g := gb) (wt := 1) Zf) (C0 hS fun w5 S5 => vt (W_end (en (Ka (Qb F3)) fun A6 _ F6 => tc H4 fun _ H7 => tb fun _ H8 => (vm (fg0 F6) (ni t0 (rL (.int .i64 (a)) t0 (S5.ob 0 hmb_gb) (vl t0 V (W_split V V (V_mov V t0) (fun c9 => ?_) (fun c9 => ?_))))))))))))))))))
 ·refine xo V t0 (xo V (Sa t0) (xo V (Sb t0) (xo V (Sc t0) (vT (Sd t0) V (W_end (en (Ka (Qa (Qh F6))) fun A10 _ F10 => tk H8 (cond_t (fg0 F10) (region_in (xsC1 (zs' := #[.int .i64 7]) S5 hmb_ge V V V (fg5 F10) V Zi (fun w11 c11 hc11 S11 => W_end (tk H7 (region_in (vm (fg1 F10) (ni t0 (xsC0 (zs' := #[.int .i64 (kd), .int .i64 0, .int .i64 (b), .int .i64 (f), .int .i64 (p), .int .i64 (q), .int .u64 (uu)]) S11 hmb_gb V V V t0 V Zi (fun w12 c12 hc12 S12 => W_end (en (Qb F10) fun A13 _ F13 => ret_inN (results_0 Tryz.results61) F13.d ?_)))))))))))))))))
  exact ⟨rfl, (S12.f2 0 (hc12.trans Zo) 1 (hc11.trans (congrArg (fun z => bx ge 32 #[Value.int .i64 z]) (show _ = (if ((1 : Int) = 1 ∧ badN a) ∨ ((1 : Int) = 2 ∧ badN b) ∨ ((1 : Int) = 3 ∧ badN f) ∨ ((1 : Int) = 4 ∧ badN p) ∨ ((1 : Int) = 5 ∧ badN q) then 7 else er) from (by rw [if_pos (show ((1 : Int) = 1 ∧ badN a) ∨ ((1 : Int) = 2 ∧ badN b) ∨ ((1 : Int) = 3 ∧ badN f) ∨ ((1 : Int) = 4 ∧ badN p) ∨ ((1 : Int) = 5 ∧ badN q) from by simp [badN]; omega)])))))⟩
 refine wg V t0 (uvm (Se (fg0 F6))) (wg V (Sa t0) (uni t0) (wq V (Sb t0) (urL (.int .i64 (a)) t0 (S5.ob 0 hmb_gb)) (wg V (Sc t0) (uvg t0 V) (vF (Sd t0) t0 (W_end (en (Ka (Qa (Qh F6))) fun A14 _ F14 => tk H8 (cd (fg0 F14) (fun c15 => ?_) fun c15 => ?_)))))))
 ·refine region_in (xsC1 (zs' := #[.int .i64 7]) S5 hmb_ge V V V (fg5 F14) V Zi (fun w16 c16 hc16 S16 => W_end (tk H7 (region_in (vm (fg1 F14) (ni t0 (xsC0 (zs' := #[.int .i64 (kd), .int .i64 0, .int .i64 (b), .int .i64 (f), .int .i64 (p), .int .i64 (q), .int .u64 (uu)]) S16 hmb_gb V V V t0 V Zi (fun w17 c17 hc17 S17 => W_end (en (Qb F14) fun A18 _ F18 => ret_inN (results_0 Tryz.results61) F18.d ?_)))))))))
  exact ⟨rfl, (S17.f2 0 (hc17.trans Zo) 1 (hc16.trans (congrArg (fun z => bx ge 32 #[Value.int .i64 z]) (show _ = (if ((1 : Int) = 1 ∧ badN a) ∨ ((1 : Int) = 2 ∧ badN b) ∨ ((1 : Int) = 3 ∧ badN f) ∨ ((1 : Int) = 4 ∧ badN p) ∨ ((1 : Int) = 5 ∧ badN q) then 7 else er) from (by rw [if_pos (show ((1 : Int) = 1 ∧ badN a) ∨ ((1 : Int) = 2 ∧ badN b) ∨ ((1 : Int) = 3 ∧ badN f) ∨ ((1 : Int) = 4 ∧ badN p) ∨ ((1 : Int) = 5 ∧ badN q) from by simp [badN]; omega)])))))⟩
 refine wp_skip (tk H7 (region_in (vm (fg1 F14) (ni t0 (xsC0 (zs' := #[.int .i64 (kd), .int .i64 0, .int .i64 (b), .int .i64 (f), .int .i64 (p), .int .i64 (q), .int .u64 (uu)]) S5 hmb_gb V V V t0 V Zi (fun w19 c19 hc19 S19 => W_end (en (Qb F14) fun A20 _ F20 => ret_inN (results_0 Tryz.results61) F20.d ?_)))))))
 exact ⟨rfl, (S19.f2 0 (hc19.trans Zo) 1 (hmb_ge.trans (congrArg (fun z => bx ge 32 #[Value.int .i64 z]) (show _ = (if ((1 : Int) = 1 ∧ badN a) ∨ ((1 : Int) = 2 ∧ badN b) ∨ ((1 : Int) = 3 ∧ badN f) ∨ ((1 : Int) = 4 ∧ badN p) ∨ ((1 : Int) = 5 ∧ badN q) then 7 else er) from (by rw [if_neg (show ¬ (((1 : Int) = 1 ∧ badN a) ∨ ((1 : Int) = 2 ∧ badN b) ∨ ((1 : Int) = 3 ∧ badN f) ∨ ((1 : Int) = 4 ∧ badN p) ∨ ((1 : Int) = 5 ∧ badN q)) from by simp [badN]; omega)])))))⟩

set_option maxHeartbeats 4000000 in
theorem ktk2_c {kd a b f p q uu : Int} {gb : Nat} {er : Int} {ge : Nat} {w : World} {Y : Nat → Prop}  (hS : St w Y [bx gb 50 #[.int .i64 kd, .int .i64 a, .int .i64 b, .int .i64 f, .int .i64 p, .int .i64 q, .int .u64 uu], bx ge 32 #[.int .i64 er]] w)  :
  Calls Tryz.prog 61 #[.int .i64 2, .pointer (some ⟨gb, 0, none⟩), .pointer (some ⟨ge, 0, none⟩)] w fun e w' => e = .returned (.tuple #[]) ∧ St w Y [bx gb 50 #[.int .i64 kd, .int .i64 (if (2 : Int) = 1 then 0 else a), .int .i64 (if (2 : Int) = 2 then 0 else b), .int .i64 (if (2 : Int) = 3 then 0 else f), .int .i64 (if (2 : Int) = 4 then 0 else p), .int .i64 (if (2 : Int) = 5 then 0 else q), .int .u64 (if (2 : Int) = 6 then 0 else uu)], bx ge 32 #[.int .i64 (if ((2 : Int) = 1 ∧ badN a) ∨ ((2 : Int) = 2 ∧ badN b) ∨ ((2 : Int) = 3 ∧ badN f) ∨ ((2 : Int) = 4 ∧ badN p) ∨ ((2 : Int) = 5 ∧ badN q) then 7 else er)]] w' := by
 refine ci3 22 Tryz.func61 V (fun A0 _ F0 => ?_)
 obtain ⟨mb_gb, mb_ge, hmb_gb, hmb_ge, hS⟩ := gen2 hS
 refine td fun _ H1 => tb fun _ H2 => (vm (fg0 F0) (ve t0 V (W_end (en (Ka (Qa F0)) fun A3 _ F3 => tk H2 (cond_not (fg0 F3) Zg (wp_skip (ta H1 fun _ H4 => (vm (fg1 F3) (wc (args2 (Sa (fg2 F3)) t0) (knum_c (g := gb) (wt := 2) Zf) (C0 hS fun w5 S5 => vt (W_end (en (Ka (Qb F3)) fun A6 _ F6 => tc H4 fun _ H7 => tb fun _ H8 => (vm (fg0 F6) (ni t0 (rL (.int .i64 (b)) t0 (S5.ob 0 hmb_gb) (vl t0 V (W_split V V (V_mov V t0) (fun c9 => ?_) (fun c9 => ?_))))))))))))))))))
 ·refine xo V t0 (xo V (Sa t0) (xo V (Sb t0) (xo V (Sc t0) (vT (Sd t0) V (W_end (en (Ka (Qa (Qh F6))) fun A10 _ F10 => tk H8 (cond_t (fg0 F10) (region_in (xsC1 (zs' := #[.int .i64 7]) S5 hmb_ge V V V (fg5 F10) V Zi (fun w11 c11 hc11 S11 => W_end (tk H7 (region_in (vm (fg1 F10) (ni t0 (xsC0 (zs' := #[.int .i64 (kd), .int .i64 (a), .int .i64 0, .int .i64 (f), .int .i64 (p), .int .i64 (q), .int .u64 (uu)]) S11 hmb_gb V V V t0 V Zi (fun w12 c12 hc12 S12 => W_end (en (Qb F10) fun A13 _ F13 => ret_inN (results_0 Tryz.results61) F13.d ?_)))))))))))))))))
  exact ⟨rfl, (S12.f2 0 (hc12.trans Zo) 1 (hc11.trans (congrArg (fun z => bx ge 32 #[Value.int .i64 z]) (show _ = (if ((2 : Int) = 1 ∧ badN a) ∨ ((2 : Int) = 2 ∧ badN b) ∨ ((2 : Int) = 3 ∧ badN f) ∨ ((2 : Int) = 4 ∧ badN p) ∨ ((2 : Int) = 5 ∧ badN q) then 7 else er) from (by rw [if_pos (show ((2 : Int) = 1 ∧ badN a) ∨ ((2 : Int) = 2 ∧ badN b) ∨ ((2 : Int) = 3 ∧ badN f) ∨ ((2 : Int) = 4 ∧ badN p) ∨ ((2 : Int) = 5 ∧ badN q) from by simp [badN]; omega)])))))⟩
 refine wg V t0 (uvm (Se (fg0 F6))) (wg V (Sa t0) (uni t0) (wq V (Sb t0) (urL (.int .i64 (b)) t0 (S5.ob 0 hmb_gb)) (wg V (Sc t0) (uvg t0 V) (vF (Sd t0) t0 (W_end (en (Ka (Qa (Qh F6))) fun A14 _ F14 => tk H8 (cd (fg0 F14) (fun c15 => ?_) fun c15 => ?_)))))))
 ·refine region_in (xsC1 (zs' := #[.int .i64 7]) S5 hmb_ge V V V (fg5 F14) V Zi (fun w16 c16 hc16 S16 => W_end (tk H7 (region_in (vm (fg1 F14) (ni t0 (xsC0 (zs' := #[.int .i64 (kd), .int .i64 (a), .int .i64 0, .int .i64 (f), .int .i64 (p), .int .i64 (q), .int .u64 (uu)]) S16 hmb_gb V V V t0 V Zi (fun w17 c17 hc17 S17 => W_end (en (Qb F14) fun A18 _ F18 => ret_inN (results_0 Tryz.results61) F18.d ?_)))))))))
  exact ⟨rfl, (S17.f2 0 (hc17.trans Zo) 1 (hc16.trans (congrArg (fun z => bx ge 32 #[Value.int .i64 z]) (show _ = (if ((2 : Int) = 1 ∧ badN a) ∨ ((2 : Int) = 2 ∧ badN b) ∨ ((2 : Int) = 3 ∧ badN f) ∨ ((2 : Int) = 4 ∧ badN p) ∨ ((2 : Int) = 5 ∧ badN q) then 7 else er) from (by rw [if_pos (show ((2 : Int) = 1 ∧ badN a) ∨ ((2 : Int) = 2 ∧ badN b) ∨ ((2 : Int) = 3 ∧ badN f) ∨ ((2 : Int) = 4 ∧ badN p) ∨ ((2 : Int) = 5 ∧ badN q) from by simp [badN]; omega)])))))⟩
 refine wp_skip (tk H7 (region_in (vm (fg1 F14) (ni t0 (xsC0 (zs' := #[.int .i64 (kd), .int .i64 (a), .int .i64 0, .int .i64 (f), .int .i64 (p), .int .i64 (q), .int .u64 (uu)]) S5 hmb_gb V V V t0 V Zi (fun w19 c19 hc19 S19 => W_end (en (Qb F14) fun A20 _ F20 => ret_inN (results_0 Tryz.results61) F20.d ?_)))))))
 exact ⟨rfl, (S19.f2 0 (hc19.trans Zo) 1 (hmb_ge.trans (congrArg (fun z => bx ge 32 #[Value.int .i64 z]) (show _ = (if ((2 : Int) = 1 ∧ badN a) ∨ ((2 : Int) = 2 ∧ badN b) ∨ ((2 : Int) = 3 ∧ badN f) ∨ ((2 : Int) = 4 ∧ badN p) ∨ ((2 : Int) = 5 ∧ badN q) then 7 else er) from (by rw [if_neg (show ¬ (((2 : Int) = 1 ∧ badN a) ∨ ((2 : Int) = 2 ∧ badN b) ∨ ((2 : Int) = 3 ∧ badN f) ∨ ((2 : Int) = 4 ∧ badN p) ∨ ((2 : Int) = 5 ∧ badN q)) from by simp [badN]; omega)])))))⟩

set_option maxHeartbeats 4000000 in
theorem ktk3_c {kd a b f p q uu : Int} {gb : Nat} {er : Int} {ge : Nat} {w : World} {Y : Nat → Prop}  (hS : St w Y [bx gb 50 #[.int .i64 kd, .int .i64 a, .int .i64 b, .int .i64 f, .int .i64 p, .int .i64 q, .int .u64 uu], bx ge 32 #[.int .i64 er]] w)  :
  Calls Tryz.prog 61 #[.int .i64 3, .pointer (some ⟨gb, 0, none⟩), .pointer (some ⟨ge, 0, none⟩)] w fun e w' => e = .returned (.tuple #[]) ∧ St w Y [bx gb 50 #[.int .i64 kd, .int .i64 (if (3 : Int) = 1 then 0 else a), .int .i64 (if (3 : Int) = 2 then 0 else b), .int .i64 (if (3 : Int) = 3 then 0 else f), .int .i64 (if (3 : Int) = 4 then 0 else p), .int .i64 (if (3 : Int) = 5 then 0 else q), .int .u64 (if (3 : Int) = 6 then 0 else uu)], bx ge 32 #[.int .i64 (if ((3 : Int) = 1 ∧ badN a) ∨ ((3 : Int) = 2 ∧ badN b) ∨ ((3 : Int) = 3 ∧ badN f) ∨ ((3 : Int) = 4 ∧ badN p) ∨ ((3 : Int) = 5 ∧ badN q) then 7 else er)]] w' := by
 refine ci3 22 Tryz.func61 V (fun A0 _ F0 => ?_)
 obtain ⟨mb_gb, mb_ge, hmb_gb, hmb_ge, hS⟩ := gen2 hS
 refine td fun _ H1 => tb fun _ H2 => (vm (fg0 F0) (ve t0 V (W_end (en (Ka (Qa F0)) fun A3 _ F3 => tk H2 (cond_not (fg0 F3) Zg (wp_skip (ta H1 fun _ H4 => (vm (fg1 F3) (wc (args2 (Sa (fg2 F3)) t0) (knum_c (g := gb) (wt := 3) Zf) (C0 hS fun w5 S5 => vt (W_end (en (Ka (Qb F3)) fun A6 _ F6 => tc H4 fun _ H7 => tb fun _ H8 => (vm (fg0 F6) (ni t0 (rL (.int .i64 (f)) t0 (S5.ob 0 hmb_gb) (vl t0 V (W_split V V (V_mov V t0) (fun c9 => ?_) (fun c9 => ?_))))))))))))))))))
 ·refine xo V t0 (xo V (Sa t0) (xo V (Sb t0) (xo V (Sc t0) (vT (Sd t0) V (W_end (en (Ka (Qa (Qh F6))) fun A10 _ F10 => tk H8 (cond_t (fg0 F10) (region_in (xsC1 (zs' := #[.int .i64 7]) S5 hmb_ge V V V (fg5 F10) V Zi (fun w11 c11 hc11 S11 => W_end (tk H7 (region_in (vm (fg1 F10) (ni t0 (xsC0 (zs' := #[.int .i64 (kd), .int .i64 (a), .int .i64 (b), .int .i64 0, .int .i64 (p), .int .i64 (q), .int .u64 (uu)]) S11 hmb_gb V V V t0 V Zi (fun w12 c12 hc12 S12 => W_end (en (Qb F10) fun A13 _ F13 => ret_inN (results_0 Tryz.results61) F13.d ?_)))))))))))))))))
  exact ⟨rfl, (S12.f2 0 (hc12.trans Zo) 1 (hc11.trans (congrArg (fun z => bx ge 32 #[Value.int .i64 z]) (show _ = (if ((3 : Int) = 1 ∧ badN a) ∨ ((3 : Int) = 2 ∧ badN b) ∨ ((3 : Int) = 3 ∧ badN f) ∨ ((3 : Int) = 4 ∧ badN p) ∨ ((3 : Int) = 5 ∧ badN q) then 7 else er) from (by rw [if_pos (show ((3 : Int) = 1 ∧ badN a) ∨ ((3 : Int) = 2 ∧ badN b) ∨ ((3 : Int) = 3 ∧ badN f) ∨ ((3 : Int) = 4 ∧ badN p) ∨ ((3 : Int) = 5 ∧ badN q) from by simp [badN]; omega)])))))⟩
 refine wg V t0 (uvm (Se (fg0 F6))) (wg V (Sa t0) (uni t0) (wq V (Sb t0) (urL (.int .i64 (f)) t0 (S5.ob 0 hmb_gb)) (wg V (Sc t0) (uvg t0 V) (vF (Sd t0) t0 (W_end (en (Ka (Qa (Qh F6))) fun A14 _ F14 => tk H8 (cd (fg0 F14) (fun c15 => ?_) fun c15 => ?_)))))))
 ·refine region_in (xsC1 (zs' := #[.int .i64 7]) S5 hmb_ge V V V (fg5 F14) V Zi (fun w16 c16 hc16 S16 => W_end (tk H7 (region_in (vm (fg1 F14) (ni t0 (xsC0 (zs' := #[.int .i64 (kd), .int .i64 (a), .int .i64 (b), .int .i64 0, .int .i64 (p), .int .i64 (q), .int .u64 (uu)]) S16 hmb_gb V V V t0 V Zi (fun w17 c17 hc17 S17 => W_end (en (Qb F14) fun A18 _ F18 => ret_inN (results_0 Tryz.results61) F18.d ?_)))))))))
  exact ⟨rfl, (S17.f2 0 (hc17.trans Zo) 1 (hc16.trans (congrArg (fun z => bx ge 32 #[Value.int .i64 z]) (show _ = (if ((3 : Int) = 1 ∧ badN a) ∨ ((3 : Int) = 2 ∧ badN b) ∨ ((3 : Int) = 3 ∧ badN f) ∨ ((3 : Int) = 4 ∧ badN p) ∨ ((3 : Int) = 5 ∧ badN q) then 7 else er) from (by rw [if_pos (show ((3 : Int) = 1 ∧ badN a) ∨ ((3 : Int) = 2 ∧ badN b) ∨ ((3 : Int) = 3 ∧ badN f) ∨ ((3 : Int) = 4 ∧ badN p) ∨ ((3 : Int) = 5 ∧ badN q) from by simp [badN]; omega)])))))⟩
 refine wp_skip (tk H7 (region_in (vm (fg1 F14) (ni t0 (xsC0 (zs' := #[.int .i64 (kd), .int .i64 (a), .int .i64 (b), .int .i64 0, .int .i64 (p), .int .i64 (q), .int .u64 (uu)]) S5 hmb_gb V V V t0 V Zi (fun w19 c19 hc19 S19 => W_end (en (Qb F14) fun A20 _ F20 => ret_inN (results_0 Tryz.results61) F20.d ?_)))))))
 exact ⟨rfl, (S19.f2 0 (hc19.trans Zo) 1 (hmb_ge.trans (congrArg (fun z => bx ge 32 #[Value.int .i64 z]) (show _ = (if ((3 : Int) = 1 ∧ badN a) ∨ ((3 : Int) = 2 ∧ badN b) ∨ ((3 : Int) = 3 ∧ badN f) ∨ ((3 : Int) = 4 ∧ badN p) ∨ ((3 : Int) = 5 ∧ badN q) then 7 else er) from (by rw [if_neg (show ¬ (((3 : Int) = 1 ∧ badN a) ∨ ((3 : Int) = 2 ∧ badN b) ∨ ((3 : Int) = 3 ∧ badN f) ∨ ((3 : Int) = 4 ∧ badN p) ∨ ((3 : Int) = 5 ∧ badN q)) from by simp [badN]; omega)])))))⟩

set_option maxHeartbeats 4000000 in
theorem ktk4_c {kd a b f p q uu : Int} {gb : Nat} {er : Int} {ge : Nat} {w : World} {Y : Nat → Prop}  (hS : St w Y [bx gb 50 #[.int .i64 kd, .int .i64 a, .int .i64 b, .int .i64 f, .int .i64 p, .int .i64 q, .int .u64 uu], bx ge 32 #[.int .i64 er]] w)  :
  Calls Tryz.prog 61 #[.int .i64 4, .pointer (some ⟨gb, 0, none⟩), .pointer (some ⟨ge, 0, none⟩)] w fun e w' => e = .returned (.tuple #[]) ∧ St w Y [bx gb 50 #[.int .i64 kd, .int .i64 (if (4 : Int) = 1 then 0 else a), .int .i64 (if (4 : Int) = 2 then 0 else b), .int .i64 (if (4 : Int) = 3 then 0 else f), .int .i64 (if (4 : Int) = 4 then 0 else p), .int .i64 (if (4 : Int) = 5 then 0 else q), .int .u64 (if (4 : Int) = 6 then 0 else uu)], bx ge 32 #[.int .i64 (if ((4 : Int) = 1 ∧ badN a) ∨ ((4 : Int) = 2 ∧ badN b) ∨ ((4 : Int) = 3 ∧ badN f) ∨ ((4 : Int) = 4 ∧ badN p) ∨ ((4 : Int) = 5 ∧ badN q) then 7 else er)]] w' := by
 refine ci3 22 Tryz.func61 V (fun A0 _ F0 => ?_)
 obtain ⟨mb_gb, mb_ge, hmb_gb, hmb_ge, hS⟩ := gen2 hS
 refine td fun _ H1 => tb fun _ H2 => (vm (fg0 F0) (ve t0 V (W_end (en (Ka (Qa F0)) fun A3 _ F3 => tk H2 (cond_not (fg0 F3) Zg (wp_skip (ta H1 fun _ H4 => (vm (fg1 F3) (wc (args2 (Sa (fg2 F3)) t0) (knum_c (g := gb) (wt := 4) Zf) (C0 hS fun w5 S5 => vt (W_end (en (Ka (Qb F3)) fun A6 _ F6 => tc H4 fun _ H7 => tb fun _ H8 => (vm (fg0 F6) (ni t0 (rL (.int .i64 (p)) t0 (S5.ob 0 hmb_gb) (vl t0 V (W_split V V (V_mov V t0) (fun c9 => ?_) (fun c9 => ?_))))))))))))))))))
 ·refine xo V t0 (xo V (Sa t0) (xo V (Sb t0) (xo V (Sc t0) (vT (Sd t0) V (W_end (en (Ka (Qa (Qh F6))) fun A10 _ F10 => tk H8 (cond_t (fg0 F10) (region_in (xsC1 (zs' := #[.int .i64 7]) S5 hmb_ge V V V (fg5 F10) V Zi (fun w11 c11 hc11 S11 => W_end (tk H7 (region_in (vm (fg1 F10) (ni t0 (xsC0 (zs' := #[.int .i64 (kd), .int .i64 (a), .int .i64 (b), .int .i64 (f), .int .i64 0, .int .i64 (q), .int .u64 (uu)]) S11 hmb_gb V V V t0 V Zi (fun w12 c12 hc12 S12 => W_end (en (Qb F10) fun A13 _ F13 => ret_inN (results_0 Tryz.results61) F13.d ?_)))))))))))))))))
  exact ⟨rfl, (S12.f2 0 (hc12.trans Zo) 1 (hc11.trans (congrArg (fun z => bx ge 32 #[Value.int .i64 z]) (show _ = (if ((4 : Int) = 1 ∧ badN a) ∨ ((4 : Int) = 2 ∧ badN b) ∨ ((4 : Int) = 3 ∧ badN f) ∨ ((4 : Int) = 4 ∧ badN p) ∨ ((4 : Int) = 5 ∧ badN q) then 7 else er) from (by rw [if_pos (show ((4 : Int) = 1 ∧ badN a) ∨ ((4 : Int) = 2 ∧ badN b) ∨ ((4 : Int) = 3 ∧ badN f) ∨ ((4 : Int) = 4 ∧ badN p) ∨ ((4 : Int) = 5 ∧ badN q) from by simp [badN]; omega)])))))⟩
 refine wg V t0 (uvm (Se (fg0 F6))) (wg V (Sa t0) (uni t0) (wq V (Sb t0) (urL (.int .i64 (p)) t0 (S5.ob 0 hmb_gb)) (wg V (Sc t0) (uvg t0 V) (vF (Sd t0) t0 (W_end (en (Ka (Qa (Qh F6))) fun A14 _ F14 => tk H8 (cd (fg0 F14) (fun c15 => ?_) fun c15 => ?_)))))))
 ·refine region_in (xsC1 (zs' := #[.int .i64 7]) S5 hmb_ge V V V (fg5 F14) V Zi (fun w16 c16 hc16 S16 => W_end (tk H7 (region_in (vm (fg1 F14) (ni t0 (xsC0 (zs' := #[.int .i64 (kd), .int .i64 (a), .int .i64 (b), .int .i64 (f), .int .i64 0, .int .i64 (q), .int .u64 (uu)]) S16 hmb_gb V V V t0 V Zi (fun w17 c17 hc17 S17 => W_end (en (Qb F14) fun A18 _ F18 => ret_inN (results_0 Tryz.results61) F18.d ?_)))))))))
  exact ⟨rfl, (S17.f2 0 (hc17.trans Zo) 1 (hc16.trans (congrArg (fun z => bx ge 32 #[Value.int .i64 z]) (show _ = (if ((4 : Int) = 1 ∧ badN a) ∨ ((4 : Int) = 2 ∧ badN b) ∨ ((4 : Int) = 3 ∧ badN f) ∨ ((4 : Int) = 4 ∧ badN p) ∨ ((4 : Int) = 5 ∧ badN q) then 7 else er) from (by rw [if_pos (show ((4 : Int) = 1 ∧ badN a) ∨ ((4 : Int) = 2 ∧ badN b) ∨ ((4 : Int) = 3 ∧ badN f) ∨ ((4 : Int) = 4 ∧ badN p) ∨ ((4 : Int) = 5 ∧ badN q) from by simp [badN]; omega)])))))⟩
 refine wp_skip (tk H7 (region_in (vm (fg1 F14) (ni t0 (xsC0 (zs' := #[.int .i64 (kd), .int .i64 (a), .int .i64 (b), .int .i64 (f), .int .i64 0, .int .i64 (q), .int .u64 (uu)]) S5 hmb_gb V V V t0 V Zi (fun w19 c19 hc19 S19 => W_end (en (Qb F14) fun A20 _ F20 => ret_inN (results_0 Tryz.results61) F20.d ?_)))))))
 exact ⟨rfl, (S19.f2 0 (hc19.trans Zo) 1 (hmb_ge.trans (congrArg (fun z => bx ge 32 #[Value.int .i64 z]) (show _ = (if ((4 : Int) = 1 ∧ badN a) ∨ ((4 : Int) = 2 ∧ badN b) ∨ ((4 : Int) = 3 ∧ badN f) ∨ ((4 : Int) = 4 ∧ badN p) ∨ ((4 : Int) = 5 ∧ badN q) then 7 else er) from (by rw [if_neg (show ¬ (((4 : Int) = 1 ∧ badN a) ∨ ((4 : Int) = 2 ∧ badN b) ∨ ((4 : Int) = 3 ∧ badN f) ∨ ((4 : Int) = 4 ∧ badN p) ∨ ((4 : Int) = 5 ∧ badN q)) from by simp [badN]; omega)])))))⟩

set_option maxHeartbeats 4000000 in
theorem ktk5_c {kd a b f p q uu : Int} {gb : Nat} {er : Int} {ge : Nat} {w : World} {Y : Nat → Prop}  (hS : St w Y [bx gb 50 #[.int .i64 kd, .int .i64 a, .int .i64 b, .int .i64 f, .int .i64 p, .int .i64 q, .int .u64 uu], bx ge 32 #[.int .i64 er]] w)  :
  Calls Tryz.prog 61 #[.int .i64 5, .pointer (some ⟨gb, 0, none⟩), .pointer (some ⟨ge, 0, none⟩)] w fun e w' => e = .returned (.tuple #[]) ∧ St w Y [bx gb 50 #[.int .i64 kd, .int .i64 (if (5 : Int) = 1 then 0 else a), .int .i64 (if (5 : Int) = 2 then 0 else b), .int .i64 (if (5 : Int) = 3 then 0 else f), .int .i64 (if (5 : Int) = 4 then 0 else p), .int .i64 (if (5 : Int) = 5 then 0 else q), .int .u64 (if (5 : Int) = 6 then 0 else uu)], bx ge 32 #[.int .i64 (if ((5 : Int) = 1 ∧ badN a) ∨ ((5 : Int) = 2 ∧ badN b) ∨ ((5 : Int) = 3 ∧ badN f) ∨ ((5 : Int) = 4 ∧ badN p) ∨ ((5 : Int) = 5 ∧ badN q) then 7 else er)]] w' := by
 refine ci3 22 Tryz.func61 V (fun A0 _ F0 => ?_)
 obtain ⟨mb_gb, mb_ge, hmb_gb, hmb_ge, hS⟩ := gen2 hS
 refine td fun _ H1 => tb fun _ H2 => (vm (fg0 F0) (ve t0 V (W_end (en (Ka (Qa F0)) fun A3 _ F3 => tk H2 (cond_not (fg0 F3) Zg (wp_skip (ta H1 fun _ H4 => (vm (fg1 F3) (wc (args2 (Sa (fg2 F3)) t0) (knum_c (g := gb) (wt := 5) Zf) (C0 hS fun w5 S5 => vt (W_end (en (Ka (Qb F3)) fun A6 _ F6 => tc H4 fun _ H7 => tb fun _ H8 => (vm (fg0 F6) (ni t0 (rL (.int .i64 (q)) t0 (S5.ob 0 hmb_gb) (vl t0 V (W_split V V (V_mov V t0) (fun c9 => ?_) (fun c9 => ?_))))))))))))))))))
 ·refine xo V t0 (xo V (Sa t0) (xo V (Sb t0) (xo V (Sc t0) (vT (Sd t0) V (W_end (en (Ka (Qa (Qh F6))) fun A10 _ F10 => tk H8 (cond_t (fg0 F10) (region_in (xsC1 (zs' := #[.int .i64 7]) S5 hmb_ge V V V (fg5 F10) V Zi (fun w11 c11 hc11 S11 => W_end (tk H7 (region_in (vm (fg1 F10) (ni t0 (xsC0 (zs' := #[.int .i64 (kd), .int .i64 (a), .int .i64 (b), .int .i64 (f), .int .i64 (p), .int .i64 0, .int .u64 (uu)]) S11 hmb_gb V V V t0 V Zi (fun w12 c12 hc12 S12 => W_end (en (Qb F10) fun A13 _ F13 => ret_inN (results_0 Tryz.results61) F13.d ?_)))))))))))))))))
  exact ⟨rfl, (S12.f2 0 (hc12.trans Zo) 1 (hc11.trans (congrArg (fun z => bx ge 32 #[Value.int .i64 z]) (show _ = (if ((5 : Int) = 1 ∧ badN a) ∨ ((5 : Int) = 2 ∧ badN b) ∨ ((5 : Int) = 3 ∧ badN f) ∨ ((5 : Int) = 4 ∧ badN p) ∨ ((5 : Int) = 5 ∧ badN q) then 7 else er) from (by rw [if_pos (show ((5 : Int) = 1 ∧ badN a) ∨ ((5 : Int) = 2 ∧ badN b) ∨ ((5 : Int) = 3 ∧ badN f) ∨ ((5 : Int) = 4 ∧ badN p) ∨ ((5 : Int) = 5 ∧ badN q) from by simp [badN]; omega)])))))⟩
 refine wg V t0 (uvm (Se (fg0 F6))) (wg V (Sa t0) (uni t0) (wq V (Sb t0) (urL (.int .i64 (q)) t0 (S5.ob 0 hmb_gb)) (wg V (Sc t0) (uvg t0 V) (vF (Sd t0) t0 (W_end (en (Ka (Qa (Qh F6))) fun A14 _ F14 => tk H8 (cd (fg0 F14) (fun c15 => ?_) fun c15 => ?_)))))))
 ·refine region_in (xsC1 (zs' := #[.int .i64 7]) S5 hmb_ge V V V (fg5 F14) V Zi (fun w16 c16 hc16 S16 => W_end (tk H7 (region_in (vm (fg1 F14) (ni t0 (xsC0 (zs' := #[.int .i64 (kd), .int .i64 (a), .int .i64 (b), .int .i64 (f), .int .i64 (p), .int .i64 0, .int .u64 (uu)]) S16 hmb_gb V V V t0 V Zi (fun w17 c17 hc17 S17 => W_end (en (Qb F14) fun A18 _ F18 => ret_inN (results_0 Tryz.results61) F18.d ?_)))))))))
  exact ⟨rfl, (S17.f2 0 (hc17.trans Zo) 1 (hc16.trans (congrArg (fun z => bx ge 32 #[Value.int .i64 z]) (show _ = (if ((5 : Int) = 1 ∧ badN a) ∨ ((5 : Int) = 2 ∧ badN b) ∨ ((5 : Int) = 3 ∧ badN f) ∨ ((5 : Int) = 4 ∧ badN p) ∨ ((5 : Int) = 5 ∧ badN q) then 7 else er) from (by rw [if_pos (show ((5 : Int) = 1 ∧ badN a) ∨ ((5 : Int) = 2 ∧ badN b) ∨ ((5 : Int) = 3 ∧ badN f) ∨ ((5 : Int) = 4 ∧ badN p) ∨ ((5 : Int) = 5 ∧ badN q) from by simp [badN]; omega)])))))⟩
 refine wp_skip (tk H7 (region_in (vm (fg1 F14) (ni t0 (xsC0 (zs' := #[.int .i64 (kd), .int .i64 (a), .int .i64 (b), .int .i64 (f), .int .i64 (p), .int .i64 0, .int .u64 (uu)]) S5 hmb_gb V V V t0 V Zi (fun w19 c19 hc19 S19 => W_end (en (Qb F14) fun A20 _ F20 => ret_inN (results_0 Tryz.results61) F20.d ?_)))))))
 exact ⟨rfl, (S19.f2 0 (hc19.trans Zo) 1 (hmb_ge.trans (congrArg (fun z => bx ge 32 #[Value.int .i64 z]) (show _ = (if ((5 : Int) = 1 ∧ badN a) ∨ ((5 : Int) = 2 ∧ badN b) ∨ ((5 : Int) = 3 ∧ badN f) ∨ ((5 : Int) = 4 ∧ badN p) ∨ ((5 : Int) = 5 ∧ badN q) then 7 else er) from (by rw [if_neg (show ¬ (((5 : Int) = 1 ∧ badN a) ∨ ((5 : Int) = 2 ∧ badN b) ∨ ((5 : Int) = 3 ∧ badN f) ∨ ((5 : Int) = 4 ∧ badN p) ∨ ((5 : Int) = 5 ∧ badN q)) from by simp [badN]; omega)])))))⟩

set_option maxHeartbeats 4000000 in
theorem ktk6_c {kd a b f p q uu : Int} {gb : Nat} {er : Int} {ge : Nat} {w : World} {Y : Nat → Prop}  (hS : St w Y [bx gb 50 #[.int .i64 kd, .int .i64 a, .int .i64 b, .int .i64 f, .int .i64 p, .int .i64 q, .int .u64 uu], bx ge 32 #[.int .i64 er]] w)  :
  Calls Tryz.prog 61 #[.int .i64 6, .pointer (some ⟨gb, 0, none⟩), .pointer (some ⟨ge, 0, none⟩)] w fun e w' => e = .returned (.tuple #[]) ∧ St w Y [bx gb 50 #[.int .i64 kd, .int .i64 (if (6 : Int) = 1 then 0 else a), .int .i64 (if (6 : Int) = 2 then 0 else b), .int .i64 (if (6 : Int) = 3 then 0 else f), .int .i64 (if (6 : Int) = 4 then 0 else p), .int .i64 (if (6 : Int) = 5 then 0 else q), .int .u64 (if (6 : Int) = 6 then 0 else uu)], bx ge 32 #[.int .i64 (if ((6 : Int) = 1 ∧ badN a) ∨ ((6 : Int) = 2 ∧ badN b) ∨ ((6 : Int) = 3 ∧ badN f) ∨ ((6 : Int) = 4 ∧ badN p) ∨ ((6 : Int) = 5 ∧ badN q) then 7 else er)]] w' := by
 refine ci3 22 Tryz.func61 V (fun A0 _ F0 => ?_)
 obtain ⟨mb_gb, mb_ge, hmb_gb, hmb_ge, hS⟩ := gen2 hS
 refine td fun _ H1 => tb fun _ H2 => (vm (fg0 F0) (ve t0 V (W_end (en (Ka (Qa F0)) fun A3 _ F3 => tk H2 (cond_sure (fg0 F3) Zo (tb fun _ H4 => (fa 6 (fg2 F3) (xsC0 (zs' := #[.int .i64 (kd), .int .i64 (a), .int .i64 (b), .int .i64 (f), .int .i64 (p), .int .i64 (q), .int .u64 0]) hS hmb_gb V V V t0 V Zi (fun w5 c5 hc5 S5 => W_end (en (Qa F3) fun A6 _ F6 => tk H4 (wp_ret (then_ret (rt0 F6 ?_)))))))))))))
 exact ⟨rfl, (S5.f2 0 (hc5.trans Zo) 1 (hmb_ge.trans (congrArg (fun z => bx ge 32 #[Value.int .i64 z]) (show _ = (if ((6 : Int) = 1 ∧ badN a) ∨ ((6 : Int) = 2 ∧ badN b) ∨ ((6 : Int) = 3 ∧ badN f) ∨ ((6 : Int) = 4 ∧ badN p) ∨ ((6 : Int) = 5 ∧ badN q) then 7 else er) from by simp))))⟩

set_option maxHeartbeats 4000000 in
theorem ktk_c {wt kd a b f p q uu : Int} {gb : Nat} {er : Int} {ge : Nat} {w : World} {Y : Nat → Prop}  (hS : St w Y [bx gb 50 #[.int .i64 kd, .int .i64 a, .int .i64 b, .int .i64 f, .int .i64 p, .int .i64 q, .int .u64 uu], bx ge 32 #[.int .i64 er]] w) (hw : 1 ≤ wt ∧ wt ≤ 6) :
  Calls Tryz.prog 61 #[.int .i64 wt, .pointer (some ⟨gb, 0, none⟩), .pointer (some ⟨ge, 0, none⟩)] w fun e w' => e = .returned (.tuple #[]) ∧ St w Y [bx gb 50 #[.int .i64 kd, .int .i64 (if (wt : Int) = 1 then 0 else a), .int .i64 (if (wt : Int) = 2 then 0 else b), .int .i64 (if (wt : Int) = 3 then 0 else f), .int .i64 (if (wt : Int) = 4 then 0 else p), .int .i64 (if (wt : Int) = 5 then 0 else q), .int .u64 (if (wt : Int) = 6 then 0 else uu)], bx ge 32 #[.int .i64 (if ((wt : Int) = 1 ∧ badN a) ∨ ((wt : Int) = 2 ∧ badN b) ∨ ((wt : Int) = 3 ∧ badN f) ∨ ((wt : Int) = 4 ∧ badN p) ∨ ((wt : Int) = 5 ∧ badN q) then 7 else er)]] w' := by
 rcases (by omega : wt = 1 ∨ wt = 2 ∨ wt = 3 ∨ wt = 4 ∨ wt = 5 ∨ wt = 6) with rfl | rfl | rfl | rfl | rfl | rfl
 ·exact ktk1_c hS
 ·exact ktk2_c hS
 ·exact ktk3_c hS
 ·exact ktk4_c hS
 ·exact ktk5_c hS
 exact ktk6_c hS


set_option maxHeartbeats 4000000 in
theorem ktab_c  {w : World}   :
  Calls Tryz.prog 63 #[] w fun e w' => ∃ v1 v2 v3 v4 v5 v6 v7 v8 v9 v10, e = .returned (.agg #[stv [], .slice none 0 0, stv [97, 108, 108, 111, 99], v1, stv [108, 111, 97, 100], v2, stv [115, 116, 111, 114, 101], v3, stv [114, 101, 97, 100], v4, stv [119, 114, 105, 116, 101], v5, stv [109, 111, 118, 101], v6, stv [99, 108, 101, 97, 114], v7, stv [115, 97, 109, 101], v8, stv [110, 105, 108], v9, stv [115, 105, 122, 101], v10, stv [99, 111, 108, 108, 101, 99, 116], .slice none 0 0]) ∧ St w NoX [nsi (List.map (fun y : TR => y.2) ([([], (Value.slice none 0 0, [])), ([97, 108, 108, 111, 99], (v1, [1, 4, 5])), ([108, 111, 97, 100], (v2, [1, 2, 3])), ([115, 116, 111, 114, 101], (v3, [1, 3, 2])), ([114, 101, 97, 100], (v4, [1, 3])), ([119, 114, 105, 116, 101], (v5, [1, 3, 6])), ([109, 111, 118, 101], (v6, [1, 2])), ([99, 108, 101, 97, 114], (v7, [1])), ([115, 97, 109, 101], (v8, [1, 2])), ([110, 105, 108], (v9, [1])), ([115, 105, 122, 101], (v10, [1])), ([99, 111, 108, 108, 101, 99, 116], (Value.slice none 0 0, []))] : List TR))] w' := by
 refine ci0 23 Tryz.func63 V (fun A0 _ F0 => ?_)
 have hS := St.nil w
 refine tb fun _ H1 => (wA (#[.string ByteArray.empty, .slice none 0 0, .string ByteArray.empty, .slice none 0 0, .string ByteArray.empty, .slice none 0 0, .string ByteArray.empty, .slice none 0 0, .string ByteArray.empty, .slice none 0 0, .string ByteArray.empty, .slice none 0 0, .string ByteArray.empty, .slice none 0 0, .string ByteArray.empty, .slice none 0 0, .string ByteArray.empty, .slice none 0 0, .string ByteArray.empty, .slice none 0 0, .string ByteArray.empty, .slice none 0 0, .string ByteArray.empty, .slice none 0 0]) hS (fun g2 w2 c2 hc2 S2 => W_end (en (Ka F0) fun A3 _ F3 => ta H1 fun _ H4 => ?_)))
 have hll5 : [1, 4, 5].length = 3 := rfl
 refine xsL (vs := [.int .i64 1, .int .i64 4, .int .i64 5]) (xs := ([1, 4, 5].map (Value.int .i64))) 1 S2 V V V (parts3 V V V) Tryz.underlying25 (fun g5 w5 c5 hc5 S5 => ?_)
 replace hc5 : c5 = io .i64 (.slice (some ⟨g5, 0, none⟩) 3 3) [1, 4, 5] := hc5
 replace S5 : St w NoX [c5, c2] w5 := S5
 refine wv (xbT (n := 2) (z := .agg #[.string ByteArray.empty, .slice none 0 0]) V (parts2 V t0) (by simp only [List.all_cons, List.all_nil, SlN_one (ow_at (S5.cq 0 hc5)), Bool.and_true] <;> rfl)) ?_
 have hll6 : [1, 2, 3].length = 3 := rfl
 refine xsL (vs := [.int .i64 1, .int .i64 2, .int .i64 3]) (xs := ([1, 2, 3].map (Value.int .i64))) 1 S5 V V V (parts3 V V V) Tryz.underlying25 (fun g6 w6 c6 hc6 S6 => ?_)
 replace hc6 : c6 = io .i64 (.slice (some ⟨g6, 0, none⟩) 3 3) [1, 2, 3] := hc6
 replace S6 : St w NoX [c6, c5, c2] w6 := S6
 refine wv (xbT (n := 2) (z := .agg #[.string ByteArray.empty, .slice none 0 0]) V (parts2 V t0) (by simp only [List.all_cons, List.all_nil, SlN_one (ow_at (S6.cq 0 hc6)), Bool.and_true] <;> rfl)) ?_
 have hll7 : [1, 3, 2].length = 3 := rfl
 refine xsL (vs := [.int .i64 1, .int .i64 3, .int .i64 2]) (xs := ([1, 3, 2].map (Value.int .i64))) 1 S6 V V V (parts3 V V V) Tryz.underlying25 (fun g7 w7 c7 hc7 S7 => ?_)
 replace hc7 : c7 = io .i64 (.slice (some ⟨g7, 0, none⟩) 3 3) [1, 3, 2] := hc7
 replace S7 : St w NoX [c7, c6, c5, c2] w7 := S7
 refine wv (xbT (n := 2) (z := .agg #[.string ByteArray.empty, .slice none 0 0]) V (parts2 V t0) (by simp only [List.all_cons, List.all_nil, SlN_one (ow_at (S7.cq 0 hc7)), Bool.and_true] <;> rfl)) ?_
 have hll8 : [1, 3].length = 2 := rfl
 refine xsL (vs := [.int .i64 1, .int .i64 3]) (xs := ([1, 3].map (Value.int .i64))) 1 S7 V V V (parts2 V V) Tryz.underlying25 (fun g8 w8 c8 hc8 S8 => ?_)
 replace hc8 : c8 = io .i64 (.slice (some ⟨g8, 0, none⟩) 2 2) [1, 3] := hc8
 replace S8 : St w NoX [c8, c7, c6, c5, c2] w8 := S8
 refine wv (xbT (n := 2) (z := .agg #[.string ByteArray.empty, .slice none 0 0]) V (parts2 V t0) (by simp only [List.all_cons, List.all_nil, SlN_one (ow_at (S8.cq 0 hc8)), Bool.and_true] <;> rfl)) ?_
 have hll9 : [1, 3, 6].length = 3 := rfl
 refine xsL (vs := [.int .i64 1, .int .i64 3, .int .i64 6]) (xs := ([1, 3, 6].map (Value.int .i64))) 1 S8 V V V (parts3 V V V) Tryz.underlying25 (fun g9 w9 c9 hc9 S9 => ?_)
 replace hc9 : c9 = io .i64 (.slice (some ⟨g9, 0, none⟩) 3 3) [1, 3, 6] := hc9
 replace S9 : St w NoX [c9, c8, c7, c6, c5, c2] w9 := S9
 refine wv (xbT (n := 2) (z := .agg #[.string ByteArray.empty, .slice none 0 0]) V (parts2 V t0) (by simp only [List.all_cons, List.all_nil, SlN_one (ow_at (S9.cq 0 hc9)), Bool.and_true] <;> rfl)) ?_
 have hll10 : [1, 2].length = 2 := rfl
 refine xsL (vs := [.int .i64 1, .int .i64 2]) (xs := ([1, 2].map (Value.int .i64))) 1 S9 V V V (parts2 V V) Tryz.underlying25 (fun g10 w10 c10 hc10 S10 => ?_)
 replace hc10 : c10 = io .i64 (.slice (some ⟨g10, 0, none⟩) 2 2) [1, 2] := hc10
 replace S10 : St w NoX [c10, c9, c8, c7, c6, c5, c2] w10 := S10
 refine wv (xbT (n := 2) (z := .agg #[.string ByteArray.empty, .slice none 0 0]) V (parts2 V t0) (by simp only [List.all_cons, List.all_nil, SlN_one (ow_at (S10.cq 0 hc10)), Bool.and_true] <;> rfl)) ?_
 have hll11 : [1].length = 1 := rfl
 refine xsL (vs := [.int .i64 1]) (xs := ([1].map (Value.int .i64))) 1 S10 V V V (parts1 V) Tryz.underlying25 (fun g11 w11 c11 hc11 S11 => ?_)
 replace hc11 : c11 = io .i64 (.slice (some ⟨g11, 0, none⟩) 1 1) [1] := hc11
 replace S11 : St w NoX [c11, c10, c9, c8, c7, c6, c5, c2] w11 := S11
 refine wv (xbT (n := 2) (z := .agg #[.string ByteArray.empty, .slice none 0 0]) V (parts2 V t0) (by simp only [List.all_cons, List.all_nil, SlN_one (ow_at (S11.cq 0 hc11)), Bool.and_true] <;> rfl)) ?_
 have hll12 : [1, 2].length = 2 := rfl
 refine xsL (vs := [.int .i64 1, .int .i64 2]) (xs := ([1, 2].map (Value.int .i64))) 1 S11 V V V (parts2 V V) Tryz.underlying25 (fun g12 w12 c12 hc12 S12 => ?_)
 replace hc12 : c12 = io .i64 (.slice (some ⟨g12, 0, none⟩) 2 2) [1, 2] := hc12
 replace S12 : St w NoX [c12, c11, c10, c9, c8, c7, c6, c5, c2] w12 := S12
 refine wv (xbT (n := 2) (z := .agg #[.string ByteArray.empty, .slice none 0 0]) V (parts2 V t0) (by simp only [List.all_cons, List.all_nil, SlN_one (ow_at (S12.cq 0 hc12)), Bool.and_true] <;> rfl)) ?_
 have hll13 : [1].length = 1 := rfl
 refine xsL (vs := [.int .i64 1]) (xs := ([1].map (Value.int .i64))) 1 S12 V V V (parts1 V) Tryz.underlying25 (fun g13 w13 c13 hc13 S13 => ?_)
 replace hc13 : c13 = io .i64 (.slice (some ⟨g13, 0, none⟩) 1 1) [1] := hc13
 replace S13 : St w NoX [c13, c12, c11, c10, c9, c8, c7, c6, c5, c2] w13 := S13
 refine wv (xbT (n := 2) (z := .agg #[.string ByteArray.empty, .slice none 0 0]) V (parts2 V t0) (by simp only [List.all_cons, List.all_nil, SlN_one (ow_at (S13.cq 0 hc13)), Bool.and_true] <;> rfl)) ?_
 have hll14 : [1].length = 1 := rfl
 refine xsL (vs := [.int .i64 1]) (xs := ([1].map (Value.int .i64))) 1 S13 V V V (parts1 V) Tryz.underlying25 (fun g14 w14 c14 hc14 S14 => ?_)
 replace hc14 : c14 = io .i64 (.slice (some ⟨g14, 0, none⟩) 1 1) [1] := hc14
 replace S14 : St w NoX [c14, c13, c12, c11, c10, c9, c8, c7, c6, c5, c2] w14 := S14
 refine wv (xbT (n := 2) (z := .agg #[.string ByteArray.empty, .slice none 0 0]) V (parts2 V t0) (by simp only [List.all_cons, List.all_nil, SlN_one (ow_at (S14.cq 0 hc14)), Bool.and_true] <;> rfl)) (wv (xbS (n := 2) (z := .agg #[.string ByteArray.empty, .slice none 0 0]) V (parts2 V V)) (wv (V_bld (cs := #[.string ByteArray.empty, .slice none 0 0, (stv ([97, 108, 108, 111, 99] : List UInt8)), (.slice (some ⟨g5, 0, none⟩) 3 3), (stv ([108, 111, 97, 100] : List UInt8)), (.slice (some ⟨g6, 0, none⟩) 3 3), (stv ([115, 116, 111, 114, 101] : List UInt8)), (.slice (some ⟨g7, 0, none⟩) 3 3), (stv ([114, 101, 97, 100] : List UInt8)), (.slice (some ⟨g8, 0, none⟩) 2 2), (stv ([119, 114, 105, 116, 101] : List UInt8)), (.slice (some ⟨g9, 0, none⟩) 3 3), (stv ([109, 111, 118, 101] : List UInt8)), (.slice (some ⟨g10, 0, none⟩) 2 2), (stv ([99, 108, 101, 97, 114] : List UInt8)), (.slice (some ⟨g11, 0, none⟩) 1 1), (stv ([115, 97, 109, 101] : List UInt8)), (.slice (some ⟨g12, 0, none⟩) 2 2), (stv ([110, 105, 108] : List UInt8)), (.slice (some ⟨g13, 0, none⟩) 1 1), (stv ([115, 105, 122, 101] : List UInt8)), (.slice (some ⟨g14, 0, none⟩) 1 1), (stv ([99, 111, 108, 108, 101, 99, 116] : List UInt8)), .slice none 0 0]) V (parts11 (Sh (Sh (Sc t0))) (Sh (Sh (Sa t0))) (Sh (Sg t0)) (Sh (Se t0)) (Sh (Sc t0)) (Sh (Sa t0)) (Sg t0) (Se t0) (Sc t0) (Sa t0) t0) kr) (xsB10 S14 hc2 V V V (Sh (Sh (Sf (fg0 F3)))) t0 (by simp only [List.all_toArray, List.all_cons, List.all_nil, SlN_one (ow_at (S14.cq 9 hc5)), SlN_one (ow_at (S14.cq 8 hc6)), SlN_one (ow_at (S14.cq 7 hc7)), SlN_one (ow_at (S14.cq 6 hc8)), SlN_one (ow_at (S14.cq 5 hc9)), SlN_one (ow_at (S14.cq 4 hc10)), SlN_one (ow_at (S14.cq 3 hc11)), SlN_one (ow_at (S14.cq 2 hc12)), SlN_one (ow_at (S14.cq 1 hc13)), SlN_one (ow_at (S14.cq 0 hc14))] <;> rfl) (fun w15 c15 hc15 S15 => W_end (en (Qf (Qh (Qh F3))) fun A16 _ F16 => tk H4 (wp_ret (rt1 F16 (rvA (fg0 F16) (S15.ob 10 hc15)) ?_)))))))
 obtain ⟨c17, hc17, S17⟩ := S15.pnil (s := 1)
 obtain ⟨c18, hc18, S18⟩ := S17.pnil (s := 1)
 have S19 := S18.se [1, 11, 10, 9, 8, 7, 6, 5, 4, 3, 2, 0] [c17, c5, c6, c7, c8, c9, c10, c11, c12, c13, c14, c18]
 exact ⟨_, _, _, _, _, _, _, _, _, _, rfl, by subst hc17 hc5 hc6 hc7 hc8 hc9 hc10 hc11 hc12 hc13 hc14 hc18; exact nsi_own [((Value.slice none 0 0), []), ((Value.slice (some ⟨g5, 0, none⟩) 3 3), [1, 4, 5]), ((Value.slice (some ⟨g6, 0, none⟩) 3 3), [1, 2, 3]), ((Value.slice (some ⟨g7, 0, none⟩) 3 3), [1, 3, 2]), ((Value.slice (some ⟨g8, 0, none⟩) 2 2), [1, 3]), ((Value.slice (some ⟨g9, 0, none⟩) 3 3), [1, 3, 6]), ((Value.slice (some ⟨g10, 0, none⟩) 2 2), [1, 2]), ((Value.slice (some ⟨g11, 0, none⟩) 1 1), [1]), ((Value.slice (some ⟨g12, 0, none⟩) 2 2), [1, 2]), ((Value.slice (some ⟨g13, 0, none⟩) 1 1), [1]), ((Value.slice (some ⟨g14, 0, none⟩) 1 1), [1]), ((Value.slice none 0 0), [])] S19⟩

end Go.Proofs.YtpgkfndbfocibaaGreat
namespace Go.Proofs.YtpgkfndbfocibaaGreat
open Go.RowKit Go.Own Go.Own.R Go.Own.G Go.Own.Gr Go.Own.Ml


set_option maxHeartbeats 4000000 in
theorem kopc_c {kd a b f p q uu : Int} {w : World}   :
  Calls Tryz.prog 35 #[.agg #[.int .i64 kd, .int .i64 a, .int .i64 b, .int .i64 f, .int .i64 p, .int .i64 q, .int .u64 uu]] w fun e w' => e = .returned (.int .i64 (opE (⟨kd, a, b, f, p, q, uu⟩ : OpC))) ∧ St w NoX [] w' := by
 refine ci1 37 Tryz.func35 V (fun A0 _ F0 => ?_)
 have hS := St.nil w
 refine tb fun _ H1 => (wB (#[.int .i64 (kd), .int .i64 (a), .int .i64 (b), .int .i64 (f), .int .i64 (p), .int .i64 (q), .int .u64 (uu)]) hS (fg0 F0) (fun g2 w2 c2 hc2 S2 => vc (W_end (en (Qa (Ka F0)) fun A3 _ F3 => tc H1 fun _ H4 => tb fun _ H5 => (fa 0 (fg0 F3) (rL (.int .i64 (kd)) t0 (S2.ob 0 hc2) (vl t0 V (W_split V V (V_mov V t0) (fun c6 => ?_) (fun c6 => ?_)))))))))
 ·refine xo V t0 (xo V (Sa t0) (xo V (Sb t0) (vT (Sc t0) V (W_end (en (Ka (Qg F3)) fun A7 _ F7 => tk H5 (cond_t (fg0 F7) (tb fun _ H8 => (vc (W_end (en (Ka F7) fun A9 _ F9 => tk H8 (wp_ret (then_ret (rt1 F9 (rv_tmp (fg0 F9)) ?_)))))))))))))
  have h : (opE (⟨kd, a, b, f, p, q, uu⟩ : OpC)) = 2 := op_kd Zk
  rw [h]
  exact ⟨rfl, S2.fin0⟩
 refine wg V t0 (ufa 0 (Sd (fg0 F3))) (wq V (Sa t0) (urL (.int .i64 (kd)) t0 (S2.ob 0 hc2)) (wg V (Sb t0) (uvg t0 V) (vF (Sc t0) t0 (W_end (en (Ka (Qg F3)) fun A11 _ F11 => tk H5 (cd (fg0 F11) (fun c12 => ?_) fun c12 => ?_))))))
 ·refine tb fun _ H13 => (vc (W_end (en (Ka F11) fun A14 _ F14 => tk H13 (wp_ret (then_ret (rt1 F14 (rv_tmp (fg0 F14)) ?_))))))
  have h : (opE (⟨kd, a, b, f, p, q, uu⟩ : OpC)) = 2 := op_kd Zk
  rw [h]
  exact ⟨rfl, S2.fin0⟩
 refine wp_skip (ta H4 fun _ H16 => (ra (fg1 F11) (S2.ob 0 hc2) (wA (#[.int .i64 0, .int .i64 0, .int .i64 0, .int .i64 0, .int .i64 0, .int .i64 0, .int .u64 0]) S2 (fun g17 w17 c17 hc17 S17 => wZ (.int .i64 0) S17 (fun g18 w18 c18 hc18 S18 => xsA1 S18 hc17 V V V (Sa t0) (Sb t0) (fun w19 c19 hc19 S19 => xsC0 (zs' := #[.int .i64 0]) S19 hc18 V V V t0 V Zi (fun w20 c20 hc20 S20 => W_end (en (Kb (Qa F11)) fun A21 _ F21 => ta H16 fun _ H22 => (fa 0 (fg1 F21) (xsC1 (zs' := #[.int .i64 0, .int .i64 (a), .int .i64 (b), .int .i64 (f), .int .i64 (p), .int .i64 (q), .int .u64 (uu)]) S20 hc19 V V V t0 V Zi (fun w23 c23 hc23 S23 => W_end (en (Qa F21) fun A24 _ F24 => ta H22 fun _ H25 => (wv (V_mkf V args0 (args2 (fg1 F24) (fg0 F24))) (vt (W_end (en (Ka (Qa F24)) fun A26 _ F26 => tc H25 fun _ H27 => td fun _ H28 => region_monoS 7 7 [some (SPv [] (fun _ => fun u l' => ∃ v1_s v2_s v3_s v4_s v5_s v6_s v7_s v8_s v9_s v10_s, u = .agg #[stv [], .slice none 0 0, stv [97, 108, 108, 111, 99], v1_s, stv [108, 111, 97, 100], v2_s, stv [115, 116, 111, 114, 101], v3_s, stv [114, 101, 97, 100], v4_s, stv [119, 114, 105, 116, 101], v5_s, stv [109, 111, 118, 101], v6_s, stv [99, 108, 101, 97, 114], v7_s, stv [115, 97, 109, 101], v8_s, stv [110, 105, 108], v9_s, stv [115, 105, 122, 101], v10_s, stv [99, 111, 108, 108, 101, 99, 116], .slice none 0 0] ∧ ∃ cT_s, cT_s = nsi (List.map (fun y : TR => y.2) ([([], (Value.slice none 0 0, [])), ([97, 108, 108, 111, 99], (v1_s, [1, 4, 5])), ([108, 111, 97, 100], (v2_s, [1, 2, 3])), ([115, 116, 111, 114, 101], (v3_s, [1, 3, 2])), ([114, 101, 97, 100], (v4_s, [1, 3])), ([119, 114, 105, 116, 101], (v5_s, [1, 3, 6])), ([109, 111, 118, 101], (v6_s, [1, 2])), ([99, 108, 101, 97, 114], (v7_s, [1])), ([115, 97, 109, 101], (v8_s, [1, 2])), ([110, 105, 108], (v9_s, [1])), ([115, 105, 122, 101], (v10_s, [1])), ([99, 111, 108, 108, 101, 99, 116], (Value.slice none 0 0, []))] : List TR)) ∧ l' = [cT_s]) 0)] kr kr (D_call (ts := []) (vs := []) (C0 := fun _ => fun u l' => ∃ v1_s v2_s v3_s v4_s v5_s v6_s v7_s v8_s v9_s v10_s, u = .agg #[stv [], .slice none 0 0, stv [97, 108, 108, 111, 99], v1_s, stv [108, 111, 97, 100], v2_s, stv [115, 116, 111, 114, 101], v3_s, stv [114, 101, 97, 100], v4_s, stv [119, 114, 105, 116, 101], v5_s, stv [109, 111, 118, 101], v6_s, stv [99, 108, 101, 97, 114], v7_s, stv [115, 97, 109, 101], v8_s, stv [110, 105, 108], v9_s, stv [115, 105, 122, 101], v10_s, stv [99, 111, 108, 108, 101, 99, 116], .slice none 0 0] ∧ ∃ cT_s, cT_s = nsi (List.map (fun y : TR => y.2) ([([], (Value.slice none 0 0, [])), ([97, 108, 108, 111, 99], (v1_s, [1, 4, 5])), ([108, 111, 97, 100], (v2_s, [1, 2, 3])), ([115, 116, 111, 114, 101], (v3_s, [1, 3, 2])), ([114, 101, 97, 100], (v4_s, [1, 3])), ([119, 114, 105, 116, 101], (v5_s, [1, 3, 6])), ([109, 111, 118, 101], (v6_s, [1, 2])), ([99, 108, 101, 97, 114], (v7_s, [1])), ([115, 97, 109, 101], (v8_s, [1, 2])), ([110, 105, 108], (v9_s, [1])), ([115, 105, 122, 101], (v10_s, [1])), ([99, 111, 108, 108, 101, 99, 116], (Value.slice none 0 0, []))] : List TR)) ∧ l' = [cT_s]) (C := fun u l' => ∃ v1_s v2_s v3_s v4_s v5_s v6_s v7_s v8_s v9_s v10_s, u = .agg #[stv [], .slice none 0 0, stv [97, 108, 108, 111, 99], v1_s, stv [108, 111, 97, 100], v2_s, stv [115, 116, 111, 114, 101], v3_s, stv [114, 101, 97, 100], v4_s, stv [119, 114, 105, 116, 101], v5_s, stv [109, 111, 118, 101], v6_s, stv [99, 108, 101, 97, 114], v7_s, stv [115, 97, 109, 101], v8_s, stv [110, 105, 108], v9_s, stv [115, 105, 122, 101], v10_s, stv [99, 111, 108, 108, 101, 99, 116], .slice none 0 0] ∧ ∃ cT_s, cT_s = nsi (List.map (fun y : TR => y.2) ([([], (Value.slice none 0 0, [])), ([97, 108, 108, 111, 99], (v1_s, [1, 4, 5])), ([108, 111, 97, 100], (v2_s, [1, 2, 3])), ([115, 116, 111, 114, 101], (v3_s, [1, 3, 2])), ([114, 101, 97, 100], (v4_s, [1, 3])), ([119, 114, 105, 116, 101], (v5_s, [1, 3, 6])), ([109, 111, 118, 101], (v6_s, [1, 2])), ([99, 108, 101, 97, 114], (v7_s, [1])), ([115, 97, 109, 101], (v8_s, [1, 2])), ([110, 105, 108], (v9_s, [1])), ([115, 105, 122, 101], (v10_s, [1])), ([99, 111, 108, 108, 101, 99, 116], (Value.slice none 0 0, []))] : List TR)) ∧ l' = [cT_s]) V V V Tryz.func63 kr V args0 V V V V (fun sx hx hF => ?_) (fun u29 l29 hu29 => ?_))))))))))))))))))
 ·refine (ktab_c  ).mono ?_
  rintro _ _ ⟨v1_29, v2_29, v3_29, v4_29, v5_29, v6_29, v7_29, v8_29, v9_29, v10_29, rfl, hz⟩
  exact ⟨_, rfl, _, ⟨_, _, _, _, _, _, _, _, _, _, rfl, _, rfl, rfl⟩, hz⟩
 obtain ⟨v1_29, v2_29, v3_29, v4_29, v5_29, v6_29, v7_29, v8_29, v9_29, v10_29, rfl, cT_29, hcT_29, hl29⟩ := hu29
 refine df 0 (Sa (fg4 F26)) (dr (fun _ hx _ => (urc t0 (cell_box (v := .int .i64 (kd)) ((S23.grow hx).ob 2 hc2) V))) ?_)
 obtain ⟨y30, hy30⟩ := get_some (xs := ([([], (Value.slice none 0 0, [])), ([97, 108, 108, 111, 99], (v1_29, [1, 4, 5])), ([108, 111, 97, 100], (v2_29, [1, 2, 3])), ([115, 116, 111, 114, 101], (v3_29, [1, 3, 2])), ([114, 101, 97, 100], (v4_29, [1, 3])), ([119, 114, 105, 116, 101], (v5_29, [1, 3, 6])), ([109, 111, 118, 101], (v6_29, [1, 2])), ([99, 108, 101, 97, 114], (v7_29, [1])), ([115, 97, 109, 101], (v8_29, [1, 2])), ([110, 105, 108], (v9_29, [1])), ([115, 105, 122, 101], (v10_29, [1])), ([99, 111, 108, 108, 101, 99, 116], (Value.slice none 0 0, []))] : List TR)) (k := kd.toNat) (by simp only [List.length_cons, List.length_nil]; omega)
 have hfd30 := tr_fd V hy30
 have hfl30 := fdG_le kd
 rw [← hfd30] at hfl30
 refine dv (V_ixvR trC_len kd.toNat V (Sb t0) t0 Zb Tryz.underlying110 V hy30 Tryz.underlying109 V kr) ?_
 refine D_v V V (V_fld (v := y30.2.1) V t0 Tryz.underlying109 V Tryz.underlying25 V V) V V ?_
 refine D_r V V kr (fun sx hx hF => by obtain ⟨ll29, ws29, we29, ⟨v1_29q, v2_29q, v3_29q, v4_29q, v5_29q, v6_29q, v7_29q, v8_29q, v9_29q, v10_29q, hq29, cT_29_, hcT_29_, hl29_⟩, hm29, k29, e29⟩ := L.ancF_get hF kr; cases hq29; subst hl29_; exact (V_lenS V (et V) (sl_SlN (tr_at hy30 ((k29.grow e29).cq 0 hcT_29_))) Tryz.underlying25 sx.1)) V V (dm V (ZS_none S23 (Nat.le_refl _) (Nat.le_refl _) (fun s31 hJ31 hL31 hF31 => ?_)))
 obtain ⟨ll29, ws29, we29, ⟨v1_29q, v2_29q, v3_29q, v4_29q, v5_29q, v6_29q, v7_29q, v8_29q, v9_29q, v10_29q, hq29, cT_29r, hcT_29r, hl29r⟩, hm29, k29, e29⟩ := L.all_get hF31; cases hq29; subst hl29r
 replace hJ31 := hJ31.add hL31 (i := 0) V hm29 k29 e29
 have S31 := hJ31.st; clear hF31 hJ31 hL31
 generalize s31.1 = w31 at *
 replace S31 : St w NoX [cT_29r, c20, c23, c2] w31 := S31
 refine en (Kc (Qd F26)) fun A32 hsz32 F32 => ?_
 have S33 := S31.se [0, 1, 2] [cT_29r, c20, c23]
 refine tk H28 (wp_block ?_)
 -- loop 7
 refine loopX (fun mz A' w' => SzN A' 37 ∧ A'.defers = [] ∧ (∃ (j : Nat) (za : Int) (zb : Int) (zf : Int) (zp : Int) (zq : Int) (zu : Int) (er : Int), (mz = y30.2.2.length - j) ∧ (j ≤ y30.2.2.length) ∧ (tkG (y30.2.2.drop j) (⟨0, za, zb, zf, zp, zq, zu⟩, er) = tkG y30.2.2 (⟨0, a, b, f, p, q, uu⟩, 0)) ∧ (EV A' (.tmp 25) = .int .i64 (j : Int)) ∧ (EV A' (.tmp 3) = EV A32 (.tmp 3)) ∧ (EV A' (.tmp 4) = EV A32 (.tmp 4)) ∧ (EV A' (.tmp 5) = EV A32 (.tmp 5)) ∧ (EV A' (.tmp 23) = EV A32 (.tmp 23)) ∧ (EV A' (.tmp 24) = EV A32 (.tmp 24)) ∧ (St w NoX [nsi (List.map (fun y : TR => y.2) ([([], (Value.slice none 0 0, [])), ([97, 108, 108, 111, 99], (v1_29, [1, 4, 5])), ([108, 111, 97, 100], (v2_29, [1, 2, 3])), ([115, 116, 111, 114, 101], (v3_29, [1, 3, 2])), ([114, 101, 97, 100], (v4_29, [1, 3])), ([119, 114, 105, 116, 101], (v5_29, [1, 3, 6])), ([109, 111, 118, 101], (v6_29, [1, 2])), ([99, 108, 101, 97, 114], (v7_29, [1])), ([115, 97, 109, 101], (v8_29, [1, 2])), ([110, 105, 108], (v9_29, [1])), ([115, 105, 122, 101], (v10_29, [1])), ([99, 111, 108, 108, 101, 99, 116], (Value.slice none 0 0, []))] : List TR)), bx g18 32 #[.int .i64 (er)], bx g17 50 #[.int .i64 0, .int .i64 (za), .int .i64 (zb), .int .i64 (zf), .int .i64 (zp), .int .i64 (zq), .int .u64 (zu)]] w'))) (y30.2.2.length - 0) ⟨hsz32, F32.d, 0, a, b, f, p, q, uu, 0, rfl, Zb, rfl, ((fg0 F32).trans Za), rfl, rfl, rfl, rfl, rfl, (by subst hcT_29r hc20 hc23; exact S33)⟩ ?_
 clear S33 hcT_29r hc20 hc23
 rintro n34 A34 w34 ⟨hsz34, hdf34, j, za, zb, zf, zp, zq, zu, er, hm34, hj, hT, l25_34, u3_34, u4_34, u5_34, u23_34, u24_34, S34⟩
 have l3_34 := u3_34.trans (fg5 F32)
 have l4_34 := u4_34.trans (fg4 F32)
 have l5_34 := u5_34.trans (fg3 F32)
 have l23_34 := u23_34.trans (fg2 F32)
 have l24_34 := u24_34.trans (fg1 F32)
 obtain ⟨cT_29r_34, c20_34, c23_34, hcT_29r_34, hc20_34, hc23_34, S34⟩ := gen3 S34
 refine tb fun _ H35 => (vl l25_34 l24_34 (W_end (en ((((((((ck (FS.n hdf34) V V)).c (es V l3_34)).c (es V l4_34)).c (es V l5_34)).c (es V l23_34)).c (es V l24_34)).c (Sa l25_34)) fun A36 _ F36 => tc H35 fun _ H37 => cd (fg6 F36) (fun c38 => ?_) fun c38 => ?_)))
 ·refine wp_skip (tc H37 fun _ H39 => wp_block (tb fun _ H40 => ?_))
  have k41 : j < y30.2.2.length := om
  obtain ⟨y41, hy41⟩ := get_some (xs := y30.2.2) (k := j) k41
  have hwr41 := fdG_rng (k := kd) (j := j) (by rw [← hfd30]; exact hy41)
  obtain ⟨B41, O41, C41, hv41⟩ := (SlN.blk (sl_SlN (tr_at hy30 (S34.chq 0 rfl hcT_29r_34))) om)
  refine wv (V_ixS (off := O41 + j) 1 j V (fg2 F36) (fg0 F36) hv41 Zb k41 Tryz.underlying25 kr (congrArg _ (Nat.mul_one _))) (rc t0 ((sl_SlN (tr_at hy30 (S34.cq 0 hcT_29r_34))).cell hv41 (map_get hy41)) (vt (W_end (en (Ka (Qb F36)) fun A42 _ F42 => tk H40 (region_in (vm (fg4 F42) (vm (Sa (fg0 F42)) ?_)))))))
  have S43 := S34.se [2, 1, 0] [c23_34, c20_34, cT_29r_34]
  obtain ⟨Y44, hP44, hR44, hF44, hB44⟩ := St.call (pre := [c23_34, c20_34]) (fr := [cT_29r_34]) S43
  rw [hc23_34, hc20_34] at hP44
  refine W_callV V V V (Sa t0) Tryz.func61 kr V (args1 t0) (ktk_c (wt := y41) hP44 Zf) (fun _ w45 ⟨e, hP45⟩ => ⟨_, e, ?_⟩)
  obtain ⟨cB_45, cE_45, hcB_45, hcE_45, hP45⟩ := gen2 hP45
  have S45 := (hB44 _ _ hP45).a2
  refine W_end (en (Qc F42) fun A46 _ F46 => inb_n (tk H39 (region_in (ad (fg1 F46) V (vm t0 (W_end (en (Ka (Qa (fx1 F46))) fun A47 hsz47 F47 => ?_)))))))
  have S48 := S45.se [2, 1, 0] [cT_29r_34, cE_45, cB_45]
  refine then_n ⟨y30.2.2.length - (j + 1), by simp only [hm34]; omega, hsz47, F47.d, (j + 1), (if (y41 : Int) = 1 then 0 else za), (if (y41 : Int) = 2 then 0 else zb), (if (y41 : Int) = 3 then 0 else zf), (if (y41 : Int) = 4 then 0 else zp), (if (y41 : Int) = 5 then 0 else zq), (if (y41 : Int) = 6 then 0 else zu), (if ((y41 : Int) = 1 ∧ badN za) ∨ ((y41 : Int) = 2 ∧ badN zb) ∨ ((y41 : Int) = 3 ∧ badN zf) ∨ ((y41 : Int) = 4 ∧ badN zp) ∨ ((y41 : Int) = 5 ∧ badN zq) then 7 else er), rfl, Zb, (tkG_step hT hy41), ((fg0 F47).trans Za), ((fg6 F47).trans (fg5 F32).symm), ((fg5 F47).trans (fg4 F32).symm), ((fg4 F47).trans (fg3 F32).symm), ((fg3 F47).trans (fg2 F32).symm), ((fg2 F47).trans (fg1 F32).symm), (by subst hcT_29r_34 hcE_45 hcB_45; exact S48)⟩
 refine wp_exit (then_exit (then_exit (inb_hit (tc H27 fun _ H49 => tb fun _ H50 => (ra (fg5 F36) (S34.ob 2 hc23_34) (wv (xbS (n := 7) (z := .agg #[.int .i64 0, .int .i64 0, .int .i64 0, .int .i64 0, .int .i64 0, .int .i64 0, .int .u64 0]) V parts0) (wv (V_neSt7 V (Sa t0) t0 kr) (W_end (en (Ka (Qb F36)) fun A51 _ F51 => tk H50 (cd (fg0 F51) (fun c53 => ?_) fun c53 => ?_))))))))))
 ·refine tb fun _ H54 => (vc (W_end (en (Ka F51) fun A55 _ F55 => tk H54 (wp_ret (then_ret (rt1 F55 (rv_tmp (fg0 F55)) ?_))))))
  have hR := tkG_end hT Zb
  rw [hfd30] at hR
  have h : (opE (⟨kd, a, b, f, p, q, uu⟩ : OpC)) = 2 := op_ne (c := (⟨kd, a, b, f, p, q, uu⟩ : OpC)) Zk hR Zb
  rw [h]
  exact ⟨rfl, S34.fin0⟩
 refine wp_skip (ta H49 fun _ H57 => (rL (.int .i64 (er)) (fg5 F51) (S34.ob 1 hc20_34) (vt (W_end (en (Ka (Qa F51)) fun A58 _ F58 => tk H57 (wp_ret (rt1 F58 (rv_tmp (fg0 F58)) ?_)))))))
 have hR := tkG_end hT Zb
 rw [hfd30] at hR
 have h : (opE (⟨kd, a, b, f, p, q, uu⟩ : OpC)) = er := op_ok (c := (⟨kd, a, b, f, p, q, uu⟩ : OpC)) Zk hR Zb
 rw [h]
 exact ⟨rfl, S34.fin0⟩

end Go.Proofs.YtpgkfndbfocibaaGreat