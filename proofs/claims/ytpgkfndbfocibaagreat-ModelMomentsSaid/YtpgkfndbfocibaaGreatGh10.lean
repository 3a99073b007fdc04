import Derived.Test.YtpgkfndbfocibaaGreatProg
import Derived.Test.YtpgkfndbfocibaaGreatSqL
import Derived.Test.YtpgkfndbfocibaaGreatGh9b
import Derived.Test.YtpgkfndbfocibaaGreatPl15j
namespace Go.Proofs.YtpgkfndbfocibaaGreat
open Go.RowKit Go.Own Go.Own.R Go.Own.G Go.Own.Gr


set_option maxHeartbeats 4000000 in
theorem qInts_c {xv : Value} {xs : List Int} {yv : Value} {ys : List Int} {w : World} (h_xv : Ro w NoX (il .i64 xv xs)) (h_yv : Ro w NoX (il .i64 yv ys))  :
  Calls Tryz.prog 15 #[xv, yv] w fun e w' => e = .returned (.bool (decide (xs = ys))) ∧ St w NoX [] w' := by
 refine ci2 26 Tryz.func15 V (fun A0 _ F0 => ?_)
 have hS := St.nil w
 have bh_xv := SlN.le (sl_SlN h_xv.at)
 have bh_yv := SlN.le (sl_SlN h_yv.at)
 refine tb fun _ H1 => (vc (W_end (en (Qa F0) fun A2 _ F2 => tc H1 fun _ H3 => tb fun _ H4 => (vm (fg0 F2) (le_ t0 (sl_SlN h_xv.at) (vm (Sb (fg1 F2)) (le_ t0 (sl_SlN h_yv.at) (vn (Sb t0) t0 (W_end (en (Ka (Qd F2)) fun A5 _ F5 => tk H4 (cd (fg0 F5) (fun c6 => ?_) fun c6 => ?_)))))))))))
 ·refine tb fun _ H7 => (vc (W_end (en (Ka F5) fun A8 _ F8 => tk H7 (wp_ret (then_ret (rt1 F8 (rv_tmp (fg0 F8)) ?_))))))
  rw [decide_eq_false (show ¬ xs = ys from fun e => absurd (congrArg List.length e) Zb)]
  exact ⟨rfl, hS.fin0⟩
 have hl : xs.length = ys.length := by omega
 refine wp_skip (tc H3 fun _ H9 => tb fun _ H10 => (vc (W_end (en (Ka F5) fun A11 Y11 F11 => tk H10 (wp_block ?_)))))
 -- loop 4
 refine loopX (fun mz A' w' => SzN A' 26 ∧ A'.defers = [] ∧ (∃ (k : Nat), (mz = xs.length - k) ∧ (k ≤ xs.length) ∧ (∀ i, i < k → xs[i]? = ys[i]?) ∧ (EV A' (.tmp 5) = .int .i64 (k : Int)) ∧ (EV A' (.tmp 0) = EV A11 (.tmp 0)) ∧ (EV A' (.tmp 1) = EV A11 (.tmp 1)) ∧ (St w NoX [] w'))) (xs.length - 0) ⟨Y11, F11.d, 0, rfl, Zb, (fun i hi => by omega), ((fg0 F11).trans Za), rfl, rfl, hS⟩ ?_
 clear hS
 rintro n12 A12 w12 ⟨Y12, hdf12, k, hm12, hk, hz, l5_12, u0_12, u1_12, S12⟩
 have l0_12 := u0_12.trans (fg2 F11)
 have l1_12 := u1_12.trans (fg3 F11)
 refine td fun _ H13 => tb fun _ H14 => (vm l5_12 (vm (Sa l0_12) (le_ t0 (sl_SlN h_xv.at) (vl (Sb t0) t0 (W_end (en (((((ck (cq3 (FS.n hdf12) V) V V)).c (es4 V l0_12)).c (es4 V l1_12)).c (Sd l5_12)) fun A15 _ F15 => tk H14 (cd (fg3 F15) (fun c16 => ?_) fun c16 => ?_)))))))
 ·refine wp_skip (tc H13 fun _ H17 => wp_block (td fun _ H18 => region_monoS 9 9 [] kr kr (dm (fg2 F15) (dm (Sa (fg0 F15)) ?_))))
  have k19 : k < xs.length := om
  obtain ⟨y19, hy19⟩ := get_some (xs := xs) (k := k) k19
  obtain ⟨B19, O19, C19, hv19⟩ := (SlN.blk (sl_SlN h_xv.at) om)
  refine dv (V_ixS (off := O19 + k) 1 k V (Sa t0) t0 hv19 Zb k19 Tryz.underlying25 kr (congrArg _ (Nat.mul_one _))) (dr (fun _ hx _ => (urc t0 ((sl_SlN ((S12.grow hx).ro h_xv)).cell hv19 (map_get hy19)))) (dm (Sd (fg1 F15)) (dm (Se (fg0 F15)) ?_)))
  have k20 : k < ys.length := om
  obtain ⟨y20, hy20⟩ := get_some (xs := ys) (k := k) k20
  obtain ⟨B20, O20, C20, hv20⟩ := (SlN.blk (sl_SlN h_yv.at) om)
  refine dv (V_ixS (off := O20 + k) 1 k V (Sa t0) t0 hv20 Zb k20 Tryz.underlying25 kr (congrArg _ (Nat.mul_one _))) (dr (fun _ hx _ => (urc t0 ((sl_SlN ((S12.grow hx).ro h_yv)).cell hv20 (map_get hy20)))) (dv (uvn (Sd t0) t0) (ZS_none S12 (Nat.le_refl _) (Nat.le_refl _) (fun s21 hJ21 hL21 hF21 => ?_))))
  have S21 := hJ21.st; clear hF21 hJ21 hL21
  generalize s21.1 = w21 at *
  replace S21 : St w NoX [] w21 := S21
  refine en (Ka (Qh F15)) fun A22 _ F22 => tk H18 (cd (fg0 F22) (fun c23 => ?_) fun c23 => ?_)
  ·refine tb fun _ H24 => (vc (W_end (en (Ka F22) fun A25 _ F25 => tk H24 (wp_ret (inb_ret (then_ret (then_ret (inb_ret (then_ret (rt1 F25 (rv_tmp (fg0 F25)) ?_))))))))))
   rw [decide_eq_false (show ¬ xs = ys from eq_ne hy19 hy20 c23)]
   exact ⟨rfl, S21.fin0⟩
  refine wp_skip (inb_n (tk H17 (region_in (vm (fg1 F22) (ad t0 V (vt (W_end (en (Ka (Qb (fx1 F22))) fun A26 Y26 F26 => then_n ⟨xs.length - (k + 1), by simp only [hm12]; omega, Y26, F26.d, (k + 1), rfl, Zb, (eq_step hz hy19 hy20 Zb), ((fg0 F26).trans Za), ((fg3 F26).trans (fg2 F11).symm), ((fg2 F26).trans (fg3 F11).symm), S21⟩))))))))
 refine wp_exit (then_exit (then_exit (inb_hit (ta H9 fun _ H27 => (vc (W_end (en (Ka F15) fun A28 _ F28 => tk H27 (wp_ret (rt1 F28 (rv_tmp (fg0 F28)) ?_)))))))))
 rw [decide_eq_true (show xs = ys from eq_all hl Zb hz)]
 exact ⟨rfl, S12.fin0⟩

end Go.Proofs.YtpgkfndbfocibaaGreat