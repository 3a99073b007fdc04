import Derived.Test.YteppjefmlibmoaaProg
import Derived.Test.YteppjefmlibmoaaRm4
import Derived.Test.YteppjefmlibmoaaPl8e
namespace Go.Proofs.Yteppjefmlibmoaa
open Go.RowKit Go.Own Go.Own.R Go.Own.S Go.Own.E


set_option maxHeartbeats 4000000 in
theorem kIn8_c {cv : Value} {X : List (List Int)} {nv : Value} {ns : List Int} {i : Int} {w : World} (h_cv : Ro w NoX (rmR cv X)) (h_nv : Ro w NoX (il .i64 nv ns))  :
  Calls Try.prog 12 #[.agg #[cv, nv], .int .i64 i] w fun e w' => ∃ v, e = .returned (.tuple #[v, .int .i64 (itE X i)]) ∧ St w NoX [io .i64 (v) (itT X i)] w' := by
 obtain ⟨Xu, hXu, k_cv, n_cv⟩ := rmR_open h_cv
 subst hXu
 have b_cv := SlN.le (sl_SlN k_cv.at)
 refine calls_in 23 Try.func12 rfl rfl (by simp) (fun A0 Y0 hdf0 hargs => ?_)
 have l0_0 := hargs 0 (.agg #[cv, nv]) rfl
 have l1_0 := hargs 1 (.int .i64 i) rfl
 clear hargs; replace Y0 : SzN A0 23 := ⟨Y0⟩
 have hS := St.nil w
 have bh_nv := SlN.le (sl_SlN h_nv.at)
 have bk_cv := SlN.le (sl_SlN k_cv.at)
 refine wp_seq_k fun K1 H1 => ?_
 refine region_in ?_
 refine W_boxS (zs := #[cv, nv]) hS rfl rfl rfl l0_0 (by rfl) (fun g2 w2 c2 hc2 S2 => ?_)
 replace S2 : St w NoX [c2] w2 := S2
 refine W_v rfl rfl (V_asg rfl rfl) ?_
 refine W_v rfl rfl (V_asg rfl rfl) ?_
 refine W_end (gen_Q fun A3 E3 => ?_)
 have Y3 := szq E3
 have F3 := (fsE E3 (cq2 (ck (FS.n hdf0) rfl rfl) rfl)).c (lookE E3 1 (es3 rfl l1_0))
 clear E3 Y0 hdf0 l0_0 l1_0
 refine tk H1 ?_
 refine wp_seq_k fun K4 H4 => ?_
 refine wp_seq_k fun K5 H5 => ?_
 refine region_in ?_
 refine W_v rfl rfl (V_mov rfl (fg0 F3)) ?_
 refine W_v rfl rfl (V_lss rfl (et rfl) rfl) ?_
 refine W_split rfl rfl (V_mov rfl (et rfl)) (fun c6 => ?_) (fun c6 => ?_)
 ·refine W_off rfl (wanted_f rfl rfl (et rfl) (ez rfl) rfl) ?_
  refine W_off rfl (wanted_f rfl rfl (es rfl (et rfl)) (ez rfl) rfl) ?_
  refine W_off rfl (wanted_f rfl rfl (es2 rfl (et rfl)) (ez rfl) rfl) ?_
  refine W_off rfl (wanted_f rfl rfl (es3 rfl (et rfl)) (ez rfl) rfl) ?_
  refine W_off rfl (wanted_f rfl rfl (es4 rfl (et rfl)) (ez rfl) rfl) ?_
  refine W_v rfl rfl (V_pickT rfl (es5 rfl (et rfl)) rfl) ?_
  refine W_end (gen_Q fun A7 E7 => ?_)
  have Y7 := szq E7
  have F7 := fsE E7 (ck (cq8 F3 rfl) rfl rfl)
  clear E7 Y3 F3
  refine tk H5 ?_
  refine cond_t (fg0 F7) ?_
  refine wp_seq_k fun K8 H8 => ?_
  refine region_in ?_
  refine W_v rfl rfl (V_asg rfl rfl) ?_
  refine W_v rfl rfl (V_asg rfl rfl) ?_
  refine W_end (gen_Q fun A9 E9 => ?_)
  have Y9 := szq E9
  have F9 := fsE E9 (ck (ck F7 rfl rfl) rfl rfl)
  clear E9 Y7 F7
  have S10 : St w NoX [] w2 := S2.sel [] (by decide) rfl
  refine tk H8 ?_
  refine wp_ret ?_
  refine then_ret ?_
  refine ret_in (results_2 Try.results12 (rv_tmp (fg1 F9)) (rv_tmp (fg0 F9))) F9.d ?_
  obtain ⟨c11, hc11, S11⟩ := S10.pnil (s := 1)
  have hb := it_bad (X := csF Xu) (i := i) (by rw [csF_len]; omega)
  rw [hb.1]
  exact ⟨_, rfl, (S11.fin1 0 rfl (hc11.trans (by rw [show itT (csF Xu) i = [] by exact hb.2] <;> rfl)))⟩
 refine W_v rfl (wanted_t rfl rfl (et rfl) (ez rfl)) (V_mov rfl (es3 rfl (fg0 F3))) ?_
 refine W_v rfl (wanted_t rfl rfl (es rfl (et rfl)) (ez rfl)) (V_fa (off' := 0) rfl (es4 rfl (fg1 F3)) Try.underlying29 rfl (by decide +kernel) rfl) ?_
 refine W_r rfl (wanted_t rfl rfl (es2 rfl (et rfl)) (ez rfl)) (VR_ldC rfl (et rfl) (cell_box (v := cv) (S2.obj 0 rfl hc2) rfl) Try.underlying24 rfl) ?_
 refine W_v rfl (wanted_t rfl rfl (es3 rfl (et rfl)) (ez rfl)) (V_lenS rfl (et rfl) (sl_SlN k_cv.at) Try.underlying24) ?_
 refine W_v rfl (wanted_t rfl rfl (es4 rfl (et rfl)) (ez rfl)) (V_geq rfl (es3 rfl (et rfl)) (et rfl)) ?_
 refine W_v rfl rfl (V_pickF rfl (es5 rfl (et rfl)) (et rfl)) ?_
 refine W_end (gen_Q fun A12 E12 => ?_)
 have Y12 := szq E12
 have F12 := fsE E12 (ck (cq8 F3 rfl) rfl rfl)
 clear E12 Y3 F3
 refine tk H5 ?_
 refine cond_dec (fg0 F12) (fun c13 => ?_) (fun c13 => ?_)
 ·refine wp_seq_k fun K14 H14 => ?_
  refine region_in ?_
  refine W_v rfl rfl (V_asg rfl rfl) ?_
  refine W_v rfl rfl (V_asg rfl rfl) ?_
  refine W_end (gen_Q fun A15 E15 => ?_)
  have Y15 := szq E15
  have F15 := fsE E15 (ck (ck F12 rfl rfl) rfl rfl)
  clear E15 Y12 F12
  have S16 : St w NoX [] w2 := S2.sel [] (by decide) rfl
  refine tk H14 ?_
  refine wp_ret ?_
  refine then_ret ?_
  refine ret_in (results_2 Try.results12 (rv_tmp (fg1 F15)) (rv_tmp (fg0 F15))) F15.d ?_
  obtain ⟨c17, hc17, S17⟩ := S16.pnil (s := 1)
  have hb := it_bad (X := csF Xu) (i := i) (by rw [csF_len]; omega)
  rw [hb.1]
  exact ⟨_, rfl, (S17.fin1 0 rfl (hc17.trans (by rw [show itT (csF Xu) i = [] by exact hb.2] <;> rfl)))⟩
 refine wp_skip ?_
 refine tk H4 ?_
 refine wp_seq_k fun K18 H18 => ?_
 refine region_in ?_
 refine W_v rfl rfl (V_fa (off' := 0) rfl (fg2 F12) Try.underlying29 rfl (by decide +kernel) rfl) ?_
 refine W_r rfl rfl (VR_ldC rfl (et rfl) (cell_box (v := cv) (S2.obj 0 rfl hc2) rfl) Try.underlying24 rfl) ?_
 refine W_v rfl rfl (V_mov rfl (es2 rfl (fg1 F12))) ?_
 have k19 : i.toNat < Xu.length := by first | omega | (simp only [List.length_cons, List.length_nil]; omega) | (simp only [List.length_set]; omega) | decide
 obtain ⟨y19, hy19⟩ := get_some (xs := Xu) (k := i.toNat) k19
 obtain ⟨B19, O19, C19, hv19⟩ := (SlN.blk (sl_SlN k_cv.at) (by first | omega | (simp only [List.length_cons, List.length_nil]; omega) | (simp only [List.length_set]; omega) | decide))
 refine W_v rfl rfl (V_ixS (off := O19 + i.toNat * 1) 1 (i.toNat) rfl (es rfl (et rfl)) (et rfl) hv19 (by omega) k19 Try.underlying24 (by kernel_rfl) rfl) ?_
 have fn20 : Ro w NoX (il .i64 y19.1 y19.2) := nsi_ro1 n_cv hy19
 have bfn20 := SlN.le (sl_SlN (S2.ro fn20))
 refine W_r rfl rfl (VR_ldR (ys := fstC y19) rfl (et rfl) (SlN.row fstC_len (sl_SlN (S2.ro k_cv)) hv19 hy19 rfl) Try.underlying27 rfl (by kernel_rfl)) ?_
 refine W_call rfl rfl rfl Try.func44 (by kernel_rfl) rfl (args1 (et rfl)) (kList_c (S2.roC fn20) ) ?_
 rintro _ w21 ⟨v_21, rfl, hP21⟩
 refine ⟨_, rfl, ?_⟩
 obtain ⟨c_21, hc_21, hP21⟩ := gen1 hP21
 have S21 := S2.join hP21
 replace S21 : St w NoX [c_21, c2] w21 := S21
 refine W_v rfl rfl (V_ext (v := v_21) rfl (et rfl) rfl) ?_
 refine W_v rfl rfl (V_ext (v := .int .i64 ((ckS y19.2).2)) rfl (es rfl (et rfl)) rfl) ?_
 refine W_v rfl rfl (V_asg rfl (es rfl (et rfl))) ?_
 refine W_v rfl rfl (V_asg rfl (es rfl (et rfl))) ?_
 refine W_end (gen_Q fun A22 E22 => ?_)
 have Y22 := szq E22
 have F22 := fsE E22 (ck (ck (cq8 F12 rfl) rfl rfl) rfl rfl)
 clear E22 Y12 F12
 have S23 : St w NoX [c_21] w21 := S21.sel [0] (by decide) rfl
 refine tk H18 ?_
 refine wp_ret ?_
 refine ret_in (results_2 Try.results12 (rv_tmp (fg1 F22)) (rv_tmp (fg0 F22))) F22.d ?_
 have hb := it_ok (X := csF Xu) (i := i) (by rw [csF_len]; omega) rfl (csF_at hy19)
 rw [hb.1]
 exact ⟨_, rfl, (S23.fin1 0 rfl (hc_21.trans (congrArg (io .i64 _) (by rw [hb.2]))))⟩

set_option maxHeartbeats 4000000 in
theorem kYg8_c {cv : Value} {X : List (List Int)} {nv : Value} {ns : List Int} {w : World} (h_cv : Ro w NoX (rmR cv X)) (h_nv : Ro w NoX (il .i64 nv ns))  :
  Calls Try.prog 34 #[.agg #[cv, nv]] w fun e w' => ∃ v, e = .returned (.tuple #[v, .int .i64 (ckS ns).2]) ∧ St w NoX [io .i64 (v) (lsT ns)] w' := by
 refine calls_in 9 Try.func34 rfl rfl (by simp) (fun A0 Y0 hdf0 hargs => ?_)
 have l0_0 := hargs 0 (.agg #[cv, nv]) rfl
 clear hargs; replace Y0 : SzN A0 9 := ⟨Y0⟩
 have hS := St.nil w
 have bh_nv := SlN.le (sl_SlN h_nv.at)
 refine wp_seq_k fun K1 H1 => ?_
 refine region_in ?_
 refine W_boxS (zs := #[cv, nv]) hS rfl rfl rfl l0_0 (by rfl) (fun g2 w2 c2 hc2 S2 => ?_)
 replace S2 : St w NoX [c2] w2 := S2
 refine W_v rfl rfl (V_asg rfl rfl) ?_
 refine W_v rfl rfl (V_asg rfl rfl) ?_
 refine W_end (gen_Q fun A3 E3 => ?_)
 have Y3 := szq E3
 have F3 := fsE E3 (cq2 (ck (FS.n hdf0) rfl rfl) rfl)
 clear E3 Y0 hdf0 l0_0
 refine tk H1 ?_
 refine wp_seq_k fun K4 H4 => ?_
 refine region_in ?_
 refine W_v rfl rfl (V_fa (off' := 1) rfl (fg0 F3) Try.underlying29 rfl (by decide +kernel) rfl) ?_
 refine W_r rfl rfl (VR_ldP (ys := [nv]) rfl (et rfl) (S2.obj 0 rfl hc2) (ldP_at rfl) Try.underlying27 rfl (by kernel_rfl)) ?_
 refine W_call rfl rfl rfl Try.func44 (by kernel_rfl) rfl (args1 (et rfl)) (kList_c (S2.roC h_nv) ) ?_
 rintro _ w5 ⟨v_5, rfl, hP5⟩
 refine ⟨_, rfl, ?_⟩
 obtain ⟨c_5, hc_5, hP5⟩ := gen1 hP5
 have S5 := S2.join hP5
 replace S5 : St w NoX [c_5, c2] w5 := S5
 refine W_v rfl rfl (V_ext (v := v_5) rfl (et rfl) rfl) ?_
 refine W_v rfl rfl (V_ext (v := .int .i64 ((ckS ns).2)) rfl (es rfl (et rfl)) rfl) ?_
 refine W_v rfl rfl (V_asg rfl (es rfl (et rfl))) ?_
 refine W_v rfl rfl (V_asg rfl (es rfl (et rfl))) ?_
 refine W_end (gen_Q fun A6 E6 => ?_)
 have Y6 := szq E6
 have F6 := fsE E6 (ck (ck (cq5 F3 rfl) rfl rfl) rfl rfl)
 clear E6 Y3 F3
 have S7 : St w NoX [c_5] w5 := S5.sel [0] (by decide) rfl
 refine tk H4 ?_
 refine wp_ret ?_
 refine ret_in (results_2 Try.results34 (rv_tmp (fg1 F6)) (rv_tmp (fg0 F6))) F6.d ?_
 exact ⟨_, rfl, (S7.fin1 0 rfl (hc_5))⟩

end Go.Proofs.Yteppjefmlibmoaa