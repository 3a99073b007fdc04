import Derived.Test.YteppjefmlibmoaaProg
import Derived.Test.YteppjefmlibmoaaRl8
import Derived.Test.YteppjefmlibmoaaPl8j
namespace Go.Proofs.Yteppjefmlibmoaa
open Go.RowKit Go.Own Go.Own.R Go.Own.S Go.Own.E


set_option maxHeartbeats 4000000 in
theorem lset_c {cv : Value} {U : List SL} {nv : Value} {ns : List Int} {i : Int} {w : World} (h_cv : Ro w NoX (rl 1 fstC cv U)) (n_cv : Ro w NoX (nsi U)) (h_nv : Ro w NoX (il .i64 nv ns)) (hi : -1 ≤ i ∧ i < (U.length : Int)) :
  Calls Try.prog 25 #[.agg #[cv, nv], .int .i64 i] w fun e w' => e = .returned (.agg #[(aS U nv ns (jS U i)).1]) ∧ St w NoX [] w' := by
 refine calls_in 14 Try.func25 rfl rfl (by simp) (fun A0 Y0 hdf0 hargs => ?_)
 have l0_0 := hargs 0 (.agg #[cv, nv]) rfl
 have l1_0 := hargs 1 (.int .i64 i) rfl
 clear hargs; replace Y0 : SzN A0 14 := ⟨Y0⟩
 have hS := St.nil w
 have bh_cv := SlN.le (sl_SlN h_cv.at)
 have bh_nv := SlN.le (sl_SlN h_nv.at)
 refine wp_seq_k fun K1 H1 => ?_
 refine region_in ?_
 refine W_boxS (zs := #[cv, nv]) hS rfl rfl rfl l0_0 (by rfl) (fun g2 w2 c2 hc2 S2 => ?_)
 replace S2 : St w NoX [c2] w2 := S2
 refine W_allocS (z := .agg #[.slice none 0 0]) (zs := #[.slice none 0 0]) S2 rfl rfl rfl (by kernel_rfl) (by rfl) (fun g3 w3 c3 hc3 S3 => ?_)
 replace S3 : St w NoX [c3, c2] w3 := S3
 refine W_end (gen_Q fun A4 E4 => ?_)
 have Y4 := szq E4
 have F4 := (fsE E4 (ck (ck (FS.n hdf0) rfl rfl) rfl rfl)).c (lookE E4 1 (es2 rfl l1_0))
 clear E4 Y0 hdf0 l0_0 l1_0
 refine tk H1 ?_
 refine wp_seq_k fun K5 H5 => ?_
 refine wp_seq_k fun K6 H6 => ?_
 refine region_in ?_
 refine W_v rfl rfl (V_mov rfl (fg0 F4)) ?_
 refine W_v rfl rfl (V_lss rfl (et rfl) rfl) ?_
 refine W_end (gen_Q fun A7 E7 => ?_)
 have Y7 := szq E7
 have F7 := fsE E7 (ck (cq1 F4 rfl) rfl rfl)
 clear E7 Y4 F4
 refine tk H6 ?_
 refine cond_dec (fg0 F7) (fun c8 => ?_) (fun c8 => ?_)
 ·refine wp_seq_k fun K9 H9 => ?_
  refine region_in ?_
  refine W_v rfl rfl (V_fa (off' := 1) rfl (fg3 F7) Try.underlying29 rfl (by decide +kernel) rfl) ?_
  refine W_r rfl rfl (VR_ldP (ys := [nv]) rfl (et rfl) (S3.obj 1 rfl hc2) (ldP_at rfl) Try.underlying27 rfl (by kernel_rfl)) ?_
  refine W_stAS 0 S3 rfl hc3 rfl rfl rfl (es2 rfl (fg2 F7)) (et rfl) (by simp only [List.all_toArray, List.all_cons, List.all_nil, SlN_one (sl_SlN h_nv.at)] <;> rfl) (by rfl) (by kernel_rfl) (fun w10 c10 hc10 S10 => ?_)
  replace S10 : St w NoX [c10, c2] w10 := S10
  refine W_end (gen_Q fun A11 E11 => ?_)
  have Y11 := szq E11
  have F11 := fsE E11 (cq2 F7 rfl)
  clear E11 Y7 F7
  have S12 : St w NoX [c10] w10 := S10.sel [0] (by decide) rfl
  refine tk H9 ?_
  refine wp_ret ?_
  refine then_ret ?_
  refine ret_in (results_1 Try.results25 (rv_cellA (fg2 F11) (S12.obj 0 rfl hc10) Try.underlying27 rfl (by kernel_rfl))) F11.d ?_
  rw [jS_neg (ns := ns) (by omega)]
  exact ⟨rfl, S12.fin0⟩
 refine wp_skip ?_
 refine tk H5 ?_
 refine wp_seq_k fun K13 H13 => ?_
 refine region_in ?_
 refine W_v rfl rfl (V_fa (off' := 0) rfl (fg3 F7) Try.underlying29 rfl (by decide +kernel) rfl) ?_
 refine W_r rfl rfl (VR_ldC rfl (et rfl) (cell_box (v := cv) (S3.obj 1 rfl hc2) rfl) Try.underlying24 rfl) ?_
 refine W_v rfl rfl (V_mov rfl (es2 rfl (fg1 F7))) ?_
 have k14 : i.toNat < U.length := by first | omega | (simp only [List.length_cons, List.length_nil]; omega) | (simp only [List.length_set]; omega) | decide
 obtain ⟨y14, hy14⟩ := get_some (xs := U) (k := i.toNat) k14
 obtain ⟨B14, O14, C14, hv14⟩ := (SlN.blk (sl_SlN h_cv.at) (by first | omega | (simp only [List.length_cons, List.length_nil]; omega) | (simp only [List.length_set]; omega) | decide))
 refine W_v rfl rfl (V_ixS (off := O14 + i.toNat * 1) 1 (i.toNat) rfl (es rfl (et rfl)) (et rfl) hv14 (by omega) k14 Try.underlying24 (by kernel_rfl) rfl) ?_
 have fn15 : Ro w NoX (il .i64 y14.1 y14.2) := nsi_ro1 n_cv hy14
 have bfn15 := SlN.le (sl_SlN (S3.ro fn15))
 refine W_r rfl rfl (VR_ldR (ys := fstC y14) rfl (et rfl) (SlN.row fstC_len (sl_SlN (S3.ro h_cv)) hv14 hy14 rfl) Try.underlying27 rfl (by kernel_rfl)) ?_
 refine W_stAS 0 S3 rfl hc3 rfl rfl rfl (es5 rfl (fg2 F7)) (et rfl) (by simp only [List.all_toArray, List.all_cons, List.all_nil, fstC, SlN_one (sl_SlN fn15.at)] <;> rfl) (by rfl) (by kernel_rfl) (fun w16 c16 hc16 S16 => ?_)
 replace S16 : St w NoX [c16, c2] w16 := S16
 refine W_end (gen_Q fun A17 E17 => ?_)
 have Y17 := szq E17
 have F17 := fsE E17 (cq5 F7 rfl)
 clear E17 Y7 F7
 have S18 : St w NoX [c16] w16 := S16.sel [0] (by decide) rfl
 refine tk H13 ?_
 refine wp_ret ?_
 refine ret_in (results_1 Try.results25 (rv_cellA (fg2 F17) (S18.obj 0 rfl hc16) Try.underlying27 rfl (by kernel_rfl))) F17.d ?_
 rw [jS_row (nv := nv) (ns := ns) (by omega) hy14]
 exact ⟨rfl, S18.fin0⟩

end Go.Proofs.Yteppjefmlibmoaa