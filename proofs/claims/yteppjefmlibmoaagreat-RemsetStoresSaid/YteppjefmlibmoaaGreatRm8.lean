import Derived.Test.YteppjefmlibmoaaGreatProg
import Derived.Test.YteppjefmlibmoaaGreatRm7
import Derived.Test.YteppjefmlibmoaaGreatPl8g
namespace Go.Proofs.YteppjefmlibmoaaGreat
open Go.RowKit Go.Own Go.Own.R Go.Own.S Go.Own.E


set_option maxHeartbeats 4000000 in
theorem qow8_c {cv : Value} {c : List Int} {w : World} (h_cv : Ro w NoX (il .i64 cv c)) (hl : c.length ≤ 8192) :
  Calls Tryz.prog 69 #[.agg #[cv]] w fun e w' => ∃ v, e = .returned (.agg #[v]) ∧ St w NoX [io .i64 (v) c] w' := by
 refine calls_in 8 Tryz.func69 rfl rfl (by simp) (fun A0 Y0 hdf0 hargs => ?_)
 have l0_0 := hargs 0 (.agg #[cv]) rfl
 clear hargs; replace Y0 : SzN A0 8 := ⟨Y0⟩
 have hS := St.nil w
 have bh_cv := SlN.le (sl_SlN h_cv.at)
 refine wp_seq_k fun K1 H1 => ?_
 refine region_in ?_
 refine W_boxS (zs := #[cv]) hS rfl rfl rfl l0_0 (by rfl) (fun g2 w2 c2 hc2 S2 => ?_)
 replace S2 : St w NoX [c2] w2 := S2
 refine W_allocS (z := .agg #[.slice none 0 0]) (zs := #[.slice none 0 0]) S2 rfl rfl rfl (by kernel_rfl) (by rfl) (fun g3 w3 c3 hc3 S3 => ?_)
 replace S3 : St w NoX [c3, c2] w3 := S3
 refine W_end (gen_Q fun A4 E4 => ?_)
 have Y4 := szq E4
 have F4 := fsE E4 (ck (ck (FS.n hdf0) rfl rfl) rfl rfl)
 clear E4 Y0 hdf0 l0_0
 refine tk H1 ?_
 refine wp_seq_k fun K5 H5 => ?_
 refine region_in ?_
 refine W_litS (vs := []) (xs := []) 1 S3 rfl rfl rfl (parts0) rfl Tryz.underlying25 (by kernel_rfl) (by decide) (by intro v hv; cases hv) (by rfl) (fun g6 w6 c6 hc6 S6 => ?_)
 replace hc6 : c6 = io .i64 (.slice (some ⟨g6, 0, none⟩) 0 0) [] := hc6
 replace S6 : St w NoX [c6, c3, c2] w6 := S6
 refine W_v rfl rfl (V_fa (off' := 0) rfl (es rfl (fg1 F4)) Tryz.underlying27 rfl (by decide +kernel) rfl) ?_
 refine W_r rfl rfl (VR_ldC rfl (et rfl) (cell_box (v := cv) (S6.obj 2 rfl hc2) rfl) Tryz.underlying25 rfl) ?_
 refine W_appS 1 0 S6 rfl hc6 rfl rfl rfl (es2 rfl (et rfl)) (et rfl) Tryz.underlying25 Tryz.underlying25 (z := .int .i64 0) (bytes := 8) (by kernel_rfl) rfl (by decide) (sl_SlN (S6.ro h_cv)) ones_i (by first | omega | (simp; done) | (simp; omega)) (by first | omega | (simp; done) | (simp; omega)) (fun v7 w7 c7 hc7 S7 => ?_)
 replace hc7 : c7 = io .i64 v7 c := hc7.trans (app_eq (by first | (simp; done) | (rw [List.take_of_length_le (l := List.drop _ _) (by rw [List.length_drop]; exact Nat.le_refl _)])))
 replace S7 : St w NoX [c7, c3, c2] w7 := S7
 refine W_v rfl rfl (V_bldS (n := 1) (z := .agg #[.slice none 0 0]) rfl (parts1 (et rfl)) (by kernel_rfl) (by simp only [List.all_cons, List.all_nil, SlN_one (ow_at (S7.chq 0 rfl hc7)), Bool.and_true] <;> rfl) (by kernel_rfl) (by simp only [List.foldl_cons, List.foldl_nil, Value.cells, List.setIfInBounds_toArray, List.set_cons_succ, List.set_cons_zero] <;> rfl)) ?_
 refine W_stAS 1 S7 rfl hc3 rfl rfl rfl (es5 rfl (fg0 F4)) (et rfl) (by simp only [List.all_toArray, List.all_cons, List.all_nil, SlN_one (ow_at (S7.chq 0 rfl hc7))] <;> rfl) (by rfl) (by kernel_rfl) (fun w8 c8 hc8 S8 => ?_)
 replace S8 : St w NoX [c7, c8, c2] w8 := S8
 refine W_end (gen_Q fun A9 E9 => ?_)
 have Y9 := szq E9
 have F9 := fsE E9 (cq5 F4 rfl)
 clear E9 Y4 F4
 have S10 : St w NoX [c7, c8] w8 := S8.sel [0, 1] (by decide) rfl
 refine tk H5 ?_
 refine wp_ret ?_
 refine ret_in (results_1 Tryz.results69 (rv_cellA (fg0 F9) (S10.obj 1 rfl hc8) Tryz.underlying27 rfl (by kernel_rfl))) F9.d ?_
 exact ⟨_, rfl, (S10.fin1 0 rfl (hc7))⟩

set_option maxHeartbeats 4000000 in
theorem qcp8_c {cv : Value} {X : List (List Int)} {nv : Value} {ns : List Int} {w : World} (h_cv : Ro w NoX (rmR cv X)) (h_nv : Ro w NoX (il .i64 nv ns)) (hgl : GL X ns) :
  Calls Tryz.prog 44 #[.agg #[cv, nv]] w fun e w' => ∃ v z, e = .returned (.agg #[v, z]) ∧ St w NoX [rmO v X, io .i64 (z) ns] w' := by
 obtain ⟨Xu, hXu, k_cv, n_cv⟩ := rmR_open h_cv
 subst hXu
 have b_cv := SlN.le (sl_SlN k_cv.at)
 have hxl := hgl.1
 rw [csF_len] at hxl
 have hgn : ns.length ≤ 8192 := hgl.2.2
 refine calls_in 28 Tryz.func44 rfl rfl (by simp) (fun A0 Y0 hdf0 hargs => ?_)
 have l0_0 := hargs 0 (.agg #[cv, nv]) rfl
 clear hargs; replace Y0 : SzN A0 28 := ⟨Y0⟩
 have hS := St.nil w
 have bh_nv := SlN.le (sl_SlN h_nv.at)
 have bk_cv := SlN.le (sl_SlN k_cv.at)
 refine wp_seq_k fun K1 H1 => ?_
 refine region_in ?_
 refine W_boxS (zs := #[cv, nv]) hS rfl rfl rfl l0_0 (by rfl) (fun g2 w2 c2 hc2 S2 => ?_)
 replace S2 : St w NoX [c2] w2 := S2
 refine W_allocS (z := .agg #[.slice none 0 0, .slice none 0 0]) (zs := #[.slice none 0 0, .slice none 0 0]) S2 rfl rfl rfl (by kernel_rfl) (by rfl) (fun g3 w3 c3 hc3 S3 => ?_)
 replace S3 : St w NoX [c3, c2] w3 := S3
 refine W_end (gen_Q fun A4 E4 => ?_)
 have Y4 := szq E4
 have F4 := fsE E4 (ck (ck (FS.n hdf0) rfl rfl) rfl rfl)
 clear E4 Y0 hdf0 l0_0
 refine tk H1 ?_
 refine wp_seq_k fun K5 H5 => ?_
 refine region_in ?_
 refine W_v rfl rfl (V_fa (off' := 1) rfl (fg1 F4) Tryz.underlying29 rfl (by decide +kernel) rfl) ?_
 refine W_r rfl rfl (VR_ldP (ys := [nv]) rfl (et rfl) (S3.obj 1 rfl hc2) (ldP_at rfl) Tryz.underlying27 rfl (by kernel_rfl)) ?_
 refine W_call rfl rfl rfl Tryz.func69 (by kernel_rfl) rfl (args1 (et rfl)) (qow8_c (S3.roC h_nv) (by first | with_reducible assumption | with_reducible exact hgl.2.2 | omega)) ?_
 rintro _ w6 ⟨v_6, rfl, hP6⟩
 refine ⟨_, rfl, ?_⟩
 obtain ⟨c_6, hc_6, hP6⟩ := gen1 hP6
 have S6 := S3.join hP6
 replace S6 : St w NoX [c_6, c3, c2] w6 := S6
 refine W_v rfl rfl (V_bldC (n := 2) (z := .agg #[.slice none 0 0, .slice none 0 0]) (cs := #[.slice none 0 0, v_6]) rfl (parts1 (et rfl)) (by kernel_rfl) (by simp only [List.all_cons, List.all_nil, cells_agg] <;> rfl) (by kernel_rfl) (by simp only [List.foldl_cons, List.foldl_nil, cells_agg, getD_one, List.setIfInBounds_toArray, List.set_cons_succ, List.set_cons_zero] <;> rfl)) ?_
 refine W_allocS (z := .agg #[.slice none 0 0, .slice none 0 0]) (zs := #[.slice none 0 0, .slice none 0 0]) S6 rfl rfl rfl (by kernel_rfl) (by rfl) (fun g7 w7 c7 hc7 S7 => ?_)
 replace S7 : St w NoX [c7, c_6, c3, c2] w7 := S7
 refine W_stAS 0 S7 rfl hc7 rfl rfl rfl (et rfl) (es rfl (et rfl)) (by simp only [List.all_toArray, List.all_cons, List.all_nil, SlN_one (ow_at (S7.chq 1 rfl hc_6))] <;> rfl) (by rfl) (by kernel_rfl) (fun w8 c8 hc8 S8 => ?_)
 replace S8 : St w NoX [c8, c_6, c3, c2] w8 := S8
 refine W_end (gen_Q fun A9 E9 => ?_)
 have Y9 := szq E9
 have F9 := fsE E9 (ck (cq4 F4 rfl) rfl rfl)
 clear E9 Y4 F4
 refine tk H5 ?_
 refine wp_seq_k fun K10 H10 => ?_
 refine wp_seq_k fun K11 H11 => ?_
 refine region_in ?_
 refine W_v rfl rfl (V_asg rfl rfl) ?_
 refine W_end (gen_Q fun A12 E12 => ?_)
 have Y12 := szq E12
 have F12 := fsE E12 (ck F9 rfl rfl)
 clear E12 Y9 F9
 refine tk H11 ?_
 refine wp_block ?_
 obtain ⟨c13, hc13, S13⟩ := S8.pnil (s := 1)
 replace hc13 : c13 = ro 1 fstC (.slice none 0 0) ([] : List SL) := hc13
 obtain ⟨c14, hc14, S14⟩ := owl_mt S13
 replace S14 : St w NoX [c14, c13, c8, c_6, c3, c2] w8 := S14
 -- loop 3
 refine loopX (fun mz A' w' => SzN A' 28 ∧ A'.defers = [] ∧ (∃ (k : Nat) (hv : Value) (U : List SL), (mz = Xu.length - k) ∧ (k ≤ Xu.length) ∧ (csF U = (csF Xu).take k) ∧ (EV A' (.tmp 4) = .int .i64 (k : Int)) ∧ (EV A' (.tmp 1) = EV A12 (.tmp 1)) ∧ (EV A' (.tmp 2) = EV A12 (.tmp 2)) ∧ (EV A' (.tmp 3) = EV A12 (.tmp 3)) ∧ (St w NoX [owl .i64 U, ro 1 fstC hv U, bx g7 29 #[hv, v_6], io .i64 v_6 ns, bx g3 29 #[.slice none 0 0, .slice none 0 0], bx g2 29 #[cv, nv]] w'))) (Xu.length - 0) ⟨Y12, F12.d, 0, (.slice none 0 0), [], rfl, (by omega), rfl, (((fg0 F12)).trans (by first | rfl | (simp; done) | (congr 1; omega))), rfl, rfl, rfl, (by have q0 : c14 = owl .i64 [] := hc14.trans (rfl); have q1 : c13 = ro 1 fstC (.slice none 0 0) [] := hc13.trans (rfl); have q2 := hc8; have q3 := hc_6; have q4 := hc3; have q5 := hc2; subst q0 q1 q2 q3 q4 q5; exact S14)⟩ ?_
 clear S14 hc14 hc13 hc8 hc_6 hc3 hc2
 rintro n15 A15 w15 ⟨Y15, hdf15, k, hv, U, hm15, hk, hU, l4_15, u1_15, u2_15, u3_15, S15⟩
 have l1_15 := u1_15.trans (fg3 F12)
 have l2_15 := u2_15.trans (fg2 F12)
 have l3_15 := u3_15.trans (fg1 F12)
 obtain ⟨c14_15, c13_15, c8_15, c_15, c3_15, c2_15, hc14_15, hc13_15, hc8_15, hc_15, hc3_15, hc2_15, S15⟩ := gen6 S15
 refine wp_seq_k fun K16 H16 => ?_
 refine wp_seq_k fun K17 H17 => ?_
 refine region_in ?_
 refine W_v rfl rfl (V_mov rfl l4_15) ?_
 refine W_v rfl rfl (V_fa (off' := 0) rfl (es rfl l1_15) Tryz.underlying29 rfl (by decide +kernel) rfl) ?_
 refine W_r rfl rfl (VR_ldC rfl (et rfl) (cell_box (v := cv) (S15.obj 5 rfl hc2_15) rfl) Tryz.underlying24 rfl) ?_
 refine W_v rfl rfl (V_lenS rfl (et rfl) (sl_SlN k_cv.at) Tryz.underlying24) ?_
 refine W_v rfl rfl (V_lss rfl (es3 rfl (et rfl)) (et rfl)) ?_
 refine W_end (gen_Q fun A18 E18 => ?_)
 have Y18 := szq E18
 have F18 := ((((fsE E18 (ck (cq4 (FS.n hdf15) rfl) rfl rfl)).c (lookE E18 1 (es5 rfl l1_15))).c (lookE E18 2 (es5 rfl l2_15))).c (lookE E18 3 (es5 rfl l3_15))).c (lookE E18 4 (es5 rfl l4_15))
 clear E18 Y15 hdf15 l4_15 l1_15 l2_15 l3_15
 refine tk H17 ?_
 refine cond_dec (fg4 F18) (fun c19 => ?_) (fun c19 => ?_)
 ·have hUl := tk_len hU
  refine wp_skip ?_
  refine tk H16 ?_
  refine wp_seq_k fun K20 H20 => ?_
  refine wp_block ?_
  have k21 : k < Xu.length := by first | omega | (simp only [List.length_cons, List.length_nil]; omega) | (simp only [List.length_set]; omega) | decide
  obtain ⟨y21, hy21⟩ := get_some (xs := Xu) (k := k) k21
  have hgy21 := gl_at hgl hy21
  refine region_monoS 9 10 [none, none, none, none, none, none, none, some (SPv [] (fun _ => fun u l' => ∃ v_s, u = .agg #[v_s] ∧ ∃ c_s, c_s = io .i64 (v_s) y21.2 ∧ l' = [c_s]) 7), some (SPv [23] (fun vs => fun u l' => ∃ g_, u = .slice (some ⟨g_, 0, none⟩) 1 1 ∧ ∃ c_, c_ = ro 1 fstC (.slice (some ⟨g_, 0, none⟩) 1 1) [(((cel (vs.getD 0 undef) 0), y21.2))] ∧ l' = [c_]) 8)] (by kernel_rfl) (by kernel_rfl) ?_
  refine D_v rfl rfl (V_fa (off' := 0) rfl (fg1 F18) Tryz.underlying29 rfl (by decide +kernel) rfl) rfl rfl ?_
  refine D_r rfl rfl (by kernel_rfl) (fun sx hx hF => (VR_ldC rfl (et rfl) (cell_box (v := hv) ((S15.grow hx).obj 2 rfl hc8_15) rfl) Tryz.underlying24 rfl)) rfl rfl ?_
  refine D_v rfl rfl (V_fa (off' := 0) rfl (es2 rfl (fg3 F18)) Tryz.underlying29 rfl (by decide +kernel) rfl) rfl rfl ?_
  refine D_r rfl rfl (by kernel_rfl) (fun sx hx hF => (VR_ldC rfl (et rfl) (cell_box (v := cv) ((S15.grow hx).obj 5 rfl hc2_15) rfl) Tryz.underlying24 rfl)) rfl rfl ?_
  refine D_v rfl rfl (V_mov rfl (es4 rfl (fg0 F18))) rfl rfl ?_
  obtain ⟨B21, O21, C21, hv21⟩ := (SlN.blk (sl_SlN k_cv.at) (by first | omega | (simp only [List.length_cons, List.length_nil]; omega) | (simp only [List.length_set]; omega) | decide))
  refine D_v rfl rfl (V_ixS (off := O21 + k * 1) 1 (k) rfl (es rfl (et rfl)) (et rfl) hv21 (by omega) k21 Tryz.underlying24 (by kernel_rfl) rfl) rfl rfl ?_
  have fn22 : Ro w NoX (il .i64 y21.1 y21.2) := nsi_ro1 n_cv hy21
  have bfn22 := SlN.le (sl_SlN (S15.ro fn22))
  refine D_r rfl rfl (by kernel_rfl) (fun sx hx hF => (VR_ldR (ys := fstC y21) rfl (et rfl) (SlN.row fstC_len (sl_SlN ((S15.grow hx).ro k_cv)) hv21 hy21 rfl) Tryz.underlying27 rfl (by kernel_rfl))) rfl rfl ?_
  refine D_call (ts := []) (vs := []) (C0 := fun _ => fun u l' => ∃ v_s, u = .agg #[v_s] ∧ ∃ c_s, c_s = io .i64 (v_s) y21.2 ∧ l' = [c_s]) (C := fun u l' => ∃ v_s, u = .agg #[v_s] ∧ ∃ c_s, c_s = io .i64 (v_s) y21.2 ∧ l' = [c_s]) rfl rfl rfl Tryz.func69 (by kernel_rfl) rfl (args1 (et rfl)) rfl rfl rfl rfl (fun sx hx hF => ?_) (fun u23 l23 hu23 => ?_)
  ·refine (qow8_c ((S15.grow hx).roC fn22) (by first | with_reducible assumption | with_reducible exact hgl.2.2 | omega)).mono ?_
   rintro _ _ ⟨v_23, rfl, hz⟩
   exact ⟨_, rfl, _, ⟨_, rfl, _, rfl, rfl⟩, hz⟩
  obtain ⟨v_23, rfl, c_23, hc_23, hl23⟩ := hu23
  have hll24 : [((v_23, y21.2))].length = 1 := rfl
  refine D_lay (ts := [23]) (vs := [.agg #[v_23]]) (C0 := fun vs => fun u l' => ∃ g_, u = .slice (some ⟨g_, 0, none⟩) 1 1 ∧ ∃ c_, c_ = ro 1 fstC (.slice (some ⟨g_, 0, none⟩) 1 1) [(((cel (vs.getD 0 undef) 0), y21.2))] ∧ l' = [c_]) (C := fun u l' => ∃ g_, u = .slice (some ⟨g_, 0, none⟩) 1 1 ∧ ∃ c_, c_ = ro 1 fstC (.slice (some ⟨g_, 0, none⟩) 1 1) [((v_23, y21.2))] ∧ l' = [c_]) rfl rfl rfl rfl (ts1 (et rfl)) rfl (fun sx hx hF => lay_lit (vs := [.agg #[v_23]]) 1 rfl (parts1 (et rfl)) rfl Tryz.underlying24 (by kernel_rfl) (by decide) (by intro v hv; simp only [List.mem_cons, List.not_mem_nil, or_false] at hv; rcases hv with rfl <;> rfl) (by rfl)) (fun u24 l24 hu24 => ?_)
  obtain ⟨g24, rfl, c24, hc24, hl24⟩ := hu24
  refine D_eff rfl ?_
  refine ZS_eff S15 rfl rfl (fun s25 hJ25 hL25 hF25 => ?_)
  obtain ⟨ll23, ws23, we23, ⟨v_23q, hq23, c_23r, hc_23r, hl23r⟩, hm23, k23, e23⟩ := L.all_get (L.all_rest hF25); cases hq23; subst hl23r
  replace hJ25 := hJ25.add hL25 (i := 7) rfl hm23 k23 e23
  obtain ⟨ll24, ws24, we24, ⟨g24q, hq24, c24r, hc24r, hl24r⟩, hm24, k24, e24⟩ := L.all_get hF25; cases hq24; subst hl24r
  replace hJ25 := hJ25.add hL25 (i := 8) rfl hm24 k24 e24
  have S25 := hJ25.st; clear hF25 hJ25 hL25
  generalize s25.1 = w25 at *
  replace S25 : St w NoX [c24r, c_23r, c14_15, c13_15, c8_15, c_15, c3_15, c2_15] w25 := S25
  refine W_appS 1 3 S25 rfl hc13_15 rfl rfl rfl (es7 rfl (et rfl)) (et rfl) Tryz.underlying24 Tryz.underlying24 (z := .agg #[.slice none 0 0]) (bytes := 24) (by kernel_rfl) rfl (by decide) (ow_at (S25.chq 0 rfl hc24r)) (by intro u hu; simp only [List.flatMap_cons, List.flatMap_nil, fstC, List.append_nil, List.cons_append, List.nil_append, List.mem_cons, List.not_mem_nil, or_false] at hu; rcases hu with rfl <;> first | exact SlN_one (ow_at (S25.chq 1 rfl hc_23r))) (by first | omega | (simp; done) | (simp; omega)) (by first | omega | (simp; done) | (simp; omega)) (fun v26 w26 c26 hc26 S26 => ?_)
  replace hc26 : c26 = ro 1 fstC v26 (U ++ [((v_23, y21.2))]) := hc26.trans (app_eqR (by first | (simp; done) | (rw [List.take_of_length_le (l := List.drop _ _) (by rw [List.length_drop]; exact Nat.le_refl _)])))
  replace S26 : St w NoX [c24r, c_23r, c14_15, c26, c8_15, c_15, c3_15, c2_15] w26 := S26
  have S27 := S26.sel [1, 2, 0, 3, 4, 5, 6, 7] (by decide) (l' := [c_23r, c14_15, c24r, c26, c8_15, c_15, c3_15, c2_15]) rfl
  replace S27 : St w NoX [c_23r, c14_15, c24r, c26, c8_15, c_15, c3_15, c2_15] w26 := S27
  rw [hc_23r, hc14_15] at S27
  obtain ⟨c28, hc28, S28⟩ := gen1 (owl_push (v := v_23) (xs := y21.2) (L := U) S27)
  replace S28 : St w NoX [c28, c24r, c26, c8_15, c_15, c3_15, c2_15] w26 := S28
  replace hc28 : c28 = owl .i64 (U ++ [((v_23, y21.2))]) := hc28
  refine W_v rfl rfl (V_fa (off' := 0) rfl (es8 rfl (es2 rfl (fg1 F18))) Tryz.underlying29 rfl (by decide +kernel) rfl) ?_
  refine W_stCS (zs' := #[v26, v_6]) 3 S28 rfl hc8_15 rfl rfl rfl (et rfl) (es rfl (et rfl)) (SlN_one (ow_at (S28.chq 2 rfl hc26))) (by rfl) (by kernel_rfl) (by first | rfl | (simp only [List.setIfInBounds_toArray, List.set_cons_succ, List.set_cons_zero] <;> rfl)) (fun w29 c29 hc29 S29 => ?_)
  replace S29 : St w NoX [c28, c24r, c26, c29, c_15, c3_15, c2_15] w29 := S29
  refine W_end ?_
  refine Qo_normal ?_
  refine gen_Q (fun A30 E30 => ?_)
  have Y30 := szq E30
  have F30 := fsE E30 (cq3 (cq8 F18 rfl) rfl)
  clear E30 Y18 F18
  have S31 : St w NoX [c28, c26, c29, c_15, c3_15, c2_15] w29 := S29.sel [0, 2, 3, 4, 5, 6] (by decide) rfl
  refine inb_n ?_
  refine tk H20 ?_
  refine region_in ?_
  refine W_v rfl rfl (V_mov rfl (fg0 F30)) ?_
  refine W_v rfl rfl (V_add rfl (et rfl) rfl (by omega) (by omega)) ?_
  refine W_v rfl rfl (V_asg rfl (et rfl)) ?_
  refine W_end (gen_Q fun A32 E32 => ?_)
  have Y32 := szq E32
  have F32 := fsE E32 (ck (cq2 (fx0 F30) rfl) rfl rfl)
  clear E32 Y30 F30
  refine then_n ⟨Xu.length - (k + 1), by simp only [hm15]; omega, Y32, F32.d, (k + 1), v26, (U ++ [((v_23, y21.2))]), rfl, (by omega), (by rw [csF_app, hU]; exact tkC (y := y21.2) (csF_at hy21)), (((fg0 F32)).trans (by first | rfl | (simp; done) | (congr 1; omega))), (((fg3 F32)).trans (fg3 F12).symm), (((fg2 F32)).trans (fg2 F12).symm), (((fg1 F32)).trans (fg1 F12).symm), (by have q0 : c28 = owl .i64 (U ++ [((v_23, y21.2))]) := hc28.trans (rfl); have q1 : c26 = ro 1 fstC v26 (U ++ [((v_23, y21.2))]) := hc26.trans (rfl); have q2 := hc29; have q3 := hc_15; have q4 := hc3_15; have q5 := hc2_15; subst q0 q1 q2 q3 q4 q5; exact S31)⟩
 refine wp_exit ?_
 refine then_exit ?_
 refine then_exit ?_
 refine inb_hit ?_
 refine tk H10 ?_
 refine wp_seq_k fun K33 H33 => ?_
 refine region_in ?_
 refine W_r rfl rfl (VR_ldA rfl (fg1 F18) (S15.obj 2 rfl hc8_15) Tryz.underlying29 rfl (by kernel_rfl)) ?_
 refine W_stAS 4 S15 rfl hc3_15 rfl rfl rfl (es rfl (fg2 F18)) (et rfl) (by simp only [List.all_toArray, List.all_cons, List.all_nil, SlN_one (ow_at (S15.chq 1 rfl hc13_15)), SlN_one (ow_at (S15.chq 3 rfl hc_15))] <;> rfl) (by rfl) (by kernel_rfl) (fun w34 c34 hc34 S34 => ?_)
 replace S34 : St w NoX [c14_15, c13_15, c8_15, c_15, c34, c2_15] w34 := S34
 refine W_end (gen_Q fun A35 E35 => ?_)
 have Y35 := szq E35
 have F35 := fsE E35 (cq1 F18 rfl)
 clear E35 Y18 F18
 have S36 : St w NoX [c14_15, c13_15, c_15, c34] w34 := S34.sel [0, 1, 3, 4] (by decide) rfl
 refine tk H33 ?_
 refine wp_ret ?_
 refine ret_in (results_1 Tryz.results44 (rv_cellA (fg2 F35) (S36.obj 3 rfl hc34) Tryz.underlying29 rfl (by kernel_rfl))) F35.d ?_
 have S38 := S36.sel [1, 0, 2, 3] (by decide) (l' := [c13_15, c14_15, c_15, c34]) rfl
 replace S38 : St w NoX [c13_15, c14_15, c_15, c34] w34 := S38
 obtain ⟨c37, hc37, S37⟩ := St.rmClose S38 hc13_15 hc14_15
 replace S37 : St w NoX [c37, c_15, c34] w34 := S37
 exact ⟨_, _, rfl, (S37.fin2 0 rfl (hc37.trans (by rw [hU, List.take_of_length_le (by rw [csF_len]; omega)])) 1 rfl (hc_15) (by decide))⟩

set_option maxHeartbeats 4000000 in
theorem qplc_c {C : Int} {N : Int} {Z : Int} {K : Int} {Q : Int} {slot : Int} {target : Int} {w : World}  (hpe : plE C N Z K Q slot target = 0) :
  Calls Tryz.prog 66 #[.agg #[.int .i64 C, .int .i64 N, .int .i64 Z, .int .i64 K, .int .i64 Q], .int .i64 slot, .int .i64 target] w fun e w' => e = .returned (.int .i64 (plN C N Z K Q slot target)) ∧ St w NoX [] w' := by
 have hsl := pl_slot hpe
 refine calls_in 33 Tryz.func66 rfl rfl (by simp) (fun A0 Y0 hdf0 hargs => ?_)
 have l0_0 := hargs 0 (.agg #[.int .i64 C, .int .i64 N, .int .i64 Z, .int .i64 K, .int .i64 Q]) rfl
 have l1_0 := hargs 1 (.int .i64 slot) rfl
 have l2_0 := hargs 2 (.int .i64 target) rfl
 clear hargs; replace Y0 : SzN A0 33 := ⟨Y0⟩
 have hS := St.nil w
 refine wp_seq_k fun K1 H1 => ?_
 refine region_in ?_
 refine W_boxS (zs := #[.int .i64 (C), .int .i64 (N), .int .i64 (Z), .int .i64 (K), .int .i64 (Q)]) hS rfl rfl rfl l0_0 (by rfl) (fun g2 w2 c2 hc2 S2 => ?_)
 replace S2 : St w NoX [c2] w2 := S2
 refine W_v rfl rfl (V_asg rfl rfl) ?_
 refine W_end (gen_Q fun A3 E3 => ?_)
 have Y3 := szq E3
 have F3 := ((fsE E3 (cq1 (ck (FS.n hdf0) rfl rfl) rfl)).c (lookE E3 1 (es2 rfl l1_0))).c (lookE E3 2 (es2 rfl l2_0))
 clear E3 Y0 hdf0 l0_0 l1_0 l2_0
 refine tk H1 ?_
 refine wp_seq_k fun K4 H4 => ?_
 refine wp_seq_k fun K5 H5 => ?_
 refine region_in ?_
 refine W_v rfl rfl (V_mov rfl (fg0 F3)) ?_
 refine W_v rfl rfl (V_eql rfl (et rfl) rfl) ?_
 refine W_end (gen_Q fun A6 E6 => ?_)
 have Y6 := szq E6
 have F6 := fsE E6 (ck (cq1 F3 rfl) rfl rfl)
 clear E6 Y3 F3
 refine tk H5 ?_
 refine cond_dec (fg0 F6) (fun c7 => ?_) (fun c7 => ?_)
 ·refine wp_seq_k fun K8 H8 => ?_
  refine region_in ?_
  refine W_v rfl rfl (V_asg rfl rfl) ?_
  refine W_end (gen_Q fun A9 E9 => ?_)
  have Y9 := szq E9
  have F9 := fsE E9 (ck F6 rfl rfl)
  clear E9 Y6 F6
  have S10 : St w NoX [] w2 := S2.sel [] (by decide) rfl
  refine tk H8 ?_
  refine wp_ret ?_
  refine then_ret ?_
  refine ret_in (results_1 Tryz.results66 (rv_tmp (fg0 F9))) F9.d ?_
  have h := pl_zero (C := C) (N := N) (Z := Z) (K := K) (Q := Q) (slot := slot) (target := target) hsl (by omega)
  rw [h.2]
  exact ⟨rfl, S10.fin0⟩
 refine wp_skip ?_
 refine tk H4 ?_
 refine wp_seq_k fun K11 H11 => ?_
 refine region_in ?_
 refine W_r rfl rfl (VR_ldA rfl (fg3 F6) (S2.obj 0 rfl hc2) Tryz.underlying23 rfl (by kernel_rfl)) ?_
 refine W_v rfl rfl (V_mov rfl (es rfl (fg2 F6))) ?_
 refine W_call rfl rfl rfl Tryz.func65 (by kernel_rfl) rfl (args2 (es rfl (et rfl)) (et rfl)) (qca_c (C := C) (N := N) (Z := Z) (K := K) (Q := Q) (a := slot)  ) ?_
 rintro _ w12 ⟨rfl, hP12⟩
 refine ⟨_, rfl, ?_⟩
 have S12 := S2.join hP12
 replace S12 : St w NoX [c2] w12 := S12
 refine W_v rfl rfl (V_mov rfl (et rfl)) ?_
 refine W_v rfl rfl (V_ext (v := .int .i64 ((caN C N Z K Q slot))) rfl (et rfl) rfl) ?_
 refine W_v rfl rfl (V_ext (v := .int .i64 ((caE C N Z K Q slot))) rfl (es rfl (et rfl)) rfl) ?_
 refine W_v rfl rfl (V_asg rfl (es rfl (et rfl))) ?_
 refine W_v rfl rfl (V_asg rfl (es rfl (et rfl))) ?_
 refine W_end (gen_Q fun A13 E13 => ?_)
 have Y13 := szq E13
 have F13 := fsE E13 (cq1 (ck (cq6 F6 rfl) rfl rfl) rfl)
 clear E13 Y6 F6
 refine tk H11 ?_
 refine wp_seq_k fun K14 H14 => ?_
 refine region_in ?_
 refine W_r rfl rfl (VR_ldA rfl (fg4 F13) (S12.obj 0 rfl hc2) Tryz.underlying23 rfl (by kernel_rfl)) ?_
 refine W_v rfl rfl (V_mov rfl (es rfl (fg2 F13))) ?_
 refine W_call rfl rfl rfl Tryz.func65 (by kernel_rfl) rfl (args2 (es rfl (et rfl)) (et rfl)) (qca_c (C := C) (N := N) (Z := Z) (K := K) (Q := Q) (a := target)  ) ?_
 rintro _ w15 ⟨rfl, hP15⟩
 refine ⟨_, rfl, ?_⟩
 have S15 := S12.join hP15
 replace S15 : St w NoX [c2] w15 := S15
 refine W_v rfl rfl (V_mov rfl (et rfl)) ?_
 refine W_v rfl rfl (V_ext (v := .int .i64 ((caN C N Z K Q target))) rfl (et rfl) rfl) ?_
 refine W_v rfl rfl (V_ext (v := .int .i64 ((caE C N Z K Q target))) rfl (es rfl (et rfl)) rfl) ?_
 refine W_v rfl rfl (V_asg rfl (es rfl (et rfl))) ?_
 refine W_v rfl rfl (V_asg rfl (es rfl (et rfl))) ?_
 refine W_end (gen_Q fun A16 E16 => ?_)
 have Y16 := szq E16
 have F16 := fsE E16 (cq1 (ck (cq6 F13 rfl) rfl rfl) rfl)
 clear E16 Y13 F13
 have S17 : St w NoX [] w15 := S15.sel [] (by decide) rfl
 refine tk H14 ?_
 refine wp_seq_k fun K18 H18 => ?_
 refine wp_seq_k fun K19 H19 => ?_
 refine region_in ?_
 refine W_v rfl rfl (V_mov rfl (fg1 F16)) ?_
 refine W_v rfl rfl (V_lss rfl (et rfl) rfl) ?_
 refine W_split rfl rfl (V_mov rfl (et rfl)) (fun c20 => ?_) (fun c20 => ?_)
 ·refine W_off rfl (wanted_f rfl rfl (et rfl) (ez rfl) rfl) ?_
  refine W_off rfl (wanted_f rfl rfl (es rfl (et rfl)) (ez rfl) rfl) ?_
  refine W_off rfl (wanted_f rfl rfl (es2 rfl (et rfl)) (ez rfl) rfl) ?_
  refine W_v rfl rfl (V_pickT rfl (es3 rfl (et rfl)) rfl) ?_
  refine W_end (gen_Q fun A21 E21 => ?_)
  have Y21 := szq E21
  have F21 := fsE E21 (ck (cq6 F16 rfl) rfl rfl)
  clear E21 Y16 F16
  refine tk H19 ?_
  refine cond_t (fg0 F21) ?_
  refine wp_seq_k fun K22 H22 => ?_
  refine region_in ?_
  refine W_v rfl rfl (V_asg rfl rfl) ?_
  refine W_end (gen_Q fun A23 E23 => ?_)
  have Y23 := szq E23
  have F23 := fsE E23 (ck F21 rfl rfl)
  clear E23 Y21 F21
  refine tk H22 ?_
  refine wp_ret ?_
  refine then_ret ?_
  refine ret_in (results_1 Tryz.results66 (rv_tmp (fg0 F23))) F23.d ?_
  have h := pl_none (C := C) (N := N) (Z := Z) (K := K) (Q := Q) (slot := slot) (target := target) hsl (by omega) (pl_tg hpe (by omega)) (by omega)
  rw [h.2]
  exact ⟨rfl, S17.fin0⟩
 refine W_v rfl (wanted_t rfl rfl (et rfl) (ez rfl)) (V_mov rfl (es3 rfl (fg1 F16))) ?_
 refine W_v rfl (wanted_t rfl rfl (es rfl (et rfl)) (ez rfl)) (V_mov rfl (es4 rfl (fg0 F16))) ?_
 refine W_v rfl (wanted_t rfl rfl (es2 rfl (et rfl)) (ez rfl)) (V_eql rfl (es rfl (et rfl)) (et rfl)) ?_
 refine W_v rfl rfl (V_pickF rfl (es3 rfl (et rfl)) (et rfl)) ?_
 refine W_end (gen_Q fun A24 E24 => ?_)
 have Y24 := szq E24
 have F24 := fsE E24 (ck (cq6 F16 rfl) rfl rfl)
 clear E24 Y16 F16
 refine tk H19 ?_
 refine cond_dec (fg0 F24) (fun c25 => ?_) (fun c25 => ?_)
 ·refine wp_seq_k fun K26 H26 => ?_
  refine region_in ?_
  refine W_v rfl rfl (V_asg rfl rfl) ?_
  refine W_end (gen_Q fun A27 E27 => ?_)
  have Y27 := szq E27
  have F27 := fsE E27 (ck F24 rfl rfl)
  clear E27 Y24 F24
  refine tk H26 ?_
  refine wp_ret ?_
  refine then_ret ?_
  refine ret_in (results_1 Tryz.results66 (rv_tmp (fg0 F27))) F27.d ?_
  have h := pl_none (C := C) (N := N) (Z := Z) (K := K) (Q := Q) (slot := slot) (target := target) hsl (by omega) (pl_tg hpe (by omega)) (by omega)
  rw [h.2]
  exact ⟨rfl, S17.fin0⟩
 refine wp_skip ?_
 refine tk H18 ?_
 refine wp_seq_k fun K28 H28 => ?_
 refine region_in ?_
 refine W_v rfl rfl (V_mov rfl (fg1 F24)) ?_
 refine W_v rfl rfl (V_asg rfl (et rfl)) ?_
 refine W_end (gen_Q fun A29 E29 => ?_)
 have Y29 := szq E29
 have F29 := fsE E29 (ck (cq1 F24 rfl) rfl rfl)
 clear E29 Y24 F24
 refine tk H28 ?_
 refine wp_ret ?_
 refine ret_in (results_1 Tryz.results66 (rv_tmp (fg0 F29))) F29.d ?_
 have h := pl_some (C := C) (N := N) (Z := Z) (K := K) (Q := Q) (slot := slot) (target := target) hsl (by omega) (pl_tg hpe (by omega)) (by omega)
 rw [h.2]
 exact ⟨rfl, S17.fin0⟩

set_option maxHeartbeats 4000000 in
theorem qask8_c {C : Int} {N : Int} {Z : Int} {K : Int} {Q : Int} {cv : Value} {X : List (List Int)} {nv : Value} {ns : List Int} {slot : Int} {target : Int} {w : World} (h_cv : Ro w NoX (rmR cv X)) (h_nv : Ro w NoX (il .i64 nv ns))  :
  Calls Tryz.prog 42 #[.agg #[.int .i64 C, .int .i64 N, .int .i64 Z, .int .i64 K, .int .i64 Q], .agg #[cv, nv], .int .i64 slot, .int .i64 target] w fun e w' => e = .returned (.int .i64 (asE C N Z K Q X ns slot target)) ∧ St w NoX [] w' := by
 refine calls_in 38 Tryz.func42 rfl rfl (by simp) (fun A0 Y0 hdf0 hargs => ?_)
 have l0_0 := hargs 0 (.agg #[.int .i64 C, .int .i64 N, .int .i64 Z, .int .i64 K, .int .i64 Q]) rfl
 have l1_0 := hargs 1 (.agg #[cv, nv]) rfl
 have l2_0 := hargs 2 (.int .i64 slot) rfl
 have l3_0 := hargs 3 (.int .i64 target) rfl
 clear hargs; replace Y0 : SzN A0 38 := ⟨Y0⟩
 have hS := St.nil w
 have bh_nv := SlN.le (sl_SlN h_nv.at)
 refine wp_seq_k fun K1 H1 => ?_
 refine region_in ?_
 refine W_boxS (zs := #[.int .i64 (C), .int .i64 (N), .int .i64 (Z), .int .i64 (K), .int .i64 (Q)]) hS rfl rfl rfl l0_0 (by rfl) (fun g2 w2 c2 hc2 S2 => ?_)
 replace S2 : St w NoX [c2] w2 := S2
 refine W_boxS (zs := #[cv, nv]) S2 rfl rfl rfl (es rfl l1_0) (by rfl) (fun g3 w3 c3 hc3 S3 => ?_)
 replace S3 : St w NoX [c3, c2] w3 := S3
 refine W_v rfl rfl (V_asg rfl rfl) ?_
 refine W_end (gen_Q fun A4 E4 => ?_)
 have Y4 := szq E4
 have F4 := ((fsE E4 (cq1 (ck (ck (FS.n hdf0) rfl rfl) rfl rfl) rfl)).c (lookE E4 2 (es3 rfl l2_0))).c (lookE E4 3 (es3 rfl l3_0))
 clear E4 Y0 hdf0 l0_0 l1_0 l2_0 l3_0
 refine tk H1 ?_
 refine wp_seq_k fun K5 H5 => ?_
 refine region_in ?_
 refine W_r rfl rfl (VR_ldA rfl (fg3 F4) (S3.obj 1 rfl hc2) Tryz.underlying23 rfl (by kernel_rfl)) ?_
 refine W_r rfl rfl (VR_ldA rfl (es rfl (fg2 F4)) (S3.obj 0 rfl hc3) Tryz.underlying29 rfl (by kernel_rfl)) ?_
 refine W_call rfl rfl rfl Tryz.func31 (by kernel_rfl) rfl (args2 (es rfl (et rfl)) (et rfl)) (qCk8_c (C := C) (N := N) (Z := Z) (K := K) (Q := Q) (S3.roC h_cv) (S3.roC h_nv) ) ?_
 rintro _ w6 ⟨rfl, hP6⟩
 refine ⟨_, rfl, ?_⟩
 have S6 := S3.join hP6
 replace S6 : St w NoX [c3, c2] w6 := S6
 refine W_v rfl rfl (V_mov rfl (et rfl)) ?_
 refine W_v rfl rfl (V_ext (v := .int .i64 ((rmP C N Z K Q X ns).1)) rfl (et rfl) rfl) ?_
 refine W_v rfl rfl (V_ext (v := .int .i64 ((rmP C N Z K Q X ns).2)) rfl (es rfl (et rfl)) rfl) ?_
 refine W_v rfl rfl (V_asg rfl (es rfl (et rfl))) ?_
 refine W_v rfl rfl (V_asg rfl (es rfl (et rfl))) ?_
 refine W_end (gen_Q fun A7 E7 => ?_)
 have Y7 := szq E7
 have F7 := fsE E7 (ck (cq7 F4 rfl) rfl rfl)
 clear E7 Y4 F4
 have S8 : St w NoX [c2] w6 := S6.sel [1] (by decide) rfl
 refine tk H5 ?_
 refine wp_seq_k fun K9 H9 => ?_
 refine wp_seq_k fun K10 H10 => ?_
 refine region_in ?_
 refine W_v rfl rfl (V_mov rfl (fg0 F7)) ?_
 refine W_v rfl rfl (V_eql rfl (et rfl) rfl) ?_
 refine W_end (gen_Q fun A11 E11 => ?_)
 have Y11 := szq E11
 have F11 := fsE E11 (ck (cq1 F7 rfl) rfl rfl)
 clear E11 Y7 F7
 refine tk H10 ?_
 refine cond_dec (fg0 F11) (fun c12 => ?_) (fun c12 => ?_)
 ·refine region_in ?_
  refine W_r rfl rfl (VR_ldA rfl (fg5 F11) (S8.obj 0 rfl hc2) Tryz.underlying23 rfl (by kernel_rfl)) ?_
  refine W_v rfl rfl (V_mov rfl (es rfl (fg3 F11))) ?_
  refine W_call rfl rfl rfl Tryz.func65 (by kernel_rfl) rfl (args2 (es rfl (et rfl)) (et rfl)) (qca_c (C := C) (N := N) (Z := Z) (K := K) (Q := Q) (a := slot)  ) ?_
  rintro _ w13 ⟨rfl, hP13⟩
  refine ⟨_, rfl, ?_⟩
  have S13 := S8.join hP13
  replace S13 : St w NoX [c2] w13 := S13
  refine W_v rfl rfl (V_mov rfl (et rfl)) ?_
  refine W_v rfl rfl (V_ext (v := .int .i64 ((caN C N Z K Q slot))) rfl (et rfl) rfl) ?_
  refine W_v rfl rfl (V_ext (v := .int .i64 ((caE C N Z K Q slot))) rfl (es rfl (et rfl)) rfl) ?_
  refine W_v rfl rfl (V_asg rfl (et rfl)) ?_
  refine W_end (gen_Q fun A14 E14 => ?_)
  have Y14 := szq E14
  have F14 := fsE E14 (ck (cq6 (fx1 F11) rfl) rfl rfl)
  clear E14 Y11 F11
  refine tk H9 ?_
  refine wp_seq_k fun K15 H15 => ?_
  refine wp_seq_k fun K16 H16 => ?_
  refine region_in ?_
  refine W_v rfl rfl (V_mov rfl (fg0 F14)) ?_
  refine W_v rfl rfl (V_eql rfl (et rfl) rfl) ?_
  refine W_split rfl rfl (V_mov rfl (et rfl)) (fun c17 => ?_) (fun c17 => ?_)
  ·refine W_v rfl (wanted_t rfl rfl (et rfl) (ez rfl)) (V_mov rfl (es3 rfl (fg2 F14))) ?_
   refine W_v rfl (wanted_t rfl rfl (es rfl (et rfl)) (ez rfl)) (V_neq rfl (et rfl) rfl) ?_
   refine W_v rfl rfl (V_pickT rfl (es2 rfl (et rfl)) (et rfl)) ?_
   refine W_end (gen_Q fun A18 E18 => ?_)
   have Y18 := szq E18
   have F18 := fsE E18 (ck (cq5 F14 rfl) rfl rfl)
   clear E18 Y14 F14
   refine tk H16 ?_
   refine cond_dec (fg0 F18) (fun c19 => ?_) (fun c19 => ?_)
   ·refine region_in ?_
    refine W_r rfl rfl (VR_ldA rfl (fg6 F18) (S13.obj 0 rfl hc2) Tryz.underlying23 rfl (by kernel_rfl)) ?_
    refine W_v rfl rfl (V_mov rfl (es rfl (fg3 F18))) ?_
    refine W_call rfl rfl rfl Tryz.func65 (by kernel_rfl) rfl (args2 (es rfl (et rfl)) (et rfl)) (qca_c (C := C) (N := N) (Z := Z) (K := K) (Q := Q) (a := target)  ) ?_
    rintro _ w20 ⟨rfl, hP20⟩
    refine ⟨_, rfl, ?_⟩
    have S20 := S13.join hP20
    replace S20 : St w NoX [c2] w20 := S20
    refine W_v rfl rfl (V_mov rfl (et rfl)) ?_
    refine W_v rfl rfl (V_ext (v := .int .i64 ((caN C N Z K Q target))) rfl (et rfl) rfl) ?_
    refine W_v rfl rfl (V_ext (v := .int .i64 ((caE C N Z K Q target))) rfl (es rfl (et rfl)) rfl) ?_
    refine W_v rfl rfl (V_asg rfl (et rfl)) ?_
    refine W_end (gen_Q fun A21 E21 => ?_)
    have Y21 := szq E21
    have F21 := fsE E21 (ck (cq6 (fx1 F18) rfl) rfl rfl)
    clear E21 Y18 F18
    have S22 : St w NoX [] w20 := S20.sel [] (by decide) rfl
    refine tk H15 ?_
    refine wp_seq_k fun K23 H23 => ?_
    refine region_in ?_
    refine W_v rfl rfl (V_mov rfl (fg0 F21)) ?_
    refine W_v rfl rfl (V_asg rfl (et rfl)) ?_
    refine W_end (gen_Q fun A24 E24 => ?_)
    have Y24 := szq E24
    have F24 := fsE E24 (ck (cq1 F21 rfl) rfl rfl)
    clear E24 Y21 F21
    refine tk H23 ?_
    refine wp_ret ?_
    refine ret_in (results_1 Tryz.results42 (rv_tmp (fg0 F24))) F24.d ?_
    have he : asE C N Z K Q X ns slot target = (caE C N Z K Q target) := by
     unfold asE plE
     split <;> (try split) <;> (try split) <;> omega
    rw [he]
    exact ⟨rfl, S22.fin0⟩
   refine wp_skip ?_
   refine tk H15 ?_
   refine wp_seq_k fun K25 H25 => ?_
   refine region_in ?_
   refine W_v rfl rfl (V_mov rfl (fg1 F18)) ?_
   refine W_v rfl rfl (V_asg rfl (et rfl)) ?_
   refine W_end (gen_Q fun A26 E26 => ?_)
   have Y26 := szq E26
   have F26 := fsE E26 (ck (cq1 F18 rfl) rfl rfl)
   clear E26 Y18 F18
   have S27 : St w NoX [] w13 := S13.sel [] (by decide) rfl
   refine tk H25 ?_
   refine wp_ret ?_
   refine ret_in (results_1 Tryz.results42 (rv_tmp (fg0 F26))) F26.d ?_
   have he : asE C N Z K Q X ns slot target = (caE C N Z K Q slot) := by
    unfold asE plE
    split <;> (try split) <;> (try split) <;> omega
   rw [he]
   exact ⟨rfl, S27.fin0⟩
  refine W_off rfl (wanted_f rfl rfl (et rfl) (ez rfl) rfl) ?_
  refine W_off rfl (wanted_f rfl rfl (es rfl (et rfl)) (ez rfl) rfl) ?_
  refine W_v rfl rfl (V_pickF rfl (es2 rfl (et rfl)) rfl) ?_
  refine W_end (gen_Q fun A28 E28 => ?_)
  have Y28 := szq E28
  have F28 := fsE E28 (ck (cq5 F14 rfl) rfl rfl)
  clear E28 Y14 F14
  refine tk H16 ?_
  refine cond_f (fg0 F28) ?_
  refine wp_skip ?_
  refine tk H15 ?_
  refine wp_seq_k fun K29 H29 => ?_
  refine region_in ?_
  refine W_v rfl rfl (V_mov rfl (fg1 F28)) ?_
  refine W_v rfl rfl (V_asg rfl (et rfl)) ?_
  refine W_end (gen_Q fun A30 E30 => ?_)
  have Y30 := szq E30
  have F30 := fsE E30 (ck (cq1 F28 rfl) rfl rfl)
  clear E30 Y28 F28
  have S31 : St w NoX [] w13 := S13.sel [] (by decide) rfl
  refine tk H29 ?_
  refine wp_ret ?_
  refine ret_in (results_1 Tryz.results42 (rv_tmp (fg0 F30))) F30.d ?_
  have he : asE C N Z K Q X ns slot target = (caE C N Z K Q slot) := by
   unfold asE plE
   split <;> (try split) <;> (try split) <;> omega
  rw [he]
  exact ⟨rfl, S31.fin0⟩
 refine wp_skip ?_
 refine tk H9 ?_
 refine wp_seq_k fun K32 H32 => ?_
 refine wp_seq_k fun K33 H33 => ?_
 refine region_in ?_
 refine W_v rfl rfl (V_mov rfl (fg1 F11)) ?_
 refine W_v rfl rfl (V_eql rfl (et rfl) rfl) ?_
 refine W_sure (c' := false) rfl rfl (V_mov rfl (et rfl)) (by first | (simp [c12]; done) | exact decide_eq_true (by omega) | exact decide_eq_false (by omega)) ?_
 refine W_off rfl (wanted_f rfl rfl (et rfl) (ez rfl) rfl) ?_
 refine W_off rfl (wanted_f rfl rfl (es rfl (et rfl)) (ez rfl) rfl) ?_
 refine W_v rfl rfl (V_pickF rfl (es2 rfl (et rfl)) rfl) ?_
 refine W_end (gen_Q fun A34 E34 => ?_)
 have Y34 := szq E34
 have F34 := fsE E34 (ck (cq5 F11 rfl) rfl rfl)
 clear E34 Y11 F11
 refine tk H33 ?_
 refine cond_f (fg0 F34) ?_
 refine wp_skip ?_
 refine tk H32 ?_
 refine wp_seq_k fun K35 H35 => ?_
 refine region_in ?_
 refine W_v rfl rfl (V_mov rfl (fg2 F34)) ?_
 refine W_v rfl rfl (V_asg rfl (et rfl)) ?_
 refine W_end (gen_Q fun A36 E36 => ?_)
 have Y36 := szq E36
 have F36 := fsE E36 (ck (cq1 F34 rfl) rfl rfl)
 clear E36 Y34 F34
 have S37 : St w NoX [] w6 := S8.sel [] (by decide) rfl
 refine tk H35 ?_
 refine wp_ret ?_
 refine ret_in (results_1 Tryz.results42 (rv_tmp (fg0 F36))) F36.d ?_
 have he : asE C N Z K Q X ns slot target = (rmP C N Z K Q X ns).2 := by
  unfold asE plE
  split <;> (try split) <;> (try split) <;> omega
 rw [he]
 exact ⟨rfl, S37.fin0⟩

set_option maxHeartbeats 4000000 in
theorem qchg_c {C : Int} {N : Int} {Z : Int} {K : Int} {Q : Int} {cv : Value} {X : List (List Int)} {nv : Value} {ns : List Int} {slot : Int} {target : Int} {add : Bool} {w : World} (h_cv : Ro w NoX (rmR cv X)) (h_nv : Ro w NoX (il .i64 nv ns)) (hpe : plE C N Z K Q slot target = 0) (hgl : GL X ns) (hN : (X.length : Int) = N) :
  Calls Tryz.prog 43 #[.agg #[.int .i64 C, .int .i64 N, .int .i64 Z, .int .i64 K, .int .i64 Q], .agg #[cv, nv], .int .i64 slot, .int .i64 target, .bool add] w fun e w' => ∃ v z, e = .returned (.agg #[v, z]) ∧ St w NoX [rmO v (cgC X (plN C N Z K Q slot target) slot add), io .i64 (z) (cgN ns (plN C N Z K Q slot target) slot add)] w' := by
 have hpr := pl_rng C N Z K Q slot target
 refine calls_in 57 Tryz.func43 rfl rfl (by simp) (fun A0 Y0 hdf0 hargs => ?_)
 have l0_0 := hargs 0 (.agg #[.int .i64 C, .int .i64 N, .int .i64 Z, .int .i64 K, .int .i64 Q]) rfl
 have l1_0 := hargs 1 (.agg #[cv, nv]) rfl
 have l2_0 := hargs 2 (.int .i64 slot) rfl
 have l3_0 := hargs 3 (.int .i64 target) rfl
 have l4_0 := hargs 4 (.bool add) rfl
 clear hargs; replace Y0 : SzN A0 57 := ⟨Y0⟩
 have hS := St.nil w
 have bh_nv := SlN.le (sl_SlN h_nv.at)
 refine wp_seq_k fun K1 H1 => ?_
 refine region_in ?_
 refine W_boxS (zs := #[.int .i64 (C), .int .i64 (N), .int .i64 (Z), .int .i64 (K), .int .i64 (Q)]) hS rfl rfl rfl l0_0 (by rfl) (fun g2 w2 c2 hc2 S2 => ?_)
 replace S2 : St w NoX [c2] w2 := S2
 refine W_boxS (zs := #[cv, nv]) S2 rfl rfl rfl (es rfl l1_0) (by rfl) (fun g3 w3 c3 hc3 S3 => ?_)
 replace S3 : St w NoX [c3, c2] w3 := S3
 refine W_allocS (z := .agg #[.slice none 0 0, .slice none 0 0]) (zs := #[.slice none 0 0, .slice none 0 0]) S3 rfl rfl rfl (by kernel_rfl) (by rfl) (fun g4 w4 c4 hc4 S4 => ?_)
 replace S4 : St w NoX [c4, c3, c2] w4 := S4
 refine W_end (gen_Q fun A5 E5 => ?_)
 have Y5 := szq E5
 have F5 := (((fsE E5 (ck (ck (ck (FS.n hdf0) rfl rfl) rfl rfl) rfl rfl)).c (lookE E5 2 (es3 rfl l2_0))).c (lookE E5 3 (es3 rfl l3_0))).c (lookE E5 4 (es3 rfl l4_0))
 clear E5 Y0 hdf0 l0_0 l1_0 l2_0 l3_0 l4_0
 refine tk H1 ?_
 refine wp_seq_k fun K6 H6 => ?_
 refine region_in ?_
 refine W_r rfl rfl (VR_ldA rfl (fg4 F5) (S4.obj 1 rfl hc3) Tryz.underlying29 rfl (by kernel_rfl)) ?_
 refine W_call rfl rfl rfl Tryz.func44 (by kernel_rfl) rfl (args1 (et rfl)) (qcp8_c (S4.roC h_cv) (S4.roC h_nv) (by first | with_reducible assumption | exact gl_of (by omega))) ?_
 rintro _ w7 ⟨v_7, z_7, rfl, hP7⟩
 refine ⟨_, rfl, ?_⟩
 obtain ⟨c_7, cz_7, hc_7, hcz_7, hP7⟩ := gen2 hP7
 have S7 := S4.join hP7
 replace S7 : St w NoX [c_7, cz_7, c4, c3, c2] w7 := S7
 refine W_allocS (z := .agg #[.slice none 0 0, .slice none 0 0]) (zs := #[.slice none 0 0, .slice none 0 0]) S7 rfl rfl rfl (by kernel_rfl) (by rfl) (fun g8 w8 c8 hc8 S8 => ?_)
 replace S8 : St w NoX [c8, c_7, cz_7, c4, c3, c2] w8 := S8
 refine W_stAS 0 S8 rfl hc8 rfl rfl rfl (et rfl) (es rfl (et rfl)) (by simp only [List.all_toArray, List.all_cons, List.all_nil, rmO_one (S8.chq 1 rfl hc_7), SlN_one (ow_at (S8.chq 2 rfl hcz_7))] <;> rfl) (by rfl) (by kernel_rfl) (fun w9 c9 hc9 S9 => ?_)
 replace S9 : St w NoX [c9, c_7, cz_7, c4, c3, c2] w9 := S9
 refine W_end (gen_Q fun A10 E10 => ?_)
 have Y10 := szq E10
 have F10 := fsE E10 (ck (cq2 F5 rfl) rfl rfl)
 clear E10 Y5 F5
 have S11 : St w NoX [c9, c_7, cz_7, c4, c2] w9 := S9.sel [0, 1, 2, 3, 5] (by decide) rfl
 refine tk H6 ?_
 refine wp_seq_k fun K12 H12 => ?_
 refine region_in ?_
 refine W_r rfl rfl (VR_ldA rfl (fg6 F10) (S11.obj 4 rfl hc2) Tryz.underlying23 rfl (by kernel_rfl)) ?_
 refine W_v rfl rfl (V_mov rfl (es rfl (fg3 F10))) ?_
 refine W_v rfl rfl (V_mov rfl (es2 rfl (fg2 F10))) ?_
 refine W_call rfl rfl rfl Tryz.func66 (by kernel_rfl) rfl (args3 (es2 rfl (et rfl)) (es rfl (et rfl)) (et rfl)) (qplc_c (C := C) (N := N) (Z := Z) (K := K) (Q := Q) (slot := slot) (target := target)  (by first | with_reducible assumption | omega)) ?_
 rintro _ w13 ⟨rfl, hP13⟩
 refine ⟨_, rfl, ?_⟩
 have S13 := S11.join hP13
 replace S13 : St w NoX [c9, c_7, cz_7, c4, c2] w13 := S13
 refine W_v rfl rfl (V_asg rfl (et rfl)) ?_
 refine W_end (gen_Q fun A14 E14 => ?_)
 have Y14 := szq E14
 have F14 := fsE E14 (ck (cq4 F10 rfl) rfl rfl)
 clear E14 Y10 F10
 have S15 : St w NoX [c9, c_7, cz_7, c4] w13 := S13.sel [0, 1, 2, 3] (by decide) rfl
 refine tk H12 ?_
 refine wp_seq_k fun K16 H16 => ?_
 refine wp_seq_k fun K17 H17 => ?_
 refine region_in ?_
 refine W_v rfl rfl (V_mov rfl (fg0 F14)) ?_
 refine W_v rfl rfl (V_eql rfl (et rfl) rfl) ?_
 refine W_end (gen_Q fun A18 E18 => ?_)
 have Y18 := szq E18
 have F18 := fsE E18 (ck (cq1 F14 rfl) rfl rfl)
 clear E18 Y14 F14
 refine tk H17 ?_
 refine cond_dec (fg0 F18) (fun c19 => ?_) (fun c19 => ?_)
 ·refine wp_seq_k fun K20 H20 => ?_
  refine region_in ?_
  refine W_r rfl rfl (VR_ldA rfl (fg2 F18) (S15.obj 0 rfl hc9) Tryz.underlying29 rfl (by kernel_rfl)) ?_
  refine W_stAS 3 S15 rfl hc4 rfl rfl rfl (es rfl (fg6 F18)) (et rfl) (by simp only [List.all_toArray, List.all_cons, List.all_nil, rmO_one (S15.chq 1 rfl hc_7), SlN_one (ow_at (S15.chq 2 rfl hcz_7))] <;> rfl) (by rfl) (by kernel_rfl) (fun w21 c21 hc21 S21 => ?_)
  replace S21 : St w NoX [c9, c_7, cz_7, c21] w21 := S21
  refine W_end (gen_Q fun A22 E22 => ?_)
  have Y22 := szq E22
  have F22 := fsE E22 (cq1 F18 rfl)
  clear E22 Y18 F18
  have S23 : St w NoX [c_7, cz_7, c21] w21 := S21.sel [1, 2, 3] (by decide) rfl
  refine tk H20 ?_
  refine wp_ret ?_
  refine then_ret ?_
  refine ret_in (results_1 Tryz.results43 (rv_cellA (fg6 F22) (S23.obj 2 rfl hc21) Tryz.underlying29 rfl (by kernel_rfl))) F22.d ?_
  have hp : (plN C N Z K Q slot target) = -2 := by omega
  exact ⟨_, _, rfl, (S23.fin2 0 rfl (hc_7.trans (congrArg (rmO _) (cg_neg (by omega)).symm)) 1 rfl (hcz_7.trans (congrArg (io .i64 _) (cgN_no (by omega)).symm)) (by decide))⟩
 have S25 := S15.sel [1, 0, 2, 3] (by decide) (l' := [c_7, c9, cz_7, c4]) rfl
 replace S25 : St w NoX [c_7, c9, cz_7, c4] w13 := S25
 obtain ⟨U24, c24, cb24, hU24, hc24, hcb24, S24⟩ := St.rmOpen S25 hc_7
 replace S24 : St w NoX [c24, cb24, c9, cz_7, c4] w13 := S24
 have hUl := cs_len hU24
 refine wp_skip ?_
 refine tk H16 ?_
 refine wp_seq_k fun K26 H26 => ?_
 refine region_in ?_
 refine W_v rfl rfl (V_fa (off' := 1) rfl (fg2 F18) Tryz.underlying29 rfl (by decide +kernel) rfl) ?_
 refine W_r rfl rfl (VR_ldP (ys := [z_7]) rfl (et rfl) (S24.obj 2 rfl hc9) (ldP_at rfl) Tryz.underlying27 rfl (by kernel_rfl)) ?_
 refine W_allocS (z := .agg #[.slice none 0 0]) (zs := #[.slice none 0 0]) S24 rfl rfl rfl (by kernel_rfl) (by rfl) (fun g27 w27 c27 hc27 S27 => ?_)
 replace S27 : St w NoX [c27, c24, cb24, c9, cz_7, c4] w27 := S27
 refine W_stAS 0 S27 rfl hc27 rfl rfl rfl (et rfl) (es rfl (et rfl)) (by simp only [List.all_toArray, List.all_cons, List.all_nil, SlN_one (ow_at (S27.chq 4 rfl hcz_7))] <;> rfl) (by rfl) (by kernel_rfl) (fun w28 c28 hc28 S28 => ?_)
 replace S28 : St w NoX [c28, c24, cb24, c9, cz_7, c4] w28 := S28
 refine W_end (gen_Q fun A29 E29 => ?_)
 have Y29 := szq E29
 have F29 := fsE E29 (ck (cq2 F18 rfl) rfl rfl)
 clear E29 Y18 F18
 refine tk H26 ?_
 refine wp_seq_k fun K30 H30 => ?_
 refine wp_seq_k fun K31 H31 => ?_
 refine region_in ?_
 refine W_v rfl rfl (V_mov rfl (fg2 F29)) ?_
 refine W_v rfl rfl (V_geq rfl (et rfl) rfl) ?_
 refine W_end (gen_Q fun A32 E32 => ?_)
 have Y32 := szq E32
 have F32 := fsE E32 (ck (cq1 F29 rfl) rfl rfl)
 clear E32 Y29 F29
 refine tk H31 ?_
 refine cond_dec (fg0 F32) (fun c33 => ?_) (fun c33 => ?_)
 ·refine region_in ?_
  refine W_v rfl rfl (V_fa (off' := 0) rfl (fg4 F32) Tryz.underlying29 rfl (by decide +kernel) rfl) ?_
  refine W_r rfl rfl (VR_ldC rfl (et rfl) (cell_box (v := v_7) (S28.obj 3 rfl hc9) rfl) Tryz.underlying24 rfl) ?_
  refine W_v rfl rfl (V_mov rfl (es2 rfl (fg3 F32))) ?_
  have k34 : (plN C N Z K Q slot target).toNat < U24.length := by first | omega | (simp only [List.length_cons, List.length_nil]; omega) | (simp only [List.length_set]; omega) | decide
  obtain ⟨y34, hy34⟩ := get_some (xs := U24) (k := (plN C N Z K Q slot target).toNat) k34
  obtain ⟨B34, O34, C34, hv34⟩ := (SlN.blk (ow_at (S28.chq 1 rfl hc24)) (by first | omega | (simp only [List.length_cons, List.length_nil]; omega) | (simp only [List.length_set]; omega) | decide))
  refine W_v rfl rfl (V_ixS (off := O34 + ((plN C N Z K Q slot target).toNat) * 1) 1 ((plN C N Z K Q slot target).toNat) rfl (es rfl (et rfl)) (et rfl) hv34 (by omega) k34 Tryz.underlying24 (by kernel_rfl) rfl) ?_
  have bfn35 := SlN.le (sl_SlN (owl_at hy34 (S28.chq 2 rfl hcb24)))
  refine W_r rfl rfl (VR_ldR (ys := fstC y34) rfl (et rfl) (SlN.row fstC_len (ow_at (S28.chq 1 rfl hc24)) hv34 hy34 rfl) Tryz.underlying27 rfl (by kernel_rfl)) ?_
  refine W_stAS 0 S28 rfl hc28 rfl rfl rfl (es5 rfl (fg1 F32)) (et rfl) (by simp only [List.all_toArray, List.all_cons, List.all_nil, fstC, SlN_one (sl_SlN (owl_at hy34 (S28.chq 2 rfl hcb24)))] <;> rfl) (by rfl) (by kernel_rfl) (fun w36 c36 hc36 S36 => ?_)
  replace S36 : St w NoX [c36, c24, cb24, c9, cz_7, c4] w36 := S36
  refine W_end (gen_Q fun A37 E37 => ?_)
  have Y37 := szq E37
  have F37 := fsE E37 (cq5 F32 rfl)
  clear E37 Y32 F32
  refine tk H30 ?_
  refine wp_seq_k fun K38 H38 => ?_
  refine wp_seq_k fun K39 H39 => ?_
  refine region_in ?_
  refine W_v rfl rfl (V_mov rfl (fg5 F37)) ?_
  refine W_end (gen_Q fun A40 E40 => ?_)
  have Y40 := szq E40
  have F40 := fsE E40 (ck F37 rfl rfl)
  clear E40 Y37 F37
  refine tk H39 ?_
  refine cond_b (fg0 F40) (fun c41 => ?_) (fun c41 => ?_)
  ·refine region_in ?_
   refine W_r rfl rfl (VR_ldA rfl (fg2 F40) (S36.obj 0 rfl hc36) Tryz.underlying27 rfl (by kernel_rfl)) ?_
   refine W_v rfl rfl (V_mov rfl (es rfl (fg8 F40))) ?_
   refine W_call rfl rfl rfl Tryz.func67 (by kernel_rfl) rfl (args2 (es rfl (et rfl)) (et rfl)) (qAdd_c (a := slot) (owl_ro hy34 (S36.chC 2 rfl hcb24)) ) ?_
   rintro _ w42 ⟨v_42, rfl, hP42⟩
   refine ⟨_, rfl, ?_⟩
   obtain ⟨c_42, hc_42, hP42⟩ := gen1 hP42
   have S42 := S36.join hP42
   replace S42 : St w NoX [c_42, c36, c24, cb24, c9, cz_7, c4] w42 := S42
   refine W_v rfl rfl (V_mov rfl (et rfl)) ?_
   refine W_v rfl rfl (V_ext (v := .agg #[v_42]) rfl (et rfl) rfl) ?_
   refine W_v rfl rfl (V_ext (v := .bool ((adB y34.2 slot))) rfl (es rfl (et rfl)) rfl) ?_
   refine W_v rfl rfl (V_ext (v := .int .i64 ((chE y34.2 slot))) rfl (es2 rfl (et rfl)) rfl) ?_
   refine W_stAS 1 S42 rfl hc36 rfl rfl rfl (es7 rfl (fg2 F40)) (es2 rfl (et rfl)) (by simp only [List.all_toArray, List.all_cons, List.all_nil, SlN_one (ow_at (S42.chq 0 rfl hc_42))] <;> rfl) (by rfl) (by kernel_rfl) (fun w43 c43 hc43 S43 => ?_)
   replace S43 : St w NoX [c_42, c43, c24, cb24, c9, cz_7, c4] w43 := S43
   refine W_end (gen_Q fun A44 E44 => ?_)
   have Y44 := szq E44
   have F44 := fsE E44 (cq7 F40 rfl)
   clear E44 Y40 F40
   refine tk H38 ?_
   refine wp_seq_k fun K45 H45 => ?_
   refine wp_seq_k fun K46 H46 => ?_
   refine region_in ?_
   refine W_v rfl rfl (V_mov rfl (fg4 F44)) ?_
   refine W_v rfl rfl (V_geq rfl (et rfl) rfl) ?_
   refine W_end (gen_Q fun A47 E47 => ?_)
   have Y47 := szq E47
   have F47 := fsE E47 (ck (cq1 F44 rfl) rfl rfl)
   clear E47 Y44 F44
   refine tk H46 ?_
   refine cond_sure (fg0 F47) (by first | exact decide_eq_true (by omega) | exact decide_eq_false (by omega)) ?_
   refine region_in ?_
   refine W_v rfl rfl (V_fa (off' := 0) rfl (fg6 F47) Tryz.underlying29 rfl (by decide +kernel) rfl) ?_
   refine W_r rfl rfl (VR_ldC rfl (et rfl) (cell_box (v := v_7) (S43.obj 4 rfl hc9) rfl) Tryz.underlying24 rfl) ?_
   refine W_v rfl rfl (V_mov rfl (es2 rfl (fg5 F47))) ?_
   refine W_r rfl rfl (VR_ldA rfl (es3 rfl (fg3 F47)) (S43.obj 1 rfl hc43) Tryz.underlying27 rfl (by kernel_rfl)) ?_
   refine W_v rfl rfl (V_ixS (off := O34 + ((plN C N Z K Q slot target).toNat) * 1) 1 ((plN C N Z K Q slot target).toNat) rfl (es2 rfl (et rfl)) (es rfl (et rfl)) hv34 (by omega) k34 Tryz.underlying24 (by kernel_rfl) rfl) ?_
   have S50 := S43.sel [0, 3, 2, 1, 4, 5, 6] (by decide) (l' := [c_42, cb24, c24, c43, c9, cz_7, c4]) rfl
   replace S50 : St w NoX [c_42, cb24, c24, c43, c9, cz_7, c4] w43 := S50
   refine W_stS1 (j := (plN C N Z K Q slot target).toNat) S50 hc_42 hcb24 hc24 hv34 rfl rfl rfl (et rfl) (es rfl (et rfl)) (SlN_one (ow_at (S50.chq 0 rfl hc_42))) rfl (by omega) (by kernel_rfl) (fun w49 ca49 c49 hca49 hc49 S49 => ?_)
   have hsl49 : (U24.set ((plN C N Z K Q slot target).toNat) (v_42, (adT y34.2 slot))).length = U24.length := List.length_set ..
   replace S49 : St w NoX [ca49, c49, c43, c9, cz_7, c4] w49 := S49
   refine W_end (gen_Q fun A51 E51 => ?_)
   have Y51 := szq E51
   have F51 := fsE E51 (cq5 F47 rfl)
   clear E51 Y47 F47
   have S52 : St w NoX [ca49, c49, c9, cz_7, c4] w49 := S49.sel [0, 1, 3, 4, 5] (by decide) rfl
   refine tk H45 ?_
   refine wp_seq_k fun K53 H53 => ?_
   refine region_in ?_
   refine W_r rfl rfl (VR_ldA rfl (fg6 F51) (S52.obj 2 rfl hc9) Tryz.underlying29 rfl (by kernel_rfl)) ?_
   refine W_stAS 4 S52 rfl hc4 rfl rfl rfl (es rfl (fg10 F51)) (et rfl) (by simp only [List.all_toArray, List.all_cons, List.all_nil, SlN_one (ow_at (S52.chq 1 rfl hc49)), SlN_one (ow_at (S52.chq 3 rfl hcz_7))] <;> rfl) (by rfl) (by kernel_rfl) (fun w54 c54 hc54 S54 => ?_)
   replace S54 : St w NoX [ca49, c49, c9, cz_7, c54] w54 := S54
   refine W_end (gen_Q fun A55 E55 => ?_)
   have Y55 := szq E55
   have F55 := fsE E55 (cq1 F51 rfl)
   clear E55 Y51 F51
   have S56 : St w NoX [ca49, c49, cz_7, c54] w54 := S54.sel [0, 1, 3, 4] (by decide) rfl
   refine tk H53 ?_
   refine wp_ret ?_
   refine ret_in (results_1 Tryz.results43 (rv_cellA (fg10 F55) (S56.obj 3 rfl hc54) Tryz.underlying29 rfl (by kernel_rfl))) F55.d ?_
   have S58 := S56.sel [1, 0, 2, 3] (by decide) (l' := [c49, ca49, cz_7, c54]) rfl
   replace S58 : St w NoX [c49, ca49, cz_7, c54] w54 := S58
   obtain ⟨c57, hc57, S57⟩ := St.rmClose S58 hc49 hca49
   replace S57 : St w NoX [c57, cz_7, c54] w54 := S57
   exact ⟨_, _, rfl, (S57.fin2 0 rfl (hc57.trans (by rw [csF_set, hU24, cg_at (by omega) rfl (cs_mem hU24 hy34)]; simp [stF, c41])) 1 rfl (hcz_7.trans (congrArg (io .i64 _) (cgN_no (by omega)).symm)) (by decide))⟩
  refine region_in ?_
  refine W_r rfl rfl (VR_ldA rfl (fg2 F40) (S36.obj 0 rfl hc36) Tryz.underlying27 rfl (by kernel_rfl)) ?_
  refine W_v rfl rfl (V_mov rfl (es rfl (fg8 F40))) ?_
  refine W_call rfl rfl rfl Tryz.func68 (by kernel_rfl) rfl (args2 (es rfl (et rfl)) (et rfl)) (qDrop_c (a := slot) (owl_ro hy34 (S36.chC 2 rfl hcb24)) ) ?_
  rintro _ w59 ⟨v_59, rfl, hP59⟩
  refine ⟨_, rfl, ?_⟩
  obtain ⟨c_59, hc_59, hP59⟩ := gen1 hP59
  have S59 := S36.join hP59
  replace S59 : St w NoX [c_59, c36, c24, cb24, c9, cz_7, c4] w59 := S59
  refine W_v rfl rfl (V_mov rfl (et rfl)) ?_
  refine W_v rfl rfl (V_ext (v := .agg #[v_59]) rfl (et rfl) rfl) ?_
  refine W_v rfl rfl (V_ext (v := .bool ((hsB y34.2 slot))) rfl (es rfl (et rfl)) rfl) ?_
  refine W_v rfl rfl (V_ext (v := .int .i64 ((chE y34.2 slot))) rfl (es2 rfl (et rfl)) rfl) ?_
  refine W_stAS 1 S59 rfl hc36 rfl rfl rfl (es7 rfl (fg2 F40)) (es2 rfl (et rfl)) (by simp only [List.all_toArray, List.all_cons, List.all_nil, SlN_one (ow_at (S59.chq 0 rfl hc_59))] <;> rfl) (by rfl) (by kernel_rfl) (fun w60 c60 hc60 S60 => ?_)
  replace S60 : St w NoX [c_59, c60, c24, cb24, c9, cz_7, c4] w60 := S60
  refine W_end (gen_Q fun A61 E61 => ?_)
  have Y61 := szq E61
  have F61 := fsE E61 (cq7 F40 rfl)
  clear E61 Y40 F40
  refine tk H38 ?_
  refine wp_seq_k fun K62 H62 => ?_
  refine wp_seq_k fun K63 H63 => ?_
  refine region_in ?_
  refine W_v rfl rfl (V_mov rfl (fg4 F61)) ?_
  refine W_v rfl rfl (V_geq rfl (et rfl) rfl) ?_
  refine W_end (gen_Q fun A64 E64 => ?_)
  have Y64 := szq E64
  have F64 := fsE E64 (ck (cq1 F61 rfl) rfl rfl)
  clear E64 Y61 F61
  refine tk H63 ?_
  refine cond_sure (fg0 F64) (by first | exact decide_eq_true (by omega) | exact decide_eq_false (by omega)) ?_
  refine region_in ?_
  refine W_v rfl rfl (V_fa (off' := 0) rfl (fg6 F64) Tryz.underlying29 rfl (by decide +kernel) rfl) ?_
  refine W_r rfl rfl (VR_ldC rfl (et rfl) (cell_box (v := v_7) (S60.obj 4 rfl hc9) rfl) Tryz.underlying24 rfl) ?_
  refine W_v rfl rfl (V_mov rfl (es2 rfl (fg5 F64))) ?_
  refine W_r rfl rfl (VR_ldA rfl (es3 rfl (fg3 F64)) (S60.obj 1 rfl hc60) Tryz.underlying27 rfl (by kernel_rfl)) ?_
  refine W_v rfl rfl (V_ixS (off := O34 + ((plN C N Z K Q slot target).toNat) * 1) 1 ((plN C N Z K Q slot target).toNat) rfl (es2 rfl (et rfl)) (es rfl (et rfl)) hv34 (by omega) k34 Tryz.underlying24 (by kernel_rfl) rfl) ?_
  have S67 := S60.sel [0, 3, 2, 1, 4, 5, 6] (by decide) (l' := [c_59, cb24, c24, c60, c9, cz_7, c4]) rfl
  replace S67 : St w NoX [c_59, cb24, c24, c60, c9, cz_7, c4] w60 := S67
  refine W_stS1 (j := (plN C N Z K Q slot target).toNat) S67 hc_59 hcb24 hc24 hv34 rfl rfl rfl (et rfl) (es rfl (et rfl)) (SlN_one (ow_at (S67.chq 0 rfl hc_59))) rfl (by omega) (by kernel_rfl) (fun w66 ca66 c66 hca66 hc66 S66 => ?_)
  have hsl66 : (U24.set ((plN C N Z K Q slot target).toNat) (v_59, (drT y34.2 slot))).length = U24.length := List.length_set ..
  replace S66 : St w NoX [ca66, c66, c60, c9, cz_7, c4] w66 := S66
  refine W_end (gen_Q fun A68 E68 => ?_)
  have Y68 := szq E68
  have F68 := fsE E68 (cq5 F64 rfl)
  clear E68 Y64 F64
  have S69 : St w NoX [ca66, c66, c9, cz_7, c4] w66 := S66.sel [0, 1, 3, 4, 5] (by decide) rfl
  refine tk H62 ?_
  refine wp_seq_k fun K70 H70 => ?_
  refine region_in ?_
  refine W_r rfl rfl (VR_ldA rfl (fg6 F68) (S69.obj 2 rfl hc9) Tryz.underlying29 rfl (by kernel_rfl)) ?_
  refine W_stAS 4 S69 rfl hc4 rfl rfl rfl (es rfl (fg10 F68)) (et rfl) (by simp only [List.all_toArray, List.all_cons, List.all_nil, SlN_one (ow_at (S69.chq 1 rfl hc66)), SlN_one (ow_at (S69.chq 3 rfl hcz_7))] <;> rfl) (by rfl) (by kernel_rfl) (fun w71 c71 hc71 S71 => ?_)
  replace S71 : St w NoX [ca66, c66, c9, cz_7, c71] w71 := S71
  refine W_end (gen_Q fun A72 E72 => ?_)
  have Y72 := szq E72
  have F72 := fsE E72 (cq1 F68 rfl)
  clear E72 Y68 F68
  have S73 : St w NoX [ca66, c66, cz_7, c71] w71 := S71.sel [0, 1, 3, 4] (by decide) rfl
  refine tk H70 ?_
  refine wp_ret ?_
  refine ret_in (results_1 Tryz.results43 (rv_cellA (fg10 F72) (S73.obj 3 rfl hc71) Tryz.underlying29 rfl (by kernel_rfl))) F72.d ?_
  have S75 := S73.sel [1, 0, 2, 3] (by decide) (l' := [c66, ca66, cz_7, c71]) rfl
  replace S75 : St w NoX [c66, ca66, cz_7, c71] w71 := S75
  obtain ⟨c74, hc74, S74⟩ := St.rmClose S75 hc66 hca66
  replace S74 : St w NoX [c74, cz_7, c71] w71 := S74
  exact ⟨_, _, rfl, (S74.fin2 0 rfl (hc74.trans (by rw [csF_set, hU24, cg_at (by omega) rfl (cs_mem hU24 hy34)]; simp [stF, c41])) 1 rfl (hcz_7.trans (congrArg (io .i64 _) (cgN_no (by omega)).symm)) (by decide))⟩
 refine wp_skip ?_
 refine tk H30 ?_
 refine wp_seq_k fun K76 H76 => ?_
 refine wp_seq_k fun K77 H77 => ?_
 refine region_in ?_
 refine W_v rfl rfl (V_mov rfl (fg5 F32)) ?_
 refine W_end (gen_Q fun A78 E78 => ?_)
 have Y78 := szq E78
 have F78 := fsE E78 (ck F32 rfl rfl)
 clear E78 Y32 F32
 refine tk H77 ?_
 refine cond_b (fg0 F78) (fun c79 => ?_) (fun c79 => ?_)
 ·refine region_in ?_
  refine W_r rfl rfl (VR_ldA rfl (fg2 F78) (S28.obj 0 rfl hc28) Tryz.underlying27 rfl (by kernel_rfl)) ?_
  refine W_v rfl rfl (V_mov rfl (es rfl (fg8 F78))) ?_
  refine W_call rfl rfl rfl Tryz.func67 (by kernel_rfl) rfl (args2 (es rfl (et rfl)) (et rfl)) (qAdd_c (a := slot) (S28.chC 4 rfl hcz_7).own ) ?_
  rintro _ w80 ⟨v_80, rfl, hP80⟩
  refine ⟨_, rfl, ?_⟩
  obtain ⟨c_80, hc_80, hP80⟩ := gen1 hP80
  have S80 := S28.join hP80
  replace S80 : St w NoX [c_80, c28, c24, cb24, c9, cz_7, c4] w80 := S80
  refine W_v rfl rfl (V_mov rfl (et rfl)) ?_
  refine W_v rfl rfl (V_ext (v := .agg #[v_80]) rfl (et rfl) rfl) ?_
  refine W_v rfl rfl (V_ext (v := .bool ((adB ns slot))) rfl (es rfl (et rfl)) rfl) ?_
  refine W_v rfl rfl (V_ext (v := .int .i64 ((chE ns slot))) rfl (es2 rfl (et rfl)) rfl) ?_
  refine W_stAS 1 S80 rfl hc28 rfl rfl rfl (es7 rfl (fg2 F78)) (es2 rfl (et rfl)) (by simp only [List.all_toArray, List.all_cons, List.all_nil, SlN_one (ow_at (S80.chq 0 rfl hc_80))] <;> rfl) (by rfl) (by kernel_rfl) (fun w81 c81 hc81 S81 => ?_)
  replace S81 : St w NoX [c_80, c81, c24, cb24, c9, cz_7, c4] w81 := S81
  refine W_end (gen_Q fun A82 E82 => ?_)
  have Y82 := szq E82
  have F82 := fsE E82 (cq7 F78 rfl)
  clear E82 Y78 F78
  refine tk H76 ?_
  refine wp_seq_k fun K83 H83 => ?_
  refine wp_seq_k fun K84 H84 => ?_
  refine region_in ?_
  refine W_v rfl rfl (V_mov rfl (fg4 F82)) ?_
  refine W_v rfl rfl (V_geq rfl (et rfl) rfl) ?_
  refine W_end (gen_Q fun A85 E85 => ?_)
  have Y85 := szq E85
  have F85 := fsE E85 (ck (cq1 F82 rfl) rfl rfl)
  clear E85 Y82 F82
  refine tk H84 ?_
  refine cond_not (fg0 F85) (by first | exact decide_eq_true (by omega) | exact decide_eq_false (by omega)) ?_
  refine region_in ?_
  refine W_r rfl rfl (VR_ldA rfl (fg3 F85) (S81.obj 1 rfl hc81) Tryz.underlying27 rfl (by kernel_rfl)) ?_
  refine W_v rfl rfl (V_fa (off' := 1) rfl (es rfl (fg6 F85)) Tryz.underlying29 rfl (by decide +kernel) rfl) ?_
  refine W_stAM (ys := [v_80]) (zs' := #[v_7, v_80]) 4 S81 rfl hc9 rfl rfl rfl (et rfl) (es rfl (et rfl)) (by intro u hu; simp only [List.mem_cons, List.not_mem_nil, or_false] at hu; rcases hu with rfl <;> first | exact SlN_one (ow_at (S81.chq 0 rfl hc_80))) (by simp) (by kernel_rfl) rfl (fun w86 c86 hc86 S86 => ?_)
  replace S86 : St w NoX [c_80, c81, c24, cb24, c86, cz_7, c4] w86 := S86
  refine W_end (gen_Q fun A87 E87 => ?_)
  have Y87 := szq E87
  have F87 := fsE E87 (cq2 F85 rfl)
  clear E87 Y85 F85
  have S88 : St w NoX [c_80, c24, cb24, c86, c4] w86 := S86.sel [0, 2, 3, 4, 6] (by decide) rfl
  refine tk H83 ?_
  refine wp_seq_k fun K89 H89 => ?_
  refine region_in ?_
  refine W_r rfl rfl (VR_ldA rfl (fg6 F87) (S88.obj 3 rfl hc86) Tryz.underlying29 rfl (by kernel_rfl)) ?_
  refine W_stAS 4 S88 rfl hc4 rfl rfl rfl (es rfl (fg10 F87)) (et rfl) (by simp only [List.all_toArray, List.all_cons, List.all_nil, SlN_one (ow_at (S88.chq 1 rfl hc24)), SlN_one (ow_at (S88.chq 0 rfl hc_80))] <;> rfl) (by rfl) (by kernel_rfl) (fun w90 c90 hc90 S90 => ?_)
  replace S90 : St w NoX [c_80, c24, cb24, c86, c90] w90 := S90
  refine W_end (gen_Q fun A91 E91 => ?_)
  have Y91 := szq E91
  have F91 := fsE E91 (cq1 F87 rfl)
  clear E91 Y87 F87
  have S92 : St w NoX [c_80, c24, cb24, c90] w90 := S90.sel [0, 1, 2, 4] (by decide) rfl
  refine tk H89 ?_
  refine wp_ret ?_
  refine ret_in (results_1 Tryz.results43 (rv_cellA (fg10 F91) (S92.obj 3 rfl hc90) Tryz.underlying29 rfl (by kernel_rfl))) F91.d ?_
  have S94 := S92.sel [1, 2, 0, 3] (by decide) (l' := [c24, cb24, c_80, c90]) rfl
  replace S94 : St w NoX [c24, cb24, c_80, c90] w90 := S94
  obtain ⟨c93, hc93, S93⟩ := St.rmClose S94 hc24 hcb24
  replace S93 : St w NoX [c93, c_80, c90] w90 := S93
  exact ⟨_, _, rfl, (S93.fin2 0 rfl (hc93.trans (by rw [hU24, cg_neg (by omega)])) 1 rfl (hc_80.trans (congrArg (io .i64 _) (by rw [cgN_at (by omega)]; simp [stF, c79]))) (by decide))⟩
 refine region_in ?_
 refine W_r rfl rfl (VR_ldA rfl (fg2 F78) (S28.obj 0 rfl hc28) Tryz.underlying27 rfl (by kernel_rfl)) ?_
 refine W_v rfl rfl (V_mov rfl (es rfl (fg8 F78))) ?_
 refine W_call rfl rfl rfl Tryz.func68 (by kernel_rfl) rfl (args2 (es rfl (et rfl)) (et rfl)) (qDrop_c (a := slot) (S28.chC 4 rfl hcz_7).own ) ?_
 rintro _ w95 ⟨v_95, rfl, hP95⟩
 refine ⟨_, rfl, ?_⟩
 obtain ⟨c_95, hc_95, hP95⟩ := gen1 hP95
 have S95 := S28.join hP95
 replace S95 : St w NoX [c_95, c28, c24, cb24, c9, cz_7, c4] w95 := S95
 refine W_v rfl rfl (V_mov rfl (et rfl)) ?_
 refine W_v rfl rfl (V_ext (v := .agg #[v_95]) rfl (et rfl) rfl) ?_
 refine W_v rfl rfl (V_ext (v := .bool ((hsB ns slot))) rfl (es rfl (et rfl)) rfl) ?_
 refine W_v rfl rfl (V_ext (v := .int .i64 ((chE ns slot))) rfl (es2 rfl (et rfl)) rfl) ?_
 refine W_stAS 1 S95 rfl hc28 rfl rfl rfl (es7 rfl (fg2 F78)) (es2 rfl (et rfl)) (by simp only [List.all_toArray, List.all_cons, List.all_nil, SlN_one (ow_at (S95.chq 0 rfl hc_95))] <;> rfl) (by rfl) (by kernel_rfl) (fun w96 c96 hc96 S96 => ?_)
 replace S96 : St w NoX [c_95, c96, c24, cb24, c9, cz_7, c4] w96 := S96
 refine W_end (gen_Q fun A97 E97 => ?_)
 have Y97 := szq E97
 have F97 := fsE E97 (cq7 F78 rfl)
 clear E97 Y78 F78
 refine tk H76 ?_
 refine wp_seq_k fun K98 H98 => ?_
 refine wp_seq_k fun K99 H99 => ?_
 refine region_in ?_
 refine W_v rfl rfl (V_mov rfl (fg4 F97)) ?_
 refine W_v rfl rfl (V_geq rfl (et rfl) rfl) ?_
 refine W_end (gen_Q fun A100 E100 => ?_)
 have Y100 := szq E100
 have F100 := fsE E100 (ck (cq1 F97 rfl) rfl rfl)
 clear E100 Y97 F97
 refine tk H99 ?_
 refine cond_not (fg0 F100) (by first | exact decide_eq_true (by omega) | exact decide_eq_false (by omega)) ?_
 refine region_in ?_
 refine W_r rfl rfl (VR_ldA rfl (fg3 F100) (S96.obj 1 rfl hc96) Tryz.underlying27 rfl (by kernel_rfl)) ?_
 refine W_v rfl rfl (V_fa (off' := 1) rfl (es rfl (fg6 F100)) Tryz.underlying29 rfl (by decide +kernel) rfl) ?_
 refine W_stAM (ys := [v_95]) (zs' := #[v_7, v_95]) 4 S96 rfl hc9 rfl rfl rfl (et rfl) (es rfl (et rfl)) (by intro u hu; simp only [List.mem_cons, List.not_mem_nil, or_false] at hu; rcases hu with rfl <;> first | exact SlN_one (ow_at (S96.chq 0 rfl hc_95))) (by simp) (by kernel_rfl) rfl (fun w101 c101 hc101 S101 => ?_)
 replace S101 : St w NoX [c_95, c96, c24, cb24, c101, cz_7, c4] w101 := S101
 refine W_end (gen_Q fun A102 E102 => ?_)
 have Y102 := szq E102
 have F102 := fsE E102 (cq2 F100 rfl)
 clear E102 Y100 F100
 have S103 : St w NoX [c_95, c24, cb24, c101, c4] w101 := S101.sel [0, 2, 3, 4, 6] (by decide) rfl
 refine tk H98 ?_
 refine wp_seq_k fun K104 H104 => ?_
 refine region_in ?_
 refine W_r rfl rfl (VR_ldA rfl (fg6 F102) (S103.obj 3 rfl hc101) Tryz.underlying29 rfl (by kernel_rfl)) ?_
 refine W_stAS 4 S103 rfl hc4 rfl rfl rfl (es rfl (fg10 F102)) (et rfl) (by simp only [List.all_toArray, List.all_cons, List.all_nil, SlN_one (ow_at (S103.chq 1 rfl hc24)), SlN_one (ow_at (S103.chq 0 rfl hc_95))] <;> rfl) (by rfl) (by kernel_rfl) (fun w105 c105 hc105 S105 => ?_)
 replace S105 : St w NoX [c_95, c24, cb24, c101, c105] w105 := S105
 refine W_end (gen_Q fun A106 E106 => ?_)
 have Y106 := szq E106
 have F106 := fsE E106 (cq1 F102 rfl)
 clear E106 Y102 F102
 have S107 : St w NoX [c_95, c24, cb24, c105] w105 := S105.sel [0, 1, 2, 4] (by decide) rfl
 refine tk H104 ?_
 refine wp_ret ?_
 refine ret_in (results_1 Tryz.results43 (rv_cellA (fg10 F106) (S107.obj 3 rfl hc105) Tryz.underlying29 rfl (by kernel_rfl))) F106.d ?_
 have S109 := S107.sel [1, 2, 0, 3] (by decide) (l' := [c24, cb24, c_95, c105]) rfl
 replace S109 : St w NoX [c24, cb24, c_95, c105] w105 := S109
 obtain ⟨c108, hc108, S108⟩ := St.rmClose S109 hc24 hcb24
 replace S108 : St w NoX [c108, c_95, c105] w105 := S108
 exact ⟨_, _, rfl, (S108.fin2 0 rfl (hc108.trans (by rw [hU24, cg_neg (by omega)])) 1 rfl (hc_95.trans (congrArg (io .i64 _) (by rw [cgN_at (by omega)]; simp [stF, c79]))) (by decide))⟩

set_option maxHeartbeats 4000000 in
theorem qRec_c {C : Int} {N : Int} {Z : Int} {K : Int} {Q : Int} {cv : Value} {X : List (List Int)} {nv : Value} {ns : List Int} {slot : Int} {now : Int} {w : World} (h_cv : Ro w NoX (rmR cv X)) (h_nv : Ro w NoX (il .i64 nv ns))  :
  Calls Tryz.prog 13 #[.agg #[.int .i64 C, .int .i64 N, .int .i64 Z, .int .i64 K, .int .i64 Q], .agg #[cv, nv], .int .i64 slot, .int .i64 now] w fun e w' => ∃ v z, e = .returned (.tuple #[.agg #[v, z], .int .i64 (chE8 C N Z K Q X ns slot 0 now)]) ∧ St w NoX [rmO v (chC C N Z K Q X ns slot 0 now), io .i64 (z) (chN C N Z K Q X ns slot 0 now)] w' := by
 refine calls_in 25 Tryz.func13 rfl rfl (by simp) (fun A0 Y0 hdf0 hargs => ?_)
 have l0_0 := hargs 0 (.agg #[.int .i64 C, .int .i64 N, .int .i64 Z, .int .i64 K, .int .i64 Q]) rfl
 have l1_0 := hargs 1 (.agg #[cv, nv]) rfl
 have l2_0 := hargs 2 (.int .i64 slot) rfl
 have l3_0 := hargs 3 (.int .i64 now) rfl
 clear hargs; replace Y0 : SzN A0 25 := ⟨Y0⟩
 have hS := St.nil w
 have bh_nv := SlN.le (sl_SlN h_nv.at)
 refine wp_seq_k fun K1 H1 => ?_
 refine region_in ?_
 refine W_boxS (zs := #[.int .i64 (C), .int .i64 (N), .int .i64 (Z), .int .i64 (K), .int .i64 (Q)]) hS rfl rfl rfl l0_0 (by rfl) (fun g2 w2 c2 hc2 S2 => ?_)
 replace S2 : St w NoX [c2] w2 := S2
 refine W_boxS (zs := #[cv, nv]) S2 rfl rfl rfl (es rfl l1_0) (by rfl) (fun g3 w3 c3 hc3 S3 => ?_)
 replace S3 : St w NoX [c3, c2] w3 := S3
 refine W_allocS (z := .agg #[.slice none 0 0, .slice none 0 0]) (zs := #[.slice none 0 0, .slice none 0 0]) S3 rfl rfl rfl (by kernel_rfl) (by rfl) (fun g4 w4 c4 hc4 S4 => ?_)
 replace S4 : St w NoX [c4, c3, c2] w4 := S4
 refine W_v rfl rfl (V_asg rfl rfl) ?_
 refine W_end (gen_Q fun A5 E5 => ?_)
 have Y5 := szq E5
 have F5 := ((fsE E5 (cq1 (ck (ck (ck (FS.n hdf0) rfl rfl) rfl rfl) rfl rfl) rfl)).c (lookE E5 2 (es4 rfl l2_0))).c (lookE E5 3 (es4 rfl l3_0))
 clear E5 Y0 hdf0 l0_0 l1_0 l2_0 l3_0
 refine tk H1 ?_
 refine wp_seq_k fun K6 H6 => ?_
 refine region_in ?_
 refine W_r rfl rfl (VR_ldA rfl (fg4 F5) (S4.obj 2 rfl hc2) Tryz.underlying23 rfl (by kernel_rfl)) ?_
 refine W_r rfl rfl (VR_ldA rfl (es rfl (fg3 F5)) (S4.obj 1 rfl hc3) Tryz.underlying29 rfl (by kernel_rfl)) ?_
 refine W_v rfl rfl (V_mov rfl (es2 rfl (fg1 F5))) ?_
 refine W_v rfl rfl (V_mov rfl (es3 rfl (fg0 F5))) ?_
 refine W_call rfl rfl rfl Tryz.func42 (by kernel_rfl) rfl (args4 (es3 rfl (et rfl)) (es2 rfl (et rfl)) (es rfl (et rfl)) (et rfl)) (qask8_c (C := C) (N := N) (Z := Z) (K := K) (Q := Q) (slot := slot) (target := now) (S4.roC h_cv) (S4.roC h_nv) ) ?_
 rintro _ w7 ⟨rfl, hP7⟩
 refine ⟨_, rfl, ?_⟩
 have S7 := S4.join hP7
 replace S7 : St w NoX [c4, c3, c2] w7 := S7
 refine W_v rfl rfl (V_asg rfl (et rfl)) ?_
 refine W_end (gen_Q fun A8 E8 => ?_)
 have Y8 := szq E8
 have F8 := fsE E8 (ck (cq5 F5 rfl) rfl rfl)
 clear E8 Y5 F5
 refine tk H6 ?_
 refine wp_seq_k fun K9 H9 => ?_
 refine wp_seq_k fun K10 H10 => ?_
 refine region_in ?_
 refine W_v rfl rfl (V_mov rfl (fg0 F8)) ?_
 refine W_v rfl rfl (V_neq rfl (et rfl) rfl) ?_
 refine W_end (gen_Q fun A11 E11 => ?_)
 have Y11 := szq E11
 have F11 := fsE E11 (ck (cq1 F8 rfl) rfl rfl)
 clear E11 Y8 F8
 refine tk H10 ?_
 refine cond_dec (fg0 F11) (fun c12 => ?_) (fun c12 => ?_)
 ·refine wp_seq_k fun K13 H13 => ?_
  refine region_in ?_
  refine W_v rfl rfl (V_bldS (n := 2) (z := .agg #[.slice none 0 0, .slice none 0 0]) rfl (parts0) (by kernel_rfl) (by simp only [List.all_cons, List.all_nil, Bool.and_true] <;> rfl) (by kernel_rfl) (by simp only [List.foldl_cons, List.foldl_nil, Value.cells, List.setIfInBounds_toArray, List.set_cons_succ, List.set_cons_zero] <;> rfl)) ?_
  refine W_v rfl rfl (V_mov rfl (es rfl (fg1 F11))) ?_
  refine W_stAS 0 S7 rfl hc4 rfl rfl rfl (es2 rfl (fg4 F11)) (es rfl (et rfl)) (by first | (rw [List.all_toArray] <;> rfl) | (simp only [List.all_toArray, List.all_cons, List.all_nil] <;> rfl)) (by rfl) (by kernel_rfl) (fun w14 c14 hc14 S14 => ?_)
  replace S14 : St w NoX [c14, c3, c2] w14 := S14
  refine W_v rfl rfl (V_asg rfl (et rfl)) ?_
  refine W_end (gen_Q fun A15 E15 => ?_)
  have Y15 := szq E15
  have F15 := fsE E15 (ck (cq2 F11 rfl) rfl rfl)
  clear E15 Y11 F11
  have S16 : St w NoX [c14] w14 := S14.sel [0] (by decide) rfl
  refine tk H13 ?_
  refine wp_ret ?_
  refine then_ret ?_
  refine ret_in (results_2 Tryz.results13 (rv_cellA (fg5 F15) (S16.obj 0 rfl hc14) Tryz.underlying29 rfl (by kernel_rfl)) (rv_tmp (fg0 F15))) F15.d ?_
  obtain ⟨c17, hc17, S17⟩ := S16.rmNil
  obtain ⟨c18, hc18, S18⟩ := S17.pnil (s := 1)
  have he : chE8 C N Z K Q X ns slot 0 now = (asE C N Z K Q X ns slot now) := as_rec.trans (by omega)
  have hb := ch_bad (show chE8 C N Z K Q X ns slot 0 now ≠ 0 by omega)
  rw [he]
  exact ⟨_, _, rfl, (S18.fin2 1 rfl (hc17.trans (by rw [hb.1])) 0 rfl (hc18.trans (by rw [show chN C N Z K Q X ns slot 0 now = [] by exact hb.2] <;> rfl)) (by decide))⟩
 have has : asE C N Z K Q X ns slot now = 0 := by omega
 obtain ⟨hk0, hpe⟩ := as_0 has
 have hNN := (rm_0 hk0).2.1
 refine wp_skip ?_
 refine tk H9 ?_
 refine wp_seq_k fun K19 H19 => ?_
 refine region_in ?_
 refine W_r rfl rfl (VR_ldA rfl (fg6 F11) (S7.obj 2 rfl hc2) Tryz.underlying23 rfl (by kernel_rfl)) ?_
 refine W_r rfl rfl (VR_ldA rfl (es rfl (fg5 F11)) (S7.obj 1 rfl hc3) Tryz.underlying29 rfl (by kernel_rfl)) ?_
 refine W_v rfl rfl (V_mov rfl (es2 rfl (fg3 F11))) ?_
 refine W_v rfl rfl (V_mov rfl (es3 rfl (fg2 F11))) ?_
 refine W_call rfl rfl rfl Tryz.func43 (by kernel_rfl) rfl (args5 (es3 rfl (et rfl)) (es2 rfl (et rfl)) (es rfl (et rfl)) (et rfl) rfl) (qchg_c (C := C) (N := N) (Z := Z) (K := K) (Q := Q) (slot := slot) (target := now) (add := true) (S7.roC h_cv) (S7.roC h_nv) (by first | with_reducible assumption | omega) (by first | with_reducible assumption | exact gl_of hk0 | exact gl_cg hk0 (pl_slot hpe)) (by first | omega | (rw [cgC_len]; omega))) ?_
 rintro _ w20 ⟨v_20, z_20, rfl, hP20⟩
 refine ⟨_, rfl, ?_⟩
 obtain ⟨c_20, cz_20, hc_20, hcz_20, hP20⟩ := gen2 hP20
 have S20 := S7.join hP20
 replace S20 : St w NoX [c_20, cz_20, c4, c3, c2] w20 := S20
 refine W_stAS 2 S20 rfl hc4 rfl rfl rfl (es5 rfl (fg4 F11)) (et rfl) (by simp only [List.all_toArray, List.all_cons, List.all_nil, rmO_one (S20.chq 0 rfl hc_20), SlN_one (ow_at (S20.chq 1 rfl hcz_20))] <;> rfl) (by rfl) (by kernel_rfl) (fun w21 c21 hc21 S21 => ?_)
 replace S21 : St w NoX [c_20, cz_20, c21, c3, c2] w21 := S21
 refine W_v rfl rfl (V_asg rfl rfl) ?_
 refine W_end (gen_Q fun A22 E22 => ?_)
 have Y22 := szq E22
 have F22 := fsE E22 (ck (cq5 F11 rfl) rfl rfl)
 clear E22 Y11 F11
 have S23 : St w NoX [c_20, cz_20, c21] w21 := S21.sel [0, 1, 2] (by decide) rfl
 refine tk H19 ?_
 refine wp_ret ?_
 refine ret_in (results_2 Tryz.results13 (rv_cellA (fg5 F22) (S23.obj 2 rfl hc21) Tryz.underlying29 rfl (by kernel_rfl)) (rv_tmp (fg0 F22))) F22.d ?_
 have hb := ok_rec (show asE C N Z K Q X ns slot now = 0 by omega)
 rw [hb.1]
 exact ⟨_, _, rfl, (S23.fin2 0 rfl (hc_20.trans (congrArg (rmO _) hb.2.1.symm)) 1 rfl (hcz_20.trans (congrArg (io .i64 _) hb.2.2.symm)) (by decide))⟩

set_option maxHeartbeats 4000000 in
theorem qFor_c {C : Int} {N : Int} {Z : Int} {K : Int} {Q : Int} {cv : Value} {X : List (List Int)} {nv : Value} {ns : List Int} {slot : Int} {old : Int} {w : World} (h_cv : Ro w NoX (rmR cv X)) (h_nv : Ro w NoX (il .i64 nv ns))  :
  Calls Tryz.prog 15 #[.agg #[.int .i64 C, .int .i64 N, .int .i64 Z, .int .i64 K, .int .i64 Q], .agg #[cv, nv], .int .i64 slot, .int .i64 old] w fun e w' => ∃ v z, e = .returned (.tuple #[.agg #[v, z], .int .i64 (chE8 C N Z K Q X ns slot old 0)]) ∧ St w NoX [rmO v (chC C N Z K Q X ns slot old 0), io .i64 (z) (chN C N Z K Q X ns slot old 0)] w' := by
 refine calls_in 25 Tryz.func15 rfl rfl (by simp) (fun A0 Y0 hdf0 hargs => ?_)
 have l0_0 := hargs 0 (.agg #[.int .i64 C, .int .i64 N, .int .i64 Z, .int .i64 K, .int .i64 Q]) rfl
 have l1_0 := hargs 1 (.agg #[cv, nv]) rfl
 have l2_0 := hargs 2 (.int .i64 slot) rfl
 have l3_0 := hargs 3 (.int .i64 old) rfl
 clear hargs; replace Y0 : SzN A0 25 := ⟨Y0⟩
 have hS := St.nil w
 have bh_nv := SlN.le (sl_SlN h_nv.at)
 refine wp_seq_k fun K1 H1 => ?_
 refine region_in ?_
 refine W_boxS (zs := #[.int .i64 (C), .int .i64 (N), .int .i64 (Z), .int .i64 (K), .int .i64 (Q)]) hS rfl rfl rfl l0_0 (by rfl) (fun g2 w2 c2 hc2 S2 => ?_)
 replace S2 : St w NoX [c2] w2 := S2
 refine W_boxS (zs := #[cv, nv]) S2 rfl rfl rfl (es rfl l1_0) (by rfl) (fun g3 w3 c3 hc3 S3 => ?_)
 replace S3 : St w NoX [c3, c2] w3 := S3
 refine W_allocS (z := .agg #[.slice none 0 0, .slice none 0 0]) (zs := #[.slice none 0 0, .slice none 0 0]) S3 rfl rfl rfl (by kernel_rfl) (by rfl) (fun g4 w4 c4 hc4 S4 => ?_)
 replace S4 : St w NoX [c4, c3, c2] w4 := S4
 refine W_v rfl rfl (V_asg rfl rfl) ?_
 refine W_end (gen_Q fun A5 E5 => ?_)
 have Y5 := szq E5
 have F5 := ((fsE E5 (cq1 (ck (ck (ck (FS.n hdf0) rfl rfl) rfl rfl) rfl rfl) rfl)).c (lookE E5 2 (es4 rfl l2_0))).c (lookE E5 3 (es4 rfl l3_0))
 clear E5 Y0 hdf0 l0_0 l1_0 l2_0 l3_0
 refine tk H1 ?_
 refine wp_seq_k fun K6 H6 => ?_
 refine region_in ?_
 refine W_r rfl rfl (VR_ldA rfl (fg4 F5) (S4.obj 2 rfl hc2) Tryz.underlying23 rfl (by kernel_rfl)) ?_
 refine W_r rfl rfl (VR_ldA rfl (es rfl (fg3 F5)) (S4.obj 1 rfl hc3) Tryz.underlying29 rfl (by kernel_rfl)) ?_
 refine W_v rfl rfl (V_mov rfl (es2 rfl (fg1 F5))) ?_
 refine W_v rfl rfl (V_mov rfl (es3 rfl (fg0 F5))) ?_
 refine W_call rfl rfl rfl Tryz.func42 (by kernel_rfl) rfl (args4 (es3 rfl (et rfl)) (es2 rfl (et rfl)) (es rfl (et rfl)) (et rfl)) (qask8_c (C := C) (N := N) (Z := Z) (K := K) (Q := Q) (slot := slot) (target := old) (S4.roC h_cv) (S4.roC h_nv) ) ?_
 rintro _ w7 ⟨rfl, hP7⟩
 refine ⟨_, rfl, ?_⟩
 have S7 := S4.join hP7
 replace S7 : St w NoX [c4, c3, c2] w7 := S7
 refine W_v rfl rfl (V_asg rfl (et rfl)) ?_
 refine W_end (gen_Q fun A8 E8 => ?_)
 have Y8 := szq E8
 have F8 := fsE E8 (ck (cq5 F5 rfl) rfl rfl)
 clear E8 Y5 F5
 refine tk H6 ?_
 refine wp_seq_k fun K9 H9 => ?_
 refine wp_seq_k fun K10 H10 => ?_
 refine region_in ?_
 refine W_v rfl rfl (V_mov rfl (fg0 F8)) ?_
 refine W_v rfl rfl (V_neq rfl (et rfl) rfl) ?_
 refine W_end (gen_Q fun A11 E11 => ?_)
 have Y11 := szq E11
 have F11 := fsE E11 (ck (cq1 F8 rfl) rfl rfl)
 clear E11 Y8 F8
 refine tk H10 ?_
 refine cond_dec (fg0 F11) (fun c12 => ?_) (fun c12 => ?_)
 ·refine wp_seq_k fun K13 H13 => ?_
  refine region_in ?_
  refine W_v rfl rfl (V_bldS (n := 2) (z := .agg #[.slice none 0 0, .slice none 0 0]) rfl (parts0) (by kernel_rfl) (by simp only [List.all_cons, List.all_nil, Bool.and_true] <;> rfl) (by kernel_rfl) (by simp only [List.foldl_cons, List.foldl_nil, Value.cells, List.setIfInBounds_toArray, List.set_cons_succ, List.set_cons_zero] <;> rfl)) ?_
  refine W_v rfl rfl (V_mov rfl (es rfl (fg1 F11))) ?_
  refine W_stAS 0 S7 rfl hc4 rfl rfl rfl (es2 rfl (fg4 F11)) (es rfl (et rfl)) (by first | (rw [List.all_toArray] <;> rfl) | (simp only [List.all_toArray, List.all_cons, List.all_nil] <;> rfl)) (by rfl) (by kernel_rfl) (fun w14 c14 hc14 S14 => ?_)
  replace S14 : St w NoX [c14, c3, c2] w14 := S14
  refine W_v rfl rfl (V_asg rfl (et rfl)) ?_
  refine W_end (gen_Q fun A15 E15 => ?_)
  have Y15 := szq E15
  have F15 := fsE E15 (ck (cq2 F11 rfl) rfl rfl)
  clear E15 Y11 F11
  have S16 : St w NoX [c14] w14 := S14.sel [0] (by decide) rfl
  refine tk H13 ?_
  refine wp_ret ?_
  refine then_ret ?_
  refine ret_in (results_2 Tryz.results15 (rv_cellA (fg5 F15) (S16.obj 0 rfl hc14) Tryz.underlying29 rfl (by kernel_rfl)) (rv_tmp (fg0 F15))) F15.d ?_
  obtain ⟨c17, hc17, S17⟩ := S16.rmNil
  obtain ⟨c18, hc18, S18⟩ := S17.pnil (s := 1)
  have he : chE8 C N Z K Q X ns slot old 0 = (asE C N Z K Q X ns slot old) := as_for.trans (by omega)
  have hb := ch_bad (show chE8 C N Z K Q X ns slot old 0 ≠ 0 by omega)
  rw [he]
  exact ⟨_, _, rfl, (S18.fin2 1 rfl (hc17.trans (by rw [hb.1])) 0 rfl (hc18.trans (by rw [show chN C N Z K Q X ns slot old 0 = [] by exact hb.2] <;> rfl)) (by decide))⟩
 have has : asE C N Z K Q X ns slot old = 0 := by omega
 obtain ⟨hk0, hpe⟩ := as_0 has
 have hNN := (rm_0 hk0).2.1
 refine wp_skip ?_
 refine tk H9 ?_
 refine wp_seq_k fun K19 H19 => ?_
 refine region_in ?_
 refine W_r rfl rfl (VR_ldA rfl (fg6 F11) (S7.obj 2 rfl hc2) Tryz.underlying23 rfl (by kernel_rfl)) ?_
 refine W_r rfl rfl (VR_ldA rfl (es rfl (fg5 F11)) (S7.obj 1 rfl hc3) Tryz.underlying29 rfl (by kernel_rfl)) ?_
 refine W_v rfl rfl (V_mov rfl (es2 rfl (fg3 F11))) ?_
 refine W_v rfl rfl (V_mov rfl (es3 rfl (fg2 F11))) ?_
 refine W_call rfl rfl rfl Tryz.func43 (by kernel_rfl) rfl (args5 (es3 rfl (et rfl)) (es2 rfl (et rfl)) (es rfl (et rfl)) (et rfl) rfl) (qchg_c (C := C) (N := N) (Z := Z) (K := K) (Q := Q) (slot := slot) (target := old) (add := false) (S7.roC h_cv) (S7.roC h_nv) (by first | with_reducible assumption | omega) (by first | with_reducible assumption | exact gl_of hk0 | exact gl_cg hk0 (pl_slot hpe)) (by first | omega | (rw [cgC_len]; omega))) ?_
 rintro _ w20 ⟨v_20, z_20, rfl, hP20⟩
 refine ⟨_, rfl, ?_⟩
 obtain ⟨c_20, cz_20, hc_20, hcz_20, hP20⟩ := gen2 hP20
 have S20 := S7.join hP20
 replace S20 : St w NoX [c_20, cz_20, c4, c3, c2] w20 := S20
 refine W_stAS 2 S20 rfl hc4 rfl rfl rfl (es5 rfl (fg4 F11)) (et rfl) (by simp only [List.all_toArray, List.all_cons, List.all_nil, rmO_one (S20.chq 0 rfl hc_20), SlN_one (ow_at (S20.chq 1 rfl hcz_20))] <;> rfl) (by rfl) (by kernel_rfl) (fun w21 c21 hc21 S21 => ?_)
 replace S21 : St w NoX [c_20, cz_20, c21, c3, c2] w21 := S21
 refine W_v rfl rfl (V_asg rfl rfl) ?_
 refine W_end (gen_Q fun A22 E22 => ?_)
 have Y22 := szq E22
 have F22 := fsE E22 (ck (cq5 F11 rfl) rfl rfl)
 clear E22 Y11 F11
 have S23 : St w NoX [c_20, cz_20, c21] w21 := S21.sel [0, 1, 2] (by decide) rfl
 refine tk H19 ?_
 refine wp_ret ?_
 refine ret_in (results_2 Tryz.results15 (rv_cellA (fg5 F22) (S23.obj 2 rfl hc21) Tryz.underlying29 rfl (by kernel_rfl)) (rv_tmp (fg0 F22))) F22.d ?_
 have hb := ok_for (show asE C N Z K Q X ns slot old = 0 by omega)
 rw [hb.1]
 exact ⟨_, _, rfl, (S23.fin2 0 rfl (hc_20.trans (congrArg (rmO _) hb.2.1.symm)) 1 rfl (hcz_20.trans (congrArg (io .i64 _) hb.2.2.symm)) (by decide))⟩

set_option maxHeartbeats 4000000 in
theorem qSto_c {C : Int} {N : Int} {Z : Int} {K : Int} {Q : Int} {cv : Value} {X : List (List Int)} {nv : Value} {ns : List Int} {slot : Int} {old : Int} {now : Int} {w : World} (h_cv : Ro w NoX (rmR cv X)) (h_nv : Ro w NoX (il .i64 nv ns))  :
  Calls Tryz.prog 17 #[.agg #[.int .i64 C, .int .i64 N, .int .i64 Z, .int .i64 K, .int .i64 Q], .agg #[cv, nv], .int .i64 slot, .int .i64 old, .int .i64 now] w fun e w' => ∃ v z, e = .returned (.tuple #[.agg #[v, z], .int .i64 (chE8 C N Z K Q X ns slot old now)]) ∧ St w NoX [rmO v (chC C N Z K Q X ns slot old now), io .i64 (z) (chN C N Z K Q X ns slot old now)] w' := by
 refine calls_in 43 Tryz.func17 rfl rfl (by simp) (fun A0 Y0 hdf0 hargs => ?_)
 have l0_0 := hargs 0 (.agg #[.int .i64 C, .int .i64 N, .int .i64 Z, .int .i64 K, .int .i64 Q]) rfl
 have l1_0 := hargs 1 (.agg #[cv, nv]) rfl
 have l2_0 := hargs 2 (.int .i64 slot) rfl
 have l3_0 := hargs 3 (.int .i64 old) rfl
 have l4_0 := hargs 4 (.int .i64 now) rfl
 clear hargs; replace Y0 : SzN A0 43 := ⟨Y0⟩
 have hS := St.nil w
 have bh_nv := SlN.le (sl_SlN h_nv.at)
 refine wp_seq_k fun K1 H1 => ?_
 refine region_in ?_
 refine W_boxS (zs := #[.int .i64 (C), .int .i64 (N), .int .i64 (Z), .int .i64 (K), .int .i64 (Q)]) hS rfl rfl rfl l0_0 (by rfl) (fun g2 w2 c2 hc2 S2 => ?_)
 replace S2 : St w NoX [c2] w2 := S2
 refine W_boxS (zs := #[cv, nv]) S2 rfl rfl rfl (es rfl l1_0) (by rfl) (fun g3 w3 c3 hc3 S3 => ?_)
 replace S3 : St w NoX [c3, c2] w3 := S3
 refine W_allocS (z := .agg #[.slice none 0 0, .slice none 0 0]) (zs := #[.slice none 0 0, .slice none 0 0]) S3 rfl rfl rfl (by kernel_rfl) (by rfl) (fun g4 w4 c4 hc4 S4 => ?_)
 replace S4 : St w NoX [c4, c3, c2] w4 := S4
 refine W_v rfl rfl (V_asg rfl rfl) ?_
 refine W_end (gen_Q fun A5 E5 => ?_)
 have Y5 := szq E5
 have F5 := (((fsE E5 (cq1 (ck (ck (ck (FS.n hdf0) rfl rfl) rfl rfl) rfl rfl) rfl)).c (lookE E5 2 (es4 rfl l2_0))).c (lookE E5 3 (es4 rfl l3_0))).c (lookE E5 4 (es4 rfl l4_0))
 clear E5 Y0 hdf0 l0_0 l1_0 l2_0 l3_0 l4_0
 refine tk H1 ?_
 refine wp_seq_k fun K6 H6 => ?_
 refine region_in ?_
 refine W_r rfl rfl (VR_ldA rfl (fg5 F5) (S4.obj 2 rfl hc2) Tryz.underlying23 rfl (by kernel_rfl)) ?_
 refine W_r rfl rfl (VR_ldA rfl (es rfl (fg4 F5)) (S4.obj 1 rfl hc3) Tryz.underlying29 rfl (by kernel_rfl)) ?_
 refine W_v rfl rfl (V_mov rfl (es2 rfl (fg2 F5))) ?_
 refine W_v rfl rfl (V_mov rfl (es3 rfl (fg1 F5))) ?_
 refine W_call rfl rfl rfl Tryz.func42 (by kernel_rfl) rfl (args4 (es3 rfl (et rfl)) (es2 rfl (et rfl)) (es rfl (et rfl)) (et rfl)) (qask8_c (C := C) (N := N) (Z := Z) (K := K) (Q := Q) (slot := slot) (target := old) (S4.roC h_cv) (S4.roC h_nv) ) ?_
 rintro _ w7 ⟨rfl, hP7⟩
 refine ⟨_, rfl, ?_⟩
 have S7 := S4.join hP7
 replace S7 : St w NoX [c4, c3, c2] w7 := S7
 refine W_v rfl rfl (V_asg rfl (et rfl)) ?_
 refine W_end (gen_Q fun A8 E8 => ?_)
 have Y8 := szq E8
 have F8 := fsE E8 (ck (cq5 F5 rfl) rfl rfl)
 clear E8 Y5 F5
 refine tk H6 ?_
 refine wp_seq_k fun K9 H9 => ?_
 refine wp_seq_k fun K10 H10 => ?_
 refine region_in ?_
 refine W_v rfl rfl (V_mov rfl (fg0 F8)) ?_
 refine W_v rfl rfl (V_eql rfl (et rfl) rfl) ?_
 refine W_end (gen_Q fun A11 E11 => ?_)
 have Y11 := szq E11
 have F11 := fsE E11 (ck (cq1 F8 rfl) rfl rfl)
 clear E11 Y8 F8
 refine tk H10 ?_
 refine cond_dec (fg0 F11) (fun c12 => ?_) (fun c12 => ?_)
 ·refine region_in ?_
  refine W_r rfl rfl (VR_ldA rfl (fg7 F11) (S7.obj 2 rfl hc2) Tryz.underlying23 rfl (by kernel_rfl)) ?_
  refine W_r rfl rfl (VR_ldA rfl (es rfl (fg6 F11)) (S7.obj 1 rfl hc3) Tryz.underlying29 rfl (by kernel_rfl)) ?_
  refine W_v rfl rfl (V_mov rfl (es2 rfl (fg4 F11))) ?_
  refine W_v rfl rfl (V_mov rfl (es3 rfl (fg2 F11))) ?_
  refine W_call rfl rfl rfl Tryz.func42 (by kernel_rfl) rfl (args4 (es3 rfl (et rfl)) (es2 rfl (et rfl)) (es rfl (et rfl)) (et rfl)) (qask8_c (C := C) (N := N) (Z := Z) (K := K) (Q := Q) (slot := slot) (target := now) (S7.roC h_cv) (S7.roC h_nv) ) ?_
  rintro _ w13 ⟨rfl, hP13⟩
  refine ⟨_, rfl, ?_⟩
  have S13 := S7.join hP13
  replace S13 : St w NoX [c4, c3, c2] w13 := S13
  refine W_v rfl rfl (V_asg rfl (et rfl)) ?_
  refine W_end (gen_Q fun A14 E14 => ?_)
  have Y14 := szq E14
  have F14 := fsE E14 (ck (cq5 (fx1 F11) rfl) rfl rfl)
  clear E14 Y11 F11
  refine tk H9 ?_
  refine wp_seq_k fun K15 H15 => ?_
  refine wp_seq_k fun K16 H16 => ?_
  refine region_in ?_
  refine W_v rfl rfl (V_mov rfl (fg0 F14)) ?_
  refine W_v rfl rfl (V_neq rfl (et rfl) rfl) ?_
  refine W_end (gen_Q fun A17 E17 => ?_)
  have Y17 := szq E17
  have F17 := fsE E17 (ck (cq1 F14 rfl) rfl rfl)
  clear E17 Y14 F14
  refine tk H16 ?_
  refine cond_dec (fg0 F17) (fun c18 => ?_) (fun c18 => ?_)
  ·refine wp_seq_k fun K19 H19 => ?_
   refine region_in ?_
   refine W_v rfl rfl (V_bldS (n := 2) (z := .agg #[.slice none 0 0, .slice none 0 0]) rfl (parts0) (by kernel_rfl) (by simp only [List.all_cons, List.all_nil, Bool.and_true] <;> rfl) (by kernel_rfl) (by simp only [List.foldl_cons, List.foldl_nil, Value.cells, List.setIfInBounds_toArray, List.set_cons_succ, List.set_cons_zero] <;> rfl)) ?_
   refine W_v rfl rfl (V_mov rfl (es rfl (fg1 F17))) ?_
   refine W_stAS 0 S13 rfl hc4 rfl rfl rfl (es2 rfl (fg6 F17)) (es rfl (et rfl)) (by first | (rw [List.all_toArray] <;> rfl) | (simp only [List.all_toArray, List.all_cons, List.all_nil] <;> rfl)) (by rfl) (by kernel_rfl) (fun w20 c20 hc20 S20 => ?_)
   replace S20 : St w NoX [c20, c3, c2] w20 := S20
   refine W_v rfl rfl (V_asg rfl (et rfl)) ?_
   refine W_end (gen_Q fun A21 E21 => ?_)
   have Y21 := szq E21
   have F21 := fsE E21 (ck (cq2 F17 rfl) rfl rfl)
   clear E21 Y17 F17
   have S22 : St w NoX [c20] w20 := S20.sel [0] (by decide) rfl
   refine tk H19 ?_
   refine wp_ret ?_
   refine then_ret ?_
   refine ret_in (results_2 Tryz.results17 (rv_cellA (fg7 F21) (S22.obj 0 rfl hc20) Tryz.underlying29 rfl (by kernel_rfl)) (rv_tmp (fg0 F21))) F21.d ?_
   obtain ⟨c23, hc23, S23⟩ := S22.rmNil
   obtain ⟨c24, hc24, S24⟩ := S23.pnil (s := 1)
   have he : chE8 C N Z K Q X ns slot old now = (asE C N Z K Q X ns slot now) := (as_st2 (by omega)).trans (by omega)
   have hb := ch_bad (show chE8 C N Z K Q X ns slot old now ≠ 0 by omega)
   rw [he]
   exact ⟨_, _, rfl, (S24.fin2 1 rfl (hc23.trans (by rw [hb.1])) 0 rfl (hc24.trans (by rw [show chN C N Z K Q X ns slot old now = [] by exact hb.2] <;> rfl)) (by decide))⟩
  have has : asE C N Z K Q X ns slot now = 0 := by omega
  obtain ⟨hk0, hpe2⟩ := as_0 has
  have hNN := (rm_0 hk0).2.1
  have hpe := (as_0 (show asE C N Z K Q X ns slot old = 0 by omega)).2
  have hgl0 := gl_of hk0
  refine wp_skip ?_
  refine tk H15 ?_
  refine wp_seq_k fun K25 H25 => ?_
  refine wp_seq_k fun K26 H26 => ?_
  refine region_in ?_
  refine W_v rfl rfl (V_mov rfl (fg4 F17)) ?_
  refine W_v rfl rfl (V_mov rfl (es rfl (fg3 F17))) ?_
  refine W_v rfl rfl (V_eql rfl (es rfl (et rfl)) (et rfl)) ?_
  refine W_end (gen_Q fun A27 E27 => ?_)
  have Y27 := szq E27
  have F27 := fsE E27 (ck (cq2 F17 rfl) rfl rfl)
  clear E27 Y17 F17
  refine tk H26 ?_
  refine cond_dec (fg0 F27) (fun c28 => ?_) (fun c28 => ?_)
  ·refine wp_seq_k fun K29 H29 => ?_
   refine region_in ?_
   refine W_r rfl rfl (VR_ldA rfl (fg8 F27) (S13.obj 1 rfl hc3) Tryz.underlying29 rfl (by kernel_rfl)) ?_
   refine W_call rfl rfl rfl Tryz.func44 (by kernel_rfl) rfl (args1 (et rfl)) (qcp8_c (S13.roC h_cv) (S13.roC h_nv) (by first | with_reducible assumption | exact gl_of (by omega))) ?_
   rintro _ w30 ⟨v_30, z_30, rfl, hP30⟩
   refine ⟨_, rfl, ?_⟩
   obtain ⟨c_30, cz_30, hc_30, hcz_30, hP30⟩ := gen2 hP30
   have S30 := S13.join hP30
   replace S30 : St w NoX [c_30, cz_30, c4, c3, c2] w30 := S30
   refine W_stAS 2 S30 rfl hc4 rfl rfl rfl (es2 rfl (fg7 F27)) (et rfl) (by simp only [List.all_toArray, List.all_cons, List.all_nil, rmO_one (S30.chq 0 rfl hc_30), SlN_one (ow_at (S30.chq 1 rfl hcz_30))] <;> rfl) (by rfl) (by kernel_rfl) (fun w31 c31 hc31 S31 => ?_)
   replace S31 : St w NoX [c_30, cz_30, c31, c3, c2] w31 := S31
   refine W_v rfl rfl (V_asg rfl rfl) ?_
   refine W_end (gen_Q fun A32 E32 => ?_)
   have Y32 := szq E32
   have F32 := fsE E32 (ck (cq2 F27 rfl) rfl rfl)
   clear E32 Y27 F27
   have S33 : St w NoX [c_30, cz_30, c31] w31 := S31.sel [0, 1, 2] (by decide) rfl
   refine tk H29 ?_
   refine wp_ret ?_
   refine then_ret ?_
   refine ret_in (results_2 Tryz.results17 (rv_cellA (fg8 F32) (S33.obj 2 rfl hc31) Tryz.underlying29 rfl (by kernel_rfl)) (rv_tmp (fg0 F32))) F32.d ?_
   have he : chE8 C N Z K Q X ns slot old now = 0 := ok_sto (by omega) (by omega)
   have hb := ch_same he (by omega)
   rw [he]
   exact ⟨_, _, rfl, (S33.fin2 0 rfl (hc_30.trans (congrArg (rmO _) hb.1.symm)) 1 rfl (hcz_30.trans (congrArg (io .i64 _) hb.2.symm)) (by decide))⟩
  refine wp_skip ?_
  refine tk H25 ?_
  refine wp_seq_k fun K34 H34 => ?_
  refine region_monoS 9 10 [none, none, none, none, none, some (SPv [] (fun _ => fun u l' => ∃ v_s z_s, u = .agg #[v_s, z_s] ∧ ∃ c_s, c_s = rmO v_s (cgC X (plN C N Z K Q slot old) slot false) ∧ ∃ cz_s, cz_s = io .i64 (z_s) (cgN ns (plN C N Z K Q slot old) slot false) ∧ l' = [c_s, cz_s]) 5), none, none, some (SPv [] (fun _ => fun u l' => ∃ v_s z_s, u = .agg #[v_s, z_s] ∧ ∃ c_s, c_s = rmO v_s (cgC (cgC X (plN C N Z K Q slot old) slot false) (plN C N Z K Q slot now) slot true) ∧ ∃ cz_s, cz_s = io .i64 (z_s) (cgN (cgN ns (plN C N Z K Q slot old) slot false) (plN C N Z K Q slot now) slot true) ∧ l' = [c_s, cz_s]) 8)] (by kernel_rfl) (by kernel_rfl) ?_
  refine D_r rfl rfl (by kernel_rfl) (fun sx hx hF => (VR_ldA rfl (fg9 F27) ((S13.grow hx).obj 2 rfl hc2) Tryz.underlying23 rfl (by kernel_rfl))) rfl rfl ?_
  refine D_r rfl rfl (by kernel_rfl) (fun sx hx hF => (VR_ldA rfl (es rfl (fg9 F27)) ((S13.grow hx).obj 2 rfl hc2) Tryz.underlying23 rfl (by kernel_rfl))) rfl rfl ?_
  refine D_r rfl rfl (by kernel_rfl) (fun sx hx hF => (VR_ldA rfl (es2 rfl (fg8 F27)) ((S13.grow hx).obj 1 rfl hc3) Tryz.underlying29 rfl (by kernel_rfl))) rfl rfl ?_
  refine D_v rfl rfl (V_mov rfl (es3 rfl (fg6 F27))) rfl rfl ?_
  refine D_v rfl rfl (V_mov rfl (es4 rfl (fg5 F27))) rfl rfl ?_
  refine D_call (ts := []) (vs := []) (C0 := fun _ => fun u l' => ∃ v_s z_s, u = .agg #[v_s, z_s] ∧ ∃ c_s, c_s = rmO v_s (cgC X (plN C N Z K Q slot old) slot false) ∧ ∃ cz_s, cz_s = io .i64 (z_s) (cgN ns (plN C N Z K Q slot old) slot false) ∧ l' = [c_s, cz_s]) (C := fun u l' => ∃ v_s z_s, u = .agg #[v_s, z_s] ∧ ∃ c_s, c_s = rmO v_s (cgC X (plN C N Z K Q slot old) slot false) ∧ ∃ cz_s, cz_s = io .i64 (z_s) (cgN ns (plN C N Z K Q slot old) slot false) ∧ l' = [c_s, cz_s]) rfl rfl rfl Tryz.func43 (by kernel_rfl) rfl (args5 (es3 rfl (et rfl)) (es2 rfl (et rfl)) (es rfl (et rfl)) (et rfl) rfl) rfl rfl rfl rfl (fun sx hx hF => ?_) (fun u35 l35 hu35 => ?_)
  ·refine (qchg_c (C := C) (N := N) (Z := Z) (K := K) (Q := Q) (slot := slot) (target := old) (add := false) ((S13.grow hx).roC h_cv) ((S13.grow hx).roC h_nv) (by first | with_reducible assumption | omega) (by first | with_reducible assumption | exact gl_of hk0 | exact gl_cg hk0 (pl_slot hpe)) (by first | omega | (rw [cgC_len]; omega))).mono ?_
   rintro _ _ ⟨v_35, z_35, rfl, hz⟩
   exact ⟨_, rfl, _, ⟨_, _, rfl, _, rfl, _, rfl, rfl⟩, hz⟩
  obtain ⟨v_35, z_35, rfl, c_35, hc_35, cz_35, hcz_35, hl35⟩ := hu35
  refine D_v rfl rfl (V_mov rfl (es6 rfl (fg6 F27))) rfl rfl ?_
  refine D_v rfl rfl (V_mov rfl (es7 rfl (fg4 F27))) rfl rfl ?_
  refine D_call (ts := []) (vs := []) (C0 := fun _ => fun u l' => ∃ v_s z_s, u = .agg #[v_s, z_s] ∧ ∃ c_s, c_s = rmO v_s (cgC (cgC X (plN C N Z K Q slot old) slot false) (plN C N Z K Q slot now) slot true) ∧ ∃ cz_s, cz_s = io .i64 (z_s) (cgN (cgN ns (plN C N Z K Q slot old) slot false) (plN C N Z K Q slot now) slot true) ∧ l' = [c_s, cz_s]) (C := fun u l' => ∃ v_s z_s, u = .agg #[v_s, z_s] ∧ ∃ c_s, c_s = rmO v_s (cgC (cgC X (plN C N Z K Q slot old) slot false) (plN C N Z K Q slot now) slot true) ∧ ∃ cz_s, cz_s = io .i64 (z_s) (cgN (cgN ns (plN C N Z K Q slot old) slot false) (plN C N Z K Q slot now) slot true) ∧ l' = [c_s, cz_s]) rfl rfl rfl Tryz.func43 (by kernel_rfl) rfl (args5 (es7 rfl (et rfl)) (es2 rfl (et rfl)) (es rfl (et rfl)) (et rfl) rfl) rfl rfl rfl rfl (fun sx hx hF => ?_) (fun u36 l36 hu36 => ?_)
  ·obtain ⟨ll35, ws35, we35, ⟨v_35q, z_35q, hq35, c_35_, hc_35_, cz_35_, hcz_35_, hl35_⟩, hm35, k35, e35⟩ := L.ancF_get hF (by kernel_rfl); cases hq35; subst hl35_; refine (qchg_c (C := C) (N := N) (Z := Z) (K := K) (Q := Q) (slot := slot) (target := now) (add := true) ((k35.grow e35).chC 0 rfl hc_35_).rm ((k35.grow e35).chC 1 rfl hcz_35_).own (by first | with_reducible assumption | omega) (by first | with_reducible assumption | exact gl_of hk0 | exact gl_cg hk0 (pl_slot hpe)) (by first | omega | (rw [cgC_len]; omega))).mono ?_
   rintro _ _ ⟨v_36, z_36, rfl, hz⟩
   exact ⟨_, rfl, _, ⟨_, _, rfl, _, rfl, _, rfl, rfl⟩, hz⟩
  obtain ⟨v_36, z_36, rfl, c_36, hc_36, cz_36, hcz_36, hl36⟩ := hu36
  refine D_eff rfl ?_
  refine ZS_eff S13 rfl rfl (fun s37 hJ37 hL37 hF37 => ?_)
  obtain ⟨ll35, ws35, we35, ⟨v_35q, z_35q, hq35, c_35r, hc_35r, cz_35r, hcz_35r, hl35r⟩, hm35, k35, e35⟩ := L.all_get (L.all_rest hF37); cases hq35; subst hl35r
  replace hJ37 := hJ37.add hL37 (i := 5) rfl hm35 k35 e35
  obtain ⟨ll36, ws36, we36, ⟨v_36q, z_36q, hq36, c_36r, hc_36r, cz_36r, hcz_36r, hl36r⟩, hm36, k36, e36⟩ := L.all_get hF37; cases hq36; subst hl36r
  replace hJ37 := hJ37.add hL37 (i := 8) rfl hm36 k36 e36
  have S37 := hJ37.st; clear hF37 hJ37 hL37
  generalize s37.1 = w37 at *
  replace S37 : St w NoX [c_36r, cz_36r, c_35r, cz_35r, c4, c3, c2] w37 := S37
  refine W_stAS 4 S37 rfl hc4 rfl rfl rfl (es8 rfl (es rfl (fg7 F27))) (et rfl) (by simp only [List.all_toArray, List.all_cons, List.all_nil, rmO_one (S37.chq 0 rfl hc_36r), SlN_one (ow_at (S37.chq 1 rfl hcz_36r))] <;> rfl) (by rfl) (by kernel_rfl) (fun w38 c38 hc38 S38 => ?_)
  replace S38 : St w NoX [c_36r, cz_36r, c_35r, cz_35r, c38, c3, c2] w38 := S38
  refine W_v rfl rfl (V_asg rfl rfl) ?_
  refine W_end ?_
  refine Qo_normal ?_
  refine gen_Q (fun A39 E39 => ?_)
  have Y39 := szq E39
  have F39 := fsE E39 (ck (cq1 (cq8 F27 rfl) rfl) rfl rfl)
  clear E39 Y27 F27
  have S40 : St w NoX [c_36r, cz_36r, c38] w38 := S38.sel [0, 1, 4] (by decide) rfl
  refine tk H34 ?_
  refine wp_ret ?_
  refine ret_in (results_2 Tryz.results17 (rv_cellA (fg8 F39) (S40.obj 2 rfl hc38) Tryz.underlying29 rfl (by kernel_rfl)) (rv_tmp (fg0 F39))) F39.d ?_
  have he : chE8 C N Z K Q X ns slot old now = 0 := ok_sto (by omega) (by omega)
  have hb := ch_k he (by omega)
  rw [he]
  exact ⟨_, _, rfl, (S40.fin2 0 rfl (hc_36r.trans (congrArg (rmO _) hb.1.symm)) 1 rfl (hcz_36r.trans (congrArg (io .i64 _) hb.2.symm)) (by decide))⟩
 refine wp_skip ?_
 refine tk H9 ?_
 refine wp_seq_k fun K41 H41 => ?_
 refine wp_seq_k fun K42 H42 => ?_
 refine region_in ?_
 refine W_v rfl rfl (V_mov rfl (fg1 F11)) ?_
 refine W_v rfl rfl (V_neq rfl (et rfl) rfl) ?_
 refine W_end (gen_Q fun A43 E43 => ?_)
 have Y43 := szq E43
 have F43 := fsE E43 (ck (cq1 F11 rfl) rfl rfl)
 clear E43 Y11 F11
 refine tk H42 ?_
 refine cond_sure (fg0 F43) (by first | (simp [c12]; done) | exact decide_eq_true (by omega) | exact decide_eq_false (by omega)) ?_
 refine wp_seq_k fun K44 H44 => ?_
 refine region_in ?_
 refine W_v rfl rfl (V_bldS (n := 2) (z := .agg #[.slice none 0 0, .slice none 0 0]) rfl (parts0) (by kernel_rfl) (by simp only [List.all_cons, List.all_nil, Bool.and_true] <;> rfl) (by kernel_rfl) (by simp only [List.foldl_cons, List.foldl_nil, Value.cells, List.setIfInBounds_toArray, List.set_cons_succ, List.set_cons_zero] <;> rfl)) ?_
 refine W_v rfl rfl (V_mov rfl (es rfl (fg2 F43))) ?_
 refine W_stAS 0 S7 rfl hc4 rfl rfl rfl (es2 rfl (fg6 F43)) (es rfl (et rfl)) (by first | (rw [List.all_toArray] <;> rfl) | (simp only [List.all_toArray, List.all_cons, List.all_nil] <;> rfl)) (by rfl) (by kernel_rfl) (fun w45 c45 hc45 S45 => ?_)
 replace S45 : St w NoX [c45, c3, c2] w45 := S45
 refine W_v rfl rfl (V_asg rfl (et rfl)) ?_
 refine W_end (gen_Q fun A46 E46 => ?_)
 have Y46 := szq E46
 have F46 := fsE E46 (ck (cq2 F43 rfl) rfl rfl)
 clear E46 Y43 F43
 have S47 : St w NoX [c45] w45 := S45.sel [0] (by decide) rfl
 refine tk H44 ?_
 refine wp_ret ?_
 refine then_ret ?_
 refine ret_in (results_2 Tryz.results17 (rv_cellA (fg7 F46) (S47.obj 0 rfl hc45) Tryz.underlying29 rfl (by kernel_rfl)) (rv_tmp (fg0 F46))) F46.d ?_
 obtain ⟨c48, hc48, S48⟩ := S47.rmNil
 obtain ⟨c49, hc49, S49⟩ := S48.pnil (s := 1)
 have he : chE8 C N Z K Q X ns slot old now = (asE C N Z K Q X ns slot old) := (as_st1 (by omega)).trans (by omega)
 have hb := ch_bad (show chE8 C N Z K Q X ns slot old now ≠ 0 by omega)
 rw [he]
 exact ⟨_, _, rfl, (S49.fin2 1 rfl (hc48.trans (by rw [hb.1])) 0 rfl (hc49.trans (by rw [show chN C N Z K Q X ns slot old now = [] by exact hb.2] <;> rfl)) (by decide))⟩

end Go.Proofs.YteppjefmlibmoaaGreat