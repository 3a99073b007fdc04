import Derived.Test.YteppjefmlibmoaaProg
import Derived.Test.YteppjefmlibmoaaRl8
import Derived.Test.YteppjefmlibmoaaRl9
import Derived.Test.YteppjefmlibmoaaPl8k
namespace Go.Proofs.Yteppjefmlibmoaa
open Go.RowKit Go.Own Go.Own.R Go.Own.S Go.Own.E


set_option maxHeartbeats 4000000 in
theorem RemsetCars_c {C : Int} {N : Int} {Z : Int} {K : Int} {Q : Int} {cv : Value} {X : List (List Int)} {nv : Value} {ns : List Int} {pk : Int} {w : World} (h_cv : Ro w NoX (rmR cv X)) (h_nv : Ro w NoX (il .i64 nv ns)) (hpk0 : 0 ≤ pk) (hpk1 : pk ≤ 255) :
  Calls Try.prog 3 #[.agg #[.int .i64 C, .int .i64 N, .int .i64 Z, .int .i64 K, .int .i64 Q, cv, nv], .int .u8 pk] w fun e w' => e = .returned (.bool true) ∧ St w NoX [] w' := by
 refine calls_in 213 Try.func3 rfl rfl (by simp) (fun A0 hsz0 hdf0 hargs => ?_)
 have l0_0 := hargs 0 (.agg #[.int .i64 C, .int .i64 N, .int .i64 Z, .int .i64 K, .int .i64 Q, cv, nv]) rfl
 have l1_0 := hargs 1 (.int .u8 pk) rfl
 clear hargs; replace hsz0 : SzN A0 213 := ⟨hsz0⟩
 have hS := St.nil w
 have bh_nv := SlN.le (sl_SlN h_nv.at)
 refine wp_seq_k fun K1 H1 => ?_
 refine region_in ?_
 refine W_boxS (zs := #[.int .i64 (C), .int .i64 (N), .int .i64 (Z), .int .i64 (K), .int .i64 (Q), cv, nv]) hS rfl rfl rfl l0_0 (by rfl) (fun g2 w2 c2 hc2 S2 => ?_)
 replace S2 : St w NoX [c2] w2 := S2
 refine W_v rfl rfl (V_asg rfl rfl) ?_
 refine W_end (gen_Q fun A3 E3 => ?_)
 have hsz3 := szq E3
 have F3 := (fsE E3 (cq1 (ck (FS.n hdf0) rfl rfl) rfl)).c (lookE E3 1 (es2 rfl l1_0))
 clear E3 hsz0 hdf0 l0_0 l1_0
 refine tk H1 ?_
 refine wp_seq_k fun K4 H4 => ?_
 refine wp_seq_k fun K5 H5 => ?_
 refine region_in ?_
 refine W_v rfl rfl (V_fa (off' := 5) rfl (fg1 F3) Try.underlying31 rfl (by decide +kernel) rfl) ?_
 refine W_r rfl rfl (VR_ldP (ys := [cv, nv]) rfl (et rfl) (S2.obj 0 rfl hc2) (ldP_at rfl) Try.underlying29 rfl (by kernel_rfl)) ?_
 refine W_call rfl rfl rfl Try.func9 (by kernel_rfl) rfl (args1 (et rfl)) (lFar_c (S2.roC h_cv) (S2.roC h_nv) ) ?_
 rintro _ w6 ⟨rfl, hP6⟩
 refine ⟨_, rfl, ?_⟩
 have S6 := S2.join hP6
 replace S6 : St w NoX [c2] w6 := S6
 refine W_end (gen_Q fun A7 E7 => ?_)
 have hsz7 := szq E7
 have F7 := fsE E7 (ck (cq2 F3 rfl) rfl rfl)
 clear E7 hsz3 F3
 refine tk H5 ?_
 refine cond_b (fg0 F7) (fun c8 => ?_) (fun c8 => ?_)
 ·refine wp_seq_k fun K9 H9 => ?_
  refine region_in ?_
  refine W_call rfl rfl rfl Try.func10 (by kernel_rfl) rfl (args0) (lawk_c  ) ?_
  rintro _ w10 ⟨rfl, hP10⟩
  refine ⟨_, rfl, ?_⟩
  have S10 := S6.join hP10
  replace S10 : St w NoX [c2] w10 := S10
  refine W_v rfl rfl (V_asg rfl (et rfl)) ?_
  refine W_end (gen_Q fun A11 E11 => ?_)
  have hsz11 := szq E11
  have F11 := fsE E11 (ck (cq1 F7 rfl) rfl rfl)
  clear E11 hsz7 F7
  have S12 : St w NoX [] w10 := S10.sel [] (by decide) rfl
  refine tk H9 ?_
  refine wp_ret ?_
  refine then_ret ?_
  refine ret_in (results_1 Try.results3 (rv_tmp (fg0 F11))) F11.d ?_
  exact ⟨rfl, S12.fin0⟩
 obtain ⟨hfx, hfr, hfn⟩ := far_ok (by simpa using c8)
 have hxl : X.length ≤ 1000000 := by omega
 refine wp_skip ?_
 refine tk H4 ?_
 refine wp_seq_k fun K13 H13 => ?_
 refine region_in ?_
 refine W_v rfl rfl (V_fa (off' := 0) rfl (fg2 F7) Try.underlying31 rfl (by decide +kernel) rfl) ?_
 refine W_r rfl rfl (VR_ldP (ys := [.int .i64 (C), .int .i64 (N), .int .i64 (Z), .int .i64 (K), .int .i64 (Q)]) rfl (et rfl) (S6.obj 0 rfl hc2) (ldP_at rfl) Try.underlying23 rfl (by kernel_rfl)) ?_
 refine W_v rfl rfl (V_fa (off' := 5) rfl (es2 rfl (fg2 F7)) Try.underlying31 rfl (by decide +kernel) rfl) ?_
 refine W_r rfl rfl (VR_ldP (ys := [cv, nv]) rfl (et rfl) (S6.obj 0 rfl hc2) (ldP_at rfl) Try.underlying29 rfl (by kernel_rfl)) ?_
 refine W_call rfl rfl rfl Try.func11 (by kernel_rfl) rfl (args2 (es2 rfl (et rfl)) (et rfl)) (kCk8_c (C := C) (N := N) (Z := Z) (K := K) (Q := Q) (S6.roC h_cv) (S6.roC h_nv) ) ?_
 rintro _ w14 ⟨rfl, hP14⟩
 refine ⟨_, rfl, ?_⟩
 have S14 := S6.join hP14
 replace S14 : St w NoX [c2] w14 := S14
 refine W_v rfl rfl (V_mov rfl (et rfl)) ?_
 refine W_v rfl rfl (V_ext (v := .int .i64 ((rmP C N Z K Q X ns).1)) rfl (et rfl) rfl) ?_
 refine W_v rfl rfl (V_ext (v := .int .i64 ((rmP C N Z K Q X ns).2)) rfl (es rfl (et rfl)) rfl) ?_
 refine W_v rfl rfl (V_asg rfl (es rfl (et rfl))) ?_
 refine W_v rfl rfl (V_asg rfl (es rfl (et rfl))) ?_
 refine W_end (gen_Q fun A15 E15 => ?_)
 have hsz15 := szq E15
 have F15 := fsE E15 (ck (cq1 (cq8 F7 rfl) rfl) rfl rfl)
 clear E15 hsz7 F7
 refine tk H13 ?_
 refine wp_seq_k fun K16 H16 => ?_
 refine wp_seq_k fun K17 H17 => ?_
 refine region_in ?_
 refine W_v rfl rfl (V_mov rfl (fg0 F15)) ?_
 refine W_v rfl rfl (V_neq rfl (et rfl) rfl) ?_
 refine W_end (gen_Q fun A18 E18 => ?_)
 have hsz18 := szq E18
 have F18 := fsE E18 (ck (cq1 F15 rfl) rfl rfl)
 clear E18 hsz15 F15
 refine tk H17 ?_
 refine cond_dec (fg0 F18) (fun c19 => ?_) (fun c19 => ?_)
 ·refine wp_seq_k fun K20 H20 => ?_
  refine region_in ?_
  refine W_call rfl rfl rfl Try.func10 (by kernel_rfl) rfl (args0) (lawk_c  ) ?_
  rintro _ w21 ⟨rfl, hP21⟩
  refine ⟨_, rfl, ?_⟩
  have S21 := S14.join hP21
  replace S21 : St w NoX [c2] w21 := S21
  refine W_v rfl rfl (V_asg rfl (et rfl)) ?_
  refine W_end (gen_Q fun A22 E22 => ?_)
  have hsz22 := szq E22
  have F22 := fsE E22 (ck (cq1 F18 rfl) rfl rfl)
  clear E22 hsz18 F18
  have S23 : St w NoX [] w21 := S21.sel [] (by decide) rfl
  refine tk H20 ?_
  refine wp_ret ?_
  refine then_ret ?_
  refine ret_in (results_1 Try.results3 (rv_tmp (fg0 F22))) F22.d ?_
  exact ⟨rfl, S23.fin0⟩
 have hV := VL_iff.1 (show (rmP C N Z K Q X ns).2 = 0 by omega)
 have hcb := hV.cb
 have hcf := cf_rng hV.1
 have hlen := hV.len
 refine wp_skip ?_
 refine tk H16 ?_
 refine wp_seq_k fun K24 H24 => ?_
 refine wp_seq_k fun K25 H25 => ?_
 refine region_in ?_
 refine W_v rfl rfl (V_fa (off' := 0) rfl (fg4 F18) Try.underlying31 rfl (by decide +kernel) rfl) ?_
 refine W_v rfl rfl (V_fa (off' := 1) rfl (et rfl) Try.underlying23 rfl (by decide +kernel) rfl) ?_
 refine W_r rfl rfl (VR_ldC rfl (et rfl) (cell_box (v := .int .i64 (N)) (S14.obj 0 rfl hc2) rfl) Try.underlying3 rfl) ?_
 refine W_v rfl rfl (V_lss rfl (et rfl) rfl) ?_
 refine W_sure (c' := false) rfl rfl (V_mov rfl (et rfl)) (by rw [decide_eq_false_iff_not]; omega) ?_
 refine W_v rfl (wanted_t rfl rfl (et rfl) (ez rfl)) (V_fa (off' := 5) rfl (es5 rfl (fg4 F18)) Try.underlying31 rfl (by decide +kernel) rfl) ?_
 refine W_v rfl (wanted_t rfl rfl (es rfl (et rfl)) (ez rfl)) (V_fa (off' := 5) rfl (et rfl) Try.underlying29 rfl (by decide +kernel) rfl) ?_
 refine W_r rfl (wanted_t rfl rfl (es2 rfl (et rfl)) (ez rfl)) (VR_ldC rfl (et rfl) (cell_box (v := cv) (S14.obj 0 rfl hc2) rfl) Try.underlying24 rfl) ?_
 refine W_v rfl (wanted_t rfl rfl (es3 rfl (et rfl)) (ez rfl)) (V_lenS rfl (et rfl) (rmR_SlN h_cv.at).choose_spec Try.underlying24) ?_
 refine W_v rfl (wanted_t rfl rfl (es4 rfl (et rfl)) (ez rfl)) (V_fa (off' := 0) rfl (es8 rfl (es rfl (fg4 F18))) Try.underlying31 rfl (by decide +kernel) rfl) ?_
 refine W_v rfl (wanted_t rfl rfl (es5 rfl (et rfl)) (ez rfl)) (V_fa (off' := 1) rfl (et rfl) Try.underlying23 rfl (by decide +kernel) rfl) ?_
 refine W_r rfl (wanted_t rfl rfl (es6 rfl (et rfl)) (ez rfl)) (VR_ldC rfl (et rfl) (cell_box (v := .int .i64 (N)) (S14.obj 0 rfl hc2) rfl) Try.underlying3 rfl) ?_
 refine W_v rfl (wanted_t rfl rfl (es7 rfl (et rfl)) (ez rfl)) (V_neq rfl (es3 rfl (et rfl)) (et rfl)) ?_
 refine W_v rfl rfl (V_pickF rfl (es8 rfl (et rfl)) (et rfl)) ?_
 refine W_end (gen_Q fun A26 E26 => ?_)
 have hsz26 := szq E26
 have F26 := fsE E26 (ck (cq5 (cq8 F18 rfl) rfl) rfl rfl)
 clear E26 hsz18 F18
 refine tk H25 ?_
 refine cond_not (fg0 F26) (by rw [decide_eq_false_iff_not]; omega) ?_
 refine wp_skip ?_
 refine tk H24 ?_
 refine wp_seq_k fun K27 H27 => ?_
 refine region_in ?_
 refine W_v rfl rfl (V_mov rfl (fg4 F26)) ?_
 refine W_v rfl rfl (V_cvt rfl (et rfl) Try.underlying5 Try.underlying3 (wrap_i64 (by omega) (by omega))) ?_
 refine W_v rfl rfl (V_fa (off' := 0) rfl (es2 rfl (fg5 F26)) Try.underlying31 rfl (by decide +kernel) rfl) ?_
 refine W_v rfl rfl (V_fa (off' := 1) rfl (et rfl) Try.underlying23 rfl (by decide +kernel) rfl) ?_
 refine W_r rfl rfl (VR_ldC rfl (et rfl) (cell_box (v := .int .i64 (N)) (S14.obj 0 rfl hc2) rfl) Try.underlying3 rfl) ?_
 refine W_v rfl rfl (V_rem rfl (es3 rfl (et rfl)) (et rfl) (by omega) (by omega) (wrap_mod (by omega) (by omega))) ?_
 refine W_v rfl rfl (V_asg rfl (et rfl)) ?_
 refine W_end (gen_Q fun A28 E28 => ?_)
 have hsz28 := szq E28
 have F28 := fsE E28 (cq7 F26 rfl)
 have l7_28 := lookE E28 7 (et rfl)
 clear E28 hsz26 F26
 obtain ⟨i, hi⟩ : ∃ z : Int, z = (pk % N) := ⟨_, rfl⟩
 rw [← hi] at l7_28
 have hir : 0 ≤ i ∧ i < N := by rw [hi]; exact ⟨Int.emod_nonneg _ (by omega), Int.emod_lt_of_pos _ (by omega)⟩
 obtain ⟨fc1, fc2, fc3, fc4, fc5, fc6, fc7⟩ := cars_1 hV hir
 obtain ⟨fc8, fc9⟩ := cars_2 hV hir
 have hz8 : (itT (prC C N Z K Q X ns i) i).length = 0 := by rw [fc8]; rfl
 have hz9 : (frT C N Z K Q (prC C N Z K Q X ns i) (prN C N Z K Q X ns i) i).length = 0 := by rw [fc9]; rfl
 obtain ⟨fc10, fc11, fc12⟩ := cars_3 hV hir
 have hcb2 := fc3.cb
 refine tk H27 ?_
 refine wp_seq_k fun K29 H29 => ?_
 refine region_in ?_
 refine W_v rfl rfl (V_fa (off' := 5) rfl (fg5 F28) Try.underlying31 rfl (by decide +kernel) rfl) ?_
 refine W_r rfl rfl (VR_ldP (ys := [cv, nv]) rfl (et rfl) (S14.obj 0 rfl hc2) (ldP_at rfl) Try.underlying29 rfl (by kernel_rfl)) ?_
 refine W_v rfl rfl (V_mov rfl (es2 rfl l7_28)) ?_
 refine W_call rfl rfl rfl Try.func12 (by kernel_rfl) rfl (args2 (es rfl (et rfl)) (et rfl)) (kIn8_c (i := i) (S14.roC h_cv) (S14.roC h_nv) ) ?_
 rintro _ w30 ⟨v_30, rfl, hP30⟩
 refine ⟨_, rfl, ?_⟩
 obtain ⟨c_30, hc_30, hP30⟩ := gen1 hP30
 have S30 := S14.join hP30
 replace S30 : St w NoX [c_30, c2] w30 := S30
 refine W_v rfl rfl (V_mov rfl (et rfl)) ?_
 refine W_v rfl rfl (V_ext (v := v_30) rfl (et rfl) rfl) ?_
 refine W_v rfl rfl (V_ext (v := .int .i64 ((itE X i))) rfl (es rfl (et rfl)) rfl) ?_
 refine W_v rfl rfl (V_asg rfl (es rfl (et rfl))) ?_
 refine W_v rfl rfl (V_asg rfl (es rfl (et rfl))) ?_
 refine W_end (gen_Q fun A31 E31 => ?_)
 have hsz31 := szq E31
 have F31 := (fsE E31 (ck (ck (cq7 (fx2 F28) rfl) rfl rfl) rfl rfl)).c (lookE E31 7 (es8 rfl (es rfl l7_28)))
 clear E31 hsz28 F28 l7_28
 refine tk H29 ?_
 refine wp_seq_k fun K32 H32 => ?_
 refine region_in ?_
 refine W_v rfl rfl (V_fa (off' := 0) rfl (fg7 F31) Try.underlying31 rfl (by decide +kernel) rfl) ?_
 refine W_r rfl rfl (VR_ldP (ys := [.int .i64 (C), .int .i64 (N), .int .i64 (Z), .int .i64 (K), .int .i64 (Q)]) rfl (et rfl) (S30.obj 1 rfl hc2) (ldP_at rfl) Try.underlying23 rfl (by kernel_rfl)) ?_
 refine W_v rfl rfl (V_fa (off' := 5) rfl (es2 rfl (fg7 F31)) Try.underlying31 rfl (by decide +kernel) rfl) ?_
 refine W_r rfl rfl (VR_ldP (ys := [cv, nv]) rfl (et rfl) (S30.obj 1 rfl hc2) (ldP_at rfl) Try.underlying29 rfl (by kernel_rfl)) ?_
 refine W_v rfl rfl (V_mov rfl (es4 rfl (fg0 F31))) ?_
 refine W_call rfl rfl rfl Try.func13 (by kernel_rfl) rfl (args3 (es3 rfl (et rfl)) (es rfl (et rfl)) (et rfl)) (kFr8_c (C := C) (N := N) (Z := Z) (K := K) (Q := Q) (i := i) (S30.roC h_cv) (S30.roC h_nv) ) ?_
 rintro _ w33 ⟨v_33, rfl, hP33⟩
 refine ⟨_, rfl, ?_⟩
 obtain ⟨c_33, hc_33, hP33⟩ := gen1 hP33
 have S33 := S30.join hP33
 replace S33 : St w NoX [c_33, c_30, c2] w33 := S33
 refine W_v rfl rfl (V_mov rfl (et rfl)) ?_
 refine W_v rfl rfl (V_ext (v := v_33) rfl (et rfl) rfl) ?_
 refine W_v rfl rfl (V_ext (v := .int .i64 ((frE C N Z K Q X ns i))) rfl (es rfl (et rfl)) rfl) ?_
 refine W_v rfl rfl (V_asg rfl (es rfl (et rfl))) ?_
 refine W_v rfl rfl (V_asg rfl (es rfl (et rfl))) ?_
 refine W_end (gen_Q fun A34 E34 => ?_)
 have hsz34 := szq E34
 have F34 := fsE E34 (ck (ck (cq1 (cq8 F31 rfl) rfl) rfl rfl) rfl rfl)
 clear E34 hsz31 F31
 refine tk H32 ?_
 refine wp_seq_k fun K35 H35 => ?_
 refine region_in ?_
 refine W_v rfl rfl (V_fa (off' := 0) rfl (fg9 F34) Try.underlying31 rfl (by decide +kernel) rfl) ?_
 refine W_r rfl rfl (VR_ldP (ys := [.int .i64 (C), .int .i64 (N), .int .i64 (Z), .int .i64 (K), .int .i64 (Q)]) rfl (et rfl) (S33.obj 2 rfl hc2) (ldP_at rfl) Try.underlying23 rfl (by kernel_rfl)) ?_
 refine W_v rfl rfl (V_fa (off' := 5) rfl (es2 rfl (fg9 F34)) Try.underlying31 rfl (by decide +kernel) rfl) ?_
 refine W_r rfl rfl (VR_ldP (ys := [cv, nv]) rfl (et rfl) (S33.obj 2 rfl hc2) (ldP_at rfl) Try.underlying29 rfl (by kernel_rfl)) ?_
 refine W_v rfl rfl (V_mov rfl (es4 rfl (fg2 F34))) ?_
 refine W_call rfl rfl rfl Try.func14 (by kernel_rfl) rfl (args3 (es3 rfl (et rfl)) (es rfl (et rfl)) (et rfl)) (kPr8_c (C := C) (N := N) (Z := Z) (K := K) (Q := Q) (i := i) (S33.roC h_cv) (S33.roC h_nv) ) ?_
 rintro _ w36 ⟨v_36, z_36, rfl, hP36⟩
 refine ⟨_, rfl, ?_⟩
 obtain ⟨c_36, cz_36, hc_36, hcz_36, hP36⟩ := gen2 hP36
 have S36 := S33.join hP36
 replace S36 : St w NoX [c_36, cz_36, c_33, c_30, c2] w36 := S36
 refine W_v rfl rfl (V_mov rfl (et rfl)) ?_
 refine W_v rfl rfl (V_ext (v := .agg #[v_36, z_36]) rfl (et rfl) rfl) ?_
 refine W_v rfl rfl (V_ext (v := .int .i64 ((prS C N Z K Q X ns i))) rfl (es rfl (et rfl)) rfl) ?_
 refine W_v rfl rfl (V_ext (v := .int .i64 ((frE C N Z K Q X ns i))) rfl (es2 rfl (et rfl)) rfl) ?_
 refine W_allocS (z := .agg #[.slice none 0 0, .slice none 0 0]) (zs := #[.slice none 0 0, .slice none 0 0]) S36 rfl rfl rfl (by kernel_rfl) (by rfl) (fun g37 w37 c37 hc37 S37 => ?_)
 replace S37 : St w NoX [c37, c_36, cz_36, c_33, c_30, c2] w37 := S37
 refine W_stAS 0 S37 rfl hc37 rfl rfl rfl (et rfl) (es3 rfl (et rfl)) (by simp only [List.all_toArray, List.all_cons, List.all_nil, rmO_one (S37.chq 1 rfl hc_36), SlN_one (ow_at (S37.chq 2 rfl hcz_36))] <;> rfl) (by rfl) (by kernel_rfl) (fun w38 c38 hc38 S38 => ?_)
 replace S38 : St w NoX [c38, c_36, cz_36, c_33, c_30, c2] w38 := S38
 refine W_v rfl rfl (V_asg rfl (es2 rfl (et rfl))) ?_
 refine W_v rfl rfl (V_asg rfl (es2 rfl (et rfl))) ?_
 refine W_end (gen_Q fun A39 E39 => ?_)
 have hsz39 := szq E39
 have F39 := fsE E39 (ck (ck (ck (cq2 (cq8 F34 rfl) rfl) rfl rfl) rfl rfl) rfl rfl)
 clear E39 hsz34 F34
 refine tk H35 ?_
 refine wp_seq_k fun K40 H40 => ?_
 refine region_in ?_
 refine W_v rfl rfl (V_fa (off' := 0) rfl (fg12 F39) Try.underlying31 rfl (by decide +kernel) rfl) ?_
 refine W_r rfl rfl (VR_ldP (ys := [.int .i64 (C), .int .i64 (N), .int .i64 (Z), .int .i64 (K), .int .i64 (Q)]) rfl (et rfl) (S38.obj 5 rfl hc2) (ldP_at rfl) Try.underlying23 rfl (by kernel_rfl)) ?_
 refine W_r rfl rfl (VR_ldA rfl (es2 rfl (fg2 F39)) (S38.obj 0 rfl hc38) Try.underlying29 rfl (by kernel_rfl)) ?_
 refine W_v rfl rfl (V_mov rfl (es3 rfl (fg5 F39))) ?_
 refine W_call rfl rfl rfl Try.func13 (by kernel_rfl) rfl (args3 (es2 rfl (et rfl)) (es rfl (et rfl)) (et rfl)) (kFr8_c (C := C) (N := N) (Z := Z) (K := K) (Q := Q) (i := i) (S38.chC 1 rfl hc_36).rm (S38.chC 2 rfl hcz_36).own ) ?_
 rintro _ w41 ⟨v_41, rfl, hP41⟩
 refine ⟨_, rfl, ?_⟩
 obtain ⟨c_41, hc_41, hP41⟩ := gen1 hP41
 have S41 := S38.join hP41
 replace S41 : St w NoX [c_41, c38, c_36, cz_36, c_33, c_30, c2] w41 := S41
 refine W_v rfl rfl (V_mov rfl (et rfl)) ?_
 refine W_v rfl rfl (V_ext (v := v_41) rfl (et rfl) rfl) ?_
 refine W_v rfl rfl (V_ext (v := .int .i64 ((frE C N Z K Q (prC C N Z K Q X ns i) (prN C N Z K Q X ns i) i))) rfl (es rfl (et rfl)) rfl) ?_
 refine W_v rfl rfl (V_asg rfl (es rfl (et rfl))) ?_
 refine W_v rfl rfl (V_asg rfl (es rfl (et rfl))) ?_
 refine W_end (gen_Q fun A42 E42 => ?_)
 have hsz42 := szq E42
 have F42 := fsE E42 (ck (ck (cq8 F39 rfl) rfl rfl) rfl rfl)
 clear E42 hsz39 F39
 refine tk H40 ?_
 refine wp_seq_k fun K43 H43 => ?_
 refine region_in ?_
 refine W_r rfl rfl (VR_ldA rfl (fg4 F42) (S41.obj 1 rfl hc38) Try.underlying29 rfl (by kernel_rfl)) ?_
 refine W_v rfl rfl (V_mov rfl (es rfl (fg7 F42))) ?_
 refine W_call rfl rfl rfl Try.func12 (by kernel_rfl) rfl (args2 (es rfl (et rfl)) (et rfl)) (kIn8_c (i := i) (S41.chC 2 rfl hc_36).rm (S41.chC 3 rfl hcz_36).own ) ?_
 rintro _ w44 ⟨v_44, rfl, hP44⟩
 refine ⟨_, rfl, ?_⟩
 obtain ⟨c_44, hc_44, hP44⟩ := gen1 hP44
 have S44 := S41.join hP44
 replace S44 : St w NoX [c_44, c_41, c38, c_36, cz_36, c_33, c_30, c2] w44 := S44
 refine W_v rfl rfl (V_mov rfl (et rfl)) ?_
 refine W_v rfl rfl (V_ext (v := v_44) rfl (et rfl) rfl) ?_
 refine W_v rfl rfl (V_ext (v := .int .i64 ((itE (prC C N Z K Q X ns i) i))) rfl (es rfl (et rfl)) rfl) ?_
 refine W_v rfl rfl (V_asg rfl (es rfl (et rfl))) ?_
 refine W_v rfl rfl (V_asg rfl (es rfl (et rfl))) ?_
 refine W_end (gen_Q fun A45 E45 => ?_)
 have hsz45 := szq E45
 have F45 := fsE E45 (ck (ck (cq6 F42 rfl) rfl rfl) rfl rfl)
 clear E45 hsz42 F42
 refine tk H43 ?_
 refine wp_seq_k fun K46 H46 => ?_
 refine region_in ?_
 refine W_v rfl rfl (V_fa (off' := 0) rfl (fg16 F45) Try.underlying31 rfl (by decide +kernel) rfl) ?_
 refine W_r rfl rfl (VR_ldP (ys := [.int .i64 (C), .int .i64 (N), .int .i64 (Z), .int .i64 (K), .int .i64 (Q)]) rfl (et rfl) (S44.obj 7 rfl hc2) (ldP_at rfl) Try.underlying23 rfl (by kernel_rfl)) ?_
 refine W_r rfl rfl (VR_ldA rfl (es2 rfl (fg6 F45)) (S44.obj 2 rfl hc38) Try.underlying29 rfl (by kernel_rfl)) ?_
 refine W_call rfl rfl rfl Try.func11 (by kernel_rfl) rfl (args2 (es rfl (et rfl)) (et rfl)) (kCk8_c (C := C) (N := N) (Z := Z) (K := K) (Q := Q) (S44.chC 3 rfl hc_36).rm (S44.chC 4 rfl hcz_36).own ) ?_
 rintro _ w47 ⟨rfl, hP47⟩
 refine ⟨_, rfl, ?_⟩
 have S47 := S44.join hP47
 replace S47 : St w NoX [c_44, c_41, c38, c_36, cz_36, c_33, c_30, c2] w47 := S47
 refine W_v rfl rfl (V_mov rfl (et rfl)) ?_
 refine W_v rfl rfl (V_ext (v := .int .i64 ((rmP C N Z K Q (prC C N Z K Q X ns i) (prN C N Z K Q X ns i)).1)) rfl (et rfl) rfl) ?_
 refine W_v rfl rfl (V_ext (v := .int .i64 ((rmP C N Z K Q (prC C N Z K Q X ns i) (prN C N Z K Q X ns i)).2)) rfl (es rfl (et rfl)) rfl) ?_
 refine W_v rfl rfl (V_asg rfl (es rfl (et rfl))) ?_
 refine W_v rfl rfl (V_asg rfl (es rfl (et rfl))) ?_
 refine W_end (gen_Q fun A48 E48 => ?_)
 have hsz48 := szq E48
 have F48 := fsE E48 (ck (cq8 F45 rfl) rfl rfl)
 clear E48 hsz45 F45
 refine tk H46 ?_
 refine wp_seq_k fun K49 H49 => ?_
 refine wp_seq_k fun K50 H50 => ?_
 refine region_in ?_
 refine W_v rfl rfl (V_mov rfl (fg11 F48)) ?_
 refine W_v rfl rfl (V_neq rfl (et rfl) rfl) ?_
 refine W_sure (c' := false) rfl rfl (V_mov rfl (et rfl)) (by rw [decide_eq_false_iff_not]; rw [fc2]; simp) ?_
 refine W_v rfl (wanted_t rfl rfl (et rfl) (ez rfl)) (V_mov rfl (es3 rfl (fg8 F48))) ?_
 refine W_v rfl (wanted_t rfl rfl (es rfl (et rfl)) (ez rfl)) (V_neq rfl (et rfl) rfl) ?_
 refine W_v rfl rfl (V_pickF rfl (es2 rfl (et rfl)) (et rfl)) ?_
 refine W_sure (c' := false) rfl rfl (V_mov rfl (et rfl)) (by rw [decide_eq_false_iff_not]; rw [fc1]; simp) ?_
 refine W_v rfl (wanted_t rfl rfl (et rfl) (ez rfl)) (V_mov rfl (es7 rfl (fg5 F48))) ?_
 refine W_v rfl (wanted_t rfl rfl (es rfl (et rfl)) (ez rfl)) (V_neq rfl (et rfl) rfl) ?_
 refine W_v rfl rfl (V_pickF rfl (es2 rfl (et rfl)) (et rfl)) ?_
 refine W_sure (c' := false) rfl rfl (V_mov rfl (et rfl)) (by rw [decide_eq_false_iff_not]; rw [fc1]; simp) ?_
 refine W_v rfl (wanted_t rfl rfl (et rfl) (ez rfl)) (V_mov rfl (es8 rfl (es3 rfl (fg3 F48)))) ?_
 refine W_v rfl (wanted_t rfl rfl (es rfl (et rfl)) (ez rfl)) (V_neq rfl (et rfl) rfl) ?_
 refine W_v rfl rfl (V_pickF rfl (es2 rfl (et rfl)) (et rfl)) ?_
 refine W_sure (c' := false) rfl rfl (V_mov rfl (et rfl)) (by rw [decide_eq_false_iff_not]; rw [fc10]; simp) ?_
 refine W_v rfl (wanted_t rfl rfl (et rfl) (ez rfl)) (V_mov rfl (es8 rfl (es7 rfl (fg1 F48)))) ?_
 refine W_v rfl (wanted_t rfl rfl (es rfl (et rfl)) (ez rfl)) (V_neq rfl (et rfl) rfl) ?_
 refine W_v rfl rfl (V_pickF rfl (es2 rfl (et rfl)) (et rfl)) ?_
 refine W_sure (c' := false) rfl rfl (V_mov rfl (et rfl)) (by rw [decide_eq_false_iff_not]; rw [fc11]; simp) ?_
 refine W_v rfl (wanted_t rfl rfl (et rfl) (ez rfl)) (V_mov rfl (es8 rfl (es8 rfl (es3 rfl (fg0 F48))))) ?_
 refine W_v rfl (wanted_t rfl rfl (es rfl (et rfl)) (ez rfl)) (V_neq rfl (et rfl) rfl) ?_
 refine W_v rfl rfl (V_pickF rfl (es2 rfl (et rfl)) (et rfl)) ?_
 refine W_sure (c' := false) rfl rfl (V_mov rfl (et rfl)) (by rw [decide_eq_false_iff_not]; rw [fc12]; simp) ?_
 refine W_v rfl (wanted_t rfl rfl (et rfl) (ez rfl)) (V_mov rfl (es8 rfl (es8 rfl (es7 rfl (fg4 F48))))) ?_
 refine W_v rfl (wanted_t rfl rfl (es rfl (et rfl)) (ez rfl)) (V_lenS rfl (et rfl) (ow_at (S47.chq 1 rfl hc_41)) Try.underlying25) ?_
 refine W_v rfl (wanted_t rfl rfl (es2 rfl (et rfl)) (ez rfl)) (V_mov rfl (es8 rfl (es8 rfl (es8 rfl (es rfl (fg2 F48)))))) ?_
 refine W_v rfl (wanted_t rfl rfl (es3 rfl (et rfl)) (ez rfl)) (V_lenS rfl (et rfl) (ow_at (S47.chq 0 rfl hc_44)) Try.underlying25) ?_
 refine W_v rfl (wanted_t rfl rfl (es4 rfl (et rfl)) (ez rfl)) (V_add rfl (es2 rfl (et rfl)) (et rfl) (by omega) (by omega)) ?_
 refine W_v rfl (wanted_t rfl rfl (es5 rfl (et rfl)) (ez rfl)) (V_gtr rfl (et rfl) rfl) ?_
 refine W_v rfl rfl (V_pickF rfl (es6 rfl (et rfl)) (et rfl)) ?_
 refine W_sure (c' := false) rfl rfl (V_mov rfl (et rfl)) (by rw [decide_eq_false_iff_not]; rw [fc9, fc8]; simp) ?_
 refine W_v rfl (wanted_t rfl rfl (et rfl) (ez rfl)) (V_mov rfl (es8 rfl (es8 rfl (es8 rfl (es7 rfl (fg6 F48)))))) ?_
 refine W_v rfl (wanted_t rfl rfl (es rfl (et rfl)) (ez rfl)) (V_mov rfl (es8 rfl (es8 rfl (es8 rfl (es8 rfl (fg12 F48)))))) ?_
 refine W_v rfl (wanted_t rfl rfl (es2 rfl (et rfl)) (ez rfl)) (V_lenS rfl (et rfl) (ow_at (S47.chq 6 rfl hc_30)) Try.underlying25) ?_
 refine W_v rfl (wanted_t rfl rfl (es3 rfl (et rfl)) (ez rfl)) (V_lss rfl (es2 rfl (et rfl)) (et rfl)) ?_
 refine W_v rfl rfl (V_pickF rfl (es4 rfl (et rfl)) (et rfl)) ?_
 refine W_sure (c' := false) rfl rfl (V_mov rfl (et rfl)) (by rw [decide_eq_false_iff_not]; omega) ?_
 refine W_v rfl (wanted_t rfl rfl (et rfl) (ez rfl)) (V_mov rfl (es8 rfl (es8 rfl (es8 rfl (es8 rfl (es5 rfl (fg6 F48))))))) ?_
 refine W_v rfl (wanted_t rfl rfl (es rfl (et rfl)) (ez rfl)) (V_mov rfl (es8 rfl (es8 rfl (es8 rfl (es8 rfl (es6 rfl (fg9 F48))))))) ?_
 refine W_v rfl (wanted_t rfl rfl (es2 rfl (et rfl)) (ez rfl)) (V_lenS rfl (et rfl) (ow_at (S47.chq 5 rfl hc_33)) Try.underlying25) ?_
 refine W_v rfl (wanted_t rfl rfl (es3 rfl (et rfl)) (ez rfl)) (V_lss rfl (es2 rfl (et rfl)) (et rfl)) ?_
 refine W_v rfl rfl (V_pickF rfl (es4 rfl (et rfl)) (et rfl)) ?_
 refine W_end (gen_Q fun A51 E51 => ?_)
 have hsz51 := szq E51
 have F51 := fsE E51 (ck (cq1 (cq8 (cq8 (cq8 (cq8 (cq8 F48 rfl) rfl) rfl) rfl) rfl) rfl) rfl rfl)
 clear E51 hsz48 F48
 have S52 : St w NoX [c38, c_36, cz_36, c2] w47 := S47.sel [2, 3, 4, 7] (by decide) rfl
 refine tk H50 ?_
 refine cond_not (fg0 F51) (by rw [decide_eq_false_iff_not]; omega) ?_
 refine wp_skip ?_
 refine tk H49 ?_
 refine wp_seq_k fun K53 H53 => ?_
 refine region_in ?_
 refine W_v rfl rfl (V_fa (off' := 5) rfl (fg18 F51) Try.underlying31 rfl (by decide +kernel) rfl) ?_
 refine W_r rfl rfl (VR_ldP (ys := [cv, nv]) rfl (et rfl) (S52.obj 3 rfl hc2) (ldP_at rfl) Try.underlying29 rfl (by kernel_rfl)) ?_
 refine W_call rfl rfl rfl Try.func15 (by kernel_rfl) rfl (args1 (et rfl)) (kCt8_c (S52.roC h_cv) (S52.roC h_nv) (by first | with_reducible assumption | omega | with_reducible exact nwX_len (by omega) | with_reducible exact chX_len (by omega) | with_reducible exact prX_len (by omega) | decide +kernel | (simp; omega))) ?_
 rintro _ w54 ⟨rfl, hP54⟩
 refine ⟨_, rfl, ?_⟩
 have S54 := S52.join hP54
 replace S54 : St w NoX [c38, c_36, cz_36, c2] w54 := S54
 refine W_v rfl rfl (V_mov rfl (et rfl)) ?_
 refine W_v rfl rfl (V_ext (v := .int .i64 ((ctP (X ++ [ns])).1)) rfl (et rfl) rfl) ?_
 refine W_v rfl rfl (V_ext (v := .int .i64 ((ctP (X ++ [ns])).2)) rfl (es rfl (et rfl)) rfl) ?_
 refine W_v rfl rfl (V_asg rfl (es rfl (et rfl))) ?_
 refine W_v rfl rfl (V_asg rfl (es rfl (et rfl))) ?_
 refine W_end (gen_Q fun A55 E55 => ?_)
 have hsz55 := szq E55
 have F55 := fsE E55 (cq1 (ck (cq6 F51 rfl) rfl rfl) rfl)
 clear E55 hsz51 F51
 refine tk H53 ?_
 refine wp_seq_k fun K56 H56 => ?_
 refine region_in ?_
 refine W_r rfl rfl (VR_ldA rfl (fg9 F55) (S54.obj 0 rfl hc38) Try.underlying29 rfl (by kernel_rfl)) ?_
 refine W_call rfl rfl rfl Try.func15 (by kernel_rfl) rfl (args1 (et rfl)) (kCt8_c (S54.chC 1 rfl hc_36).rm (S54.chC 2 rfl hcz_36).own (by first | with_reducible assumption | omega | with_reducible exact nwX_len (by omega) | with_reducible exact chX_len (by omega) | with_reducible exact prX_len (by omega) | decide +kernel | (simp; omega))) ?_
 rintro _ w57 ⟨rfl, hP57⟩
 refine ⟨_, rfl, ?_⟩
 have S57 := S54.join hP57
 replace S57 : St w NoX [c38, c_36, cz_36, c2] w57 := S57
 refine W_v rfl rfl (V_mov rfl (et rfl)) ?_
 refine W_v rfl rfl (V_ext (v := .int .i64 ((ctP ((prC C N Z K Q X ns i) ++ [(prN C N Z K Q X ns i)])).1)) rfl (et rfl) rfl) ?_
 refine W_v rfl rfl (V_ext (v := .int .i64 ((ctP ((prC C N Z K Q X ns i) ++ [(prN C N Z K Q X ns i)])).2)) rfl (es rfl (et rfl)) rfl) ?_
 refine W_v rfl rfl (V_asg rfl (es rfl (et rfl))) ?_
 refine W_v rfl rfl (V_asg rfl (es rfl (et rfl))) ?_
 refine W_end (gen_Q fun A58 E58 => ?_)
 have hsz58 := szq E58
 have F58 := fsE E58 (cq1 (ck (cq5 F55 rfl) rfl rfl) rfl)
 clear E58 hsz55 F55
 have S59 : St w NoX [c2] w57 := S57.sel [3] (by decide) rfl
 refine tk H56 ?_
 refine wp_seq_k fun K60 H60 => ?_
 refine wp_seq_k fun K61 H61 => ?_
 refine region_in ?_
 refine W_v rfl rfl (V_mov rfl (fg1 F58)) ?_
 refine W_v rfl rfl (V_mov rfl (es rfl (fg0 F58))) ?_
 refine W_v rfl rfl (V_mov rfl (es2 rfl (fg9 F58))) ?_
 refine W_v rfl rfl (V_add rfl (es rfl (et rfl)) (et rfl) (by omega) (by omega)) ?_
 refine W_v rfl rfl (V_neq rfl (es3 rfl (et rfl)) (et rfl)) ?_
 refine W_end (gen_Q fun A62 E62 => ?_)
 have hsz62 := szq E62
 have F62 := fsE E62 (ck (cq4 F58 rfl) rfl rfl)
 clear E62 hsz58 F58
 refine tk H61 ?_
 refine cond_not (fg0 F62) (by rw [decide_eq_false_iff_not]; omega) ?_
 refine wp_skip ?_
 refine tk H60 ?_
 refine wp_seq_k fun K63 H63 => ?_
 refine region_in ?_
 refine W_v rfl rfl (V_fa (off' := 5) rfl (fg21 F62) Try.underlying31 rfl (by decide +kernel) rfl) ?_
 refine W_r rfl rfl (VR_ldP (ys := [cv, nv]) rfl (et rfl) (S59.obj 0 rfl hc2) (ldP_at rfl) Try.underlying29 rfl (by kernel_rfl)) ?_
 refine W_allocS (z := .agg #[.slice none 0 0, .slice none 0 0]) (zs := #[.slice none 0 0, .slice none 0 0]) S59 rfl rfl rfl (by kernel_rfl) (by rfl) (fun g64 w64 c64 hc64 S64 => ?_)
 replace S64 : St w NoX [c64, c2] w64 := S64
 refine W_stAS 0 S64 rfl hc64 rfl rfl rfl (et rfl) (es rfl (et rfl)) (by simp only [List.all_toArray, List.all_cons, List.all_nil, rmR_one h_cv.at, SlN_one (sl_SlN h_nv.at)] <;> rfl) (by rfl) (by kernel_rfl) (fun w65 c65 hc65 S65 => ?_)
 replace S65 : St w NoX [c65, c2] w65 := S65
 refine W_v rfl rfl (V_asg rfl rfl) ?_
 refine W_end (gen_Q fun A66 E66 => ?_)
 have hsz66 := szq E66
 have F66 := fsE E66 (ck (ck (cq2 F62 rfl) rfl rfl) rfl rfl)
 clear E66 hsz62 F62
 refine tk H63 ?_
 refine wp_seq_k fun K67 H67 => ?_
 refine wp_seq_k fun K68 H68 => ?_
 refine region_in ?_
 refine W_v rfl rfl (V_asg rfl rfl) ?_
 refine W_end (gen_Q fun A69 E69 => ?_)
 have hsz69 := szq E69
 have F69 := fsE E69 (ck F66 rfl rfl)
 clear E69 hsz66 F66
 refine tk H68 ?_
 refine wp_block ?_
 -- loop 23
 refine loopX (fun mz A' w' => SzN A' 213 ∧ A'.defers = [] ∧ (∃ (wb70 : World) (Xb70 : Nat → Prop) (k : Nat) (V : List (List Int)) (ms : List Int) (n : Int) (cvk : Value) (zvk : Value), (∀ w2 post, St wb70 Xb70 post w2 → St w NoX post w2) ∧ (Ro wb70 Xb70 (rmR cv X)) ∧ (Ro wb70 Xb70 (il .i64 nv ns)) ∧ (Ro wb70 Xb70 (rmR cvk V)) ∧ (Ro wb70 Xb70 (il .i64 zvk ms)) ∧ (mz = N.toNat - k) ∧ ((k : Int) ≤ N) ∧ (VL C N Z K Q (V ++ [ms])) ∧ ((ctP (X ++ [ns])).1 = n + (ctP (V ++ [ms])).1) ∧ (∀ j y, 0 < y → y ∈ (V ++ [ms]).getD j [] → (k : Int) ≤ caN C N Z K Q y) ∧ (EV A' (.tmp 26) = .int .i64 (k : Int)) ∧ (EV A' (.tmp 25) = .int .i64 n) ∧ (EV A' (.tmp 2) = EV A69 (.tmp 2)) ∧ (EV A' (.tmp 20) = EV A69 (.tmp 20)) ∧ (EV A' (.tmp 24) = EV A69 (.tmp 24)) ∧ (St wb70 Xb70 [bx g64 29 #[cvk, zvk], bx g2 31 #[.int .i64 (C), .int .i64 (N), .int .i64 (Z), .int .i64 (K), .int .i64 (Q), cv, nv]] w'))) (N.toNat - 0) ⟨hsz69, F69.d, w, NoX, 0, X, ns, 0, cv, nv, (fun _ _ h => h), h_cv, h_nv, h_cv, h_nv, rfl, (by omega), hV, (by omega), (cars_z0 hV), (((fg0 F69)).trans (by first | rfl | (simp; done) | (congr 1; omega))), (((fg1 F69)).trans (by first | rfl | (simp; done) | (congr 1; omega))), rfl, rfl, rfl, (by subst hc65 hc2; exact S65)⟩ ?_
 clear S65 hc65 hc2
 rintro n70 A70 w70 ⟨hsz70, hdf70, wb70, Xb70, k, V, ms, n, cvk, zvk, back70, h_cv_70, h_nv_70, r1, r2, hm70, hk, hW, hn, hz, l26_70, l25_70, u2_70, u20_70, u24_70, S70⟩
 have l2_70 := u2_70.trans (fg24 F69)
 have l20_70 := u20_70.trans (fg5 F69)
 have l24_70 := u24_70.trans (fg2 F69)
 obtain ⟨c65_70, c2_70, hc65_70, hc2_70, S70⟩ := gen2 S70
 refine wp_seq_k fun K71 H71 => ?_
 refine wp_seq_k fun K72 H72 => ?_
 refine region_in ?_
 refine W_v rfl rfl (V_mov rfl l26_70) ?_
 refine W_v rfl rfl (V_fa (off' := 0) rfl (es rfl l2_70) Try.underlying31 rfl (by decide +kernel) rfl) ?_
 refine W_v rfl rfl (V_fa (off' := 1) rfl (et rfl) Try.underlying23 rfl (by decide +kernel) rfl) ?_
 refine W_r rfl rfl (VR_ldC rfl (et rfl) (cell_box (v := .int .i64 (N)) (S70.obj 1 rfl hc2_70) rfl) Try.underlying3 rfl) ?_
 refine W_v rfl rfl (V_lss rfl (es3 rfl (et rfl)) (et rfl)) ?_
 refine W_end (gen_Q fun A73 E73 => ?_)
 have hsz73 := szq E73
 have F73 := (((((fsE E73 (ck (cq4 (FS.n hdf70) rfl) rfl rfl)).c (lookE E73 2 (es5 rfl l2_70))).c (lookE E73 20 (es5 rfl l20_70))).c (lookE E73 24 (es5 rfl l24_70))).c (lookE E73 25 (es5 rfl l25_70))).c (lookE E73 26 (es5 rfl l26_70))
 clear E73 hsz70 hdf70 l26_70 l25_70 l2_70 l20_70 l24_70
 refine tk H72 ?_
 refine cond_dec (fg5 F73) (fun c74 => ?_) (fun c74 => ?_)
 ·have hkr : 0 ≤ (k : Int) ∧ (k : Int) < N := by omega
  obtain ⟨fd1, fd2, fd3, fd4, fd5, fd6, fd7⟩ := cars_1 hW hkr
  have hcb3 := hW.cb
  have hcb4 := fd3.cb
  refine wp_skip ?_
  refine tk H71 ?_
  refine wp_seq_k fun K75 H75 => ?_
  refine wp_block ?_
  refine wp_seq_k fun K76 H76 => ?_
  refine region_in ?_
  refine W_v rfl rfl (V_fa (off' := 0) rfl (fg4 F73) Try.underlying31 rfl (by decide +kernel) rfl) ?_
  refine W_r rfl rfl (VR_ldP (ys := [.int .i64 (C), .int .i64 (N), .int .i64 (Z), .int .i64 (K), .int .i64 (Q)]) rfl (et rfl) (S70.obj 1 rfl hc2_70) (ldP_at rfl) Try.underlying23 rfl (by kernel_rfl)) ?_
  refine W_r rfl rfl (VR_ldA rfl (es2 rfl (fg2 F73)) (S70.obj 0 rfl hc65_70) Try.underlying29 rfl (by kernel_rfl)) ?_
  refine W_v rfl rfl (V_mov rfl (es3 rfl (fg0 F73))) ?_
  refine W_call rfl rfl rfl Try.func14 (by kernel_rfl) rfl (args3 (es2 rfl (et rfl)) (es rfl (et rfl)) (et rfl)) (kPr8_c (C := C) (N := N) (Z := Z) (K := K) (Q := Q) (i := (k : Int)) (S70.roC r1) (S70.roC r2) ) ?_
  rintro _ w77 ⟨v_77, z_77, rfl, hP77⟩
  refine ⟨_, rfl, ?_⟩
  obtain ⟨c_77, cz_77, hc_77, hcz_77, hP77⟩ := gen2 hP77
  have S77 := S70.join hP77
  replace S77 : St wb70 Xb70 [c_77, cz_77, c65_70, c2_70] w77 := S77
  refine W_v rfl rfl (V_mov rfl (et rfl)) ?_
  refine W_v rfl rfl (V_ext (v := .agg #[v_77, z_77]) rfl (et rfl) rfl) ?_
  refine W_v rfl rfl (V_ext (v := .int .i64 ((prS C N Z K Q V ms (k : Int)))) rfl (es rfl (et rfl)) rfl) ?_
  refine W_v rfl rfl (V_ext (v := .int .i64 ((frE C N Z K Q V ms (k : Int)))) rfl (es2 rfl (et rfl)) rfl) ?_
  refine W_allocS (z := .agg #[.slice none 0 0, .slice none 0 0]) (zs := #[.slice none 0 0, .slice none 0 0]) S77 rfl rfl rfl (by kernel_rfl) (by rfl) (fun g78 w78 c78 hc78 S78 => ?_)
  replace S78 : St wb70 Xb70 [c78, c_77, cz_77, c65_70, c2_70] w78 := S78
  refine W_stAS 0 S78 rfl hc78 rfl rfl rfl (et rfl) (es3 rfl (et rfl)) (by simp only [List.all_toArray, List.all_cons, List.all_nil, rmO_one (S78.chq 1 rfl hc_77), SlN_one (ow_at (S78.chq 2 rfl hcz_77))] <;> rfl) (by rfl) (by kernel_rfl) (fun w79 c79 hc79 S79 => ?_)
  replace S79 : St wb70 Xb70 [c79, c_77, cz_77, c65_70, c2_70] w79 := S79
  refine W_v rfl rfl (V_asg rfl (es2 rfl (et rfl))) ?_
  refine W_v rfl rfl (V_asg rfl (es2 rfl (et rfl))) ?_
  refine W_end (gen_Q fun A80 E80 => ?_)
  have hsz80 := szq E80
  have F80 := fsE E80 (ck (ck (ck (cq1 (cq8 F73 rfl) rfl) rfl rfl) rfl rfl) rfl rfl)
  clear E80 hsz73 F73
  refine tk H76 ?_
  refine wp_seq_k fun K81 H81 => ?_
  refine wp_seq_k fun K82 H82 => ?_
  refine region_in ?_
  refine W_v rfl rfl (V_mov rfl (fg0 F80)) ?_
  refine W_v rfl rfl (V_neq rfl (et rfl) rfl) ?_
  refine W_end (gen_Q fun A83 E83 => ?_)
  have hsz83 := szq E83
  have F83 := fsE E83 (ck (cq1 F80 rfl) rfl rfl)
  clear E83 hsz80 F80
  refine tk H82 ?_
  refine cond_not (fg0 F83) (by rw [decide_eq_false_iff_not]; rw [fd1]; simp) ?_
  refine wp_skip ?_
  refine tk H81 ?_
  refine region_in ?_
  refine W_r rfl rfl (VR_ldA rfl (fg3 F83) (S79.obj 0 rfl hc79) Try.underlying29 rfl (by kernel_rfl)) ?_
  refine W_v rfl rfl (V_mov rfl (es rfl (fg5 F83))) ?_
  refine W_v rfl rfl (V_mov rfl (es2 rfl (fg2 F83))) ?_
  refine W_v rfl rfl (V_add rfl (es rfl (et rfl)) (et rfl) (by omega) (by omega)) ?_
  refine W_stAS 3 S79 rfl hc65_70 rfl rfl rfl (es4 rfl (fg6 F83)) (es3 rfl (et rfl)) (by simp only [List.all_toArray, List.all_cons, List.all_nil, rmO_one (S79.chq 1 rfl hc_77), SlN_one (ow_at (S79.chq 2 rfl hcz_77))] <;> rfl) (by rfl) (by kernel_rfl) (fun w84 c84 hc84 S84 => ?_)
  replace S84 : St wb70 Xb70 [c79, c_77, cz_77, c84, c2_70] w84 := S84
  refine W_v rfl rfl (V_asg rfl (et rfl)) ?_
  refine W_end (gen_Q fun A85 E85 => ?_)
  have hsz85 := szq E85
  have F85 := fsE E85 (ck (cq4 (fx5 F83) rfl) rfl rfl)
  clear E85 hsz83 F83
  have S86 : St wb70 Xb70 [c_77, cz_77, c84, c2_70] w84 := S84.sel [1, 2, 3, 4] (by decide) rfl
  refine inb_n ?_
  refine tk H75 ?_
  refine region_in ?_
  refine W_v rfl rfl (V_mov rfl (fg5 F85)) ?_
  refine W_v rfl rfl (V_add rfl (et rfl) rfl (by omega) (by omega)) ?_
  refine W_v rfl rfl (V_asg rfl (et rfl)) ?_
  refine W_end (gen_Q fun A87 E87 => ?_)
  have hsz87 := szq E87
  have F87 := fsE E87 (ck (cq2 (fx5 F85) rfl) rfl rfl)
  clear E87 hsz85 F85
  have S88 : St wb70 Xb70 [c84, c2_70, c_77, cz_77] w84 := S86.sel [2, 3, 0, 1] (by decide) rfl
  obtain ⟨Y89, S89, hY89, hF89, hB89⟩ := St.call (pre := [c84, c2_70]) (fr := [c_77, cz_77]) S88
  refine then_n ⟨N.toNat - (k + 1), by simp only [hm70]; omega, hsz87, F87.d, w84, Y89, (k + 1), (prC C N Z K Q V ms (k : Int)), (prN C N Z K Q V ms (k : Int)), (n + (prS C N Z K Q V ms (k : Int))), v_77, z_77, (fun _ _ h => back70 _ _ (hB89 _ _ h).left), (hY89 _ h_cv_70), (hY89 _ h_nv_70), (hc_77 ▸ hF89 0 _ rfl).rm, (hcz_77 ▸ hF89 1 _ rfl).own, rfl, (by omega), fd3, (by omega), (cars_zs hW hkr hz), (((fg0 F87)).trans (by first | rfl | (simp; done) | (congr 1; omega))), (((fg1 F87)).trans (by first | rfl | (simp; done) | (congr 1; omega))), (((fg8 F87)).trans (fg24 F69).symm), (((fg7 F87)).trans (fg5 F69).symm), (((fg6 F87)).trans (fg2 F69).symm), (by subst hc84 hc2_70; exact S89)⟩
 obtain ⟨fe1, fe2⟩ := cars_end hW (fun j y h1 h2 => by have := hz j y h1 h2; omega)
 refine wp_exit ?_
 refine then_exit ?_
 refine then_exit ?_
 refine inb_hit ?_
 refine tk H67 ?_
 refine wp_seq_k fun K90 H90 => ?_
 refine region_in ?_
 refine W_v rfl rfl (V_fa (off' := 0) rfl (fg4 F73) Try.underlying31 rfl (by decide +kernel) rfl) ?_
 refine W_r rfl rfl (VR_ldP (ys := [.int .i64 (C), .int .i64 (N), .int .i64 (Z), .int .i64 (K), .int .i64 (Q)]) rfl (et rfl) (S70.obj 1 rfl hc2_70) (ldP_at rfl) Try.underlying23 rfl (by kernel_rfl)) ?_
 refine W_call rfl rfl rfl Try.func16 (by kernel_rfl) rfl (args1 (et rfl)) (kNew8_c (C := C) (N := N) (Z := Z) (K := K) (Q := Q)  ) ?_
 rintro _ w91 ⟨v_91, z_91, rfl, hP91⟩
 refine ⟨_, rfl, ?_⟩
 obtain ⟨c_91, cz_91, hc_91, hcz_91, hP91⟩ := gen2 hP91
 have S91 := S70.join hP91
 replace S91 : St wb70 Xb70 [c_91, cz_91, c65_70, c2_70] w91 := S91
 refine W_v rfl rfl (V_mov rfl (et rfl)) ?_
 refine W_v rfl rfl (V_ext (v := .agg #[v_91, z_91]) rfl (et rfl) rfl) ?_
 refine W_v rfl rfl (V_ext (v := .int .i64 ((cfE C N Z K Q))) rfl (es rfl (et rfl)) rfl) ?_
 refine W_allocS (z := .agg #[.slice none 0 0, .slice none 0 0]) (zs := #[.slice none 0 0, .slice none 0 0]) S91 rfl rfl rfl (by kernel_rfl) (by rfl) (fun g92 w92 c92 hc92 S92 => ?_)
 replace S92 : St wb70 Xb70 [c92, c_91, cz_91, c65_70, c2_70] w92 := S92
 refine W_stAS 0 S92 rfl hc92 rfl rfl rfl (et rfl) (es2 rfl (et rfl)) (by simp only [List.all_toArray, List.all_cons, List.all_nil, rmO_one (S92.chq 1 rfl hc_91), SlN_one (ow_at (S92.chq 2 rfl hcz_91))] <;> rfl) (by rfl) (by kernel_rfl) (fun w93 c93 hc93 S93 => ?_)
 replace S93 : St wb70 Xb70 [c93, c_91, cz_91, c65_70, c2_70] w93 := S93
 refine W_v rfl rfl (V_asg rfl (es rfl (et rfl))) ?_
 refine W_end (gen_Q fun A94 E94 => ?_)
 have hsz94 := szq E94
 have F94 := fsE E94 (cq1 (ck (cq6 F73 rfl) rfl rfl) rfl)
 clear E94 hsz73 F73
 have S95 : St wb70 Xb70 [c93, c_91, cz_91, c65_70] w93 := S93.sel [0, 1, 2, 3] (by decide) rfl
 refine tk H90 ?_
 refine wp_seq_k fun K96 H96 => ?_
 refine region_in ?_
 refine W_v rfl rfl (V_mov rfl (fg2 F94)) ?_
 refine W_v rfl rfl (V_mov rfl (es rfl (fg4 F94))) ?_
 refine W_v rfl rfl (V_eql rfl (es rfl (et rfl)) (et rfl)) ?_
 refine W_sure (c' := true) rfl rfl (V_mov rfl (et rfl)) (by rw [decide_eq_true_eq]; omega) ?_
 refine W_r rfl (wanted_t rfl rfl (et rfl) (ez rfl)) (VR_ldA rfl (es4 rfl (fg3 F94)) (S95.obj 3 rfl hc65_70) Try.underlying29 rfl (by kernel_rfl)) ?_
 refine W_r rfl (wanted_t rfl rfl (es rfl (et rfl)) (ez rfl)) (VR_ldA rfl (es5 rfl (fg0 F94)) (S95.obj 0 rfl hc93) Try.underlying29 rfl (by kernel_rfl)) ?_
 refine W_call rfl (wanted_t rfl rfl (es2 rfl (et rfl)) (ez rfl)) rfl Try.func17 (by kernel_rfl) rfl (args2 (es rfl (et rfl)) (et rfl)) (kSm8_c (S95.roC r1) (S95.roC r2) (S95.chC 1 rfl hc_91).rm (S95.chC 2 rfl hcz_91).own ) ?_
 rintro _ w97 ⟨rfl, hP97⟩
 refine ⟨_, rfl, ?_⟩
 have S97 := S95.join hP97
 replace S97 : St wb70 Xb70 [c93, c_91, cz_91, c65_70] w97 := S97
 refine W_v rfl rfl (V_pickT rfl (es3 rfl (et rfl)) (et rfl)) ?_
 refine W_sure (c' := true) rfl rfl (V_mov rfl (et rfl)) (fe2) ?_
 refine W_call rfl (wanted_t rfl rfl (et rfl) (ez rfl)) rfl Try.func10 (by kernel_rfl) rfl (args0) (lawk_c  ) ?_
 rintro _ w98 ⟨rfl, hP98⟩
 refine ⟨_, rfl, ?_⟩
 have S98 := S97.join hP98
 replace S98 : St wb70 Xb70 [c93, c_91, cz_91, c65_70] w98 := S98
 refine W_v rfl rfl (V_pickT rfl (es rfl (et rfl)) (et rfl)) ?_
 refine W_v rfl rfl (V_asg rfl (et rfl)) ?_
 refine W_end (gen_Q fun A99 E99 => ?_)
 have hsz99 := szq E99
 have F99 := fsE E99 (ck (cq3 (cq8 F94 rfl) rfl) rfl rfl)
 clear E99 hsz94 F94
 have S100 : St wb70 Xb70 [] w98 := S98.sel [] (by decide) rfl
 refine tk H96 ?_
 refine wp_ret ?_
 refine ret_in (results_1 Try.results3 (rv_tmp (fg0 F99))) F99.d ?_
 exact ⟨rfl, (back70 _ _ S100.fin0)⟩

end Go.Proofs.Yteppjefmlibmoaa