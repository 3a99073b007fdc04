import Derived.Test.YteppjefmlibmoaaProg
import Derived.Test.YteppjefmlibmoaaRl8
namespace Go.Proofs.Yteppjefmlibmoaa
open Go.RowKit Go.Own Go.Own.R Go.Own.S Go.Own.E


set_option maxHeartbeats 4000000 in
theorem RemsetLists_c {C : Int} {N : Int} {Z : Int} {K : Int} {Q : Int} {cv : Value} {X : List (List Int)} {nv : Value} {ns : List Int} {i : Int} {w : World} (h_cv : Ro w NoX (rmR cv X)) (h_nv : Ro w NoX (il .i64 nv ns))  :
  Calls Try.prog 8 #[.agg #[.int .i64 C, .int .i64 N, .int .i64 Z, .int .i64 K, .int .i64 Q, cv, nv], .int .i64 i] w fun e w' => e = .returned (.bool true) ∧ St w NoX [] w' := by
 refine calls_in 86 Try.func8 rfl rfl (by simp) (fun A0 Y0 hdf0 hargs => ?_)
 have l0_0 := hargs 0 (.agg #[.int .i64 C, .int .i64 N, .int .i64 Z, .int .i64 K, .int .i64 Q, cv, nv]) rfl
 have l1_0 := hargs 1 (.int .i64 i) rfl
 clear hargs; replace Y0 : SzN A0 86 := ⟨Y0⟩
 have hS := St.nil w
 have bh_nv := SlN.le (sl_SlN h_nv.at)
 refine wp_seq_k fun K1 H1 => ?_
 refine region_in ?_
 refine W_boxS (zs := #[.int .i64 (C), .int .i64 (N), .int .i64 (Z), .int .i64 (K), .int .i64 (Q), cv, nv]) hS rfl rfl rfl l0_0 (by rfl) (fun g2 w2 c2 hc2 S2 => ?_)
 replace S2 : St w NoX [c2] w2 := S2
 refine W_v rfl rfl (V_asg rfl rfl) ?_
 refine W_end (gen_Q fun A3 E3 => ?_)
 have Y3 := szq E3
 have F3 := (fsE E3 (cq1 (ck (FS.n hdf0) rfl rfl) rfl)).c (lookE E3 1 (es2 rfl l1_0))
 clear E3 Y0 hdf0 l0_0 l1_0
 refine tk H1 ?_
 refine wp_seq_k fun K4 H4 => ?_
 refine wp_seq_k fun K5 H5 => ?_
 refine region_in ?_
 refine W_v rfl rfl (V_fa (off' := 5) rfl (fg1 F3) Try.underlying31 rfl (by decide +kernel) rfl) ?_
 refine W_r rfl rfl (VR_ldP (ys := [cv, nv]) rfl (et rfl) (S2.obj 0 rfl hc2) (ldP_at rfl) Try.underlying29 rfl (by kernel_rfl)) ?_
 refine W_call rfl rfl rfl Try.func9 (by kernel_rfl) rfl (args1 (et rfl)) (lFar_c (S2.roC h_cv) (S2.roC h_nv) ) ?_
 rintro _ w6 ⟨rfl, hP6⟩
 refine ⟨_, rfl, ?_⟩
 have S6 := S2.join hP6
 replace S6 : St w NoX [c2] w6 := S6
 refine W_end (gen_Q fun A7 E7 => ?_)
 have Y7 := szq E7
 have F7 := fsE E7 (ck (cq2 F3 rfl) rfl rfl)
 clear E7 Y3 F3
 refine tk H5 ?_
 refine cond_b (fg0 F7) (fun c8 => ?_) (fun c8 => ?_)
 ·refine wp_seq_k fun K9 H9 => ?_
  refine region_in ?_
  refine W_call rfl rfl rfl Try.func10 (by kernel_rfl) rfl (args0) (lawk_c  ) ?_
  rintro _ w10 ⟨rfl, hP10⟩
  refine ⟨_, rfl, ?_⟩
  have S10 := S6.join hP10
  replace S10 : St w NoX [c2] w10 := S10
  refine W_v rfl rfl (V_asg rfl (et rfl)) ?_
  refine W_end (gen_Q fun A11 E11 => ?_)
  have Y11 := szq E11
  have F11 := fsE E11 (ck (cq1 F7 rfl) rfl rfl)
  clear E11 Y7 F7
  have S12 : St w NoX [] w10 := S10.sel [] (by decide) rfl
  refine tk H9 ?_
  refine wp_ret ?_
  refine then_ret ?_
  refine ret_in (results_1 Try.results8 (rv_tmp (fg0 F11))) F11.d ?_
  exact ⟨rfl, S12.fin0⟩
 obtain ⟨hfx, hfr, hfn⟩ := far_ok (by simpa using c8)
 have hxl : X.length ≤ 1000000 := by omega
 refine wp_skip ?_
 refine tk H4 ?_
 refine wp_seq_k fun K13 H13 => ?_
 refine region_in ?_
 refine W_v rfl rfl (V_fa (off' := 5) rfl (fg2 F7) Try.underlying31 rfl (by decide +kernel) rfl) ?_
 refine W_r rfl rfl (VR_ldP (ys := [cv, nv]) rfl (et rfl) (S6.obj 0 rfl hc2) (ldP_at rfl) Try.underlying29 rfl (by kernel_rfl)) ?_
 refine W_v rfl rfl (V_mov rfl (es2 rfl (fg1 F7))) ?_
 refine W_call rfl rfl rfl Try.func12 (by kernel_rfl) rfl (args2 (es rfl (et rfl)) (et rfl)) (kIn8_c (i := i) (S6.roC h_cv) (S6.roC h_nv) ) ?_
 rintro _ w14 ⟨v_14, rfl, hP14⟩
 refine ⟨_, rfl, ?_⟩
 obtain ⟨c_14, hc_14, hP14⟩ := gen1 hP14
 have S14 := S6.join hP14
 replace S14 : St w NoX [c_14, c2] w14 := S14
 refine W_v rfl rfl (V_mov rfl (et rfl)) ?_
 refine W_v rfl rfl (V_ext (v := v_14) rfl (et rfl) rfl) ?_
 refine W_v rfl rfl (V_ext (v := .int .i64 ((itE X i))) rfl (es rfl (et rfl)) rfl) ?_
 refine W_v rfl rfl (V_asg rfl (es rfl (et rfl))) ?_
 refine W_v rfl rfl (V_asg rfl (es rfl (et rfl))) ?_
 refine W_end (gen_Q fun A15 E15 => ?_)
 have Y15 := szq E15
 have F15 := fsE E15 (ck (ck (cq7 F7 rfl) rfl rfl) rfl rfl)
 clear E15 Y7 F7
 refine tk H13 ?_
 refine wp_seq_k fun K16 H16 => ?_
 refine region_in ?_
 refine W_v rfl rfl (V_fa (off' := 5) rfl (fg4 F15) Try.underlying31 rfl (by decide +kernel) rfl) ?_
 refine W_r rfl rfl (VR_ldP (ys := [cv, nv]) rfl (et rfl) (S14.obj 1 rfl hc2) (ldP_at rfl) Try.underlying29 rfl (by kernel_rfl)) ?_
 refine W_v rfl rfl (V_mov rfl (es2 rfl (fg3 F15))) ?_
 refine W_call rfl rfl rfl Try.func33 (by kernel_rfl) rfl (args2 (es rfl (et rfl)) (et rfl)) (qIn8_c (i := i) (S14.roC h_cv) (S14.roC h_nv) ) ?_
 rintro _ w17 ⟨v_17, rfl, hP17⟩
 refine ⟨_, rfl, ?_⟩
 obtain ⟨c_17, hc_17, hP17⟩ := gen1 hP17
 have S17 := S14.join hP17
 replace S17 : St w NoX [c_17, c_14, c2] w17 := S17
 refine W_v rfl rfl (V_mov rfl (et rfl)) ?_
 refine W_v rfl rfl (V_ext (v := v_17) rfl (et rfl) rfl) ?_
 refine W_v rfl rfl (V_ext (v := .int .i64 ((itE X i))) rfl (es rfl (et rfl)) rfl) ?_
 refine W_v rfl rfl (V_asg rfl (es rfl (et rfl))) ?_
 refine W_v rfl rfl (V_asg rfl (es rfl (et rfl))) ?_
 refine W_end (gen_Q fun A18 E18 => ?_)
 have Y18 := szq E18
 have F18 := fsE E18 (ck (ck (cq7 F15 rfl) rfl rfl) rfl rfl)
 clear E18 Y15 F15
 refine tk H16 ?_
 refine wp_seq_k fun K19 H19 => ?_
 refine wp_seq_k fun K20 H20 => ?_
 refine region_in ?_
 refine W_v rfl rfl (V_mov rfl (fg3 F18)) ?_
 refine W_v rfl rfl (V_mov rfl (es rfl (fg1 F18))) ?_
 refine W_call rfl rfl rfl Try.func26 (by kernel_rfl) rfl (args2 (es rfl (et rfl)) (et rfl)) (qInts_c (S17.chC 1 rfl hc_14).own (S17.chC 0 rfl hc_17).own ) ?_
 rintro _ w21 ⟨rfl, hP21⟩
 refine ⟨_, rfl, ?_⟩
 have S21 := S17.join hP21
 replace S21 : St w NoX [c_17, c_14, c2] w21 := S21
 refine W_v rfl rfl (V_notd rfl (et rfl)) ?_
 refine W_sure (c' := false) rfl rfl (V_mov rfl (et rfl)) (by simp) ?_
 refine W_v rfl (wanted_t rfl rfl (et rfl) (ez rfl)) (V_mov rfl (es5 rfl (fg2 F18))) ?_
 refine W_v rfl (wanted_t rfl rfl (es rfl (et rfl)) (ez rfl)) (V_mov rfl (es6 rfl (fg0 F18))) ?_
 refine W_v rfl (wanted_t rfl rfl (es2 rfl (et rfl)) (ez rfl)) (V_neq rfl (es rfl (et rfl)) (et rfl)) ?_
 refine W_v rfl rfl (V_pickF rfl (es3 rfl (et rfl)) (et rfl)) ?_
 refine W_end (gen_Q fun A22 E22 => ?_)
 have Y22 := szq E22
 have F22 := fsE E22 (ck (cq8 F18 rfl) rfl rfl)
 clear E22 Y18 F18
 have S23 : St w NoX [c2] w21 := S21.sel [2] (by decide) rfl
 refine tk H20 ?_
 refine cond_not (fg0 F22) (by simp) ?_
 refine wp_skip ?_
 refine tk H19 ?_
 refine wp_seq_k fun K24 H24 => ?_
 refine region_in ?_
 refine W_v rfl rfl (V_fa (off' := 5) rfl (fg7 F22) Try.underlying31 rfl (by decide +kernel) rfl) ?_
 refine W_r rfl rfl (VR_ldP (ys := [cv, nv]) rfl (et rfl) (S23.obj 0 rfl hc2) (ldP_at rfl) Try.underlying29 rfl (by kernel_rfl)) ?_
 refine W_call rfl rfl rfl Try.func34 (by kernel_rfl) rfl (args1 (et rfl)) (kYg8_c (S23.roC h_cv) (S23.roC h_nv) ) ?_
 rintro _ w25 ⟨v_25, rfl, hP25⟩
 refine ⟨_, rfl, ?_⟩
 obtain ⟨c_25, hc_25, hP25⟩ := gen1 hP25
 have S25 := S23.join hP25
 replace S25 : St w NoX [c_25, c2] w25 := S25
 refine W_v rfl rfl (V_mov rfl (et rfl)) ?_
 refine W_v rfl rfl (V_ext (v := v_25) rfl (et rfl) rfl) ?_
 refine W_v rfl rfl (V_ext (v := .int .i64 ((ckS ns).2)) rfl (es rfl (et rfl)) rfl) ?_
 refine W_v rfl rfl (V_asg rfl (es rfl (et rfl))) ?_
 refine W_v rfl rfl (V_asg rfl (es rfl (et rfl))) ?_
 refine W_end (gen_Q fun A26 E26 => ?_)
 have Y26 := szq E26
 have F26 := fsE E26 (ck (ck (cq6 (fx3 (fx3 F22)) rfl) rfl rfl) rfl rfl)
 clear E26 Y22 F22
 refine tk H24 ?_
 refine wp_seq_k fun K27 H27 => ?_
 refine region_in ?_
 refine W_v rfl rfl (V_fa (off' := 5) rfl (fg7 F26) Try.underlying31 rfl (by decide +kernel) rfl) ?_
 refine W_r rfl rfl (VR_ldP (ys := [cv, nv]) rfl (et rfl) (S25.obj 1 rfl hc2) (ldP_at rfl) Try.underlying29 rfl (by kernel_rfl)) ?_
 refine W_call rfl rfl rfl Try.func35 (by kernel_rfl) rfl (args1 (et rfl)) (qYg8_c (S25.roC h_cv) (S25.roC h_nv) ) ?_
 rintro _ w28 ⟨v_28, rfl, hP28⟩
 refine ⟨_, rfl, ?_⟩
 obtain ⟨c_28, hc_28, hP28⟩ := gen1 hP28
 have S28 := S25.join hP28
 replace S28 : St w NoX [c_28, c_25, c2] w28 := S28
 refine W_v rfl rfl (V_mov rfl (et rfl)) ?_
 refine W_v rfl rfl (V_ext (v := v_28) rfl (et rfl) rfl) ?_
 refine W_v rfl rfl (V_ext (v := .int .i64 ((ckS ns).2)) rfl (es rfl (et rfl)) rfl) ?_
 refine W_v rfl rfl (V_asg rfl (es rfl (et rfl))) ?_
 refine W_v rfl rfl (V_asg rfl (es rfl (et rfl))) ?_
 refine W_end (gen_Q fun A29 E29 => ?_)
 have Y29 := szq E29
 have F29 := fsE E29 (ck (ck (cq6 (fx3 (fx3 F26)) rfl) rfl rfl) rfl rfl)
 clear E29 Y26 F26
 refine tk H27 ?_
 refine wp_seq_k fun K30 H30 => ?_
 refine wp_seq_k fun K31 H31 => ?_
 refine region_in ?_
 refine W_v rfl rfl (V_mov rfl (fg3 F29)) ?_
 refine W_v rfl rfl (V_mov rfl (es rfl (fg1 F29))) ?_
 refine W_call rfl rfl rfl Try.func26 (by kernel_rfl) rfl (args2 (es rfl (et rfl)) (et rfl)) (qInts_c (S28.chC 1 rfl hc_25).own (S28.chC 0 rfl hc_28).own ) ?_
 rintro _ w32 ⟨rfl, hP32⟩
 refine ⟨_, rfl, ?_⟩
 have S32 := S28.join hP32
 replace S32 : St w NoX [c_28, c_25, c2] w32 := S32
 refine W_v rfl rfl (V_notd rfl (et rfl)) ?_
 refine W_sure (c' := false) rfl rfl (V_mov rfl (et rfl)) (by simp) ?_
 refine W_v rfl (wanted_t rfl rfl (et rfl) (ez rfl)) (V_mov rfl (es5 rfl (fg2 F29))) ?_
 refine W_v rfl (wanted_t rfl rfl (es rfl (et rfl)) (ez rfl)) (V_mov rfl (es6 rfl (fg0 F29))) ?_
 refine W_v rfl (wanted_t rfl rfl (es2 rfl (et rfl)) (ez rfl)) (V_neq rfl (es rfl (et rfl)) (et rfl)) ?_
 refine W_v rfl rfl (V_pickF rfl (es3 rfl (et rfl)) (et rfl)) ?_
 refine W_end (gen_Q fun A33 E33 => ?_)
 have Y33 := szq E33
 have F33 := fsE E33 (ck (cq8 F29 rfl) rfl rfl)
 clear E33 Y29 F29
 have S34 : St w NoX [c2] w32 := S32.sel [2] (by decide) rfl
 refine tk H31 ?_
 refine cond_not (fg0 F33) (by simp) ?_
 refine wp_skip ?_
 refine tk H30 ?_
 refine wp_seq_k fun K35 H35 => ?_
 refine region_in ?_
 refine W_v rfl rfl (V_fa (off' := 0) rfl (fg8 F33) Try.underlying31 rfl (by decide +kernel) rfl) ?_
 refine W_r rfl rfl (VR_ldP (ys := [.int .i64 (C), .int .i64 (N), .int .i64 (Z), .int .i64 (K), .int .i64 (Q)]) rfl (et rfl) (S34.obj 0 rfl hc2) (ldP_at rfl) Try.underlying23 rfl (by kernel_rfl)) ?_
 refine W_v rfl rfl (V_fa (off' := 5) rfl (es2 rfl (fg8 F33)) Try.underlying31 rfl (by decide +kernel) rfl) ?_
 refine W_r rfl rfl (VR_ldP (ys := [cv, nv]) rfl (et rfl) (S34.obj 0 rfl hc2) (ldP_at rfl) Try.underlying29 rfl (by kernel_rfl)) ?_
 refine W_v rfl rfl (V_mov rfl (es4 rfl (fg7 F33))) ?_
 refine W_call rfl rfl rfl Try.func13 (by kernel_rfl) rfl (args3 (es3 rfl (et rfl)) (es rfl (et rfl)) (et rfl)) (kFr8_c (C := C) (N := N) (Z := Z) (K := K) (Q := Q) (i := i) (S34.roC h_cv) (S34.roC h_nv) ) ?_
 rintro _ w36 ⟨v_36, rfl, hP36⟩
 refine ⟨_, rfl, ?_⟩
 obtain ⟨c_36, hc_36, hP36⟩ := gen1 hP36
 have S36 := S34.join hP36
 replace S36 : St w NoX [c_36, c2] w36 := S36
 refine W_v rfl rfl (V_mov rfl (et rfl)) ?_
 refine W_v rfl rfl (V_ext (v := v_36) rfl (et rfl) rfl) ?_
 refine W_v rfl rfl (V_ext (v := .int .i64 ((frE C N Z K Q X ns i))) rfl (es rfl (et rfl)) rfl) ?_
 refine W_v rfl rfl (V_asg rfl (es rfl (et rfl))) ?_
 refine W_v rfl rfl (V_asg rfl (es rfl (et rfl))) ?_
 refine W_end (gen_Q fun A37 E37 => ?_)
 have Y37 := szq E37
 have F37 := fsE E37 (ck (ck (cq1 (cq8 (fx3 (fx3 F33)) rfl) rfl) rfl rfl) rfl rfl)
 clear E37 Y33 F33
 refine tk H35 ?_
 refine wp_seq_k fun K38 H38 => ?_
 refine region_in ?_
 refine W_v rfl rfl (V_fa (off' := 0) rfl (fg8 F37) Try.underlying31 rfl (by decide +kernel) rfl) ?_
 refine W_r rfl rfl (VR_ldP (ys := [.int .i64 (C), .int .i64 (N), .int .i64 (Z), .int .i64 (K), .int .i64 (Q)]) rfl (et rfl) (S36.obj 1 rfl hc2) (ldP_at rfl) Try.underlying23 rfl (by kernel_rfl)) ?_
 refine W_v rfl rfl (V_fa (off' := 5) rfl (es2 rfl (fg8 F37)) Try.underlying31 rfl (by decide +kernel) rfl) ?_
 refine W_r rfl rfl (VR_ldP (ys := [cv, nv]) rfl (et rfl) (S36.obj 1 rfl hc2) (ldP_at rfl) Try.underlying29 rfl (by kernel_rfl)) ?_
 refine W_v rfl rfl (V_mov rfl (es4 rfl (fg7 F37))) ?_
 refine W_call rfl rfl rfl Try.func36 (by kernel_rfl) rfl (args3 (es3 rfl (et rfl)) (es rfl (et rfl)) (et rfl)) (qFr8_c (C := C) (N := N) (Z := Z) (K := K) (Q := Q) (i := i) (S36.roC h_cv) (S36.roC h_nv) ) ?_
 rintro _ w39 ⟨v_39, rfl, hP39⟩
 refine ⟨_, rfl, ?_⟩
 obtain ⟨c_39, hc_39, hP39⟩ := gen1 hP39
 have S39 := S36.join hP39
 replace S39 : St w NoX [c_39, c_36, c2] w39 := S39
 refine W_v rfl rfl (V_mov rfl (et rfl)) ?_
 refine W_v rfl rfl (V_ext (v := v_39) rfl (et rfl) rfl) ?_
 refine W_v rfl rfl (V_ext (v := .int .i64 ((frE C N Z K Q X ns i))) rfl (es rfl (et rfl)) rfl) ?_
 refine W_v rfl rfl (V_asg rfl (es rfl (et rfl))) ?_
 refine W_v rfl rfl (V_asg rfl (es rfl (et rfl))) ?_
 refine W_end (gen_Q fun A40 E40 => ?_)
 have Y40 := szq E40
 have F40 := fsE E40 (ck (ck (cq1 (cq8 (fx3 (fx3 F37)) rfl) rfl) rfl rfl) rfl rfl)
 clear E40 Y37 F37
 have S41 : St w NoX [c_39, c_36] w39 := S39.sel [0, 1] (by decide) rfl
 refine tk H38 ?_
 refine wp_seq_k fun K42 H42 => ?_
 refine region_in ?_
 refine W_v rfl rfl (V_mov rfl (fg3 F40)) ?_
 refine W_v rfl rfl (V_mov rfl (es rfl (fg1 F40))) ?_
 refine W_call rfl rfl rfl Try.func26 (by kernel_rfl) rfl (args2 (es rfl (et rfl)) (et rfl)) (qInts_c (S41.chC 1 rfl hc_36).own (S41.chC 0 rfl hc_39).own ) ?_
 rintro _ w43 ⟨rfl, hP43⟩
 refine ⟨_, rfl, ?_⟩
 have S43 := S41.join hP43
 replace S43 : St w NoX [c_39, c_36] w43 := S43
 refine W_sure (c' := true) rfl rfl (V_mov rfl (et rfl)) (by simp) ?_
 refine W_v rfl (wanted_t rfl rfl (et rfl) (ez rfl)) (V_mov rfl (es4 rfl (fg2 F40))) ?_
 refine W_v rfl (wanted_t rfl rfl (es rfl (et rfl)) (ez rfl)) (V_mov rfl (es5 rfl (fg0 F40))) ?_
 refine W_v rfl (wanted_t rfl rfl (es2 rfl (et rfl)) (ez rfl)) (V_eql rfl (es rfl (et rfl)) (et rfl)) ?_
 refine W_v rfl rfl (V_pickT rfl (es3 rfl (et rfl)) (et rfl)) ?_
 refine W_sure (c' := true) rfl rfl (V_mov rfl (et rfl)) (by simp) ?_
 refine W_call rfl (wanted_t rfl rfl (et rfl) (ez rfl)) rfl Try.func10 (by kernel_rfl) rfl (args0) (lawk_c  ) ?_
 rintro _ w44 ⟨rfl, hP44⟩
 refine ⟨_, rfl, ?_⟩
 have S44 := S43.join hP44
 replace S44 : St w NoX [c_39, c_36] w44 := S44
 refine W_v rfl rfl (V_pickT rfl (es rfl (et rfl)) (et rfl)) ?_
 refine W_v rfl rfl (V_asg rfl (et rfl)) ?_
 refine W_end (gen_Q fun A45 E45 => ?_)
 have Y45 := szq E45
 have F45 := fsE E45 (ck (cq3 (cq8 F40 rfl) rfl) rfl rfl)
 clear E45 Y40 F40
 have S46 : St w NoX [] w44 := S44.sel [] (by decide) rfl
 refine tk H42 ?_
 refine wp_ret ?_
 refine ret_in (results_1 Try.results8 (rv_tmp (fg0 F45))) F45.d ?_
 exact ⟨rfl, S46.fin0⟩

end Go.Proofs.Yteppjefmlibmoaa