import Derived.Test.YteppjefmlibmoaaProg
import Derived.Test.YteppjefmlibmoaaRm1
import Derived.Test.YteppjefmlibmoaaSep8b
import Derived.Test.YteppjefmlibmoaaPl8b
namespace Go.Proofs.Yteppjefmlibmoaa
open Go.RowKit Go.Own Go.Own.R Go.Own.S Go.Own.E


set_option maxHeartbeats 4000000 in
theorem kNew8_c {C : Int} {N : Int} {Z : Int} {K : Int} {Q : Int} {w : World}   :
  Calls Try.prog 16 #[.agg #[.int .i64 C, .int .i64 N, .int .i64 Z, .int .i64 K, .int .i64 Q]] w fun e w' => ∃ v z, e = .returned (.tuple #[.agg #[v, z], .int .i64 (cfE C N Z K Q)]) ∧ St w NoX [rmO v (nwC C N Z K Q), io .i64 (z) (nwN C N Z K Q)] w' := by
 refine calls_in 31 Try.func16 rfl rfl (by simp) (fun A0 Y0 hdf0 hargs => ?_)
 have l0_0 := hargs 0 (.agg #[.int .i64 C, .int .i64 N, .int .i64 Z, .int .i64 K, .int .i64 Q]) rfl
 clear hargs; replace Y0 : SzN A0 31 := ⟨Y0⟩
 have hS := St.nil w
 refine wp_seq_k fun K1 H1 => ?_
 refine region_in ?_
 refine W_boxS (zs := #[.int .i64 (C), .int .i64 (N), .int .i64 (Z), .int .i64 (K), .int .i64 (Q)]) hS rfl rfl rfl l0_0 (by rfl) (fun g2 w2 c2 hc2 S2 => ?_)
 replace S2 : St w NoX [c2] w2 := S2
 refine W_allocS (z := .agg #[.slice none 0 0, .slice none 0 0]) (zs := #[.slice none 0 0, .slice none 0 0]) S2 rfl rfl rfl (by kernel_rfl) (by rfl) (fun g3 w3 c3 hc3 S3 => ?_)
 replace S3 : St w NoX [c3, c2] w3 := S3
 refine W_v rfl rfl (V_asg rfl rfl) ?_
 refine W_end (gen_Q fun A4 E4 => ?_)
 have Y4 := szq E4
 have F4 := fsE E4 (cq1 (ck (ck (FS.n hdf0) rfl rfl) rfl rfl) rfl)
 clear E4 Y0 hdf0 l0_0
 refine tk H1 ?_
 refine wp_seq_k fun K5 H5 => ?_
 refine wp_seq_k fun K6 H6 => ?_
 refine region_in ?_
 refine W_r rfl rfl (VR_ldA rfl (fg1 F4) (S3.obj 1 rfl hc2) Try.underlying23 rfl (by kernel_rfl)) ?_
 refine W_call rfl rfl rfl Try.func40 (by kernel_rfl) rfl (args1 (et rfl)) (kcfg_c (C := C) (N := N) (Z := Z) (K := K) (Q := Q)  ) ?_
 rintro _ w7 ⟨rfl, hP7⟩
 refine ⟨_, rfl, ?_⟩
 have S7 := S3.join hP7
 replace S7 : St w NoX [c3, c2] w7 := S7
 refine W_v rfl rfl (V_asg rfl (et rfl)) ?_
 refine W_end (gen_Q fun A8 E8 => ?_)
 have Y8 := szq E8
 have F8 := fsE E8 (ck (cq2 F4 rfl) rfl rfl)
 clear E8 Y4 F4
 refine tk H6 ?_
 refine wp_seq_k fun K9 H9 => ?_
 refine region_in ?_
 refine W_v rfl rfl (V_mov rfl (fg0 F8)) ?_
 refine W_v rfl rfl (V_neq rfl (et rfl) rfl) ?_
 refine W_end (gen_Q fun A10 E10 => ?_)
 have Y10 := szq E10
 have F10 := fsE E10 (ck (cq1 F8 rfl) rfl rfl)
 clear E10 Y8 F8
 refine tk H9 ?_
 refine cond_dec (fg0 F10) (fun c11 => ?_) (fun c11 => ?_)
 ·refine wp_seq_k fun K12 H12 => ?_
  refine region_in ?_
  refine W_v rfl rfl (V_bldS (n := 2) (z := .agg #[.slice none 0 0, .slice none 0 0]) rfl (parts0) (by kernel_rfl) (by simp only [List.all_cons, List.all_nil, Bool.and_true] <;> rfl) (by kernel_rfl) (by simp only [List.foldl_cons, List.foldl_nil, Value.cells, List.setIfInBounds_toArray, List.set_cons_succ, List.set_cons_zero] <;> rfl)) ?_
  refine W_v rfl rfl (V_mov rfl (es rfl (fg1 F10))) ?_
  refine W_stAS 0 S7 rfl hc3 rfl rfl rfl (es2 rfl (fg2 F10)) (es rfl (et rfl)) (by first | (rw [List.all_toArray] <;> rfl) | (simp only [List.all_toArray, List.all_cons, List.all_nil] <;> rfl)) (by rfl) (by kernel_rfl) (fun w13 c13 hc13 S13 => ?_)
  replace S13 : St w NoX [c13, c2] w13 := S13
  refine W_v rfl rfl (V_asg rfl (et rfl)) ?_
  refine W_end (gen_Q fun A14 E14 => ?_)
  have Y14 := szq E14
  have F14 := fsE E14 (ck (cq2 F10 rfl) rfl rfl)
  clear E14 Y10 F10
  have S15 : St w NoX [c13] w13 := S13.sel [0] (by decide) rfl
  refine tk H12 ?_
  refine wp_ret ?_
  refine then_ret ?_
  refine ret_in (results_2 Try.results16 (rv_cellA (fg3 F14) (S15.obj 0 rfl hc13) Try.underlying29 rfl (by kernel_rfl)) (rv_tmp (fg0 F14))) F14.d ?_
  obtain ⟨c16, hc16, S16⟩ := S15.rmNil
  obtain ⟨c17, hc17, S17⟩ := S16.pnil (s := 1)
  have hb := nw_e (show cfE C N Z K Q ≠ 0 by omega)
  exact ⟨_, _, rfl, (S17.fin2 1 rfl (hc16.trans (by rw [hb.1])) 0 rfl (hc17.trans (by rw [show nwN C N Z K Q = [] by exact hb.2] <;> rfl)) (by decide))⟩
 have hr := cf_rng (show cfE C N Z K Q = 0 by omega)
 have hlr : (List.replicate N.toNat nilp).length = N.toNat := List.length_replicate
 refine wp_skip ?_
 refine tk H5 ?_
 refine wp_seq_k fun K18 H18 => ?_
 refine region_monoS 6 7 [some (SPv [] (fun _ => fun u l' => ∃ v_s, u = .agg #[v_s] ∧ ∃ c_s, c_s = io .i64 (v_s) (List.replicate 8 (0 : Int)) ∧ l' = [c_s]) 0), none, none, some (SPv [] (fun _ => fun u l' => ∃ v, u = v ∧ ∃ b, b = owl .i64 (List.replicate N.toNat nilp) ∧ ∃ c, c = ro 1 fstC v (List.replicate N.toNat nilp) ∧ l' = [b, c]) 3), none, some (SPv [] (fun _ => fun u l' => ∃ g_, u = .pointer (some ⟨g_, 0, none⟩) ∧ ∃ c_, c_ = bx g_ 29 #[.slice none 0 0, .slice none 0 0] ∧ l' = [c_]) 5)] (by kernel_rfl) (by kernel_rfl) ?_
 refine D_call (ts := []) (vs := []) (C0 := fun _ => fun u l' => ∃ v_s, u = .agg #[v_s] ∧ ∃ c_s, c_s = io .i64 (v_s) (List.replicate 8 (0 : Int)) ∧ l' = [c_s]) (C := fun u l' => ∃ v_s, u = .agg #[v_s] ∧ ∃ c_s, c_s = io .i64 (v_s) (List.replicate 8 (0 : Int)) ∧ l' = [c_s]) rfl rfl rfl Try.func52 (by kernel_rfl) rfl (args0) rfl rfl rfl rfl (fun sx hx hF => ?_) (fun u19 l19 hu19 => ?_)
 ·refine (knew_c  ).mono ?_
  rintro _ _ ⟨v_19, rfl, hz⟩
  exact ⟨_, rfl, _, ⟨_, rfl, _, rfl, rfl⟩, hz⟩
 obtain ⟨v_19, rfl, c_19, hc_19, hl19⟩ := hu19
 refine D_v rfl rfl (V_fa (off' := 1) rfl (es rfl (fg3 F10)) Try.underlying23 rfl (by decide +kernel) rfl) rfl rfl ?_
 refine D_r rfl rfl (by kernel_rfl) (fun sx hx hF => (VR_ldC rfl (et rfl) (cell_box (v := .int .i64 (N)) ((S7.grow hx).obj 1 rfl hc2) rfl) Try.underlying3 rfl)) rfl rfl ?_
 refine D_lay (ts := []) (vs := []) (C0 := fun _ => fun u l' => ∃ v, u = v ∧ ∃ b, b = owl .i64 (List.replicate N.toNat nilp) ∧ ∃ c, c = ro 1 fstC v (List.replicate N.toNat nilp) ∧ l' = [b, c]) (C := fun u l' => ∃ v, u = v ∧ ∃ b, b = owl .i64 (List.replicate N.toNat nilp) ∧ ∃ c, c = ro 1 fstC v (List.replicate N.toNat nilp) ∧ l' = [b, c]) rfl rfl rfl rfl rfl rfl (fun sx hx hF => lay_mkSS (z := .agg #[.slice none 0 0]) (bytes := 24) N.toNat rfl (et rfl) (et rfl) (by omega) Try.underlying24 (by kernel_rfl) (by omega) rfl) (fun u20 l20 hu20 => ?_)
 obtain ⟨v20, rfl, cb20, hcb20, c20, hc20, hl20⟩ := hu20
 refine D_r rfl rfl (by kernel_rfl) (fun sx hx hF => by obtain ⟨ll20, ws20, we20, ⟨v20q, hq20, cb20_, hcb20_, c20_, hc20_, hl20_⟩, hm20, k20, e20⟩ := L.ancF_get hF (by kernel_rfl); cases hq20; subst hl20_; exact ((V_bldC (n := 2) (z := .agg #[.slice none 0 0, .slice none 0 0]) (cs := #[u20, v_19]) rfl (parts2 (es3 rfl (et rfl)) (et rfl)) (by kernel_rfl) (by simp only [List.all_cons, List.all_nil, one_cells (SlN_one (ow_at ((k20.grow e20).chq 1 rfl hc20_))), cells_agg] <;> rfl) (by kernel_rfl) (by simp only [List.foldl_cons, List.foldl_nil, one_cells (SlN_one (ow_at ((k20.grow e20).chq 1 rfl hc20_))), cells_agg, getD_one, List.setIfInBounds_toArray, List.set_cons_succ, List.set_cons_zero] <;> rfl) : Val _ _ _ _) _)) rfl rfl ?_
 refine D_lay (ts := []) (vs := []) (C0 := fun _ => fun u l' => ∃ g_, u = .pointer (some ⟨g_, 0, none⟩) ∧ ∃ c_, c_ = bx g_ 29 #[.slice none 0 0, .slice none 0 0] ∧ l' = [c_]) (C := fun u l' => ∃ g_, u = .pointer (some ⟨g_, 0, none⟩) ∧ ∃ c_, c_ = bx g_ 29 #[.slice none 0 0, .slice none 0 0] ∧ l' = [c_]) rfl rfl rfl rfl rfl rfl (fun sx hx hF => lay_alloc (z := .agg #[.slice none 0 0, .slice none 0 0]) rfl (by kernel_rfl) (by rfl)) (fun u21 l21 hu21 => ?_)
 obtain ⟨g21, rfl, c21, hc21, hl21⟩ := hu21
 refine D_eff rfl ?_
 refine ZS_eff S7 rfl rfl (fun s22 hJ22 hL22 hF22 => ?_)
 obtain ⟨ll19, ws19, we19, ⟨v_19q, hq19, c_19r, hc_19r, hl19r⟩, hm19, k19, e19⟩ := L.all_get (L.all_rest (L.all_rest hF22)); cases hq19; subst hl19r
 replace hJ22 := hJ22.add hL22 (i := 0) rfl hm19 k19 e19
 obtain ⟨ll20, ws20, we20, ⟨v20q, hq20, cb20r, hcb20r, c20r, hc20r, hl20r⟩, hm20, k20, e20⟩ := L.all_get (L.all_rest hF22); cases hq20; subst hl20r
 replace hJ22 := hJ22.add hL22 (i := 3) rfl hm20 k20 e20
 obtain ⟨ll21, ws21, we21, ⟨g21q, hq21, c21r, hc21r, hl21r⟩, hm21, k21, e21⟩ := L.all_get hF22; cases hq21; subst hl21r
 replace hJ22 := hJ22.add hL22 (i := 5) rfl hm21 k21 e21
 have S22 := hJ22.st; clear hF22 hJ22 hL22
 generalize s22.1 = w22 at *
 replace S22 : St w NoX [c21r, cb20r, c20r, c_19r, c3, c2] w22 := S22
 refine W_stAS 0 S22 rfl hc21r rfl rfl rfl (et rfl) (es rfl (et rfl)) (by simp only [List.all_toArray, List.all_cons, List.all_nil, SlN_one (ow_at (S22.chq 2 rfl hc20r)), SlN_one (ow_at (S22.chq 3 rfl hc_19r))] <;> rfl) (by rfl) (by kernel_rfl) (fun w23 c23 hc23 S23 => ?_)
 replace S23 : St w NoX [c23, cb20r, c20r, c_19r, c3, c2] w23 := S23
 refine W_end ?_
 refine Qo_normal ?_
 refine gen_Q (fun A24 E24 => ?_)
 have Y24 := szq E24
 have F24 := fsE E24 (ck (cq5 F10 rfl) rfl rfl)
 clear E24 Y10 F10
 have S25 : St w NoX [c23, cb20r, c20r, c_19r, c3] w23 := S23.sel [0, 1, 2, 3, 4] (by decide) rfl
 refine tk H18 ?_
 refine wp_seq_k fun K26 H26 => ?_
 refine wp_seq_k fun K27 H27 => ?_
 refine region_in ?_
 refine W_v rfl rfl (V_fa (off' := 0) rfl (fg0 F24) Try.underlying29 rfl (by decide +kernel) rfl) ?_
 refine W_r rfl rfl (VR_ldC rfl (et rfl) (cell_box (v := u20) (S25.obj 0 rfl hc23) rfl) Try.underlying24 rfl) ?_
 refine W_v rfl rfl (V_lenS rfl (et rfl) (ow_at (S25.chq 2 rfl hc20r)) Try.underlying24) ?_
 refine W_v rfl rfl (V_mov rfl rfl) ?_
 refine W_end (gen_Q fun A28 E28 => ?_)
 have Y28 := szq E28
 have F28 := fsE E28 (ck (ck (cq2 F24 rfl) rfl rfl) rfl rfl)
 clear E28 Y24 F24
 refine tk H27 ?_
 refine wp_block ?_
 -- loop 6
 refine loopX (fun mz A' w' => SzN A' 31 ∧ A'.defers = [] ∧ (∃ (k : Nat) (U : List SL), (mz = N.toNat - k) ∧ (k ≤ N.toNat) ∧ (csF U = nwK N.toNat k) ∧ (EV A' (.tmp 21) = .int .i64 (k : Int)) ∧ (EV A' (.tmp 2) = EV A28 (.tmp 2)) ∧ (EV A' (.tmp 5) = EV A28 (.tmp 5)) ∧ (EV A' (.tmp 20) = EV A28 (.tmp 20)) ∧ (St w NoX [bx g21 29 #[u20, v_19], owl .i64 U, ro 1 fstC u20 U, io .i64 v_19 (List.replicate 8 (0 : Int)), bx g3 29 #[.slice none 0 0, .slice none 0 0]] w'))) (N.toNat - 0) ⟨Y28, F28.d, 0, (List.replicate N.toNat nilp), rfl, (by omega), (csF_nils _), (((fg0 F28)).trans (by first | rfl | (simp; done) | (congr 1; omega))), rfl, rfl, rfl, (by have q0 := hc23; have q1 : cb20r = owl .i64 (List.replicate N.toNat nilp) := hcb20r.trans (rfl); have q2 : c20r = ro 1 fstC u20 (List.replicate N.toNat nilp) := hc20r.trans (rfl); have q3 := hc_19r; have q4 := hc3; subst q0 q1 q2 q3 q4; exact S25)⟩ ?_
 clear S25 hc23 hcb20r hc20r hc_19r hc3
 rintro n29 A29 w29 ⟨Y29, hdf29, k, U, hm29, hk, hU, l21_29, u2_29, u5_29, u20_29, S29⟩
 have l2_29 := u2_29.trans (fg5 F28)
 have l5_29 := u5_29.trans (fg2 F28)
 have l20_29 := u20_29.trans (fg1 F28)
 obtain ⟨c23_29, cb20r_29, c20r_29, c_19r_29, c3_29, hc23_29, hcb20r_29, hc20r_29, hc_19r_29, hc3_29, S29⟩ := gen5 S29
 refine wp_seq_k fun K30 H30 => ?_
 refine region_in ?_
 refine W_v rfl rfl (V_lss rfl l21_29 l20_29) ?_
 refine W_end (gen_Q fun A31 E31 => ?_)
 have Y31 := szq E31
 have F31 := ((((fsE E31 (ck (FS.n hdf29) rfl rfl)).c (lookE E31 2 (es rfl l2_29))).c (lookE E31 5 (es rfl l5_29))).c (lookE E31 20 (es rfl l20_29))).c (lookE E31 21 (es rfl l21_29))
 clear E31 Y29 hdf29 l21_29 l2_29 l5_29 l20_29
 refine tk H30 ?_
 refine wp_seq_k fun K32 H32 => ?_
 refine cond_dec (fg4 F31) (fun c33 => ?_) (fun c33 => ?_)
 ·have hUl := nwK_len hU (by omega)
  refine wp_skip ?_
  refine tk H32 ?_
  refine wp_seq_k fun K34 H34 => ?_
  refine wp_block ?_
  refine wp_seq_k fun K35 H35 => ?_
  refine region_in ?_
  refine W_v rfl rfl (V_mov rfl (fg0 F31)) ?_
  refine W_v rfl rfl (V_asg rfl (et rfl)) ?_
  refine W_end (gen_Q fun A36 E36 => ?_)
  have Y36 := szq E36
  have F36 := fsE E36 (ck (cq1 F31 rfl) rfl rfl)
  clear E36 Y31 F31
  refine tk H35 ?_
  refine region_monoS 5 6 [none, none, none, some (SPv [] (fun _ => fun u l' => ∃ v_s, u = .agg #[v_s] ∧ ∃ c_s, c_s = io .i64 (v_s) (List.replicate 8 (0 : Int)) ∧ l' = [c_s]) 3)] (by kernel_rfl) (by kernel_rfl) ?_
  refine D_v rfl rfl (V_fa (off' := 0) rfl (fg3 F36) Try.underlying29 rfl (by decide +kernel) rfl) rfl rfl ?_
  refine D_r rfl rfl (by kernel_rfl) (fun sx hx hF => (VR_ldC rfl (et rfl) (cell_box (v := u20) ((S29.grow hx).obj 0 rfl hc23_29) rfl) Try.underlying24 rfl)) rfl rfl ?_
  refine D_v rfl rfl (V_mov rfl (es2 rfl (fg0 F36))) rfl rfl ?_
  refine D_call (ts := []) (vs := []) (C0 := fun _ => fun u l' => ∃ v_s, u = .agg #[v_s] ∧ ∃ c_s, c_s = io .i64 (v_s) (List.replicate 8 (0 : Int)) ∧ l' = [c_s]) (C := fun u l' => ∃ v_s, u = .agg #[v_s] ∧ ∃ c_s, c_s = io .i64 (v_s) (List.replicate 8 (0 : Int)) ∧ l' = [c_s]) rfl rfl rfl Try.func52 (by kernel_rfl) rfl (args0) rfl rfl rfl rfl (fun sx hx hF => ?_) (fun u37 l37 hu37 => ?_)
  ·refine (knew_c  ).mono ?_
   rintro _ _ ⟨v_37, rfl, hz⟩
   exact ⟨_, rfl, _, ⟨_, rfl, _, rfl, rfl⟩, hz⟩
  obtain ⟨v_37, rfl, c_37, hc_37, hl37⟩ := hu37
  have k38 : k < U.length := by first | omega | (simp only [List.length_cons, List.length_nil]; omega) | (simp only [List.length_set]; omega) | decide
  obtain ⟨y38, hy38⟩ := get_some (xs := U) (k := k) k38
  obtain ⟨B38, O38, C38, hv38⟩ := (SlN.blk (ow_at (S29.chq 2 rfl hc20r_29)) (by first | omega | (simp only [List.length_cons, List.length_nil]; omega) | (simp only [List.length_set]; omega) | decide))
  refine D_v rfl rfl (V_ixS (off := O38 + k * 1) 1 (k) rfl (es2 rfl (et rfl)) (es rfl (et rfl)) hv38 (by omega) k38 Try.underlying24 (by kernel_rfl) rfl) rfl rfl ?_
  refine D_eff rfl ?_
  refine ZS_eff S29 rfl rfl (fun s39 hJ39 hL39 hF39 => ?_)
  obtain ⟨ll37, ws37, we37, ⟨v_37q, hq37, c_37r, hc_37r, hl37r⟩, hm37, k37, e37⟩ := L.all_get hF39; cases hq37; subst hl37r
  replace hJ39 := hJ39.add hL39 (i := 3) rfl hm37 k37 e37
  have S39 := hJ39.st; clear hF39 hJ39 hL39
  generalize s39.1 = w39 at *
  replace S39 : St w NoX [c_37r, c23_29, cb20r_29, c20r_29, c_19r_29, c3_29] w39 := S39
  have S41 := S39.sel [0, 2, 3, 1, 4, 5] (by decide) (l' := [c_37r, cb20r_29, c20r_29, c23_29, c_19r_29, c3_29]) rfl
  replace S41 : St w NoX [c_37r, cb20r_29, c20r_29, c23_29, c_19r_29, c3_29] w39 := S41
  refine W_stS1 (j := k) S41 hc_37r hcb20r_29 hc20r_29 hv38 rfl rfl rfl (et rfl) (es rfl (et rfl)) (SlN_one (ow_at (S41.chq 0 rfl hc_37r))) rfl (by omega) (by kernel_rfl) (fun w40 ca40 c40 hca40 hc40 S40 => ?_)
  have hsl40 : (U.set k (v_37, (List.replicate 8 (0 : Int)))).length = U.length := List.length_set ..
  replace S40 : St w NoX [ca40, c40, c23_29, c_19r_29, c3_29] w40 := S40
  refine W_end ?_
  refine Qo_normal ?_
  refine gen_Q (fun A42 E42 => ?_)
  have Y42 := szq E42
  have F42 := fsE E42 (cq5 F36 rfl)
  clear E42 Y36 F36
  refine inb_n ?_
  refine tk H34 ?_
  refine region_in ?_
  refine W_v rfl rfl (V_add rfl (fg1 F42) rfl (by omega) (by omega)) ?_
  refine W_v rfl rfl (V_mov rfl (et rfl)) ?_
  refine W_end (gen_Q fun A43 E43 => ?_)
  have Y43 := szq E43
  have F43 := fsE E43 (ck (cq1 (fx1 F42) rfl) rfl rfl)
  clear E43 Y42 F42
  have S44 : St w NoX [c23_29, ca40, c40, c_19r_29, c3_29] w40 := S40.sel [2, 0, 1, 3, 4] (by decide) rfl
  refine then_n ⟨N.toNat - (k + 1), by simp only [hm29]; omega, Y43, F43.d, (k + 1), (U.set k (v_37, (List.replicate 8 (0 : Int)))), rfl, (by omega), (by rw [csF_set, hU]; exact nwK_set (by omega)), (((fg0 F43)).trans (by first | rfl | (simp; done) | (congr 1; omega))), (((fg4 F43)).trans (fg5 F28).symm), (((fg3 F43)).trans (fg2 F28).symm), (((fg2 F43)).trans (fg1 F28).symm), (by have q0 := hc23_29; have q1 : ca40 = owl .i64 (U.set k (v_37, (List.replicate 8 (0 : Int)))) := hca40.trans (rfl); have q2 : c40 = ro 1 fstC u20 (U.set k (v_37, (List.replicate 8 (0 : Int)))) := hc40.trans (rfl); have q3 := hc_19r_29; have q4 := hc3_29; subst q0 q1 q2 q3 q4; exact S44)⟩
 refine wp_exit ?_
 refine then_exit ?_
 refine then_exit ?_
 refine inb_hit ?_
 refine tk H26 ?_
 refine wp_seq_k fun K45 H45 => ?_
 refine region_in ?_
 refine W_r rfl rfl (VR_ldA rfl (fg2 F31) (S29.obj 0 rfl hc23_29) Try.underlying29 rfl (by kernel_rfl)) ?_
 refine W_stAS 4 S29 rfl hc3_29 rfl rfl rfl (es rfl (fg3 F31)) (et rfl) (by simp only [List.all_toArray, List.all_cons, List.all_nil, SlN_one (ow_at (S29.chq 2 rfl hc20r_29)), SlN_one (ow_at (S29.chq 3 rfl hc_19r_29))] <;> rfl) (by rfl) (by kernel_rfl) (fun w46 c46 hc46 S46 => ?_)
 replace S46 : St w NoX [c23_29, cb20r_29, c20r_29, c_19r_29, c46] w46 := S46
 refine W_v rfl rfl (V_asg rfl rfl) ?_
 refine W_end (gen_Q fun A47 E47 => ?_)
 have Y47 := szq E47
 have F47 := fsE E47 (ck (cq1 F31 rfl) rfl rfl)
 clear E47 Y31 F31
 have S48 : St w NoX [cb20r_29, c20r_29, c_19r_29, c46] w46 := S46.sel [1, 2, 3, 4] (by decide) rfl
 refine tk H45 ?_
 refine wp_ret ?_
 refine ret_in (results_2 Try.results16 (rv_cellA (fg4 F47) (S48.obj 3 rfl hc46) Try.underlying29 rfl (by kernel_rfl)) (rv_tmp (fg0 F47))) F47.d ?_
 have S50 := S48.sel [1, 0, 2, 3] (by decide) (l' := [c20r_29, cb20r_29, c_19r_29, c46]) rfl
 replace S50 : St w NoX [c20r_29, cb20r_29, c_19r_29, c46] w46 := S50
 obtain ⟨c49, hc49, S49⟩ := St.rmClose S50 hc20r_29 hcb20r_29
 replace S49 : St w NoX [c49, c_19r_29, c46] w46 := S49
 have he : cfE C N Z K Q = 0 := by omega
 have hb := nw_k he
 rw [he]
 exact ⟨_, _, rfl, (S49.fin2 0 rfl (hc49.trans (by rw [hb.1, hU, nwK_end (by omega)])) 1 rfl (hc_19r_29.trans (congrArg (io .i64 _) (by rw [hb.2]))) (by decide))⟩

set_option maxHeartbeats 4000000 in
theorem kall8_c {cv : Value} {U : List SL} {nv : Value} {ns : List Int} {w : World} (h_cv : Ro w NoX (rl 1 fstC cv U)) (n_cv : Ro w NoX (nsi U)) (h_nv : Ro w NoX (il .i64 nv ns))  :
  Calls Try.prog 41 #[.agg #[cv, nv]] w fun e w' => ∃ gb, e = .returned (.func (.func 71) #[] #[.pointer (some ⟨gb, 0, none⟩)]) ∧ St w NoX [bx gb 29 #[cv, nv]] w' := by
 refine calls_in 4 Try.func41 rfl rfl (by simp) (fun A0 Y0 hdf0 hargs => ?_)
 have l0_0 := hargs 0 (.agg #[cv, nv]) rfl
 clear hargs; replace Y0 : SzN A0 4 := ⟨Y0⟩
 have hS := St.nil w
 have bh_cv := SlN.le (sl_SlN h_cv.at)
 have bh_nv := SlN.le (sl_SlN h_nv.at)
 refine wp_seq_k fun K1 H1 => ?_
 refine region_in ?_
 refine W_boxS (zs := #[cv, nv]) hS rfl rfl rfl l0_0 (by rfl) (fun g2 w2 c2 hc2 S2 => ?_)
 replace S2 : St w NoX [c2] w2 := S2
 refine W_v rfl rfl (V_asg rfl rfl) ?_
 refine W_end (gen_Q fun A3 E3 => ?_)
 have Y3 := szq E3
 have F3 := fsE E3 (cq1 (ck (FS.n hdf0) rfl rfl) rfl)
 clear E3 Y0 hdf0 l0_0
 refine tk H1 ?_
 refine wp_seq_k fun K4 H4 => ?_
 refine region_in ?_
 refine W_v rfl rfl (V_mkf rfl (args0) (args1 (fg0 F3))) ?_
 refine W_v rfl rfl (V_asg rfl (et rfl)) ?_
 refine W_end (gen_Q fun A5 E5 => ?_)
 have Y5 := szq E5
 have F5 := fsE E5 (ck (cq1 F3 rfl) rfl rfl)
 clear E5 Y3 F3
 refine tk H4 ?_
 refine wp_ret ?_
 refine ret_in (results_1 Try.results41 (rv_tmp (fg0 F5))) F5.d ?_
 exact ⟨_, rfl, (S2.fin1 0 rfl (hc2))⟩

set_option maxHeartbeats 4000000 in
theorem kall8_it {gb : Nat} {cv : Value} {U : List SL} {nv : Value} {ns : List Int} {Rd : World → Prop} (hRd : ∀ W, Rd W → (bx gb 29 #[cv, nv]).at W ∧ (rl 1 fstC cv U).at W ∧ (nsi U).at W ∧ (il .i64 nv ns).at W)  :
  Iter (α := Nat) Try.prog 71 #[.pointer (some ⟨gb, 0, none⟩)] (encA U nv ns) (·= (List.range (U.length + 1))) (·<+: (List.range (U.length + 1))) (·<+: (List.range (U.length + 1))) Rd := by
 intro l wb X cs ij J Jx w hij hR hY hS
 obtain ⟨hS, hback⟩ := hS.front hij
 clear hij
 generalize cs.eraseIdx ij = rest at hS hback
 obtain ⟨cj, hcj⟩ : ∃ c, c = J [] := ⟨_, rfl⟩
 rw [← hcj] at hS
 refine calls_inR 23 Try.func71 rfl rfl (by simp) (fun A0 Y0 hdf0 hargs => ?_)
 have l0_0 := hargs 0 (.func (.yield l) #[] #[]) rfl
 have l1_0 := hargs 1 (.pointer (some ⟨gb, 0, none⟩)) rfl
 clear hargs; replace Y0 : SzN A0 23 := ⟨Y0⟩
 have bh_cv := SlN.le (sl_SlN (hRd _ (hR _ _ _ 0 hS (congrArg some hcj))).2.1)
 have bh_nv := SlN.le (sl_SlN (hRd _ (hR _ _ _ 0 hS (congrArg some hcj))).2.2.2)
 refine R_seq (fun K1 H1 => ?_)
 refine R_seq (fun K2 H2 => ?_)
 refine R_region (by kernel_rfl) ?_
 refine W_v rfl rfl (V_fa (off' := 0) rfl l1_0 Try.underlying29 rfl (by decide +kernel) rfl) ?_
 refine W_r rfl rfl (VR_ldC rfl (et rfl) (cell_box (v := cv) (ob_at (hRd _ (hR _ _ _ 0 hS (congrArg some hcj))).1) rfl) Try.underlying24 rfl) ?_
 refine W_v rfl rfl (V_lenS rfl (et rfl) (sl_SlN (hRd _ (hR _ _ _ 0 hS (congrArg some hcj))).2.1) Try.underlying24) ?_
 refine W_v rfl rfl (V_mov rfl rfl) ?_
 refine W_end ?_
 refine Qo_normal ?_
 refine gen_Q (fun A3 E3 => ?_)
 have Y3 := szq E3
 have F3 := ((fsE E3 (ck (ck (ck (cq1 (FS.n hdf0) rfl) rfl rfl) rfl rfl) rfl rfl)).c (lookE E3 0 (es4 rfl l0_0))).c (lookE E3 1 (es4 rfl l1_0))
 clear E3 Y0 hdf0 l0_0 l1_0
 refine tk H2 ?_
 refine R_block ?_
 -- loop 1
 refine R_loop (fun mz A' w' => SzN A' 23 ∧ A'.defers = [] ∧ (∃ (k : Nat), (mz = U.length - k) ∧ (k ≤ U.length) ∧ (EV A' (.tmp 8) = .int .i64 (k : Int)) ∧ (EV A' (.tmp 0) = EV A3 (.tmp 0)) ∧ (EV A' (.tmp 1) = EV A3 (.tmp 1)) ∧ (EV A' (.tmp 6) = EV A3 (.tmp 6)) ∧ (EV A' (.tmp 7) = EV A3 (.tmp 7)) ∧ (St wb X ((J (List.range k)) :: rest) w'))) (U.length - 0) ⟨Y3, F3.d, 0, rfl, (by omega), (((fg2 F3)).trans (by first | rfl | (simp; done) | (congr 1; omega))), rfl, rfl, rfl, rfl, (by have q0 : cj = J (List.range 0) := hcj.trans (rfl); subst q0; exact hS)⟩ ?_
 clear hS hcj
 rintro n4 A4 w4 ⟨Y4, hdf4, k, hm4, hk, l8_4, u0_4, u1_4, u6_4, u7_4, S4⟩
 have l0_4 := u0_4.trans (fg1 F3)
 have l1_4 := u1_4.trans (fg0 F3)
 have l6_4 := u6_4.trans (fg4 F3)
 have l7_4 := u7_4.trans (fg3 F3)
 obtain ⟨cj_4, hcj_4, S4⟩ := gen1 S4
 refine R_seq (fun K5 H5 => ?_)
 refine R_region (by kernel_rfl) ?_
 refine W_v rfl rfl (V_lss rfl l8_4 l7_4) ?_
 refine W_end ?_
 refine Qo_normal ?_
 refine gen_Q (fun A6 E6 => ?_)
 have Y6 := szq E6
 have F6 := (((((fsE E6 (ck (FS.n hdf4) rfl rfl)).c (lookE E6 0 (es rfl l0_4))).c (lookE E6 1 (es rfl l1_4))).c (lookE E6 6 (es rfl l6_4))).c (lookE E6 7 (es rfl l7_4))).c (lookE E6 8 (es rfl l8_4))
 clear E6 Y4 hdf4 l8_4 l0_4 l1_4 l6_4 l7_4
 refine tk H5 ?_
 refine R_seq (fun K7 H7 => ?_)
 refine R_cond_dec (fg5 F6) (fun c8 => ?_) (fun c8 => ?_)
 ·refine R_skip ?_
  refine tk H7 ?_
  refine R_seq (fun K9 H9 => ?_)
  refine R_block ?_
  refine R_seq (fun K10 H10 => ?_)
  refine R_region (by kernel_rfl) ?_
  refine W_v rfl rfl (V_mov rfl (fg0 F6)) ?_
  have k11 : k < U.length := by first | omega | (simp only [List.length_cons, List.length_nil]; omega) | (simp only [List.length_set]; omega) | decide
  obtain ⟨y11, hy11⟩ := get_some (xs := U) (k := k) k11
  obtain ⟨B11, O11, C11, hv11⟩ := (SlN.blk (sl_SlN (hRd _ (hR _ _ _ 0 S4 (congrArg some hcj_4))).2.1) (by first | omega | (simp only [List.length_cons, List.length_nil]; omega) | (simp only [List.length_set]; omega) | decide))
  refine W_v rfl rfl (V_ixS (off := O11 + k * 1) 1 (k) rfl (es rfl (fg2 F6)) (es rfl (fg0 F6)) hv11 (by omega) k11 Try.underlying24 (by kernel_rfl) rfl) ?_
  have bfn12 := SlN.le (sl_SlN (nsi_at1 ((hRd _ (hR _ _ _ 0 S4 (congrArg some hcj_4))).2.2.1) hy11))
  refine W_r rfl rfl (VR_ldR (ys := fstC y11) rfl (et rfl) (SlN.row fstC_len (sl_SlN (hRd _ (hR _ _ _ 0 S4 (congrArg some hcj_4))).2.1) hv11 hy11 rfl) Try.underlying27 rfl (by kernel_rfl)) ?_
  refine W_allocS (z := .agg #[.slice none 0 0]) (zs := #[.slice none 0 0]) S4 rfl rfl rfl (by kernel_rfl) (by rfl) (fun g13 w13 c13 hc13 S13 => ?_)
  replace S13 : St wb X (c13 :: cj_4 :: rest) w13 := S13
  refine W_v rfl rfl (V_asg rfl (es3 rfl (et rfl))) ?_
  refine W_stAS 0 S13 rfl hc13 rfl rfl rfl (es rfl (et rfl)) (es2 rfl (et rfl)) (by simp only [List.all_toArray, List.all_cons, List.all_nil, fstC, SlN_one (sl_SlN (nsi_at1 ((hRd _ (hR _ _ _ 1 S13 (congrArg some hcj_4))).2.2.1) hy11))] <;> rfl) (by rfl) (by kernel_rfl) (fun w14 c14 hc14 S14 => ?_)
  replace S14 : St wb X (c14 :: cj_4 :: rest) w14 := S14
  refine W_end ?_
  refine Qo_normal ?_
  refine gen_Q (fun A15 E15 => ?_)
  have Y15 := szq E15
  have F15 := fsE E15 (ck (ck (cq3 F6 rfl) rfl rfl) rfl rfl)
  clear E15 Y6 F6
  refine tk H10 ?_
  refine R_seq (fun K16 H16 => ?_)
  refine R_regionI ?_
  refine I_v rfl rfl (by rfl) (V_mov rfl (fg6 F15)) ?_
  refine I_v rfl rfl (by rfl) (V_mov rfl (es rfl (fg0 F15))) ?_
  refine I_r rfl rfl (by rfl) (VR_ldA rfl (es2 rfl (fg1 F15)) (S14.obj 0 rfl hc14) Try.underlying27 rfl (by kernel_rfl)) ?_
  refine I_yield rfl rfl (by rfl) (hY (List.range k) k _ _ 1 S14 (congrArg some hcj_4) (rng_pre (by omega))) (fun res hr => run_yield2 rfl (es2 rfl (et rfl)) (es rfl (et rfl)) (et rfl) (by have h := hr; rw [encA_at hy11] at h; exact h)) ?_
  rintro _ w17 (⟨rfl, S17⟩ | ⟨rfl, S17⟩)
  ·refine ⟨_, rfl, ?_⟩
   obtain ⟨cj17, hcj17⟩ : ∃ c_, c_ = J ((List.range k) ++ [k]) := ⟨_, rfl⟩
   rw [← hcj17] at S17
   replace S17 : St wb X (c14 :: cj17 :: rest) w17 := S17
   refine I_up (by kernel_rfl) ?_
   refine W_v rfl rfl (V_notT rfl (et rfl)) ?_
   refine W_end ?_
   refine Qo_normal ?_
   refine gen_Q (fun A18 E18 => ?_)
   have Y18 := szq E18
   have F18 := fsE E18 (ck (cq4 F15 rfl) rfl rfl)
   clear E18 Y15 F15
   have S20 := S17.del 0
   replace S20 : St wb X (cj17 :: rest) w17 := S20
   refine tk H16 ?_
   refine R_cond_f (fg0 F18) ?_
   refine R_skip ?_
   refine inb_n ?_
   refine tk H9 ?_
   refine R_region (by kernel_rfl) ?_
   refine W_v rfl rfl (V_add rfl (fg3 F18) rfl (by omega) (by omega)) ?_
   refine W_v rfl rfl (V_mov rfl (et rfl)) ?_
   refine W_end ?_
   refine Qo_normal ?_
   refine gen_Q (fun A21 E21 => ?_)
   have Y21 := szq E21
   have F21 := fsE E21 (ck (cq1 (fx3 F18) rfl) rfl rfl)
   clear E21 Y18 F18
   refine then_n ⟨U.length - (k + 1), by simp only [hm4]; omega, Y21, F21.d, (k + 1), rfl, (by omega), (((fg0 F21)).trans (by first | rfl | (simp; done) | (congr 1; omega))), (((fg7 F21)).trans (fg1 F3).symm), (((fg6 F21)).trans (fg0 F3).symm), (((fg5 F21)).trans (fg4 F3).symm), (((fg4 F21)).trans (fg3 F3).symm), (by have q0 : cj17 = J (List.range (k + 1)) := hcj17.trans (congrArg J (rng_snoc k)); subst q0; exact S20)⟩
  refine ⟨_, rfl, ?_⟩
  obtain ⟨cj17, hcj17⟩ : ∃ c_, c_ = Jx ((List.range k) ++ [k]) := ⟨_, rfl⟩
  rw [← hcj17] at S17
  replace S17 : St wb X (c14 :: cj17 :: rest) w17 := S17
  refine I_up (by kernel_rfl) ?_
  refine W_v rfl rfl (V_notF rfl (et rfl)) ?_
  refine W_end ?_
  refine Qo_normal ?_
  refine gen_Q (fun A22 E22 => ?_)
  have Y22 := szq E22
  have F22 := fsE E22 (ck (cq4 F15 rfl) rfl rfl)
  clear E22 Y15 F15
  have S24 := S17.del 0
  replace S24 : St wb X (cj17 :: rest) w17 := S24
  refine tk H16 ?_
  refine R_cond_t (fg0 F22) ?_
  refine R_ret ?_
  refine inb_ret ?_
  refine then_ret ?_
  refine then_ret ?_
  refine inb_ret ?_
  refine then_ret ?_
  refine ret_inR0 (results_0 Try.results71 ) F22.d ?_
  exact ⟨⟨_, rfl⟩, .inr ⟨_, (rng_pre (by omega)), hback _ _ (hcj17 ▸ S24)⟩⟩
 refine R_exit ?_
 refine then_exit ?_
 refine then_exit ?_
 refine inb_hit ?_
 refine tk H1 ?_
 refine R_regionI ?_
 refine I_v rfl rfl (by rfl) (V_mov rfl (fg4 F6)) ?_
 refine I_v rfl rfl (by rfl) (V_fa (off' := 1) rfl (es rfl (fg3 F6)) Try.underlying29 rfl (by decide +kernel) rfl) ?_
 refine I_r rfl rfl (by rfl) (VR_ldP (ys := [nv]) rfl (et rfl) (ob_at (hRd _ (hR _ _ _ 0 S4 (congrArg some hcj_4))).1) (ldP_at rfl) Try.underlying27 rfl (by kernel_rfl)) ?_
 refine I_yield rfl rfl (by rfl) (hY (List.range k) k _ _ 0 S4 (congrArg some hcj_4) (rng_pre (by omega))) (fun res hr => run_yield2 rfl (es2 rfl (et rfl)) rfl (et rfl) (by have h := hr; rw [encA_end (by omega)] at h; exact h)) ?_
 rintro _ w25 (⟨rfl, S25⟩ | ⟨rfl, S25⟩)
 ·refine ⟨_, rfl, ?_⟩
  obtain ⟨cj25, hcj25⟩ : ∃ c_, c_ = J ((List.range k) ++ [k]) := ⟨_, rfl⟩
  rw [← hcj25] at S25
  replace S25 : St wb X (cj25 :: rest) w25 := S25
  refine I_up (by kernel_rfl) ?_
  refine W_end ?_
  refine Qo_normal ?_
  refine gen_Q (fun A26 E26 => ?_)
  have Y26 := szq E26
  have F26 := fsE E26 (cq4 F6 rfl)
  clear E26 Y6 F6
  refine ret_inR0 (results_0 Try.results71 ) F26.d ?_
  exact ⟨⟨_, rfl⟩, .inl ⟨_, (show _ = _ by rw [show k = U.length by omega]; exact rng_snoc _), hback _ _ (hcj25 ▸ S25)⟩⟩
 refine ⟨_, rfl, ?_⟩
 obtain ⟨cj25, hcj25⟩ : ∃ c_, c_ = Jx ((List.range k) ++ [k]) := ⟨_, rfl⟩
 rw [← hcj25] at S25
 replace S25 : St wb X (cj25 :: rest) w25 := S25
 refine I_up (by kernel_rfl) ?_
 refine W_end ?_
 refine Qo_normal ?_
 refine gen_Q (fun A27 E27 => ?_)
 have Y27 := szq E27
 have F27 := fsE E27 (cq4 F6 rfl)
 clear E27 Y6 F6
 refine ret_inR0 (results_0 Try.results71 ) F27.d ?_
 exact ⟨⟨_, rfl⟩, .inr ⟨_, (rng_pre (by omega)), hback _ _ (hcj25 ▸ S25)⟩⟩

end Go.Proofs.Yteppjefmlibmoaa