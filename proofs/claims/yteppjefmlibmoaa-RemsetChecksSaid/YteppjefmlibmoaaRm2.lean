import Derived.Test.YteppjefmlibmoaaProg
import Derived.Test.YteppjefmlibmoaaRm1
import Derived.Test.YteppjefmlibmoaaSep8b
import Derived.Test.YteppjefmlibmoaaPl8b
namespace Go.Proofs.Yteppjefmlibmoaa
open Go.RowKit Go.Own Go.Own.R Go.Own.S Go.Own.E


set_option maxHeartbeats 4000000 in
theorem kNew8_c {C : Int} {N : Int} {Z : Int} {K : Int} {Q : Int} {w : World}   :
  Calls Try.prog 16 #[.agg #[.int .i64 C, .int .i64 N, .int .i64 Z, .int .i64 K, .int .i64 Q]] w fun e w' => ∃ v z, e = .returned (.tuple #[.agg #[v, z], .int .i64 (cfE C N Z K Q)]) ∧ St w NoX [rmO v (nwC C N Z K Q), io .i64 (z) (nwN C N Z K Q)] w' := by
 refine calls_in 31 Try.func16 rfl rfl (by simp) (fun A0 hsz0 hdf0 hargs => ?_)
 have l0_0 := hargs 0 (.agg #[.int .i64 C, .int .i64 N, .int .i64 Z, .int .i64 K, .int .i64 Q]) rfl
 clear hargs; replace hsz0 : SzN A0 31 := ⟨hsz0⟩
 have hS := St.nil w
 refine wp_seq_k fun K1 hK1 => ?_
 refine region_in ?_
 refine W_boxS (zs := #[.int .i64 (C), .int .i64 (N), .int .i64 (Z), .int .i64 (K), .int .i64 (Q)]) hS rfl rfl rfl l0_0 (by rfl) (fun g2 w2 c2 hc2 hS2 => ?_)
 replace hS2 : St w NoX [c2] w2 := hS2
 refine W_allocS (z := .agg #[.slice none 0 0, .slice none 0 0]) (zs := #[.slice none 0 0, .slice none 0 0]) hS2 rfl rfl rfl (by kernel_rfl) (by rfl) (fun g3 w3 c3 hc3 hS3 => ?_)
 replace hS3 : St w NoX [c3, c2] w3 := hS3
 refine W_v rfl rfl (V_asg rfl rfl) ?_
 refine W_end (gen_Q fun A4 hA4 => ?_)
 have hsz4 := szq hA4
 have hdf4 := dfE hA4 hdf0
 have l1_4 := lookE hA4 1 (e2 rfl (et rfl))
 have l2_4 := lookE hA4 2 (es rfl (et rfl))
 clear hA4 hsz0 hdf0 l0_0
 refine then_n (hK1 _ _ ?_)
 clear hK1
 refine wp_seq_k fun K5 hK5 => ?_
 refine wp_seq_k fun K6 hK6 => ?_
 refine region_in ?_
 refine W_r rfl rfl (VR_ldA rfl l1_4 (hS3.obj 1 rfl hc2) Try.underlying23 rfl (by kernel_rfl)) ?_
 refine W_call rfl rfl rfl Try.func40 (by kernel_rfl) rfl (args1 (et rfl)) (kcfg_c (C := C) (N := N) (Z := Z) (K := K) (Q := Q)  ) ?_
 rintro _ w7 ⟨rfl, hP7⟩
 refine ⟨_, rfl, ?_⟩
 have hS7 := hS3.join hP7
 replace hS7 : St w NoX [c3, c2] w7 := hS7
 refine W_v rfl rfl (V_asg rfl (et rfl)) ?_
 refine W_end (gen_Q fun A8 hA8 => ?_)
 have hsz8 := szq hA8
 have hdf8 := dfE hA8 hdf4
 have l1_8 := ek3 hA8 1 rfl l1_4
 have l2_8 := ek3 hA8 2 rfl l2_4
 have l4_8 := lookE hA8 4 (et rfl)
 clear hA8 hsz4 hdf4 l1_4 l2_4
 refine then_n (hK6 _ _ ?_)
 clear hK6
 refine wp_seq_k fun K9 hK9 => ?_
 refine region_in ?_
 refine W_v rfl rfl (V_mov rfl l4_8) ?_
 refine W_v rfl rfl (V_neq rfl (et rfl) rfl) ?_
 refine W_end (gen_Q fun A10 hA10 => ?_)
 have hsz10 := szq hA10
 have hdf10 := dfE hA10 hdf8
 have l1_10 := ek2 hA10 1 rfl l1_8
 have l2_10 := ek2 hA10 2 rfl l2_8
 have l4_10 := ek2 hA10 4 rfl l4_8
 have l10_10 := lookE hA10 10 (et rfl)
 clear hA10 hsz8 hdf8 l1_8 l2_8 l4_8
 refine then_n (hK9 _ _ ?_)
 clear hK9
 refine cond_dec l10_10 (fun c11 => ?_) (fun c11 => ?_)
 ·refine wp_seq_k fun K12 hK12 => ?_
  refine region_in ?_
  refine W_v rfl rfl (V_bldS (n := 2) (z := .agg #[.slice none 0 0, .slice none 0 0]) rfl (parts0) (by kernel_rfl) (by simp only [List.all_cons, List.all_nil, Bool.and_true] <;> rfl) (by kernel_rfl) (by simp only [List.foldl_cons, List.foldl_nil, Value.cells, List.setIfInBounds_toArray, List.set_cons_succ, List.set_cons_zero] <;> rfl)) ?_
  refine W_v rfl rfl (V_mov rfl (es rfl l4_10)) ?_
  refine W_stAS 0 hS7 rfl hc3 rfl rfl rfl (e2 rfl l2_10) (es rfl (et rfl)) (by first | (rw [List.all_toArray] <;> rfl) | (simp only [List.all_toArray, List.all_cons, List.all_nil] <;> rfl)) (by rfl) (by kernel_rfl) (fun w13 c13 hc13 hS13 => ?_)
  replace hS13 : St w NoX [c13, c2] w13 := hS13
  refine W_v rfl rfl (V_asg rfl (et rfl)) ?_
  refine W_end (gen_Q fun A14 hA14 => ?_)
  have hsz14 := szq hA14
  have hdf14 := dfE hA14 hdf10
  have l2_14 := ek3 hA14 2 rfl l2_10
  have l3_14 := lookE hA14 3 (et rfl)
  clear hA14 hsz10 hdf10 l1_10 l2_10 l4_10 l10_10
  have hS15 : St w NoX [c13] w13 := hS13.sel [0] (by decide) rfl
  refine then_n (hK12 _ _ ?_)
  clear hK12
  refine wp_ret ?_
  refine then_ret ?_
  refine ret_in (results_2 Try.results16 (rv_cellA l2_14 (hS15.obj 0 rfl hc13) Try.underlying29 rfl (by kernel_rfl)) (rv_tmp l3_14)) hdf14 ?_
  obtain ⟨c16, hc16, hS16⟩ := hS15.rmNil
  obtain ⟨c17, hc17, hS17⟩ := hS16.pnil (s := 1)
  have hb := nw_e (show cfE C N Z K Q ≠ 0 by omega)
  exact ⟨_, _, rfl, (hS17.fin2 1 rfl (hc16.trans (by rw [hb.1])) 0 rfl (hc17.trans (by rw [show nwN C N Z K Q = [] by exact hb.2] <;> rfl)) (by decide))⟩
 ·have hr := cf_rng (show cfE C N Z K Q = 0 by omega)
  have hlr : (List.replicate N.toNat nilp).length = N.toNat := List.length_replicate
  refine wp_skip ?_
  refine then_n (hK5 _ _ ?_)
  clear hK5
  refine wp_seq_k fun K18 hK18 => ?_
  refine region_monoS 6 7 [some (SPv [] (fun _ => fun u l' => ∃ v_s, u = .agg #[v_s] ∧ ∃ c_s, c_s = io .i64 (v_s) (List.replicate 8 (0 : Int)) ∧ l' = [c_s]) 0), none, none, some (SPv [] (fun _ => fun u l' => ∃ v, u = v ∧ ∃ b, b = owl .i64 (List.replicate N.toNat nilp) ∧ ∃ c, c = ro 1 fstC v (List.replicate N.toNat nilp) ∧ l' = [b, c]) 3), none, some (SPv [] (fun _ => fun u l' => ∃ g_, u = .pointer (some ⟨g_, 0, none⟩) ∧ ∃ c_, c_ = bx g_ 29 #[.slice none 0 0, .slice none 0 0] ∧ l' = [c_]) 5)] (by kernel_rfl) (by kernel_rfl) ?_
  refine D_call (ts := []) (vs := []) (C0 := fun _ => fun u l' => ∃ v_s, u = .agg #[v_s] ∧ ∃ c_s, c_s = io .i64 (v_s) (List.replicate 8 (0 : Int)) ∧ l' = [c_s]) (C := fun u l' => ∃ v_s, u = .agg #[v_s] ∧ ∃ c_s, c_s = io .i64 (v_s) (List.replicate 8 (0 : Int)) ∧ l' = [c_s]) rfl rfl rfl Try.func52 (by kernel_rfl) rfl (args0) rfl rfl rfl rfl (fun sx hx hF => ?_) (fun u19 l19 hu19 => ?_)
  ·refine (knew_c  ).mono ?_
   rintro _ _ ⟨v_19, rfl, hz⟩
   exact ⟨_, rfl, _, ⟨_, rfl, _, rfl, rfl⟩, hz⟩
  obtain ⟨v_19, rfl, c_19, hc_19, hl19⟩ := hu19
  refine D_v rfl rfl (V_fa (off' := 1) rfl (es rfl l1_10) Try.underlying23 rfl (by decide +kernel) rfl) rfl rfl ?_
  refine D_r rfl rfl (by kernel_rfl) (fun sx hx hF => (VR_ldC rfl (et rfl) (cell_box (v := .int .i64 (N)) ((hS7.grow hx).obj 1 rfl hc2) rfl) Try.underlying3 rfl)) rfl rfl ?_
  refine D_lay (ts := []) (vs := []) (C0 := fun _ => fun u l' => ∃ v, u = v ∧ ∃ b, b = owl .i64 (List.replicate N.toNat nilp) ∧ ∃ c, c = ro 1 fstC v (List.replicate N.toNat nilp) ∧ l' = [b, c]) (C := fun u l' => ∃ v, u = v ∧ ∃ b, b = owl .i64 (List.replicate N.toNat nilp) ∧ ∃ c, c = ro 1 fstC v (List.replicate N.toNat nilp) ∧ l' = [b, c]) rfl rfl rfl rfl rfl rfl (fun sx hx hF => lay_mkSS (z := .agg #[.slice none 0 0]) (bytes := 24) N.toNat rfl (et rfl) (et rfl) (by omega) Try.underlying24 (by kernel_rfl) (by omega) rfl) (fun u20 l20 hu20 => ?_)
  obtain ⟨v20, rfl, cb20, hcb20, c20, hc20, hl20⟩ := hu20
  refine D_r rfl rfl (by kernel_rfl) (fun sx hx hF => by obtain ⟨ll20, ws20, we20, ⟨v20q, hq20, cb20_, hcb20_, c20_, hc20_, hl20_⟩, hm20, k20, e20⟩ := L.ancF_get hF (by kernel_rfl); cases hq20; subst hl20_; exact ((V_bldC (n := 2) (z := .agg #[.slice none 0 0, .slice none 0 0]) (cs := #[u20, v_19]) rfl (parts2 (e3 rfl (et rfl)) (et rfl)) (by kernel_rfl) (by simp only [List.all_cons, List.all_nil, one_cells (SlN_one (ow_at ((k20.grow e20).chq 1 rfl hc20_))), cells_agg] <;> rfl) (by kernel_rfl) (by simp only [List.foldl_cons, List.foldl_nil, one_cells (SlN_one (ow_at ((k20.grow e20).chq 1 rfl hc20_))), cells_agg, getD_one, List.setIfInBounds_toArray, List.set_cons_succ, List.set_cons_zero] <;> rfl) : Val _ _ _ _) _)) rfl rfl ?_
  refine D_lay (ts := []) (vs := []) (C0 := fun _ => fun u l' => ∃ g_, u = .pointer (some ⟨g_, 0, none⟩) ∧ ∃ c_, c_ = bx g_ 29 #[.slice none 0 0, .slice none 0 0] ∧ l' = [c_]) (C := fun u l' => ∃ g_, u = .pointer (some ⟨g_, 0, none⟩) ∧ ∃ c_, c_ = bx g_ 29 #[.slice none 0 0, .slice none 0 0] ∧ l' = [c_]) rfl rfl rfl rfl rfl rfl (fun sx hx hF => lay_alloc (z := .agg #[.slice none 0 0, .slice none 0 0]) rfl (by kernel_rfl) (by rfl)) (fun u21 l21 hu21 => ?_)
  obtain ⟨g21, rfl, c21, hc21, hl21⟩ := hu21
  refine D_eff rfl ?_
  refine ZS_eff hS7 rfl rfl (fun s22 hJ22 hL22 hF22 => ?_)
  obtain ⟨ll19, ws19, we19, ⟨v_19q, hq19, c_19r, hc_19r, hl19r⟩, hm19, k19, e19⟩ := L.all_get (L.all_rest (L.all_rest hF22)); cases hq19; subst hl19r
  replace hJ22 := hJ22.add hL22 (i := 0) rfl hm19 k19 e19
  obtain ⟨ll20, ws20, we20, ⟨v20q, hq20, cb20r, hcb20r, c20r, hc20r, hl20r⟩, hm20, k20, e20⟩ := L.all_get (L.all_rest hF22); cases hq20; subst hl20r
  replace hJ22 := hJ22.add hL22 (i := 3) rfl hm20 k20 e20
  obtain ⟨ll21, ws21, we21, ⟨g21q, hq21, c21r, hc21r, hl21r⟩, hm21, k21, e21⟩ := L.all_get hF22; cases hq21; subst hl21r
  replace hJ22 := hJ22.add hL22 (i := 5) rfl hm21 k21 e21
  have hS22 := hJ22.st; clear hF22 hJ22 hL22
  generalize s22.1 = w22 at *
  replace hS22 : St w NoX [c21r, cb20r, c20r, c_19r, c3, c2] w22 := hS22
  refine W_stAS 0 hS22 rfl hc21r rfl rfl rfl (et rfl) (es rfl (et rfl)) (by simp only [List.all_toArray, List.all_cons, List.all_nil, SlN_one (ow_at (hS22.chq 2 rfl hc20r)), SlN_one (ow_at (hS22.chq 3 rfl hc_19r))] <;> rfl) (by rfl) (by kernel_rfl) (fun w23 c23 hc23 hS23 => ?_)
  replace hS23 : St w NoX [c23, cb20r, c20r, c_19r, c3, c2] w23 := hS23
  refine W_end ?_
  refine Qo_normal ?_
  refine gen_Q (fun A24 hA24 => ?_)
  have hsz24 := szq hA24
  have hdf24 := dfE hA24 hdf10
  have l2_24 := ek6 hA24 2 rfl l2_10
  have l5_24 := lookE hA24 5 (et rfl)
  clear hA24 hsz10 hdf10 l1_10 l2_10 l4_10 l10_10
  have hS25 : St w NoX [c23, cb20r, c20r, c_19r, c3] w23 := hS23.sel [0, 1, 2, 3, 4] (by decide) rfl
  refine then_n (hK18 _ _ ?_)
  clear hK18
  refine wp_seq_k fun K26 hK26 => ?_
  refine wp_seq_k fun K27 hK27 => ?_
  refine region_in ?_
  refine W_v rfl rfl (V_fa (off' := 0) rfl l5_24 Try.underlying29 rfl (by decide +kernel) rfl) ?_
  refine W_r rfl rfl (VR_ldC rfl (et rfl) (cell_box (v := u20) (hS25.obj 0 rfl hc23) rfl) Try.underlying24 rfl) ?_
  refine W_v rfl rfl (V_lenS rfl (et rfl) (ow_at (hS25.chq 2 rfl hc20r)) Try.underlying24) ?_
  refine W_v rfl rfl (V_mov rfl rfl) ?_
  refine W_end (gen_Q fun A28 hA28 => ?_)
  have hsz28 := szq hA28
  have hdf28 := dfE hA28 hdf24
  have l2_28 := ek4 hA28 2 rfl l2_24
  have l5_28 := ek4 hA28 5 rfl l5_24
  have l20_28 := lookE hA28 20 (es rfl (et rfl))
  have l21_28 := lookE hA28 21 (et rfl)
  clear hA28 hsz24 hdf24 l2_24 l5_24
  refine then_n (hK27 _ _ ?_)
  clear hK27
  refine wp_block ?_
  -- loop 6
  refine loopX (fun mz A' w' => SzN A' 31 ∧ A'.defers = [] ∧ (∃ (k : Nat) (U : List SL), (mz = N.toNat - k) ∧ (k ≤ N.toNat) ∧ (csF U = nwK N.toNat k) ∧ (EV A' (.tmp 21) = .int .i64 (k : Int)) ∧ (EV A' (.tmp 2) = EV A28 (.tmp 2)) ∧ (EV A' (.tmp 5) = EV A28 (.tmp 5)) ∧ (EV A' (.tmp 20) = EV A28 (.tmp 20)) ∧ (St w NoX [bx g21 29 #[u20, v_19], owl .i64 U, ro 1 fstC u20 U, io .i64 v_19 (List.replicate 8 (0 : Int)), bx g3 29 #[.slice none 0 0, .slice none 0 0]] w'))) (N.toNat - 0) ⟨hsz28, hdf28, 0, (List.replicate N.toNat nilp), rfl, (by omega), (csF_nils _), ((l21_28).trans (by first | rfl | (simp; done) | (congr 1; omega))), rfl, rfl, rfl, (by have q0 := hc23; have q1 : cb20r = owl .i64 (List.replicate N.toNat nilp) := hcb20r.trans (rfl); have q2 : c20r = ro 1 fstC u20 (List.replicate N.toNat nilp) := hc20r.trans (rfl); have q3 := hc_19r; have q4 := hc3; subst q0 q1 q2 q3 q4; exact hS25)⟩ ?_
  clear hS25 hc23 hcb20r hc20r hc_19r hc3
  rintro n29 A29 w29 ⟨hsz29, hdf29, k, U, hm29, hk, hU, l21_29, u2_29, u5_29, u20_29, hS29⟩
  have l2_29 := u2_29.trans l2_28
  have l5_29 := u5_29.trans l5_28
  have l20_29 := u20_29.trans l20_28
  obtain ⟨c23_29, cb20r_29, c20r_29, c_19r_29, c3_29, hc23_29, hcb20r_29, hc20r_29, hc_19r_29, hc3_29, hS29⟩ := gen5 hS29
  refine wp_seq_k fun K30 hK30 => ?_
  refine region_in ?_
  refine W_v rfl rfl (V_lss rfl l21_29 l20_29) ?_
  refine W_end (gen_Q fun A31 hA31 => ?_)
  have hsz31 := szq hA31
  have hdf31 := dfE hA31 hdf29
  have l2_31 := lookE hA31 2 (es rfl l2_29)
  have l5_31 := lookE hA31 5 (es rfl l5_29)
  have l20_31 := lookE hA31 20 (es rfl l20_29)
  have l21_31 := lookE hA31 21 (es rfl l21_29)
  have l22_31 := lookE hA31 22 (et rfl)
  clear hA31 hsz29 hdf29 l21_29 l2_29 l5_29 l20_29
  refine then_n (hK30 _ _ ?_)
  clear hK30
  refine wp_seq_k fun K32 hK32 => ?_
  refine cond_dec l22_31 (fun c33 => ?_) (fun c33 => ?_)
  ·have hUl := nwK_len hU (by omega)
   refine wp_skip ?_
   refine then_n (hK32 _ _ ?_)
   clear hK32
   refine wp_seq_k fun K34 hK34 => ?_
   refine wp_block ?_
   refine wp_seq_k fun K35 hK35 => ?_
   refine region_in ?_
   refine W_v rfl rfl (V_mov rfl l21_31) ?_
   refine W_v rfl rfl (V_asg rfl (et rfl)) ?_
   refine W_end (gen_Q fun A36 hA36 => ?_)
   have hsz36 := szq hA36
   have hdf36 := dfE hA36 hdf31
   have l2_36 := ek2 hA36 2 rfl l2_31
   have l5_36 := ek2 hA36 5 rfl l5_31
   have l6_36 := lookE hA36 6 (et rfl)
   have l20_36 := ek2 hA36 20 rfl l20_31
   have l21_36 := ek2 hA36 21 rfl l21_31
   clear hA36 hsz31 hdf31 l2_31 l5_31 l20_31 l21_31 l22_31
   refine then_n (hK35 _ _ ?_)
   clear hK35
   refine region_monoS 5 6 [none, none, none, some (SPv [] (fun _ => fun u l' => ∃ v_s, u = .agg #[v_s] ∧ ∃ c_s, c_s = io .i64 (v_s) (List.replicate 8 (0 : Int)) ∧ l' = [c_s]) 3)] (by kernel_rfl) (by kernel_rfl) ?_
   refine D_v rfl rfl (V_fa (off' := 0) rfl l5_36 Try.underlying29 rfl (by decide +kernel) rfl) rfl rfl ?_
   refine D_r rfl rfl (by kernel_rfl) (fun sx hx hF => (VR_ldC rfl (et rfl) (cell_box (v := u20) ((hS29.grow hx).obj 0 rfl hc23_29) rfl) Try.underlying24 rfl)) rfl rfl ?_
   refine D_v rfl rfl (V_mov rfl (e2 rfl l6_36)) rfl rfl ?_
   refine D_call (ts := []) (vs := []) (C0 := fun _ => fun u l' => ∃ v_s, u = .agg #[v_s] ∧ ∃ c_s, c_s = io .i64 (v_s) (List.replicate 8 (0 : Int)) ∧ l' = [c_s]) (C := fun u l' => ∃ v_s, u = .agg #[v_s] ∧ ∃ c_s, c_s = io .i64 (v_s) (List.replicate 8 (0 : Int)) ∧ l' = [c_s]) rfl rfl rfl Try.func52 (by kernel_rfl) rfl (args0) rfl rfl rfl rfl (fun sx hx hF => ?_) (fun u37 l37 hu37 => ?_)
   ·refine (knew_c  ).mono ?_
    rintro _ _ ⟨v_37, rfl, hz⟩
    exact ⟨_, rfl, _, ⟨_, rfl, _, rfl, rfl⟩, hz⟩
   obtain ⟨v_37, rfl, c_37, hc_37, hl37⟩ := hu37
   have k38 : k < U.length := by first | omega | (simp only [List.length_cons, List.length_nil]; omega) | (simp only [List.length_set]; omega) | decide
   obtain ⟨y38, hy38⟩ := get_some (xs := U) (k := k) k38
   obtain ⟨B38, O38, C38, hv38⟩ := (SlN.blk (ow_at (hS29.chq 2 rfl hc20r_29)) (by first | omega | (simp only [List.length_cons, List.length_nil]; omega) | (simp only [List.length_set]; omega) | decide))
   refine D_v rfl rfl (V_ixS (off := O38 + k * 1) 1 (k) rfl (e2 rfl (et rfl)) (es rfl (et rfl)) hv38 (by omega) k38 Try.underlying24 (by kernel_rfl) rfl) rfl rfl ?_
   refine D_eff rfl ?_
   refine ZS_eff hS29 rfl rfl (fun s39 hJ39 hL39 hF39 => ?_)
   obtain ⟨ll37, ws37, we37, ⟨v_37q, hq37, c_37r, hc_37r, hl37r⟩, hm37, k37, e37⟩ := L.all_get hF39; cases hq37; subst hl37r
   replace hJ39 := hJ39.add hL39 (i := 3) rfl hm37 k37 e37
   have hS39 := hJ39.st; clear hF39 hJ39 hL39
   generalize s39.1 = w39 at *
   replace hS39 : St w NoX [c_37r, c23_29, cb20r_29, c20r_29, c_19r_29, c3_29] w39 := hS39
   have hS41 := hS39.sel [0, 2, 3, 1, 4, 5] (by decide) (l' := [c_37r, cb20r_29, c20r_29, c23_29, c_19r_29, c3_29]) rfl
   replace hS41 : St w NoX [c_37r, cb20r_29, c20r_29, c23_29, c_19r_29, c3_29] w39 := hS41
   refine W_stS1 (j := k) hS41 hc_37r hcb20r_29 hc20r_29 hv38 rfl rfl rfl (et rfl) (es rfl (et rfl)) (SlN_one (ow_at (hS41.chq 0 rfl hc_37r))) rfl (by omega) (by kernel_rfl) (fun w40 ca40 c40 hca40 hc40 hS40 => ?_)
   have hsl40 : (U.set k (v_37, (List.replicate 8 (0 : Int)))).length = U.length := List.length_set ..
   replace hS40 : St w NoX [ca40, c40, c23_29, c_19r_29, c3_29] w40 := hS40
   refine W_end ?_
   refine Qo_normal ?_
   refine gen_Q (fun A42 hA42 => ?_)
   have hsz42 := szq hA42
   have hdf42 := dfE hA42 hdf36
   have l2_42 := ek5 hA42 2 rfl l2_36
   have l5_42 := ek5 hA42 5 rfl l5_36
   have l20_42 := ek5 hA42 20 rfl l20_36
   have l21_42 := ek5 hA42 21 rfl l21_36
   clear hA42 hsz36 hdf36 l2_36 l5_36 l6_36 l20_36 l21_36
   refine inb_n ?_
   refine then_n (hK34 _ _ ?_)
   clear hK34
   refine region_in ?_
   refine W_v rfl rfl (V_add rfl l21_42 rfl (by omega) (by omega)) ?_
   refine W_v rfl rfl (V_mov rfl (et rfl)) ?_
   refine W_end (gen_Q fun A43 hA43 => ?_)
   have hsz43 := szq hA43
   have hdf43 := dfE hA43 hdf42
   have l2_43 := ek2 hA43 2 rfl l2_42
   have l5_43 := ek2 hA43 5 rfl l5_42
   have l20_43 := ek2 hA43 20 rfl l20_42
   have l21_43 := lookE hA43 21 (et rfl)
   clear hA43 hsz42 hdf42 l2_42 l5_42 l20_42 l21_42
   have hS44 : St w NoX [c23_29, ca40, c40, c_19r_29, c3_29] w40 := hS40.sel [2, 0, 1, 3, 4] (by decide) rfl
   refine then_n ⟨N.toNat - (k + 1), by simp only [hm29]; omega, hsz43, hdf43, (k + 1), (U.set k (v_37, (List.replicate 8 (0 : Int)))), rfl, (by omega), (by rw [csF_set, hU]; exact nwK_set (by omega)), ((l21_43).trans (by first | rfl | (simp; done) | (congr 1; omega))), ((l2_43).trans l2_28.symm), ((l5_43).trans l5_28.symm), ((l20_43).trans l20_28.symm), (by have q0 := hc23_29; have q1 : ca40 = owl .i64 (U.set k (v_37, (List.replicate 8 (0 : Int)))) := hca40.trans (rfl); have q2 : c40 = ro 1 fstC u20 (U.set k (v_37, (List.replicate 8 (0 : Int)))) := hc40.trans (rfl); have q3 := hc_19r_29; have q4 := hc3_29; subst q0 q1 q2 q3 q4; exact hS44)⟩
  ·refine wp_exit ?_
   refine then_exit ?_
   refine then_exit ?_
   refine inb_hit ?_
   refine then_n (hK26 _ _ ?_)
   clear hK26
   refine wp_seq_k fun K45 hK45 => ?_
   refine region_in ?_
   refine W_r rfl rfl (VR_ldA rfl l5_31 (hS29.obj 0 rfl hc23_29) Try.underlying29 rfl (by kernel_rfl)) ?_
   refine W_stAS 4 hS29 rfl hc3_29 rfl rfl rfl (es rfl l2_31) (et rfl) (by simp only [List.all_toArray, List.all_cons, List.all_nil, SlN_one (ow_at (hS29.chq 2 rfl hc20r_29)), SlN_one (ow_at (hS29.chq 3 rfl hc_19r_29))] <;> rfl) (by rfl) (by kernel_rfl) (fun w46 c46 hc46 hS46 => ?_)
   replace hS46 : St w NoX [c23_29, cb20r_29, c20r_29, c_19r_29, c46] w46 := hS46
   refine W_v rfl rfl (V_asg rfl rfl) ?_
   refine W_end (gen_Q fun A47 hA47 => ?_)
   have hsz47 := szq hA47
   have hdf47 := dfE hA47 hdf31
   have l2_47 := ek2 hA47 2 rfl l2_31
   have l3_47 := lookE hA47 3 (et rfl)
   clear hA47 hsz31 hdf31 l2_31 l5_31 l20_31 l21_31 l22_31
   have hS48 : St w NoX [cb20r_29, c20r_29, c_19r_29, c46] w46 := hS46.sel [1, 2, 3, 4] (by decide) rfl
   refine then_n (hK45 _ _ ?_)
   clear hK45
   refine wp_ret ?_
   refine ret_in (results_2 Try.results16 (rv_cellA l2_47 (hS48.obj 3 rfl hc46) Try.underlying29 rfl (by kernel_rfl)) (rv_tmp l3_47)) hdf47 ?_
   have hS50 := hS48.sel [1, 0, 2, 3] (by decide) (l' := [c20r_29, cb20r_29, c_19r_29, c46]) rfl
   replace hS50 : St w NoX [c20r_29, cb20r_29, c_19r_29, c46] w46 := hS50
   obtain ⟨c49, hc49, hS49⟩ := St.rmClose hS50 hc20r_29 hcb20r_29
   replace hS49 : St w NoX [c49, c_19r_29, c46] w46 := hS49
   have he : cfE C N Z K Q = 0 := by omega
   have hb := nw_k he
   rw [he]
   exact ⟨_, _, rfl, (hS49.fin2 0 rfl (hc49.trans (by rw [hb.1, hU, nwK_end (by omega)])) 1 rfl (hc_19r_29.trans (congrArg (io .i64 _) (by rw [hb.2]))) (by decide))⟩

set_option maxHeartbeats 4000000 in
theorem qNew8_c {C : Int} {N : Int} {Z : Int} {K : Int} {Q : Int} {w : World}   :
  Calls Try.prog 18 #[.agg #[.int .i64 C, .int .i64 N, .int .i64 Z, .int .i64 K, .int .i64 Q]] w fun e w' => ∃ v z, e = .returned (.tuple #[.agg #[v, z], .int .i64 (cfE C N Z K Q)]) ∧ St w NoX [rmO v (nwC C N Z K Q), io .i64 (z) (nwN C N Z K Q)] w' := by
 refine calls_in 28 Try.func18 rfl rfl (by simp) (fun A0 hsz0 hdf0 hargs => ?_)
 have l0_0 := hargs 0 (.agg #[.int .i64 C, .int .i64 N, .int .i64 Z, .int .i64 K, .int .i64 Q]) rfl
 clear hargs; replace hsz0 : SzN A0 28 := ⟨hsz0⟩
 have hS := St.nil w
 refine wp_seq_k fun K1 hK1 => ?_
 refine region_in ?_
 refine W_boxS (zs := #[.int .i64 (C), .int .i64 (N), .int .i64 (Z), .int .i64 (K), .int .i64 (Q)]) hS rfl rfl rfl l0_0 (by rfl) (fun g2 w2 c2 hc2 hS2 => ?_)
 replace hS2 : St w NoX [c2] w2 := hS2
 refine W_allocS (z := .agg #[.slice none 0 0, .slice none 0 0]) (zs := #[.slice none 0 0, .slice none 0 0]) hS2 rfl rfl rfl (by kernel_rfl) (by rfl) (fun g3 w3 c3 hc3 hS3 => ?_)
 replace hS3 : St w NoX [c3, c2] w3 := hS3
 refine W_v rfl rfl (V_asg rfl rfl) ?_
 refine W_end (gen_Q fun A4 hA4 => ?_)
 have hsz4 := szq hA4
 have hdf4 := dfE hA4 hdf0
 have l1_4 := lookE hA4 1 (e2 rfl (et rfl))
 have l2_4 := lookE hA4 2 (es rfl (et rfl))
 clear hA4 hsz0 hdf0 l0_0
 refine then_n (hK1 _ _ ?_)
 clear hK1
 refine wp_seq_k fun K5 hK5 => ?_
 refine region_in ?_
 refine W_r rfl rfl (VR_ldA rfl l1_4 (hS3.obj 1 rfl hc2) Try.underlying23 rfl (by kernel_rfl)) ?_
 refine W_call rfl rfl rfl Try.func54 (by kernel_rfl) rfl (args1 (et rfl)) (qcfg_c (C := C) (N := N) (Z := Z) (K := K) (Q := Q)  ) ?_
 rintro _ w6 ⟨rfl, hP6⟩
 refine ⟨_, rfl, ?_⟩
 have hS6 := hS3.join hP6
 replace hS6 : St w NoX [c3, c2] w6 := hS6
 refine W_v rfl rfl (V_asg rfl (et rfl)) ?_
 refine W_end (gen_Q fun A7 hA7 => ?_)
 have hsz7 := szq hA7
 have hdf7 := dfE hA7 hdf4
 have l1_7 := ek3 hA7 1 rfl l1_4
 have l2_7 := ek3 hA7 2 rfl l2_4
 have l4_7 := lookE hA7 4 (et rfl)
 clear hA7 hsz4 hdf4 l1_4 l2_4
 refine then_n (hK5 _ _ ?_)
 clear hK5
 refine wp_seq_k fun K8 hK8 => ?_
 refine wp_seq_k fun K9 hK9 => ?_
 refine region_in ?_
 refine W_v rfl rfl (V_mov rfl l4_7) ?_
 refine W_v rfl rfl (V_neq rfl (et rfl) rfl) ?_
 refine W_end (gen_Q fun A10 hA10 => ?_)
 have hsz10 := szq hA10
 have hdf10 := dfE hA10 hdf7
 have l1_10 := ek2 hA10 1 rfl l1_7
 have l2_10 := ek2 hA10 2 rfl l2_7
 have l4_10 := ek2 hA10 4 rfl l4_7
 have l10_10 := lookE hA10 10 (et rfl)
 clear hA10 hsz7 hdf7 l1_7 l2_7 l4_7
 refine then_n (hK9 _ _ ?_)
 clear hK9
 refine cond_dec l10_10 (fun c11 => ?_) (fun c11 => ?_)
 ·refine wp_seq_k fun K12 hK12 => ?_
  refine region_in ?_
  refine W_v rfl rfl (V_bldS (n := 2) (z := .agg #[.slice none 0 0, .slice none 0 0]) rfl (parts0) (by kernel_rfl) (by simp only [List.all_cons, List.all_nil, Bool.and_true] <;> rfl) (by kernel_rfl) (by simp only [List.foldl_cons, List.foldl_nil, Value.cells, List.setIfInBounds_toArray, List.set_cons_succ, List.set_cons_zero] <;> rfl)) ?_
  refine W_v rfl rfl (V_mov rfl (es rfl l4_10)) ?_
  refine W_stAS 0 hS6 rfl hc3 rfl rfl rfl (e2 rfl l2_10) (es rfl (et rfl)) (by first | (rw [List.all_toArray] <;> rfl) | (simp only [List.all_toArray, List.all_cons, List.all_nil] <;> rfl)) (by rfl) (by kernel_rfl) (fun w13 c13 hc13 hS13 => ?_)
  replace hS13 : St w NoX [c13, c2] w13 := hS13
  refine W_v rfl rfl (V_asg rfl (et rfl)) ?_
  refine W_end (gen_Q fun A14 hA14 => ?_)
  have hsz14 := szq hA14
  have hdf14 := dfE hA14 hdf10
  have l2_14 := ek3 hA14 2 rfl l2_10
  have l3_14 := lookE hA14 3 (et rfl)
  clear hA14 hsz10 hdf10 l1_10 l2_10 l4_10 l10_10
  have hS15 : St w NoX [c13] w13 := hS13.sel [0] (by decide) rfl
  refine then_n (hK12 _ _ ?_)
  clear hK12
  refine wp_ret ?_
  refine then_ret ?_
  refine ret_in (results_2 Try.results18 (rv_cellA l2_14 (hS15.obj 0 rfl hc13) Try.underlying29 rfl (by kernel_rfl)) (rv_tmp l3_14)) hdf14 ?_
  obtain ⟨c16, hc16, hS16⟩ := hS15.rmNil
  obtain ⟨c17, hc17, hS17⟩ := hS16.pnil (s := 1)
  have hb := nw_e (show cfE C N Z K Q ≠ 0 by omega)
  exact ⟨_, _, rfl, (hS17.fin2 1 rfl (hc16.trans (by rw [hb.1])) 0 rfl (hc17.trans (by rw [show nwN C N Z K Q = [] by exact hb.2] <;> rfl)) (by decide))⟩
 ·have hr := cf_rng (show cfE C N Z K Q = 0 by omega)
  refine wp_skip ?_
  refine then_n (hK8 _ _ ?_)
  clear hK8
  refine wp_seq_k fun K18 hK18 => ?_
  refine region_in ?_
  refine W_call rfl rfl rfl Try.func55 (by kernel_rfl) rfl (args0) (qnew_c  ) ?_
  rintro _ w19 ⟨v_19, rfl, hP19⟩
  refine ⟨_, rfl, ?_⟩
  obtain ⟨c_19, hc_19, hP19⟩ := gen1 hP19
  have hS19 := hS6.join hP19
  replace hS19 : St w NoX [c_19, c3, c2] w19 := hS19
  refine W_v rfl rfl (V_bldC (n := 2) (z := .agg #[.slice none 0 0, .slice none 0 0]) (cs := #[.slice none 0 0, v_19]) rfl (parts1 (et rfl)) (by kernel_rfl) (by simp only [List.all_cons, List.all_nil, cells_agg] <;> rfl) (by kernel_rfl) (by simp only [List.foldl_cons, List.foldl_nil, cells_agg, getD_one, List.setIfInBounds_toArray, List.set_cons_succ, List.set_cons_zero] <;> rfl)) ?_
  refine W_allocS (z := .agg #[.slice none 0 0, .slice none 0 0]) (zs := #[.slice none 0 0, .slice none 0 0]) hS19 rfl rfl rfl (by kernel_rfl) (by rfl) (fun g20 w20 c20 hc20 hS20 => ?_)
  replace hS20 : St w NoX [c20, c_19, c3, c2] w20 := hS20
  refine W_stAS 0 hS20 rfl hc20 rfl rfl rfl (et rfl) (es rfl (et rfl)) (by simp only [List.all_toArray, List.all_cons, List.all_nil, SlN_one (ow_at (hS20.chq 1 rfl hc_19))] <;> rfl) (by rfl) (by kernel_rfl) (fun w21 c21 hc21 hS21 => ?_)
  replace hS21 : St w NoX [c21, c_19, c3, c2] w21 := hS21
  refine W_end (gen_Q fun A22 hA22 => ?_)
  have hsz22 := szq hA22
  have hdf22 := dfE hA22 hdf10
  have l1_22 := ek3 hA22 1 rfl l1_10
  have l2_22 := ek3 hA22 2 rfl l2_10
  have l5_22 := lookE hA22 5 (et rfl)
  clear hA22 hsz10 hdf10 l1_10 l2_10 l4_10 l10_10
  refine then_n (hK18 _ _ ?_)
  clear hK18
  refine wp_seq_k fun K23 hK23 => ?_
  refine wp_seq_k fun K24 hK24 => ?_
  refine region_in ?_
  refine W_v rfl rfl (V_asg rfl rfl) ?_
  refine W_end (gen_Q fun A25 hA25 => ?_)
  have hsz25 := szq hA25
  have hdf25 := dfE hA25 hdf22
  have l1_25 := lookE hA25 1 (es rfl l1_22)
  have l2_25 := lookE hA25 2 (es rfl l2_22)
  have l5_25 := lookE hA25 5 (es rfl l5_22)
  have l6_25 := lookE hA25 6 (et rfl)
  clear hA25 hsz22 hdf22 l1_22 l2_22 l5_22
  refine then_n (hK24 _ _ ?_)
  clear hK24
  refine wp_block ?_
  obtain ⟨c26, hc26, hS26⟩ := hS21.pnil (s := 1)
  replace hc26 : c26 = ro 1 fstC (.slice none 0 0) ([] : List SL) := hc26
  obtain ⟨c27, hc27, hS27⟩ := owl_mt hS26
  replace hS27 : St w NoX [c27, c26, c21, c_19, c3, c2] w21 := hS27
  -- loop 6
  refine loopX (fun mz A' w' => SzN A' 28 ∧ A'.defers = [] ∧ (∃ (k : Nat) (hv : Value) (U : List SL), (mz = N.toNat - k) ∧ (k ≤ N.toNat) ∧ (csF U = List.replicate k (List.replicate 8 (0 : Int))) ∧ (EV A' (.tmp 6) = .int .i64 (k : Int)) ∧ (EV A' (.tmp 1) = EV A25 (.tmp 1)) ∧ (EV A' (.tmp 2) = EV A25 (.tmp 2)) ∧ (EV A' (.tmp 5) = EV A25 (.tmp 5)) ∧ (St w NoX [owl .i64 U, ro 1 fstC hv U, bx g20 29 #[hv, v_19], io .i64 v_19 (List.replicate 8 (0 : Int)), bx g3 29 #[.slice none 0 0, .slice none 0 0], bx g2 23 #[.int .i64 (C), .int .i64 (N), .int .i64 (Z), .int .i64 (K), .int .i64 (Q)]] w'))) (N.toNat - 0) ⟨hsz25, hdf25, 0, (.slice none 0 0), [], rfl, (by omega), rfl, ((l6_25).trans (by first | rfl | (simp; done) | (congr 1; omega))), rfl, rfl, rfl, (by have q0 : c27 = owl .i64 [] := hc27.trans (rfl); have q1 : c26 = ro 1 fstC (.slice none 0 0) [] := hc26.trans (rfl); have q2 := hc21; have q3 := hc_19; have q4 := hc3; have q5 := hc2; subst q0 q1 q2 q3 q4 q5; exact hS27)⟩ ?_
  clear hS27 hc27 hc26 hc21 hc_19 hc3 hc2
  rintro n28 A28 w28 ⟨hsz28, hdf28, k, hv, U, hm28, hk, hU, l6_28, u1_28, u2_28, u5_28, hS28⟩
  have l1_28 := u1_28.trans l1_25
  have l2_28 := u2_28.trans l2_25
  have l5_28 := u5_28.trans l5_25
  obtain ⟨c27_28, c26_28, c21_28, c_28, c3_28, c2_28, hc27_28, hc26_28, hc21_28, hc_28, hc3_28, hc2_28, hS28⟩ := gen6 hS28
  refine wp_seq_k fun K29 hK29 => ?_
  refine wp_seq_k fun K30 hK30 => ?_
  refine region_in ?_
  refine W_v rfl rfl (V_mov rfl l6_28) ?_
  refine W_v rfl rfl (V_fa (off' := 1) rfl (es rfl l1_28) Try.underlying23 rfl (by decide +kernel) rfl) ?_
  refine W_r rfl rfl (VR_ldC rfl (et rfl) (cell_box (v := .int .i64 (N)) (hS28.obj 5 rfl hc2_28) rfl) Try.underlying3 rfl) ?_
  refine W_v rfl rfl (V_lss rfl (e2 rfl (et rfl)) (et rfl)) ?_
  refine W_end (gen_Q fun A31 hA31 => ?_)
  have hsz31 := szq hA31
  have hdf31 := dfE hA31 hdf28
  have l1_31 := ek4 hA31 1 rfl l1_28
  have l2_31 := ek4 hA31 2 rfl l2_28
  have l5_31 := ek4 hA31 5 rfl l5_28
  have l6_31 := ek4 hA31 6 rfl l6_28
  have l18_31 := lookE hA31 18 (et rfl)
  clear hA31 hsz28 hdf28 l6_28 l1_28 l2_28 l5_28
  refine then_n (hK30 _ _ ?_)
  clear hK30
  refine cond_dec l18_31 (fun c32 => ?_) (fun c32 => ?_)
  ·have hUl := rep_len hU
   refine wp_skip ?_
   refine then_n (hK29 _ _ ?_)
   clear hK29
   refine wp_seq_k fun K33 hK33 => ?_
   refine wp_block ?_
   refine region_monoS 4 5 [none, none, some (SPv [] (fun _ => fun u l' => ∃ v_s, u = .agg #[v_s] ∧ ∃ c_s, c_s = io .i64 (v_s) (List.replicate 8 (0 : Int)) ∧ l' = [c_s]) 2), some (SPv [23] (fun vs => fun u l' => ∃ g_, u = .slice (some ⟨g_, 0, none⟩) 1 1 ∧ ∃ c_, c_ = ro 1 fstC (.slice (some ⟨g_, 0, none⟩) 1 1) [(((cel (vs.getD 0 undef) 0), (List.replicate 8 (0 : Int))))] ∧ l' = [c_]) 3)] (by kernel_rfl) (by kernel_rfl) ?_
   refine D_v rfl rfl (V_fa (off' := 0) rfl l5_31 Try.underlying29 rfl (by decide +kernel) rfl) rfl rfl ?_
   refine D_r rfl rfl (by kernel_rfl) (fun sx hx hF => (VR_ldC rfl (et rfl) (cell_box (v := hv) ((hS28.grow hx).obj 2 rfl hc21_28) rfl) Try.underlying24 rfl)) rfl rfl ?_
   refine D_call (ts := []) (vs := []) (C0 := fun _ => fun u l' => ∃ v_s, u = .agg #[v_s] ∧ ∃ c_s, c_s = io .i64 (v_s) (List.replicate 8 (0 : Int)) ∧ l' = [c_s]) (C := fun u l' => ∃ v_s, u = .agg #[v_s] ∧ ∃ c_s, c_s = io .i64 (v_s) (List.replicate 8 (0 : Int)) ∧ l' = [c_s]) rfl rfl rfl Try.func55 (by kernel_rfl) rfl (args0) rfl rfl rfl rfl (fun sx hx hF => ?_) (fun u34 l34 hu34 => ?_)
   ·refine (qnew_c  ).mono ?_
    rintro _ _ ⟨v_34, rfl, hz⟩
    exact ⟨_, rfl, _, ⟨_, rfl, _, rfl, rfl⟩, hz⟩
   obtain ⟨v_34, rfl, c_34, hc_34, hl34⟩ := hu34
   have hll35 : [((v_34, (List.replicate 8 (0 : Int))))].length = 1 := rfl
   refine D_lay (ts := [23]) (vs := [.agg #[v_34]]) (C0 := fun vs => fun u l' => ∃ g_, u = .slice (some ⟨g_, 0, none⟩) 1 1 ∧ ∃ c_, c_ = ro 1 fstC (.slice (some ⟨g_, 0, none⟩) 1 1) [(((cel (vs.getD 0 undef) 0), (List.replicate 8 (0 : Int))))] ∧ l' = [c_]) (C := fun u l' => ∃ g_, u = .slice (some ⟨g_, 0, none⟩) 1 1 ∧ ∃ c_, c_ = ro 1 fstC (.slice (some ⟨g_, 0, none⟩) 1 1) [((v_34, (List.replicate 8 (0 : Int))))] ∧ l' = [c_]) rfl rfl rfl rfl (ts1 (et rfl)) rfl (fun sx hx hF => lay_lit (vs := [.agg #[v_34]]) 1 rfl (parts1 (et rfl)) rfl Try.underlying24 (by kernel_rfl) (by decide) (by intro v hv; simp only [List.mem_cons, List.not_mem_nil, or_false] at hv; rcases hv with rfl <;> rfl) (by rfl)) (fun u35 l35 hu35 => ?_)
   obtain ⟨g35, rfl, c35, hc35, hl35⟩ := hu35
   refine D_eff rfl ?_
   refine ZS_eff hS28 rfl rfl (fun s36 hJ36 hL36 hF36 => ?_)
   obtain ⟨ll34, ws34, we34, ⟨v_34q, hq34, c_34r, hc_34r, hl34r⟩, hm34, k34, e34⟩ := L.all_get (L.all_rest hF36); cases hq34; subst hl34r
   replace hJ36 := hJ36.add hL36 (i := 2) rfl hm34 k34 e34
   obtain ⟨ll35, ws35, we35, ⟨g35q, hq35, c35r, hc35r, hl35r⟩, hm35, k35, e35⟩ := L.all_get hF36; cases hq35; subst hl35r
   replace hJ36 := hJ36.add hL36 (i := 3) rfl hm35 k35 e35
   have hS36 := hJ36.st; clear hF36 hJ36 hL36
   generalize s36.1 = w36 at *
   replace hS36 : St w NoX [c35r, c_34r, c27_28, c26_28, c21_28, c_28, c3_28, c2_28] w36 := hS36
   refine W_appS 1 3 hS36 rfl hc26_28 rfl rfl rfl (e2 rfl (et rfl)) (et rfl) Try.underlying24 Try.underlying24 (z := .agg #[.slice none 0 0]) (bytes := 24) (by kernel_rfl) rfl (by decide) (ow_at (hS36.chq 0 rfl hc35r)) (by intro u hu; simp only [List.flatMap_cons, List.flatMap_nil, fstC, List.append_nil, List.cons_append, List.nil_append, List.mem_cons, List.not_mem_nil, or_false] at hu; rcases hu with rfl <;> first | exact SlN_one (ow_at (hS36.chq 1 rfl hc_34r))) (by first | omega | (simp; done) | (simp; omega)) (by first | omega | (simp; done) | (simp; omega)) (fun v37 w37 c37 hc37 hS37 => ?_)
   replace hc37 : c37 = ro 1 fstC v37 (U ++ [((v_34, (List.replicate 8 (0 : Int))))]) := hc37.trans (app_eqR (by first | (simp; done) | (rw [List.take_of_length_le (l := List.drop _ _) (by rw [List.length_drop]; exact Nat.le_refl _)])))
   replace hS37 : St w NoX [c35r, c_34r, c27_28, c37, c21_28, c_28, c3_28, c2_28] w37 := hS37
   have hS38 := hS37.sel [1, 2, 0, 3, 4, 5, 6, 7] (by decide) (l' := [c_34r, c27_28, c35r, c37, c21_28, c_28, c3_28, c2_28]) rfl
   replace hS38 : St w NoX [c_34r, c27_28, c35r, c37, c21_28, c_28, c3_28, c2_28] w37 := hS38
   rw [hc_34r, hc27_28] at hS38
   obtain ⟨c39, hc39, hS39⟩ := gen1 (owl_push (v := v_34) (xs := (List.replicate 8 (0 : Int))) (L := U) hS38)
   replace hS39 : St w NoX [c39, c35r, c37, c21_28, c_28, c3_28, c2_28] w37 := hS39
   replace hc39 : c39 = owl .i64 (U ++ [((v_34, (List.replicate 8 (0 : Int))))]) := hc39
   refine W_v rfl rfl (V_fa (off' := 0) rfl (e5 rfl l5_31) Try.underlying29 rfl (by decide +kernel) rfl) ?_
   refine W_stCS (zs' := #[v37, v_19]) 3 hS39 rfl hc21_28 rfl rfl rfl (et rfl) (es rfl (et rfl)) (SlN_one (ow_at (hS39.chq 2 rfl hc37))) (by rfl) (by kernel_rfl) (by first | rfl | (simp only [List.setIfInBounds_toArray, List.set_cons_succ, List.set_cons_zero] <;> rfl)) (fun w40 c40 hc40 hS40 => ?_)
   replace hS40 : St w NoX [c39, c35r, c37, c40, c_28, c3_28, c2_28] w40 := hS40
   refine W_end ?_
   refine Qo_normal ?_
   refine gen_Q (fun A41 hA41 => ?_)
   have hsz41 := szq hA41
   have hdf41 := dfE hA41 hdf31
   have l1_41 := ek6 hA41 1 rfl l1_31
   have l2_41 := ek6 hA41 2 rfl l2_31
   have l5_41 := ek6 hA41 5 rfl l5_31
   have l6_41 := ek6 hA41 6 rfl l6_31
   clear hA41 hsz31 hdf31 l1_31 l2_31 l5_31 l6_31 l18_31
   have hS42 : St w NoX [c39, c37, c40, c_28, c3_28, c2_28] w40 := hS40.sel [0, 2, 3, 4, 5, 6] (by decide) rfl
   refine inb_n ?_
   refine then_n (hK33 _ _ ?_)
   clear hK33
   refine region_in ?_
   refine W_v rfl rfl (V_mov rfl l6_41) ?_
   refine W_v rfl rfl (V_add rfl (et rfl) rfl (by omega) (by omega)) ?_
   refine W_v rfl rfl (V_asg rfl (et rfl)) ?_
   refine W_end (gen_Q fun A43 hA43 => ?_)
   have hsz43 := szq hA43
   have hdf43 := dfE hA43 hdf41
   have l1_43 := ek3 hA43 1 rfl l1_41
   have l2_43 := ek3 hA43 2 rfl l2_41
   have l5_43 := ek3 hA43 5 rfl l5_41
   have l6_43 := lookE hA43 6 (et rfl)
   clear hA43 hsz41 hdf41 l1_41 l2_41 l5_41 l6_41
   refine then_n ⟨N.toNat - (k + 1), by simp only [hm28]; omega, hsz43, hdf43, (k + 1), v37, (U ++ [((v_34, (List.replicate 8 (0 : Int))))]), rfl, (by omega), (by rw [csF_app, hU]; exact List.replicate_succ'.symm), ((l6_43).trans (by first | rfl | (simp; done) | (congr 1; omega))), ((l1_43).trans l1_25.symm), ((l2_43).trans l2_25.symm), ((l5_43).trans l5_25.symm), (by have q0 : c39 = owl .i64 (U ++ [((v_34, (List.replicate 8 (0 : Int))))]) := hc39.trans (rfl); have q1 : c37 = ro 1 fstC v37 (U ++ [((v_34, (List.replicate 8 (0 : Int))))]) := hc37.trans (rfl); have q2 := hc40; have q3 := hc_28; have q4 := hc3_28; have q5 := hc2_28; subst q0 q1 q2 q3 q4 q5; exact hS42)⟩
  ·refine wp_exit ?_
   refine then_exit ?_
   refine then_exit ?_
   refine inb_hit ?_
   refine then_n (hK23 _ _ ?_)
   clear hK23
   refine wp_seq_k fun K44 hK44 => ?_
   refine region_in ?_
   refine W_r rfl rfl (VR_ldA rfl l5_31 (hS28.obj 2 rfl hc21_28) Try.underlying29 rfl (by kernel_rfl)) ?_
   refine W_stAS 4 hS28 rfl hc3_28 rfl rfl rfl (es rfl l2_31) (et rfl) (by simp only [List.all_toArray, List.all_cons, List.all_nil, SlN_one (ow_at (hS28.chq 1 rfl hc26_28)), SlN_one (ow_at (hS28.chq 3 rfl hc_28))] <;> rfl) (by rfl) (by kernel_rfl) (fun w45 c45 hc45 hS45 => ?_)
   replace hS45 : St w NoX [c27_28, c26_28, c21_28, c_28, c45, c2_28] w45 := hS45
   refine W_v rfl rfl (V_asg rfl rfl) ?_
   refine W_end (gen_Q fun A46 hA46 => ?_)
   have hsz46 := szq hA46
   have hdf46 := dfE hA46 hdf31
   have l2_46 := ek2 hA46 2 rfl l2_31
   have l3_46 := lookE hA46 3 (et rfl)
   clear hA46 hsz31 hdf31 l1_31 l2_31 l5_31 l6_31 l18_31
   have hS47 : St w NoX [c27_28, c26_28, c_28, c45] w45 := hS45.sel [0, 1, 3, 4] (by decide) rfl
   refine then_n (hK44 _ _ ?_)
   clear hK44
   refine wp_ret ?_
   refine ret_in (results_2 Try.results18 (rv_cellA l2_46 (hS47.obj 3 rfl hc45) Try.underlying29 rfl (by kernel_rfl)) (rv_tmp l3_46)) hdf46 ?_
   have hS49 := hS47.sel [1, 0, 2, 3] (by decide) (l' := [c26_28, c27_28, c_28, c45]) rfl
   replace hS49 : St w NoX [c26_28, c27_28, c_28, c45] w45 := hS49
   obtain ⟨c48, hc48, hS48⟩ := St.rmClose hS49 hc26_28 hc27_28
   replace hS48 : St w NoX [c48, c_28, c45] w45 := hS48
   have he : cfE C N Z K Q = 0 := by omega
   have hb := nw_k he
   rw [he]
   exact ⟨_, _, rfl, (hS48.fin2 0 rfl (hc48.trans (by rw [hb.1, hU, show k = N.toNat by omega])) 1 rfl (hc_28.trans (congrArg (io .i64 _) (by rw [hb.2]))) (by decide))⟩

set_option maxHeartbeats 4000000 in
theorem kall8_c {cv : Value} {U : List SL} {nv : Value} {ns : List Int} {w : World} (h_cv : Ro w NoX (rl 1 fstC cv U)) (n_cv : Ro w NoX (nsi U)) (h_nv : Ro w NoX (il .i64 nv ns))  :
  Calls Try.prog 41 #[.agg #[cv, nv]] w fun e w' => ∃ gb, e = .returned (.func (.func 71) #[] #[.pointer (some ⟨gb, 0, none⟩)]) ∧ St w NoX [bx gb 29 #[cv, nv]] w' := by
 refine calls_in 4 Try.func41 rfl rfl (by simp) (fun A0 hsz0 hdf0 hargs => ?_)
 have l0_0 := hargs 0 (.agg #[cv, nv]) rfl
 clear hargs; replace hsz0 : SzN A0 4 := ⟨hsz0⟩
 have hS := St.nil w
 have bh_cv := SlN.le (sl_SlN h_cv.at)
 have bh_nv := SlN.le (sl_SlN h_nv.at)
 refine wp_seq_k fun K1 hK1 => ?_
 refine region_in ?_
 refine W_boxS (zs := #[cv, nv]) hS rfl rfl rfl l0_0 (by rfl) (fun g2 w2 c2 hc2 hS2 => ?_)
 replace hS2 : St w NoX [c2] w2 := hS2
 refine W_v rfl rfl (V_asg rfl rfl) ?_
 refine W_end (gen_Q fun A3 hA3 => ?_)
 have hsz3 := szq hA3
 have hdf3 := dfE hA3 hdf0
 have l1_3 := lookE hA3 1 (es rfl (et rfl))
 clear hA3 hsz0 hdf0 l0_0
 refine then_n (hK1 _ _ ?_)
 clear hK1
 refine wp_seq_k fun K4 hK4 => ?_
 refine region_in ?_
 refine W_v rfl rfl (V_mkf rfl (args0) (args1 l1_3)) ?_
 refine W_v rfl rfl (V_asg rfl (et rfl)) ?_
 refine W_end (gen_Q fun A5 hA5 => ?_)
 have hsz5 := szq hA5
 have hdf5 := dfE hA5 hdf3
 have l2_5 := lookE hA5 2 (et rfl)
 clear hA5 hsz3 hdf3 l1_3
 refine then_n (hK4 _ _ ?_)
 clear hK4
 refine wp_ret ?_
 refine ret_in (results_1 Try.results41 (rv_tmp l2_5)) hdf5 ?_
 exact ⟨_, rfl, (hS2.fin1 0 rfl (hc2))⟩

set_option maxHeartbeats 4000000 in
theorem kall8_it {gb : Nat} {cv : Value} {U : List SL} {nv : Value} {ns : List Int} {Rd : World → Prop} (hRd : ∀ W, Rd W → (bx gb 29 #[cv, nv]).at W ∧ (rl 1 fstC cv U).at W ∧ (nsi U).at W ∧ (il .i64 nv ns).at W)  :
  Iter (α := Nat) Try.prog 71 #[.pointer (some ⟨gb, 0, none⟩)] (encA U nv ns) (·= (List.range (U.length + 1))) (·<+: (List.range (U.length + 1))) (·<+: (List.range (U.length + 1))) Rd := by
 intro l wb X cs ij J Jx w hij hR hY hS
 obtain ⟨hS, hback⟩ := hS.front hij
 clear hij
 generalize cs.eraseIdx ij = rest at hS hback
 obtain ⟨cj, hcj⟩ : ∃ c, c = J [] := ⟨_, rfl⟩
 rw [← hcj] at hS
 refine calls_inR 23 Try.func71 rfl rfl (by simp) (fun A0 hsz0 hdf0 hargs => ?_)
 have l0_0 := hargs 0 (.func (.yield l) #[] #[]) rfl
 have l1_0 := hargs 1 (.pointer (some ⟨gb, 0, none⟩)) rfl
 clear hargs; replace hsz0 : SzN A0 23 := ⟨hsz0⟩
 have bh_cv := SlN.le (sl_SlN (hRd _ (hR _ _ _ 0 hS (congrArg some hcj))).2.1)
 have bh_nv := SlN.le (sl_SlN (hRd _ (hR _ _ _ 0 hS (congrArg some hcj))).2.2.2)
 refine R_seq (fun K1 hK1 => ?_)
 refine R_seq (fun K2 hK2 => ?_)
 refine R_region (by kernel_rfl) ?_
 refine W_v rfl rfl (V_fa (off' := 0) rfl l1_0 Try.underlying29 rfl (by decide +kernel) rfl) ?_
 refine W_r rfl rfl (VR_ldC rfl (et rfl) (cell_box (v := cv) (ob_at (hRd _ (hR _ _ _ 0 hS (congrArg some hcj))).1) rfl) Try.underlying24 rfl) ?_
 refine W_v rfl rfl (V_lenS rfl (et rfl) (sl_SlN (hRd _ (hR _ _ _ 0 hS (congrArg some hcj))).2.1) Try.underlying24) ?_
 refine W_v rfl rfl (V_mov rfl rfl) ?_
 refine W_end ?_
 refine Qo_normal ?_
 refine gen_Q (fun A3 hA3 => ?_)
 have hsz3 := szq hA3
 have hdf3 := dfE hA3 hdf0
 have l0_3 := ek4 hA3 0 rfl l0_0
 have l1_3 := ek4 hA3 1 rfl l1_0
 have l6_3 := lookE hA3 6 (e2 rfl (et rfl))
 have l7_3 := lookE hA3 7 (es rfl (et rfl))
 have l8_3 := lookE hA3 8 (et rfl)
 clear hA3 hsz0 hdf0 l0_0 l1_0
 refine then_n (hK2 _ _ ?_)
 clear hK2
 refine R_block ?_
 -- loop 1
 refine R_loop (fun mz A' w' => SzN A' 23 ∧ A'.defers = [] ∧ (∃ (k : Nat), (mz = U.length - k) ∧ (k ≤ U.length) ∧ (EV A' (.tmp 8) = .int .i64 (k : Int)) ∧ (EV A' (.tmp 0) = EV A3 (.tmp 0)) ∧ (EV A' (.tmp 1) = EV A3 (.tmp 1)) ∧ (EV A' (.tmp 6) = EV A3 (.tmp 6)) ∧ (EV A' (.tmp 7) = EV A3 (.tmp 7)) ∧ (St wb X ((J (List.range k)) :: rest) w'))) (U.length - 0) ⟨hsz3, hdf3, 0, rfl, (by omega), ((l8_3).trans (by first | rfl | (simp; done) | (congr 1; omega))), rfl, rfl, rfl, rfl, (by have q0 : cj = J (List.range 0) := hcj.trans (rfl); subst q0; exact hS)⟩ ?_
 clear hS hcj
 rintro n4 A4 w4 ⟨hsz4, hdf4, k, hm4, hk, l8_4, u0_4, u1_4, u6_4, u7_4, hS4⟩
 have l0_4 := u0_4.trans l0_3
 have l1_4 := u1_4.trans l1_3
 have l6_4 := u6_4.trans l6_3
 have l7_4 := u7_4.trans l7_3
 obtain ⟨cj_4, hcj_4, hS4⟩ := gen1 hS4
 refine R_seq (fun K5 hK5 => ?_)
 refine R_region (by kernel_rfl) ?_
 refine W_v rfl rfl (V_lss rfl l8_4 l7_4) ?_
 refine W_end ?_
 refine Qo_normal ?_
 refine gen_Q (fun A6 hA6 => ?_)
 have hsz6 := szq hA6
 have hdf6 := dfE hA6 hdf4
 have l0_6 := lookE hA6 0 (es rfl l0_4)
 have l1_6 := lookE hA6 1 (es rfl l1_4)
 have l6_6 := lookE hA6 6 (es rfl l6_4)
 have l7_6 := lookE hA6 7 (es rfl l7_4)
 have l8_6 := lookE hA6 8 (es rfl l8_4)
 have l9_6 := lookE hA6 9 (et rfl)
 clear hA6 hsz4 hdf4 l8_4 l0_4 l1_4 l6_4 l7_4
 refine then_n (hK5 _ _ ?_)
 clear hK5
 refine R_seq (fun K7 hK7 => ?_)
 refine R_cond_dec l9_6 (fun c8 => ?_) (fun c8 => ?_)
 ·refine R_skip ?_
  refine then_n (hK7 _ _ ?_)
  clear hK7
  refine R_seq (fun K9 hK9 => ?_)
  refine R_block ?_
  refine R_seq (fun K10 hK10 => ?_)
  refine R_region (by kernel_rfl) ?_
  refine W_v rfl rfl (V_mov rfl l8_6) ?_
  have k11 : k < U.length := by first | omega | (simp only [List.length_cons, List.length_nil]; omega) | (simp only [List.length_set]; omega) | decide
  obtain ⟨y11, hy11⟩ := get_some (xs := U) (k := k) k11
  obtain ⟨B11, O11, C11, hv11⟩ := (SlN.blk (sl_SlN (hRd _ (hR _ _ _ 0 hS4 (congrArg some hcj_4))).2.1) (by first | omega | (simp only [List.length_cons, List.length_nil]; omega) | (simp only [List.length_set]; omega) | decide))
  refine W_v rfl rfl (V_ixS (off := O11 + k * 1) 1 (k) rfl (es rfl l6_6) (es rfl l8_6) hv11 (by omega) k11 Try.underlying24 (by kernel_rfl) rfl) ?_
  have bfn12 := SlN.le (sl_SlN (nsi_at1 ((hRd _ (hR _ _ _ 0 hS4 (congrArg some hcj_4))).2.2.1) hy11))
  refine W_r rfl rfl (VR_ldR (ys := fstC y11) rfl (et rfl) (SlN.row fstC_len (sl_SlN (hRd _ (hR _ _ _ 0 hS4 (congrArg some hcj_4))).2.1) hv11 hy11 rfl) Try.underlying27 rfl (by kernel_rfl)) ?_
  refine W_allocS (z := .agg #[.slice none 0 0]) (zs := #[.slice none 0 0]) hS4 rfl rfl rfl (by kernel_rfl) (by rfl) (fun g13 w13 c13 hc13 hS13 => ?_)
  replace hS13 : St wb X (c13 :: cj_4 :: rest) w13 := hS13
  refine W_v rfl rfl (V_asg rfl (e3 rfl (et rfl))) ?_
  refine W_stAS 0 hS13 rfl hc13 rfl rfl rfl (es rfl (et rfl)) (e2 rfl (et rfl)) (by simp only [List.all_toArray, List.all_cons, List.all_nil, fstC, SlN_one (sl_SlN (nsi_at1 ((hRd _ (hR _ _ _ 1 hS13 (congrArg some hcj_4))).2.2.1) hy11))] <;> rfl) (by rfl) (by kernel_rfl) (fun w14 c14 hc14 hS14 => ?_)
  replace hS14 : St wb X (c14 :: cj_4 :: rest) w14 := hS14
  refine W_end ?_
  refine Qo_normal ?_
  refine gen_Q (fun A15 hA15 => ?_)
  have hsz15 := szq hA15
  have hdf15 := dfE hA15 hdf6
  have l0_15 := ek5 hA15 0 rfl l0_6
  have l1_15 := ek5 hA15 1 rfl l1_6
  have l3_15 := lookE hA15 3 (et rfl)
  have l4_15 := lookE hA15 4 (es rfl (et rfl))
  have l6_15 := ek5 hA15 6 rfl l6_6
  have l7_15 := ek5 hA15 7 rfl l7_6
  have l8_15 := ek5 hA15 8 rfl l8_6
  clear hA15 hsz6 hdf6 l0_6 l1_6 l6_6 l7_6 l8_6 l9_6
  refine then_n (hK10 _ _ ?_)
  clear hK10
  refine R_seq (fun K16 hK16 => ?_)
  refine R_regionI ?_
  refine I_v rfl rfl (by rfl) (V_mov rfl l0_15) ?_
  refine I_v rfl rfl (by rfl) (V_mov rfl (es rfl l3_15)) ?_
  refine I_r rfl rfl (by rfl) (VR_ldA rfl (e2 rfl l4_15) (hS14.obj 0 rfl hc14) Try.underlying27 rfl (by kernel_rfl)) ?_
  refine I_yield rfl rfl (by rfl) (hY (List.range k) k _ _ 1 hS14 (congrArg some hcj_4) (rng_pre (by omega))) (fun res hr => run_yield2 rfl (e2 rfl (et rfl)) (es rfl (et rfl)) (et rfl) (by have h := hr; rw [encA_at hy11] at h; exact h)) ?_
  rintro _ w17 (⟨rfl, hS17⟩ | ⟨rfl, hS17⟩)
  ·refine ⟨_, rfl, ?_⟩
   obtain ⟨cj17, hcj17⟩ : ∃ c_, c_ = J ((List.range k) ++ [k]) := ⟨_, rfl⟩
   rw [← hcj17] at hS17
   replace hS17 : St wb X (c14 :: cj17 :: rest) w17 := hS17
   refine I_up (by kernel_rfl) ?_
   refine W_v rfl rfl (V_notT rfl (et rfl)) ?_
   refine W_end ?_
   refine Qo_normal ?_
   refine gen_Q (fun A18 hA18 => ?_)
   have hsz18 := szq hA18
   have hdf18 := dfE hA18 hdf15
   have l0_18 := ek5 hA18 0 rfl l0_15
   have l1_18 := ek5 hA18 1 rfl l1_15
   have l6_18 := ek5 hA18 6 rfl l6_15
   have l7_18 := ek5 hA18 7 rfl l7_15
   have l8_18 := ek5 hA18 8 rfl l8_15
   have l17_18 := lookE hA18 17 (et rfl)
   clear hA18 hsz15 hdf15 l0_15 l1_15 l3_15 l4_15 l6_15 l7_15 l8_15
   have hS20 := hS17.del 0
   replace hS20 : St wb X (cj17 :: rest) w17 := hS20
   refine then_n (hK16 _ _ ?_)
   clear hK16
   refine R_cond_f l17_18 ?_
   refine R_skip ?_
   refine inb_n ?_
   refine then_n (hK9 _ _ ?_)
   clear hK9
   refine R_region (by kernel_rfl) ?_
   refine W_v rfl rfl (V_add rfl l8_18 rfl (by omega) (by omega)) ?_
   refine W_v rfl rfl (V_mov rfl (et rfl)) ?_
   refine W_end ?_
   refine Qo_normal ?_
   refine gen_Q (fun A21 hA21 => ?_)
   have hsz21 := szq hA21
   have hdf21 := dfE hA21 hdf18
   have l0_21 := ek2 hA21 0 rfl l0_18
   have l1_21 := ek2 hA21 1 rfl l1_18
   have l6_21 := ek2 hA21 6 rfl l6_18
   have l7_21 := ek2 hA21 7 rfl l7_18
   have l8_21 := lookE hA21 8 (et rfl)
   clear hA21 hsz18 hdf18 l0_18 l1_18 l6_18 l7_18 l8_18 l17_18
   refine then_n ⟨U.length - (k + 1), by simp only [hm4]; omega, hsz21, hdf21, (k + 1), rfl, (by omega), ((l8_21).trans (by first | rfl | (simp; done) | (congr 1; omega))), ((l0_21).trans l0_3.symm), ((l1_21).trans l1_3.symm), ((l6_21).trans l6_3.symm), ((l7_21).trans l7_3.symm), (by have q0 : cj17 = J (List.range (k + 1)) := hcj17.trans (congrArg J (rng_snoc k)); subst q0; exact hS20)⟩
  ·refine ⟨_, rfl, ?_⟩
   obtain ⟨cj17, hcj17⟩ : ∃ c_, c_ = Jx ((List.range k) ++ [k]) := ⟨_, rfl⟩
   rw [← hcj17] at hS17
   replace hS17 : St wb X (c14 :: cj17 :: rest) w17 := hS17
   refine I_up (by kernel_rfl) ?_
   refine W_v rfl rfl (V_notF rfl (et rfl)) ?_
   refine W_end ?_
   refine Qo_normal ?_
   refine gen_Q (fun A22 hA22 => ?_)
   have hsz22 := szq hA22
   have hdf22 := dfE hA22 hdf15
   have l0_22 := ek5 hA22 0 rfl l0_15
   have l1_22 := ek5 hA22 1 rfl l1_15
   have l6_22 := ek5 hA22 6 rfl l6_15
   have l7_22 := ek5 hA22 7 rfl l7_15
   have l8_22 := ek5 hA22 8 rfl l8_15
   have l17_22 := lookE hA22 17 (et rfl)
   clear hA22 hsz15 hdf15 l0_15 l1_15 l3_15 l4_15 l6_15 l7_15 l8_15
   have hS24 := hS17.del 0
   replace hS24 : St wb X (cj17 :: rest) w17 := hS24
   refine then_n (hK16 _ _ ?_)
   clear hK16
   refine R_cond_t l17_22 ?_
   refine R_ret ?_
   refine inb_ret ?_
   refine then_ret ?_
   refine then_ret ?_
   refine inb_ret ?_
   refine then_ret ?_
   refine ret_inR0 (results_0 Try.results71 ) hdf22 ?_
   exact ⟨⟨_, rfl⟩, .inr ⟨_, (rng_pre (by omega)), hback _ _ (hcj17 ▸ hS24)⟩⟩
 ·refine R_exit ?_
  refine then_exit ?_
  refine then_exit ?_
  refine inb_hit ?_
  refine then_n (hK1 _ _ ?_)
  clear hK1
  refine R_regionI ?_
  refine I_v rfl rfl (by rfl) (V_mov rfl l0_6) ?_
  refine I_v rfl rfl (by rfl) (V_fa (off' := 1) rfl (es rfl l1_6) Try.underlying29 rfl (by decide +kernel) rfl) ?_
  refine I_r rfl rfl (by rfl) (VR_ldP (ys := [nv]) rfl (et rfl) (ob_at (hRd _ (hR _ _ _ 0 hS4 (congrArg some hcj_4))).1) (ldP_at rfl) Try.underlying27 rfl (by kernel_rfl)) ?_
  refine I_yield rfl rfl (by rfl) (hY (List.range k) k _ _ 0 hS4 (congrArg some hcj_4) (rng_pre (by omega))) (fun res hr => run_yield2 rfl (e2 rfl (et rfl)) rfl (et rfl) (by have h := hr; rw [encA_end (by omega)] at h; exact h)) ?_
  rintro _ w25 (⟨rfl, hS25⟩ | ⟨rfl, hS25⟩)
  ·refine ⟨_, rfl, ?_⟩
   obtain ⟨cj25, hcj25⟩ : ∃ c_, c_ = J ((List.range k) ++ [k]) := ⟨_, rfl⟩
   rw [← hcj25] at hS25
   replace hS25 : St wb X (cj25 :: rest) w25 := hS25
   refine I_up (by kernel_rfl) ?_
   refine W_end ?_
   refine Qo_normal ?_
   refine gen_Q (fun A26 hA26 => ?_)
   have hsz26 := szq hA26
   have hdf26 := dfE hA26 hdf6
   clear hA26 hsz6 hdf6 l0_6 l1_6 l6_6 l7_6 l8_6 l9_6
   refine ret_inR0 (results_0 Try.results71 ) hdf26 ?_
   exact ⟨⟨_, rfl⟩, .inl ⟨_, (show _ = _ by rw [show k = U.length by omega]; exact rng_snoc _), hback _ _ (hcj25 ▸ hS25)⟩⟩
  ·refine ⟨_, rfl, ?_⟩
   obtain ⟨cj25, hcj25⟩ : ∃ c_, c_ = Jx ((List.range k) ++ [k]) := ⟨_, rfl⟩
   rw [← hcj25] at hS25
   replace hS25 : St wb X (cj25 :: rest) w25 := hS25
   refine I_up (by kernel_rfl) ?_
   refine W_end ?_
   refine Qo_normal ?_
   refine gen_Q (fun A27 hA27 => ?_)
   have hsz27 := szq hA27
   have hdf27 := dfE hA27 hdf6
   clear hA27 hsz6 hdf6 l0_6 l1_6 l6_6 l7_6 l8_6 l9_6
   refine ret_inR0 (results_0 Try.results71 ) hdf27 ?_
   exact ⟨⟨_, rfl⟩, .inr ⟨_, (rng_pre (by omega)), hback _ _ (hcj25 ▸ hS25)⟩⟩

end Go.Proofs.Yteppjefmlibmoaa