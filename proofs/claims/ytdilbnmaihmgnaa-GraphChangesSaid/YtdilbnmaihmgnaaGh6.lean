import Derived.Test.YtdilbnmaihmgnaaProg
import Derived.Test.YtdilbnmaihmgnaaGh5
import Derived.Test.YtdilbnmaihmgnaaPl15g
namespace Go.Proofs.Ytdilbnmaihmgnaa
open Go.RowKit Go.Own Go.Own.R Go.Own.G Go.Own.Gr


set_option maxHeartbeats 4000000 in
theorem kLv_c {ov : Value} {O : List Ob} {rv : Value} {rs : List Int} {w : World} (h_ov : Ro w NoX (rl 2 obC ov O)) (n_ov : Ro w NoX (nst O)) (h_rv : Ro w NoX (il .i64 rv rs)) (hsm : SM (O.map ab)) :
    Calls Try.prog 17 #[.agg #[ov, rv]] w fun e w' => ∃ v, e = .returned (.tuple #[v, .int .i64 (ckG (O.map ab) rs).2]) ∧ St w NoX [io .i64 (v) (lvT (O.map ab) rs)] w' := by
  refine calls_in 13 Try.func17 rfl rfl (by simp) (fun A0 hsz0 hdf0 hargs => ?_)
  have l0_0 := hargs 0 (.agg #[ov, rv]) rfl
  clear hargs; replace hsz0 : SzN A0 13 := ⟨hsz0⟩
  have hS := St.nil w
  have bh_ov := SlN.le (sl_SlN h_ov.at)
  have bh_rv := SlN.le (sl_SlN h_rv.at)
  refine wp_seq_k (fun K1 hK1 => ?_)
  refine region_in ?_
  refine W_boxS (zs := #[ov, rv]) hS rfl rfl rfl l0_0 (by rfl) (fun g2 w2 c2 hc2 hS2 => ?_)
  replace hS2 : St w NoX [c2] w2 := hS2
  refine W_v rfl rfl (V_asg rfl rfl) ?_
  refine W_v rfl rfl (V_asg rfl rfl) ?_
  refine W_end ?_
  refine gen_Q (fun A3 hA3 => ?_)
  have hsz3 := szq hA3
  have hdf3 : A3.defers = [] := by rw [hA3]; simp only [df_put]; exact hdf0
  have l1_3 := lookE hA3 1 (e2 rfl (et rfl))
  clear hA3 hsz0 hdf0 l0_0
  refine then_n (hK1 _ _ ?_)
  clear hK1
  refine wp_seq_k (fun K4 hK4 => ?_)
  refine wp_seq_k (fun K5 hK5 => ?_)
  refine region_in ?_
  refine W_r rfl rfl (VR_ldA rfl l1_3 (hS2.obj 0 rfl hc2) Try.underlying25 rfl (by kernel_rfl)) ?_
  refine W_call rfl rfl rfl Try.func47 (by kernel_rfl) rfl (args2 (et rfl) rfl) (kcd_c (ns := []) (nv := .slice none 0 0) (hS2.roC h_ov) (hS2.roC n_ov) (hS2.roC h_rv) ro_nil ) ?_
  rintro _ w6 ⟨rfl, hP6⟩
  refine ⟨_, rfl, ?_⟩
  have hS6 := hS2.join hP6
  replace hS6 : St w NoX [c2] w6 := hS6
  refine W_v rfl rfl (V_asg rfl (et rfl)) ?_
  refine W_end ?_
  refine gen_Q (fun A7 hA7 => ?_)
  have hsz7 := szq hA7
  have hdf7 : A7.defers = [] := by rw [hA7]; simp only [df_put]; exact hdf3
  have l1_7 := lookE hA7 1 (e2 rfl (es rfl l1_3))
  have l4_7 := lookE hA7 4 (et rfl)
  clear hA7 hsz3 hdf3 l1_3
  refine then_n (hK5 _ _ ?_)
  clear hK5
  refine wp_seq_k (fun K8 hK8 => ?_)
  refine region_in ?_
  refine W_v rfl rfl (V_mov rfl l4_7) ?_
  refine W_v rfl rfl (V_neq rfl (et rfl) rfl) ?_
  refine W_end ?_
  refine gen_Q (fun A9 hA9 => ?_)
  have hsz9 := szq hA9
  have hdf9 : A9.defers = [] := by rw [hA9]; simp only [df_put]; exact hdf7
  have l1_9 := lookE hA9 1 (es rfl (es rfl l1_7))
  have l4_9 := lookE hA9 4 (es rfl (es rfl l4_7))
  have l8_9 := lookE hA9 8 (et rfl)
  clear hA9 hsz7 hdf7 l1_7 l4_7
  refine then_n (hK8 _ _ ?_)
  clear hK8
  refine cond_dec l8_9 (fun c10 => ?_) (fun c10 => ?_)
  · skip
    refine wp_seq_k (fun K11 hK11 => ?_)
    refine region_in ?_
    refine W_v rfl rfl (V_mov rfl l4_9) ?_
    refine W_v rfl rfl (V_asg rfl rfl) ?_
    refine W_v rfl rfl (V_asg rfl (es rfl (et rfl))) ?_
    refine W_end ?_
    refine gen_Q (fun A12 hA12 => ?_)
    have hsz12 := szq hA12
    have hdf12 : A12.defers = [] := by rw [hA12]; simp only [df_put]; exact hdf9
    have l2_12 := lookE hA12 2 (es rfl (et rfl))
    have l3_12 := lookE hA12 3 (et rfl)
    clear hA12 hsz9 hdf9 l1_9 l4_9 l8_9
    have hS13 : St w NoX [] w6 := hS6.sel [] (by decide) rfl
    refine then_n (hK11 _ _ ?_)
    clear hK11
    refine wp_ret ?_
    refine then_ret ?_
    refine ret_in (results_2 Try.results17 (rv_tmp l2_12) (rv_tmp l3_12)) hdf12 ?_
    -- leaf T
    obtain ⟨c14, hc14, hS14⟩ := hS13.pnil (s := 1)
    have hne : ¬ (ckG (O.map ab) rs).2 = 0 := by rw [← ckd_nil]; have hc := c10; simpa using hc
    
    exact ⟨_, by first | rfl | rw [ckd_nil], (hS14.fin1 0 rfl (hc14.trans (by rw [lvT_e hne] <;> rfl)))⟩
  · skip
    have hck : (ckG (O.map ab) rs).2 = 0 := by rw [← ckd_nil]; simpa using c10
    have hG := ckG_iff.1 hck
    refine wp_skip ?_
    refine then_n (hK4 _ _ ?_)
    clear hK4
    refine wp_seq_k (fun K15 hK15 => ?_)
    refine region_in ?_
    refine W_r rfl rfl (VR_ldA rfl l1_9 (hS6.obj 0 rfl hc2) Try.underlying25 rfl (by kernel_rfl)) ?_
    refine W_call rfl rfl rfl Try.func49 (by kernel_rfl) rfl (args1 (et rfl)) (krc_c (hS6.roC h_ov) (hS6.roC n_ov) (hS6.roC h_rv) ) ?_
    rintro _ w16 ⟨gb_16, rfl, hP16⟩
    refine ⟨_, rfl, ?_⟩
    obtain ⟨cb_16, hcb_16, hP16⟩ := gen1 hP16
    have hS16 := hS6.join hP16
    replace hS16 : St w NoX [cb_16, c2] w16 := hS16
    refine W_call rfl rfl rfl Try.func48 (by kernel_rfl) rfl (args1 (et rfl)) (kso_c (gov := gb_16) (hS16.chC 0 rfl hcb_16) (hS16.roC h_ov) (hS16.roC n_ov) (hS16.roC h_rv) (by first | with_reducible assumption | with_reducible exact hG0) (by first | with_reducible assumption)) ?_
    rintro _ w17 ⟨v_17, rfl, hP17⟩
    refine ⟨_, rfl, ?_⟩
    obtain ⟨c_17, hc_17, hP17⟩ := gen1 hP17
    have hS17 := hS16.join hP17
    replace hS17 : St w NoX [c_17, cb_16, c2] w17 := hS17
    refine W_v rfl rfl (V_asg rfl (et rfl)) ?_
    refine W_v rfl rfl (V_asg rfl rfl) ?_
    refine W_end ?_
    refine gen_Q (fun A18 hA18 => ?_)
    have hsz18 := szq hA18
    have hdf18 : A18.defers = [] := by rw [hA18]; simp only [df_put]; exact hdf9
    have l2_18 := lookE hA18 2 (es rfl (et rfl))
    have l3_18 := lookE hA18 3 (et rfl)
    clear hA18 hsz9 hdf9 l1_9 l4_9 l8_9
    have hS19 : St w NoX [c_17] w17 := hS17.sel [0] (by decide) rfl
    refine then_n (hK15 _ _ ?_)
    clear hK15
    refine wp_ret ?_
    refine ret_in (results_2 Try.results17 (rv_tmp l2_18) (rv_tmp l3_18)) hdf18 ?_
    -- leaf F
    rw [hck]
    exact ⟨_, rfl, (hS19.fin1 0 rfl (hc_17.trans (by rw [lvT_k hck])))⟩

set_option maxHeartbeats 4000000 in
theorem kWd_c {ov : Value} {O : List Ob} {rv : Value} {rs : List Int} {w : World} (h_ov : Ro w NoX (rl 2 obC ov O)) (n_ov : Ro w NoX (nst O)) (h_rv : Ro w NoX (il .i64 rv rs)) (hsm : SM (O.map ab)) :
    Calls Try.prog 19 #[.agg #[ov, rv]] w fun e w' => e = .returned (.tuple #[.int .i64 (wdN (O.map ab) rs), .int .i64 (ckG (O.map ab) rs).2]) ∧ St w NoX [] w' := by
  refine calls_inR 33 Try.func19 rfl rfl (by simp) (fun A0 hsz0 hdf0 hargs => ?_)
  have l0_0 := hargs 0 (.agg #[ov, rv]) rfl
  clear hargs; replace hsz0 : SzN A0 33 := ⟨hsz0⟩
  have hS := St.nil w
  have bh_ov := SlN.le (sl_SlN h_ov.at)
  have bh_rv := SlN.le (sl_SlN h_rv.at)
  refine R_seq (fun K1 hK1 => ?_)
  refine R_region (by kernel_rfl) ?_
  refine W_boxS (zs := #[ov, rv]) hS rfl rfl rfl l0_0 (by rfl) (fun g2 w2 c2 hc2 hS2 => ?_)
  replace hS2 : St w NoX [c2] w2 := hS2
  refine W_v rfl rfl (V_asg rfl rfl) ?_
  refine W_v rfl rfl (V_asg rfl rfl) ?_
  refine W_end ?_
  refine Qo_normal ?_
  refine gen_Q (fun A3 hA3 => ?_)
  have hsz3 := szq hA3
  have hdf3 : A3.defers = [] := by rw [hA3]; simp only [df_put]; exact hdf0
  have l1_3 := lookE hA3 1 (e2 rfl (et rfl))
  clear hA3 hsz0 hdf0 l0_0
  refine then_n (hK1 _ _ ?_)
  clear hK1
  refine R_seq (fun K4 hK4 => ?_)
  refine R_seq (fun K5 hK5 => ?_)
  refine R_region (by kernel_rfl) ?_
  refine W_r rfl rfl (VR_ldA rfl l1_3 (hS2.obj 0 rfl hc2) Try.underlying25 rfl (by kernel_rfl)) ?_
  refine W_call rfl rfl rfl Try.func47 (by kernel_rfl) rfl (args2 (et rfl) rfl) (kcd_c (ns := []) (nv := .slice none 0 0) (hS2.roC h_ov) (hS2.roC n_ov) (hS2.roC h_rv) ro_nil ) ?_
  rintro _ w6 ⟨rfl, hP6⟩
  refine ⟨_, rfl, ?_⟩
  have hS6 := hS2.join hP6
  replace hS6 : St w NoX [c2] w6 := hS6
  refine W_v rfl rfl (V_asg rfl (et rfl)) ?_
  refine W_end ?_
  refine Qo_normal ?_
  refine gen_Q (fun A7 hA7 => ?_)
  have hsz7 := szq hA7
  have hdf7 : A7.defers = [] := by rw [hA7]; simp only [df_put]; exact hdf3
  have l1_7 := lookE hA7 1 (e2 rfl (es rfl l1_3))
  have l4_7 := lookE hA7 4 (et rfl)
  clear hA7 hsz3 hdf3 l1_3
  refine then_n (hK5 _ _ ?_)
  clear hK5
  refine R_seq (fun K8 hK8 => ?_)
  refine R_region (by kernel_rfl) ?_
  refine W_v rfl rfl (V_mov rfl l4_7) ?_
  refine W_v rfl rfl (V_neq rfl (et rfl) rfl) ?_
  refine W_end ?_
  refine Qo_normal ?_
  refine gen_Q (fun A9 hA9 => ?_)
  have hsz9 := szq hA9
  have hdf9 : A9.defers = [] := by rw [hA9]; simp only [df_put]; exact hdf7
  have l1_9 := lookE hA9 1 (es rfl (es rfl l1_7))
  have l4_9 := lookE hA9 4 (es rfl (es rfl l4_7))
  have l11_9 := lookE hA9 11 (et rfl)
  clear hA9 hsz7 hdf7 l1_7 l4_7
  refine then_n (hK8 _ _ ?_)
  clear hK8
  refine R_cond_dec l11_9 (fun c10 => ?_) (fun c10 => ?_)
  · skip
    refine R_seq (fun K11 hK11 => ?_)
    refine R_region (by kernel_rfl) ?_
    refine W_v rfl rfl (V_mov rfl l4_9) ?_
    refine W_v rfl rfl (V_asg rfl rfl) ?_
    refine W_v rfl rfl (V_asg rfl (es rfl (et rfl))) ?_
    refine W_end ?_
    refine Qo_normal ?_
    refine gen_Q (fun A12 hA12 => ?_)
    have hsz12 := szq hA12
    have hdf12 : A12.defers = [] := by rw [hA12]; simp only [df_put]; exact hdf9
    have l2_12 := lookE hA12 2 (es rfl (et rfl))
    have l3_12 := lookE hA12 3 (et rfl)
    clear hA12 hsz9 hdf9 l1_9 l4_9 l11_9
    have hS13 : St w NoX [] w6 := hS6.sel [] (by decide) rfl
    refine then_n (hK11 _ _ ?_)
    clear hK11
    refine R_ret ?_
    refine then_ret ?_
    refine ret_inR0 (results_2 Try.results19 (rv_tmp l2_12) (rv_tmp l3_12)) hdf12 ?_
    -- leaf T
    have hne : ¬ (ckG (O.map ab) rs).2 = 0 := by rw [← ckd_nil]; have hc := c10; simpa using hc
    rw [wdN_e hne]
    exact ⟨by first | rfl | (rw [ckd_nil]; done) | (rw [ckd_nil]; rfl), hS13.fin0⟩
  · skip
    have hck : (ckG (O.map ab) rs).2 = 0 := by rw [← ckd_nil]; simpa using c10
    have hG := ckG_iff.1 hck
    refine R_skip ?_
    refine then_n (hK4 _ _ ?_)
    clear hK4
    refine R_seq (fun K14 hK14 => ?_)
    refine R_region (by kernel_rfl) ?_
    refine W_allocS (z := .int .i64 0) (zs := #[.int .i64 0]) hS6 rfl rfl rfl (by kernel_rfl) (by rfl) (fun g15 w15 c15 hc15 hS15 => ?_)
    replace hS15 : St w NoX [c15, c2] w15 := hS15
    refine W_stCS (zs' := #[.int .i64 0]) 0 hS15 rfl hc15 rfl rfl rfl (et rfl) rfl (by rfl) (by rfl) (by kernel_rfl) (by first | rfl | (simp only [List.setIfInBounds_toArray, List.set_cons_succ, List.set_cons_zero] <;> rfl)) (fun w16 c16 hc16 hS16 => ?_)
    replace hS16 : St w NoX [c16, c2] w16 := hS16
    refine W_end ?_
    refine Qo_normal ?_
    refine gen_Q (fun A17 hA17 => ?_)
    have hsz17 := szq hA17
    have hdf17 : A17.defers = [] := by rw [hA17]; simp only [df_put]; exact hdf9
    have l1_17 := lookE hA17 1 (es rfl l1_9)
    have l5_17 := lookE hA17 5 (et rfl)
    clear hA17 hsz9 hdf9 l1_9 l4_9 l11_9
    refine then_n (hK14 _ _ ?_)
    clear hK14
    refine R_seq (fun K18 hK18 => ?_)
    refine R_seq (fun K19 hK19 => ?_)
    refine R_region (by kernel_rfl) ?_
    refine W_r rfl rfl (VR_ldA rfl l1_17 (hS16.obj 1 rfl hc2) Try.underlying25 rfl (by kernel_rfl)) ?_
    refine W_call rfl rfl rfl Try.func49 (by kernel_rfl) rfl (args1 (et rfl)) (krc_c (hS16.roC h_ov) (hS16.roC n_ov) (hS16.roC h_rv) ) ?_
    rintro _ w20 ⟨gb_20, rfl, hP20⟩
    refine ⟨_, rfl, ?_⟩
    obtain ⟨cb_20, hcb_20, hP20⟩ := gen1 hP20
    have hS20 := hS16.join hP20
    replace hS20 : St w NoX [cb_20, c16, c2] w20 := hS20
    refine W_end ?_
    refine Qo_normal ?_
    refine gen_Q (fun A21 hA21 => ?_)
    have hsz21 := szq hA21
    have hdf21 : A21.defers = [] := by rw [hA21]; simp only [df_put]; exact hdf17
    have l1_21 := lookE hA21 1 (es rfl (es rfl l1_17))
    have l5_21 := lookE hA21 5 (es rfl (es rfl l5_17))
    have l14_21 := lookE hA21 14 (et rfl)
    clear hA21 hsz17 hdf17 l1_17 l5_17
    refine then_n (hK19 _ _ ?_)
    clear hK19
    refine R_block ?_
    refine R_rangeS (α := Int) l14_21 (fun args w => calls_enter Try.func66 rfl rfl args w) (krc_it (gov := gb_20) (ov := ov) (O := O) (rv := rv) (rs := rs) (Rd := fun W => (bx gb_20 25 #[ov, rv]).at W ∧ (rl 2 obC ov O).at W ∧ (nst O).at W ∧ (il .i64 rv rs).at W) (fun _ h => h) (hG) (hsm)) (fun _ => rfl) (fun pre => pk (fun l => (WB (O.map ab) pre) ∧ l = [bx gb_20 25 #[ov, rv], bx g15 3 #[.int .i64 (((pre.map (wd1 (O.map ab))).sum))], bx g2 25 #[ov, rv]])) (fun cQ pre => pk (fun l => False)) (St.pack (l := [bx gb_20 25 #[ov, rv], bx g15 3 #[.int .i64 ((([].map (wd1 (O.map ab))).sum))], bx g2 25 #[ov, rv]]) (fr := []) (by have q0 : cb_20 = bx gb_20 25 #[ov, rv] := hcb_20; have q1 : c16 = bx g15 3 #[.int .i64 ((([].map (wd1 (O.map ab))).sum))] := hc16.trans (rfl); have q2 : c2 = bx g2 25 #[ov, rv] := hc2; subst q0 q1 q2; exact hS20) ⟨(by unfold WB; simp), rfl⟩)
      (fun pre W l' hS => by obtain ⟨l, ⟨hwb, rfl⟩, hl⟩ := pk_at (hS.ch 0 rfl); exact ⟨(hl 0 _ rfl), hS.ro h_ov, hS.ro n_ov, hS.ro h_rv⟩)
      (fun x a' cQ => SzN a' 33 ∧ a'.defers = [] ∧ EV a' (.tmp 1) = EV A21 (.tmp 1) ∧ EV a' (.tmp 5) = EV A21 (.tmp 5) ∧ EV a' (.tmp 6) = .int .i64 (x) ∧ cQ = pk (· = [])) ?_ ?_ ?_ ?_
    · intro la22 pre x wa22 fr K hSa22 hK
      simp only [id]
      rw [rnd1]
      obtain ⟨A23, hA23⟩ : ∃ A, A = (PT { tmps := A21.tmps, defers := [] } 15 (.int .i64 x)) := ⟨_, rfl⟩
      rw [← hA23]
      have hsz23 := szq hA23
      have hdf23 : A23.defers = [] := by rw [hA23]; rfl
      have l1_23 := lookE hA23 1 (es rfl (rnd_l l1_21))
      have l5_23 := lookE hA23 5 (es rfl (rnd_l l5_21))
      have l15_23 := lookE hA23 15 (et rfl)
      clear hA23
      obtain ⟨cI, hcI, hSa22⟩ := gen1 hSa22
      refine R_region (by kernel_rfl) ?_
      refine W_v rfl rfl (V_asg rfl l15_23) ?_
      refine W_end ?_
      refine Qo_normal ?_
      refine gen_Q (fun A24 hA24 => ?_)
      have hsz24 := szq hA24
      have hdf24 : A24.defers = [] := by rw [hA24]; simp only [df_put]; exact hdf23
      have l1_24 := lookE hA24 1 (es rfl l1_23)
      have l5_24 := lookE hA24 5 (es rfl l5_23)
      have l6_24 := lookE hA24 6 (et rfl)
      clear hA24 hsz23 hdf23 l1_23 l5_23 l15_23
      refine then_n ?_
      refine hK _ _ _ ⟨hsz24, hdf24, (l1_24.trans l1_21.symm), (l5_24.trans l5_21.symm), l6_24, rfl⟩ ?_
      subst hcI; exact hSa22.asg0
    · rintro lb25 pre x A25 w25 cQ fr hAx hlr hS25 hVd
      obtain ⟨hsz25, hdf25, u1_25, u5_25, l6_25, rfl⟩ := hAx
      have l1_25 := u1_25.trans l1_21
      have l5_25 := u5_25.trans l5_21
      obtain ⟨_, _, ⟨hwb, rfl⟩, rfl, hS25⟩ := hS25.body2
      replace hS25 : St w NoX ((bx gb_20 25 #[ov, rv]) :: (bx g15 3 #[.int .i64 (((pre.map (wd1 (O.map ab))).sum))]) :: (bx g2 25 #[ov, rv]) :: fr) w25 := hS25
      obtain ⟨cb_26, c16_26, c2_26, hcb_26, hc16_26, hc2_26, hS25⟩ := gen3 hS25
      have hxr := rcL_rng hG hVd
      rw [List.length_map] at hxr
      have hvl := hVd.length_le
      have hrl := rcL_len hG
      rw [List.length_append, List.length_singleton] at hvl
      have ho4 := hG.o4
      have hwb2 := hwb.bd (by omega)
      refine R_block ?_
      refine R_seq (fun K27 hK27 => ?_)
      refine R_region (by kernel_rfl) ?_
      refine W_v rfl rfl (V_fa (off' := 0) rfl l1_25 Try.underlying25 rfl (by decide +kernel) rfl) ?_
      refine W_r rfl rfl (VR_ldC rfl (et rfl) (cell_box (v := ov) (hS25.obj 2 rfl hc2_26) rfl) Try.underlying22 rfl) ?_
      refine W_v rfl rfl (V_mov rfl (es rfl (es rfl l6_25))) ?_
      refine W_v rfl rfl (V_sb rfl (et rfl) rfl (by omega) (by omega)) ?_
      have k28 : (x - 1).toNat < O.length := by first | omega | (simp only [List.length_cons, List.length_nil]; omega) | (simp only [List.length_set]; omega)
      obtain ⟨y28, hy28⟩ := get_some (xs := O) (k := (x - 1).toNat) k28
      have hsy := hsm.at hy28
      obtain ⟨B28, O28, C28, hv28⟩ := (SlN.blk (sl_SlN h_ov.at) (by first | omega | (simp only [List.length_cons, List.length_nil]; omega) | (simp only [List.length_set]; omega)))
      refine W_v rfl rfl (V_ixS (off := O28 + ((x - 1).toNat) * 2) 2 ((x - 1).toNat) rfl (e2 rfl (et rfl)) (et rfl) hv28 (by omega) k28 Try.underlying22 (by kernel_rfl) rfl) ?_
      have fn29 : Ro w NoX (il .i64 y28.1.1 y28.1.2) := nst_ro1 n_ov hy28
      have bfn29 := SlN.le (sl_SlN (hS25.ro fn29))
      have fn30 : Ro w NoX (il .u64 y28.2.1 y28.2.2) := nst_ro2 n_ov hy28
      have bfn30 := SlN.le (sl_SlN (hS25.ro fn30))
      refine W_r rfl rfl (VR_ldR (ys := obC y28) rfl (et rfl) (SlN.row obC_len (sl_SlN (hS25.ro h_ov)) hv28 hy28 rfl) Try.underlying40 rfl (by kernel_rfl)) ?_
      refine W_allocS (z := .agg #[.slice none 0 0, .slice none 0 0]) (zs := #[.slice none 0 0, .slice none 0 0]) hS25 rfl rfl rfl (by kernel_rfl) (by rfl) (fun g31 w31 c31 hc31 hS31 => ?_)
      replace hS31 : St w NoX (c31 :: cb_26 :: c16_26 :: c2_26 :: fr) w31 := hS31
      refine W_stAS 0 hS31 rfl hc31 rfl rfl rfl (et rfl) (es rfl (et rfl)) (by simp only [List.all_toArray, List.all_cons, List.all_nil, obC, SlN_one (sl_SlN fn29.at), SlN_one (sl_SlN fn30.at)] <;> rfl) (by rfl) (by kernel_rfl) (fun w32 c32 hc32 hS32 => ?_)
      replace hS32 : St w NoX (c32 :: cb_26 :: c16_26 :: c2_26 :: fr) w32 := hS32
      refine W_end ?_
      refine Qo_normal ?_
      refine gen_Q (fun A33 hA33 => ?_)
      have hsz33 := szq hA33
      have hdf33 : A33.defers = [] := by rw [hA33]; simp only [df_put]; exact hdf25
      have l5_33 := lookE hA33 5 (e6 rfl (es rfl l5_25))
      have l7_33 := lookE hA33 7 (et rfl)
      clear hA33 hsz25 hdf25 l1_25 l5_25 l6_25
      refine then_n (hK27 _ _ ?_)
      clear hK27
      refine R_region (by kernel_rfl) ?_
      refine W_r rfl rfl (VR_ldC rfl l5_33 (cell_box (v := .int .i64 (((pre.map (wd1 (O.map ab))).sum))) (hS32.obj 2 rfl hc16_26) rfl) Try.underlying3 rfl) ?_
      refine W_v rfl rfl (V_fa (off' := 0) rfl (es rfl l7_33) Try.underlying40 rfl (by decide +kernel) rfl) ?_
      refine W_r rfl rfl (VR_ldC rfl (et rfl) (cell_box (v := y28.1.1) (hS32.obj 0 rfl hc32) rfl) Try.underlying23 rfl) ?_
      refine W_v rfl rfl (V_lenS rfl (et rfl) (sl_SlN fn29.at) Try.underlying23) ?_
      refine W_v rfl rfl (V_add rfl rfl (et rfl) (by omega) (by omega)) ?_
      refine W_v rfl rfl (V_fa (off' := 1) rfl (e4 rfl (es rfl l7_33)) Try.underlying40 rfl (by decide +kernel) rfl) ?_
      refine W_r rfl rfl (VR_ldC rfl (et rfl) (cell_box (v := y28.2.1) (hS32.obj 0 rfl hc32) rfl) Try.underlying38 rfl) ?_
      refine W_v rfl rfl (V_lenS rfl (et rfl) (sl_SlN fn30.at) Try.underlying38) ?_
      refine W_v rfl rfl (V_add rfl (e3 rfl (et rfl)) (et rfl) (by omega) (by omega)) ?_
      refine W_v rfl rfl (V_add rfl (e8 rfl (et rfl)) (et rfl) (by omega) (by omega)) ?_
      refine W_stCS (zs' := #[.int .i64 ((((pre.map (wd1 (O.map ab))).sum) + ((1 + (y28.1.2.length : Int)) + (y28.2.2.length : Int))))]) 2 hS32 rfl hc16_26 rfl rfl rfl (e9 rfl (es rfl l5_33)) (et rfl) (by rfl) (by rfl) (by kernel_rfl) (by first | rfl | (simp only [List.setIfInBounds_toArray, List.set_cons_succ, List.set_cons_zero] <;> rfl)) (fun w34 c34 hc34 hS34 => ?_)
      replace hS34 : St w NoX (c32 :: cb_26 :: c34 :: c2_26 :: fr) w34 := hS34
      refine W_end ?_
      refine Qo_normal ?_
      refine gen_Q (fun A35 hA35 => ?_)
      have hsz35 := szq hA35
      have hdf35 : A35.defers = [] := by rw [hA35]; simp only [df_put]; exact hdf33
      clear hA35 hsz33 hdf33 l5_33 l7_33
      have hS37 := hS34.del 0
      replace hS37 : St w NoX (cb_26 :: c34 :: c2_26 :: fr) w34 := hS37
      refine inb_n ?_
      exact (St.pack (l := [bx gb_20 25 #[ov, rv], bx g15 3 #[.int .i64 ((((pre ++ [x]).map (wd1 (O.map ab))).sum))], bx g2 25 #[ov, rv]]) (fr := fr) (by have q0 : cb_26 = bx gb_20 25 #[ov, rv] := hcb_26; have q1 : c34 = bx g15 3 #[.int .i64 ((((pre ++ [x]).map (wd1 (O.map ab))).sum))] := hc34.trans ((congrArg (fun z => bx _ _ #[.int .i64 z]) (wd_snoc hy28).symm)); have q2 : c2_26 = bx g2 25 #[ov, rv] := hc2_26; subst q0 q1 q2; exact hS37) (⟨(WB.snoc hwb hy28 hsm), rfl⟩))
    · intro D38 xs w38 hxs hS38
      have hxs' : xs = (rcL (O.map ab) rs) := hxs; subst hxs'; clear hxs
      obtain ⟨_, ⟨hwb, rfl⟩, hS38⟩ := hS38.unpack
      replace hS38 : St w NoX ((bx gb_20 25 #[ov, rv]) :: (bx g15 3 #[.int .i64 ((((rcL (O.map ab) rs).map (wd1 (O.map ab))).sum))]) :: (bx g2 25 #[ov, rv]) :: (ob D38 (.deferred (some []))) :: []) w38 := hS38
      obtain ⟨cb_38, c16_38, c2_38, cD38, hcb_38, hc16_38, hc2_38, hcD38, hS38⟩ := gen4 hS38
      refine gen_Q (fun A38 hA38 => ?_)
      have hsz38 := szq hA38
      have hdf38 : A38.defers = [{ target := .collected D38, args := #[] }] := by rw [hA38, df_mk, hdf21] <;> rfl
      have l5_38 := lookE hA38 5 (mk_l l5_21)
      clear hA38
      refine inb_n ?_
      refine then_n (hK18 _ _ ?_)
      clear hK18
      refine R_seq (fun K39 hK39 => ?_)
      refine R_region (by kernel_rfl) ?_
      refine W_r rfl rfl (VR_ldC rfl l5_38 (cell_box (v := .int .i64 ((((rcL (O.map ab) rs).map (wd1 (O.map ab))).sum))) (hS38.obj 1 rfl hc16_38) rfl) Try.underlying3 rfl) ?_
      refine W_v rfl rfl (V_asg rfl (et rfl)) ?_
      refine W_v rfl rfl (V_asg rfl rfl) ?_
      refine W_end ?_
      refine Qo_normal ?_
      refine gen_Q (fun A40 hA40 => ?_)
      have hsz40 := szq hA40
      have hdf40 : A40.defers = [{ target := .collected D38, args := #[] }] := by rw [hA40]; simp only [df_put]; exact hdf38
      have l2_40 := lookE hA40 2 (es rfl (et rfl))
      have l3_40 := lookE hA40 3 (et rfl)
      clear hA40 hsz38 hdf38 l5_38
      have hS41 : St w NoX [cD38] w38 := hS38.sel [3] (by decide) rfl
      refine then_n (hK39 _ _ ?_)
      clear hK39
      refine R_ret ?_
      have hD42 := hS41.obj 0 rfl hcD38
      have hS42 := hS41.put (o' := .deferred none) 0 rfl hcD38
      obtain ⟨w42, hw42⟩ : ∃ w', w' = w38.putObj D38 (.deferred none) := ⟨_, rfl⟩
      rw [← hw42] at hS42
      replace hS42 : St w NoX [(ob D38 (.deferred none))] w42 := hS42
      refine ret_inR1' (D := D38) (w1 := w42) hw42 (results_2 Try.results19 (rv_tmp l2_40) (rv_tmp l3_40)) hdf40 hD42 ?_
      -- leaf Fd
      rw [hck, wdN_k hck, ← rcL_sum hG]
      exact ⟨rfl, hS42.fin0⟩
    · intro D43 cQ pre w43 hpre hS43
      obtain ⟨_, h, _⟩ := hS43.unpack; exact h.elim

end Go.Proofs.Ytdilbnmaihmgnaa