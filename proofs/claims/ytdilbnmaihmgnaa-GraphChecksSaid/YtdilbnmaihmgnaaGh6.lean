import Derived.Test.YtdilbnmaihmgnaaProg
import Derived.Test.YtdilbnmaihmgnaaGh5
import Derived.Test.YtdilbnmaihmgnaaPl15g
namespace Go.Proofs.Ytdilbnmaihmgnaa
open Go.RowKit Go.Own Go.Own.R Go.Own.G Go.Own.Gr


set_option maxHeartbeats 4000000 in
theorem kLv_c {ov : Value} {O : List Ob} {rv : Value} {rs : List Int} {w : World} (h_ov : Ro w NoX (rl 2 obC ov O)) (n_ov : Ro w NoX (nst O)) (h_rv : Ro w NoX (il .i64 rv rs)) (hsm : SM (O.map ab)) :
    Calls Try.prog 17 #[.agg #[ov, rv]] w fun e w' => ∃ v, e = .returned (.tuple #[v, .int .i64 (ckG (O.map ab) rs).2]) ∧ St w NoX [io .i64 (v) (lvT (O.map ab) rs)] w' := by
  refine calls_in 13 Try.func17 rfl rfl (by simp) (fun A0 hsz0 hdf0 hargs => ?_)
  have l0_0 := hargs 0 (.agg #[ov, rv]) rfl
  clear hargs; replace hsz0 : SzN A0 13 := ⟨hsz0⟩
  have hS := St.nil w
  have bh_ov := SlN.le (sl_SlN h_ov.at)
  have bh_rv := SlN.le (sl_SlN h_rv.at)
  refine wp_seq_k (fun K1 hK1 => ?_)
  -- region 0
  refine region_in ?_
  refine W_boxS (zs := #[ov, rv]) hS rfl rfl rfl l0_0 (by rfl) (fun g2 w2 c2 hc2 hS2 => ?_)
  replace hS2 : St w NoX [c2] w2 := hS2
  refine W_v rfl rfl (V_asg rfl rfl) ?_
  refine W_v rfl rfl (V_asg rfl rfl) ?_
  refine W_end ?_
  refine gen_Q (fun A3 hA3 => ?_)
  have hsz3 : SzN A3 13 := by rw [hA3]; infer_instance
  have hdf3 : A3.defers = [] := by rw [hA3]; simp only [df_put]; exact hdf0
  have l1_3 := lookE hA3 1 (es rfl (es rfl (et rfl)))
  clear hA3 hsz0 hdf0 l0_0
  refine then_n (hK1 _ _ ?_)
  clear hK1
  refine wp_seq_k (fun K4 hK4 => ?_)
  refine wp_seq_k (fun K5 hK5 => ?_)
  -- region 1
  refine region_in ?_
  refine W_r rfl rfl (VR_ldA rfl l1_3 (hS2.obj 0 rfl hc2) Try.underlying25 rfl (by kernel_rfl)) ?_
  refine W_call rfl rfl rfl Try.func47 (by kernel_rfl) rfl (args2 (et rfl) rfl) (kcd_c (ns := []) (nv := .slice none 0 0) (hS2.roC h_ov) (hS2.roC n_ov) (hS2.roC h_rv) ro_nil ) ?_
  rintro _ w6 ⟨rfl, hP6⟩
  refine ⟨_, rfl, ?_⟩
  have hS6 := hS2.join hP6
  replace hS6 : St w NoX [c2] w6 := hS6
  refine W_v rfl rfl (V_asg rfl (et rfl)) ?_
  refine W_end ?_
  refine gen_Q (fun A7 hA7 => ?_)
  have hsz7 : SzN A7 13 := by rw [hA7]; infer_instance
  have hdf7 : A7.defers = [] := by rw [hA7]; simp only [df_put]; exact hdf3
  have l1_7 := lookE hA7 1 (es rfl (es rfl (es rfl l1_3)))
  have l4_7 := lookE hA7 4 (et rfl)
  clear hA7 hsz3 hdf3 l1_3
  refine then_n (hK5 _ _ ?_)
  clear hK5
  refine wp_seq_k (fun K8 hK8 => ?_)
  -- region 2
  refine region_in ?_
  refine W_v rfl rfl (V_mov rfl l4_7) ?_
  refine W_v rfl rfl (V_neq rfl (et rfl) rfl) ?_
  refine W_end ?_
  refine gen_Q (fun A9 hA9 => ?_)
  have hsz9 : SzN A9 13 := by rw [hA9]; infer_instance
  have hdf9 : A9.defers = [] := by rw [hA9]; simp only [df_put]; exact hdf7
  have l1_9 := lookE hA9 1 (es rfl (es rfl l1_7))
  have l4_9 := lookE hA9 4 (es rfl (es rfl l4_7))
  have l8_9 := lookE hA9 8 (et rfl)
  clear hA9 hsz7 hdf7 l1_7 l4_7
  refine then_n (hK8 _ _ ?_)
  clear hK8
  refine cond_dec l8_9 (fun c10 => ?_) (fun c10 => ?_)
  · skip
    refine wp_seq_k (fun K11 hK11 => ?_)
    -- region 3
    refine region_in ?_
    refine W_v rfl rfl (V_mov rfl l4_9) ?_
    refine W_v rfl rfl (V_asg rfl rfl) ?_
    refine W_v rfl rfl (V_asg rfl (es rfl (et rfl))) ?_
    refine W_end ?_
    refine gen_Q (fun A12 hA12 => ?_)
    have hsz12 : SzN A12 13 := by rw [hA12]; infer_instance
    have hdf12 : A12.defers = [] := by rw [hA12]; simp only [df_put]; exact hdf9
    have l2_12 := lookE hA12 2 (es rfl (et rfl))
    have l3_12 := lookE hA12 3 (et rfl)
    clear hA12 hsz9 hdf9 l1_9 l4_9 l8_9
    have hS13 : St w NoX [] w6 := hS6.sel [] (by decide) rfl
    refine then_n (hK11 _ _ ?_)
    clear hK11
    refine wp_ret ?_
    refine then_ret ?_
    refine ret_in (results_2 Try.results17 (rv_tmp l2_12) (rv_tmp l3_12)) hdf12 ?_
    -- leaf T
    obtain ⟨c14, hc14, hS14⟩ := hS13.pnil (s := 1)
    have hne : ¬ (ckG (O.map ab) rs).2 = 0 := by rw [← ckd_nil]; have hc := c10; simpa using hc
    
    exact ⟨_, by first | rfl | rw [ckd_nil], (hS14.fin1 0 rfl (hc14.trans (by rw [lvT_e hne] <;> rfl)))⟩
  · skip
    have hck : (ckG (O.map ab) rs).2 = 0 := by rw [← ckd_nil]; simpa using c10
    have hG := ckG_iff.1 hck
    refine wp_skip ?_
    refine then_n (hK4 _ _ ?_)
    clear hK4
    refine wp_seq_k (fun K15 hK15 => ?_)
    -- region 4
    refine region_in ?_
    refine W_r rfl rfl (VR_ldA rfl l1_9 (hS6.obj 0 rfl hc2) Try.underlying25 rfl (by kernel_rfl)) ?_
    refine W_call rfl rfl rfl Try.func49 (by kernel_rfl) rfl (args1 (et rfl)) (krc_c (hS6.roC h_ov) (hS6.roC n_ov) (hS6.roC h_rv) ) ?_
    rintro _ w16 ⟨gb_16, rfl, hP16⟩
    refine ⟨_, rfl, ?_⟩
    obtain ⟨cb_16, hcb_16, hP16⟩ := gen1 hP16
    have hS16 := hS6.join hP16
    replace hS16 : St w NoX [cb_16, c2] w16 := hS16
    refine W_call rfl rfl rfl Try.func48 (by kernel_rfl) rfl (args1 (et rfl)) (kso_c (gov := gb_16) (hS16.chC 0 rfl hcb_16) (hS16.roC h_ov) (hS16.roC n_ov) (hS16.roC h_rv) (by first | with_reducible assumption | with_reducible exact hG0) (by first | with_reducible assumption)) ?_
    rintro _ w17 ⟨v_17, rfl, hP17⟩
    refine ⟨_, rfl, ?_⟩
    obtain ⟨c_17, hc_17, hP17⟩ := gen1 hP17
    have hS17 := hS16.join hP17
    replace hS17 : St w NoX [c_17, cb_16, c2] w17 := hS17
    refine W_v rfl rfl (V_asg rfl (et rfl)) ?_
    refine W_v rfl rfl (V_asg rfl rfl) ?_
    refine W_end ?_
    refine gen_Q (fun A18 hA18 => ?_)
    have hsz18 : SzN A18 13 := by rw [hA18]; infer_instance
    have hdf18 : A18.defers = [] := by rw [hA18]; simp only [df_put]; exact hdf9
    have l2_18 := lookE hA18 2 (es rfl (et rfl))
    have l3_18 := lookE hA18 3 (et rfl)
    clear hA18 hsz9 hdf9 l1_9 l4_9 l8_9
    have hS19 : St w NoX [c_17] w17 := hS17.sel [0] (by decide) rfl
    refine then_n (hK15 _ _ ?_)
    clear hK15
    refine wp_ret ?_
    refine ret_in (results_2 Try.results17 (rv_tmp l2_18) (rv_tmp l3_18)) hdf18 ?_
    -- leaf F
    rw [hck]
    exact ⟨_, rfl, (hS19.fin1 0 rfl (hc_17.trans (by rw [lvT_k hck])))⟩

set_option maxHeartbeats 4000000 in
theorem kWd_c {ov : Value} {O : List Ob} {rv : Value} {rs : List Int} {w : World} (h_ov : Ro w NoX (rl 2 obC ov O)) (n_ov : Ro w NoX (nst O)) (h_rv : Ro w NoX (il .i64 rv rs)) (hsm : SM (O.map ab)) :
    Calls Try.prog 19 #[.agg #[ov, rv]] w fun e w' => e = .returned (.tuple #[.int .i64 (wdN (O.map ab) rs), .int .i64 (ckG (O.map ab) rs).2]) ∧ St w NoX [] w' := by
  refine calls_inR 33 Try.func19 rfl rfl (by simp) (fun A0 hsz0 hdf0 hargs => ?_)
  have l0_0 := hargs 0 (.agg #[ov, rv]) rfl
  clear hargs; replace hsz0 : SzN A0 33 := ⟨hsz0⟩
  have hS := St.nil w
  have bh_ov := SlN.le (sl_SlN h_ov.at)
  have bh_rv := SlN.le (sl_SlN h_rv.at)
  refine R_seq (fun K1 hK1 => ?_)
  -- region 0
  refine R_region (by kernel_rfl) ?_
  refine W_boxS (zs := #[ov, rv]) hS rfl rfl rfl l0_0 (by rfl) (fun g2 w2 c2 hc2 hS2 => ?_)
  replace hS2 : St w NoX [c2] w2 := hS2
  refine W_v rfl rfl (V_asg rfl rfl) ?_
  refine W_v rfl rfl (V_asg rfl rfl) ?_
  refine W_end ?_
  refine Qo_normal ?_
  refine gen_Q (fun A3 hA3 => ?_)
  have hsz3 : SzN A3 33 := by rw [hA3]; infer_instance
  have hdf3 : A3.defers = [] := by rw [hA3]; simp only [df_put]; exact hdf0
  have l1_3 := lookE hA3 1 (es rfl (es rfl (et rfl)))
  clear hA3 hsz0 hdf0 l0_0
  refine then_n (hK1 _ _ ?_)
  clear hK1
  refine R_seq (fun K4 hK4 => ?_)
  refine R_seq (fun K5 hK5 => ?_)
  -- region 1
  refine R_region (by kernel_rfl) ?_
  refine W_r rfl rfl (VR_ldA rfl l1_3 (hS2.obj 0 rfl hc2) Try.underlying25 rfl (by kernel_rfl)) ?_
  refine W_call rfl rfl rfl Try.func47 (by kernel_rfl) rfl (args2 (et rfl) rfl) (kcd_c (ns := []) (nv := .slice none 0 0) (hS2.roC h_ov) (hS2.roC n_ov) (hS2.roC h_rv) ro_nil ) ?_
  rintro _ w6 ⟨rfl, hP6⟩
  refine ⟨_, rfl, ?_⟩
  have hS6 := hS2.join hP6
  replace hS6 : St w NoX [c2] w6 := hS6
  refine W_v rfl rfl (V_asg rfl (et rfl)) ?_
  refine W_end ?_
  refine Qo_normal ?_
  refine gen_Q (fun A7 hA7 => ?_)
  have hsz7 : SzN A7 33 := by rw [hA7]; infer_instance
  have hdf7 : A7.defers = [] := by rw [hA7]; simp only [df_put]; exact hdf3
  have l1_7 := lookE hA7 1 (es rfl (es rfl (es rfl l1_3)))
  have l4_7 := lookE hA7 4 (et rfl)
  clear hA7 hsz3 hdf3 l1_3
  refine then_n (hK5 _ _ ?_)
  clear hK5
  refine R_seq (fun K8 hK8 => ?_)
  -- region 2
  refine R_region (by kernel_rfl) ?_
  refine W_v rfl rfl (V_mov rfl l4_7) ?_
  refine W_v rfl rfl (V_neq rfl (et rfl) rfl) ?_
  refine W_end ?_
  refine Qo_normal ?_
  refine gen_Q (fun A9 hA9 => ?_)
  have hsz9 : SzN A9 33 := by rw [hA9]; infer_instance
  have hdf9 : A9.defers = [] := by rw [hA9]; simp only [df_put]; exact hdf7
  have l1_9 := lookE hA9 1 (es rfl (es rfl l1_7))
  have l4_9 := lookE hA9 4 (es rfl (es rfl l4_7))
  have l11_9 := lookE hA9 11 (et rfl)
  clear hA9 hsz7 hdf7 l1_7 l4_7
  refine then_n (hK8 _ _ ?_)
  clear hK8
  refine R_cond_dec l11_9 (fun c10 => ?_) (fun c10 => ?_)
  · skip
    refine R_seq (fun K11 hK11 => ?_)
    -- region 3
    refine R_region (by kernel_rfl) ?_
    refine W_v rfl rfl (V_mov rfl l4_9) ?_
    refine W_v rfl rfl (V_asg rfl rfl) ?_
    refine W_v rfl rfl (V_asg rfl (es rfl (et rfl))) ?_
    refine W_end ?_
    refine Qo_normal ?_
    refine gen_Q (fun A12 hA12 => ?_)
    have hsz12 : SzN A12 33 := by rw [hA12]; infer_instance
    have hdf12 : A12.defers = [] := by rw [hA12]; simp only [df_put]; exact hdf9
    have l2_12 := lookE hA12 2 (es rfl (et rfl))
    have l3_12 := lookE hA12 3 (et rfl)
    clear hA12 hsz9 hdf9 l1_9 l4_9 l11_9
    have hS13 : St w NoX [] w6 := hS6.sel [] (by decide) rfl
    refine then_n (hK11 _ _ ?_)
    clear hK11
    refine R_ret ?_
    refine then_ret ?_
    refine ret_inR0 (results_2 Try.results19 (rv_tmp l2_12) (rv_tmp l3_12)) hdf12 ?_
    -- leaf T
    have hne : ¬ (ckG (O.map ab) rs).2 = 0 := by rw [← ckd_nil]; have hc := c10; simpa using hc
    rw [wdN_e hne]
    exact ⟨by first | rfl | (rw [ckd_nil]; done) | (rw [ckd_nil]; rfl), hS13.fin0⟩
  · skip
    have hck : (ckG (O.map ab) rs).2 = 0 := by rw [← ckd_nil]; simpa using c10
    have hG := ckG_iff.1 hck
    refine R_skip ?_
    refine then_n (hK4 _ _ ?_)
    clear hK4
    refine R_seq (fun K14 hK14 => ?_)
    -- region 4
    refine R_region (by kernel_rfl) ?_
    refine W_allocS (z := .int .i64 0) (zs := #[.int .i64 0]) hS6 rfl rfl rfl (by kernel_rfl) (by rfl) (fun g15 w15 c15 hc15 hS15 => ?_)
    replace hS15 : St w NoX [c15, c2] w15 := hS15
    refine W_stCS (zs' := #[.int .i64 0]) 0 hS15 rfl hc15 rfl rfl rfl (et rfl) rfl (by rfl) (by rfl) (by kernel_rfl) (by first | rfl | (simp only [List.setIfInBounds_toArray, List.set_cons_succ, List.set_cons_zero] <;> rfl)) (fun w16 c16 hc16 hS16 => ?_)
    replace hS16 : St w NoX [c16, c2] w16 := hS16
    refine W_end ?_
    refine Qo_normal ?_
    refine gen_Q (fun A17 hA17 => ?_)
    have hsz17 : SzN A17 33 := by rw [hA17]; infer_instance
    have hdf17 : A17.defers = [] := by rw [hA17]; simp only [df_put]; exact hdf9
    have l1_17 := lookE hA17 1 (es rfl l1_9)
    have l5_17 := lookE hA17 5 (et rfl)
    clear hA17 hsz9 hdf9 l1_9 l4_9 l11_9
    refine then_n (hK14 _ _ ?_)
    clear hK14
    refine R_seq (fun K18 hK18 => ?_)
    refine R_seq (fun K19 hK19 => ?_)
    -- region 5
    refine R_region (by kernel_rfl) ?_
    refine W_r rfl rfl (VR_ldA rfl l1_17 (hS16.obj 1 rfl hc2) Try.underlying25 rfl (by kernel_rfl)) ?_
    refine W_call rfl rfl rfl Try.func49 (by kernel_rfl) rfl (args1 (et rfl)) (krc_c (hS16.roC h_ov) (hS16.roC n_ov) (hS16.roC h_rv) ) ?_
    rintro _ w20 ⟨gb_20, rfl, hP20⟩
    refine ⟨_, rfl, ?_⟩
    obtain ⟨cb_20, hcb_20, hP20⟩ := gen1 hP20
    have hS20 := hS16.join hP20
    replace hS20 : St w NoX [cb_20, c16, c2] w20 := hS20
    refine W_end ?_
    refine Qo_normal ?_
    refine gen_Q (fun A21 hA21 => ?_)
    have hsz21 : SzN A21 33 := by rw [hA21]; infer_instance
    have hdf21 : A21.defers = [] := by rw [hA21]; simp only [df_put]; exact hdf17
    have l1_21 := lookE hA21 1 (es rfl (es rfl l1_17))
    have l5_21 := lookE hA21 5 (es rfl (es rfl l5_17))
    have l14_21 := lookE hA21 14 (et rfl)
    clear hA21 hsz17 hdf17 l1_17 l5_17
    refine then_n (hK19 _ _ ?_)
    clear hK19
    refine R_block ?_
    refine R_rangeS (α := Int) l14_21 (fun args w => calls_enter Try.func66 rfl rfl args w) (krc_it (gov := gb_20) (ov := ov) (O := O) (rv := rv) (rs := rs) (Rd := fun W => (bx gb_20 25 #[ov, rv]).at W ∧ (rl 2 obC ov O).at W ∧ (nst O).at W ∧ (il .i64 rv rs).at W) (fun _ h => h) (hG) (hsm)) (fun _ => rfl) (fun pre => pk (fun l => (WB (O.map ab) pre) ∧ l = [bx gb_20 25 #[ov, rv], bx g15 3 #[.int .i64 (((pre.map (wd1 (O.map ab))).sum))], bx g2 25 #[ov, rv]])) (fun cQ pre => pk (fun l => False)) (St.pack (l := [bx gb_20 25 #[ov, rv], bx g15 3 #[.int .i64 ((([].map (wd1 (O.map ab))).sum))], bx g2 25 #[ov, rv]]) (fr := []) (by have q0 : cb_20 = bx gb_20 25 #[ov, rv] := hcb_20; have q1 : c16 = bx g15 3 #[.int .i64 ((([].map (wd1 (O.map ab))).sum))] := hc16.trans (rfl); have q2 : c2 = bx g2 25 #[ov, rv] := hc2; subst q0 q1 q2; exact hS20) ⟨(by unfold WB; simp), rfl⟩)
      (fun pre W l' hS => by obtain ⟨l, ⟨hwb, rfl⟩, hl⟩ := pk_at (hS.ch 0 rfl); exact ⟨(hl 0 _ rfl), hS.ro h_ov, hS.ro n_ov, hS.ro h_rv⟩)
      (fun x a' cQ => SzN a' 33 ∧ a'.defers = [] ∧ EV a' (.tmp 1) = EV A21 (.tmp 1) ∧ EV a' (.tmp 5) = EV A21 (.tmp 5) ∧ EV a' (.tmp 6) = .int .i64 (x) ∧ cQ = pk (· = [])) ?_ ?_ ?_ ?_
    · intro la22 pre x wa22 fr K hSa22 hK
      simp only [id]
      rw [rnd1]
      obtain ⟨A23, hA23⟩ : ∃ A, A = (PT { tmps := A21.tmps, defers := [] } 15 (.int .i64 x)) := ⟨_, rfl⟩
      rw [← hA23]
      have hsz23 : SzN A23 33 := by rw [hA23]; infer_instance
      have hdf23 : A23.defers = [] := by rw [hA23]; rfl
      have l1_23 := lookE hA23 1 (es rfl (rnd_l l1_21))
      have l5_23 := lookE hA23 5 (es rfl (rnd_l l5_21))
      have l15_23 := lookE hA23 15 (et rfl)
      clear hA23
      obtain ⟨cI, hcI, hSa22⟩ := gen1 hSa22
      -- region 6
      refine R_region (by kernel_rfl) ?_
      refine W_v rfl rfl (V_asg rfl l15_23) ?_
      refine W_end ?_
      refine Qo_normal ?_
      refine gen_Q (fun A24 hA24 => ?_)
      have hsz24 : SzN A24 33 := by rw [hA24]; infer_instance
      have hdf24 : A24.defers = [] := by rw [hA24]; simp only [df_put]; exact hdf23
      have l1_24 := lookE hA24 1 (es rfl l1_23)
      have l5_24 := lookE hA24 5 (es rfl l5_23)
      have l6_24 := lookE hA24 6 (et rfl)
      clear hA24 hsz23 hdf23 l1_23 l5_23 l15_23
      refine then_n ?_
      refine hK _ _ _ ⟨hsz24, hdf24, (l1_24.trans l1_21.symm), (l5_24.trans l5_21.symm), l6_24, rfl⟩ ?_
      subst hcI; exact hSa22.asg0
    · rintro lb25 pre x A25 w25 cQ fr hAx hlr hS25 hVd
      obtain ⟨hsz25, hdf25, u1_25, u5_25, l6_25, rfl⟩ := hAx
      have l1_25 := u1_25.trans l1_21
      have l5_25 := u5_25.trans l5_21
      obtain ⟨_, _, ⟨hwb, rfl⟩, rfl, hS25⟩ := hS25.body2
      replace hS25 : St w NoX ((bx gb_20 25 #[ov, rv]) :: (bx g15 3 #[.int .i64 (((pre.map (wd1 (O.map ab))).sum))]) :: (bx g2 25 #[ov, rv]) :: fr) w25 := hS25
      obtain ⟨cb_26, c16_26, c2_26, hcb_26, hc16_26, hc2_26, hS25⟩ := gen3 hS25
      have hxr := rcL_rng hG hVd
      rw [List.length_map] at hxr
      have hvl := hVd.length_le
      have hrl := rcL_len hG
      rw [List.length_append, List.length_singleton] at hvl
      have ho4 := hG.o4
      have hwb2 := hwb.bd (by omega)
      refine R_block ?_
      refine R_seq (fun K27 hK27 => ?_)
      -- region 7
      refine R_region (by kernel_rfl) ?_
      refine W_v rfl rfl (V_fa (off' := 0) rfl l1_25 Try.underlying25 rfl (by decide +kernel) rfl) ?_
      refine W_r rfl rfl (VR_ldC rfl (et rfl) (cell_box (v := ov) (hS25.obj 2 rfl hc2_26) rfl) Try.underlying22 rfl) ?_
      refine W_v rfl rfl (V_mov rfl (es rfl (es rfl l6_25))) ?_
      refine W_v rfl rfl (V_sb rfl (et rfl) rfl (by omega) (by omega)) ?_
      have k28 : (x - 1).toNat < O.length := by first | omega | (simp only [List.length_cons, List.length_nil]; omega) | (simp only [List.length_set]; omega)
      obtain ⟨y28, hy28⟩ := get_some (xs := O) (k := (x - 1).toNat) k28
      have hsy := hsm.at hy28
      obtain ⟨B28, O28, C28, hv28⟩ := (SlN.blk (sl_SlN h_ov.at) (by first | omega | (simp only [List.length_cons, List.length_nil]; omega) | (simp only [List.length_set]; omega)))
      refine W_v rfl rfl (V_ixS (off := O28 + ((x - 1).toNat) * 2) 2 ((x - 1).toNat) rfl (es rfl (es rfl (et rfl))) (et rfl) hv28 (by omega) k28 Try.underlying22 (by kernel_rfl) rfl) ?_
      have fn29 : Ro w NoX (il .i64 y28.1.1 y28.1.2) := nst_ro1 n_ov hy28
      have bfn29 := SlN.le (sl_SlN (hS25.ro fn29))
      have fn30 : Ro w NoX (il .u64 y28.2.1 y28.2.2) := nst_ro2 n_ov hy28
      have bfn30 := SlN.le (sl_SlN (hS25.ro fn30))
      refine W_r rfl rfl (VR_ldR (ys := obC y28) rfl (et rfl) (SlN.row obC_len (sl_SlN (hS25.ro h_ov)) hv28 hy28 rfl) Try.underlying40 rfl (by kernel_rfl)) ?_
      refine W_allocS (z := .agg #[.slice none 0 0, .slice none 0 0]) (zs := #[.slice none 0 0, .slice none 0 0]) hS25 rfl rfl rfl (by kernel_rfl) (by rfl) (fun g31 w31 c31 hc31 hS31 => ?_)
      replace hS31 : St w NoX (c31 :: cb_26 :: c16_26 :: c2_26 :: fr) w31 := hS31
      refine W_stAS 0 hS31 rfl hc31 rfl rfl rfl (et rfl) (es rfl (et rfl)) (by simp only [List.all_toArray, List.all_cons, List.all_nil, obC, SlN_one (sl_SlN fn29.at), SlN_one (sl_SlN fn30.at)] <;> rfl) (by rfl) (by kernel_rfl) (fun w32 c32 hc32 hS32 => ?_)
      replace hS32 : St w NoX (c32 :: cb_26 :: c16_26 :: c2_26 :: fr) w32 := hS32
      refine W_end ?_
      refine Qo_normal ?_
      refine gen_Q (fun A33 hA33 => ?_)
      have hsz33 : SzN A33 33 := by rw [hA33]; infer_instance
      have hdf33 : A33.defers = [] := by rw [hA33]; simp only [df_put]; exact hdf25
      have l5_33 := lookE hA33 5 (es rfl (es rfl (es rfl (es rfl (es rfl (es rfl (es rfl l5_25)))))))
      have l7_33 := lookE hA33 7 (et rfl)
      clear hA33 hsz25 hdf25 l1_25 l5_25 l6_25
      refine then_n (hK27 _ _ ?_)
      clear hK27
      -- region 8
      refine R_region (by kernel_rfl) ?_
      refine W_r rfl rfl (VR_ldC rfl l5_33 (cell_box (v := .int .i64 (((pre.map (wd1 (O.map ab))).sum))) (hS32.obj 2 rfl hc16_26) rfl) Try.underlying3 rfl) ?_
      refine W_v rfl rfl (V_fa (off' := 0) rfl (es rfl l7_33) Try.underlying40 rfl (by decide +kernel) rfl) ?_
      refine W_r rfl rfl (VR_ldC rfl (et rfl) (cell_box (v := y28.1.1) (hS32.obj 0 rfl hc32) rfl) Try.underlying23 rfl) ?_
      refine W_v rfl rfl (V_lenS rfl (et rfl) (sl_SlN fn29.at) Try.underlying23) ?_
      refine W_v rfl rfl (V_add rfl rfl (et rfl) (by omega) (by omega)) ?_
      refine W_v rfl rfl (V_fa (off' := 1) rfl (es rfl (es rfl (es rfl (es rfl (es rfl l7_33))))) Try.underlying40 rfl (by decide +kernel) rfl) ?_
      refine W_r rfl rfl (VR_ldC rfl (et rfl) (cell_box (v := y28.2.1) (hS32.obj 0 rfl hc32) rfl) Try.underlying38 rfl) ?_
      refine W_v rfl rfl (V_lenS rfl (et rfl) (sl_SlN fn30.at) Try.underlying38) ?_
      refine W_v rfl rfl (V_add rfl (es rfl (es rfl (es rfl (et rfl)))) (et rfl) (by omega) (by omega)) ?_
      refine W_v rfl rfl (V_add rfl (es rfl (es rfl (es rfl (es rfl (es rfl (es rfl (es rfl (es rfl (et rfl))))))))) (et rfl) (by omega) (by omega)) ?_
      refine W_stCS (zs' := #[.int .i64 ((((pre.map (wd1 (O.map ab))).sum) + ((1 + (y28.1.2.length : Int)) + (y28.2.2.length : Int))))]) 2 hS32 rfl hc16_26 rfl rfl rfl (es rfl (es rfl (es rfl (es rfl (es rfl (es rfl (es rfl (es rfl (es rfl (es rfl l5_33)))))))))) (et rfl) (by rfl) (by rfl) (by kernel_rfl) (by first | rfl | (simp only [List.setIfInBounds_toArray, List.set_cons_succ, List.set_cons_zero] <;> rfl)) (fun w34 c34 hc34 hS34 => ?_)
      replace hS34 : St w NoX (c32 :: cb_26 :: c34 :: c2_26 :: fr) w34 := hS34
      refine W_end ?_
      refine Qo_normal ?_
      refine gen_Q (fun A35 hA35 => ?_)
      have hsz35 : SzN A35 33 := by rw [hA35]; infer_instance
      have hdf35 : A35.defers = [] := by rw [hA35]; simp only [df_put]; exact hdf33
      clear hA35 hsz33 hdf33 l5_33 l7_33
      have hS37 := hS34.del 0
      replace hS37 : St w NoX (cb_26 :: c34 :: c2_26 :: fr) w34 := hS37
      refine inb_n ?_
      exact (St.pack (l := [bx gb_20 25 #[ov, rv], bx g15 3 #[.int .i64 ((((pre ++ [x]).map (wd1 (O.map ab))).sum))], bx g2 25 #[ov, rv]]) (fr := fr) (by have q0 : cb_26 = bx gb_20 25 #[ov, rv] := hcb_26; have q1 : c34 = bx g15 3 #[.int .i64 ((((pre ++ [x]).map (wd1 (O.map ab))).sum))] := hc34.trans ((congrArg (fun z => bx _ _ #[.int .i64 z]) (wd_snoc hy28).symm)); have q2 : c2_26 = bx g2 25 #[ov, rv] := hc2_26; subst q0 q1 q2; exact hS37) (⟨(WB.snoc hwb hy28 hsm), rfl⟩))
    · intro D38 xs w38 hxs hS38
      have hxs' : xs = (rcL (O.map ab) rs) := hxs; subst hxs'; clear hxs
      obtain ⟨_, ⟨hwb, rfl⟩, hS38⟩ := hS38.unpack
      replace hS38 : St w NoX ((bx gb_20 25 #[ov, rv]) :: (bx g15 3 #[.int .i64 ((((rcL (O.map ab) rs).map (wd1 (O.map ab))).sum))]) :: (bx g2 25 #[ov, rv]) :: (ob D38 (.deferred (some []))) :: []) w38 := hS38
      obtain ⟨cb_38, c16_38, c2_38, cD38, hcb_38, hc16_38, hc2_38, hcD38, hS38⟩ := gen4 hS38
      refine gen_Q (fun A38 hA38 => ?_)
      have hsz38 : SzN A38 33 := by rw [hA38]; infer_instance
      have hdf38 : A38.defers = [{ target := .collected D38, args := #[] }] := by rw [hA38, df_mk, hdf21] <;> rfl
      have l5_38 := lookE hA38 5 (mk_l l5_21)
      clear hA38
      refine inb_n ?_
      refine then_n (hK18 _ _ ?_)
      clear hK18
      refine R_seq (fun K39 hK39 => ?_)
      -- region 9
      refine R_region (by kernel_rfl) ?_
      refine W_r rfl rfl (VR_ldC rfl l5_38 (cell_box (v := .int .i64 ((((rcL (O.map ab) rs).map (wd1 (O.map ab))).sum))) (hS38.obj 1 rfl hc16_38) rfl) Try.underlying3 rfl) ?_
      refine W_v rfl rfl (V_asg rfl (et rfl)) ?_
      refine W_v rfl rfl (V_asg rfl rfl) ?_
      refine W_end ?_
      refine Qo_normal ?_
      refine gen_Q (fun A40 hA40 => ?_)
      have hsz40 : SzN A40 33 := by rw [hA40]; infer_instance
      have hdf40 : A40.defers = [{ target := .collected D38, args := #[] }] := by rw [hA40]; simp only [df_put]; exact hdf38
      have l2_40 := lookE hA40 2 (es rfl (et rfl))
      have l3_40 := lookE hA40 3 (et rfl)
      clear hA40 hsz38 hdf38 l5_38
      have hS41 : St w NoX [cD38] w38 := hS38.sel [3] (by decide) rfl
      refine then_n (hK39 _ _ ?_)
      clear hK39
      refine R_ret ?_
      have hD42 := hS41.obj 0 rfl hcD38
      have hS42 := hS41.put (o' := .deferred none) 0 rfl hcD38
      obtain ⟨w42, hw42⟩ : ∃ w', w' = w38.putObj D38 (.deferred none) := ⟨_, rfl⟩
      rw [← hw42] at hS42
      replace hS42 : St w NoX [(ob D38 (.deferred none))] w42 := hS42
      refine ret_inR1' (D := D38) (w1 := w42) hw42 (results_2 Try.results19 (rv_tmp l2_40) (rv_tmp l3_40)) hdf40 hD42 ?_
      -- leaf Fd
      rw [hck, wdN_k hck, ← rcL_sum hG]
      exact ⟨rfl, hS42.fin0⟩
    · intro D43 cQ pre w43 hpre hS43
      obtain ⟨_, h, _⟩ := hS43.unpack; exact h.elim

set_option maxHeartbeats 4000000 in
theorem qlv_c {ov : Value} {O : List Ob} {rv : Value} {rs : List Int} {w : World} (h_ov : Ro w NoX (rl 2 obC ov O)) (n_ov : Ro w NoX (nst O)) (h_rv : Ro w NoX (il .i64 rv rs)) (hG : GG (O.map ab) rs) (hsm : SM (O.map ab)) :
    Calls Try.prog 50 #[.agg #[ov, rv]] w fun e w' => ∃ v B M, e = .returned (v) ∧ (MB O.length B M) ∧ (Wl (O.map ab) rs M []) ∧ St w NoX [bo (v) (B)] w' := by
  have hwl := wt_le (M := ([] : List Int)) hsm hG.o4
  have hr8 := hG.r8
  have ho4 := hG.o4
  rw [List.length_map] at ho4
  refine calls_in 44 Try.func50 rfl rfl (by simp) (fun A0 hsz0 hdf0 hargs => ?_)
  have l0_0 := hargs 0 (.agg #[ov, rv]) rfl
  clear hargs; replace hsz0 : SzN A0 44 := ⟨hsz0⟩
  have hS := St.nil w
  have bh_ov := SlN.le (sl_SlN h_ov.at)
  have bh_rv := SlN.le (sl_SlN h_rv.at)
  refine wp_seq_k (fun K1 hK1 => ?_)
  -- region 0
  refine region_in ?_
  refine W_boxS (zs := #[ov, rv]) hS rfl rfl rfl l0_0 (by rfl) (fun g2 w2 c2 hc2 hS2 => ?_)
  replace hS2 : St w NoX [c2] w2 := hS2
  refine W_v rfl rfl (V_asg rfl rfl) ?_
  refine W_end ?_
  refine gen_Q (fun A3 hA3 => ?_)
  have hsz3 : SzN A3 44 := by rw [hA3]; infer_instance
  have hdf3 : A3.defers = [] := by rw [hA3]; simp only [df_put]; exact hdf0
  have l1_3 := lookE hA3 1 (es rfl (et rfl))
  clear hA3 hsz0 hdf0 l0_0
  refine then_n (hK1 _ _ ?_)
  clear hK1
  refine wp_seq_k (fun K4 hK4 => ?_)
  -- region 1
  refine region_in ?_
  refine W_v rfl rfl (V_fa (off' := 0) rfl l1_3 Try.underlying25 rfl (by decide +kernel) rfl) ?_
  refine W_r rfl rfl (VR_ldC rfl (et rfl) (cell_box (v := ov) (hS2.obj 0 rfl hc2) rfl) Try.underlying22 rfl) ?_
  refine W_v rfl rfl (V_lenS rfl (et rfl) (sl_SlN h_ov.at) Try.underlying22) ?_
  refine W_v rfl rfl (V_add rfl (et rfl) rfl (by omega) (by omega)) ?_
  refine W_mkS (z := .bool false) (bytes := 1) (O.length + 1) hS2 rfl rfl rfl (et rfl) (et rfl) (by omega) Try.underlying69 (by kernel_rfl) (by omega) rfl (fun v5 w5 c5 hc5 hS5 => ?_)
  replace hc5 : c5 = bo v5 (List.replicate (O.length + 1) false) := hc5.trans (by simp only [io, bo, List.map_replicate, List.length_replicate])
  replace hS5 : St w NoX [c5, c2] w5 := hS5
  refine W_v rfl rfl (V_asg rfl (et rfl)) ?_
  refine W_end ?_
  refine gen_Q (fun A6 hA6 => ?_)
  have hsz6 : SzN A6 44 := by rw [hA6]; infer_instance
  have hdf6 : A6.defers = [] := by rw [hA6]; simp only [df_put]; exact hdf3
  have l1_6 := lookE hA6 1 (es rfl (es rfl (es rfl (es rfl (es rfl (es rfl l1_3))))))
  have l3_6 := lookE hA6 3 (et rfl)
  clear hA6 hsz3 hdf3 l1_3
  refine then_n (hK4 _ _ ?_)
  clear hK4
  refine wp_seq_k (fun K7 hK7 => ?_)
  -- region 2
  refine region_in ?_
  refine W_litS (vs := []) (xs := []) 1 hS5 rfl rfl rfl (parts0) rfl Try.underlying23 (by kernel_rfl) (by decide) (by intro v hv; cases hv) (by rfl) (fun g8 w8 c8 hc8 hS8 => ?_)
  replace hc8 : c8 = io .i64 (.slice (some ⟨g8, 0, none⟩) 0 0) [] := hc8
  replace hS8 : St w NoX [c8, c5, c2] w8 := hS8
  refine W_v rfl rfl (V_fa (off' := 1) rfl (es rfl l1_6) Try.underlying25 rfl (by decide +kernel) rfl) ?_
  refine W_r rfl rfl (VR_ldC rfl (et rfl) (cell_box (v := rv) (hS8.obj 2 rfl hc2) rfl) Try.underlying23 rfl) ?_
  refine W_appS 1 0 hS8 rfl hc8 rfl rfl rfl (es rfl (es rfl (et rfl))) (et rfl) Try.underlying23 Try.underlying23 (z := .int .i64 0) (bytes := 8) (by kernel_rfl) rfl (by decide) (sl_SlN (hS8.ro h_rv)) ones_i (by first | omega | (simp; done) | (simp; omega)) (by first | omega | (simp; done) | (simp; omega)) (fun v9 w9 c9 hc9 hS9 => ?_)
  replace hc9 : c9 = io .i64 v9 rs := hc9.trans (app_eq (by simp))
  replace hS9 : St w NoX [c9, c5, c2] w9 := hS9
  refine W_v rfl rfl (V_asg rfl (et rfl)) ?_
  refine W_end ?_
  refine gen_Q (fun A10 hA10 => ?_)
  have hsz10 : SzN A10 44 := by rw [hA10]; infer_instance
  have hdf10 : A10.defers = [] := by rw [hA10]; simp only [df_put]; exact hdf6
  have l1_10 := lookE hA10 1 (es rfl (es rfl (es rfl (es rfl (es rfl l1_6)))))
  have l3_10 := lookE hA10 3 (es rfl (es rfl (es rfl (es rfl (es rfl l3_6)))))
  have l4_10 := lookE hA10 4 (et rfl)
  clear hA10 hsz6 hdf6 l1_6 l3_6
  refine then_n (hK7 _ _ ?_)
  clear hK7
  refine wp_seq_k (fun K11 hK11 => ?_)
  refine wp_block ?_
  -- loop 3
  refine loopX (fun mz A' w' => SzN A' 44 ∧ A'.defers = [] ∧ (∃ (T : List Int) (M : List Int) (B : List Bool) (tv : Value), (mz = T.length + wt (O.map ab) M) ∧ (RfAt (O.map ab) rs T M) ∧ (MB O.length B M) ∧ (EV A' (.tmp 4) = tv) ∧ (EV A' (.tmp 1) = EV A10 (.tmp 1)) ∧ (EV A' (.tmp 3) = EV A10 (.tmp 3)) ∧ (St w NoX [io .i64 tv T, bo v5 B, bx g2 25 #[ov, rv]] w'))) (rs.length + wt (O.map ab) []) ⟨hsz10, hdf10, rs, [], (List.replicate (O.length + 1) false), v9, rfl, (RfAt.init (O.map ab) rs), (MB.init _ _ (by omega)), ((l4_10).trans (by first | rfl | (simp; done) | (congr 1; omega))), rfl, rfl, (by subst hc9 hc5 hc2; exact hS9)⟩ ?_
  clear hS9 hc9 hc5 hc2
  rintro n12 A12 w12 ⟨hsz12, hdf12, T, M, B, tv, hm12, hrf, hB, l4_12, u1_12, u3_12, hS12⟩
  have l1_12 := u1_12.trans l1_10
  have l3_12 := u3_12.trans l3_10
  obtain ⟨c9_12, c5_12, c2_12, hc9_12, hc5_12, hc2_12, hS12⟩ := gen3 hS12
  refine wp_seq_k (fun K13 hK13 => ?_)
  refine wp_seq_k (fun K14 hK14 => ?_)
  -- region 3
  refine region_in ?_
  refine W_v rfl rfl (V_mov rfl l4_12) ?_
  refine W_v rfl rfl (V_lenS rfl (et rfl) (ow_at (hS12.chq 0 rfl hc9_12)) Try.underlying23) ?_
  refine W_v rfl rfl (V_gtr rfl (et rfl) rfl) ?_
  refine W_end ?_
  refine gen_Q (fun A15 hA15 => ?_)
  have hsz15 : SzN A15 44 := by rw [hA15]; infer_instance
  have hdf15 : A15.defers = [] := by rw [hA15]; simp only [df_put]; exact hdf12
  have l1_15 := lookE hA15 1 (es rfl (es rfl (es rfl l1_12)))
  have l3_15 := lookE hA15 3 (es rfl (es rfl (es rfl l3_12)))
  have l4_15 := lookE hA15 4 (es rfl (es rfl (es rfl l4_12)))
  have l17_15 := lookE hA15 17 (et rfl)
  clear hA15 hsz12 hdf12 l4_12 l1_12 l3_12
  refine then_n (hK14 _ _ ?_)
  clear hK14
  refine cond_dec l17_15 (fun c16 => ?_) (fun c16 => ?_)
  · skip
    have hbd := hrf.bd
    refine wp_skip ?_
    refine then_n (hK13 _ _ ?_)
    clear hK13
    refine wp_block ?_
    refine wp_seq_k (fun K17 hK17 => ?_)
    -- region 4
    refine region_in ?_
    refine W_v rfl rfl (V_mov rfl l4_15) ?_
    have k18 : 0 < T.length := by first | omega | (simp only [List.length_cons, List.length_nil]; omega) | (simp only [List.length_set]; omega)
    obtain ⟨y18, hy18⟩ := get_some (xs := T) (k := 0) k18
    obtain ⟨B18, O18, C18, hv18⟩ := (SlN.blk (ow_at (hS12.chq 0 rfl hc9_12)) (by first | omega | (simp only [List.length_cons, List.length_nil]; omega) | (simp only [List.length_set]; omega)))
    refine W_v rfl rfl (V_ixS (off := O18 + 0) 1 (0) rfl (et rfl) rfl hv18 (by omega) k18 Try.underlying23 (by kernel_rfl) (congrArg _ (Nat.mul_one _))) ?_
    refine W_r rfl rfl (VR_ldC rfl (et rfl) ((ow_at (hS12.chq 0 rfl hc9_12)).cell hv18 (map_get hy18)) Try.underlying3 rfl) ?_
    refine W_v rfl rfl (V_asg rfl (et rfl)) ?_
    refine W_end ?_
    refine gen_Q (fun A19 hA19 => ?_)
    have hsz19 : SzN A19 44 := by rw [hA19]; infer_instance
    have hdf19 : A19.defers = [] := by rw [hA19]; simp only [df_put]; exact hdf15
    have l1_19 := lookE hA19 1 (es rfl (es rfl (es rfl (es rfl l1_15))))
    have l3_19 := lookE hA19 3 (es rfl (es rfl (es rfl (es rfl l3_15))))
    have l4_19 := lookE hA19 4 (es rfl (es rfl (es rfl (es rfl l4_15))))
    have l5_19 := lookE hA19 5 (et rfl)
    clear hA19 hsz15 hdf15 l1_15 l3_15 l4_15 l17_15
    refine then_n (hK17 _ _ ?_)
    clear hK17
    refine wp_seq_k (fun K20 hK20 => ?_)
    -- region 5
    refine region_in ?_
    refine W_v rfl rfl (V_mov rfl l4_19) ?_
    have k21 : 1 ≤ T.length := by omega
    have m21 : T.length ≤ T.length := by omega
    obtain ⟨c21, hc21, hS21⟩ := hS12.sub 0 rfl hc9_12 (1) (T.length) k21 m21
    replace hc21 : c21 = io .i64 (subS 1 tv 1 T.length) (T.drop 1) := hc21.trans (part_eq k21 m21 (by first | (simp; done) | exact List.take_of_length_le (by rw [List.length_drop]; omega)))
    replace hS21 : St w NoX [c21, c5_12, c2_12] w12 := hS21
    refine W_v rfl rfl (V_subS 1 (1) (T.length) rfl (et rfl) (.inr ⟨_, _, rfl, rfl, by omega⟩) (.inl ⟨rfl, rfl⟩) Try.underlying23 (by kernel_rfl) (ow_at (hS12.chq 0 rfl hc9_12)) k21 m21) ?_
    refine W_v rfl rfl (V_asg rfl (et rfl)) ?_
    refine W_end ?_
    refine gen_Q (fun A22 hA22 => ?_)
    have hsz22 : SzN A22 44 := by rw [hA22]; infer_instance
    have hdf22 : A22.defers = [] := by rw [hA22]; simp only [df_put]; exact hdf19
    have l1_22 := lookE hA22 1 (es rfl (es rfl (es rfl l1_19)))
    have l3_22 := lookE hA22 3 (es rfl (es rfl (es rfl l3_19)))
    have l4_22 := lookE hA22 4 (et rfl)
    have l5_22 := lookE hA22 5 (es rfl (es rfl (es rfl l5_19)))
    clear hA22 hsz19 hdf19 l1_19 l3_19 l4_19 l5_19
    refine then_n (hK20 _ _ ?_)
    clear hK20
    refine wp_seq_k (fun K23 hK23 => ?_)
    refine wp_seq_k (fun K24 hK24 => ?_)
    -- region 6
    refine region_in ?_
    refine W_v rfl rfl (V_mov rfl l5_22) ?_
    refine W_v rfl rfl (V_eql rfl (et rfl) rfl) ?_
    refine W_split rfl rfl (V_mov rfl (et rfl)) (fun c25 => ?_) (fun c25 => ?_)
    · skip
      refine W_off rfl (wanted_f rfl rfl (et rfl) (ez rfl) rfl) ?_
      refine W_off rfl (wanted_f rfl rfl (es rfl (et rfl)) (ez rfl) rfl) ?_
      refine W_off rfl (wanted_f rfl rfl (es rfl (es rfl (et rfl))) (ez rfl) rfl) ?_
      refine W_off rfl (wanted_f rfl rfl (es rfl (es rfl (es rfl (et rfl)))) (ez rfl) rfl) ?_
      refine W_v rfl rfl (V_pickT rfl (es rfl (es rfl (es rfl (es rfl (et rfl))))) rfl) ?_
      refine W_end ?_
      refine gen_Q (fun A26 hA26 => ?_)
      have hsz26 : SzN A26 44 := by rw [hA26]; infer_instance
      have hdf26 : A26.defers = [] := by rw [hA26]; simp only [df_put]; exact hdf22
      have l1_26 := lookE hA26 1 (es rfl (es rfl (es rfl (es rfl (es rfl (es rfl (es rfl (es rfl l1_22))))))))
      have l3_26 := lookE hA26 3 (es rfl (es rfl (es rfl (es rfl (es rfl (es rfl (es rfl (es rfl l3_22))))))))
      have l4_26 := lookE hA26 4 (es rfl (es rfl (es rfl (es rfl (es rfl (es rfl (es rfl (es rfl l4_22))))))))
      have l5_26 := lookE hA26 5 (es rfl (es rfl (es rfl (es rfl (es rfl (es rfl (es rfl (es rfl l5_22))))))))
      have l26_26 := lookE hA26 26 (es rfl (es rfl (es rfl (es rfl (et rfl)))))
      have l27_26 := lookE hA26 27 (es rfl (es rfl (es rfl (et rfl))))
      have l28_26 := lookE hA26 28 (es rfl (es rfl (et rfl)))
      have l29_26 := lookE hA26 29 (es rfl (et rfl))
      have l30_26 := lookE hA26 30 (et rfl)
      clear hA26 hsz22 hdf22 l1_22 l3_22 l4_22 l5_22
      refine then_n (hK24 _ _ ?_)
      clear hK24
      refine cond_t l30_26 ?_
      refine wp_exit ?_
      refine then_exit ?_
      refine inb_hit ?_
      refine then_n ⟨(T.drop 1).length + wt (O.map ab) M, by first | (simp only [hm12, List.length_append, List.length_drop]; omega) | (simp only [hm12, List.length_drop]; omega), hsz26, hdf26, (T.drop 1), M, B, (subS 1 tv 1 T.length), rfl, (hrf.skip hy18 (.inl (by omega))), hB, ((l4_26).trans (by first | rfl | (simp; done) | (congr 1; omega))), ((l1_26).trans l1_10.symm), ((l3_26).trans l3_10.symm), (by subst hc21 hc5_12 hc2_12; exact hS21)⟩
    · skip
      have hy0 : ¬ y18 = 0 := c25
      have hrg := hrf.rng hG hy18 hy0
      rw [List.length_map] at hrg
      have hBl := hB.1
      refine W_v rfl (wanted_t rfl rfl (et rfl) (ez rfl)) (V_mov rfl (es rfl (es rfl (es rfl l3_22)))) ?_
      refine W_v rfl (wanted_t rfl rfl (es rfl (et rfl)) (ez rfl)) (V_mov rfl (es rfl (es rfl (es rfl (es rfl l5_22))))) ?_
      have k27 : y18.toNat < B.length := by first | omega | (simp only [List.length_cons, List.length_nil]; omega) | (simp only [List.length_set]; omega)
      obtain ⟨y27, hy27⟩ := get_some (xs := B) (k := y18.toNat) k27
      have hbm := hB.at (by omega) hy27
      obtain ⟨B27, O27, C27, hv27⟩ := (SlN.blk (ow_at (hS21.chq 1 rfl hc5_12)) (by first | omega | (simp only [List.length_cons, List.length_nil]; omega) | (simp only [List.length_set]; omega)))
      refine W_v rfl (wanted_t rfl rfl (es rfl (es rfl (et rfl))) (ez rfl)) (V_ixS (off := O27 + y18.toNat) 1 (y18.toNat) rfl (es rfl (et rfl)) (et rfl) hv27 (by omega) k27 Try.underlying69 (by kernel_rfl) (congrArg _ (Nat.mul_one _))) ?_
      refine W_r rfl (wanted_t rfl rfl (es rfl (es rfl (es rfl (et rfl)))) (ez rfl)) (VR_ldC rfl (et rfl) ((ow_at (hS21.chq 1 rfl hc5_12)).cell hv27 (map_get hy27)) Try.underlying4 rfl) ?_
      refine W_v rfl rfl (V_pickF rfl (es rfl (es rfl (es rfl (es rfl (et rfl))))) (et rfl)) ?_
      refine W_end ?_
      refine gen_Q (fun A28 hA28 => ?_)
      have hsz28 : SzN A28 44 := by rw [hA28]; infer_instance
      have hdf28 : A28.defers = [] := by rw [hA28]; simp only [df_put]; exact hdf22
      have l1_28 := lookE hA28 1 (es rfl (es rfl (es rfl (es rfl (es rfl (es rfl (es rfl (es rfl l1_22))))))))
      have l3_28 := lookE hA28 3 (es rfl (es rfl (es rfl (es rfl (es rfl (es rfl (es rfl (es rfl l3_22))))))))
      have l4_28 := lookE hA28 4 (es rfl (es rfl (es rfl (es rfl (es rfl (es rfl (es rfl (es rfl l4_22))))))))
      have l5_28 := lookE hA28 5 (es rfl (es rfl (es rfl (es rfl (es rfl (es rfl (es rfl (es rfl l5_22))))))))
      have l26_28 := lookE hA28 26 (es rfl (es rfl (es rfl (es rfl (et rfl)))))
      have l27_28 := lookE hA28 27 (es rfl (es rfl (es rfl (et rfl))))
      have l28_28 := lookE hA28 28 (es rfl (es rfl (et rfl)))
      have l29_28 := lookE hA28 29 (es rfl (et rfl))
      have l30_28 := lookE hA28 30 (et rfl)
      clear hA28 hsz22 hdf22 l1_22 l3_22 l4_22 l5_22
      refine then_n (hK24 _ _ ?_)
      clear hK24
      refine cond_b l30_28 (fun c29 => ?_) (fun c29 => ?_)
      · skip
        have hin : y18 ∈ M := by rw [c29] at hbm; exact of_decide_eq_true hbm.symm
        refine wp_exit ?_
        refine then_exit ?_
        refine inb_hit ?_
        refine then_n ⟨(T.drop 1).length + wt (O.map ab) M, by first | (simp only [hm12, List.length_append, List.length_drop]; omega) | (simp only [hm12, List.length_drop]; omega), hsz28, hdf28, (T.drop 1), M, B, (subS 1 tv 1 T.length), rfl, (hrf.skip hy18 (.inr hin)), hB, ((l4_28).trans (by first | rfl | (simp; done) | (congr 1; omega))), ((l1_28).trans l1_10.symm), ((l3_28).trans l3_10.symm), (by subst hc21 hc5_12 hc2_12; exact hS21)⟩
      · skip
        have hin : ¬ y18 ∈ M := fun q => by rw [decide_eq_true q] at hbm; have hc := c29; rw [hbm] at hc; cases hc
        have hwt := wt_mark (hrf.rng hG hy18 hy0) hin
        refine wp_skip ?_
        refine then_n (hK23 _ _ ?_)
        clear hK23
        refine wp_seq_k (fun K30 hK30 => ?_)
        -- region 7
        refine region_in ?_
        refine W_v rfl rfl (V_mov rfl l3_28) ?_
        refine W_v rfl rfl (V_mov rfl (es rfl l5_28)) ?_
        refine W_v rfl rfl (V_ixS (off := O27 + y18.toNat) 1 (y18.toNat) rfl (es rfl (et rfl)) (et rfl) hv27 (by omega) k27 Try.underlying69 (by kernel_rfl) (congrArg _ (Nat.mul_one _))) ?_
        refine W_stE 1 hS21 rfl hc5_12 hv27 rfl rfl rfl (et rfl) rfl (by rfl) rfl (by first | (simp only [List.length_map]; omega) | omega) (by kernel_rfl) (fun w32 c32 hc32 hS32 => ?_)
        replace hc32 : c32 = bo v5 (B.set y18.toNat true) := hc32.trans (by simp [io, bo, List.map_set] <;> rfl)
        replace hS32 : St w NoX [c21, c32, c2_12] w32 := hS32
        refine W_end ?_
        refine gen_Q (fun A33 hA33 => ?_)
        have hsz33 : SzN A33 44 := by rw [hA33]; infer_instance
        have hdf33 : A33.defers = [] := by rw [hA33]; simp only [df_put]; exact hdf28
        have l1_33 := lookE hA33 1 (es rfl (es rfl (es rfl l1_28)))
        have l3_33 := lookE hA33 3 (es rfl (es rfl (es rfl l3_28)))
        have l4_33 := lookE hA33 4 (es rfl (es rfl (es rfl l4_28)))
        have l5_33 := lookE hA33 5 (es rfl (es rfl (es rfl l5_28)))
        have l26_33 := lookE hA33 26 (es rfl (es rfl (es rfl l26_28)))
        have l27_33 := lookE hA33 27 (es rfl (es rfl (es rfl l27_28)))
        have l28_33 := lookE hA33 28 (es rfl (es rfl (es rfl l28_28)))
        have l29_33 := lookE hA33 29 (es rfl (es rfl (es rfl l29_28)))
        clear hA33 hsz28 hdf28 l1_28 l3_28 l4_28 l5_28 l26_28 l27_28 l28_28 l29_28 l30_28
        refine then_n (hK30 _ _ ?_)
        clear hK30
        -- region 8
        refine region_in ?_
        refine W_v rfl rfl (V_mov rfl l4_33) ?_
        refine W_v rfl rfl (V_fa (off' := 0) rfl (es rfl l1_33) Try.underlying25 rfl (by decide +kernel) rfl) ?_
        refine W_r rfl rfl (VR_ldC rfl (et rfl) (cell_box (v := ov) (hS32.obj 2 rfl hc2_12) rfl) Try.underlying22 rfl) ?_
        refine W_v rfl rfl (V_mov rfl (es rfl (es rfl (es rfl l5_33)))) ?_
        refine W_v rfl rfl (V_sb rfl (et rfl) rfl (by omega) (by omega)) ?_
        have k34 : (y18 - 1).toNat < O.length := by first | omega | (simp only [List.length_cons, List.length_nil]; omega) | (simp only [List.length_set]; omega)
        obtain ⟨y34, hy34⟩ := get_some (xs := O) (k := (y18 - 1).toNat) k34
        have hpt := pt_at hy34
        rw [hpt] at hwt
        obtain ⟨B34, O34, C34, hv34⟩ := (SlN.blk (sl_SlN h_ov.at) (by first | omega | (simp only [List.length_cons, List.length_nil]; omega) | (simp only [List.length_set]; omega)))
        refine W_v rfl rfl (V_ixS (off := O34 + ((y18 - 1).toNat) * 2) 2 ((y18 - 1).toNat) rfl (es rfl (es rfl (et rfl))) (et rfl) hv34 (by omega) k34 Try.underlying22 (by kernel_rfl) rfl) ?_
        refine W_v rfl rfl (V_fa (off' := O34 + ((y18 - 1).toNat) * 2 + 0) rfl (et rfl) Try.underlying40 rfl (by decide +kernel) rfl) ?_
        have fn35 : Ro w NoX (il .i64 y34.1.1 y34.1.2) := nst_ro1 n_ov hy34
        have bfn35 := SlN.le (sl_SlN (hS32.ro fn35))
        have fn36 : Ro w NoX (il .u64 y34.2.1 y34.2.2) := nst_ro2 n_ov hy34
        have bfn36 := SlN.le (sl_SlN (hS32.ro fn36))
        refine W_r rfl rfl (VR_ldC (v := y34.1.1) rfl (et rfl) (SlN.row obC_len (sl_SlN (hS32.ro h_ov)) hv34 hy34 rfl 0 _ rfl) Try.underlying23 rfl) ?_
        refine W_appS 1 0 hS32 rfl hc21 rfl rfl rfl (es rfl (es rfl (es rfl (es rfl (es rfl (es rfl (es rfl (et rfl)))))))) (et rfl) Try.underlying23 Try.underlying23 (z := .int .i64 0) (bytes := 8) (by kernel_rfl) rfl (by decide) (sl_SlN (hS32.ro fn35)) ones_i (by first | omega | (simp; done) | (simp; omega)) (by first | omega | (simp; done) | (simp; omega)) (fun v37 w37 c37 hc37 hS37 => ?_)
        replace hc37 : c37 = io .i64 v37 ((T.drop 1) ++ y34.1.2) := hc37.trans (app_eq (by simp))
        replace hS37 : St w NoX [c37, c32, c2_12] w37 := hS37
        refine W_v rfl rfl (V_asg rfl (et rfl)) ?_
        refine W_end ?_
        refine gen_Q (fun A38 hA38 => ?_)
        have hsz38 : SzN A38 44 := by rw [hA38]; infer_instance
        have hdf38 : A38.defers = [] := by rw [hA38]; simp only [df_put]; exact hdf33
        have l1_38 := lookE hA38 1 (es rfl (es rfl (es rfl (es rfl (es rfl (es rfl (es rfl (es rfl (es rfl (es rfl l1_33))))))))))
        have l3_38 := lookE hA38 3 (es rfl (es rfl (es rfl (es rfl (es rfl (es rfl (es rfl (es rfl (es rfl (es rfl l3_33))))))))))
        have l4_38 := lookE hA38 4 (et rfl)
        have l26_38 := lookE hA38 26 (es rfl (es rfl (es rfl (es rfl (es rfl (es rfl (es rfl (es rfl (es rfl (es rfl l26_33))))))))))
        have l27_38 := lookE hA38 27 (es rfl (es rfl (es rfl (es rfl (es rfl (es rfl (es rfl (es rfl (es rfl (es rfl l27_33))))))))))
        have l28_38 := lookE hA38 28 (es rfl (es rfl (es rfl (es rfl (es rfl (es rfl (es rfl (es rfl (es rfl (es rfl l28_33))))))))))
        have l29_38 := lookE hA38 29 (es rfl (es rfl (es rfl (es rfl (es rfl (es rfl (es rfl (es rfl (es rfl (es rfl l29_33))))))))))
        clear hA38 hsz33 hdf33 l1_33 l3_33 l4_33 l5_33 l26_33 l27_33 l28_33 l29_33
        refine inb_n ?_
        refine then_n ⟨(T.drop 1 ++ y34.1.2).length + wt (O.map ab) (M ++ [y18]), by first | (simp only [hm12, List.length_append, List.length_drop]; omega) | (simp only [hm12, List.length_drop]; omega), hsz38, hdf38, (T.drop 1 ++ y34.1.2), (M ++ [y18]), (B.set y18.toNat true), v37, rfl, (by have q := hrf.mark hG hy18 hy0 hin; rw [hpt] at q; exact q), (hB.set (by omega)), ((l4_38).trans (by first | rfl | (simp; done) | (congr 1; omega))), ((l1_38).trans l1_10.symm), ((l3_38).trans l3_10.symm), (by subst hc37 hc32 hc2_12; exact hS37)⟩
  · skip
    refine wp_exit ?_
    refine then_exit ?_
    refine then_exit ?_
    refine inb_hit ?_
    refine then_n (hK11 _ _ ?_)
    clear hK11
    refine wp_seq_k (fun K39 hK39 => ?_)
    -- region 9
    refine region_in ?_
    refine W_v rfl rfl (V_mov rfl l3_15) ?_
    refine W_v rfl rfl (V_asg rfl (et rfl)) ?_
    refine W_end ?_
    refine gen_Q (fun A40 hA40 => ?_)
    have hsz40 : SzN A40 44 := by rw [hA40]; infer_instance
    have hdf40 : A40.defers = [] := by rw [hA40]; simp only [df_put]; exact hdf15
    have l2_40 := lookE hA40 2 (et rfl)
    clear hA40 hsz15 hdf15 l1_15 l3_15 l4_15 l17_15
    have hS41 : St w NoX [c5_12] w12 := hS12.sel [1] (by decide) rfl
    refine then_n (hK39 _ _ ?_)
    clear hK39
    refine wp_ret ?_
    refine ret_in (results_1 Try.results50 (rv_tmp l2_40)) hdf40 ?_
    -- leaf F
    exact ⟨_, _, _, rfl, hB, hrf.done (by omega), (hS41.fin1 0 rfl (hc5_12))⟩

set_option maxHeartbeats 4000000 in
theorem qLv_c {ov : Value} {O : List Ob} {rv : Value} {rs : List Int} {w : World} (h_ov : Ro w NoX (rl 2 obC ov O)) (n_ov : Ro w NoX (nst O)) (h_rv : Ro w NoX (il .i64 rv rs)) (hsm : SM (O.map ab)) :
    Calls Try.prog 18 #[.agg #[ov, rv]] w fun e w' => ∃ v, e = .returned (.tuple #[v, .int .i64 (ckG (O.map ab) rs).2]) ∧ St w NoX [io .i64 (v) (lvT (O.map ab) rs)] w' := by
  refine calls_in 34 Try.func18 rfl rfl (by simp) (fun A0 hsz0 hdf0 hargs => ?_)
  have l0_0 := hargs 0 (.agg #[ov, rv]) rfl
  clear hargs; replace hsz0 : SzN A0 34 := ⟨hsz0⟩
  have hS := St.nil w
  have bh_ov := SlN.le (sl_SlN h_ov.at)
  have bh_rv := SlN.le (sl_SlN h_rv.at)
  refine wp_seq_k (fun K1 hK1 => ?_)
  -- region 0
  refine region_in ?_
  refine W_boxS (zs := #[ov, rv]) hS rfl rfl rfl l0_0 (by rfl) (fun g2 w2 c2 hc2 hS2 => ?_)
  replace hS2 : St w NoX [c2] w2 := hS2
  refine W_v rfl rfl (V_asg rfl rfl) ?_
  refine W_v rfl rfl (V_asg rfl rfl) ?_
  refine W_end ?_
  refine gen_Q (fun A3 hA3 => ?_)
  have hsz3 : SzN A3 34 := by rw [hA3]; infer_instance
  have hdf3 : A3.defers = [] := by rw [hA3]; simp only [df_put]; exact hdf0
  have l1_3 := lookE hA3 1 (es rfl (es rfl (et rfl)))
  clear hA3 hsz0 hdf0 l0_0
  refine then_n (hK1 _ _ ?_)
  clear hK1
  refine wp_seq_k (fun K4 hK4 => ?_)
  -- region 1
  refine region_in ?_
  refine W_r rfl rfl (VR_ldA rfl l1_3 (hS2.obj 0 rfl hc2) Try.underlying25 rfl (by kernel_rfl)) ?_
  refine W_call rfl rfl rfl Try.func15 (by kernel_rfl) rfl (args1 (et rfl)) (qCk_c (hS2.roC h_ov) (hS2.roC n_ov) (hS2.roC h_rv) ) ?_
  rintro _ w5 ⟨rfl, hP5⟩
  refine ⟨_, rfl, ?_⟩
  have hS5 := hS2.join hP5
  replace hS5 : St w NoX [c2] w5 := hS5
  refine W_v rfl rfl (V_mov rfl (et rfl)) ?_
  refine W_v rfl rfl (V_ext (v := .int .i64 ((ckG (O.map ab) rs).1)) rfl (et rfl) rfl) ?_
  refine W_v rfl rfl (V_ext (v := .int .i64 ((ckG (O.map ab) rs).2)) rfl (es rfl (et rfl)) rfl) ?_
  refine W_v rfl rfl (V_asg rfl (es rfl (et rfl))) ?_
  refine W_v rfl rfl (V_asg rfl (es rfl (et rfl))) ?_
  refine W_end ?_
  refine gen_Q (fun A6 hA6 => ?_)
  have hsz6 : SzN A6 34 := by rw [hA6]; infer_instance
  have hdf6 : A6.defers = [] := by rw [hA6]; simp only [df_put]; exact hdf3
  have l1_6 := lookE hA6 1 (es rfl (es rfl (es rfl (es rfl (es rfl (es rfl (es rfl l1_3)))))))
  have l5_6 := lookE hA6 5 (et rfl)
  clear hA6 hsz3 hdf3 l1_3
  refine then_n (hK4 _ _ ?_)
  clear hK4
  refine wp_seq_k (fun K7 hK7 => ?_)
  refine wp_seq_k (fun K8 hK8 => ?_)
  -- region 2
  refine region_in ?_
  refine W_v rfl rfl (V_mov rfl l5_6) ?_
  refine W_v rfl rfl (V_neq rfl (et rfl) rfl) ?_
  refine W_end ?_
  refine gen_Q (fun A9 hA9 => ?_)
  have hsz9 : SzN A9 34 := by rw [hA9]; infer_instance
  have hdf9 : A9.defers = [] := by rw [hA9]; simp only [df_put]; exact hdf6
  have l1_9 := lookE hA9 1 (es rfl (es rfl l1_6))
  have l5_9 := lookE hA9 5 (es rfl (es rfl l5_6))
  have l15_9 := lookE hA9 15 (et rfl)
  clear hA9 hsz6 hdf6 l1_6 l5_6
  refine then_n (hK8 _ _ ?_)
  clear hK8
  refine cond_dec l15_9 (fun c10 => ?_) (fun c10 => ?_)
  · skip
    refine wp_seq_k (fun K11 hK11 => ?_)
    -- region 3
    refine region_in ?_
    refine W_v rfl rfl (V_mov rfl l5_9) ?_
    refine W_v rfl rfl (V_asg rfl rfl) ?_
    refine W_v rfl rfl (V_asg rfl (es rfl (et rfl))) ?_
    refine W_end ?_
    refine gen_Q (fun A12 hA12 => ?_)
    have hsz12 : SzN A12 34 := by rw [hA12]; infer_instance
    have hdf12 : A12.defers = [] := by rw [hA12]; simp only [df_put]; exact hdf9
    have l2_12 := lookE hA12 2 (es rfl (et rfl))
    have l3_12 := lookE hA12 3 (et rfl)
    clear hA12 hsz9 hdf9 l1_9 l5_9 l15_9
    have hS13 : St w NoX [] w5 := hS5.sel [] (by decide) rfl
    refine then_n (hK11 _ _ ?_)
    clear hK11
    refine wp_ret ?_
    refine then_ret ?_
    refine ret_in (results_2 Try.results18 (rv_tmp l2_12) (rv_tmp l3_12)) hdf12 ?_
    -- leaf T
    obtain ⟨c14, hc14, hS14⟩ := hS13.pnil (s := 1)
    have hne : ¬ (ckG (O.map ab) rs).2 = 0 := by have hc := c10; simpa using hc
    
    exact ⟨_, by first | rfl | rw [ckd_nil], (hS14.fin1 0 rfl (hc14.trans (by rw [lvT_e hne] <;> rfl)))⟩
  · skip
    have hck : (ckG (O.map ab) rs).2 = 0 := by simpa using c10
    have hG := ckG_iff.1 hck
    have ho4 := hG.o4
    rw [List.length_map] at ho4
    refine wp_skip ?_
    refine then_n (hK7 _ _ ?_)
    clear hK7
    refine wp_seq_k (fun K15 hK15 => ?_)
    -- region 4
    refine region_in ?_
    refine W_r rfl rfl (VR_ldA rfl l1_9 (hS5.obj 0 rfl hc2) Try.underlying25 rfl (by kernel_rfl)) ?_
    refine W_call rfl rfl rfl Try.func50 (by kernel_rfl) rfl (args1 (et rfl)) (qlv_c (hS5.roC h_ov) (hS5.roC n_ov) (hS5.roC h_rv) (by first | with_reducible assumption | with_reducible exact hG0) (by first | with_reducible assumption)) ?_
    rintro _ w16 ⟨v_16, B_16, M_16, rfl, hB_16, hW_16, hP16⟩
    refine ⟨_, rfl, ?_⟩
    obtain ⟨c_16, hc_16, hP16⟩ := gen1 hP16
    have hS16 := hS5.join hP16
    replace hS16 : St w NoX [c_16, c2] w16 := hS16
    refine W_v rfl rfl (V_asg rfl (et rfl)) ?_
    refine W_end ?_
    refine gen_Q (fun A17 hA17 => ?_)
    have hsz17 : SzN A17 34 := by rw [hA17]; infer_instance
    have hdf17 : A17.defers = [] := by rw [hA17]; simp only [df_put]; exact hdf9
    have l6_17 := lookE hA17 6 (et rfl)
    clear hA17 hsz9 hdf9 l1_9 l5_9 l15_9
    have hS18 : St w NoX [c_16] w16 := hS16.sel [0] (by decide) rfl
    refine then_n (hK15 _ _ ?_)
    clear hK15
    refine wp_seq_k (fun K19 hK19 => ?_)
    -- region 5
    refine region_in ?_
    refine W_v rfl rfl (V_asg rfl rfl) ?_
    refine W_end ?_
    refine gen_Q (fun A20 hA20 => ?_)
    have hsz20 : SzN A20 34 := by rw [hA20]; infer_instance
    have hdf20 : A20.defers = [] := by rw [hA20]; simp only [df_put]; exact hdf17
    have l6_20 := lookE hA20 6 (es rfl l6_17)
    have l7_20 := lookE hA20 7 (et rfl)
    clear hA20 hsz17 hdf17 l6_17
    refine then_n (hK19 _ _ ?_)
    clear hK19
    refine wp_seq_k (fun K21 hK21 => ?_)
    refine wp_seq_k (fun K22 hK22 => ?_)
    -- region 6
    refine region_in ?_
    refine W_v rfl rfl (V_asg rfl rfl) ?_
    refine W_end ?_
    refine gen_Q (fun A23 hA23 => ?_)
    have hsz23 : SzN A23 34 := by rw [hA23]; infer_instance
    have hdf23 : A23.defers = [] := by rw [hA23]; simp only [df_put]; exact hdf20
    have l6_23 := lookE hA23 6 (es rfl l6_20)
    have l7_23 := lookE hA23 7 (es rfl l7_20)
    have l8_23 := lookE hA23 8 (et rfl)
    clear hA23 hsz20 hdf20 l6_20 l7_20
    refine then_n (hK22 _ _ ?_)
    clear hK22
    refine wp_block ?_
    have hBl := hB_16.1
    obtain ⟨c24, hc24, hS24⟩ := hS18.pnil (s := 1)
    -- loop 7
    refine loopX (fun mz A' w' => SzN A' 34 ∧ A'.defers = [] ∧ (∃ (k : Nat) (v : Value), (mz = O.length - k) ∧ (k ≤ O.length) ∧ (EV A' (.tmp 8) = .int .i64 ((k : Int) + 1)) ∧ (EV A' (.tmp 7) = v) ∧ (EV A' (.tmp 6) = EV A23 (.tmp 6)) ∧ (St w NoX [io .i64 v (tgK M_16 k), bo v_16 B_16] w'))) (O.length - 0) ⟨hsz23, hdf23, 0, (.slice none 0 0), rfl, (by omega), ((l8_23).trans (by first | rfl | (simp; done) | (congr 1; omega))), ((l7_23).trans (by first | rfl | (simp; done) | (congr 1; omega))), rfl, (by have q0 : c24 = io .i64 (.slice none 0 0) (tgK M_16 0) := hc24.trans (rfl); have q1 := hc_16; subst q0 q1; exact hS24)⟩ ?_
    clear hS24 hc24 hc_16
    rintro n25 A25 w25 ⟨hsz25, hdf25, k, v, hm25, hk, l8_25, l7_25, u6_25, hS25⟩
    have l6_25 := u6_25.trans l6_23
    obtain ⟨c24_25, c_25, hc24_25, hc_25, hS25⟩ := gen2 hS25
    refine wp_seq_k (fun K26 hK26 => ?_)
    refine wp_seq_k (fun K27 hK27 => ?_)
    -- region 7
    refine region_in ?_
    refine W_v rfl rfl (V_mov rfl l8_25) ?_
    refine W_v rfl rfl (V_mov rfl (es rfl l6_25)) ?_
    refine W_v rfl rfl (V_lenS rfl (et rfl) (ow_at (hS25.chq 1 rfl hc_25)) Try.underlying69) ?_
    refine W_v rfl rfl (V_lss rfl (es rfl (es rfl (et rfl))) (et rfl)) ?_
    refine W_end ?_
    refine gen_Q (fun A28 hA28 => ?_)
    have hsz28 : SzN A28 34 := by rw [hA28]; infer_instance
    have hdf28 : A28.defers = [] := by rw [hA28]; simp only [df_put]; exact hdf25
    have l6_28 := lookE hA28 6 (es rfl (es rfl (es rfl (es rfl l6_25))))
    have l7_28 := lookE hA28 7 (es rfl (es rfl (es rfl (es rfl l7_25))))
    have l8_28 := lookE hA28 8 (es rfl (es rfl (es rfl (es rfl l8_25))))
    have l22_28 := lookE hA28 22 (et rfl)
    clear hA28 hsz25 hdf25 l8_25 l7_25 l6_25
    refine then_n (hK27 _ _ ?_)
    clear hK27
    refine cond_dec l22_28 (fun c29 => ?_) (fun c29 => ?_)
    · skip
      have htl := tgK_len M_16 k
      refine wp_skip ?_
      refine then_n (hK26 _ _ ?_)
      clear hK26
      refine wp_seq_k (fun K30 hK30 => ?_)
      refine wp_block ?_
      refine wp_seq_k (fun K31 hK31 => ?_)
      -- region 9
      refine region_in ?_
      refine W_v rfl rfl (V_mov rfl l6_28) ?_
      refine W_v rfl rfl (V_mov rfl (es rfl l8_28)) ?_
      have k32 : (k + 1) < B_16.length := by first | omega | (simp only [List.length_cons, List.length_nil]; omega) | (simp only [List.length_set]; omega)
      obtain ⟨y32, hy32⟩ := get_some (xs := B_16) (k := (k + 1)) k32
      have hbm := hB_16.at (q := (k : Int) + 1) (by omega) (by simpa using hy32)
      obtain ⟨B32, O32, C32, hv32⟩ := (SlN.blk (ow_at (hS25.chq 1 rfl hc_25)) (by first | omega | (simp only [List.length_cons, List.length_nil]; omega) | (simp only [List.length_set]; omega)))
      refine W_v rfl rfl (V_ixS (off := O32 + (k + 1)) 1 ((k + 1)) rfl (es rfl (et rfl)) (et rfl) hv32 (by omega) k32 Try.underlying69 (by kernel_rfl) (congrArg _ (Nat.mul_one _))) ?_
      refine W_r rfl rfl (VR_ldC rfl (et rfl) ((ow_at (hS25.chq 1 rfl hc_25)).cell hv32 (map_get hy32)) Try.underlying4 rfl) ?_
      refine W_end ?_
      refine gen_Q (fun A33 hA33 => ?_)
      have hsz33 : SzN A33 34 := by rw [hA33]; infer_instance
      have hdf33 : A33.defers = [] := by rw [hA33]; simp only [df_put]; exact hdf28
      have l6_33 := lookE hA33 6 (es rfl (es rfl (es rfl (es rfl l6_28))))
      have l7_33 := lookE hA33 7 (es rfl (es rfl (es rfl (es rfl l7_28))))
      have l8_33 := lookE hA33 8 (es rfl (es rfl (es rfl (es rfl l8_28))))
      have l28_33 := lookE hA33 28 (et rfl)
      clear hA33 hsz28 hdf28 l6_28 l7_28 l8_28 l22_28
      refine then_n (hK31 _ _ ?_)
      clear hK31
      refine cond_b l28_33 (fun c34 => ?_) (fun c34 => ?_)
      · skip
        -- region 10
        refine region_in ?_
        refine W_v rfl rfl (V_mov rfl l7_33) ?_
        refine W_v rfl rfl (V_mov rfl (es rfl l8_33)) ?_
        have hll35 : [((k : Int) + 1)].length = 1 := rfl
        refine W_litS (vs := [.int .i64 (((k : Int) + 1))]) (xs := ([((k : Int) + 1)].map (Value.int .i64))) 1 hS25 rfl rfl rfl (parts1 (et rfl)) rfl Try.underlying23 (by kernel_rfl) (by decide) (by intro v hv; simp only [List.mem_cons, List.not_mem_nil, or_false] at hv; rcases hv with rfl <;> rfl) (by rfl) (fun g35 w35 c35 hc35 hS35 => ?_)
        replace hc35 : c35 = io .i64 (.slice (some ⟨g35, 0, none⟩) 1 1) [((k : Int) + 1)] := hc35
        replace hS35 : St w NoX [c35, c24_25, c_25] w35 := hS35
        refine W_appS 1 1 hS35 rfl hc24_25 rfl rfl rfl (es rfl (es rfl (et rfl))) (et rfl) Try.underlying23 Try.underlying23 (z := .int .i64 0) (bytes := 8) (by kernel_rfl) rfl (by decide) (ow_at (hS35.chq 0 rfl hc35)) ones_i (by first | omega | (simp; done) | (simp; omega)) (by first | omega | (simp; done) | (simp; omega)) (fun v36 w36 c36 hc36 hS36 => ?_)
        replace hc36 : c36 = io .i64 v36 ((tgK M_16 k) ++ [((k : Int) + 1)]) := hc36.trans (app_eq (by simp))
        replace hS36 : St w NoX [c35, c36, c_25] w36 := hS36
        refine W_v rfl rfl (V_asg rfl (et rfl)) ?_
        refine W_end ?_
        refine gen_Q (fun A37 hA37 => ?_)
        have hsz37 : SzN A37 34 := by rw [hA37]; infer_instance
        have hdf37 : A37.defers = [] := by rw [hA37]; simp only [df_put]; exact hdf33
        have l6_37 := lookE hA37 6 (es rfl (es rfl (es rfl (es rfl (es rfl l6_33)))))
        have l7_37 := lookE hA37 7 (et rfl)
        have l8_37 := lookE hA37 8 (es rfl (es rfl (es rfl (es rfl (es rfl l8_33)))))
        clear hA37 hsz33 hdf33 l6_33 l7_33 l8_33 l28_33
        have hS38 : St w NoX [c36, c_25] w36 := hS36.sel [1, 2] (by decide) rfl
        refine inb_n ?_
        refine then_n (hK30 _ _ ?_)
        clear hK30
        -- region 8
        refine region_in ?_
        refine W_v rfl rfl (V_mov rfl l8_37) ?_
        refine W_v rfl rfl (V_add rfl (et rfl) rfl (by omega) (by omega)) ?_
        refine W_v rfl rfl (V_asg rfl (et rfl)) ?_
        refine W_end ?_
        refine gen_Q (fun A39 hA39 => ?_)
        have hsz39 : SzN A39 34 := by rw [hA39]; infer_instance
        have hdf39 : A39.defers = [] := by rw [hA39]; simp only [df_put]; exact hdf37
        have l6_39 := lookE hA39 6 (es rfl (es rfl (es rfl l6_37)))
        have l7_39 := lookE hA39 7 (es rfl (es rfl (es rfl l7_37)))
        have l8_39 := lookE hA39 8 (et rfl)
        clear hA39 hsz37 hdf37 l6_37 l7_37 l8_37
        refine then_n ⟨O.length - (k + 1), by simp only [hm25]; omega, hsz39, hdf39, (k + 1), v36, rfl, (by omega), ((l8_39).trans (by first | rfl | (simp; done) | (congr 1; omega))), ((l7_39).trans (by first | rfl | (simp; done) | (congr 1; omega))), ((l6_39).trans l6_23.symm), (by have q0 : c36 = io .i64 v36 (tgK M_16 (k + 1)) := hc36.trans ((congrArg (io .i64 _) (tgK_in (by have q := hbm; rw [c34] at q; have q2 := of_decide_eq_true q.symm; simpa using q2)))); have q1 := hc_25; subst q0 q1; exact hS38)⟩
      · skip
        refine wp_skip ?_
        refine inb_n ?_
        refine then_n (hK30 _ _ ?_)
        clear hK30
        -- region 8
        refine region_in ?_
        refine W_v rfl rfl (V_mov rfl l8_33) ?_
        refine W_v rfl rfl (V_add rfl (et rfl) rfl (by omega) (by omega)) ?_
        refine W_v rfl rfl (V_asg rfl (et rfl)) ?_
        refine W_end ?_
        refine gen_Q (fun A40 hA40 => ?_)
        have hsz40 : SzN A40 34 := by rw [hA40]; infer_instance
        have hdf40 : A40.defers = [] := by rw [hA40]; simp only [df_put]; exact hdf33
        have l6_40 := lookE hA40 6 (es rfl (es rfl (es rfl l6_33)))
        have l7_40 := lookE hA40 7 (es rfl (es rfl (es rfl l7_33)))
        have l8_40 := lookE hA40 8 (et rfl)
        clear hA40 hsz33 hdf33 l6_33 l7_33 l8_33 l28_33
        refine then_n ⟨O.length - (k + 1), by simp only [hm25]; omega, hsz40, hdf40, (k + 1), v, rfl, (by omega), ((l8_40).trans (by first | rfl | (simp; done) | (congr 1; omega))), ((l7_40).trans (by first | rfl | (simp; done) | (congr 1; omega))), ((l6_40).trans l6_23.symm), (by have q0 : c24_25 = io .i64 v (tgK M_16 (k + 1)) := hc24_25.trans ((congrArg (io .i64 _) (tgK_out (fun q => by rw [decide_eq_true (by simpa using q)] at hbm; have hc := c34; rw [hbm] at hc; cases hc)))); have q1 := hc_25; subst q0 q1; exact hS25)⟩
    · skip
      refine wp_exit ?_
      refine then_exit ?_
      refine then_exit ?_
      refine inb_hit ?_
      refine then_n (hK21 _ _ ?_)
      clear hK21
      refine wp_seq_k (fun K41 hK41 => ?_)
      -- region 11
      refine region_in ?_
      refine W_v rfl rfl (V_mov rfl l7_28) ?_
      refine W_v rfl rfl (V_asg rfl (et rfl)) ?_
      refine W_v rfl rfl (V_asg rfl rfl) ?_
      refine W_end ?_
      refine gen_Q (fun A42 hA42 => ?_)
      have hsz42 : SzN A42 34 := by rw [hA42]; infer_instance
      have hdf42 : A42.defers = [] := by rw [hA42]; simp only [df_put]; exact hdf28
      have l2_42 := lookE hA42 2 (es rfl (et rfl))
      have l3_42 := lookE hA42 3 (et rfl)
      clear hA42 hsz28 hdf28 l6_28 l7_28 l8_28 l22_28
      have hS43 : St w NoX [c24_25] w25 := hS25.sel [0] (by decide) rfl
      refine then_n (hK41 _ _ ?_)
      clear hK41
      refine wp_ret ?_
      refine ret_in (results_2 Try.results18 (rv_tmp l2_42) (rv_tmp l3_42)) hdf42 ?_
      -- leaf FF
      rw [hck]
      exact ⟨_, rfl, (hS43.fin1 0 rfl (hc24_25.trans (by rw [lvT_k hck, ← (lvL_eq hG hW_16).2, List.length_map, show k = O.length by omega])))⟩

set_option maxHeartbeats 4000000 in
theorem qWd_c {ov : Value} {O : List Ob} {rv : Value} {rs : List Int} {w : World} (h_ov : Ro w NoX (rl 2 obC ov O)) (n_ov : Ro w NoX (nst O)) (h_rv : Ro w NoX (il .i64 rv rs)) (hsm : SM (O.map ab)) :
    Calls Try.prog 20 #[.agg #[ov, rv]] w fun e w' => e = .returned (.tuple #[.int .i64 (wdN (O.map ab) rs), .int .i64 (ckG (O.map ab) rs).2]) ∧ St w NoX [] w' := by
  have hll := lvT_len (O.map ab) rs
  refine calls_in 41 Try.func20 rfl rfl (by simp) (fun A0 hsz0 hdf0 hargs => ?_)
  have l0_0 := hargs 0 (.agg #[ov, rv]) rfl
  clear hargs; replace hsz0 : SzN A0 41 := ⟨hsz0⟩
  have hS := St.nil w
  have bh_ov := SlN.le (sl_SlN h_ov.at)
  have bh_rv := SlN.le (sl_SlN h_rv.at)
  refine wp_seq_k (fun K1 hK1 => ?_)
  -- region 0
  refine region_in ?_
  refine W_boxS (zs := #[ov, rv]) hS rfl rfl rfl l0_0 (by rfl) (fun g2 w2 c2 hc2 hS2 => ?_)
  replace hS2 : St w NoX [c2] w2 := hS2
  refine W_v rfl rfl (V_asg rfl rfl) ?_
  refine W_v rfl rfl (V_asg rfl rfl) ?_
  refine W_end ?_
  refine gen_Q (fun A3 hA3 => ?_)
  have hsz3 : SzN A3 41 := by rw [hA3]; infer_instance
  have hdf3 : A3.defers = [] := by rw [hA3]; simp only [df_put]; exact hdf0
  have l1_3 := lookE hA3 1 (es rfl (es rfl (et rfl)))
  clear hA3 hsz0 hdf0 l0_0
  refine then_n (hK1 _ _ ?_)
  clear hK1
  refine wp_seq_k (fun K4 hK4 => ?_)
  -- region 1
  refine region_in ?_
  refine W_r rfl rfl (VR_ldA rfl l1_3 (hS2.obj 0 rfl hc2) Try.underlying25 rfl (by kernel_rfl)) ?_
  refine W_call rfl rfl rfl Try.func18 (by kernel_rfl) rfl (args1 (et rfl)) (qLv_c (hS2.roC h_ov) (hS2.roC n_ov) (hS2.roC h_rv) (by first | with_reducible assumption)) ?_
  rintro _ w5 ⟨v_5, rfl, hP5⟩
  refine ⟨_, rfl, ?_⟩
  obtain ⟨c_5, hc_5, hP5⟩ := gen1 hP5
  have hS5 := hS2.join hP5
  replace hS5 : St w NoX [c_5, c2] w5 := hS5
  refine W_v rfl rfl (V_mov rfl (et rfl)) ?_
  refine W_v rfl rfl (V_ext (v := v_5) rfl (et rfl) rfl) ?_
  refine W_v rfl rfl (V_ext (v := .int .i64 ((ckG (O.map ab) rs).2)) rfl (es rfl (et rfl)) rfl) ?_
  refine W_v rfl rfl (V_asg rfl (es rfl (et rfl))) ?_
  refine W_v rfl rfl (V_asg rfl (es rfl (et rfl))) ?_
  refine W_end ?_
  refine gen_Q (fun A6 hA6 => ?_)
  have hsz6 : SzN A6 41 := by rw [hA6]; infer_instance
  have hdf6 : A6.defers = [] := by rw [hA6]; simp only [df_put]; exact hdf3
  have l1_6 := lookE hA6 1 (es rfl (es rfl (es rfl (es rfl (es rfl (es rfl (es rfl l1_3)))))))
  have l4_6 := lookE hA6 4 (es rfl (et rfl))
  have l5_6 := lookE hA6 5 (et rfl)
  clear hA6 hsz3 hdf3 l1_3
  refine then_n (hK4 _ _ ?_)
  clear hK4
  refine wp_seq_k (fun K7 hK7 => ?_)
  -- region 2
  refine region_in ?_
  refine W_v rfl rfl (V_asg rfl rfl) ?_
  refine W_end ?_
  refine gen_Q (fun A8 hA8 => ?_)
  have hsz8 : SzN A8 41 := by rw [hA8]; infer_instance
  have hdf8 : A8.defers = [] := by rw [hA8]; simp only [df_put]; exact hdf6
  have l1_8 := lookE hA8 1 (es rfl l1_6)
  have l4_8 := lookE hA8 4 (es rfl l4_6)
  have l5_8 := lookE hA8 5 (es rfl l5_6)
  have l6_8 := lookE hA8 6 (et rfl)
  clear hA8 hsz6 hdf6 l1_6 l4_6 l5_6
  refine then_n (hK7 _ _ ?_)
  clear hK7
  refine wp_seq_k (fun K9 hK9 => ?_)
  refine wp_seq_k (fun K10 hK10 => ?_)
  -- region 3
  refine region_in ?_
  refine W_v rfl rfl (V_asg rfl rfl) ?_
  refine W_end ?_
  refine gen_Q (fun A11 hA11 => ?_)
  have hsz11 : SzN A11 41 := by rw [hA11]; infer_instance
  have hdf11 : A11.defers = [] := by rw [hA11]; simp only [df_put]; exact hdf8
  have l1_11 := lookE hA11 1 (es rfl l1_8)
  have l4_11 := lookE hA11 4 (es rfl l4_8)
  have l5_11 := lookE hA11 5 (es rfl l5_8)
  have l6_11 := lookE hA11 6 (es rfl l6_8)
  have l7_11 := lookE hA11 7 (et rfl)
  clear hA11 hsz8 hdf8 l1_8 l4_8 l5_8 l6_8
  refine then_n (hK10 _ _ ?_)
  clear hK10
  refine wp_block ?_
  -- loop 4
  refine loopX (fun mz A' w' => SzN A' 41 ∧ A'.defers = [] ∧ (∃ (k : Nat), (mz = (lvT (O.map ab) rs).length - k) ∧ (k ≤ (lvT (O.map ab) rs).length) ∧ (WB (O.map ab) ((lvT (O.map ab) rs).take k)) ∧ (EV A' (.tmp 7) = .int .i64 (k : Int)) ∧ (EV A' (.tmp 6) = .int .i64 ((((lvT (O.map ab) rs).take k).map (wd1 (O.map ab))).sum)) ∧ (EV A' (.tmp 1) = EV A11 (.tmp 1)) ∧ (EV A' (.tmp 4) = EV A11 (.tmp 4)) ∧ (EV A' (.tmp 5) = EV A11 (.tmp 5)) ∧ (St w NoX [io .i64 v_5 (lvT (O.map ab) rs), bx g2 25 #[ov, rv]] w'))) ((lvT (O.map ab) rs).length - 0) ⟨hsz11, hdf11, 0, rfl, (by omega), (by unfold WB; simp), ((l7_11).trans (by first | rfl | (simp; done) | (congr 1; omega))), ((l6_11).trans (by first | rfl | (simp; done) | (congr 1; omega))), rfl, rfl, rfl, (by subst hc_5 hc2; exact hS5)⟩ ?_
  clear hS5 hc_5 hc2
  rintro n12 A12 w12 ⟨hsz12, hdf12, k, hm12, hk, hwb, l7_12, l6_12, u1_12, u4_12, u5_12, hS12⟩
  have l1_12 := u1_12.trans l1_11
  have l4_12 := u4_12.trans l4_11
  have l5_12 := u5_12.trans l5_11
  obtain ⟨c_12, c2_12, hc_12, hc2_12, hS12⟩ := gen2 hS12
  refine wp_seq_k (fun K13 hK13 => ?_)
  refine wp_seq_k (fun K14 hK14 => ?_)
  -- region 4
  refine region_in ?_
  refine W_v rfl rfl (V_mov rfl l7_12) ?_
  refine W_v rfl rfl (V_mov rfl (es rfl l4_12)) ?_
  refine W_v rfl rfl (V_lenS rfl (et rfl) (ow_at (hS12.chq 0 rfl hc_12)) Try.underlying23) ?_
  refine W_v rfl rfl (V_lss rfl (es rfl (es rfl (et rfl))) (et rfl)) ?_
  refine W_end ?_
  refine gen_Q (fun A15 hA15 => ?_)
  have hsz15 : SzN A15 41 := by rw [hA15]; infer_instance
  have hdf15 : A15.defers = [] := by rw [hA15]; simp only [df_put]; exact hdf12
  have l1_15 := lookE hA15 1 (es rfl (es rfl (es rfl (es rfl l1_12))))
  have l4_15 := lookE hA15 4 (es rfl (es rfl (es rfl (es rfl l4_12))))
  have l5_15 := lookE hA15 5 (es rfl (es rfl (es rfl (es rfl l5_12))))
  have l6_15 := lookE hA15 6 (es rfl (es rfl (es rfl (es rfl l6_12))))
  have l7_15 := lookE hA15 7 (es rfl (es rfl (es rfl (es rfl l7_12))))
  have l17_15 := lookE hA15 17 (et rfl)
  clear hA15 hsz12 hdf12 l7_12 l6_12 l1_12 l4_12 l5_12
  refine then_n (hK14 _ _ ?_)
  clear hK14
  refine cond_dec l17_15 (fun c16 => ?_) (fun c16 => ?_)
  · skip
    have hwb2 := hwb.bd (by rw [List.length_take]; omega)
    refine wp_skip ?_
    refine then_n (hK13 _ _ ?_)
    clear hK13
    refine wp_seq_k (fun K17 hK17 => ?_)
    refine wp_block ?_
    refine wp_seq_k (fun K18 hK18 => ?_)
    -- region 6
    refine region_monoS 10 11 [none, none, none, none, none, none, none, none, none, some (SPv [] (fun _ => fun u l' => ∃ g_, u = .pointer (some ⟨g_, 0, none⟩) ∧ ∃ c_, c_ = bx g_ 40 #[.slice none 0 0, .slice none 0 0] ∧ l' = [c_]) 9)] (by kernel_rfl) (by kernel_rfl) ?_
    refine D_v rfl rfl (V_fa (off' := 0) rfl l1_15 Try.underlying25 rfl (by decide +kernel) rfl) rfl rfl ?_
    refine D_r rfl rfl (by kernel_rfl) (fun sx hx hF => (VR_ldC rfl (et rfl) (cell_box (v := ov) ((hS12.grow hx).obj 1 rfl hc2_12) rfl) Try.underlying22 rfl)) rfl rfl ?_
    refine D_v rfl rfl (V_mov rfl (es rfl (es rfl l4_15))) rfl rfl ?_
    refine D_v rfl rfl (V_mov rfl (es rfl (es rfl (es rfl l7_15)))) rfl rfl ?_
    have k19 : k < (lvT (O.map ab) rs).length := by first | omega | (simp only [List.length_cons, List.length_nil]; omega) | (simp only [List.length_set]; omega)
    obtain ⟨y19, hy19⟩ := get_some (xs := (lvT (O.map ab) rs)) (k := k) k19
    have hxr := lvT_rng (List.mem_of_getElem? hy19)
    rw [List.length_map] at hxr
    obtain ⟨B19, O19, C19, hv19⟩ := (SlN.blk (ow_at (hS12.chq 0 rfl hc_12)) (by first | omega | (simp only [List.length_cons, List.length_nil]; omega) | (simp only [List.length_set]; omega)))
    refine D_v rfl rfl (V_ixS (off := O19 + k) 1 (k) rfl (es rfl (et rfl)) (et rfl) hv19 (by omega) k19 Try.underlying23 (by kernel_rfl) (congrArg _ (Nat.mul_one _))) rfl rfl ?_
    refine D_r rfl rfl (by kernel_rfl) (fun sx hx hF => (VR_ldC rfl (et rfl) ((ow_at ((hS12.grow hx).chq 0 rfl hc_12)).cell hv19 (map_get hy19)) Try.underlying3 rfl)) rfl rfl ?_
    refine D_v rfl rfl (V_sb rfl (et rfl) rfl (by omega) (by omega)) rfl rfl ?_
    have k20 : (y19 - 1).toNat < O.length := by first | omega | (simp only [List.length_cons, List.length_nil]; omega) | (simp only [List.length_set]; omega)
    obtain ⟨y20, hy20⟩ := get_some (xs := O) (k := (y19 - 1).toNat) k20
    have hsy := hsm.at hy20
    obtain ⟨B20, O20, C20, hv20⟩ := (SlN.blk (sl_SlN h_ov.at) (by first | omega | (simp only [List.length_cons, List.length_nil]; omega) | (simp only [List.length_set]; omega)))
    refine D_v rfl rfl (V_ixS (off := O20 + ((y19 - 1).toNat) * 2) 2 ((y19 - 1).toNat) rfl (es rfl (es rfl (es rfl (es rfl (es rfl (et rfl)))))) (et rfl) hv20 (by omega) k20 Try.underlying22 (by kernel_rfl) rfl) rfl rfl ?_
    have fn21 : Ro w NoX (il .i64 y20.1.1 y20.1.2) := nst_ro1 n_ov hy20
    have bfn21 := SlN.le (sl_SlN (hS12.ro fn21))
    have fn22 : Ro w NoX (il .u64 y20.2.1 y20.2.2) := nst_ro2 n_ov hy20
    have bfn22 := SlN.le (sl_SlN (hS12.ro fn22))
    refine D_r rfl rfl (by kernel_rfl) (fun sx hx hF => (VR_ldR (ys := obC y20) rfl (et rfl) (SlN.row obC_len (sl_SlN ((hS12.grow hx).ro h_ov)) hv20 hy20 rfl) Try.underlying40 rfl (by kernel_rfl))) rfl rfl ?_
    refine D_lay (ts := []) (vs := []) (C0 := fun _ => fun u l' => ∃ g_, u = .pointer (some ⟨g_, 0, none⟩) ∧ ∃ c_, c_ = bx g_ 40 #[.slice none 0 0, .slice none 0 0] ∧ l' = [c_]) (C := fun u l' => ∃ g_, u = .pointer (some ⟨g_, 0, none⟩) ∧ ∃ c_, c_ = bx g_ 40 #[.slice none 0 0, .slice none 0 0] ∧ l' = [c_]) rfl rfl rfl rfl rfl rfl (fun sx hx hF => lay_alloc (z := .agg #[.slice none 0 0, .slice none 0 0]) rfl (by kernel_rfl) (by rfl)) (fun u23 l23 hu23 => ?_)
    obtain ⟨g23, rfl, c23, hc23, hl23⟩ := hu23
    refine D_eff rfl ?_
    refine ZS_eff hS12 rfl rfl (fun s24 hJ24 hL24 hF24 => ?_)
    obtain ⟨ll23, ws23, we23, ⟨g23q, hq23, c23r, hc23r, hl23r⟩, hm23, k23, e23⟩ := L.all_get hF24; cases hq23; subst hl23r
    replace hJ24 := hJ24.add hL24 (i := 9) rfl hm23 k23 e23
    have hS24 := hJ24.st; clear hF24 hJ24 hL24
    generalize s24.1 = w24 at *
    replace hS24 : St w NoX [c23r, c_12, c2_12] w24 := hS24
    refine W_stAS 0 hS24 rfl hc23r rfl rfl rfl (et rfl) (es rfl (et rfl)) (by simp only [List.all_toArray, List.all_cons, List.all_nil, obC, SlN_one (sl_SlN fn21.at), SlN_one (sl_SlN fn22.at)] <;> rfl) (by rfl) (by kernel_rfl) (fun w25 c25 hc25 hS25 => ?_)
    replace hS25 : St w NoX [c25, c_12, c2_12] w25 := hS25
    refine W_end ?_
    refine Qo_normal ?_
    refine gen_Q (fun A26 hA26 => ?_)
    have hsz26 : SzN A26 41 := by rw [hA26]; infer_instance
    have hdf26 : A26.defers = [] := by rw [hA26]; simp only [df_put]; exact hdf15
    have l1_26 := lookE hA26 1 (es rfl (es rfl (es rfl (es rfl (es rfl (es rfl (es rfl (es rfl (es rfl (es rfl l1_15))))))))))
    have l4_26 := lookE hA26 4 (es rfl (es rfl (es rfl (es rfl (es rfl (es rfl (es rfl (es rfl (es rfl (es rfl l4_15))))))))))
    have l5_26 := lookE hA26 5 (es rfl (es rfl (es rfl (es rfl (es rfl (es rfl (es rfl (es rfl (es rfl (es rfl l5_15))))))))))
    have l6_26 := lookE hA26 6 (es rfl (es rfl (es rfl (es rfl (es rfl (es rfl (es rfl (es rfl (es rfl (es rfl l6_15))))))))))
    have l7_26 := lookE hA26 7 (es rfl (es rfl (es rfl (es rfl (es rfl (es rfl (es rfl (es rfl (es rfl (es rfl l7_15))))))))))
    have l8_26 := lookE hA26 8 (et rfl)
    clear hA26 hsz15 hdf15 l1_15 l4_15 l5_15 l6_15 l7_15 l17_15
    refine then_n (hK18 _ _ ?_)
    clear hK18
    -- region 7
    refine region_in ?_
    refine W_v rfl rfl (V_mov rfl l6_26) ?_
    refine W_v rfl rfl (V_add rfl (et rfl) rfl (by omega) (by omega)) ?_
    refine W_v rfl rfl (V_fa (off' := 0) rfl (es rfl (es rfl l8_26)) Try.underlying40 rfl (by decide +kernel) rfl) ?_
    refine W_r rfl rfl (VR_ldC rfl (et rfl) (cell_box (v := y20.1.1) (hS25.obj 0 rfl hc25) rfl) Try.underlying23 rfl) ?_
    refine W_v rfl rfl (V_lenS rfl (et rfl) (sl_SlN fn21.at) Try.underlying23) ?_
    refine W_v rfl rfl (V_add rfl (es rfl (es rfl (es rfl (et rfl)))) (et rfl) (by omega) (by omega)) ?_
    refine W_v rfl rfl (V_fa (off' := 1) rfl (es rfl (es rfl (es rfl (es rfl (es rfl (es rfl l8_26)))))) Try.underlying40 rfl (by decide +kernel) rfl) ?_
    refine W_r rfl rfl (VR_ldC rfl (et rfl) (cell_box (v := y20.2.1) (hS25.obj 0 rfl hc25) rfl) Try.underlying38 rfl) ?_
    refine W_v rfl rfl (V_lenS rfl (et rfl) (sl_SlN fn22.at) Try.underlying38) ?_
    refine W_v rfl rfl (V_add rfl (es rfl (es rfl (es rfl (et rfl)))) (et rfl) (by omega) (by omega)) ?_
    refine W_v rfl rfl (V_asg rfl (et rfl)) ?_
    refine W_end ?_
    refine gen_Q (fun A27 hA27 => ?_)
    have hsz27 : SzN A27 41 := by rw [hA27]; infer_instance
    have hdf27 : A27.defers = [] := by rw [hA27]; simp only [df_put]; exact hdf26
    have l1_27 := lookE hA27 1 (es rfl (es rfl (es rfl (es rfl (es rfl (es rfl (es rfl (es rfl (es rfl (es rfl (es rfl l1_26)))))))))))
    have l4_27 := lookE hA27 4 (es rfl (es rfl (es rfl (es rfl (es rfl (es rfl (es rfl (es rfl (es rfl (es rfl (es rfl l4_26)))))))))))
    have l5_27 := lookE hA27 5 (es rfl (es rfl (es rfl (es rfl (es rfl (es rfl (es rfl (es rfl (es rfl (es rfl (es rfl l5_26)))))))))))
    have l6_27 := lookE hA27 6 (et rfl)
    have l7_27 := lookE hA27 7 (es rfl (es rfl (es rfl (es rfl (es rfl (es rfl (es rfl (es rfl (es rfl (es rfl (es rfl l7_26)))))))))))
    clear hA27 hsz26 hdf26 l1_26 l4_26 l5_26 l6_26 l7_26 l8_26
    have hS28 : St w NoX [c_12, c2_12] w25 := hS25.sel [1, 2] (by decide) rfl
    refine inb_n ?_
    refine then_n (hK17 _ _ ?_)
    clear hK17
    -- region 5
    refine region_in ?_
    refine W_v rfl rfl (V_mov rfl l7_27) ?_
    refine W_v rfl rfl (V_add rfl (et rfl) rfl (by omega) (by omega)) ?_
    refine W_v rfl rfl (V_asg rfl (et rfl)) ?_
    refine W_end ?_
    refine gen_Q (fun A29 hA29 => ?_)
    have hsz29 : SzN A29 41 := by rw [hA29]; infer_instance
    have hdf29 : A29.defers = [] := by rw [hA29]; simp only [df_put]; exact hdf27
    have l1_29 := lookE hA29 1 (es rfl (es rfl (es rfl l1_27)))
    have l4_29 := lookE hA29 4 (es rfl (es rfl (es rfl l4_27)))
    have l5_29 := lookE hA29 5 (es rfl (es rfl (es rfl l5_27)))
    have l6_29 := lookE hA29 6 (es rfl (es rfl (es rfl l6_27)))
    have l7_29 := lookE hA29 7 (et rfl)
    clear hA29 hsz27 hdf27 l1_27 l4_27 l5_27 l6_27 l7_27
    refine then_n ⟨(lvT (O.map ab) rs).length - (k + 1), by simp only [hm12]; omega, hsz29, hdf29, (k + 1), rfl, (by omega), (by rw [tk_snoc hy19]; exact hwb.snoc hy20 hsm), ((l7_29).trans (by first | rfl | (simp; done) | (congr 1; omega))), ((l6_29).trans ((by rw [tk_snoc hy19, wd_snoc hy20]; congr 1; omega))), ((l1_29).trans l1_11.symm), ((l4_29).trans l4_11.symm), ((l5_29).trans l5_11.symm), (by subst hc_12 hc2_12; exact hS28)⟩
  · skip
    refine wp_exit ?_
    refine then_exit ?_
    refine then_exit ?_
    refine inb_hit ?_
    refine then_n (hK9 _ _ ?_)
    clear hK9
    refine wp_seq_k (fun K30 hK30 => ?_)
    -- region 8
    refine region_in ?_
    refine W_v rfl rfl (V_mov rfl l6_15) ?_
    refine W_v rfl rfl (V_mov rfl (es rfl l5_15)) ?_
    refine W_v rfl rfl (V_asg rfl (es rfl (et rfl))) ?_
    refine W_v rfl rfl (V_asg rfl (es rfl (et rfl))) ?_
    refine W_end ?_
    refine gen_Q (fun A31 hA31 => ?_)
    have hsz31 : SzN A31 41 := by rw [hA31]; infer_instance
    have hdf31 : A31.defers = [] := by rw [hA31]; simp only [df_put]; exact hdf15
    have l2_31 := lookE hA31 2 (es rfl (et rfl))
    have l3_31 := lookE hA31 3 (et rfl)
    clear hA31 hsz15 hdf15 l1_15 l4_15 l5_15 l6_15 l7_15 l17_15
    have hS32 : St w NoX [] w12 := hS12.sel [] (by decide) rfl
    refine then_n (hK30 _ _ ?_)
    clear hK30
    refine wp_ret ?_
    refine ret_in (results_2 Try.results20 (rv_tmp l2_31) (rv_tmp l3_31)) hdf31 ?_
    -- leaf F
    have e : (lvT (O.map ab) rs).take k = (lvT (O.map ab) rs) := List.take_of_length_le (by omega)
    exact ⟨by rw [wdN_T, e], hS32.fin0⟩

end Go.Proofs.Ytdilbnmaihmgnaa