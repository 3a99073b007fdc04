import Derived.Test.YtodbfgfbkgpooaaDoorProg
import Derived.Test.YtodbfgfbkgpooaaDoorRa5
import Derived.Test.YtodbfgfbkgpooaaDoorPl12
namespace Go.Proofs.YtodbfgfbkgpooaaDoor
open Go.RowKit Go.Own


set_option maxHeartbeats 4000000 in
theorem kOld_c {lv : Value} {lo : List Int} {yv : Value} {yo : List Int} {c : Int} {gT0 : Nat} {w : World} (h_lv : Ro w NoX (il .i64 lv lo)) (h_yv : Ro w NoX (il .i64 yv yo)) (hG0 : Ro w NoX (bx 0 gT0 #[.int .i64 (-1), .int .i64 (-1)]))  :
    Calls Tryd.prog 15 #[.agg #[lv, yv], .int .i64 c] w fun e w' => ∃ v, e = .returned (.tuple #[v, .int .i64 (plE lo yo c)]) ∧ St w NoX [io .i64 (v) (olT lo yo c)] w' := by
  refine calls_inR 37 Tryd.func15 rfl rfl (by simp) (fun A0 hsz0 hdf0 hargs => ?_)
  have l0_0 := hargs 0 (.agg #[lv, yv]) rfl
  have l1_0 := hargs 1 (.int .i64 c) rfl
  clear hargs; replace hsz0 : SzN A0 37 := ⟨hsz0⟩
  have hS := St.nil w
  have bh_lv := SlN.le (sl_SlN h_lv.at)
  have bh_yv := SlN.le (sl_SlN h_yv.at)
  refine R_seq (fun K1 hK1 => ?_)
  -- region 0
  refine R_region (by kernel_rfl) ?_
  refine W_boxS (zs := #[lv, yv]) hS rfl rfl rfl l0_0 (by rfl) (fun g2 w2 c2 hc2 hS2 => ?_)
  replace hS2 : St w NoX [c2] w2 := hS2
  refine W_boxS (zs := #[.int .i64 (c)]) hS2 rfl rfl rfl (es rfl l1_0) (by rfl) (fun g3 w3 c3 hc3 hS3 => ?_)
  replace hS3 : St w NoX [c3, c2] w3 := hS3
  refine W_v rfl rfl (V_asg rfl rfl) ?_
  refine W_v rfl rfl (V_asg rfl rfl) ?_
  refine W_end ?_
  refine Qo_normal ?_
  refine gen_Q (fun A4 hA4 => ?_)
  have hsz4 : SzN A4 37 := by rw [hA4]; infer_instance
  have hdf4 : A4.defers = [] := by rw [hA4]; simp only [df_put]; exact hdf0
  have l2_4 := lookE hA4 2 (es rfl (es rfl (es rfl (et rfl))))
  have l3_4 := lookE hA4 3 (es rfl (es rfl (et rfl)))
  clear hA4 hsz0 hdf0 l0_0 l1_0
  refine then_n (hK1 _ _ ?_)
  clear hK1
  refine R_seq (fun K5 hK5 => ?_)
  -- region 1
  refine R_region (by kernel_rfl) ?_
  refine W_r rfl rfl (VR_ldA rfl l2_4 (hS3.obj 1 rfl hc2) Tryd.underlying24 rfl (by kernel_rfl)) ?_
  refine W_r rfl rfl (VR_ldC rfl (es rfl l3_4) (cell_box (v := .int .i64 (c)) (hS3.obj 0 rfl hc3) rfl) Tryd.underlying3 rfl) ?_
  have hll6 : [c].length = 1 := rfl
  refine W_litS (vs := [.int .i64 (c)]) (xs := ([c].map (Value.int .i64))) 1 hS3 rfl rfl rfl (parts1 (et rfl)) rfl Tryd.underlying22 (by kernel_rfl) (by decide) (by intro v hv; simp only [List.mem_cons, List.not_mem_nil, or_false] at hv; rcases hv with rfl <;> rfl) (by rfl) (fun g6 w6 c6 hc6 hS6 => ?_)
  replace hc6 : c6 = io .i64 (.slice (some ⟨g6, 0, none⟩) 1 1) [c] := hc6
  replace hS6 : St w NoX [c6, c3, c2] w6 := hS6
  refine W_call rfl rfl rfl Tryd.func38 (by kernel_rfl) rfl (args2 (es rfl (es rfl (et rfl))) (et rfl)) (kof_c (hS6.roC h_lv) (hS6.roC h_yv) (hS6.chC 0 rfl hc6).own (hS6.roC hG0) ) ?_
  rintro _ w7 ⟨rfl, hP7⟩
  refine ⟨_, rfl, ?_⟩
  have hS7 := hS6.join hP7
  replace hS7 : St w NoX [c6, c3, c2] w7 := hS7
  refine W_v rfl rfl (V_mov rfl (et rfl)) ?_
  refine W_v rfl rfl (V_ext (v := .agg (((ofT lo yo [c]).flatMap rkC).toArray)) rfl (et rfl) rfl) ?_
  refine W_v rfl rfl (V_ext (v := .int .i64 ((ofE lo yo [c]))) rfl (es rfl (et rfl)) rfl) ?_
  refine W_allocS (z := .agg (((List.replicate 24 (0, 0)).flatMap rkC).toArray)) (zs := ((((List.replicate 24 (0, 0)).flatMap rkC).toArray))) hS7 rfl rfl rfl (by kernel_rfl) (by rfl) (fun g8 w8 c8 hc8 hS8 => ?_)
  replace hS8 : St w NoX [c8, c6, c3, c2] w8 := hS8
  refine W_stAS 0 hS8 rfl hc8 rfl rfl rfl (et rfl) (es rfl (es rfl (et rfl))) (arrR_one rkC_one) (arrR_sz rkC_len List.length_replicate (ofT_len _ _ _)) (arrR_info rkC_len (ofT_len _ _ _) (by kernel_rfl)) (fun w9 c9 hc9 hS9 => ?_)
  replace hS9 : St w NoX [c9, c6, c3, c2] w9 := hS9
  refine W_v rfl rfl (V_asg rfl (es rfl (et rfl))) ?_
  refine W_end ?_
  refine Qo_normal ?_
  refine gen_Q (fun A10 hA10 => ?_)
  have hsz10 : SzN A10 37 := by rw [hA10]; infer_instance
  have hdf10 : A10.defers = [] := by rw [hA10]; simp only [df_put]; exact hdf4
  have l2_10 := lookE hA10 2 (es rfl (es rfl (es rfl (es rfl (es rfl (es rfl (es rfl (es rfl (es rfl l2_4)))))))))
  have l3_10 := lookE hA10 3 (es rfl (es rfl (es rfl (es rfl (es rfl (es rfl (es rfl (es rfl (es rfl l3_4)))))))))
  have l6_10 := lookE hA10 6 (es rfl (et rfl))
  have l7_10 := lookE hA10 7 (et rfl)
  clear hA10 hsz4 hdf4 l2_4 l3_4
  have hS11 : St w NoX [c9, c3, c2] w9 := hS9.sel [0, 2, 3] (by decide) rfl
  refine then_n (hK5 _ _ ?_)
  clear hK5
  refine R_seq (fun K12 hK12 => ?_)
  refine R_seq (fun K13 hK13 => ?_)
  -- region 2
  refine R_region (by kernel_rfl) ?_
  refine W_v rfl rfl (V_mov rfl l7_10) ?_
  refine W_v rfl rfl (V_neq rfl (et rfl) rfl) ?_
  refine W_end ?_
  refine Qo_normal ?_
  refine gen_Q (fun A14 hA14 => ?_)
  have hsz14 : SzN A14 37 := by rw [hA14]; infer_instance
  have hdf14 : A14.defers = [] := by rw [hA14]; simp only [df_put]; exact hdf10
  have l2_14 := lookE hA14 2 (es rfl (es rfl l2_10))
  have l3_14 := lookE hA14 3 (es rfl (es rfl l3_10))
  have l6_14 := lookE hA14 6 (es rfl (es rfl l6_10))
  have l7_14 := lookE hA14 7 (es rfl (es rfl l7_10))
  have l18_14 := lookE hA14 18 (et rfl)
  clear hA14 hsz10 hdf10 l2_10 l3_10 l6_10 l7_10
  refine then_n (hK13 _ _ ?_)
  clear hK13
  refine R_cond_dec l18_14 (fun c15 => ?_) (fun c15 => ?_)
  · skip
    refine R_seq (fun K16 hK16 => ?_)
    -- region 3
    refine R_region (by kernel_rfl) ?_
    refine W_v rfl rfl (V_mov rfl l7_14) ?_
    refine W_v rfl rfl (V_asg rfl rfl) ?_
    refine W_v rfl rfl (V_asg rfl (es rfl (et rfl))) ?_
    refine W_end ?_
    refine Qo_normal ?_
    refine gen_Q (fun A17 hA17 => ?_)
    have hsz17 : SzN A17 37 := by rw [hA17]; infer_instance
    have hdf17 : A17.defers = [] := by rw [hA17]; simp only [df_put]; exact hdf14
    have l4_17 := lookE hA17 4 (es rfl (et rfl))
    have l5_17 := lookE hA17 5 (et rfl)
    clear hA17 hsz14 hdf14 l2_14 l3_14 l6_14 l7_14 l18_14
    have hS18 : St w NoX [] w9 := hS11.sel [] (by decide) rfl
    refine then_n (hK16 _ _ ?_)
    clear hK16
    refine R_ret ?_
    refine then_ret ?_
    refine ret_inR0 (results_2 Tryd.results15 (rv_tmp l4_17) (rv_tmp l5_17)) hdf17 ?_
    -- leaf T
    obtain ⟨c19, hc19, hS19⟩ := hS18.pnil (s := 1)
    have h : plE lo yo c = ofE lo yo [c] := plE_of c15
    rw [h]
    exact ⟨_, rfl, (hS19.fin1 0 rfl (hc19.trans (by rw [olT_err (by rw [h]; exact c15)] <;> rfl)))⟩
  · skip
    have hE : ofE lo yo [c] = 0 := by simpa using c15
    have hk_c := ofE_mem hE (c := c) (by simp)
    have hrc := (chkE_ok hk_c).2.2
    have hgood := chk_rk hk_c
    refine R_skip ?_
    refine then_n (hK12 _ _ ?_)
    clear hK12
    refine R_seq (fun K20 hK20 => ?_)
    refine R_seq (fun K21 hK21 => ?_)
    -- region 4
    refine R_monoS (by kernel_rfl) 5 5 [] (by kernel_rfl) (by kernel_rfl) ?_
    refine D_r rfl rfl (by kernel_rfl) (fun sx hx hF => (VR_ldC rfl l3_14 (cell_box (v := .int .i64 (c)) ((hS11.grow hx).obj 1 rfl hc3) rfl) Tryd.underlying3 rfl)) rfl rfl ?_
    have k22 : c.toNat < 24 := by omega
    refine D_v rfl rfl (V_ixA (sz := 2) (off' := c.toNat * 2) (c.toNat) rfl (es rfl l6_14) (et rfl) (by omega) Tryd.underlying60 k22 (by kernel_rfl) (by omega)) rfl rfl ?_
    obtain ⟨y23, hy23⟩ := get_some (xs := (ofT lo yo [c])) (k := c.toNat) (by rw [(ofT_len _ _ _)]; omega)
    have hr23 := ofT_row hE hk_c hy23
    refine D_r rfl rfl (by kernel_rfl) (fun sx hx hF => (VR_ldP (ys := rkC y23) rfl (et rfl) ((hS11.grow hx).obj 0 rfl hc9) (arrR_at rkC_len hy23) Tryd.underlying50 rfl (by kernel_rfl))) rfl rfl ?_
    refine D_r rfl rfl (by kernel_rfl) (fun sx hx hF => (VR_ldA rfl rfl (ob_at ((hS11.grow hx).ro hG0)) Tryd.underlying50 rfl (by kernel_rfl))) rfl rfl ?_
    refine D_v rfl rfl (V_eqSt2 rfl (es rfl (et rfl)) (et rfl) (by kernel_rfl)) rfl rfl ?_
    refine ZS_none hS11 (Nat.le_refl _) (Nat.le_refl _) (fun s24 hJ24 hL24 hF24 => ?_)
    have hS24 := hJ24.st; clear hF24 hJ24 hL24
    generalize s24.1 = w24 at *
    replace hS24 : St w NoX [c9, c3, c2] w24 := hS24
    refine gen_Q (fun A25 hA25 => ?_)
    have hsz25 : SzN A25 37 := by rw [hA25]; infer_instance
    have hdf25 : A25.defers = [] := by rw [hA25]; simp only [df_put]; exact hdf14
    have l2_25 := lookE hA25 2 (es rfl (es rfl (es rfl (es rfl (es rfl l2_14)))))
    have l3_25 := lookE hA25 3 (es rfl (es rfl (es rfl (es rfl (es rfl l3_14)))))
    have l24_25 := lookE hA25 24 (et rfl)
    clear hA25 hsz14 hdf14 l2_14 l3_14 l6_14 l7_14 l18_14
    have hS26 : St w NoX [c3, c2] w24 := hS24.sel [1, 2] (by decide) rfl
    refine then_n (hK21 _ _ ?_)
    clear hK21
    refine R_cond_dec l24_25 (fun c27 => ?_) (fun c27 => ?_)
    · skip
      refine R_seq (fun K28 hK28 => ?_)
      -- region 5
      refine R_region (by kernel_rfl) ?_
      refine W_v rfl rfl (V_asg rfl rfl) ?_
      refine W_v rfl rfl (V_asg rfl rfl) ?_
      refine W_end ?_
      refine Qo_normal ?_
      refine gen_Q (fun A29 hA29 => ?_)
      have hsz29 : SzN A29 37 := by rw [hA29]; infer_instance
      have hdf29 : A29.defers = [] := by rw [hA29]; simp only [df_put]; exact hdf25
      have l4_29 := lookE hA29 4 (es rfl (et rfl))
      have l5_29 := lookE hA29 5 (et rfl)
      clear hA29 hsz25 hdf25 l2_25 l3_25 l24_25
      have hS30 : St w NoX [] w24 := hS26.sel [] (by decide) rfl
      refine then_n (hK28 _ _ ?_)
      clear hK28
      refine R_ret ?_
      refine then_ret ?_
      refine ret_inR0 (results_2 Tryd.results15 (rv_tmp l4_29) (rv_tmp l5_29)) hdf29 ?_
      -- leaf FT
      obtain ⟨c31, hc31, hS31⟩ := hS30.pnil (s := 1)
      have h : plE lo yo c = 4 := plE_no hk_c (by rw [hr23]; exact c27.1)
      rw [h]
      exact ⟨_, rfl, (hS31.fin1 0 rfl (hc31.trans (by rw [olT_err (by rw [h]; decide)] <;> rfl)))⟩
    · skip
      refine R_skip ?_
      refine then_n (hK20 _ _ ?_)
      clear hK20
      refine R_seq (fun K32 hK32 => ?_)
      -- region 6
      refine R_region (by kernel_rfl) ?_
      refine W_allocS (z := .slice none 0 0) (zs := #[.slice none 0 0]) hS26 rfl rfl rfl (by kernel_rfl) (by rfl) (fun g33 w33 c33 hc33 hS33 => ?_)
      replace hS33 : St w NoX [c33, c3, c2] w33 := hS33
      refine W_end ?_
      refine Qo_normal ?_
      refine gen_Q (fun A34 hA34 => ?_)
      have hsz34 : SzN A34 37 := by rw [hA34]; infer_instance
      have hdf34 : A34.defers = [] := by rw [hA34]; simp only [df_put]; exact hdf25
      have l2_34 := lookE hA34 2 (es rfl l2_25)
      have l3_34 := lookE hA34 3 (es rfl l3_25)
      have l8_34 := lookE hA34 8 (et rfl)
      clear hA34 hsz25 hdf25 l2_25 l3_25 l24_25
      refine then_n (hK32 _ _ ?_)
      clear hK32
      refine R_seq (fun K35 hK35 => ?_)
      refine R_seq (fun K36 hK36 => ?_)
      -- region 7
      refine R_region (by kernel_rfl) ?_
      refine W_r rfl rfl (VR_ldA rfl l2_34 (hS33.obj 2 rfl hc2) Tryd.underlying24 rfl (by kernel_rfl)) ?_
      refine W_call rfl rfl rfl Tryd.func42 (by kernel_rfl) rfl (args1 (et rfl)) (kall_c (hS33.roC h_lv) (hS33.roC h_yv) ) ?_
      rintro _ w37 ⟨g_37, rfl, hP37⟩
      refine ⟨_, rfl, ?_⟩
      obtain ⟨c_37, hc_37, hP37⟩ := gen1 hP37
      have hS37 := hS33.join hP37
      replace hS37 : St w NoX [c_37, c33, c3, c2] w37 := hS37
      refine W_end ?_
      refine Qo_normal ?_
      refine gen_Q (fun A38 hA38 => ?_)
      have hsz38 : SzN A38 37 := by rw [hA38]; infer_instance
      have hdf38 : A38.defers = [] := by rw [hA38]; simp only [df_put]; exact hdf34
      have l3_38 := lookE hA38 3 (es rfl (es rfl l3_34))
      have l8_38 := lookE hA38 8 (es rfl (es rfl l8_34))
      have l26_38 := lookE hA38 26 (et rfl)
      clear hA38 hsz34 hdf34 l2_34 l3_34 l8_34
      have hS39 : St w NoX [c_37, c33, c3] w37 := hS37.sel [0, 1, 2] (by decide) rfl
      refine then_n (hK36 _ _ ?_)
      clear hK36
      refine R_block ?_
      obtain ⟨c40, hc40, hS40⟩ := hS39.pnil (s := 1)
      refine R_rangeS (α := Int × Int × Int) l26_38 (fun args w => calls_enter Tryd.func49 rfl rfl args w) (kall_it (g0 := g_37) (lv := lv) (yv := yv) (lo := lo) (yo := yo) (Rd := fun W => (bx g_37 24 #[lv, yv]).at W ∧ (il .i64 lv lo).at W ∧ (il .i64 yv yo).at W) (fun _ h => h)) (fun _ => rfl) (fun pre => pk (fun l => ∃ (vo : Value), (∀ y ∈ pre, y.1 ≠ c) ∧ l = [io .i64 vo (fst3 pre), bx g_37 24 #[lv, yv], bx g33 22 #[vo], bx g3 3 #[.int .i64 (c)]])) (fun cQ pre => pk (fun l => (cQ = .exit 0 ∧ ∃ (q : List (Int × Int × Int)) (x : Int × Int × Int) (vo : Value), (pre = q ++ [x]) ∧ (x.1 = c) ∧ l = [io .i64 vo (fst3 q), bx g_37 24 #[lv, yv], bx g33 22 #[vo], bx g3 3 #[.int .i64 (c)]]))) (St.pack (l := [io .i64 (.slice none 0 0) (fst3 []), bx g_37 24 #[lv, yv], bx g33 22 #[(.slice none 0 0)], bx g3 3 #[.int .i64 (c)]]) (fr := []) (by have q0 : c40 = io .i64 (.slice none 0 0) (fst3 []) := hc40; have q1 : c_37 = bx g_37 24 #[lv, yv] := hc_37; have q2 : c33 = bx g33 22 #[(.slice none 0 0)] := hc33; have q3 : c3 = bx g3 3 #[.int .i64 (c)] := hc3; subst q0 q1 q2 q3; exact hS40) ⟨(.slice none 0 0), (by simp), rfl⟩)
        (fun pre W l' hS => by obtain ⟨l, ⟨vo, hne, rfl⟩, hl⟩ := pk_at (hS.ch 0 rfl); exact ⟨(hl 1 _ rfl), hS.ro h_lv, hS.ro h_yv⟩)
        (fun x a' cQ => match x with | (x1, x2, x3) => SzN a' 37 ∧ a'.defers = [] ∧ EV a' (.tmp 3) = EV A38 (.tmp 3) ∧ EV a' (.tmp 8) = EV A38 (.tmp 8) ∧ EV a' (.tmp 9) = .int .i64 (x1) ∧ cQ = pk (· = [])) ?_ ?_ ?_ ?_
      · rintro la41 pre ⟨x1, x2, x3⟩ wa41 fr K hSa41 hK
        simp only [encR]
        rw [rnd2]
        obtain ⟨A42, hA42⟩ : ∃ A, A = (PT (PT { tmps := A38.tmps, defers := [] } 27 (.int .i64 x1)) 28 (.agg #[.int .i64 x2, .int .i64 x3])) := ⟨_, rfl⟩
        rw [← hA42]
        have hsz42 : SzN A42 37 := by rw [hA42]; infer_instance
        have hdf42 : A42.defers = [] := by rw [hA42]; rfl
        have l3_42 := lookE hA42 3 (es rfl (es rfl (rnd_l l3_38)))
        have l8_42 := lookE hA42 8 (es rfl (es rfl (rnd_l l8_38)))
        have l27_42 := lookE hA42 27 (es rfl (et rfl))
        have l28_42 := lookE hA42 28 (et rfl)
        clear hA42
        obtain ⟨cI, hcI, hSa41⟩ := gen1 hSa41
        -- region 8
        refine R_region (by kernel_rfl) ?_
        refine W_v rfl rfl (V_asg rfl l27_42) ?_
        refine W_end ?_
        refine Qo_normal ?_
        refine gen_Q (fun A43 hA43 => ?_)
        have hsz43 : SzN A43 37 := by rw [hA43]; infer_instance
        have hdf43 : A43.defers = [] := by rw [hA43]; simp only [df_put]; exact hdf42
        have l3_43 := lookE hA43 3 (es rfl l3_42)
        have l8_43 := lookE hA43 8 (es rfl l8_42)
        have l9_43 := lookE hA43 9 (et rfl)
        clear hA43 hsz42 hdf42 l3_42 l8_42 l27_42 l28_42
        refine then_n ?_
        refine hK _ _ _ ⟨hsz43, hdf43, (l3_43.trans l3_38.symm), (l8_43.trans l8_38.symm), l9_43, rfl⟩ ?_
        subst hcI; exact hSa41.asg0
      · rintro lb44 pre ⟨x1, x2, x3⟩ A44 w44 cQ fr hAx hlr hS44 hVd
        obtain ⟨hsz44, hdf44, u3_44, u8_44, l9_44, rfl⟩ := hAx
        have l3_44 := u3_44.trans l3_38
        have l8_44 := u8_44.trans l8_38
        obtain ⟨_, _, ⟨vo, hne, rfl⟩, rfl, hS44⟩ := hS44.body2
        replace hS44 : St w NoX ((io .i64 vo (fst3 pre)) :: (bx g_37 24 #[lv, yv]) :: (bx g33 22 #[vo]) :: (bx g3 3 #[.int .i64 (c)]) :: fr) w44 := hS44
        obtain ⟨c40_45, c_45, c33_45, c3_45, hc40_45, hc_45, hc33_45, hc3_45, hS44⟩ := gen4 hS44
        have hlen := rk_len ((chk_iff lo yo).1 hgood) hVd
        refine R_block ?_
        refine R_seq (fun K46 hK46 => ?_)
        refine R_seq (fun K47 hK47 => ?_)
        -- region 9
        refine R_region (by kernel_rfl) ?_
        refine W_v rfl rfl (V_mov rfl l9_44) ?_
        refine W_r rfl rfl (VR_ldC rfl (es rfl l3_44) (cell_box (v := .int .i64 (c)) (hS44.obj 3 rfl hc3_45) rfl) Tryd.underlying3 rfl) ?_
        refine W_v rfl rfl (V_eql rfl (es rfl (et rfl)) (et rfl)) ?_
        refine W_end ?_
        refine Qo_normal ?_
        refine gen_Q (fun A48 hA48 => ?_)
        have hsz48 : SzN A48 37 := by rw [hA48]; infer_instance
        have hdf48 : A48.defers = [] := by rw [hA48]; simp only [df_put]; exact hdf44
        have l8_48 := lookE hA48 8 (es rfl (es rfl (es rfl l8_44)))
        have l9_48 := lookE hA48 9 (es rfl (es rfl (es rfl l9_44)))
        have l31_48 := lookE hA48 31 (et rfl)
        clear hA48 hsz44 hdf44 l3_44 l8_44 l9_44
        refine then_n (hK47 _ _ ?_)
        clear hK47
        refine R_cond_dec l31_48 (fun c49 => ?_) (fun c49 => ?_)
        · skip
          refine R_exit ?_
          refine then_exit ?_
          refine inb_miss rfl ?_
          exact (St.pack (l := [io .i64 vo (fst3 pre), bx g_37 24 #[lv, yv], bx g33 22 #[vo], bx g3 3 #[.int .i64 (c)]]) (fr := fr) (by have q0 : c40_45 = io .i64 vo (fst3 pre) := hc40_45; have q1 : c_45 = bx g_37 24 #[lv, yv] := hc_45; have q2 : c33_45 = bx g33 22 #[vo] := hc33_45; have q3 : c3_45 = bx g3 3 #[.int .i64 (c)] := hc3_45; subst q0 q1 q2 q3; exact hS44) (⟨rfl, pre, (x1, x2, x3), vo, rfl, c49, rfl⟩))
        · skip
          refine R_skip ?_
          refine then_n (hK46 _ _ ?_)
          clear hK46
          -- region 10
          refine R_region (by kernel_rfl) ?_
          refine W_r rfl rfl (VR_ldC rfl l8_48 (cell_box (v := vo) (hS44.obj 2 rfl hc33_45) rfl) Tryd.underlying22 rfl) ?_
          refine W_v rfl rfl (V_mov rfl (es rfl l9_48)) ?_
          have hll50 : [x1].length = 1 := rfl
          refine W_litS (vs := [.int .i64 (x1)]) (xs := ([x1].map (Value.int .i64))) 1 hS44 rfl rfl rfl (parts1 (et rfl)) rfl Tryd.underlying22 (by kernel_rfl) (by decide) (by intro v hv; simp only [List.mem_cons, List.not_mem_nil, or_false] at hv; rcases hv with rfl <;> rfl) (by rfl) (fun g50 w50 c50 hc50 hS50 => ?_)
          replace hc50 : c50 = io .i64 (.slice (some ⟨g50, 0, none⟩) 1 1) [x1] := hc50
          replace hS50 : St w NoX (c50 :: c40_45 :: c_45 :: c33_45 :: c3_45 :: fr) w50 := hS50
          refine W_appS 1 1 hS50 rfl hc40_45 rfl rfl rfl (es rfl (es rfl (et rfl))) (et rfl) Tryd.underlying22 Tryd.underlying22 (z := .int .i64 0) (bytes := 8) (by kernel_rfl) rfl (by decide) (ow_at (hS50.chq 0 rfl hc50)) ones_i (by simp [fst3]; omega) (by simp [fst3]; omega) (fun v51 w51 c51 hc51 hS51 => ?_)
          replace hc51 : c51 = io .i64 v51 ((fst3 pre) ++ [x1]) := hc51.trans (app_eq (by simp))
          replace hS51 : St w NoX (c50 :: c51 :: c_45 :: c33_45 :: c3_45 :: fr) w51 := hS51
          refine W_stCS (zs' := #[v51]) 3 hS51 rfl hc33_45 rfl rfl rfl (es rfl (es rfl (es rfl (es rfl l8_48)))) (et rfl) (SlN_one (ow_at (hS51.chq 1 rfl hc51))) (by rfl) (by kernel_rfl) (by first | rfl | (simp only [List.setIfInBounds_toArray, List.set_cons_succ, List.set_cons_zero] <;> rfl)) (fun w52 c52 hc52 hS52 => ?_)
          replace hS52 : St w NoX (c50 :: c51 :: c_45 :: c52 :: c3_45 :: fr) w52 := hS52
          refine W_end ?_
          refine Qo_normal ?_
          refine gen_Q (fun A53 hA53 => ?_)
          have hsz53 : SzN A53 37 := by rw [hA53]; infer_instance
          have hdf53 : A53.defers = [] := by rw [hA53]; simp only [df_put]; exact hdf48
          clear hA53 hsz48 hdf48 l8_48 l9_48 l31_48
          have hS55 := hS52.del 0
          replace hS55 : St w NoX (c51 :: c_45 :: c52 :: c3_45 :: fr) w52 := hS55
          refine inb_n ?_
          exact (St.pack (l := [io .i64 v51 (fst3 (pre ++ [(x1, x2, x3)])), bx g_37 24 #[lv, yv], bx g33 22 #[v51], bx g3 3 #[.int .i64 (c)]]) (fr := fr) (by have q0 : c51 = io .i64 v51 (fst3 (pre ++ [(x1, x2, x3)])) := hc51.trans (by simp [fst3]); have q1 : c_45 = bx g_37 24 #[lv, yv] := hc_45; have q2 : c52 = bx g33 22 #[v51] := hc52; have q3 : c3_45 = bx g3 3 #[.int .i64 (c)] := hc3_45; subst q0 q1 q2 q3; exact hS55) (⟨v51, (ne_snoc hne c49), rfl⟩))
      · intro D56 xs w56 hxs hS56
        have hxs' : xs = ranked lo yo := hxs; subst hxs'; clear hxs
        obtain ⟨_, ⟨vo, hne, rfl⟩, hS56⟩ := hS56.unpack
        replace hS56 : St w NoX ((io .i64 vo (fst3 (ranked lo yo))) :: (bx g_37 24 #[lv, yv]) :: (bx g33 22 #[vo]) :: (bx g3 3 #[.int .i64 (c)]) :: (ob D56 (.deferred (some []))) :: []) w56 := hS56
        obtain ⟨c40_56, c_56, c33_56, c3_56, cD56, hc40_56, hc_56, hc33_56, hc3_56, hcD56, hS56⟩ := gen5 hS56
        refine gen_Q (fun A56 hA56 => ?_)
        have hsz56 : SzN A56 37 := by rw [hA56]; infer_instance
        have hdf56 : A56.defers = [{ target := .collected D56, args := #[] }] := by rw [hA56, df_mk, hdf38]
        have l8_56 := lookE hA56 8 (mk_l l8_38)
        clear hA56
        refine inb_n ?_
        refine then_n (hK35 _ _ ?_)
        clear hK35
        refine R_seq (fun K57 hK57 => ?_)
        -- region 11
        refine R_region (by kernel_rfl) ?_
        refine W_r rfl rfl (VR_ldC rfl l8_56 (cell_box (v := vo) (hS56.obj 2 rfl hc33_56) rfl) Tryd.underlying22 rfl) ?_
        refine W_v rfl rfl (V_asg rfl (et rfl)) ?_
        refine W_v rfl rfl (V_asg rfl rfl) ?_
        refine W_end ?_
        refine Qo_normal ?_
        refine gen_Q (fun A58 hA58 => ?_)
        have hsz58 : SzN A58 37 := by rw [hA58]; infer_instance
        have hdf58 : A58.defers = [{ target := .collected D56, args := #[] }] := by rw [hA58]; simp only [df_put]; exact hdf56
        have l4_58 := lookE hA58 4 (es rfl (et rfl))
        have l5_58 := lookE hA58 5 (et rfl)
        clear hA58 hsz56 hdf56 l8_56
        have hS59 : St w NoX [c40_56, cD56] w56 := hS56.sel [0, 4] (by decide) rfl
        refine then_n (hK57 _ _ ?_)
        clear hK57
        refine R_ret ?_
        have hD60 := hS59.obj 1 rfl hcD56
        have hS60 := hS59.put (o' := .deferred none) 1 rfl hcD56
        obtain ⟨w60, hw60⟩ : ∃ w', w' = w56.putObj D56 (.deferred none) := ⟨_, rfl⟩
        rw [← hw60] at hS60
        replace hS60 : St w NoX [c40_56, (ob D56 (.deferred none))] w60 := hS60
        refine ret_inR1' (D := D56) (w1 := w60) hw60 (results_2 Tryd.results15 (rv_tmp l4_58) (rv_tmp l5_58)) hdf58 hD60 ?_
        -- leaf FFd
        exact absurd hne (fun h => ol_miss (plE_yes hk_c (fun h => c27 (by rw [← hr23]; exact rkR_pair hk_c h))) h)
      · intro D61 cQ pre w61 hpre hS61
        obtain ⟨_, hx, hS61⟩ := hS61.unpack
        rcases hx with ⟨rfl, q, x, vo, hq, hxc, rfl⟩
        · skip
          replace hS61 : St w NoX ((io .i64 vo (fst3 q)) :: (bx g_37 24 #[lv, yv]) :: (bx g33 22 #[vo]) :: (bx g3 3 #[.int .i64 (c)]) :: (ob D61 (.deferred (some []))) :: []) w61 := hS61
          obtain ⟨c40_61, c_61, c33_61, c3_61, cD61, hc40_61, hc_61, hc33_61, hc3_61, hcD61, hS61⟩ := gen5 hS61
          refine gen_w (fun A61 hA61 => ?_)
          have hsz61 : SzN A61 37 := by rw [hA61]; infer_instance
          have hdf61 : A61.defers = [{ target := .collected D61, args := #[] }] := by rw [hA61, df_mk, hdf38]
          have l8_61 := lookE hA61 8 (mk_l l8_38)
          clear hA61
          refine R_exit ?_
          refine inb_hit ?_
          refine then_n (hK35 _ _ ?_)
          clear hK35
          refine R_seq (fun K62 hK62 => ?_)
          -- region 11
          refine R_region (by kernel_rfl) ?_
          refine W_r rfl rfl (VR_ldC rfl l8_61 (cell_box (v := vo) (hS61.obj 2 rfl hc33_61) rfl) Tryd.underlying22 rfl) ?_
          refine W_v rfl rfl (V_asg rfl (et rfl)) ?_
          refine W_v rfl rfl (V_asg rfl rfl) ?_
          refine W_end ?_
          refine Qo_normal ?_
          refine gen_Q (fun A63 hA63 => ?_)
          have hsz63 : SzN A63 37 := by rw [hA63]; infer_instance
          have hdf63 : A63.defers = [{ target := .collected D61, args := #[] }] := by rw [hA63]; simp only [df_put]; exact hdf61
          have l4_63 := lookE hA63 4 (es rfl (et rfl))
          have l5_63 := lookE hA63 5 (et rfl)
          clear hA63 hsz61 hdf61 l8_61
          have hS64 : St w NoX [c40_61, cD61] w61 := hS61.sel [0, 4] (by decide) rfl
          refine then_n (hK62 _ _ ?_)
          clear hK62
          refine R_ret ?_
          have hD65 := hS64.obj 1 rfl hcD61
          have hS65 := hS64.put (o' := .deferred none) 1 rfl hcD61
          obtain ⟨w65, hw65⟩ : ∃ w', w' = w61.putObj D61 (.deferred none) := ⟨_, rfl⟩
          rw [← hw65] at hS65
          replace hS65 : St w NoX [c40_61, (ob D61 (.deferred none))] w65 := hS65
          refine ret_inR1' (D := D61) (w1 := w65) hw65 (results_2 Tryd.results15 (rv_tmp l4_63) (rv_tmp l5_63)) hdf63 hD65 ?_
          -- leaf FFx
          have h := ol_hit hgood hq hxc hpre
          rw [h.1]
          exact ⟨_, rfl, (hS65.fin1 0 rfl (hc40_61.trans (by rw [h.2])))⟩

set_option maxHeartbeats 4000000 in
theorem kWt_c {lv : Value} {lo : List Int} {yv : Value} {yo : List Int} {c : Int} {gT0 : Nat} {w : World} (h_lv : Ro w NoX (il .i64 lv lo)) (h_yv : Ro w NoX (il .i64 yv yo)) (hG0 : Ro w NoX (bx 0 gT0 #[.int .i64 (-1), .int .i64 (-1)]))  :
    Calls Tryd.prog 18 #[.agg #[lv, yv], .int .i64 c] w fun e w' => e = .returned (.tuple #[.int .i64 (plN lo yo c), .int .i64 (plE lo yo c)]) ∧ St w NoX [] w' := by
  refine calls_in 17 Tryd.func18 rfl rfl (by simp) (fun A0 hsz0 hdf0 hargs => ?_)
  have l0_0 := hargs 0 (.agg #[lv, yv]) rfl
  have l1_0 := hargs 1 (.int .i64 c) rfl
  clear hargs; replace hsz0 : SzN A0 17 := ⟨hsz0⟩
  have hS := St.nil w
  have bh_lv := SlN.le (sl_SlN h_lv.at)
  have bh_yv := SlN.le (sl_SlN h_yv.at)
  refine wp_seq_k (fun K1 hK1 => ?_)
  -- region 0
  refine region_in ?_
  refine W_boxS (zs := #[lv, yv]) hS rfl rfl rfl l0_0 (by rfl) (fun g2 w2 c2 hc2 hS2 => ?_)
  replace hS2 : St w NoX [c2] w2 := hS2
  refine W_v rfl rfl (V_asg rfl rfl) ?_
  refine W_v rfl rfl (V_asg rfl rfl) ?_
  refine W_end ?_
  refine gen_Q (fun A3 hA3 => ?_)
  have hsz3 : SzN A3 17 := by rw [hA3]; infer_instance
  have hdf3 : A3.defers = [] := by rw [hA3]; simp only [df_put]; exact hdf0
  have l1_3 := lookE hA3 1 (es rfl (es rfl (es rfl l1_0)))
  have l2_3 := lookE hA3 2 (es rfl (es rfl (et rfl)))
  clear hA3 hsz0 hdf0 l0_0 l1_0
  refine then_n (hK1 _ _ ?_)
  clear hK1
  refine wp_seq_k (fun K4 hK4 => ?_)
  -- region 1
  refine region_in ?_
  refine W_r rfl rfl (VR_ldA rfl l2_3 (hS2.obj 0 rfl hc2) Tryd.underlying24 rfl (by kernel_rfl)) ?_
  refine W_v rfl rfl (V_mov rfl (es rfl l1_3)) ?_
  refine W_call rfl rfl rfl Tryd.func15 (by kernel_rfl) rfl (args2 (es rfl (et rfl)) (et rfl)) (kOld_c (c := c) (hS2.roC h_lv) (hS2.roC h_yv) (hS2.roC hG0) ) ?_
  rintro _ w5 ⟨v_5, rfl, hP5⟩
  refine ⟨_, rfl, ?_⟩
  obtain ⟨c_5, hc_5, hP5⟩ := gen1 hP5
  have hS5 := hS2.join hP5
  replace hS5 : St w NoX [c_5, c2] w5 := hS5
  refine W_v rfl rfl (V_mov rfl (et rfl)) ?_
  refine W_v rfl rfl (V_ext (v := v_5) rfl (et rfl) rfl) ?_
  refine W_v rfl rfl (V_ext (v := .int .i64 ((plE lo yo c))) rfl (es rfl (et rfl)) rfl) ?_
  refine W_v rfl rfl (V_asg rfl (es rfl (et rfl))) ?_
  refine W_v rfl rfl (V_asg rfl (es rfl (et rfl))) ?_
  refine W_end ?_
  refine gen_Q (fun A6 hA6 => ?_)
  have hsz6 : SzN A6 17 := by rw [hA6]; infer_instance
  have hdf6 : A6.defers = [] := by rw [hA6]; simp only [df_put]; exact hdf3
  have l6_6 := lookE hA6 6 (es rfl (et rfl))
  have l7_6 := lookE hA6 7 (et rfl)
  clear hA6 hsz3 hdf3 l1_3 l2_3
  have hS7 : St w NoX [c_5] w5 := hS5.sel [0] (by decide) rfl
  refine then_n (hK4 _ _ ?_)
  clear hK4
  refine wp_seq_k (fun K8 hK8 => ?_)
  -- region 2
  refine region_in ?_
  refine W_v rfl rfl (V_mov rfl l6_6) ?_
  refine W_v rfl rfl (V_lenS rfl (et rfl) (ow_at (hS7.chq 0 rfl hc_5)) Tryd.underlying22) ?_
  refine W_v rfl rfl (V_mov rfl (es rfl (es rfl l7_6))) ?_
  refine W_v rfl rfl (V_asg rfl (es rfl (et rfl))) ?_
  refine W_v rfl rfl (V_asg rfl (es rfl (et rfl))) ?_
  refine W_end ?_
  refine gen_Q (fun A9 hA9 => ?_)
  have hsz9 : SzN A9 17 := by rw [hA9]; infer_instance
  have hdf9 : A9.defers = [] := by rw [hA9]; simp only [df_put]; exact hdf6
  have l4_9 := lookE hA9 4 (es rfl (et rfl))
  have l5_9 := lookE hA9 5 (et rfl)
  clear hA9 hsz6 hdf6 l6_6 l7_6
  have hS10 : St w NoX [] w5 := hS7.sel [] (by decide) rfl
  refine then_n (hK8 _ _ ?_)
  clear hK8
  refine wp_ret ?_
  refine ret_in (results_2 Tryd.results18 (rv_tmp l4_9) (rv_tmp l5_9)) hdf9 ?_
  -- leaf 
  exact ⟨by rw [← ol_len], hS10.fin0⟩

set_option maxHeartbeats 4000000 in
theorem qOld_c {lv : Value} {lo : List Int} {yv : Value} {yo : List Int} {c : Int} {w : World} (h_lv : Ro w NoX (il .i64 lv lo)) (h_yv : Ro w NoX (il .i64 yv yo)) (h1 : lo.length ≤ 1000) (h2 : yo.length ≤ 1000) :
    Calls Tryd.prog 16 #[.agg #[lv, yv], .int .i64 c] w fun e w' => ∃ v, e = .returned (.tuple #[v, .int .i64 (plE lo yo c)]) ∧ St w NoX [io .i64 (v) (olT lo yo c)] w' := by
  refine calls_in 27 Tryd.func16 rfl rfl (by simp) (fun A0 hsz0 hdf0 hargs => ?_)
  have l0_0 := hargs 0 (.agg #[lv, yv]) rfl
  have l1_0 := hargs 1 (.int .i64 c) rfl
  clear hargs; replace hsz0 : SzN A0 27 := ⟨hsz0⟩
  have hS := St.nil w
  have bh_lv := SlN.le (sl_SlN h_lv.at)
  have bh_yv := SlN.le (sl_SlN h_yv.at)
  refine wp_seq_k (fun K1 hK1 => ?_)
  -- region 0
  refine region_in ?_
  refine W_boxS (zs := #[lv, yv]) hS rfl rfl rfl l0_0 (by rfl) (fun g2 w2 c2 hc2 hS2 => ?_)
  replace hS2 : St w NoX [c2] w2 := hS2
  refine W_v rfl rfl (V_asg rfl rfl) ?_
  refine W_v rfl rfl (V_asg rfl rfl) ?_
  refine W_end ?_
  refine gen_Q (fun A3 hA3 => ?_)
  have hsz3 : SzN A3 27 := by rw [hA3]; infer_instance
  have hdf3 : A3.defers = [] := by rw [hA3]; simp only [df_put]; exact hdf0
  have l1_3 := lookE hA3 1 (es rfl (es rfl (es rfl l1_0)))
  have l2_3 := lookE hA3 2 (es rfl (es rfl (et rfl)))
  clear hA3 hsz0 hdf0 l0_0 l1_0
  refine then_n (hK1 _ _ ?_)
  clear hK1
  refine wp_seq_k (fun K4 hK4 => ?_)
  -- region 1
  refine region_in ?_
  refine W_r rfl rfl (VR_ldA rfl l2_3 (hS2.obj 0 rfl hc2) Tryd.underlying24 rfl (by kernel_rfl)) ?_
  refine W_v rfl rfl (V_mov rfl (es rfl l1_3)) ?_
  refine W_call rfl rfl rfl Tryd.func41 (by kernel_rfl) rfl (args2 (es rfl (et rfl)) (et rfl)) (qpl_c (c := c) (hS2.roC h_lv) (hS2.roC h_yv) (by first | omega | (simp; done) | (simp; omega)) (by first | omega | (simp; done) | (simp; omega))) ?_
  rintro _ w5 ⟨rfl, hP5⟩
  refine ⟨_, rfl, ?_⟩
  have hS5 := hS2.join hP5
  replace hS5 : St w NoX [c2] w5 := hS5
  refine W_v rfl rfl (V_mov rfl (et rfl)) ?_
  refine W_v rfl rfl (V_ext (v := .int .i64 ((plN lo yo c))) rfl (et rfl) rfl) ?_
  refine W_v rfl rfl (V_ext (v := .int .i64 ((plE lo yo c))) rfl (es rfl (et rfl)) rfl) ?_
  refine W_v rfl rfl (V_asg rfl (es rfl (et rfl))) ?_
  refine W_v rfl rfl (V_asg rfl (es rfl (et rfl))) ?_
  refine W_end ?_
  refine gen_Q (fun A6 hA6 => ?_)
  have hsz6 : SzN A6 27 := by rw [hA6]; infer_instance
  have hdf6 : A6.defers = [] := by rw [hA6]; simp only [df_put]; exact hdf3
  have l2_6 := lookE hA6 2 (es rfl (es rfl (es rfl (es rfl (es rfl (es rfl (es rfl (es rfl l2_3))))))))
  have l6_6 := lookE hA6 6 (es rfl (et rfl))
  have l7_6 := lookE hA6 7 (et rfl)
  clear hA6 hsz3 hdf3 l1_3 l2_3
  refine then_n (hK4 _ _ ?_)
  clear hK4
  refine wp_seq_k (fun K7 hK7 => ?_)
  refine wp_seq_k (fun K8 hK8 => ?_)
  -- region 2
  refine region_in ?_
  refine W_v rfl rfl (V_mov rfl l7_6) ?_
  refine W_v rfl rfl (V_neq rfl (et rfl) rfl) ?_
  refine W_end ?_
  refine gen_Q (fun A9 hA9 => ?_)
  have hsz9 : SzN A9 27 := by rw [hA9]; infer_instance
  have hdf9 : A9.defers = [] := by rw [hA9]; simp only [df_put]; exact hdf6
  have l2_9 := lookE hA9 2 (es rfl (es rfl l2_6))
  have l6_9 := lookE hA9 6 (es rfl (es rfl l6_6))
  have l7_9 := lookE hA9 7 (es rfl (es rfl l7_6))
  have l17_9 := lookE hA9 17 (et rfl)
  clear hA9 hsz6 hdf6 l2_6 l6_6 l7_6
  refine then_n (hK8 _ _ ?_)
  clear hK8
  refine cond_dec l17_9 (fun c10 => ?_) (fun c10 => ?_)
  · skip
    refine wp_seq_k (fun K11 hK11 => ?_)
    -- region 3
    refine region_in ?_
    refine W_v rfl rfl (V_mov rfl l7_9) ?_
    refine W_v rfl rfl (V_asg rfl rfl) ?_
    refine W_v rfl rfl (V_asg rfl (es rfl (et rfl))) ?_
    refine W_end ?_
    refine gen_Q (fun A12 hA12 => ?_)
    have hsz12 : SzN A12 27 := by rw [hA12]; infer_instance
    have hdf12 : A12.defers = [] := by rw [hA12]; simp only [df_put]; exact hdf9
    have l4_12 := lookE hA12 4 (es rfl (et rfl))
    have l5_12 := lookE hA12 5 (et rfl)
    clear hA12 hsz9 hdf9 l2_9 l6_9 l7_9 l17_9
    have hS13 : St w NoX [] w5 := hS5.sel [] (by decide) rfl
    refine then_n (hK11 _ _ ?_)
    clear hK11
    refine wp_ret ?_
    refine then_ret ?_
    refine ret_in (results_2 Tryd.results16 (rv_tmp l4_12) (rv_tmp l5_12)) hdf12 ?_
    -- leaf T
    obtain ⟨c14, hc14, hS14⟩ := hS13.pnil (s := 1)
    exact ⟨_, rfl, (hS14.fin1 0 rfl (hc14.trans (by rw [olT_err c10] <;> rfl)))⟩
  · skip
    have h0 : plE lo yo c = 0 := by simpa using c10
    have hgood := chk_pl h0
    have p0 := pl_at h0
    have p1 := pl_lt h0
    have oT : ordT lo yo = lo ++ yo := ordT_ok hgood
    have oL : (ordT lo yo).length = lo.length + yo.length := by rw [oT, List.length_append]
    refine wp_skip ?_
    refine then_n (hK7 _ _ ?_)
    clear hK7
    refine wp_seq_k (fun K15 hK15 => ?_)
    -- region 4
    refine region_in ?_
    refine W_r rfl rfl (VR_ldA rfl l2_9 (hS5.obj 0 rfl hc2) Tryd.underlying24 rfl (by kernel_rfl)) ?_
    refine W_call rfl rfl rfl Tryd.func35 (by kernel_rfl) rfl (args1 (et rfl)) (qOrd_c (hS5.roC h_lv) (hS5.roC h_yv) (by first | omega | (simp; done) | (simp; omega)) (by first | omega | (simp; done) | (simp; omega))) ?_
    rintro _ w16 ⟨v_16, rfl, hP16⟩
    refine ⟨_, rfl, ?_⟩
    obtain ⟨c_16, hc_16, hP16⟩ := gen1 hP16
    have hS16 := hS5.join hP16
    replace hS16 : St w NoX [c_16, c2] w16 := hS16
    refine W_v rfl rfl (V_mov rfl (et rfl)) ?_
    refine W_v rfl rfl (V_ext (v := v_16) rfl (et rfl) rfl) ?_
    refine W_v rfl rfl (V_ext (v := .int .i64 ((chk lo yo).2.2)) rfl (es rfl (et rfl)) rfl) ?_
    refine W_v rfl rfl (V_asg rfl (es rfl (et rfl))) ?_
    refine W_v rfl rfl (V_asg rfl (es rfl (et rfl))) ?_
    refine W_end ?_
    refine gen_Q (fun A17 hA17 => ?_)
    have hsz17 : SzN A17 27 := by rw [hA17]; infer_instance
    have hdf17 : A17.defers = [] := by rw [hA17]; simp only [df_put]; exact hdf9
    have l6_17 := lookE hA17 6 (es rfl (es rfl (es rfl (es rfl (es rfl (es rfl (es rfl l6_9)))))))
    have l8_17 := lookE hA17 8 (es rfl (et rfl))
    clear hA17 hsz9 hdf9 l2_9 l6_9 l7_9 l17_9
    have hS18 : St w NoX [c_16] w16 := hS16.sel [0] (by decide) rfl
    refine then_n (hK15 _ _ ?_)
    clear hK15
    refine wp_seq_k (fun K19 hK19 => ?_)
    -- region 5
    refine region_in ?_
    refine W_v rfl rfl (V_mov rfl l8_17) ?_
    refine W_v rfl rfl (V_mov rfl (es rfl l6_17)) ?_
    have k20 : 0 ≤ (plN lo yo c).toNat := by omega
    have m20 : (plN lo yo c).toNat ≤ (ordT lo yo).length := by omega
    obtain ⟨c20, hc20, hS20⟩ := hS18.sub 0 rfl hc_16 (0) ((plN lo yo c).toNat) k20 m20
    replace hc20 : c20 = io .i64 (subS 1 v_16 0 ((plN lo yo c).toNat)) ((ordT lo yo).take ((plN lo yo c).toNat)) := hc20.trans (part_eq k20 m20 (by simp))
    replace hS20 : St w NoX [c20] w16 := hS20
    refine W_v rfl rfl (V_subS 1 (0) ((plN lo yo c).toNat) rfl (es rfl (et rfl)) (.inl ⟨rfl, rfl⟩) (.inr ⟨_, _, rfl, (et rfl), by omega⟩) Tryd.underlying22 (by kernel_rfl) (ow_at (hS18.chq 0 rfl hc_16)) k20 m20) ?_
    refine W_v rfl rfl (V_asg rfl (et rfl)) ?_
    refine W_v rfl rfl (V_asg rfl rfl) ?_
    refine W_end ?_
    refine gen_Q (fun A21 hA21 => ?_)
    have hsz21 : SzN A21 27 := by rw [hA21]; infer_instance
    have hdf21 : A21.defers = [] := by rw [hA21]; simp only [df_put]; exact hdf17
    have l4_21 := lookE hA21 4 (es rfl (et rfl))
    have l5_21 := lookE hA21 5 (et rfl)
    clear hA21 hsz17 hdf17 l6_17 l8_17
    refine then_n (hK19 _ _ ?_)
    clear hK19
    refine wp_ret ?_
    refine ret_in (results_2 Tryd.results16 (rv_tmp l4_21) (rv_tmp l5_21)) hdf21 ?_
    -- leaf F
    rw [h0]
    exact ⟨_, rfl, (hS20.fin1 0 rfl (hc20.trans (by rw [olT_ok h0, oT])))⟩

set_option maxHeartbeats 4000000 in
theorem kExt_c {lv : Value} {lo : List Int} {yv : Value} {yo : List Int} {a : Int} {b : Int} {gT0 : Nat} {w : World} (h_lv : Ro w NoX (il .i64 lv lo)) (h_yv : Ro w NoX (il .i64 yv yo)) (hG0 : Ro w NoX (bx 0 gT0 #[.int .i64 (-1), .int .i64 (-1)]))  :
    Calls Tryd.prog 20 #[.agg #[lv, yv], .int .i64 a, .int .i64 b] w fun e w' => e = .returned (.tuple #[.bool (exB lo yo a b), .int .i64 (exE lo yo a b)]) ∧ St w NoX [] w' := by
  refine calls_in 49 Tryd.func20 rfl rfl (by simp) (fun A0 hsz0 hdf0 hargs => ?_)
  have l0_0 := hargs 0 (.agg #[lv, yv]) rfl
  have l1_0 := hargs 1 (.int .i64 a) rfl
  have l2_0 := hargs 2 (.int .i64 b) rfl
  clear hargs; replace hsz0 : SzN A0 49 := ⟨hsz0⟩
  have hS := St.nil w
  have bh_lv := SlN.le (sl_SlN h_lv.at)
  have bh_yv := SlN.le (sl_SlN h_yv.at)
  refine wp_seq_k (fun K1 hK1 => ?_)
  -- region 0
  refine region_in ?_
  refine W_boxS (zs := #[lv, yv]) hS rfl rfl rfl l0_0 (by rfl) (fun g2 w2 c2 hc2 hS2 => ?_)
  replace hS2 : St w NoX [c2] w2 := hS2
  refine W_v rfl rfl (V_asg rfl rfl) ?_
  refine W_v rfl rfl (V_asg rfl rfl) ?_
  refine W_end ?_
  refine gen_Q (fun A3 hA3 => ?_)
  have hsz3 : SzN A3 49 := by rw [hA3]; infer_instance
  have hdf3 : A3.defers = [] := by rw [hA3]; simp only [df_put]; exact hdf0
  have l1_3 := lookE hA3 1 (es rfl (es rfl (es rfl l1_0)))
  have l2_3 := lookE hA3 2 (es rfl (es rfl (es rfl l2_0)))
  have l3_3 := lookE hA3 3 (es rfl (es rfl (et rfl)))
  clear hA3 hsz0 hdf0 l0_0 l1_0 l2_0
  refine then_n (hK1 _ _ ?_)
  clear hK1
  refine wp_seq_k (fun K4 hK4 => ?_)
  -- region 1
  refine region_in ?_
  refine W_v rfl rfl (V_mov rfl l2_3) ?_
  have hll5 : [b].length = 1 := rfl
  refine W_litS (vs := [.int .i64 (b)]) (xs := ([b].map (Value.int .i64))) 1 hS2 rfl rfl rfl (parts1 (et rfl)) rfl Tryd.underlying22 (by kernel_rfl) (by decide) (by intro v hv; simp only [List.mem_cons, List.not_mem_nil, or_false] at hv; rcases hv with rfl <;> rfl) (by rfl) (fun g5 w5 c5 hc5 hS5 => ?_)
  replace hc5 : c5 = io .i64 (.slice (some ⟨g5, 0, none⟩) 1 1) [b] := hc5
  replace hS5 : St w NoX [c5, c2] w5 := hS5
  refine W_v rfl rfl (V_asg rfl (et rfl)) ?_
  refine W_end ?_
  refine gen_Q (fun A6 hA6 => ?_)
  have hsz6 : SzN A6 49 := by rw [hA6]; infer_instance
  have hdf6 : A6.defers = [] := by rw [hA6]; simp only [df_put]; exact hdf3
  have l1_6 := lookE hA6 1 (es rfl (es rfl (es rfl l1_3)))
  have l2_6 := lookE hA6 2 (es rfl (es rfl (es rfl l2_3)))
  have l3_6 := lookE hA6 3 (es rfl (es rfl (es rfl l3_3)))
  have l8_6 := lookE hA6 8 (et rfl)
  clear hA6 hsz3 hdf3 l1_3 l2_3 l3_3
  refine then_n (hK4 _ _ ?_)
  clear hK4
  refine wp_seq_k (fun K7 hK7 => ?_)
  refine wp_seq_k (fun K8 hK8 => ?_)
  -- region 2
  refine region_in ?_
  refine W_v rfl rfl (V_mov rfl l1_6) ?_
  refine W_v rfl rfl (V_neq rfl (et rfl) rfl) ?_
  refine W_end ?_
  refine gen_Q (fun A9 hA9 => ?_)
  have hsz9 : SzN A9 49 := by rw [hA9]; infer_instance
  have hdf9 : A9.defers = [] := by rw [hA9]; simp only [df_put]; exact hdf6
  have l1_9 := lookE hA9 1 (es rfl (es rfl l1_6))
  have l2_9 := lookE hA9 2 (es rfl (es rfl l2_6))
  have l3_9 := lookE hA9 3 (es rfl (es rfl l3_6))
  have l8_9 := lookE hA9 8 (es rfl (es rfl l8_6))
  have l15_9 := lookE hA9 15 (et rfl)
  clear hA9 hsz6 hdf6 l1_6 l2_6 l3_6 l8_6
  refine then_n (hK8 _ _ ?_)
  clear hK8
  refine cond_dec l15_9 (fun c10 => ?_) (fun c10 => ?_)
  · skip
    -- region 3
    refine region_in ?_
    refine W_v rfl rfl (V_mov rfl l8_9) ?_
    refine W_v rfl rfl (V_mov rfl (es rfl l1_9)) ?_
    have hll11 : [a].length = 1 := rfl
    refine W_litS (vs := [.int .i64 (a)]) (xs := ([a].map (Value.int .i64))) 1 hS5 rfl rfl rfl (parts1 (et rfl)) rfl Tryd.underlying22 (by kernel_rfl) (by decide) (by intro v hv; simp only [List.mem_cons, List.not_mem_nil, or_false] at hv; rcases hv with rfl <;> rfl) (by rfl) (fun g11 w11 c11 hc11 hS11 => ?_)
    replace hc11 : c11 = io .i64 (.slice (some ⟨g11, 0, none⟩) 1 1) [a] := hc11
    replace hS11 : St w NoX [c11, c5, c2] w11 := hS11
    refine W_appS 1 1 hS11 rfl hc5 rfl rfl rfl (es rfl (es rfl (et rfl))) (et rfl) Tryd.underlying22 Tryd.underlying22 (z := .int .i64 0) (bytes := 8) (by kernel_rfl) rfl (by decide) (ow_at (hS11.chq 0 rfl hc11)) ones_i (by first | omega | (simp; done) | (simp; omega)) (by first | omega | (simp; done) | (simp; omega)) (fun v12 w12 c12 hc12 hS12 => ?_)
    replace hc12 : c12 = io .i64 v12 ([b] ++ [a]) := hc12.trans (app_eq (by simp))
    replace hS12 : St w NoX [c11, c12, c2] w12 := hS12
    refine W_v rfl rfl (V_asg rfl (et rfl)) ?_
    refine W_end ?_
    refine gen_Q (fun A13 hA13 => ?_)
    have hsz13 : SzN A13 49 := by rw [hA13]; infer_instance
    have hdf13 : A13.defers = [] := by rw [hA13]; simp only [df_put]; exact hdf9
    have l1_13 := lookE hA13 1 (es rfl (es rfl (es rfl (es rfl (es rfl l1_9)))))
    have l2_13 := lookE hA13 2 (es rfl (es rfl (es rfl (es rfl (es rfl l2_9)))))
    have l3_13 := lookE hA13 3 (es rfl (es rfl (es rfl (es rfl (es rfl l3_9)))))
    have l8_13 := lookE hA13 8 (et rfl)
    clear hA13 hsz9 hdf9 l1_9 l2_9 l3_9 l8_9 l15_9
    have hS14 : St w NoX [c12, c2] w12 := hS12.sel [1, 2] (by decide) rfl
    refine then_n (hK7 _ _ ?_)
    clear hK7
    refine wp_seq_k (fun K15 hK15 => ?_)
    -- region 4
    refine region_in ?_
    refine W_r rfl rfl (VR_ldA rfl l3_13 (hS14.obj 1 rfl hc2) Tryd.underlying24 rfl (by kernel_rfl)) ?_
    refine W_v rfl rfl (V_mov rfl (es rfl l8_13)) ?_
    refine W_call rfl rfl rfl Tryd.func38 (by kernel_rfl) rfl (args2 (es rfl (et rfl)) (et rfl)) (kof_c (hS14.roC h_lv) (hS14.roC h_yv) (hS14.chC 0 rfl hc12).own (hS14.roC hG0) ) ?_
    rintro _ w16 ⟨rfl, hP16⟩
    refine ⟨_, rfl, ?_⟩
    have hS16 := hS14.join hP16
    replace hS16 : St w NoX [c12, c2] w16 := hS16
    refine W_v rfl rfl (V_mov rfl (et rfl)) ?_
    refine W_v rfl rfl (V_ext (v := .agg (((ofT lo yo ([b] ++ [a])).flatMap rkC).toArray)) rfl (et rfl) rfl) ?_
    refine W_v rfl rfl (V_ext (v := .int .i64 ((ofE lo yo ([b] ++ [a])))) rfl (es rfl (et rfl)) rfl) ?_
    refine W_allocS (z := .agg (((List.replicate 24 (0, 0)).flatMap rkC).toArray)) (zs := ((((List.replicate 24 (0, 0)).flatMap rkC).toArray))) hS16 rfl rfl rfl (by kernel_rfl) (by rfl) (fun g17 w17 c17 hc17 hS17 => ?_)
    replace hS17 : St w NoX [c17, c12, c2] w17 := hS17
    refine W_stAS 0 hS17 rfl hc17 rfl rfl rfl (et rfl) (es rfl (es rfl (et rfl))) (arrR_one rkC_one) (arrR_sz rkC_len List.length_replicate (ofT_len _ _ _)) (arrR_info rkC_len (ofT_len _ _ _) (by kernel_rfl)) (fun w18 c18 hc18 hS18 => ?_)
    replace hS18 : St w NoX [c18, c12, c2] w18 := hS18
    refine W_v rfl rfl (V_asg rfl (es rfl (et rfl))) ?_
    refine W_end ?_
    refine gen_Q (fun A19 hA19 => ?_)
    have hsz19 : SzN A19 49 := by rw [hA19]; infer_instance
    have hdf19 : A19.defers = [] := by rw [hA19]; simp only [df_put]; exact hdf13
    have l1_19 := lookE hA19 1 (es rfl (es rfl (es rfl (es rfl (es rfl (es rfl (es rfl (es rfl l1_13))))))))
    have l2_19 := lookE hA19 2 (es rfl (es rfl (es rfl (es rfl (es rfl (es rfl (es rfl (es rfl l2_13))))))))
    have l9_19 := lookE hA19 9 (es rfl (et rfl))
    have l10_19 := lookE hA19 10 (et rfl)
    clear hA19 hsz13 hdf13 l1_13 l2_13 l3_13 l8_13
    have hS20 : St w NoX [c18] w18 := hS18.sel [0] (by decide) rfl
    refine then_n (hK15 _ _ ?_)
    clear hK15
    refine wp_seq_k (fun K21 hK21 => ?_)
    refine wp_seq_k (fun K22 hK22 => ?_)
    -- region 5
    refine region_in ?_
    refine W_v rfl rfl (V_mov rfl l10_19) ?_
    refine W_v rfl rfl (V_neq rfl (et rfl) rfl) ?_
    refine W_end ?_
    refine gen_Q (fun A23 hA23 => ?_)
    have hsz23 : SzN A23 49 := by rw [hA23]; infer_instance
    have hdf23 : A23.defers = [] := by rw [hA23]; simp only [df_put]; exact hdf19
    have l1_23 := lookE hA23 1 (es rfl (es rfl l1_19))
    have l2_23 := lookE hA23 2 (es rfl (es rfl l2_19))
    have l9_23 := lookE hA23 9 (es rfl (es rfl l9_19))
    have l10_23 := lookE hA23 10 (es rfl (es rfl l10_19))
    have l27_23 := lookE hA23 27 (et rfl)
    clear hA23 hsz19 hdf19 l1_19 l2_19 l9_19 l10_19
    refine then_n (hK22 _ _ ?_)
    clear hK22
    refine cond_dec l27_23 (fun c24 => ?_) (fun c24 => ?_)
    · skip
      refine wp_seq_k (fun K25 hK25 => ?_)
      -- region 6
      refine region_in ?_
      refine W_v rfl rfl (V_mov rfl l10_23) ?_
      refine W_v rfl rfl (V_asg rfl rfl) ?_
      refine W_v rfl rfl (V_asg rfl (es rfl (et rfl))) ?_
      refine W_end ?_
      refine gen_Q (fun A26 hA26 => ?_)
      have hsz26 : SzN A26 49 := by rw [hA26]; infer_instance
      have hdf26 : A26.defers = [] := by rw [hA26]; simp only [df_put]; exact hdf23
      have l6_26 := lookE hA26 6 (es rfl (et rfl))
      have l7_26 := lookE hA26 7 (et rfl)
      clear hA26 hsz23 hdf23 l1_23 l2_23 l9_23 l10_23 l27_23
      have hS27 : St w NoX [] w18 := hS20.sel [] (by decide) rfl
      refine then_n (hK25 _ _ ?_)
      clear hK25
      refine wp_ret ?_
      refine then_ret ?_
      refine ret_in (results_2 Tryd.results20 (rv_tmp l6_26) (rv_tmp l7_26)) hdf26 ?_
      -- leaf TT
      have e1 : exE lo yo a b = (ofE lo yo ([b] ++ [a])) := by exact exE_two c10
      have e0 : exB lo yo a b = false := by exact exB_err (by rw [e1]; exact c24)
      rw [e1, e0]
      exact ⟨rfl, hS27.fin0⟩
    · skip
      have hE : ofE lo yo [b, a] = 0 := by simpa using c24
      have hk_b := ofE_mem hE (c := b) (by simp)
      have hk_a := ofE_mem hE (c := a) (by simp)
      have hrb := (chkE_ok hk_b).2.2
      have hra := (chkE_ok hk_a).2.2
      refine wp_skip ?_
      refine then_n (hK21 _ _ ?_)
      clear hK21
      refine wp_seq_k (fun K28 hK28 => ?_)
      -- region 7
      refine region_in ?_
      refine W_r rfl rfl (VR_ldA rfl rfl (ob_at (hS20.ro hG0)) Tryd.underlying50 rfl (by kernel_rfl)) ?_
      refine W_allocS (z := .agg #[.int .i64 0, .int .i64 0]) (zs := #[.int .i64 0, .int .i64 0]) hS20 rfl rfl rfl (by kernel_rfl) (by rfl) (fun g29 w29 c29 hc29 hS29 => ?_)
      replace hS29 : St w NoX [c29, c18] w29 := hS29
      refine W_stAS 0 hS29 rfl hc29 rfl rfl rfl (et rfl) (es rfl (et rfl)) (by first | (rw [List.all_toArray] <;> rfl) | (simp only [List.all_toArray, List.all_cons, List.all_nil] <;> rfl)) (by rfl) (by kernel_rfl) (fun w30 c30 hc30 hS30 => ?_)
      replace hS30 : St w NoX [c30, c18] w30 := hS30
      refine W_end ?_
      refine gen_Q (fun A31 hA31 => ?_)
      have hsz31 : SzN A31 49 := by rw [hA31]; infer_instance
      have hdf31 : A31.defers = [] := by rw [hA31]; simp only [df_put]; exact hdf23
      have l1_31 := lookE hA31 1 (es rfl (es rfl l1_23))
      have l2_31 := lookE hA31 2 (es rfl (es rfl l2_23))
      have l9_31 := lookE hA31 9 (es rfl (es rfl l9_23))
      have l11_31 := lookE hA31 11 (et rfl)
      clear hA31 hsz23 hdf23 l1_23 l2_23 l9_23 l10_23 l27_23
      refine then_n (hK28 _ _ ?_)
      clear hK28
      refine wp_seq_k (fun K32 hK32 => ?_)
      refine wp_seq_k (fun K33 hK33 => ?_)
      -- region 8
      refine region_in ?_
      refine W_v rfl rfl (V_mov rfl l1_31) ?_
      refine W_v rfl rfl (V_neq rfl (et rfl) rfl) ?_
      refine W_end ?_
      refine gen_Q (fun A34 hA34 => ?_)
      have hsz34 : SzN A34 49 := by rw [hA34]; infer_instance
      have hdf34 : A34.defers = [] := by rw [hA34]; simp only [df_put]; exact hdf31
      have l1_34 := lookE hA34 1 (es rfl (es rfl l1_31))
      have l2_34 := lookE hA34 2 (es rfl (es rfl l2_31))
      have l9_34 := lookE hA34 9 (es rfl (es rfl l9_31))
      have l11_34 := lookE hA34 11 (es rfl (es rfl l11_31))
      have l31_34 := lookE hA34 31 (et rfl)
      clear hA34 hsz31 hdf31 l1_31 l2_31 l9_31 l11_31
      refine then_n (hK33 _ _ ?_)
      clear hK33
      refine cond_sure l31_34 (by simp [c10]) ?_
      -- region 9
      refine region_in ?_
      refine W_v rfl rfl (V_mov rfl l1_34) ?_
      have k35 : a.toNat < 24 := by omega
      refine W_v rfl rfl (V_ixA (sz := 2) (off' := a.toNat * 2) (a.toNat) rfl (es rfl l9_34) (et rfl) (by omega) Tryd.underlying60 k35 (by kernel_rfl) (by omega)) ?_
      obtain ⟨y36, hy36⟩ := get_some (xs := (ofT lo yo ([b] ++ [a]))) (k := a.toNat) (by rw [(ofT_len _ _ _)]; omega)
      have hr36 := ofT_row hE hk_a hy36
      refine W_r rfl rfl (VR_ldP (ys := rkC y36) rfl (et rfl) (hS30.obj 1 rfl hc18) (arrR_at rkC_len hy36) Tryd.underlying50 rfl (by kernel_rfl)) ?_
      refine W_stAS 0 hS30 rfl hc30 rfl rfl rfl (es rfl (es rfl (es rfl l11_34))) (et rfl) (by first | (rw [List.all_toArray] <;> rfl) | (simp only [List.all_toArray, List.all_cons, List.all_nil] <;> rfl)) (by rfl) (by kernel_rfl) (fun w37 c37 hc37 hS37 => ?_)
      replace hS37 : St w NoX [c37, c18] w37 := hS37
      refine W_end ?_
      refine gen_Q (fun A38 hA38 => ?_)
      have hsz38 : SzN A38 49 := by rw [hA38]; infer_instance
      have hdf38 : A38.defers = [] := by rw [hA38]; simp only [df_put]; exact hdf34
      have l2_38 := lookE hA38 2 (es rfl (es rfl (es rfl l2_34)))
      have l9_38 := lookE hA38 9 (es rfl (es rfl (es rfl l9_34)))
      have l11_38 := lookE hA38 11 (es rfl (es rfl (es rfl l11_34)))
      clear hA38 hsz34 hdf34 l1_34 l2_34 l9_34 l11_34 l31_34
      refine then_n (hK32 _ _ ?_)
      clear hK32
      refine wp_seq_k (fun K39 hK39 => ?_)
      -- region 10
      refine region_monoS 16 16 [] (by kernel_rfl) (by kernel_rfl) ?_
      refine D_v rfl rfl (V_mov rfl l2_38) rfl rfl ?_
      have k40 : b.toNat < 24 := by omega
      refine D_v rfl rfl (V_ixA (sz := 2) (off' := b.toNat * 2) (b.toNat) rfl (es rfl l9_38) (et rfl) (by omega) Tryd.underlying60 k40 (by kernel_rfl) (by omega)) rfl rfl ?_
      obtain ⟨y41, hy41⟩ := get_some (xs := (ofT lo yo ([b] ++ [a]))) (k := b.toNat) (by rw [(ofT_len _ _ _)]; omega)
      have hr41 := ofT_row hE hk_b hy41
      refine D_r rfl rfl (by kernel_rfl) (fun sx hx hF => (VR_ldP (ys := rkC y41) rfl (et rfl) ((hS37.grow hx).obj 1 rfl hc18) (arrR_at rkC_len hy41) Tryd.underlying50 rfl (by kernel_rfl))) rfl rfl ?_
      refine D_r rfl rfl (by kernel_rfl) (fun sx hx hF => (VR_ldA rfl rfl (ob_at ((hS37.grow hx).ro hG0)) Tryd.underlying50 rfl (by kernel_rfl))) rfl rfl ?_
      refine D_v rfl rfl (V_neSt2 rfl (es rfl (et rfl)) (et rfl) (by kernel_rfl)) rfl rfl ?_
      refine D_split rfl rfl (V_mov rfl (et rfl)) rfl rfl (fun c42 => ?_) (fun c42 => ?_)
      · skip
        refine D_v rfl (wanted_t rfl rfl (et rfl) (ez rfl)) (V_fa (off' := 0) rfl (es rfl (es rfl (es rfl (es rfl (es rfl (es rfl l11_38)))))) Tryd.underlying50 rfl (by decide) rfl) rfl rfl ?_
        refine D_r rfl (wanted_t rfl rfl (es rfl (et rfl)) (ez rfl)) (by kernel_rfl) (fun sx hx hF => (VR_ldC rfl (et rfl) (cell_box (v := .int .i64 (y36.1)) ((hS37.grow hx).obj 0 rfl hc37) rfl) Tryd.underlying3 rfl)) rfl rfl ?_
        refine D_v rfl (wanted_t rfl rfl (es rfl (es rfl (et rfl))) (ez rfl)) (V_mov rfl (es rfl (es rfl (es rfl (es rfl (es rfl (es rfl (es rfl (es rfl l2_38))))))))) rfl rfl ?_
        have k43 : b.toNat < 24 := by omega
        refine D_v rfl (wanted_t rfl rfl (es rfl (es rfl (es rfl (et rfl)))) (ez rfl)) (V_ixA (sz := 2) (off' := b.toNat * 2) (b.toNat) rfl (es rfl (es rfl (es rfl (es rfl (es rfl (es rfl (es rfl (es rfl (es rfl l9_38))))))))) (et rfl) (by omega) Tryd.underlying60 k43 (by kernel_rfl) (by omega)) rfl rfl ?_
        refine D_v rfl (wanted_t rfl rfl (es rfl (es rfl (es rfl (es rfl (et rfl))))) (ez rfl)) (V_fa (off' := b.toNat * 2 + 0) rfl (et rfl) Tryd.underlying50 rfl (by decide) rfl) rfl rfl ?_
        refine D_r rfl (wanted_t rfl rfl (es rfl (es rfl (es rfl (es rfl (es rfl (et rfl)))))) (ez rfl)) (by kernel_rfl) (fun sx hx hF => (VR_ldC (v := .int .i64 (y41.1)) rfl (et rfl) (cell_box ((hS37.grow hx).obj 1 rfl hc18) (arrR_at rkC_len hy41 0 _ rfl)) Tryd.underlying3 rfl)) rfl rfl ?_
        refine D_v rfl (wanted_t rfl rfl (es rfl (es rfl (es rfl (es rfl (es rfl (es rfl (et rfl))))))) (ez rfl)) (V_neq rfl (es rfl (es rfl (es rfl (es rfl (et rfl))))) (et rfl)) rfl rfl ?_
        refine D_v rfl rfl (V_pickT rfl (es rfl (es rfl (es rfl (es rfl (es rfl (es rfl (es rfl (et rfl)))))))) (et rfl)) rfl rfl ?_
        refine D_v rfl rfl (V_asg rfl (et rfl)) rfl rfl ?_
        refine D_v rfl rfl (V_asg rfl rfl) rfl rfl ?_
        refine ZS_none hS37 (Nat.le_refl _) (Nat.le_refl _) (fun s45 hJ45 hL45 hF45 => ?_)
        have hS45 := hJ45.st; clear hF45 hJ45 hL45
        generalize s45.1 = w45 at *
        replace hS45 : St w NoX [c37, c18] w45 := hS45
        refine gen_Q (fun A46 hA46 => ?_)
        have hsz46 : SzN A46 49 := by rw [hA46]; infer_instance
        have hdf46 : A46.defers = [] := by rw [hA46]; simp only [df_put]; exact hdf38
        have l6_46 := lookE hA46 6 (es rfl (et rfl))
        have l7_46 := lookE hA46 7 (et rfl)
        clear hA46 hsz38 hdf38 l2_38 l9_38 l11_38
        have hS47 : St w NoX [] w45 := hS45.sel [] (by decide) rfl
        refine then_n (hK39 _ _ ?_)
        clear hK39
        refine wp_ret ?_
        refine ret_in (results_2 Tryd.results20 (rv_tmp l6_46) (rv_tmp l7_46)) hdf46 ?_
        -- leaf TFT
        have e1 : exE lo yo a b = 0 := by exact (exE_two c10).trans hE
        have e0 : exB lo yo a b = decide (y36.1 ≠ y41.1) := by
          rw [exB_ok e1]; unfold exX; have fhr36 := congrArg Prod.fst hr36; have ghr36 := congrArg Prod.snd hr36; have fhr41 := congrArg Prod.fst hr41; have ghr41 := congrArg Prod.snd hr41; have qb := rkR_pair hk_b; split <;> first | (refine decide_eq_decide.2 ?_; omega) | (refine decide_eq_false ?_; omega)
        rw [e1, e0]
        exact ⟨rfl, hS47.fin0⟩
      · skip
        refine D_off rfl (wanted_f rfl rfl (et rfl) (ez rfl) rfl) rfl ?_
        refine D_off rfl (wanted_f rfl rfl (es rfl (et rfl)) (ez rfl) rfl) rfl ?_
        refine D_off rfl (wanted_f rfl rfl (es rfl (es rfl (et rfl))) (ez rfl) rfl) rfl ?_
        refine D_off rfl (wanted_f rfl rfl (es rfl (es rfl (es rfl (et rfl)))) (ez rfl) rfl) rfl ?_
        refine D_off rfl (wanted_f rfl rfl (es rfl (es rfl (es rfl (es rfl (et rfl))))) (ez rfl) rfl) rfl ?_
        refine D_off rfl (wanted_f rfl rfl (es rfl (es rfl (es rfl (es rfl (es rfl (et rfl)))))) (ez rfl) rfl) rfl ?_
        refine D_off rfl (wanted_f rfl rfl (es rfl (es rfl (es rfl (es rfl (es rfl (es rfl (et rfl))))))) (ez rfl) rfl) rfl ?_
        refine D_v rfl rfl (V_pickF rfl (es rfl (es rfl (es rfl (es rfl (es rfl (es rfl (es rfl (et rfl)))))))) rfl) rfl rfl ?_
        refine D_v rfl rfl (V_asg rfl (et rfl)) rfl rfl ?_
        refine D_v rfl rfl (V_asg rfl rfl) rfl rfl ?_
        refine ZS_none hS37 (Nat.le_refl _) (Nat.le_refl _) (fun s48 hJ48 hL48 hF48 => ?_)
        have hS48 := hJ48.st; clear hF48 hJ48 hL48
        generalize s48.1 = w48 at *
        replace hS48 : St w NoX [c37, c18] w48 := hS48
        refine gen_Q (fun A49 hA49 => ?_)
        have hsz49 : SzN A49 49 := by rw [hA49]; infer_instance
        have hdf49 : A49.defers = [] := by rw [hA49]; simp only [df_put]; exact hdf38
        have l6_49 := lookE hA49 6 (es rfl (et rfl))
        have l7_49 := lookE hA49 7 (et rfl)
        clear hA49 hsz38 hdf38 l2_38 l9_38 l11_38
        have hS50 : St w NoX [] w48 := hS48.sel [] (by decide) rfl
        refine then_n (hK39 _ _ ?_)
        clear hK39
        refine wp_ret ?_
        refine ret_in (results_2 Tryd.results20 (rv_tmp l6_49) (rv_tmp l7_49)) hdf49 ?_
        -- leaf TFF
        have e1 : exE lo yo a b = 0 := by exact (exE_two c10).trans hE
        have e0 : exB lo yo a b = false := by
          rw [exB_ok e1]; unfold exX; have fhr36 := congrArg Prod.fst hr36; have ghr36 := congrArg Prod.snd hr36; have fhr41 := congrArg Prod.fst hr41; have ghr41 := congrArg Prod.snd hr41; have qb := rkR_pair hk_b; split <;> first | (refine decide_eq_decide.2 ?_; omega) | (refine decide_eq_false ?_; omega)
        rw [e1, e0]
        exact ⟨rfl, hS50.fin0⟩
  · skip
    refine wp_skip ?_
    refine then_n (hK7 _ _ ?_)
    clear hK7
    refine wp_seq_k (fun K51 hK51 => ?_)
    -- region 4
    refine region_in ?_
    refine W_r rfl rfl (VR_ldA rfl l3_9 (hS5.obj 1 rfl hc2) Tryd.underlying24 rfl (by kernel_rfl)) ?_
    refine W_v rfl rfl (V_mov rfl (es rfl l8_9)) ?_
    refine W_call rfl rfl rfl Tryd.func38 (by kernel_rfl) rfl (args2 (es rfl (et rfl)) (et rfl)) (kof_c (hS5.roC h_lv) (hS5.roC h_yv) (hS5.chC 0 rfl hc5).own (hS5.roC hG0) ) ?_
    rintro _ w52 ⟨rfl, hP52⟩
    refine ⟨_, rfl, ?_⟩
    have hS52 := hS5.join hP52
    replace hS52 : St w NoX [c5, c2] w52 := hS52
    refine W_v rfl rfl (V_mov rfl (et rfl)) ?_
    refine W_v rfl rfl (V_ext (v := .agg (((ofT lo yo [b]).flatMap rkC).toArray)) rfl (et rfl) rfl) ?_
    refine W_v rfl rfl (V_ext (v := .int .i64 ((ofE lo yo [b]))) rfl (es rfl (et rfl)) rfl) ?_
    refine W_allocS (z := .agg (((List.replicate 24 (0, 0)).flatMap rkC).toArray)) (zs := ((((List.replicate 24 (0, 0)).flatMap rkC).toArray))) hS52 rfl rfl rfl (by kernel_rfl) (by rfl) (fun g53 w53 c53 hc53 hS53 => ?_)
    replace hS53 : St w NoX [c53, c5, c2] w53 := hS53
    refine W_stAS 0 hS53 rfl hc53 rfl rfl rfl (et rfl) (es rfl (es rfl (et rfl))) (arrR_one rkC_one) (arrR_sz rkC_len List.length_replicate (ofT_len _ _ _)) (arrR_info rkC_len (ofT_len _ _ _) (by kernel_rfl)) (fun w54 c54 hc54 hS54 => ?_)
    replace hS54 : St w NoX [c54, c5, c2] w54 := hS54
    refine W_v rfl rfl (V_asg rfl (es rfl (et rfl))) ?_
    refine W_end ?_
    refine gen_Q (fun A55 hA55 => ?_)
    have hsz55 : SzN A55 49 := by rw [hA55]; infer_instance
    have hdf55 : A55.defers = [] := by rw [hA55]; simp only [df_put]; exact hdf9
    have l1_55 := lookE hA55 1 (es rfl (es rfl (es rfl (es rfl (es rfl (es rfl (es rfl (es rfl l1_9))))))))
    have l2_55 := lookE hA55 2 (es rfl (es rfl (es rfl (es rfl (es rfl (es rfl (es rfl (es rfl l2_9))))))))
    have l9_55 := lookE hA55 9 (es rfl (et rfl))
    have l10_55 := lookE hA55 10 (et rfl)
    clear hA55 hsz9 hdf9 l1_9 l2_9 l3_9 l8_9 l15_9
    have hS56 : St w NoX [c54] w54 := hS54.sel [0] (by decide) rfl
    refine then_n (hK51 _ _ ?_)
    clear hK51
    refine wp_seq_k (fun K57 hK57 => ?_)
    refine wp_seq_k (fun K58 hK58 => ?_)
    -- region 5
    refine region_in ?_
    refine W_v rfl rfl (V_mov rfl l10_55) ?_
    refine W_v rfl rfl (V_neq rfl (et rfl) rfl) ?_
    refine W_end ?_
    refine gen_Q (fun A59 hA59 => ?_)
    have hsz59 : SzN A59 49 := by rw [hA59]; infer_instance
    have hdf59 : A59.defers = [] := by rw [hA59]; simp only [df_put]; exact hdf55
    have l1_59 := lookE hA59 1 (es rfl (es rfl l1_55))
    have l2_59 := lookE hA59 2 (es rfl (es rfl l2_55))
    have l9_59 := lookE hA59 9 (es rfl (es rfl l9_55))
    have l10_59 := lookE hA59 10 (es rfl (es rfl l10_55))
    have l27_59 := lookE hA59 27 (et rfl)
    clear hA59 hsz55 hdf55 l1_55 l2_55 l9_55 l10_55
    refine then_n (hK58 _ _ ?_)
    clear hK58
    refine cond_dec l27_59 (fun c60 => ?_) (fun c60 => ?_)
    · skip
      refine wp_seq_k (fun K61 hK61 => ?_)
      -- region 6
      refine region_in ?_
      refine W_v rfl rfl (V_mov rfl l10_59) ?_
      refine W_v rfl rfl (V_asg rfl rfl) ?_
      refine W_v rfl rfl (V_asg rfl (es rfl (et rfl))) ?_
      refine W_end ?_
      refine gen_Q (fun A62 hA62 => ?_)
      have hsz62 : SzN A62 49 := by rw [hA62]; infer_instance
      have hdf62 : A62.defers = [] := by rw [hA62]; simp only [df_put]; exact hdf59
      have l6_62 := lookE hA62 6 (es rfl (et rfl))
      have l7_62 := lookE hA62 7 (et rfl)
      clear hA62 hsz59 hdf59 l1_59 l2_59 l9_59 l10_59 l27_59
      have hS63 : St w NoX [] w54 := hS56.sel [] (by decide) rfl
      refine then_n (hK61 _ _ ?_)
      clear hK61
      refine wp_ret ?_
      refine then_ret ?_
      refine ret_in (results_2 Tryd.results20 (rv_tmp l6_62) (rv_tmp l7_62)) hdf62 ?_
      -- leaf FT
      have e1 : exE lo yo a b = (ofE lo yo [b]) := by exact exE_one (by simpa using c10)
      have e0 : exB lo yo a b = false := by exact exB_err (by rw [e1]; exact c60)
      rw [e1, e0]
      exact ⟨rfl, hS63.fin0⟩
    · skip
      have hE : ofE lo yo [b] = 0 := by simpa using c60
      have hk_b := ofE_mem hE (c := b) (by simp)
      have hrb := (chkE_ok hk_b).2.2
      refine wp_skip ?_
      refine then_n (hK57 _ _ ?_)
      clear hK57
      refine wp_seq_k (fun K64 hK64 => ?_)
      -- region 7
      refine region_in ?_
      refine W_r rfl rfl (VR_ldA rfl rfl (ob_at (hS56.ro hG0)) Tryd.underlying50 rfl (by kernel_rfl)) ?_
      refine W_allocS (z := .agg #[.int .i64 0, .int .i64 0]) (zs := #[.int .i64 0, .int .i64 0]) hS56 rfl rfl rfl (by kernel_rfl) (by rfl) (fun g65 w65 c65 hc65 hS65 => ?_)
      replace hS65 : St w NoX [c65, c54] w65 := hS65
      refine W_stAS 0 hS65 rfl hc65 rfl rfl rfl (et rfl) (es rfl (et rfl)) (by first | (rw [List.all_toArray] <;> rfl) | (simp only [List.all_toArray, List.all_cons, List.all_nil] <;> rfl)) (by rfl) (by kernel_rfl) (fun w66 c66 hc66 hS66 => ?_)
      replace hS66 : St w NoX [c66, c54] w66 := hS66
      refine W_end ?_
      refine gen_Q (fun A67 hA67 => ?_)
      have hsz67 : SzN A67 49 := by rw [hA67]; infer_instance
      have hdf67 : A67.defers = [] := by rw [hA67]; simp only [df_put]; exact hdf59
      have l1_67 := lookE hA67 1 (es rfl (es rfl l1_59))
      have l2_67 := lookE hA67 2 (es rfl (es rfl l2_59))
      have l9_67 := lookE hA67 9 (es rfl (es rfl l9_59))
      have l11_67 := lookE hA67 11 (et rfl)
      clear hA67 hsz59 hdf59 l1_59 l2_59 l9_59 l10_59 l27_59
      refine then_n (hK64 _ _ ?_)
      clear hK64
      refine wp_seq_k (fun K68 hK68 => ?_)
      refine wp_seq_k (fun K69 hK69 => ?_)
      -- region 8
      refine region_in ?_
      refine W_v rfl rfl (V_mov rfl l1_67) ?_
      refine W_v rfl rfl (V_neq rfl (et rfl) rfl) ?_
      refine W_end ?_
      refine gen_Q (fun A70 hA70 => ?_)
      have hsz70 : SzN A70 49 := by rw [hA70]; infer_instance
      have hdf70 : A70.defers = [] := by rw [hA70]; simp only [df_put]; exact hdf67
      have l1_70 := lookE hA70 1 (es rfl (es rfl l1_67))
      have l2_70 := lookE hA70 2 (es rfl (es rfl l2_67))
      have l9_70 := lookE hA70 9 (es rfl (es rfl l9_67))
      have l11_70 := lookE hA70 11 (es rfl (es rfl l11_67))
      have l31_70 := lookE hA70 31 (et rfl)
      clear hA70 hsz67 hdf67 l1_67 l2_67 l9_67 l11_67
      refine then_n (hK69 _ _ ?_)
      clear hK69
      refine cond_not l31_70 (by simp [c10]) ?_
      refine wp_skip ?_
      refine then_n (hK68 _ _ ?_)
      clear hK68
      refine wp_seq_k (fun K71 hK71 => ?_)
      -- region 10
      refine region_monoS 16 16 [] (by kernel_rfl) (by kernel_rfl) ?_
      refine D_v rfl rfl (V_mov rfl l2_70) rfl rfl ?_
      have k72 : b.toNat < 24 := by omega
      refine D_v rfl rfl (V_ixA (sz := 2) (off' := b.toNat * 2) (b.toNat) rfl (es rfl l9_70) (et rfl) (by omega) Tryd.underlying60 k72 (by kernel_rfl) (by omega)) rfl rfl ?_
      obtain ⟨y73, hy73⟩ := get_some (xs := (ofT lo yo [b])) (k := b.toNat) (by rw [(ofT_len _ _ _)]; omega)
      have hr73 := ofT_row hE hk_b hy73
      refine D_r rfl rfl (by kernel_rfl) (fun sx hx hF => (VR_ldP (ys := rkC y73) rfl (et rfl) ((hS66.grow hx).obj 1 rfl hc54) (arrR_at rkC_len hy73) Tryd.underlying50 rfl (by kernel_rfl))) rfl rfl ?_
      refine D_r rfl rfl (by kernel_rfl) (fun sx hx hF => (VR_ldA rfl rfl (ob_at ((hS66.grow hx).ro hG0)) Tryd.underlying50 rfl (by kernel_rfl))) rfl rfl ?_
      refine D_v rfl rfl (V_neSt2 rfl (es rfl (et rfl)) (et rfl) (by kernel_rfl)) rfl rfl ?_
      refine D_split rfl rfl (V_mov rfl (et rfl)) rfl rfl (fun c74 => ?_) (fun c74 => ?_)
      · skip
        refine D_v rfl (wanted_t rfl rfl (et rfl) (ez rfl)) (V_fa (off' := 0) rfl (es rfl (es rfl (es rfl (es rfl (es rfl (es rfl l11_70)))))) Tryd.underlying50 rfl (by decide) rfl) rfl rfl ?_
        refine D_r rfl (wanted_t rfl rfl (es rfl (et rfl)) (ez rfl)) (by kernel_rfl) (fun sx hx hF => (VR_ldC rfl (et rfl) (cell_box (v := .int .i64 (-1)) ((hS66.grow hx).obj 0 rfl hc66) rfl) Tryd.underlying3 rfl)) rfl rfl ?_
        refine D_v rfl (wanted_t rfl rfl (es rfl (es rfl (et rfl))) (ez rfl)) (V_mov rfl (es rfl (es rfl (es rfl (es rfl (es rfl (es rfl (es rfl (es rfl l2_70))))))))) rfl rfl ?_
        have k75 : b.toNat < 24 := by omega
        refine D_v rfl (wanted_t rfl rfl (es rfl (es rfl (es rfl (et rfl)))) (ez rfl)) (V_ixA (sz := 2) (off' := b.toNat * 2) (b.toNat) rfl (es rfl (es rfl (es rfl (es rfl (es rfl (es rfl (es rfl (es rfl (es rfl l9_70))))))))) (et rfl) (by omega) Tryd.underlying60 k75 (by kernel_rfl) (by omega)) rfl rfl ?_
        refine D_v rfl (wanted_t rfl rfl (es rfl (es rfl (es rfl (es rfl (et rfl))))) (ez rfl)) (V_fa (off' := b.toNat * 2 + 0) rfl (et rfl) Tryd.underlying50 rfl (by decide) rfl) rfl rfl ?_
        refine D_r rfl (wanted_t rfl rfl (es rfl (es rfl (es rfl (es rfl (es rfl (et rfl)))))) (ez rfl)) (by kernel_rfl) (fun sx hx hF => (VR_ldC (v := .int .i64 (y73.1)) rfl (et rfl) (cell_box ((hS66.grow hx).obj 1 rfl hc54) (arrR_at rkC_len hy73 0 _ rfl)) Tryd.underlying3 rfl)) rfl rfl ?_
        refine D_v rfl (wanted_t rfl rfl (es rfl (es rfl (es rfl (es rfl (es rfl (es rfl (et rfl))))))) (ez rfl)) (V_neq rfl (es rfl (es rfl (es rfl (es rfl (et rfl))))) (et rfl)) rfl rfl ?_
        refine D_v rfl rfl (V_pickT rfl (es rfl (es rfl (es rfl (es rfl (es rfl (es rfl (es rfl (et rfl)))))))) (et rfl)) rfl rfl ?_
        refine D_v rfl rfl (V_asg rfl (et rfl)) rfl rfl ?_
        refine D_v rfl rfl (V_asg rfl rfl) rfl rfl ?_
        refine ZS_none hS66 (Nat.le_refl _) (Nat.le_refl _) (fun s77 hJ77 hL77 hF77 => ?_)
        have hS77 := hJ77.st; clear hF77 hJ77 hL77
        generalize s77.1 = w77 at *
        replace hS77 : St w NoX [c66, c54] w77 := hS77
        refine gen_Q (fun A78 hA78 => ?_)
        have hsz78 : SzN A78 49 := by rw [hA78]; infer_instance
        have hdf78 : A78.defers = [] := by rw [hA78]; simp only [df_put]; exact hdf70
        have l6_78 := lookE hA78 6 (es rfl (et rfl))
        have l7_78 := lookE hA78 7 (et rfl)
        clear hA78 hsz70 hdf70 l1_70 l2_70 l9_70 l11_70 l31_70
        have hS79 : St w NoX [] w77 := hS77.sel [] (by decide) rfl
        refine then_n (hK71 _ _ ?_)
        clear hK71
        refine wp_ret ?_
        refine ret_in (results_2 Tryd.results20 (rv_tmp l6_78) (rv_tmp l7_78)) hdf78 ?_
        -- leaf FFT
        have e1 : exE lo yo a b = 0 := by exact (exE_one (by simpa using c10)).trans hE
        have e0 : exB lo yo a b = decide ((-1) ≠ y73.1) := by
          rw [exB_ok e1]; unfold exX; have fhr73 := congrArg Prod.fst hr73; have ghr73 := congrArg Prod.snd hr73; have qb := rkR_pair hk_b; split <;> first | (refine decide_eq_decide.2 ?_; omega) | (refine decide_eq_false ?_; omega)
        rw [e1, e0]
        exact ⟨rfl, hS79.fin0⟩
      · skip
        refine D_off rfl (wanted_f rfl rfl (et rfl) (ez rfl) rfl) rfl ?_
        refine D_off rfl (wanted_f rfl rfl (es rfl (et rfl)) (ez rfl) rfl) rfl ?_
        refine D_off rfl (wanted_f rfl rfl (es rfl (es rfl (et rfl))) (ez rfl) rfl) rfl ?_
        refine D_off rfl (wanted_f rfl rfl (es rfl (es rfl (es rfl (et rfl)))) (ez rfl) rfl) rfl ?_
        refine D_off rfl (wanted_f rfl rfl (es rfl (es rfl (es rfl (es rfl (et rfl))))) (ez rfl) rfl) rfl ?_
        refine D_off rfl (wanted_f rfl rfl (es rfl (es rfl (es rfl (es rfl (es rfl (et rfl)))))) (ez rfl) rfl) rfl ?_
        refine D_off rfl (wanted_f rfl rfl (es rfl (es rfl (es rfl (es rfl (es rfl (es rfl (et rfl))))))) (ez rfl) rfl) rfl ?_
        refine D_v rfl rfl (V_pickF rfl (es rfl (es rfl (es rfl (es rfl (es rfl (es rfl (es rfl (et rfl)))))))) rfl) rfl rfl ?_
        refine D_v rfl rfl (V_asg rfl (et rfl)) rfl rfl ?_
        refine D_v rfl rfl (V_asg rfl rfl) rfl rfl ?_
        refine ZS_none hS66 (Nat.le_refl _) (Nat.le_refl _) (fun s80 hJ80 hL80 hF80 => ?_)
        have hS80 := hJ80.st; clear hF80 hJ80 hL80
        generalize s80.1 = w80 at *
        replace hS80 : St w NoX [c66, c54] w80 := hS80
        refine gen_Q (fun A81 hA81 => ?_)
        have hsz81 : SzN A81 49 := by rw [hA81]; infer_instance
        have hdf81 : A81.defers = [] := by rw [hA81]; simp only [df_put]; exact hdf70
        have l6_81 := lookE hA81 6 (es rfl (et rfl))
        have l7_81 := lookE hA81 7 (et rfl)
        clear hA81 hsz70 hdf70 l1_70 l2_70 l9_70 l11_70 l31_70
        have hS82 : St w NoX [] w80 := hS80.sel [] (by decide) rfl
        refine then_n (hK71 _ _ ?_)
        clear hK71
        refine wp_ret ?_
        refine ret_in (results_2 Tryd.results20 (rv_tmp l6_81) (rv_tmp l7_81)) hdf81 ?_
        -- leaf FFF
        have e1 : exE lo yo a b = 0 := by exact (exE_one (by simpa using c10)).trans hE
        have e0 : exB lo yo a b = false := by
          rw [exB_ok e1]; unfold exX; have fhr73 := congrArg Prod.fst hr73; have ghr73 := congrArg Prod.snd hr73; have qb := rkR_pair hk_b; split <;> first | (refine decide_eq_decide.2 ?_; omega) | (refine decide_eq_false ?_; omega)
        rw [e1, e0]
        exact ⟨rfl, hS82.fin0⟩

set_option maxHeartbeats 4000000 in
theorem qExt_c {lv : Value} {lo : List Int} {yv : Value} {yo : List Int} {a : Int} {b : Int} {w : World} (h_lv : Ro w NoX (il .i64 lv lo)) (h_yv : Ro w NoX (il .i64 yv yo)) (h1 : lo.length ≤ 1000) (h2 : yo.length ≤ 1000) :
    Calls Tryd.prog 21 #[.agg #[lv, yv], .int .i64 a, .int .i64 b] w fun e w' => e = .returned (.tuple #[.bool (exB lo yo a b), .int .i64 (exE lo yo a b)]) ∧ St w NoX [] w' := by
  have ba := rk_bd lo yo a
  have bb := rk_bd lo yo b
  refine calls_in 43 Tryd.func21 rfl rfl (by simp) (fun A0 hsz0 hdf0 hargs => ?_)
  have l0_0 := hargs 0 (.agg #[lv, yv]) rfl
  have l1_0 := hargs 1 (.int .i64 a) rfl
  have l2_0 := hargs 2 (.int .i64 b) rfl
  clear hargs; replace hsz0 : SzN A0 43 := ⟨hsz0⟩
  have hS := St.nil w
  have bh_lv := SlN.le (sl_SlN h_lv.at)
  have bh_yv := SlN.le (sl_SlN h_yv.at)
  refine wp_seq_k (fun K1 hK1 => ?_)
  -- region 0
  refine region_in ?_
  refine W_boxS (zs := #[lv, yv]) hS rfl rfl rfl l0_0 (by rfl) (fun g2 w2 c2 hc2 hS2 => ?_)
  replace hS2 : St w NoX [c2] w2 := hS2
  refine W_v rfl rfl (V_asg rfl rfl) ?_
  refine W_v rfl rfl (V_asg rfl rfl) ?_
  refine W_end ?_
  refine gen_Q (fun A3 hA3 => ?_)
  have hsz3 : SzN A3 43 := by rw [hA3]; infer_instance
  have hdf3 : A3.defers = [] := by rw [hA3]; simp only [df_put]; exact hdf0
  have l1_3 := lookE hA3 1 (es rfl (es rfl (es rfl l1_0)))
  have l2_3 := lookE hA3 2 (es rfl (es rfl (es rfl l2_0)))
  have l3_3 := lookE hA3 3 (es rfl (es rfl (et rfl)))
  clear hA3 hsz0 hdf0 l0_0 l1_0 l2_0
  refine then_n (hK1 _ _ ?_)
  clear hK1
  refine wp_seq_k (fun K4 hK4 => ?_)
  -- region 1
  refine region_in ?_
  refine W_r rfl rfl (VR_ldA rfl l3_3 (hS2.obj 0 rfl hc2) Tryd.underlying24 rfl (by kernel_rfl)) ?_
  refine W_v rfl rfl (V_mov rfl (es rfl l2_3)) ?_
  refine W_call rfl rfl rfl Tryd.func32 (by kernel_rfl) rfl (args2 (es rfl (et rfl)) (et rfl)) (qOf_c (c := b) (hS2.roC h_lv) (hS2.roC h_yv) (by first | omega | (simp; done) | (simp; omega)) (by first | omega | (simp; done) | (simp; omega))) ?_
  rintro _ w5 ⟨rfl, hP5⟩
  refine ⟨_, rfl, ?_⟩
  have hS5 := hS2.join hP5
  replace hS5 : St w NoX [c2] w5 := hS5
  refine W_v rfl rfl (V_mov rfl (et rfl)) ?_
  refine W_v rfl rfl (V_ext (v := .agg #[.int .i64 ((rkR lo yo b).1), .int .i64 ((rkR lo yo b).2)]) rfl (et rfl) rfl) ?_
  refine W_v rfl rfl (V_ext (v := .int .i64 ((rkE lo yo b))) rfl (es rfl (et rfl)) rfl) ?_
  refine W_allocS (z := .agg #[.int .i64 0, .int .i64 0]) (zs := #[.int .i64 0, .int .i64 0]) hS5 rfl rfl rfl (by kernel_rfl) (by rfl) (fun g6 w6 c6 hc6 hS6 => ?_)
  replace hS6 : St w NoX [c6, c2] w6 := hS6
  refine W_stAS 0 hS6 rfl hc6 rfl rfl rfl (et rfl) (es rfl (es rfl (et rfl))) (by first | (rw [List.all_toArray] <;> rfl) | (simp only [List.all_toArray, List.all_cons, List.all_nil] <;> rfl)) (by rfl) (by kernel_rfl) (fun w7 c7 hc7 hS7 => ?_)
  replace hS7 : St w NoX [c7, c2] w7 := hS7
  refine W_v rfl rfl (V_asg rfl (es rfl (et rfl))) ?_
  refine W_end ?_
  refine gen_Q (fun A8 hA8 => ?_)
  have hsz8 : SzN A8 43 := by rw [hA8]; infer_instance
  have hdf8 : A8.defers = [] := by rw [hA8]; simp only [df_put]; exact hdf3
  have l1_8 := lookE hA8 1 (es rfl (es rfl (es rfl (es rfl (es rfl (es rfl (es rfl (es rfl l1_3))))))))
  have l3_8 := lookE hA8 3 (es rfl (es rfl (es rfl (es rfl (es rfl (es rfl (es rfl (es rfl l3_3))))))))
  have l8_8 := lookE hA8 8 (es rfl (et rfl))
  have l9_8 := lookE hA8 9 (et rfl)
  clear hA8 hsz3 hdf3 l1_3 l2_3 l3_3
  refine then_n (hK4 _ _ ?_)
  clear hK4
  refine wp_seq_k (fun K9 hK9 => ?_)
  -- region 2
  refine region_in ?_
  refine W_v rfl rfl (V_bldS (n := 2) (z := .agg #[.int .i64 0, .int .i64 0]) rfl (parts2 rfl rfl) (by kernel_rfl) (by simp only [List.all_cons, List.all_nil, Bool.and_true] <;> rfl) (by kernel_rfl) (by simp only [List.foldl_cons, List.foldl_nil, Value.cells, List.setIfInBounds_toArray, List.set_cons_succ, List.set_cons_zero] <;> rfl)) ?_
  refine W_allocS (z := .agg #[.int .i64 0, .int .i64 0]) (zs := #[.int .i64 0, .int .i64 0]) hS7 rfl rfl rfl (by kernel_rfl) (by rfl) (fun g10 w10 c10 hc10 hS10 => ?_)
  replace hS10 : St w NoX [c10, c7, c2] w10 := hS10
  refine W_stAS 0 hS10 rfl hc10 rfl rfl rfl (et rfl) (es rfl (et rfl)) (by first | (rw [List.all_toArray] <;> rfl) | (simp only [List.all_toArray, List.all_cons, List.all_nil] <;> rfl)) (by rfl) (by kernel_rfl) (fun w11 c11 hc11 hS11 => ?_)
  replace hS11 : St w NoX [c11, c7, c2] w11 := hS11
  refine W_end ?_
  refine gen_Q (fun A12 hA12 => ?_)
  have hsz12 : SzN A12 43 := by rw [hA12]; infer_instance
  have hdf12 : A12.defers = [] := by rw [hA12]; simp only [df_put]; exact hdf8
  have l1_12 := lookE hA12 1 (es rfl (es rfl l1_8))
  have l3_12 := lookE hA12 3 (es rfl (es rfl l3_8))
  have l8_12 := lookE hA12 8 (es rfl (es rfl l8_8))
  have l9_12 := lookE hA12 9 (es rfl (es rfl l9_8))
  have l10_12 := lookE hA12 10 (et rfl)
  clear hA12 hsz8 hdf8 l1_8 l3_8 l8_8 l9_8
  refine then_n (hK9 _ _ ?_)
  clear hK9
  refine wp_seq_k (fun K13 hK13 => ?_)
  refine wp_seq_k (fun K14 hK14 => ?_)
  -- region 3
  refine region_in ?_
  refine W_v rfl rfl (V_mov rfl l9_12) ?_
  refine W_v rfl rfl (V_eql rfl (et rfl) rfl) ?_
  refine W_split rfl rfl (V_mov rfl (et rfl)) (fun c15 => ?_) (fun c15 => ?_)
  · skip
    refine W_v rfl (wanted_t rfl rfl (et rfl) (ez rfl)) (V_mov rfl (es rfl (es rfl (es rfl l1_12)))) ?_
    refine W_v rfl (wanted_t rfl rfl (es rfl (et rfl)) (ez rfl)) (V_neq rfl (et rfl) rfl) ?_
    refine W_v rfl rfl (V_pickT rfl (es rfl (es rfl (et rfl))) (et rfl)) ?_
    refine W_end ?_
    refine gen_Q (fun A16 hA16 => ?_)
    have hsz16 : SzN A16 43 := by rw [hA16]; infer_instance
    have hdf16 : A16.defers = [] := by rw [hA16]; simp only [df_put]; exact hdf12
    have l1_16 := lookE hA16 1 (es rfl (es rfl (es rfl (es rfl (es rfl (es rfl l1_12))))))
    have l3_16 := lookE hA16 3 (es rfl (es rfl (es rfl (es rfl (es rfl (es rfl l3_12))))))
    have l8_16 := lookE hA16 8 (es rfl (es rfl (es rfl (es rfl (es rfl (es rfl l8_12))))))
    have l9_16 := lookE hA16 9 (es rfl (es rfl (es rfl (es rfl (es rfl (es rfl l9_12))))))
    have l10_16 := lookE hA16 10 (es rfl (es rfl (es rfl (es rfl (es rfl (es rfl l10_12))))))
    have l23_16 := lookE hA16 23 (et rfl)
    clear hA16 hsz12 hdf12 l1_12 l3_12 l8_12 l9_12 l10_12
    refine then_n (hK14 _ _ ?_)
    clear hK14
    refine cond_dec l23_16 (fun c17 => ?_) (fun c17 => ?_)
    · skip
      -- region 4
      refine region_in ?_
      refine W_r rfl rfl (VR_ldA rfl l3_16 (hS11.obj 2 rfl hc2) Tryd.underlying24 rfl (by kernel_rfl)) ?_
      refine W_v rfl rfl (V_mov rfl (es rfl l1_16)) ?_
      refine W_call rfl rfl rfl Tryd.func32 (by kernel_rfl) rfl (args2 (es rfl (et rfl)) (et rfl)) (qOf_c (c := a) (hS11.roC h_lv) (hS11.roC h_yv) (by first | omega | (simp; done) | (simp; omega)) (by first | omega | (simp; done) | (simp; omega))) ?_
      rintro _ w18 ⟨rfl, hP18⟩
      refine ⟨_, rfl, ?_⟩
      have hS18 := hS11.join hP18
      replace hS18 : St w NoX [c11, c7, c2] w18 := hS18
      refine W_v rfl rfl (V_mov rfl (et rfl)) ?_
      refine W_v rfl rfl (V_ext (v := .agg #[.int .i64 ((rkR lo yo a).1), .int .i64 ((rkR lo yo a).2)]) rfl (et rfl) rfl) ?_
      refine W_v rfl rfl (V_ext (v := .int .i64 ((rkE lo yo a))) rfl (es rfl (et rfl)) rfl) ?_
      refine W_stAS 0 hS18 rfl hc11 rfl rfl rfl (es rfl (es rfl (es rfl (es rfl (es rfl (es rfl l10_16)))))) (es rfl (et rfl)) (by first | (rw [List.all_toArray] <;> rfl) | (simp only [List.all_toArray, List.all_cons, List.all_nil] <;> rfl)) (by rfl) (by kernel_rfl) (fun w19 c19 hc19 hS19 => ?_)
      replace hS19 : St w NoX [c19, c7, c2] w19 := hS19
      refine W_v rfl rfl (V_asg rfl (et rfl)) ?_
      refine W_end ?_
      refine gen_Q (fun A20 hA20 => ?_)
      have hsz20 : SzN A20 43 := by rw [hA20]; infer_instance
      have hdf20 : A20.defers = [] := by rw [hA20]; simp only [df_put]; exact hdf16
      have l8_20 := lookE hA20 8 (es rfl (es rfl (es rfl (es rfl (es rfl (es rfl (es rfl l8_16)))))))
      have l9_20 := lookE hA20 9 (et rfl)
      have l10_20 := lookE hA20 10 (es rfl (es rfl (es rfl (es rfl (es rfl (es rfl (es rfl l10_16)))))))
      clear hA20 hsz16 hdf16 l1_16 l3_16 l8_16 l9_16 l10_16 l23_16
      have hS21 : St w NoX [c19, c7] w19 := hS19.sel [0, 1] (by decide) rfl
      refine then_n (hK13 _ _ ?_)
      clear hK13
      refine wp_seq_k (fun K22 hK22 => ?_)
      refine wp_seq_k (fun K23 hK23 => ?_)
      -- region 5
      refine region_in ?_
      refine W_v rfl rfl (V_mov rfl l9_20) ?_
      refine W_v rfl rfl (V_neq rfl (et rfl) rfl) ?_
      refine W_end ?_
      refine gen_Q (fun A24 hA24 => ?_)
      have hsz24 : SzN A24 43 := by rw [hA24]; infer_instance
      have hdf24 : A24.defers = [] := by rw [hA24]; simp only [df_put]; exact hdf20
      have l8_24 := lookE hA24 8 (es rfl (es rfl l8_20))
      have l9_24 := lookE hA24 9 (es rfl (es rfl l9_20))
      have l10_24 := lookE hA24 10 (es rfl (es rfl l10_20))
      have l31_24 := lookE hA24 31 (et rfl)
      clear hA24 hsz20 hdf20 l8_20 l9_20 l10_20
      refine then_n (hK23 _ _ ?_)
      clear hK23
      refine cond_dec l31_24 (fun c25 => ?_) (fun c25 => ?_)
      · skip
        refine wp_seq_k (fun K26 hK26 => ?_)
        -- region 6
        refine region_in ?_
        refine W_v rfl rfl (V_mov rfl l9_24) ?_
        refine W_v rfl rfl (V_asg rfl rfl) ?_
        refine W_v rfl rfl (V_asg rfl (es rfl (et rfl))) ?_
        refine W_end ?_
        refine gen_Q (fun A27 hA27 => ?_)
        have hsz27 : SzN A27 43 := by rw [hA27]; infer_instance
        have hdf27 : A27.defers = [] := by rw [hA27]; simp only [df_put]; exact hdf24
        have l6_27 := lookE hA27 6 (es rfl (et rfl))
        have l7_27 := lookE hA27 7 (et rfl)
        clear hA27 hsz24 hdf24 l8_24 l9_24 l10_24 l31_24
        have hS28 : St w NoX [] w19 := hS21.sel [] (by decide) rfl
        refine then_n (hK26 _ _ ?_)
        clear hK26
        refine wp_ret ?_
        refine then_ret ?_
        refine ret_in (results_2 Tryd.results21 (rv_tmp l6_27) (rv_tmp l7_27)) hdf27 ?_
        -- leaf TTT
        have e1 : exE lo yo a b = (rkE lo yo a) := by simp only [exE, c15, c17, c25] <;> simp <;> omega
        have e0 : exB lo yo a b = false := by exact exB_err (by rw [e1]; exact c25)
        rw [e1, e0]
        exact ⟨rfl, hS28.fin0⟩
      · skip
        refine wp_skip ?_
        refine then_n (hK22 _ _ ?_)
        clear hK22
        refine wp_seq_k (fun K29 hK29 => ?_)
        -- region 7
        refine region_in ?_
        refine W_v rfl rfl (V_fa (off' := 0) rfl l8_24 Tryd.underlying50 rfl (by decide) rfl) ?_
        refine W_r rfl rfl (VR_ldC rfl (et rfl) (cell_box (v := .int .i64 ((rkR lo yo b).1)) (hS21.obj 1 rfl hc7) rfl) Tryd.underlying3 rfl) ?_
        refine W_v rfl rfl (V_neq rfl (et rfl) rfl) ?_
        refine W_split rfl rfl (V_mov rfl (et rfl)) (fun c30 => ?_) (fun c30 => ?_)
        · skip
          refine W_v rfl (wanted_t rfl rfl (et rfl) (ez rfl)) (V_fa (off' := 0) rfl (es rfl (es rfl (es rfl (es rfl l10_24)))) Tryd.underlying50 rfl (by decide) rfl) ?_
          refine W_r rfl (wanted_t rfl rfl (es rfl (et rfl)) (ez rfl)) (VR_ldC rfl (et rfl) (cell_box (v := .int .i64 ((rkR lo yo a).1)) (hS21.obj 0 rfl hc19) rfl) Tryd.underlying3 rfl) ?_
          refine W_v rfl (wanted_t rfl rfl (es rfl (es rfl (et rfl))) (ez rfl)) (V_fa (off' := 0) rfl (es rfl (es rfl (es rfl (es rfl (es rfl (es rfl l8_24)))))) Tryd.underlying50 rfl (by decide) rfl) ?_
          refine W_r rfl (wanted_t rfl rfl (es rfl (es rfl (es rfl (et rfl)))) (ez rfl)) (VR_ldC rfl (et rfl) (cell_box (v := .int .i64 ((rkR lo yo b).1)) (hS21.obj 1 rfl hc7) rfl) Tryd.underlying3 rfl) ?_
          refine W_v rfl (wanted_t rfl rfl (es rfl (es rfl (es rfl (es rfl (et rfl))))) (ez rfl)) (V_neq rfl (es rfl (es rfl (et rfl))) (et rfl)) ?_
          refine W_v rfl rfl (V_pickT rfl (es rfl (es rfl (es rfl (es rfl (es rfl (et rfl)))))) (et rfl)) ?_
          refine W_v rfl rfl (V_asg rfl (et rfl)) ?_
          refine W_v rfl rfl (V_asg rfl rfl) ?_
          refine W_end ?_
          refine gen_Q (fun A31 hA31 => ?_)
          have hsz31 : SzN A31 43 := by rw [hA31]; infer_instance
          have hdf31 : A31.defers = [] := by rw [hA31]; simp only [df_put]; exact hdf24
          have l6_31 := lookE hA31 6 (es rfl (et rfl))
          have l7_31 := lookE hA31 7 (et rfl)
          clear hA31 hsz24 hdf24 l8_24 l9_24 l10_24 l31_24
          have hS32 : St w NoX [] w19 := hS21.sel [] (by decide) rfl
          refine then_n (hK29 _ _ ?_)
          clear hK29
          refine wp_ret ?_
          refine ret_in (results_2 Tryd.results21 (rv_tmp l6_31) (rv_tmp l7_31)) hdf31 ?_
          -- leaf TTFT
          have e1 : exE lo yo a b = 0 := by simp only [exE, c15, c17, c25, c30] <;> simp <;> omega
          have e0 : exB lo yo a b = decide ((rkR lo yo a).1 ≠ (rkR lo yo b).1) := by
            rw [exB_ok e1]; unfold exX; split <;> first | (refine decide_eq_decide.2 ?_; omega) | (refine decide_eq_false ?_; omega)
          rw [e1, e0]
          exact ⟨rfl, hS32.fin0⟩
        · skip
          refine W_off rfl (wanted_f rfl rfl (et rfl) (ez rfl) rfl) ?_
          refine W_off rfl (wanted_f rfl rfl (es rfl (et rfl)) (ez rfl) rfl) ?_
          refine W_off rfl (wanted_f rfl rfl (es rfl (es rfl (et rfl))) (ez rfl) rfl) ?_
          refine W_off rfl (wanted_f rfl rfl (es rfl (es rfl (es rfl (et rfl)))) (ez rfl) rfl) ?_
          refine W_off rfl (wanted_f rfl rfl (es rfl (es rfl (es rfl (es rfl (et rfl))))) (ez rfl) rfl) ?_
          refine W_v rfl rfl (V_pickF rfl (es rfl (es rfl (es rfl (es rfl (es rfl (et rfl)))))) rfl) ?_
          refine W_v rfl rfl (V_asg rfl (et rfl)) ?_
          refine W_v rfl rfl (V_asg rfl rfl) ?_
          refine W_end ?_
          refine gen_Q (fun A33 hA33 => ?_)
          have hsz33 : SzN A33 43 := by rw [hA33]; infer_instance
          have hdf33 : A33.defers = [] := by rw [hA33]; simp only [df_put]; exact hdf24
          have l6_33 := lookE hA33 6 (es rfl (et rfl))
          have l7_33 := lookE hA33 7 (et rfl)
          clear hA33 hsz24 hdf24 l8_24 l9_24 l10_24 l31_24
          have hS34 : St w NoX [] w19 := hS21.sel [] (by decide) rfl
          refine then_n (hK29 _ _ ?_)
          clear hK29
          refine wp_ret ?_
          refine ret_in (results_2 Tryd.results21 (rv_tmp l6_33) (rv_tmp l7_33)) hdf33 ?_
          -- leaf TTFF
          have e1 : exE lo yo a b = 0 := by simp only [exE, c15, c17, c25, c30] <;> simp <;> omega
          have e0 : exB lo yo a b = false := by
            rw [exB_ok e1]; unfold exX; split <;> first | (refine decide_eq_decide.2 ?_; omega) | (refine decide_eq_false ?_; omega)
          rw [e1, e0]
          exact ⟨rfl, hS34.fin0⟩
    · skip
      refine wp_skip ?_
      refine then_n (hK13 _ _ ?_)
      clear hK13
      refine wp_seq_k (fun K35 hK35 => ?_)
      refine wp_seq_k (fun K36 hK36 => ?_)
      -- region 5
      refine region_in ?_
      refine W_v rfl rfl (V_mov rfl l9_16) ?_
      refine W_v rfl rfl (V_neq rfl (et rfl) rfl) ?_
      refine W_end ?_
      refine gen_Q (fun A37 hA37 => ?_)
      have hsz37 : SzN A37 43 := by rw [hA37]; infer_instance
      have hdf37 : A37.defers = [] := by rw [hA37]; simp only [df_put]; exact hdf16
      have l8_37 := lookE hA37 8 (es rfl (es rfl l8_16))
      have l9_37 := lookE hA37 9 (es rfl (es rfl l9_16))
      have l10_37 := lookE hA37 10 (es rfl (es rfl l10_16))
      have l31_37 := lookE hA37 31 (et rfl)
      clear hA37 hsz16 hdf16 l1_16 l3_16 l8_16 l9_16 l10_16 l23_16
      have hS38 : St w NoX [c11, c7] w11 := hS11.sel [0, 1] (by decide) rfl
      refine then_n (hK36 _ _ ?_)
      clear hK36
      refine cond_not l31_37 (by simp [c15]) ?_
      refine wp_skip ?_
      refine then_n (hK35 _ _ ?_)
      clear hK35
      refine wp_seq_k (fun K39 hK39 => ?_)
      -- region 7
      refine region_in ?_
      refine W_v rfl rfl (V_fa (off' := 0) rfl l8_37 Tryd.underlying50 rfl (by decide) rfl) ?_
      refine W_r rfl rfl (VR_ldC rfl (et rfl) (cell_box (v := .int .i64 ((rkR lo yo b).1)) (hS38.obj 1 rfl hc7) rfl) Tryd.underlying3 rfl) ?_
      refine W_v rfl rfl (V_neq rfl (et rfl) rfl) ?_
      refine W_split rfl rfl (V_mov rfl (et rfl)) (fun c40 => ?_) (fun c40 => ?_)
      · skip
        refine W_v rfl (wanted_t rfl rfl (et rfl) (ez rfl)) (V_fa (off' := 0) rfl (es rfl (es rfl (es rfl (es rfl l10_37)))) Tryd.underlying50 rfl (by decide) rfl) ?_
        refine W_r rfl (wanted_t rfl rfl (es rfl (et rfl)) (ez rfl)) (VR_ldC rfl (et rfl) (cell_box (v := .int .i64 (-1)) (hS38.obj 0 rfl hc11) rfl) Tryd.underlying3 rfl) ?_
        refine W_v rfl (wanted_t rfl rfl (es rfl (es rfl (et rfl))) (ez rfl)) (V_fa (off' := 0) rfl (es rfl (es rfl (es rfl (es rfl (es rfl (es rfl l8_37)))))) Tryd.underlying50 rfl (by decide) rfl) ?_
        refine W_r rfl (wanted_t rfl rfl (es rfl (es rfl (es rfl (et rfl)))) (ez rfl)) (VR_ldC rfl (et rfl) (cell_box (v := .int .i64 ((rkR lo yo b).1)) (hS38.obj 1 rfl hc7) rfl) Tryd.underlying3 rfl) ?_
        refine W_v rfl (wanted_t rfl rfl (es rfl (es rfl (es rfl (es rfl (et rfl))))) (ez rfl)) (V_neq rfl (es rfl (es rfl (et rfl))) (et rfl)) ?_
        refine W_v rfl rfl (V_pickT rfl (es rfl (es rfl (es rfl (es rfl (es rfl (et rfl)))))) (et rfl)) ?_
        refine W_v rfl rfl (V_asg rfl (et rfl)) ?_
        refine W_v rfl rfl (V_asg rfl rfl) ?_
        refine W_end ?_
        refine gen_Q (fun A41 hA41 => ?_)
        have hsz41 : SzN A41 43 := by rw [hA41]; infer_instance
        have hdf41 : A41.defers = [] := by rw [hA41]; simp only [df_put]; exact hdf37
        have l6_41 := lookE hA41 6 (es rfl (et rfl))
        have l7_41 := lookE hA41 7 (et rfl)
        clear hA41 hsz37 hdf37 l8_37 l9_37 l10_37 l31_37
        have hS42 : St w NoX [] w11 := hS38.sel [] (by decide) rfl
        refine then_n (hK39 _ _ ?_)
        clear hK39
        refine wp_ret ?_
        refine ret_in (results_2 Tryd.results21 (rv_tmp l6_41) (rv_tmp l7_41)) hdf41 ?_
        -- leaf TFT
        have e1 : exE lo yo a b = 0 := by simp only [exE, c15, c17, c40] <;> simp <;> omega
        have e0 : exB lo yo a b = decide ((-1) ≠ (rkR lo yo b).1) := by
          rw [exB_ok e1]; unfold exX; split <;> first | (refine decide_eq_decide.2 ?_; omega) | (refine decide_eq_false ?_; omega)
        rw [e1, e0]
        exact ⟨rfl, hS42.fin0⟩
      · skip
        refine W_off rfl (wanted_f rfl rfl (et rfl) (ez rfl) rfl) ?_
        refine W_off rfl (wanted_f rfl rfl (es rfl (et rfl)) (ez rfl) rfl) ?_
        refine W_off rfl (wanted_f rfl rfl (es rfl (es rfl (et rfl))) (ez rfl) rfl) ?_
        refine W_off rfl (wanted_f rfl rfl (es rfl (es rfl (es rfl (et rfl)))) (ez rfl) rfl) ?_
        refine W_off rfl (wanted_f rfl rfl (es rfl (es rfl (es rfl (es rfl (et rfl))))) (ez rfl) rfl) ?_
        refine W_v rfl rfl (V_pickF rfl (es rfl (es rfl (es rfl (es rfl (es rfl (et rfl)))))) rfl) ?_
        refine W_v rfl rfl (V_asg rfl (et rfl)) ?_
        refine W_v rfl rfl (V_asg rfl rfl) ?_
        refine W_end ?_
        refine gen_Q (fun A43 hA43 => ?_)
        have hsz43 : SzN A43 43 := by rw [hA43]; infer_instance
        have hdf43 : A43.defers = [] := by rw [hA43]; simp only [df_put]; exact hdf37
        have l6_43 := lookE hA43 6 (es rfl (et rfl))
        have l7_43 := lookE hA43 7 (et rfl)
        clear hA43 hsz37 hdf37 l8_37 l9_37 l10_37 l31_37
        have hS44 : St w NoX [] w11 := hS38.sel [] (by decide) rfl
        refine then_n (hK39 _ _ ?_)
        clear hK39
        refine wp_ret ?_
        refine ret_in (results_2 Tryd.results21 (rv_tmp l6_43) (rv_tmp l7_43)) hdf43 ?_
        -- leaf TFF
        have e1 : exE lo yo a b = 0 := by simp only [exE, c15, c17, c40] <;> simp <;> omega
        have e0 : exB lo yo a b = false := by
          rw [exB_ok e1]; unfold exX; split <;> first | (refine decide_eq_decide.2 ?_; omega) | (refine decide_eq_false ?_; omega)
        rw [e1, e0]
        exact ⟨rfl, hS44.fin0⟩
  · skip
    refine W_off rfl (wanted_f rfl rfl (et rfl) (ez rfl) rfl) ?_
    refine W_off rfl (wanted_f rfl rfl (es rfl (et rfl)) (ez rfl) rfl) ?_
    refine W_v rfl rfl (V_pickF rfl (es rfl (es rfl (et rfl))) rfl) ?_
    refine W_end ?_
    refine gen_Q (fun A45 hA45 => ?_)
    have hsz45 : SzN A45 43 := by rw [hA45]; infer_instance
    have hdf45 : A45.defers = [] := by rw [hA45]; simp only [df_put]; exact hdf12
    have l1_45 := lookE hA45 1 (es rfl (es rfl (es rfl (es rfl (es rfl (es rfl l1_12))))))
    have l3_45 := lookE hA45 3 (es rfl (es rfl (es rfl (es rfl (es rfl (es rfl l3_12))))))
    have l8_45 := lookE hA45 8 (es rfl (es rfl (es rfl (es rfl (es rfl (es rfl l8_12))))))
    have l9_45 := lookE hA45 9 (es rfl (es rfl (es rfl (es rfl (es rfl (es rfl l9_12))))))
    have l10_45 := lookE hA45 10 (es rfl (es rfl (es rfl (es rfl (es rfl (es rfl l10_12))))))
    have l23_45 := lookE hA45 23 (et rfl)
    clear hA45 hsz12 hdf12 l1_12 l3_12 l8_12 l9_12 l10_12
    refine then_n (hK14 _ _ ?_)
    clear hK14
    refine cond_f l23_45 ?_
    refine wp_skip ?_
    refine then_n (hK13 _ _ ?_)
    clear hK13
    refine wp_seq_k (fun K46 hK46 => ?_)
    refine wp_seq_k (fun K47 hK47 => ?_)
    -- region 5
    refine region_in ?_
    refine W_v rfl rfl (V_mov rfl l9_45) ?_
    refine W_v rfl rfl (V_neq rfl (et rfl) rfl) ?_
    refine W_end ?_
    refine gen_Q (fun A48 hA48 => ?_)
    have hsz48 : SzN A48 43 := by rw [hA48]; infer_instance
    have hdf48 : A48.defers = [] := by rw [hA48]; simp only [df_put]; exact hdf45
    have l8_48 := lookE hA48 8 (es rfl (es rfl l8_45))
    have l9_48 := lookE hA48 9 (es rfl (es rfl l9_45))
    have l10_48 := lookE hA48 10 (es rfl (es rfl l10_45))
    have l31_48 := lookE hA48 31 (et rfl)
    clear hA48 hsz45 hdf45 l1_45 l3_45 l8_45 l9_45 l10_45 l23_45
    have hS49 : St w NoX [c11, c7] w11 := hS11.sel [0, 1] (by decide) rfl
    refine then_n (hK47 _ _ ?_)
    clear hK47
    refine cond_sure l31_48 (by simp [c15]) ?_
    refine wp_seq_k (fun K50 hK50 => ?_)
    -- region 6
    refine region_in ?_
    refine W_v rfl rfl (V_mov rfl l9_48) ?_
    refine W_v rfl rfl (V_asg rfl rfl) ?_
    refine W_v rfl rfl (V_asg rfl (es rfl (et rfl))) ?_
    refine W_end ?_
    refine gen_Q (fun A51 hA51 => ?_)
    have hsz51 : SzN A51 43 := by rw [hA51]; infer_instance
    have hdf51 : A51.defers = [] := by rw [hA51]; simp only [df_put]; exact hdf48
    have l6_51 := lookE hA51 6 (es rfl (et rfl))
    have l7_51 := lookE hA51 7 (et rfl)
    clear hA51 hsz48 hdf48 l8_48 l9_48 l10_48 l31_48
    have hS52 : St w NoX [] w11 := hS49.sel [] (by decide) rfl
    refine then_n (hK50 _ _ ?_)
    clear hK50
    refine wp_ret ?_
    refine then_ret ?_
    refine ret_in (results_2 Tryd.results21 (rv_tmp l6_51) (rv_tmp l7_51)) hdf51 ?_
    -- leaf F
    have e1 : exE lo yo a b = (rkE lo yo b) := by simp only [exE, c15] <;> simp <;> omega
    have e0 : exB lo yo a b = false := by exact exB_err (by rw [e1]; exact c15)
    rw [e1, e0]
    exact ⟨rfl, hS52.fin0⟩

set_option maxHeartbeats 4000000 in
theorem kMv_c {lv : Value} {lo : List Int} {yv : Value} {yo : List Int} {lv2 : Value} {lo2 : List Int} {yv2 : Value} {yo2 : List Int} {gT0 : Nat} {w : World} (h_lv : Ro w NoX (il .i64 lv lo)) (h_yv : Ro w NoX (il .i64 yv yo)) (h_lv2 : Ro w NoX (il .i64 lv2 lo2)) (h_yv2 : Ro w NoX (il .i64 yv2 yo2)) (hG0 : Ro w NoX (bx 0 gT0 #[.int .i64 (-1), .int .i64 (-1)]))  :
    Calls Tryd.prog 22 #[.agg #[lv, yv], .agg #[lv2, yv2]] w fun e w' => ∃ v, e = .returned (.tuple #[v, .int .i64 (mvE lo yo lo2 yo2)]) ∧ St w NoX [io .i64 (v) (mvT lo yo lo2 yo2)] w' := by
  have e1 := (ofE_nil lo yo).symm
  have e2 := (ofE_nil lo2 yo2).symm
  refine calls_in 44 Tryd.func22 rfl rfl (by simp) (fun A0 hsz0 hdf0 hargs => ?_)
  have l0_0 := hargs 0 (.agg #[lv, yv]) rfl
  have l1_0 := hargs 1 (.agg #[lv2, yv2]) rfl
  clear hargs; replace hsz0 : SzN A0 44 := ⟨hsz0⟩
  have hS := St.nil w
  have bh_lv := SlN.le (sl_SlN h_lv.at)
  have bh_yv := SlN.le (sl_SlN h_yv.at)
  have bh_lv2 := SlN.le (sl_SlN h_lv2.at)
  have bh_yv2 := SlN.le (sl_SlN h_yv2.at)
  refine wp_seq_k (fun K1 hK1 => ?_)
  -- region 0
  refine region_in ?_
  refine W_boxS (zs := #[lv, yv]) hS rfl rfl rfl l0_0 (by rfl) (fun g2 w2 c2 hc2 hS2 => ?_)
  replace hS2 : St w NoX [c2] w2 := hS2
  refine W_boxS (zs := #[lv2, yv2]) hS2 rfl rfl rfl (es rfl l1_0) (by rfl) (fun g3 w3 c3 hc3 hS3 => ?_)
  replace hS3 : St w NoX [c3, c2] w3 := hS3
  refine W_v rfl rfl (V_asg rfl rfl) ?_
  refine W_v rfl rfl (V_asg rfl rfl) ?_
  refine W_end ?_
  refine gen_Q (fun A4 hA4 => ?_)
  have hsz4 : SzN A4 44 := by rw [hA4]; infer_instance
  have hdf4 : A4.defers = [] := by rw [hA4]; simp only [df_put]; exact hdf0
  have l2_4 := lookE hA4 2 (es rfl (es rfl (es rfl (et rfl))))
  have l3_4 := lookE hA4 3 (es rfl (es rfl (et rfl)))
  clear hA4 hsz0 hdf0 l0_0 l1_0
  refine then_n (hK1 _ _ ?_)
  clear hK1
  refine wp_seq_k (fun K5 hK5 => ?_)
  -- region 1
  refine region_in ?_
  refine W_r rfl rfl (VR_ldA rfl l2_4 (hS3.obj 1 rfl hc2) Tryd.underlying24 rfl (by kernel_rfl)) ?_
  refine W_call rfl rfl rfl Tryd.func38 (by kernel_rfl) rfl (args2 (et rfl) rfl) (kof_c (cs := []) (cv := .slice none 0 0) (hS3.roC h_lv) (hS3.roC h_yv) ro_nil (hS3.roC hG0) ) ?_
  rintro _ w6 ⟨rfl, hP6⟩
  refine ⟨_, rfl, ?_⟩
  have hS6 := hS3.join hP6
  replace hS6 : St w NoX [c3, c2] w6 := hS6
  refine W_v rfl rfl (V_mov rfl (et rfl)) ?_
  refine W_v rfl rfl (V_ext (v := .agg (((ofT lo yo []).flatMap rkC).toArray)) rfl (et rfl) rfl) ?_
  refine W_v rfl rfl (V_ext (v := .int .i64 ((ofE lo yo []))) rfl (es rfl (et rfl)) rfl) ?_
  refine W_allocS (z := .agg (((List.replicate 24 (0, 0)).flatMap rkC).toArray)) (zs := ((((List.replicate 24 (0, 0)).flatMap rkC).toArray))) hS6 rfl rfl rfl (by kernel_rfl) (by rfl) (fun g7 w7 c7 hc7 hS7 => ?_)
  replace hS7 : St w NoX [c7, c3, c2] w7 := hS7
  refine W_stAS 0 hS7 rfl hc7 rfl rfl rfl (et rfl) (es rfl (es rfl (et rfl))) (arrR_one rkC_one) (arrR_sz rkC_len List.length_replicate (ofT_len _ _ _)) (arrR_info rkC_len (ofT_len _ _ _) (by kernel_rfl)) (fun w8 c8 hc8 hS8 => ?_)
  replace hS8 : St w NoX [c8, c3, c2] w8 := hS8
  refine W_v rfl rfl (V_asg rfl (es rfl (et rfl))) ?_
  refine W_end ?_
  refine gen_Q (fun A9 hA9 => ?_)
  have hsz9 : SzN A9 44 := by rw [hA9]; infer_instance
  have hdf9 : A9.defers = [] := by rw [hA9]; simp only [df_put]; exact hdf4
  have l3_9 := lookE hA9 3 (es rfl (es rfl (es rfl (es rfl (es rfl (es rfl (es rfl l3_4)))))))
  have l6_9 := lookE hA9 6 (es rfl (et rfl))
  have l7_9 := lookE hA9 7 (et rfl)
  clear hA9 hsz4 hdf4 l2_4 l3_4
  have hS10 : St w NoX [c8, c3] w8 := hS8.sel [0, 1] (by decide) rfl
  refine then_n (hK5 _ _ ?_)
  clear hK5
  refine wp_seq_k (fun K11 hK11 => ?_)
  refine wp_seq_k (fun K12 hK12 => ?_)
  -- region 2
  refine region_in ?_
  refine W_v rfl rfl (V_mov rfl l7_9) ?_
  refine W_v rfl rfl (V_neq rfl (et rfl) rfl) ?_
  refine W_end ?_
  refine gen_Q (fun A13 hA13 => ?_)
  have hsz13 : SzN A13 44 := by rw [hA13]; infer_instance
  have hdf13 : A13.defers = [] := by rw [hA13]; simp only [df_put]; exact hdf9
  have l3_13 := lookE hA13 3 (es rfl (es rfl l3_9))
  have l6_13 := lookE hA13 6 (es rfl (es rfl l6_9))
  have l7_13 := lookE hA13 7 (es rfl (es rfl l7_9))
  have l18_13 := lookE hA13 18 (et rfl)
  clear hA13 hsz9 hdf9 l3_9 l6_9 l7_9
  refine then_n (hK12 _ _ ?_)
  clear hK12
  refine cond_dec l18_13 (fun c14 => ?_) (fun c14 => ?_)
  · skip
    refine wp_seq_k (fun K15 hK15 => ?_)
    -- region 3
    refine region_in ?_
    refine W_v rfl rfl (V_mov rfl l7_13) ?_
    refine W_v rfl rfl (V_asg rfl rfl) ?_
    refine W_v rfl rfl (V_asg rfl (es rfl (et rfl))) ?_
    refine W_end ?_
    refine gen_Q (fun A16 hA16 => ?_)
    have hsz16 : SzN A16 44 := by rw [hA16]; infer_instance
    have hdf16 : A16.defers = [] := by rw [hA16]; simp only [df_put]; exact hdf13
    have l4_16 := lookE hA16 4 (es rfl (et rfl))
    have l5_16 := lookE hA16 5 (et rfl)
    clear hA16 hsz13 hdf13 l3_13 l6_13 l7_13 l18_13
    have hS17 : St w NoX [] w8 := hS10.sel [] (by decide) rfl
    refine then_n (hK15 _ _ ?_)
    clear hK15
    refine wp_ret ?_
    refine then_ret ?_
    refine ret_in (results_2 Tryd.results22 (rv_tmp l4_16) (rv_tmp l5_16)) hdf16 ?_
    -- leaf T
    obtain ⟨c18, hc18, hS18⟩ := hS17.pnil (s := 1)
    have h0 : (chk lo yo).2.2 ≠ 0 := by rw [e1]; exact c14
    have h : mvE lo yo lo2 yo2 = (ofE lo yo []) := (mvE_1 h0).trans e1
    have h2 := mvT_err (by rw [h]; exact c14)
    rw [h]
    exact ⟨_, rfl, (hS18.fin1 0 rfl (hc18.trans (by rw [h2] <;> rfl)))⟩
  · skip
    have g1 : (chk lo yo).2.2 = 0 := e1.trans (by simpa using c14)
    refine wp_skip ?_
    refine then_n (hK11 _ _ ?_)
    clear hK11
    refine wp_seq_k (fun K19 hK19 => ?_)
    -- region 4
    refine region_in ?_
    refine W_r rfl rfl (VR_ldA rfl l3_13 (hS10.obj 1 rfl hc3) Tryd.underlying24 rfl (by kernel_rfl)) ?_
    refine W_call rfl rfl rfl Tryd.func38 (by kernel_rfl) rfl (args2 (et rfl) rfl) (kof_c (cs := []) (cv := .slice none 0 0) (hS10.roC h_lv2) (hS10.roC h_yv2) ro_nil (hS10.roC hG0) ) ?_
    rintro _ w20 ⟨rfl, hP20⟩
    refine ⟨_, rfl, ?_⟩
    have hS20 := hS10.join hP20
    replace hS20 : St w NoX [c8, c3] w20 := hS20
    refine W_v rfl rfl (V_mov rfl (et rfl)) ?_
    refine W_v rfl rfl (V_ext (v := .agg (((ofT lo2 yo2 []).flatMap rkC).toArray)) rfl (et rfl) rfl) ?_
    refine W_v rfl rfl (V_ext (v := .int .i64 ((ofE lo2 yo2 []))) rfl (es rfl (et rfl)) rfl) ?_
    refine W_allocS (z := .agg (((List.replicate 24 (0, 0)).flatMap rkC).toArray)) (zs := ((((List.replicate 24 (0, 0)).flatMap rkC).toArray))) hS20 rfl rfl rfl (by kernel_rfl) (by rfl) (fun g21 w21 c21 hc21 hS21 => ?_)
    replace hS21 : St w NoX [c21, c8, c3] w21 := hS21
    refine W_stAS 0 hS21 rfl hc21 rfl rfl rfl (et rfl) (es rfl (es rfl (et rfl))) (arrR_one rkC_one) (arrR_sz rkC_len List.length_replicate (ofT_len _ _ _)) (arrR_info rkC_len (ofT_len _ _ _) (by kernel_rfl)) (fun w22 c22 hc22 hS22 => ?_)
    replace hS22 : St w NoX [c22, c8, c3] w22 := hS22
    refine W_v rfl rfl (V_asg rfl (es rfl (et rfl))) ?_
    refine W_end ?_
    refine gen_Q (fun A23 hA23 => ?_)
    have hsz23 : SzN A23 44 := by rw [hA23]; infer_instance
    have hdf23 : A23.defers = [] := by rw [hA23]; simp only [df_put]; exact hdf13
    have l6_23 := lookE hA23 6 (es rfl (es rfl (es rfl (es rfl (es rfl (es rfl (es rfl l6_13)))))))
    have l7_23 := lookE hA23 7 (et rfl)
    have l8_23 := lookE hA23 8 (es rfl (et rfl))
    clear hA23 hsz13 hdf13 l3_13 l6_13 l7_13 l18_13
    have hS24 : St w NoX [c22, c8] w22 := hS22.sel [0, 1] (by decide) rfl
    refine then_n (hK19 _ _ ?_)
    clear hK19
    refine wp_seq_k (fun K25 hK25 => ?_)
    refine wp_seq_k (fun K26 hK26 => ?_)
    -- region 5
    refine region_in ?_
    refine W_v rfl rfl (V_mov rfl l7_23) ?_
    refine W_v rfl rfl (V_neq rfl (et rfl) rfl) ?_
    refine W_end ?_
    refine gen_Q (fun A27 hA27 => ?_)
    have hsz27 : SzN A27 44 := by rw [hA27]; infer_instance
    have hdf27 : A27.defers = [] := by rw [hA27]; simp only [df_put]; exact hdf23
    have l6_27 := lookE hA27 6 (es rfl (es rfl l6_23))
    have l7_27 := lookE hA27 7 (es rfl (es rfl l7_23))
    have l8_27 := lookE hA27 8 (es rfl (es rfl l8_23))
    have l26_27 := lookE hA27 26 (et rfl)
    clear hA27 hsz23 hdf23 l6_23 l7_23 l8_23
    refine then_n (hK26 _ _ ?_)
    clear hK26
    refine cond_dec l26_27 (fun c28 => ?_) (fun c28 => ?_)
    · skip
      refine wp_seq_k (fun K29 hK29 => ?_)
      -- region 6
      refine region_in ?_
      refine W_v rfl rfl (V_mov rfl l7_27) ?_
      refine W_v rfl rfl (V_asg rfl rfl) ?_
      refine W_v rfl rfl (V_asg rfl (es rfl (et rfl))) ?_
      refine W_end ?_
      refine gen_Q (fun A30 hA30 => ?_)
      have hsz30 : SzN A30 44 := by rw [hA30]; infer_instance
      have hdf30 : A30.defers = [] := by rw [hA30]; simp only [df_put]; exact hdf27
      have l4_30 := lookE hA30 4 (es rfl (et rfl))
      have l5_30 := lookE hA30 5 (et rfl)
      clear hA30 hsz27 hdf27 l6_27 l7_27 l8_27 l26_27
      have hS31 : St w NoX [] w22 := hS24.sel [] (by decide) rfl
      refine then_n (hK29 _ _ ?_)
      clear hK29
      refine wp_ret ?_
      refine then_ret ?_
      refine ret_in (results_2 Tryd.results22 (rv_tmp l4_30) (rv_tmp l5_30)) hdf30 ?_
      -- leaf FT
      obtain ⟨c32, hc32, hS32⟩ := hS31.pnil (s := 1)
      have h : mvE lo yo lo2 yo2 = (ofE lo2 yo2 []) := (mvE_2 g1).trans e2
      have h2 := mvT_err (by rw [h]; exact c28)
      rw [h]
      exact ⟨_, rfl, (hS32.fin1 0 rfl (hc32.trans (by rw [h2] <;> rfl)))⟩
    · skip
      have g2 : (chk lo2 yo2).2.2 = 0 := e2.trans (by simpa using c28)
      refine wp_skip ?_
      refine then_n (hK25 _ _ ?_)
      clear hK25
      refine wp_seq_k (fun K33 hK33 => ?_)
      -- region 7
      refine region_in ?_
      refine W_v rfl rfl (V_asg rfl rfl) ?_
      refine W_end ?_
      refine gen_Q (fun A34 hA34 => ?_)
      have hsz34 : SzN A34 44 := by rw [hA34]; infer_instance
      have hdf34 : A34.defers = [] := by rw [hA34]; simp only [df_put]; exact hdf27
      have l6_34 := lookE hA34 6 (es rfl l6_27)
      have l8_34 := lookE hA34 8 (es rfl l8_27)
      have l9_34 := lookE hA34 9 (et rfl)
      clear hA34 hsz27 hdf27 l6_27 l7_27 l8_27 l26_27
      refine then_n (hK33 _ _ ?_)
      clear hK33
      refine wp_seq_k (fun K35 hK35 => ?_)
      refine wp_seq_k (fun K36 hK36 => ?_)
      -- region 8
      refine region_in ?_
      refine W_r rfl rfl (VR_ldA rfl l6_34 (hS24.obj 1 rfl hc8) Tryd.underlying60 rfl (arrR_info rkC_len (ofT_len _ _ _) (by kernel_rfl))) ?_
      refine W_v rfl rfl (V_mov rfl rfl) ?_
      refine W_end ?_
      refine gen_Q (fun A37 hA37 => ?_)
      have hsz37 : SzN A37 44 := by rw [hA37]; infer_instance
      have hdf37 : A37.defers = [] := by rw [hA37]; simp only [df_put]; exact hdf34
      have l8_37 := lookE hA37 8 (es rfl (es rfl l8_34))
      have l9_37 := lookE hA37 9 (es rfl (es rfl l9_34))
      have l28_37 := lookE hA37 28 (es rfl (et rfl))
      have l29_37 := lookE hA37 29 (et rfl)
      clear hA37 hsz34 hdf34 l6_34 l8_34 l9_34
      have hS38 : St w NoX [c22] w22 := hS24.sel [0] (by decide) rfl
      refine then_n (hK36 _ _ ?_)
      clear hK36
      refine wp_block ?_
      obtain ⟨c39, hc39, hS39⟩ := hS38.pnil (s := 1)
      -- loop 9
      refine loopX (fun mz A' w' => SzN A' 44 ∧ A'.defers = [] ∧ (∃ (k : Nat) (vo : Value), (mz = 24 - k) ∧ (k ≤ 24) ∧ (EV A' (.tmp 29) = .int .i64 (k : Int)) ∧ (EV A' (.tmp 9) = vo) ∧ (EV A' (.tmp 8) = EV A37 (.tmp 8)) ∧ (EV A' (.tmp 28) = EV A37 (.tmp 28)) ∧ (St w NoX [io .i64 vo (mvK lo yo lo2 yo2 k), bx g21 60 (((ofT lo2 yo2 []).flatMap rkC).toArray)] w'))) (24 - 0) ⟨hsz37, hdf37, 0, (.slice none 0 0), rfl, (by omega), ((l29_37).trans (by first | rfl | (simp; done) | (congr 1; omega))), ((l9_37).trans (by first | rfl | (simp; done) | (congr 1; omega))), rfl, rfl, (by have q0 : c39 = io .i64 (.slice none 0 0) (mvK lo yo lo2 yo2 0) := hc39.trans (rfl); have q1 := hc22; subst q0 q1; exact hS39)⟩ ?_
      clear hS39 hc39 hc22
      rintro n40 A40 w40 ⟨hsz40, hdf40, k, vo, hm40, hk, l29_40, l9_40, u8_40, u28_40, hS40⟩
      have l8_40 := u8_40.trans l8_37
      have l28_40 := u28_40.trans l28_37
      obtain ⟨c39_40, c22_40, hc39_40, hc22_40, hS40⟩ := gen2 hS40
      refine wp_seq_k (fun K41 hK41 => ?_)
      -- region 9
      refine region_in ?_
      refine W_v rfl rfl (V_lss rfl l29_40 rfl) ?_
      refine W_end ?_
      refine gen_Q (fun A42 hA42 => ?_)
      have hsz42 : SzN A42 44 := by rw [hA42]; infer_instance
      have hdf42 : A42.defers = [] := by rw [hA42]; simp only [df_put]; exact hdf40
      have l8_42 := lookE hA42 8 (es rfl l8_40)
      have l9_42 := lookE hA42 9 (es rfl l9_40)
      have l28_42 := lookE hA42 28 (es rfl l28_40)
      have l29_42 := lookE hA42 29 (es rfl l29_40)
      have l30_42 := lookE hA42 30 (et rfl)
      clear hA42 hsz40 hdf40 l29_40 l9_40 l8_40 l28_40
      refine then_n (hK41 _ _ ?_)
      clear hK41
      refine wp_seq_k (fun K43 hK43 => ?_)
      refine cond_dec l30_42 (fun c44 => ?_) (fun c44 => ?_)
      · skip
        refine wp_skip ?_
        refine then_n (hK43 _ _ ?_)
        clear hK43
        refine wp_seq_k (fun K45 hK45 => ?_)
        refine wp_block ?_
        refine wp_seq_k (fun K46 hK46 => ?_)
        -- region 10
        refine region_in ?_
        refine W_v rfl rfl (V_mov rfl l29_42) ?_
        obtain ⟨y47, hy47⟩ := get_some (xs := (ofT lo yo [])) (k := k) (by rw [(ofT_len _ _ _)]; omega)
        have hz1 := all_row g1 (by omega) hy47
        refine W_v rfl rfl (V_ixvR rkC_len k rfl (es rfl l28_42) (es rfl l29_42) (by omega) Tryd.underlying60 (ofT_len _ _ _) hy47 Tryd.underlying50 rfl (by kernel_rfl)) ?_
        refine W_allocS (z := .agg #[.int .i64 0, .int .i64 0]) (zs := #[.int .i64 0, .int .i64 0]) hS40 rfl rfl rfl (by kernel_rfl) (by rfl) (fun g48 w48 c48 hc48 hS48 => ?_)
        replace hS48 : St w NoX [c48, c39_40, c22_40] w48 := hS48
        refine W_v rfl rfl (V_asg rfl (es rfl (es rfl (et rfl)))) ?_
        refine W_stAS 0 hS48 rfl hc48 rfl rfl rfl (es rfl (et rfl)) (es rfl (es rfl (et rfl))) (by first | (rw [List.all_toArray] <;> rfl) | (simp only [List.all_toArray, List.all_cons, List.all_nil] <;> rfl)) (by rfl) (by kernel_rfl) (fun w49 c49 hc49 hS49 => ?_)
        replace hS49 : St w NoX [c49, c39_40, c22_40] w49 := hS49
        refine W_end ?_
        refine gen_Q (fun A50 hA50 => ?_)
        have hsz50 : SzN A50 44 := by rw [hA50]; infer_instance
        have hdf50 : A50.defers = [] := by rw [hA50]; simp only [df_put]; exact hdf42
        have l8_50 := lookE hA50 8 (es rfl (es rfl (es rfl (es rfl l8_42))))
        have l9_50 := lookE hA50 9 (es rfl (es rfl (es rfl (es rfl l9_42))))
        have l10_50 := lookE hA50 10 (et rfl)
        have l11_50 := lookE hA50 11 (es rfl (et rfl))
        have l28_50 := lookE hA50 28 (es rfl (es rfl (es rfl (es rfl l28_42))))
        have l29_50 := lookE hA50 29 (es rfl (es rfl (es rfl (es rfl l29_42))))
        clear hA50 hsz42 hdf42 l8_42 l9_42 l28_42 l29_42 l30_42
        refine then_n (hK46 _ _ ?_)
        clear hK46
        refine wp_seq_k (fun K51 hK51 => ?_)
        -- region 11
        refine region_monoS 5 5 [] (by kernel_rfl) (by kernel_rfl) ?_
        refine D_r rfl rfl (by kernel_rfl) (fun sx hx hF => (VR_ldA rfl l11_50 ((hS49.grow hx).obj 0 rfl hc49) Tryd.underlying50 rfl (by kernel_rfl))) rfl rfl ?_
        refine D_v rfl rfl (V_mov rfl (es rfl l10_50)) rfl rfl ?_
        have k52 : k < 24 := by omega
        refine D_v rfl rfl (V_ixA (sz := 2) (off' := k * 2) (k) rfl (es rfl (es rfl l8_50)) (et rfl) (by omega) Tryd.underlying60 k52 (by kernel_rfl) (by omega)) rfl rfl ?_
        obtain ⟨y53, hy53⟩ := get_some (xs := (ofT lo2 yo2 [])) (k := k) (by rw [(ofT_len _ _ _)]; omega)
        have hz2 := all_row g2 (by omega) hy53
        refine D_r rfl rfl (by kernel_rfl) (fun sx hx hF => (VR_ldP (ys := rkC y53) rfl (et rfl) ((hS49.grow hx).obj 2 rfl hc22_40) (arrR_at rkC_len hy53) Tryd.underlying50 rfl (by kernel_rfl))) rfl rfl ?_
        refine D_v rfl rfl (V_neSt2 rfl (es rfl (es rfl (es rfl (et rfl)))) (et rfl) (by kernel_rfl)) rfl rfl ?_
        refine ZS_none hS49 (Nat.le_refl _) (Nat.le_refl _) (fun s54 hJ54 hL54 hF54 => ?_)
        have hS54 := hJ54.st; clear hF54 hJ54 hL54
        generalize s54.1 = w54 at *
        replace hS54 : St w NoX [c49, c39_40, c22_40] w54 := hS54
        refine gen_Q (fun A55 hA55 => ?_)
        have hsz55 : SzN A55 44 := by rw [hA55]; infer_instance
        have hdf55 : A55.defers = [] := by rw [hA55]; simp only [df_put]; exact hdf50
        have l8_55 := lookE hA55 8 (es rfl (es rfl (es rfl (es rfl (es rfl l8_50)))))
        have l9_55 := lookE hA55 9 (es rfl (es rfl (es rfl (es rfl (es rfl l9_50)))))
        have l10_55 := lookE hA55 10 (es rfl (es rfl (es rfl (es rfl (es rfl l10_50)))))
        have l28_55 := lookE hA55 28 (es rfl (es rfl (es rfl (es rfl (es rfl l28_50)))))
        have l29_55 := lookE hA55 29 (es rfl (es rfl (es rfl (es rfl (es rfl l29_50)))))
        have l37_55 := lookE hA55 37 (et rfl)
        clear hA55 hsz50 hdf50 l8_50 l9_50 l10_50 l11_50 l28_50 l29_50
        have hS56 : St w NoX [c39_40, c22_40] w54 := hS54.sel [1, 2] (by decide) rfl
        refine then_n (hK51 _ _ ?_)
        clear hK51
        refine cond_dec l37_55 (fun c57 => ?_) (fun c57 => ?_)
        · skip
          -- region 12
          refine region_in ?_
          refine W_v rfl rfl (V_mov rfl l9_55) ?_
          refine W_v rfl rfl (V_mov rfl (es rfl l10_55)) ?_
          have hll58 : [(k : Int)].length = 1 := rfl
          refine W_litS (vs := [.int .i64 ((k : Int))]) (xs := ([(k : Int)].map (Value.int .i64))) 1 hS56 rfl rfl rfl (parts1 (et rfl)) rfl Tryd.underlying22 (by kernel_rfl) (by decide) (by intro v hv; simp only [List.mem_cons, List.not_mem_nil, or_false] at hv; rcases hv with rfl <;> rfl) (by rfl) (fun g58 w58 c58 hc58 hS58 => ?_)
          replace hc58 : c58 = io .i64 (.slice (some ⟨g58, 0, none⟩) 1 1) [(k : Int)] := hc58
          replace hS58 : St w NoX [c58, c39_40, c22_40] w58 := hS58
          refine W_appS 1 1 hS58 rfl hc39_40 rfl rfl rfl (es rfl (es rfl (et rfl))) (et rfl) Tryd.underlying22 Tryd.underlying22 (z := .int .i64 0) (bytes := 8) (by kernel_rfl) rfl (by decide) (ow_at (hS58.chq 0 rfl hc58)) ones_i (by have := mvK_len lo yo lo2 yo2 k; simp; omega) (by have := mvK_len lo yo lo2 yo2 k; simp; omega) (fun v59 w59 c59 hc59 hS59 => ?_)
          replace hc59 : c59 = io .i64 v59 ((mvK lo yo lo2 yo2 k) ++ [(k : Int)]) := hc59.trans (app_eq (by simp))
          replace hS59 : St w NoX [c58, c59, c22_40] w59 := hS59
          refine W_v rfl rfl (V_asg rfl (et rfl)) ?_
          refine W_end ?_
          refine gen_Q (fun A60 hA60 => ?_)
          have hsz60 : SzN A60 44 := by rw [hA60]; infer_instance
          have hdf60 : A60.defers = [] := by rw [hA60]; simp only [df_put]; exact hdf55
          have l8_60 := lookE hA60 8 (es rfl (es rfl (es rfl (es rfl (es rfl l8_55)))))
          have l9_60 := lookE hA60 9 (et rfl)
          have l28_60 := lookE hA60 28 (es rfl (es rfl (es rfl (es rfl (es rfl l28_55)))))
          have l29_60 := lookE hA60 29 (es rfl (es rfl (es rfl (es rfl (es rfl l29_55)))))
          clear hA60 hsz55 hdf55 l8_55 l9_55 l10_55 l28_55 l29_55 l37_55
          have hS61 : St w NoX [c59, c22_40] w59 := hS59.sel [1, 2] (by decide) rfl
          refine inb_n ?_
          refine then_n (hK45 _ _ ?_)
          clear hK45
          -- region 13
          refine region_in ?_
          refine W_v rfl rfl (V_add rfl l29_60 rfl (by omega) (by omega)) ?_
          refine W_v rfl rfl (V_mov rfl (et rfl)) ?_
          refine W_end ?_
          refine gen_Q (fun A62 hA62 => ?_)
          have hsz62 : SzN A62 44 := by rw [hA62]; infer_instance
          have hdf62 : A62.defers = [] := by rw [hA62]; simp only [df_put]; exact hdf60
          have l8_62 := lookE hA62 8 (es rfl (es rfl l8_60))
          have l9_62 := lookE hA62 9 (es rfl (es rfl l9_60))
          have l28_62 := lookE hA62 28 (es rfl (es rfl l28_60))
          have l29_62 := lookE hA62 29 (et rfl)
          clear hA62 hsz60 hdf60 l8_60 l9_60 l28_60 l29_60
          refine then_n ⟨24 - (k + 1), by simp only [hm40]; omega, hsz62, hdf62, (k + 1), v59, rfl, (by omega), ((l29_62).trans (by first | rfl | (simp; done) | (congr 1; omega))), ((l9_62).trans (by first | rfl | (simp; done) | (congr 1; omega))), ((l8_62).trans l8_37.symm), ((l28_62).trans l28_37.symm), (by have q0 : c59 = io .i64 v59 (mvK lo yo lo2 yo2 (k + 1)) := hc59.trans ((congrArg (io .i64 _) (mvK_hit (by rw [hz1, hz2]; exact pr_ne c57)))); have q1 := hc22_40; subst q0 q1; exact hS61)⟩
        · skip
          refine wp_skip ?_
          refine inb_n ?_
          refine then_n (hK45 _ _ ?_)
          clear hK45
          -- region 13
          refine region_in ?_
          refine W_v rfl rfl (V_add rfl l29_55 rfl (by omega) (by omega)) ?_
          refine W_v rfl rfl (V_mov rfl (et rfl)) ?_
          refine W_end ?_
          refine gen_Q (fun A63 hA63 => ?_)
          have hsz63 : SzN A63 44 := by rw [hA63]; infer_instance
          have hdf63 : A63.defers = [] := by rw [hA63]; simp only [df_put]; exact hdf55
          have l8_63 := lookE hA63 8 (es rfl (es rfl l8_55))
          have l9_63 := lookE hA63 9 (es rfl (es rfl l9_55))
          have l28_63 := lookE hA63 28 (es rfl (es rfl l28_55))
          have l29_63 := lookE hA63 29 (et rfl)
          clear hA63 hsz55 hdf55 l8_55 l9_55 l10_55 l28_55 l29_55 l37_55
          refine then_n ⟨24 - (k + 1), by simp only [hm40]; omega, hsz63, hdf63, (k + 1), vo, rfl, (by omega), ((l29_63).trans (by first | rfl | (simp; done) | (congr 1; omega))), ((l9_63).trans (by first | rfl | (simp; done) | (congr 1; omega))), ((l8_63).trans l8_37.symm), ((l28_63).trans l28_37.symm), (by have q0 : c39_40 = io .i64 vo (mvK lo yo lo2 yo2 (k + 1)) := hc39_40.trans ((congrArg (io .i64 _) (mvK_skip (by rw [hz1, hz2]; exact pr_eq (by simpa using c57))))); have q1 := hc22_40; subst q0 q1; exact hS56)⟩
      · skip
        refine wp_exit ?_
        refine then_exit ?_
        refine then_exit ?_
        refine inb_hit ?_
        refine then_n (hK35 _ _ ?_)
        clear hK35
        refine wp_seq_k (fun K64 hK64 => ?_)
        -- region 14
        refine region_in ?_
        refine W_v rfl rfl (V_mov rfl l9_42) ?_
        refine W_v rfl rfl (V_asg rfl (et rfl)) ?_
        refine W_v rfl rfl (V_asg rfl rfl) ?_
        refine W_end ?_
        refine gen_Q (fun A65 hA65 => ?_)
        have hsz65 : SzN A65 44 := by rw [hA65]; infer_instance
        have hdf65 : A65.defers = [] := by rw [hA65]; simp only [df_put]; exact hdf42
        have l4_65 := lookE hA65 4 (es rfl (et rfl))
        have l5_65 := lookE hA65 5 (et rfl)
        clear hA65 hsz42 hdf42 l8_42 l9_42 l28_42 l29_42 l30_42
        have hS66 : St w NoX [c39_40] w40 := hS40.sel [0] (by decide) rfl
        refine then_n (hK64 _ _ ?_)
        clear hK64
        refine wp_ret ?_
        refine ret_in (results_2 Tryd.results22 (rv_tmp l4_65) (rv_tmp l5_65)) hdf65 ?_
        -- leaf FFF
        have h : mvE lo yo lo2 yo2 = 0 := (mvE_2 g1).trans g2
        obtain rfl : k = 24 := by omega
        rw [h]
        exact ⟨_, rfl, (hS66.fin1 0 rfl (hc39_40.trans (by rw [mvT_ok h])))⟩

set_option maxHeartbeats 4000000 in
theorem qMv_c {lv : Value} {lo : List Int} {yv : Value} {yo : List Int} {lv2 : Value} {lo2 : List Int} {yv2 : Value} {yo2 : List Int} {w : World} (h_lv : Ro w NoX (il .i64 lv lo)) (h_yv : Ro w NoX (il .i64 yv yo)) (h_lv2 : Ro w NoX (il .i64 lv2 lo2)) (h_yv2 : Ro w NoX (il .i64 yv2 yo2)) (h1 : lo.length ≤ 1000) (h2 : yo.length ≤ 1000) (h3 : lo2.length ≤ 1000) (h4 : yo2.length ≤ 1000) :
    Calls Tryd.prog 23 #[.agg #[lv, yv], .agg #[lv2, yv2]] w fun e w' => ∃ v, e = .returned (.tuple #[v, .int .i64 (mvE lo yo lo2 yo2)]) ∧ St w NoX [io .i64 (v) (mvT lo yo lo2 yo2)] w' := by
  refine calls_in 45 Tryd.func23 rfl rfl (by simp) (fun A0 hsz0 hdf0 hargs => ?_)
  have l0_0 := hargs 0 (.agg #[lv, yv]) rfl
  have l1_0 := hargs 1 (.agg #[lv2, yv2]) rfl
  clear hargs; replace hsz0 : SzN A0 45 := ⟨hsz0⟩
  have hS := St.nil w
  have bh_lv := SlN.le (sl_SlN h_lv.at)
  have bh_yv := SlN.le (sl_SlN h_yv.at)
  have bh_lv2 := SlN.le (sl_SlN h_lv2.at)
  have bh_yv2 := SlN.le (sl_SlN h_yv2.at)
  refine wp_seq_k (fun K1 hK1 => ?_)
  -- region 0
  refine region_in ?_
  refine W_boxS (zs := #[lv, yv]) hS rfl rfl rfl l0_0 (by rfl) (fun g2 w2 c2 hc2 hS2 => ?_)
  replace hS2 : St w NoX [c2] w2 := hS2
  refine W_boxS (zs := #[lv2, yv2]) hS2 rfl rfl rfl (es rfl l1_0) (by rfl) (fun g3 w3 c3 hc3 hS3 => ?_)
  replace hS3 : St w NoX [c3, c2] w3 := hS3
  refine W_v rfl rfl (V_asg rfl rfl) ?_
  refine W_v rfl rfl (V_asg rfl rfl) ?_
  refine W_end ?_
  refine gen_Q (fun A4 hA4 => ?_)
  have hsz4 : SzN A4 45 := by rw [hA4]; infer_instance
  have hdf4 : A4.defers = [] := by rw [hA4]; simp only [df_put]; exact hdf0
  have l2_4 := lookE hA4 2 (es rfl (es rfl (es rfl (et rfl))))
  have l3_4 := lookE hA4 3 (es rfl (es rfl (et rfl)))
  clear hA4 hsz0 hdf0 l0_0 l1_0
  refine then_n (hK1 _ _ ?_)
  clear hK1
  refine wp_seq_k (fun K5 hK5 => ?_)
  -- region 1
  refine region_in ?_
  refine W_r rfl rfl (VR_ldA rfl l2_4 (hS3.obj 1 rfl hc2) Tryd.underlying24 rfl (by kernel_rfl)) ?_
  refine W_call rfl rfl rfl Tryd.func34 (by kernel_rfl) rfl (args1 (et rfl)) (qAll_c (hS3.roC h_lv) (hS3.roC h_yv) (by first | omega | (simp; done) | (simp; omega)) (by first | omega | (simp; done) | (simp; omega))) ?_
  rintro _ w6 ⟨v_6, rfl, hP6⟩
  refine ⟨_, rfl, ?_⟩
  obtain ⟨c_6, hc_6, hP6⟩ := gen1 hP6
  have hS6 := hS3.join hP6
  replace hS6 : St w NoX [c_6, c3, c2] w6 := hS6
  refine W_v rfl rfl (V_mov rfl (et rfl)) ?_
  refine W_v rfl rfl (V_ext (v := v_6) rfl (et rfl) rfl) ?_
  refine W_v rfl rfl (V_ext (v := .int .i64 ((chk lo yo).2.2)) rfl (es rfl (et rfl)) rfl) ?_
  refine W_v rfl rfl (V_asg rfl (es rfl (et rfl))) ?_
  refine W_v rfl rfl (V_asg rfl (es rfl (et rfl))) ?_
  refine W_end ?_
  refine gen_Q (fun A7 hA7 => ?_)
  have hsz7 : SzN A7 45 := by rw [hA7]; infer_instance
  have hdf7 : A7.defers = [] := by rw [hA7]; simp only [df_put]; exact hdf4
  have l3_7 := lookE hA7 3 (es rfl (es rfl (es rfl (es rfl (es rfl (es rfl (es rfl l3_4)))))))
  have l6_7 := lookE hA7 6 (es rfl (et rfl))
  have l7_7 := lookE hA7 7 (et rfl)
  clear hA7 hsz4 hdf4 l2_4 l3_4
  have hS8 : St w NoX [c_6, c3] w6 := hS6.sel [0, 1] (by decide) rfl
  refine then_n (hK5 _ _ ?_)
  clear hK5
  refine wp_seq_k (fun K9 hK9 => ?_)
  refine wp_seq_k (fun K10 hK10 => ?_)
  -- region 2
  refine region_in ?_
  refine W_v rfl rfl (V_mov rfl l7_7) ?_
  refine W_v rfl rfl (V_neq rfl (et rfl) rfl) ?_
  refine W_end ?_
  refine gen_Q (fun A11 hA11 => ?_)
  have hsz11 : SzN A11 45 := by rw [hA11]; infer_instance
  have hdf11 : A11.defers = [] := by rw [hA11]; simp only [df_put]; exact hdf7
  have l3_11 := lookE hA11 3 (es rfl (es rfl l3_7))
  have l6_11 := lookE hA11 6 (es rfl (es rfl l6_7))
  have l7_11 := lookE hA11 7 (es rfl (es rfl l7_7))
  have l17_11 := lookE hA11 17 (et rfl)
  clear hA11 hsz7 hdf7 l3_7 l6_7 l7_7
  refine then_n (hK10 _ _ ?_)
  clear hK10
  refine cond_dec l17_11 (fun c12 => ?_) (fun c12 => ?_)
  · skip
    refine wp_seq_k (fun K13 hK13 => ?_)
    -- region 3
    refine region_in ?_
    refine W_v rfl rfl (V_mov rfl l7_11) ?_
    refine W_v rfl rfl (V_asg rfl rfl) ?_
    refine W_v rfl rfl (V_asg rfl (es rfl (et rfl))) ?_
    refine W_end ?_
    refine gen_Q (fun A14 hA14 => ?_)
    have hsz14 : SzN A14 45 := by rw [hA14]; infer_instance
    have hdf14 : A14.defers = [] := by rw [hA14]; simp only [df_put]; exact hdf11
    have l4_14 := lookE hA14 4 (es rfl (et rfl))
    have l5_14 := lookE hA14 5 (et rfl)
    clear hA14 hsz11 hdf11 l3_11 l6_11 l7_11 l17_11
    have hS15 : St w NoX [] w6 := hS8.sel [] (by decide) rfl
    refine then_n (hK13 _ _ ?_)
    clear hK13
    refine wp_ret ?_
    refine then_ret ?_
    refine ret_in (results_2 Tryd.results23 (rv_tmp l4_14) (rv_tmp l5_14)) hdf14 ?_
    -- leaf T
    obtain ⟨c16, hc16, hS16⟩ := hS15.pnil (s := 1)
    have e1 : (chk lo yo).2.2 = (chk lo yo).2.2 := rfl
    have e2 : (chk lo2 yo2).2.2 = (chk lo2 yo2).2.2 := rfl
    have h0 : (chk lo yo).2.2 ≠ 0 := by rw [e1]; exact c12
    have h : mvE lo yo lo2 yo2 = (chk lo yo).2.2 := (mvE_1 h0).trans e1
    have h2 := mvT_err (by rw [h]; exact c12)
    rw [h]
    exact ⟨_, rfl, (hS16.fin1 0 rfl (hc16.trans (by rw [h2] <;> rfl)))⟩
  · skip
    have g1 : (chk lo yo).2.2 = 0 := by simpa using c12
    refine wp_skip ?_
    refine then_n (hK9 _ _ ?_)
    clear hK9
    refine wp_seq_k (fun K17 hK17 => ?_)
    -- region 4
    refine region_in ?_
    refine W_r rfl rfl (VR_ldA rfl l3_11 (hS8.obj 1 rfl hc3) Tryd.underlying24 rfl (by kernel_rfl)) ?_
    refine W_call rfl rfl rfl Tryd.func34 (by kernel_rfl) rfl (args1 (et rfl)) (qAll_c (hS8.roC h_lv2) (hS8.roC h_yv2) (by first | omega | (simp; done) | (simp; omega)) (by first | omega | (simp; done) | (simp; omega))) ?_
    rintro _ w18 ⟨v_18, rfl, hP18⟩
    refine ⟨_, rfl, ?_⟩
    obtain ⟨c_18, hc_18, hP18⟩ := gen1 hP18
    have hS18 := hS8.join hP18
    replace hS18 : St w NoX [c_18, c_6, c3] w18 := hS18
    refine W_v rfl rfl (V_mov rfl (et rfl)) ?_
    refine W_v rfl rfl (V_ext (v := v_18) rfl (et rfl) rfl) ?_
    refine W_v rfl rfl (V_ext (v := .int .i64 ((chk lo2 yo2).2.2)) rfl (es rfl (et rfl)) rfl) ?_
    refine W_v rfl rfl (V_asg rfl (es rfl (et rfl))) ?_
    refine W_v rfl rfl (V_asg rfl (es rfl (et rfl))) ?_
    refine W_end ?_
    refine gen_Q (fun A19 hA19 => ?_)
    have hsz19 : SzN A19 45 := by rw [hA19]; infer_instance
    have hdf19 : A19.defers = [] := by rw [hA19]; simp only [df_put]; exact hdf11
    have l6_19 := lookE hA19 6 (es rfl (es rfl (es rfl (es rfl (es rfl (es rfl (es rfl l6_11)))))))
    have l7_19 := lookE hA19 7 (et rfl)
    have l8_19 := lookE hA19 8 (es rfl (et rfl))
    clear hA19 hsz11 hdf11 l3_11 l6_11 l7_11 l17_11
    have hS20 : St w NoX [c_18, c_6] w18 := hS18.sel [0, 1] (by decide) rfl
    refine then_n (hK17 _ _ ?_)
    clear hK17
    refine wp_seq_k (fun K21 hK21 => ?_)
    refine wp_seq_k (fun K22 hK22 => ?_)
    -- region 5
    refine region_in ?_
    refine W_v rfl rfl (V_mov rfl l7_19) ?_
    refine W_v rfl rfl (V_neq rfl (et rfl) rfl) ?_
    refine W_end ?_
    refine gen_Q (fun A23 hA23 => ?_)
    have hsz23 : SzN A23 45 := by rw [hA23]; infer_instance
    have hdf23 : A23.defers = [] := by rw [hA23]; simp only [df_put]; exact hdf19
    have l6_23 := lookE hA23 6 (es rfl (es rfl l6_19))
    have l7_23 := lookE hA23 7 (es rfl (es rfl l7_19))
    have l8_23 := lookE hA23 8 (es rfl (es rfl l8_19))
    have l25_23 := lookE hA23 25 (et rfl)
    clear hA23 hsz19 hdf19 l6_19 l7_19 l8_19
    refine then_n (hK22 _ _ ?_)
    clear hK22
    refine cond_dec l25_23 (fun c24 => ?_) (fun c24 => ?_)
    · skip
      refine wp_seq_k (fun K25 hK25 => ?_)
      -- region 6
      refine region_in ?_
      refine W_v rfl rfl (V_mov rfl l7_23) ?_
      refine W_v rfl rfl (V_asg rfl rfl) ?_
      refine W_v rfl rfl (V_asg rfl (es rfl (et rfl))) ?_
      refine W_end ?_
      refine gen_Q (fun A26 hA26 => ?_)
      have hsz26 : SzN A26 45 := by rw [hA26]; infer_instance
      have hdf26 : A26.defers = [] := by rw [hA26]; simp only [df_put]; exact hdf23
      have l4_26 := lookE hA26 4 (es rfl (et rfl))
      have l5_26 := lookE hA26 5 (et rfl)
      clear hA26 hsz23 hdf23 l6_23 l7_23 l8_23 l25_23
      have hS27 : St w NoX [] w18 := hS20.sel [] (by decide) rfl
      refine then_n (hK25 _ _ ?_)
      clear hK25
      refine wp_ret ?_
      refine then_ret ?_
      refine ret_in (results_2 Tryd.results23 (rv_tmp l4_26) (rv_tmp l5_26)) hdf26 ?_
      -- leaf FT
      obtain ⟨c28, hc28, hS28⟩ := hS27.pnil (s := 1)
      have e1 : (chk lo yo).2.2 = (chk lo yo).2.2 := rfl
      have e2 : (chk lo2 yo2).2.2 = (chk lo2 yo2).2.2 := rfl
      have h : mvE lo yo lo2 yo2 = (chk lo2 yo2).2.2 := (mvE_2 g1).trans e2
      have h2 := mvT_err (by rw [h]; exact c24)
      rw [h]
      exact ⟨_, rfl, (hS28.fin1 0 rfl (hc28.trans (by rw [h2] <;> rfl)))⟩
    · skip
      have g2 : (chk lo2 yo2).2.2 = 0 := by simpa using c24
      have L1 := allT_len g1
      have L2 := allT_len g2
      refine wp_skip ?_
      refine then_n (hK21 _ _ ?_)
      clear hK21
      refine wp_seq_k (fun K29 hK29 => ?_)
      -- region 7
      refine region_in ?_
      refine W_v rfl rfl (V_asg rfl rfl) ?_
      refine W_end ?_
      refine gen_Q (fun A30 hA30 => ?_)
      have hsz30 : SzN A30 45 := by rw [hA30]; infer_instance
      have hdf30 : A30.defers = [] := by rw [hA30]; simp only [df_put]; exact hdf23
      have l6_30 := lookE hA30 6 (es rfl l6_23)
      have l8_30 := lookE hA30 8 (es rfl l8_23)
      have l9_30 := lookE hA30 9 (et rfl)
      clear hA30 hsz23 hdf23 l6_23 l7_23 l8_23 l25_23
      refine then_n (hK29 _ _ ?_)
      clear hK29
      refine wp_seq_k (fun K31 hK31 => ?_)
      refine wp_seq_k (fun K32 hK32 => ?_)
      -- region 8
      refine region_in ?_
      refine W_v rfl rfl (V_asg rfl rfl) ?_
      refine W_end ?_
      refine gen_Q (fun A33 hA33 => ?_)
      have hsz33 : SzN A33 45 := by rw [hA33]; infer_instance
      have hdf33 : A33.defers = [] := by rw [hA33]; simp only [df_put]; exact hdf30
      have l6_33 := lookE hA33 6 (es rfl l6_30)
      have l8_33 := lookE hA33 8 (es rfl l8_30)
      have l9_33 := lookE hA33 9 (es rfl l9_30)
      have l10_33 := lookE hA33 10 (et rfl)
      clear hA33 hsz30 hdf30 l6_30 l8_30 l9_30
      refine then_n (hK32 _ _ ?_)
      clear hK32
      refine wp_block ?_
      obtain ⟨c34, hc34, hS34⟩ := hS20.pnil (s := 1)
      -- loop 9
      refine loopX (fun mz A' w' => SzN A' 45 ∧ A'.defers = [] ∧ (∃ (k : Nat) (vo : Value), (mz = 24 - k) ∧ (k ≤ 24) ∧ (EV A' (.tmp 10) = .int .i64 (k : Int)) ∧ (EV A' (.tmp 9) = vo) ∧ (EV A' (.tmp 6) = EV A33 (.tmp 6)) ∧ (EV A' (.tmp 8) = EV A33 (.tmp 8)) ∧ (St w NoX [io .i64 vo (mvK lo yo lo2 yo2 k), ro 2 rkC v_18 (allT lo2 yo2), ro 2 rkC v_6 (allT lo yo)] w'))) (24 - 0) ⟨hsz33, hdf33, 0, (.slice none 0 0), rfl, (by omega), ((l10_33).trans (by first | rfl | (simp; done) | (congr 1; omega))), ((l9_33).trans (by first | rfl | (simp; done) | (congr 1; omega))), rfl, rfl, (by have q0 : c34 = io .i64 (.slice none 0 0) (mvK lo yo lo2 yo2 0) := hc34.trans (rfl); have q1 := hc_18; have q2 := hc_6; subst q0 q1 q2; exact hS34)⟩ ?_
      clear hS34 hc34 hc_18 hc_6
      rintro n35 A35 w35 ⟨hsz35, hdf35, k, vo, hm35, hk, l10_35, l9_35, u6_35, u8_35, hS35⟩
      have l6_35 := u6_35.trans l6_33
      have l8_35 := u8_35.trans l8_33
      obtain ⟨c34_35, c_35, c_35b, hc34_35, hc_35, hc_35b, hS35⟩ := gen3 hS35
      refine wp_seq_k (fun K36 hK36 => ?_)
      refine wp_seq_k (fun K37 hK37 => ?_)
      -- region 9
      refine region_in ?_
      refine W_v rfl rfl (V_mov rfl l10_35) ?_
      refine W_v rfl rfl (V_lss rfl (et rfl) rfl) ?_
      refine W_end ?_
      refine gen_Q (fun A38 hA38 => ?_)
      have hsz38 : SzN A38 45 := by rw [hA38]; infer_instance
      have hdf38 : A38.defers = [] := by rw [hA38]; simp only [df_put]; exact hdf35
      have l6_38 := lookE hA38 6 (es rfl (es rfl l6_35))
      have l8_38 := lookE hA38 8 (es rfl (es rfl l8_35))
      have l9_38 := lookE hA38 9 (es rfl (es rfl l9_35))
      have l10_38 := lookE hA38 10 (es rfl (es rfl l10_35))
      have l28_38 := lookE hA38 28 (et rfl)
      clear hA38 hsz35 hdf35 l10_35 l9_35 l6_35 l8_35
      refine then_n (hK37 _ _ ?_)
      clear hK37
      refine cond_dec l28_38 (fun c39 => ?_) (fun c39 => ?_)
      · skip
        refine wp_skip ?_
        refine then_n (hK36 _ _ ?_)
        clear hK36
        refine wp_seq_k (fun K40 hK40 => ?_)
        refine wp_block ?_
        refine wp_seq_k (fun K41 hK41 => ?_)
        -- region 11
        refine region_monoS 9 9 [] (by kernel_rfl) (by kernel_rfl) ?_
        refine D_v rfl rfl (V_mov rfl l6_38) rfl rfl ?_
        refine D_v rfl rfl (V_mov rfl (es rfl l10_38)) rfl rfl ?_
        have k42 : k < (allT lo yo).length := by first | omega | (simp only [List.length_cons, List.length_nil]; omega)
        obtain ⟨y42, hy42⟩ := get_some (xs := (allT lo yo)) (k := k) k42
        have hz1 := all_row' g1 (by omega) hy42
        obtain ⟨B42, O42, C42, hv42⟩ := (SlN.blk (ow_at (hS35.chq 2 rfl hc_35b)) (by first | omega | (simp only [List.length_cons, List.length_nil]; omega)))
        refine D_v rfl rfl (V_ixS (off := O42 + k * 2) 2 (k) rfl (es rfl (et rfl)) (et rfl) hv42 (by omega) k42 Tryd.underlying53 (by kernel_rfl) rfl) rfl rfl ?_
        refine D_r rfl rfl (by kernel_rfl) (fun sx hx hF => (VR_ldR (ys := rkC y42) rfl (et rfl) (SlN.row rkC_len (ow_at ((hS35.grow hx).chq 2 rfl hc_35b)) hv42 hy42 rfl) Tryd.underlying50 rfl (by kernel_rfl))) rfl rfl ?_
        refine D_v rfl rfl (V_mov rfl (es rfl (es rfl (es rfl (es rfl l8_38))))) rfl rfl ?_
        refine D_v rfl rfl (V_mov rfl (es rfl (es rfl (es rfl (es rfl (es rfl l10_38)))))) rfl rfl ?_
        have k43 : k < (allT lo2 yo2).length := by first | omega | (simp only [List.length_cons, List.length_nil]; omega)
        obtain ⟨y43, hy43⟩ := get_some (xs := (allT lo2 yo2)) (k := k) k43
        have hz2 := all_row' g2 (by omega) hy43
        obtain ⟨B43, O43, C43, hv43⟩ := (SlN.blk (ow_at (hS35.chq 1 rfl hc_35)) (by first | omega | (simp only [List.length_cons, List.length_nil]; omega)))
        refine D_v rfl rfl (V_ixS (off := O43 + k * 2) 2 (k) rfl (es rfl (et rfl)) (et rfl) hv43 (by omega) k43 Tryd.underlying53 (by kernel_rfl) rfl) rfl rfl ?_
        refine D_r rfl rfl (by kernel_rfl) (fun sx hx hF => (VR_ldR (ys := rkC y43) rfl (et rfl) (SlN.row rkC_len (ow_at ((hS35.grow hx).chq 1 rfl hc_35)) hv43 hy43 rfl) Tryd.underlying50 rfl (by kernel_rfl))) rfl rfl ?_
        refine D_v rfl rfl (V_neSt2 rfl (es rfl (es rfl (es rfl (es rfl (et rfl))))) (et rfl) (by kernel_rfl)) rfl rfl ?_
        refine ZS_none hS35 (Nat.le_refl _) (Nat.le_refl _) (fun s44 hJ44 hL44 hF44 => ?_)
        have hS44 := hJ44.st; clear hF44 hJ44 hL44
        generalize s44.1 = w44 at *
        replace hS44 : St w NoX [c34_35, c_35, c_35b] w44 := hS44
        refine gen_Q (fun A45 hA45 => ?_)
        have hsz45 : SzN A45 45 := by rw [hA45]; infer_instance
        have hdf45 : A45.defers = [] := by rw [hA45]; simp only [df_put]; exact hdf38
        have l6_45 := lookE hA45 6 (es rfl (es rfl (es rfl (es rfl (es rfl (es rfl (es rfl (es rfl (es rfl l6_38)))))))))
        have l8_45 := lookE hA45 8 (es rfl (es rfl (es rfl (es rfl (es rfl (es rfl (es rfl (es rfl (es rfl l8_38)))))))))
        have l9_45 := lookE hA45 9 (es rfl (es rfl (es rfl (es rfl (es rfl (es rfl (es rfl (es rfl (es rfl l9_38)))))))))
        have l10_45 := lookE hA45 10 (es rfl (es rfl (es rfl (es rfl (es rfl (es rfl (es rfl (es rfl (es rfl l10_38)))))))))
        have l39_45 := lookE hA45 39 (et rfl)
        clear hA45 hsz38 hdf38 l6_38 l8_38 l9_38 l10_38 l28_38
        refine then_n (hK41 _ _ ?_)
        clear hK41
        refine cond_dec l39_45 (fun c46 => ?_) (fun c46 => ?_)
        · skip
          -- region 12
          refine region_in ?_
          refine W_v rfl rfl (V_mov rfl l9_45) ?_
          refine W_v rfl rfl (V_mov rfl (es rfl l10_45)) ?_
          have hll47 : [(k : Int)].length = 1 := rfl
          refine W_litS (vs := [.int .i64 ((k : Int))]) (xs := ([(k : Int)].map (Value.int .i64))) 1 hS44 rfl rfl rfl (parts1 (et rfl)) rfl Tryd.underlying22 (by kernel_rfl) (by decide) (by intro v hv; simp only [List.mem_cons, List.not_mem_nil, or_false] at hv; rcases hv with rfl <;> rfl) (by rfl) (fun g47 w47 c47 hc47 hS47 => ?_)
          replace hc47 : c47 = io .i64 (.slice (some ⟨g47, 0, none⟩) 1 1) [(k : Int)] := hc47
          replace hS47 : St w NoX [c47, c34_35, c_35, c_35b] w47 := hS47
          refine W_appS 1 1 hS47 rfl hc34_35 rfl rfl rfl (es rfl (es rfl (et rfl))) (et rfl) Tryd.underlying22 Tryd.underlying22 (z := .int .i64 0) (bytes := 8) (by kernel_rfl) rfl (by decide) (ow_at (hS47.chq 0 rfl hc47)) ones_i (by have := mvK_len lo yo lo2 yo2 k; simp; omega) (by have := mvK_len lo yo lo2 yo2 k; simp; omega) (fun v48 w48 c48 hc48 hS48 => ?_)
          replace hc48 : c48 = io .i64 v48 ((mvK lo yo lo2 yo2 k) ++ [(k : Int)]) := hc48.trans (app_eq (by simp))
          replace hS48 : St w NoX [c47, c48, c_35, c_35b] w48 := hS48
          refine W_v rfl rfl (V_asg rfl (et rfl)) ?_
          refine W_end ?_
          refine gen_Q (fun A49 hA49 => ?_)
          have hsz49 : SzN A49 45 := by rw [hA49]; infer_instance
          have hdf49 : A49.defers = [] := by rw [hA49]; simp only [df_put]; exact hdf45
          have l6_49 := lookE hA49 6 (es rfl (es rfl (es rfl (es rfl (es rfl l6_45)))))
          have l8_49 := lookE hA49 8 (es rfl (es rfl (es rfl (es rfl (es rfl l8_45)))))
          have l9_49 := lookE hA49 9 (et rfl)
          have l10_49 := lookE hA49 10 (es rfl (es rfl (es rfl (es rfl (es rfl l10_45)))))
          clear hA49 hsz45 hdf45 l6_45 l8_45 l9_45 l10_45 l39_45
          have hS50 : St w NoX [c48, c_35, c_35b] w48 := hS48.sel [1, 2, 3] (by decide) rfl
          refine inb_n ?_
          refine then_n (hK40 _ _ ?_)
          clear hK40
          -- region 10
          refine region_in ?_
          refine W_v rfl rfl (V_mov rfl l10_49) ?_
          refine W_v rfl rfl (V_add rfl (et rfl) rfl (by omega) (by omega)) ?_
          refine W_v rfl rfl (V_asg rfl (et rfl)) ?_
          refine W_end ?_
          refine gen_Q (fun A51 hA51 => ?_)
          have hsz51 : SzN A51 45 := by rw [hA51]; infer_instance
          have hdf51 : A51.defers = [] := by rw [hA51]; simp only [df_put]; exact hdf49
          have l6_51 := lookE hA51 6 (es rfl (es rfl (es rfl l6_49)))
          have l8_51 := lookE hA51 8 (es rfl (es rfl (es rfl l8_49)))
          have l9_51 := lookE hA51 9 (es rfl (es rfl (es rfl l9_49)))
          have l10_51 := lookE hA51 10 (et rfl)
          clear hA51 hsz49 hdf49 l6_49 l8_49 l9_49 l10_49
          refine then_n ⟨24 - (k + 1), by simp only [hm35]; omega, hsz51, hdf51, (k + 1), v48, rfl, (by omega), ((l10_51).trans (by first | rfl | (simp; done) | (congr 1; omega))), ((l9_51).trans (by first | rfl | (simp; done) | (congr 1; omega))), ((l6_51).trans l6_33.symm), ((l8_51).trans l8_33.symm), (by have q0 : c48 = io .i64 v48 (mvK lo yo lo2 yo2 (k + 1)) := hc48.trans ((congrArg (io .i64 _) (mvK_hit (by rw [hz1, hz2]; exact pr_ne c46)))); have q1 := hc_35; have q2 := hc_35b; subst q0 q1 q2; exact hS50)⟩
        · skip
          refine wp_skip ?_
          refine inb_n ?_
          refine then_n (hK40 _ _ ?_)
          clear hK40
          -- region 10
          refine region_in ?_
          refine W_v rfl rfl (V_mov rfl l10_45) ?_
          refine W_v rfl rfl (V_add rfl (et rfl) rfl (by omega) (by omega)) ?_
          refine W_v rfl rfl (V_asg rfl (et rfl)) ?_
          refine W_end ?_
          refine gen_Q (fun A52 hA52 => ?_)
          have hsz52 : SzN A52 45 := by rw [hA52]; infer_instance
          have hdf52 : A52.defers = [] := by rw [hA52]; simp only [df_put]; exact hdf45
          have l6_52 := lookE hA52 6 (es rfl (es rfl (es rfl l6_45)))
          have l8_52 := lookE hA52 8 (es rfl (es rfl (es rfl l8_45)))
          have l9_52 := lookE hA52 9 (es rfl (es rfl (es rfl l9_45)))
          have l10_52 := lookE hA52 10 (et rfl)
          clear hA52 hsz45 hdf45 l6_45 l8_45 l9_45 l10_45 l39_45
          refine then_n ⟨24 - (k + 1), by simp only [hm35]; omega, hsz52, hdf52, (k + 1), vo, rfl, (by omega), ((l10_52).trans (by first | rfl | (simp; done) | (congr 1; omega))), ((l9_52).trans (by first | rfl | (simp; done) | (congr 1; omega))), ((l6_52).trans l6_33.symm), ((l8_52).trans l8_33.symm), (by have q0 : c34_35 = io .i64 vo (mvK lo yo lo2 yo2 (k + 1)) := hc34_35.trans ((congrArg (io .i64 _) (mvK_skip (by rw [hz1, hz2]; exact pr_eq (by simpa using c46))))); have q1 := hc_35; have q2 := hc_35b; subst q0 q1 q2; exact hS44)⟩
      · skip
        refine wp_exit ?_
        refine then_exit ?_
        refine then_exit ?_
        refine inb_hit ?_
        refine then_n (hK31 _ _ ?_)
        clear hK31
        refine wp_seq_k (fun K53 hK53 => ?_)
        -- region 13
        refine region_in ?_
        refine W_v rfl rfl (V_mov rfl l9_38) ?_
        refine W_v rfl rfl (V_asg rfl (et rfl)) ?_
        refine W_v rfl rfl (V_asg rfl rfl) ?_
        refine W_end ?_
        refine gen_Q (fun A54 hA54 => ?_)
        have hsz54 : SzN A54 45 := by rw [hA54]; infer_instance
        have hdf54 : A54.defers = [] := by rw [hA54]; simp only [df_put]; exact hdf38
        have l4_54 := lookE hA54 4 (es rfl (et rfl))
        have l5_54 := lookE hA54 5 (et rfl)
        clear hA54 hsz38 hdf38 l6_38 l8_38 l9_38 l10_38 l28_38
        have hS55 : St w NoX [c34_35] w35 := hS35.sel [0] (by decide) rfl
        refine then_n (hK53 _ _ ?_)
        clear hK53
        refine wp_ret ?_
        refine ret_in (results_2 Tryd.results23 (rv_tmp l4_54) (rv_tmp l5_54)) hdf54 ?_
        -- leaf FFF
        have e1 : (chk lo yo).2.2 = (chk lo yo).2.2 := rfl
        have e2 : (chk lo2 yo2).2.2 = (chk lo2 yo2).2.2 := rfl
        have h : mvE lo yo lo2 yo2 = 0 := (mvE_2 g1).trans g2
        obtain rfl : k = 24 := by omega
        rw [h]
        exact ⟨_, rfl, (hS55.fin1 0 rfl (hc34_35.trans (by rw [mvT_ok h])))⟩

set_option maxHeartbeats 4000000 in
theorem qSm_c {xv : Value} {xs : List (Int × Int)} {yv : Value} {ys : List (Int × Int)} {w : World} (h_xv : Ro w NoX (rl 2 rkC xv xs)) (h_yv : Ro w NoX (rl 2 rkC yv ys))  :
    Calls Tryd.prog 36 #[xv, yv] w fun e w' => e = .returned (.bool (decide (xs = ys))) ∧ St w NoX [] w' := by
  refine calls_in 26 Tryd.func36 rfl rfl (by simp) (fun A0 hsz0 hdf0 hargs => ?_)
  have l0_0 := hargs 0 (xv) rfl
  have l1_0 := hargs 1 (yv) rfl
  clear hargs; replace hsz0 : SzN A0 26 := ⟨hsz0⟩
  have hS := St.nil w
  have bh_xv := SlN.le (sl_SlN h_xv.at)
  have bh_yv := SlN.le (sl_SlN h_yv.at)
  refine wp_seq_k (fun K1 hK1 => ?_)
  -- region 0
  refine region_in ?_
  refine W_v rfl rfl (V_asg rfl rfl) ?_
  refine W_end ?_
  refine gen_Q (fun A2 hA2 => ?_)
  have hsz2 : SzN A2 26 := by rw [hA2]; infer_instance
  have hdf2 : A2.defers = [] := by rw [hA2]; simp only [df_put]; exact hdf0
  have l0_2 := lookE hA2 0 (es rfl l0_0)
  have l1_2 := lookE hA2 1 (es rfl l1_0)
  clear hA2 hsz0 hdf0 l0_0 l1_0
  refine then_n (hK1 _ _ ?_)
  clear hK1
  refine wp_seq_k (fun K3 hK3 => ?_)
  refine wp_seq_k (fun K4 hK4 => ?_)
  -- region 1
  refine region_in ?_
  refine W_v rfl rfl (V_mov rfl l0_2) ?_
  refine W_v rfl rfl (V_lenS rfl (et rfl) (sl_SlN h_xv.at) Tryd.underlying53) ?_
  refine W_v rfl rfl (V_mov rfl (es rfl (es rfl l1_2))) ?_
  refine W_v rfl rfl (V_lenS rfl (et rfl) (sl_SlN h_yv.at) Tryd.underlying53) ?_
  refine W_v rfl rfl (V_neq rfl (es rfl (es rfl (et rfl))) (et rfl)) ?_
  refine W_end ?_
  refine gen_Q (fun A5 hA5 => ?_)
  have hsz5 : SzN A5 26 := by rw [hA5]; infer_instance
  have hdf5 : A5.defers = [] := by rw [hA5]; simp only [df_put]; exact hdf2
  have l0_5 := lookE hA5 0 (es rfl (es rfl (es rfl (es rfl (es rfl l0_2)))))
  have l1_5 := lookE hA5 1 (es rfl (es rfl (es rfl (es rfl (es rfl l1_2)))))
  have l10_5 := lookE hA5 10 (et rfl)
  clear hA5 hsz2 hdf2 l0_2 l1_2
  refine then_n (hK4 _ _ ?_)
  clear hK4
  refine cond_dec l10_5 (fun c6 => ?_) (fun c6 => ?_)
  · skip
    refine wp_seq_k (fun K7 hK7 => ?_)
    -- region 2
    refine region_in ?_
    refine W_v rfl rfl (V_asg rfl rfl) ?_
    refine W_end ?_
    refine gen_Q (fun A8 hA8 => ?_)
    have hsz8 : SzN A8 26 := by rw [hA8]; infer_instance
    have hdf8 : A8.defers = [] := by rw [hA8]; simp only [df_put]; exact hdf5
    have l4_8 := lookE hA8 4 (et rfl)
    clear hA8 hsz5 hdf5 l0_5 l1_5 l10_5
    refine then_n (hK7 _ _ ?_)
    clear hK7
    refine wp_ret ?_
    refine then_ret ?_
    refine ret_in (results_1 Tryd.results36 (rv_tmp l4_8)) hdf8 ?_
    -- leaf T
    rw [decide_eq_false (show ¬ xs = ys from fun e => absurd (congrArg List.length e) (by omega))]
    exact ⟨rfl, hS.fin0⟩
  · skip
    have hl : xs.length = ys.length := by omega
    refine wp_skip ?_
    refine then_n (hK3 _ _ ?_)
    clear hK3
    refine wp_seq_k (fun K9 hK9 => ?_)
    refine wp_seq_k (fun K10 hK10 => ?_)
    -- region 3
    refine region_in ?_
    refine W_v rfl rfl (V_asg rfl rfl) ?_
    refine W_end ?_
    refine gen_Q (fun A11 hA11 => ?_)
    have hsz11 : SzN A11 26 := by rw [hA11]; infer_instance
    have hdf11 : A11.defers = [] := by rw [hA11]; simp only [df_put]; exact hdf5
    have l0_11 := lookE hA11 0 (es rfl l0_5)
    have l1_11 := lookE hA11 1 (es rfl l1_5)
    have l5_11 := lookE hA11 5 (et rfl)
    clear hA11 hsz5 hdf5 l0_5 l1_5 l10_5
    refine then_n (hK10 _ _ ?_)
    clear hK10
    refine wp_block ?_
    -- loop 4
    refine loopX (fun mz A' w' => SzN A' 26 ∧ A'.defers = [] ∧ (∃ (k : Nat), (mz = xs.length - k) ∧ (k ≤ xs.length) ∧ (∀ i, i < k → xs[i]? = ys[i]?) ∧ (EV A' (.tmp 5) = .int .i64 (k : Int)) ∧ (EV A' (.tmp 0) = EV A11 (.tmp 0)) ∧ (EV A' (.tmp 1) = EV A11 (.tmp 1)) ∧ (St w NoX [] w'))) (xs.length - 0) ⟨hsz11, hdf11, 0, rfl, (by omega), (fun i hi => by omega), ((l5_11).trans (by first | rfl | (simp; done) | (congr 1; omega))), rfl, rfl, hS⟩ ?_
    clear hS
    rintro n12 A12 w12 ⟨hsz12, hdf12, k, hm12, hk, hz, l5_12, u0_12, u1_12, hS12⟩
    have l0_12 := u0_12.trans l0_11
    have l1_12 := u1_12.trans l1_11
    refine wp_seq_k (fun K13 hK13 => ?_)
    refine wp_seq_k (fun K14 hK14 => ?_)
    -- region 4
    refine region_in ?_
    refine W_v rfl rfl (V_mov rfl l5_12) ?_
    refine W_v rfl rfl (V_mov rfl (es rfl l0_12)) ?_
    refine W_v rfl rfl (V_lenS rfl (et rfl) (sl_SlN h_xv.at) Tryd.underlying53) ?_
    refine W_v rfl rfl (V_lss rfl (es rfl (es rfl (et rfl))) (et rfl)) ?_
    refine W_end ?_
    refine gen_Q (fun A15 hA15 => ?_)
    have hsz15 : SzN A15 26 := by rw [hA15]; infer_instance
    have hdf15 : A15.defers = [] := by rw [hA15]; simp only [df_put]; exact hdf12
    have l0_15 := lookE hA15 0 (es rfl (es rfl (es rfl (es rfl l0_12))))
    have l1_15 := lookE hA15 1 (es rfl (es rfl (es rfl (es rfl l1_12))))
    have l5_15 := lookE hA15 5 (es rfl (es rfl (es rfl (es rfl l5_12))))
    have l14_15 := lookE hA15 14 (et rfl)
    clear hA15 hsz12 hdf12 l5_12 l0_12 l1_12
    refine then_n (hK14 _ _ ?_)
    clear hK14
    refine cond_dec l14_15 (fun c16 => ?_) (fun c16 => ?_)
    · skip
      refine wp_skip ?_
      refine then_n (hK13 _ _ ?_)
      clear hK13
      refine wp_seq_k (fun K17 hK17 => ?_)
      refine wp_block ?_
      refine wp_seq_k (fun K18 hK18 => ?_)
      -- region 6
      refine region_monoS 9 9 [] (by kernel_rfl) (by kernel_rfl) ?_
      refine D_v rfl rfl (V_mov rfl l0_15) rfl rfl ?_
      refine D_v rfl rfl (V_mov rfl (es rfl l5_15)) rfl rfl ?_
      have k19 : k < xs.length := by first | omega | (simp only [List.length_cons, List.length_nil]; omega)
      obtain ⟨y19, hy19⟩ := get_some (xs := xs) (k := k) k19
      
      obtain ⟨B19, O19, C19, hv19⟩ := (SlN.blk (sl_SlN h_xv.at) (by first | omega | (simp only [List.length_cons, List.length_nil]; omega)))
      refine D_v rfl rfl (V_ixS (off := O19 + k * 2) 2 (k) rfl (es rfl (et rfl)) (et rfl) hv19 (by omega) k19 Tryd.underlying53 (by kernel_rfl) rfl) rfl rfl ?_
      refine D_r rfl rfl (by kernel_rfl) (fun sx hx hF => (VR_ldR (ys := rkC y19) rfl (et rfl) (SlN.row rkC_len (sl_SlN ((hS12.grow hx).ro h_xv)) hv19 hy19 rfl) Tryd.underlying50 rfl (by kernel_rfl))) rfl rfl ?_
      refine D_v rfl rfl (V_mov rfl (es rfl (es rfl (es rfl (es rfl l1_15))))) rfl rfl ?_
      refine D_v rfl rfl (V_mov rfl (es rfl (es rfl (es rfl (es rfl (es rfl l5_15)))))) rfl rfl ?_
      have k20 : k < ys.length := by first | omega | (simp only [List.length_cons, List.length_nil]; omega)
      obtain ⟨y20, hy20⟩ := get_some (xs := ys) (k := k) k20
      
      obtain ⟨B20, O20, C20, hv20⟩ := (SlN.blk (sl_SlN h_yv.at) (by first | omega | (simp only [List.length_cons, List.length_nil]; omega)))
      refine D_v rfl rfl (V_ixS (off := O20 + k * 2) 2 (k) rfl (es rfl (et rfl)) (et rfl) hv20 (by omega) k20 Tryd.underlying53 (by kernel_rfl) rfl) rfl rfl ?_
      refine D_r rfl rfl (by kernel_rfl) (fun sx hx hF => (VR_ldR (ys := rkC y20) rfl (et rfl) (SlN.row rkC_len (sl_SlN ((hS12.grow hx).ro h_yv)) hv20 hy20 rfl) Tryd.underlying50 rfl (by kernel_rfl))) rfl rfl ?_
      refine D_v rfl rfl (V_neSt2 rfl (es rfl (es rfl (es rfl (es rfl (et rfl))))) (et rfl) (by kernel_rfl)) rfl rfl ?_
      refine ZS_none hS12 (Nat.le_refl _) (Nat.le_refl _) (fun s21 hJ21 hL21 hF21 => ?_)
      have hS21 := hJ21.st; clear hF21 hJ21 hL21
      generalize s21.1 = w21 at *
      replace hS21 : St w NoX [] w21 := hS21
      refine gen_Q (fun A22 hA22 => ?_)
      have hsz22 : SzN A22 26 := by rw [hA22]; infer_instance
      have hdf22 : A22.defers = [] := by rw [hA22]; simp only [df_put]; exact hdf15
      have l0_22 := lookE hA22 0 (es rfl (es rfl (es rfl (es rfl (es rfl (es rfl (es rfl (es rfl (es rfl l0_15)))))))))
      have l1_22 := lookE hA22 1 (es rfl (es rfl (es rfl (es rfl (es rfl (es rfl (es rfl (es rfl (es rfl l1_15)))))))))
      have l5_22 := lookE hA22 5 (es rfl (es rfl (es rfl (es rfl (es rfl (es rfl (es rfl (es rfl (es rfl l5_15)))))))))
      have l25_22 := lookE hA22 25 (et rfl)
      clear hA22 hsz15 hdf15 l0_15 l1_15 l5_15 l14_15
      refine then_n (hK18 _ _ ?_)
      clear hK18
      refine cond_dec l25_22 (fun c23 => ?_) (fun c23 => ?_)
      · skip
        refine wp_seq_k (fun K24 hK24 => ?_)
        -- region 7
        refine region_in ?_
        refine W_v rfl rfl (V_asg rfl rfl) ?_
        refine W_end ?_
        refine gen_Q (fun A25 hA25 => ?_)
        have hsz25 : SzN A25 26 := by rw [hA25]; infer_instance
        have hdf25 : A25.defers = [] := by rw [hA25]; simp only [df_put]; exact hdf22
        have l4_25 := lookE hA25 4 (et rfl)
        clear hA25 hsz22 hdf22 l0_22 l1_22 l5_22 l25_22
        refine then_n (hK24 _ _ ?_)
        clear hK24
        refine wp_ret ?_
        refine inb_ret ?_
        refine then_ret ?_
        refine then_ret ?_
        refine inb_ret ?_
        refine then_ret ?_
        refine ret_in (results_1 Tryd.results36 (rv_tmp l4_25)) hdf25 ?_
        -- leaf FTT
        rw [decide_eq_false (show ¬ xs = ys from rows_ne hy19 hy20 (pr_ne c23))]
        exact ⟨rfl, hS21.fin0⟩
      · skip
        refine wp_skip ?_
        refine inb_n ?_
        refine then_n (hK17 _ _ ?_)
        clear hK17
        -- region 5
        refine region_in ?_
        refine W_v rfl rfl (V_mov rfl l5_22) ?_
        refine W_v rfl rfl (V_add rfl (et rfl) rfl (by omega) (by omega)) ?_
        refine W_v rfl rfl (V_asg rfl (et rfl)) ?_
        refine W_end ?_
        refine gen_Q (fun A26 hA26 => ?_)
        have hsz26 : SzN A26 26 := by rw [hA26]; infer_instance
        have hdf26 : A26.defers = [] := by rw [hA26]; simp only [df_put]; exact hdf22
        have l0_26 := lookE hA26 0 (es rfl (es rfl (es rfl l0_22)))
        have l1_26 := lookE hA26 1 (es rfl (es rfl (es rfl l1_22)))
        have l5_26 := lookE hA26 5 (et rfl)
        clear hA26 hsz22 hdf22 l0_22 l1_22 l5_22 l25_22
        refine then_n ⟨xs.length - (k + 1), by simp only [hm12]; omega, hsz26, hdf26, (k + 1), rfl, (by omega), (rows_step hz hy19 hy20 (pr_eq (by simpa using c23))), ((l5_26).trans (by first | rfl | (simp; done) | (congr 1; omega))), ((l0_26).trans l0_11.symm), ((l1_26).trans l1_11.symm), hS21⟩
    · skip
      refine wp_exit ?_
      refine then_exit ?_
      refine then_exit ?_
      refine inb_hit ?_
      refine then_n (hK9 _ _ ?_)
      clear hK9
      refine wp_seq_k (fun K27 hK27 => ?_)
      -- region 8
      refine region_in ?_
      refine W_v rfl rfl (V_asg rfl rfl) ?_
      refine W_end ?_
      refine gen_Q (fun A28 hA28 => ?_)
      have hsz28 : SzN A28 26 := by rw [hA28]; infer_instance
      have hdf28 : A28.defers = [] := by rw [hA28]; simp only [df_put]; exact hdf15
      have l4_28 := lookE hA28 4 (et rfl)
      clear hA28 hsz15 hdf15 l0_15 l1_15 l5_15 l14_15
      refine then_n (hK27 _ _ ?_)
      clear hK27
      refine wp_ret ?_
      refine ret_in (results_1 Tryd.results36 (rv_tmp l4_28)) hdf28 ?_
      -- leaf FF
      rw [decide_eq_true (show xs = ys from rows_eq hl (by omega) hz)]
      exact ⟨rfl, hS12.fin0⟩

end Go.Proofs.YtodbfgfbkgpooaaDoor