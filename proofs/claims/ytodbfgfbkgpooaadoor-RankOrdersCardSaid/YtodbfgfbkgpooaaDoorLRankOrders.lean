import Derived.Test.YtodbfgfbkgpooaaDoorProg
import Derived.Test.YtodbfgfbkgpooaaDoorRa7
import Derived.Test.YtodbfgfbkgpooaaDoorPl12
namespace Go.Proofs.YtodbfgfbkgpooaaDoor
open Go.RowKit Go.Own


set_option maxHeartbeats 4000000 in
theorem RankOrders_c {lv : Value} {lo : List Int} {yv : Value} {yo : List Int} {gT0 : Nat} {w : World} (h_lv : Ro w NoX (il .i64 lv lo)) (h_yv : Ro w NoX (il .i64 yv yo)) (hG0 : Ro w NoX (bx 0 gT0 #[.int .i64 (-1), .int .i64 (-1)]))  :
    Calls Tryd.prog 9 #[.agg #[lv, yv]] w fun e w' => e = .returned (.bool true) ∧ St w NoX [] w' := by
  refine calls_in 163 Tryd.func9 rfl rfl (by simp) (fun A0 hsz0 hdf0 hargs => ?_)
  have l0_0 := hargs 0 (.agg #[lv, yv]) rfl
  clear hargs; replace hsz0 : SzN A0 163 := ⟨hsz0⟩
  have hS := St.nil w
  have bh_lv := SlN.le (sl_SlN h_lv.at)
  have bh_yv := SlN.le (sl_SlN h_yv.at)
  refine wp_seq_k (fun K1 hK1 => ?_)
  -- region 0
  refine region_in ?_
  refine W_boxS (zs := #[lv, yv]) hS rfl rfl rfl l0_0 (by rfl) (fun g2 w2 c2 hc2 hS2 => ?_)
  replace hS2 : St w NoX [c2] w2 := hS2
  refine W_v rfl rfl (V_asg rfl rfl) ?_
  refine W_end ?_
  refine gen_Q (fun A3 hA3 => ?_)
  have hsz3 : SzN A3 163 := by rw [hA3]; infer_instance
  have hdf3 : A3.defers = [] := by rw [hA3]; simp only [df_put]; exact hdf0
  have l1_3 := lookE hA3 1 (es rfl (et rfl))
  clear hA3 hsz0 hdf0 l0_0
  refine then_n (hK1 _ _ ?_)
  clear hK1
  refine wp_seq_k (fun K4 hK4 => ?_)
  refine wp_seq_k (fun K5 hK5 => ?_)
  -- region 1
  refine region_in ?_
  refine W_r rfl rfl (VR_ldA rfl l1_3 (hS2.obj 0 rfl hc2) Tryd.underlying24 rfl (by kernel_rfl)) ?_
  refine W_call rfl rfl rfl Tryd.func24 (by kernel_rfl) rfl (args1 (et rfl)) (good_c (hS2.roC h_lv) (hS2.roC h_yv) ) ?_
  rintro _ w6 ⟨rfl, hP6⟩
  refine ⟨_, rfl, ?_⟩
  have hS6 := hS2.join hP6
  replace hS6 : St w NoX [c2] w6 := hS6
  refine W_v rfl rfl (V_notd rfl (et rfl)) ?_
  refine W_end ?_
  refine gen_Q (fun A7 hA7 => ?_)
  have hsz7 : SzN A7 163 := by rw [hA7]; infer_instance
  have hdf7 : A7.defers = [] := by rw [hA7]; simp only [df_put]; exact hdf3
  have l1_7 := lookE hA7 1 (es rfl (es rfl (es rfl l1_3)))
  have l20_7 := lookE hA7 20 (et rfl)
  clear hA7 hsz3 hdf3 l1_3
  refine then_n (hK5 _ _ ?_)
  clear hK5
  refine cond_dec l20_7 (fun c8 => ?_) (fun c8 => ?_)
  · skip
    refine wp_seq_k (fun K9 hK9 => ?_)
    -- region 2
    refine region_in ?_
    refine W_call rfl rfl rfl Tryd.func12 (by kernel_rfl) rfl (args0) (awk_c (hS6.roC hG0) ) ?_
    rintro _ w10 ⟨rfl, hP10⟩
    refine ⟨_, rfl, ?_⟩
    have hS10 := hS6.join hP10
    replace hS10 : St w NoX [c2] w10 := hS10
    refine W_v rfl rfl (V_asg rfl (et rfl)) ?_
    refine W_end ?_
    refine gen_Q (fun A11 hA11 => ?_)
    have hsz11 : SzN A11 163 := by rw [hA11]; infer_instance
    have hdf11 : A11.defers = [] := by rw [hA11]; simp only [df_put]; exact hdf7
    have l2_11 := lookE hA11 2 (et rfl)
    clear hA11 hsz7 hdf7 l1_7 l20_7
    have hS12 : St w NoX [] w10 := hS10.sel [] (by decide) rfl
    refine then_n (hK9 _ _ ?_)
    clear hK9
    refine wp_ret ?_
    refine then_ret ?_
    refine ret_in (results_1 Tryd.results9 (rv_tmp l2_11)) hdf11 ?_
    -- leaf T
    exact ⟨rfl, hS12.fin0⟩
  · skip
    have hgd : ¬ (30 < lo.length ∨ 30 < yo.length) ∧ (chk lo yo).2.2 = 0 := by first | exact c8 | exact Classical.not_not.1 c8
    have hg := hgd.2
    have hG := (chk_iff lo yo).1 hg
    have hl : lo.length ≤ 30 ∧ yo.length ≤ 30 := by omega
    obtain ⟨hla, hlb⟩ := hl
    have hoT : ordT lo yo = lo ++ yo := ordT_ok hg
    have hoL : (ordT lo yo).length = lo.length + yo.length := by rw [hoT, List.length_append]
    have hbl := fun c => below_len (lo ++ yo) c
    have hap : (lo ++ yo).length = lo.length + yo.length := List.length_append
    have hL := allT_len hg
    refine wp_skip ?_
    refine then_n (hK4 _ _ ?_)
    clear hK4
    refine wp_seq_k (fun K13 hK13 => ?_)
    -- region 3
    refine region_in ?_
    refine W_r rfl rfl (VR_ldA rfl l1_7 (hS6.obj 0 rfl hc2) Tryd.underlying24 rfl (by kernel_rfl)) ?_
    refine W_call rfl rfl rfl Tryd.func26 (by kernel_rfl) rfl (args1 (et rfl)) (kOrd_c (hS6.roC h_lv) (hS6.roC h_yv) (hS6.roC hG0) ) ?_
    rintro _ w14 ⟨v_14, rfl, hP14⟩
    refine ⟨_, rfl, ?_⟩
    obtain ⟨c_14, hc_14, hP14⟩ := gen1 hP14
    have hS14 := hS6.join hP14
    replace hS14 : St w NoX [c_14, c2] w14 := hS14
    refine W_v rfl rfl (V_mov rfl (et rfl)) ?_
    refine W_v rfl rfl (V_ext (v := v_14) rfl (et rfl) rfl) ?_
    refine W_v rfl rfl (V_ext (v := .int .i64 ((chk lo yo).2.2)) rfl (es rfl (et rfl)) rfl) ?_
    refine W_v rfl rfl (V_asg rfl (es rfl (et rfl))) ?_
    refine W_v rfl rfl (V_asg rfl (es rfl (et rfl))) ?_
    refine W_end ?_
    refine gen_Q (fun A15 hA15 => ?_)
    have hsz15 : SzN A15 163 := by rw [hA15]; infer_instance
    have hdf15 : A15.defers = [] := by rw [hA15]; simp only [df_put]; exact hdf7
    have l1_15 := lookE hA15 1 (es rfl (es rfl (es rfl (es rfl (es rfl (es rfl (es rfl l1_7)))))))
    have l3_15 := lookE hA15 3 (es rfl (et rfl))
    have l4_15 := lookE hA15 4 (et rfl)
    clear hA15 hsz7 hdf7 l1_7 l20_7
    refine then_n (hK13 _ _ ?_)
    clear hK13
    refine wp_seq_k (fun K16 hK16 => ?_)
    refine wp_seq_k (fun K17 hK17 => ?_)
    -- region 4
    refine region_in ?_
    refine W_v rfl rfl (V_mov rfl l4_15) ?_
    refine W_v rfl rfl (V_neq rfl (et rfl) rfl) ?_
    refine W_sure (c' := false) rfl rfl (V_mov rfl (et rfl)) (by rw [decide_eq_false_iff_not]; rw [hg]; simp) ?_
    refine W_v rfl (wanted_t rfl rfl (et rfl) (ez rfl)) (V_mov rfl (es rfl (es rfl (es rfl l3_15)))) ?_
    refine W_v rfl (wanted_t rfl rfl (es rfl (et rfl)) (ez rfl)) (V_lenS rfl (et rfl) (ow_at (hS14.chq 0 rfl hc_14)) Tryd.underlying22) ?_
    refine W_v rfl (wanted_t rfl rfl (es rfl (es rfl (et rfl))) (ez rfl)) (V_fa (off' := 0) rfl (es rfl (es rfl (es rfl (es rfl (es rfl l1_15))))) Tryd.underlying24 rfl (by decide) rfl) ?_
    refine W_r rfl (wanted_t rfl rfl (es rfl (es rfl (es rfl (et rfl)))) (ez rfl)) (VR_ldC rfl (et rfl) (cell_box (v := lv) (hS14.obj 1 rfl hc2) rfl) Tryd.underlying22 rfl) ?_
    refine W_v rfl (wanted_t rfl rfl (es rfl (es rfl (es rfl (es rfl (et rfl))))) (ez rfl)) (V_lenS rfl (et rfl) (sl_SlN h_lv.at) Tryd.underlying22) ?_
    refine W_v rfl (wanted_t rfl rfl (es rfl (es rfl (es rfl (es rfl (es rfl (et rfl)))))) (ez rfl)) (V_fa (off' := 1) rfl (es rfl (es rfl (es rfl (es rfl (es rfl (es rfl (es rfl (es rfl l1_15)))))))) Tryd.underlying24 rfl (by decide) rfl) ?_
    refine W_r rfl (wanted_t rfl rfl (es rfl (es rfl (es rfl (es rfl (es rfl (es rfl (et rfl))))))) (ez rfl)) (VR_ldC rfl (et rfl) (cell_box (v := yv) (hS14.obj 1 rfl hc2) rfl) Tryd.underlying22 rfl) ?_
    refine W_v rfl (wanted_t rfl rfl (es rfl (es rfl (es rfl (es rfl (es rfl (es rfl (es rfl (et rfl)))))))) (ez rfl)) (V_lenS rfl (et rfl) (sl_SlN h_yv.at) Tryd.underlying22) ?_
    refine W_v rfl (wanted_t rfl rfl (es rfl (es rfl (es rfl (es rfl (es rfl (es rfl (es rfl (es rfl (et rfl))))))))) (ez rfl)) (V_add rfl (es rfl (es rfl (es rfl (et rfl)))) (et rfl) (by omega) (by omega)) ?_
    refine W_v rfl (wanted_t rfl rfl (es rfl (es rfl (es rfl (es rfl (es rfl (es rfl (es rfl (es rfl (es rfl (et rfl)))))))))) (ez rfl)) (V_neq rfl (es rfl (es rfl (es rfl (es rfl (es rfl (es rfl (es rfl (et rfl)))))))) (et rfl)) ?_
    refine W_v rfl rfl (V_pickF rfl (es rfl (es rfl (es rfl (es rfl (es rfl (es rfl (es rfl (es rfl (es rfl (es rfl (et rfl))))))))))) (et rfl)) ?_
    refine W_end ?_
    refine gen_Q (fun A18 hA18 => ?_)
    have hsz18 : SzN A18 163 := by rw [hA18]; infer_instance
    have hdf18 : A18.defers = [] := by rw [hA18]; simp only [df_put]; exact hdf15
    have l1_18 := lookE hA18 1 (es rfl (es rfl (es rfl (es rfl (es rfl (es rfl (es rfl (es rfl (es rfl (es rfl (es rfl (es rfl (es rfl (es rfl l1_15))))))))))))))
    have l3_18 := lookE hA18 3 (es rfl (es rfl (es rfl (es rfl (es rfl (es rfl (es rfl (es rfl (es rfl (es rfl (es rfl (es rfl (es rfl (es rfl l3_15))))))))))))))
    have l40_18 := lookE hA18 40 (et rfl)
    clear hA18 hsz15 hdf15 l1_15 l3_15 l4_15
    refine then_n (hK17 _ _ ?_)
    clear hK17
    refine cond_not l40_18 (by rw [decide_eq_false_iff_not]; rw [hoL]; omega) ?_
    refine wp_skip ?_
    refine then_n (hK16 _ _ ?_)
    clear hK16
    refine wp_seq_k (fun K19 hK19 => ?_)
    refine wp_seq_k (fun K20 hK20 => ?_)
    -- region 6
    refine region_in ?_
    refine W_v rfl rfl (V_asg rfl rfl) ?_
    refine W_end ?_
    refine gen_Q (fun A21 hA21 => ?_)
    have hsz21 : SzN A21 163 := by rw [hA21]; infer_instance
    have hdf21 : A21.defers = [] := by rw [hA21]; simp only [df_put]; exact hdf18
    have l1_21 := lookE hA21 1 (es rfl l1_18)
    have l3_21 := lookE hA21 3 (es rfl l3_18)
    have l5_21 := lookE hA21 5 (et rfl)
    clear hA21 hsz18 hdf18 l1_18 l3_18 l40_18
    refine then_n (hK20 _ _ ?_)
    clear hK20
    refine wp_block ?_
    -- loop 7
    refine loopX (fun mz A' w' => SzN A' 163 ∧ A'.defers = [] ∧ (∃ (i : Nat), (mz = (ordT lo yo).length - i) ∧ (i ≤ (ordT lo yo).length) ∧ (EV A' (.tmp 5) = .int .i64 (i : Int)) ∧ (EV A' (.tmp 1) = EV A21 (.tmp 1)) ∧ (EV A' (.tmp 3) = EV A21 (.tmp 3)) ∧ (St w NoX [io .i64 v_14 (ordT lo yo), bx g2 24 #[lv, yv]] w'))) ((ordT lo yo).length - 0) ⟨hsz21, hdf21, 0, rfl, (by omega), ((l5_21).trans (by first | rfl | (simp; done) | (congr 1; omega))), rfl, rfl, (by subst hc_14 hc2; exact hS14)⟩ ?_
    clear hS14 hc_14 hc2
    rintro n22 A22 w22 ⟨hsz22, hdf22, i, hm22, hi, l5_22, u1_22, u3_22, hS22⟩
    have l1_22 := u1_22.trans l1_21
    have l3_22 := u3_22.trans l3_21
    obtain ⟨c_22, c2_22, hc_22, hc2_22, hS22⟩ := gen2 hS22
    refine wp_seq_k (fun K23 hK23 => ?_)
    refine wp_seq_k (fun K24 hK24 => ?_)
    -- region 7
    refine region_in ?_
    refine W_v rfl rfl (V_mov rfl l5_22) ?_
    refine W_v rfl rfl (V_mov rfl (es rfl l3_22)) ?_
    refine W_v rfl rfl (V_lenS rfl (et rfl) (ow_at (hS22.chq 0 rfl hc_22)) Tryd.underlying22) ?_
    refine W_v rfl rfl (V_lss rfl (es rfl (es rfl (et rfl))) (et rfl)) ?_
    refine W_end ?_
    refine gen_Q (fun A25 hA25 => ?_)
    have hsz25 : SzN A25 163 := by rw [hA25]; infer_instance
    have hdf25 : A25.defers = [] := by rw [hA25]; simp only [df_put]; exact hdf22
    have l1_25 := lookE hA25 1 (es rfl (es rfl (es rfl (es rfl l1_22))))
    have l3_25 := lookE hA25 3 (es rfl (es rfl (es rfl (es rfl l3_22))))
    have l5_25 := lookE hA25 5 (es rfl (es rfl (es rfl (es rfl l5_22))))
    have l44_25 := lookE hA25 44 (et rfl)
    clear hA25 hsz22 hdf22 l5_22 l1_22 l3_22
    refine then_n (hK24 _ _ ?_)
    clear hK24
    refine cond_dec l44_25 (fun c26 => ?_) (fun c26 => ?_)
    · skip
      refine wp_skip ?_
      refine then_n (hK23 _ _ ?_)
      clear hK23
      refine wp_seq_k (fun K27 hK27 => ?_)
      refine wp_block ?_
      refine wp_seq_k (fun K28 hK28 => ?_)
      -- region 9
      have k29 : i < (ordT lo yo).length := by first | omega | (simp only [List.length_cons, List.length_nil]; omega)
      obtain ⟨y29, hy29⟩ := get_some (xs := (ordT lo yo)) (k := i) k29
      refine region_monoS 11 11 [none, none, none, none, none, some (SPc (fun u l' => u = .tuple #[.int .i64 (plN lo yo y29), .int .i64 (plE lo yo y29)] ∧ l' = []) 5)] (by kernel_rfl) (by kernel_rfl) ?_
      refine D_r rfl rfl (by kernel_rfl) (fun sx hx hF => (VR_ldA rfl l1_25 ((hS22.grow hx).obj 1 rfl hc2_22) Tryd.underlying24 rfl (by kernel_rfl))) rfl rfl ?_
      refine D_v rfl rfl (V_mov rfl (es rfl l3_25)) rfl rfl ?_
      refine D_v rfl rfl (V_mov rfl (es rfl (es rfl l5_25))) rfl rfl ?_
      obtain ⟨B29, O29, C29, hv29⟩ := (SlN.blk (ow_at (hS22.chq 0 rfl hc_22)) (by first | omega | (simp only [List.length_cons, List.length_nil]; omega)))
      refine D_v rfl rfl (V_ixS (off := O29 + i) 1 (i) rfl (es rfl (et rfl)) (et rfl) hv29 (by omega) k29 Tryd.underlying22 (by kernel_rfl) (congrArg _ (Nat.mul_one _))) rfl rfl ?_
      refine D_r rfl rfl (by kernel_rfl) (fun sx hx hF => (VR_ldC rfl (et rfl) ((ow_at ((hS22.grow hx).chq 0 rfl hc_22)).cell hv29 (map_get hy29)) Tryd.underlying3 rfl)) rfl rfl ?_
      refine D_call (C := fun u l' => u = .tuple #[.int .i64 (plN lo yo y29), .int .i64 (plE lo yo y29)] ∧ l' = []) rfl rfl rfl Tryd.func18 (by kernel_rfl) rfl (args2 (es rfl (es rfl (es rfl (es rfl (et rfl))))) (et rfl)) rfl rfl (fun sx hx hF => ?_) (fun u30 l30 hu30 => ?_)
      · refine (kWt_c (c := y29) ((hS22.grow hx).roC h_lv) ((hS22.grow hx).roC h_yv) ((hS22.grow hx).roC hG0) ).mono ?_
        rintro _ _ ⟨rfl, hz⟩
        exact ⟨_, rfl, _, ⟨rfl, rfl⟩, hz⟩
      obtain ⟨rfl, hl30⟩ := hu30
      refine D_v rfl rfl (V_mov rfl (et rfl)) rfl rfl ?_
      refine D_v rfl rfl (V_ext (v := .int .i64 ((plN lo yo y29))) rfl (et rfl) rfl) rfl rfl ?_
      refine D_v rfl rfl (V_ext (v := .int .i64 ((plE lo yo y29))) rfl (es rfl (et rfl)) rfl) rfl rfl ?_
      refine D_v rfl rfl (V_asg rfl (es rfl (et rfl))) rfl rfl ?_
      refine D_v rfl rfl (V_asg rfl (es rfl (et rfl))) rfl rfl ?_
      refine ZS_none hS22 (Nat.le_refl _) (Nat.le_refl _) (fun s31 hJ31 hL31 hF31 => ?_)
      obtain ⟨ll30, ws30, we30, ⟨hq30, hl30r⟩, hm30, k30, e30⟩ := L.all_get hF31; cases hq30; subst hl30r
      replace hJ31 := hJ31.add hL31 (i := 5) rfl hm30 k30 e30
      have hS31 := hJ31.st; clear hF31 hJ31 hL31
      generalize s31.1 = w31 at *
      replace hS31 : St w NoX [c_22, c2_22] w31 := hS31
      refine gen_Q (fun A32 hA32 => ?_)
      have hsz32 : SzN A32 163 := by rw [hA32]; infer_instance
      have hdf32 : A32.defers = [] := by rw [hA32]; simp only [df_put]; exact hdf25
      have l1_32 := lookE hA32 1 (es rfl (es rfl (es rfl (es rfl (es rfl (es rfl (es rfl (es rfl (es rfl (es rfl (es rfl l1_25)))))))))))
      have l3_32 := lookE hA32 3 (es rfl (es rfl (es rfl (es rfl (es rfl (es rfl (es rfl (es rfl (es rfl (es rfl (es rfl l3_25)))))))))))
      have l5_32 := lookE hA32 5 (es rfl (es rfl (es rfl (es rfl (es rfl (es rfl (es rfl (es rfl (es rfl (es rfl (es rfl l5_25)))))))))))
      have l6_32 := lookE hA32 6 (es rfl (et rfl))
      have l7_32 := lookE hA32 7 (et rfl)
      clear hA32 hsz25 hdf25 l1_25 l3_25 l5_25 l44_25
      refine then_n (hK28 _ _ ?_)
      clear hK28
      refine wp_seq_k (fun K33 hK33 => ?_)
      refine wp_seq_k (fun K34 hK34 => ?_)
      -- region 10
      refine region_in ?_
      refine W_v rfl rfl (V_mov rfl l7_32) ?_
      refine W_v rfl rfl (V_neq rfl (et rfl) rfl) ?_
      refine W_sure (c' := false) rfl rfl (V_mov rfl (et rfl)) (by rw [decide_eq_false_iff_not]; rw [(pl_only hg (hoT ▸ hy29)).1]; simp) ?_
      refine W_v rfl (wanted_t rfl rfl (et rfl) (ez rfl)) (V_mov rfl (es rfl (es rfl (es rfl l6_32)))) ?_
      refine W_v rfl (wanted_t rfl rfl (es rfl (et rfl)) (ez rfl)) (V_mov rfl (es rfl (es rfl (es rfl (es rfl l5_32))))) ?_
      refine W_v rfl (wanted_t rfl rfl (es rfl (es rfl (et rfl))) (ez rfl)) (V_neq rfl (es rfl (et rfl)) (et rfl)) ?_
      refine W_v rfl rfl (V_pickF rfl (es rfl (es rfl (es rfl (et rfl)))) (et rfl)) ?_
      refine W_end ?_
      refine gen_Q (fun A35 hA35 => ?_)
      have hsz35 : SzN A35 163 := by rw [hA35]; infer_instance
      have hdf35 : A35.defers = [] := by rw [hA35]; simp only [df_put]; exact hdf32
      have l1_35 := lookE hA35 1 (es rfl (es rfl (es rfl (es rfl (es rfl (es rfl (es rfl l1_32)))))))
      have l3_35 := lookE hA35 3 (es rfl (es rfl (es rfl (es rfl (es rfl (es rfl (es rfl l3_32)))))))
      have l5_35 := lookE hA35 5 (es rfl (es rfl (es rfl (es rfl (es rfl (es rfl (es rfl l5_32)))))))
      have l59_35 := lookE hA35 59 (es rfl (es rfl (es rfl (et rfl))))
      have l60_35 := lookE hA35 60 (es rfl (es rfl (et rfl)))
      have l61_35 := lookE hA35 61 (es rfl (et rfl))
      have l62_35 := lookE hA35 62 (et rfl)
      clear hA35 hsz32 hdf32 l1_32 l3_32 l5_32 l6_32 l7_32
      refine then_n (hK34 _ _ ?_)
      clear hK34
      refine cond_not l62_35 (by rw [decide_eq_false_iff_not]; rw [(pl_only hg (hoT ▸ hy29)).2]; simp) ?_
      refine wp_skip ?_
      refine then_n (hK33 _ _ ?_)
      clear hK33
      refine wp_seq_k (fun K36 hK36 => ?_)
      -- region 12
      refine region_in ?_
      refine W_v rfl rfl (V_asg rfl rfl) ?_
      refine W_end ?_
      refine gen_Q (fun A37 hA37 => ?_)
      have hsz37 : SzN A37 163 := by rw [hA37]; infer_instance
      have hdf37 : A37.defers = [] := by rw [hA37]; simp only [df_put]; exact hdf35
      have l1_37 := lookE hA37 1 (es rfl l1_35)
      have l3_37 := lookE hA37 3 (es rfl l3_35)
      have l5_37 := lookE hA37 5 (es rfl l5_35)
      have l8_37 := lookE hA37 8 (et rfl)
      have l59_37 := lookE hA37 59 (es rfl l59_35)
      have l60_37 := lookE hA37 60 (es rfl l60_35)
      have l61_37 := lookE hA37 61 (es rfl l61_35)
      clear hA37 hsz35 hdf35 l1_35 l3_35 l5_35 l59_35 l60_35 l61_35 l62_35
      refine then_n (hK36 _ _ ?_)
      clear hK36
      refine wp_block ?_
      -- loop 13
      refine loopX (fun mz A' w' => SzN A' 163 ∧ A'.defers = [] ∧ (∃ (k : Nat), (mz = (ordT lo yo).length - k) ∧ (k ≤ (ordT lo yo).length) ∧ (EV A' (.tmp 8) = .int .i64 (k : Int)) ∧ (EV A' (.tmp 1) = EV A37 (.tmp 1)) ∧ (EV A' (.tmp 3) = EV A37 (.tmp 3)) ∧ (EV A' (.tmp 5) = EV A37 (.tmp 5)) ∧ (EV A' (.tmp 59) = EV A37 (.tmp 59)) ∧ (EV A' (.tmp 60) = EV A37 (.tmp 60)) ∧ (EV A' (.tmp 61) = EV A37 (.tmp 61)) ∧ (St w NoX [io .i64 v_14 (ordT lo yo), bx g2 24 #[lv, yv]] w'))) ((ordT lo yo).length - 0) ⟨hsz37, hdf37, 0, rfl, (by omega), ((l8_37).trans (by first | rfl | (simp; done) | (congr 1; omega))), rfl, rfl, rfl, rfl, rfl, rfl, (by subst hc_22 hc2_22; exact hS31)⟩ ?_
      clear hS31 hc_22 hc2_22
      rintro n38 A38 w38 ⟨hsz38, hdf38, k, hm38, hk, l8_38, u1_38, u3_38, u5_38, u59_38, u60_38, u61_38, hS38⟩
      have l1_38 := u1_38.trans l1_37
      have l3_38 := u3_38.trans l3_37
      have l5_38 := u5_38.trans l5_37
      have l59_38 := u59_38.trans l59_37
      have l60_38 := u60_38.trans l60_37
      have l61_38 := u61_38.trans l61_37
      obtain ⟨c_38, c2_38, hc_38, hc2_38, hS38⟩ := gen2 hS38
      refine wp_seq_k (fun K39 hK39 => ?_)
      refine wp_seq_k (fun K40 hK40 => ?_)
      -- region 13
      refine region_in ?_
      refine W_v rfl rfl (V_mov rfl l8_38) ?_
      refine W_v rfl rfl (V_mov rfl (es rfl l3_38)) ?_
      refine W_v rfl rfl (V_lenS rfl (et rfl) (ow_at (hS38.chq 0 rfl hc_38)) Tryd.underlying22) ?_
      refine W_v rfl rfl (V_lss rfl (es rfl (es rfl (et rfl))) (et rfl)) ?_
      refine W_end ?_
      refine gen_Q (fun A41 hA41 => ?_)
      have hsz41 : SzN A41 163 := by rw [hA41]; infer_instance
      have hdf41 : A41.defers = [] := by rw [hA41]; simp only [df_put]; exact hdf38
      have l1_41 := lookE hA41 1 (es rfl (es rfl (es rfl (es rfl l1_38))))
      have l3_41 := lookE hA41 3 (es rfl (es rfl (es rfl (es rfl l3_38))))
      have l5_41 := lookE hA41 5 (es rfl (es rfl (es rfl (es rfl l5_38))))
      have l8_41 := lookE hA41 8 (es rfl (es rfl (es rfl (es rfl l8_38))))
      have l59_41 := lookE hA41 59 (es rfl (es rfl (es rfl (es rfl l59_38))))
      have l60_41 := lookE hA41 60 (es rfl (es rfl (es rfl (es rfl l60_38))))
      have l61_41 := lookE hA41 61 (es rfl (es rfl (es rfl (es rfl l61_38))))
      have l66_41 := lookE hA41 66 (et rfl)
      clear hA41 hsz38 hdf38 l8_38 l1_38 l3_38 l5_38 l59_38 l60_38 l61_38
      refine then_n (hK40 _ _ ?_)
      clear hK40
      refine cond_dec l66_41 (fun c42 => ?_) (fun c42 => ?_)
      · skip
        refine wp_skip ?_
        refine then_n (hK39 _ _ ?_)
        clear hK39
        refine wp_seq_k (fun K43 hK43 => ?_)
        refine wp_block ?_
        refine wp_seq_k (fun K44 hK44 => ?_)
        -- region 15
        have k45 : i < (ordT lo yo).length := by first | omega | (simp only [List.length_cons, List.length_nil]; omega)
        obtain ⟨y45, hy45⟩ := get_some (xs := (ordT lo yo)) (k := i) k45
        have k46 : k < (ordT lo yo).length := by first | omega | (simp only [List.length_cons, List.length_nil]; omega)
        obtain ⟨y46, hy46⟩ := get_some (xs := (ordT lo yo)) (k := k) k46
        refine region_monoS 15 15 [none, none, none, none, none, none, none, none, none, some (SPc (fun u l' => u = .tuple #[.int .i64 (cmN lo yo y45 y46), .int .i64 (cmE lo yo y45 y46)] ∧ l' = []) 9)] (by kernel_rfl) (by kernel_rfl) ?_
        refine D_r rfl rfl (by kernel_rfl) (fun sx hx hF => (VR_ldA rfl l1_41 ((hS38.grow hx).obj 1 rfl hc2_38) Tryd.underlying24 rfl (by kernel_rfl))) rfl rfl ?_
        refine D_v rfl rfl (V_mov rfl (es rfl l3_41)) rfl rfl ?_
        refine D_v rfl rfl (V_mov rfl (es rfl (es rfl l5_41))) rfl rfl ?_
        obtain ⟨B45, O45, C45, hv45⟩ := (SlN.blk (ow_at (hS38.chq 0 rfl hc_38)) (by first | omega | (simp only [List.length_cons, List.length_nil]; omega)))
        refine D_v rfl rfl (V_ixS (off := O45 + i) 1 (i) rfl (es rfl (et rfl)) (et rfl) hv45 (by omega) k45 Tryd.underlying22 (by kernel_rfl) (congrArg _ (Nat.mul_one _))) rfl rfl ?_
        refine D_r rfl rfl (by kernel_rfl) (fun sx hx hF => (VR_ldC rfl (et rfl) ((ow_at ((hS38.grow hx).chq 0 rfl hc_38)).cell hv45 (map_get hy45)) Tryd.underlying3 rfl)) rfl rfl ?_
        refine D_v rfl rfl (V_mov rfl (es rfl (es rfl (es rfl (es rfl (es rfl l3_41)))))) rfl rfl ?_
        refine D_v rfl rfl (V_mov rfl (es rfl (es rfl (es rfl (es rfl (es rfl (es rfl l8_41))))))) rfl rfl ?_
        refine D_v rfl rfl (V_ixS (off := O45 + k) 1 (k) rfl (es rfl (et rfl)) (et rfl) hv45 (by omega) k46 Tryd.underlying22 (by kernel_rfl) (congrArg _ (Nat.mul_one _))) rfl rfl ?_
        refine D_r rfl rfl (by kernel_rfl) (fun sx hx hF => (VR_ldC rfl (et rfl) ((ow_at ((hS38.grow hx).chq 0 rfl hc_38)).cell hv45 (map_get hy46)) Tryd.underlying3 rfl)) rfl rfl ?_
        refine D_call (C := fun u l' => u = .tuple #[.int .i64 (cmN lo yo y45 y46), .int .i64 (cmE lo yo y45 y46)] ∧ l' = []) rfl rfl rfl Tryd.func13 (by kernel_rfl) rfl (args3 (es rfl (es rfl (es rfl (es rfl (es rfl (es rfl (es rfl (es rfl (et rfl))))))))) (es rfl (es rfl (es rfl (es rfl (et rfl))))) (et rfl)) rfl rfl (fun sx hx hF => ?_) (fun u47 l47 hu47 => ?_)
        · refine (kCmp_c (a := y45) (b := y46) ((hS38.grow hx).roC h_lv) ((hS38.grow hx).roC h_yv) ((hS38.grow hx).roC hG0) ).mono ?_
          rintro _ _ ⟨rfl, hz⟩
          exact ⟨_, rfl, _, ⟨rfl, rfl⟩, hz⟩
        obtain ⟨rfl, hl47⟩ := hu47
        refine D_v rfl rfl (V_mov rfl (et rfl)) rfl rfl ?_
        refine D_v rfl rfl (V_ext (v := .int .i64 ((cmN lo yo y45 y46))) rfl (et rfl) rfl) rfl rfl ?_
        refine D_v rfl rfl (V_ext (v := .int .i64 ((cmE lo yo y45 y46))) rfl (es rfl (et rfl)) rfl) rfl rfl ?_
        refine D_v rfl rfl (V_asg rfl (es rfl (et rfl))) rfl rfl ?_
        refine D_v rfl rfl (V_asg rfl (es rfl (et rfl))) rfl rfl ?_
        refine ZS_none hS38 (Nat.le_refl _) (Nat.le_refl _) (fun s48 hJ48 hL48 hF48 => ?_)
        obtain ⟨ll47, ws47, we47, ⟨hq47, hl47r⟩, hm47, k47, e47⟩ := L.all_get hF48; cases hq47; subst hl47r
        replace hJ48 := hJ48.add hL48 (i := 9) rfl hm47 k47 e47
        have hS48 := hJ48.st; clear hF48 hJ48 hL48
        generalize s48.1 = w48 at *
        replace hS48 : St w NoX [c_38, c2_38] w48 := hS48
        refine gen_Q (fun A49 hA49 => ?_)
        have hsz49 : SzN A49 163 := by rw [hA49]; infer_instance
        have hdf49 : A49.defers = [] := by rw [hA49]; simp only [df_put]; exact hdf41
        have l1_49 := lookE hA49 1 (es rfl (es rfl (es rfl (es rfl (es rfl (es rfl (es rfl (es rfl (es rfl (es rfl (es rfl (es rfl (es rfl (es rfl (es rfl l1_41)))))))))))))))
        have l3_49 := lookE hA49 3 (es rfl (es rfl (es rfl (es rfl (es rfl (es rfl (es rfl (es rfl (es rfl (es rfl (es rfl (es rfl (es rfl (es rfl (es rfl l3_41)))))))))))))))
        have l5_49 := lookE hA49 5 (es rfl (es rfl (es rfl (es rfl (es rfl (es rfl (es rfl (es rfl (es rfl (es rfl (es rfl (es rfl (es rfl (es rfl (es rfl l5_41)))))))))))))))
        have l8_49 := lookE hA49 8 (es rfl (es rfl (es rfl (es rfl (es rfl (es rfl (es rfl (es rfl (es rfl (es rfl (es rfl (es rfl (es rfl (es rfl (es rfl l8_41)))))))))))))))
        have l9_49 := lookE hA49 9 (es rfl (et rfl))
        have l10_49 := lookE hA49 10 (et rfl)
        have l59_49 := lookE hA49 59 (es rfl (es rfl (es rfl (es rfl (es rfl (es rfl (es rfl (es rfl (es rfl (es rfl (es rfl (es rfl (es rfl (es rfl (es rfl l59_41)))))))))))))))
        have l60_49 := lookE hA49 60 (es rfl (es rfl (es rfl (es rfl (es rfl (es rfl (es rfl (es rfl (es rfl (es rfl (es rfl (es rfl (es rfl (es rfl (es rfl l60_41)))))))))))))))
        have l61_49 := lookE hA49 61 (es rfl (es rfl (es rfl (es rfl (es rfl (es rfl (es rfl (es rfl (es rfl (es rfl (es rfl (es rfl (es rfl (es rfl (es rfl l61_41)))))))))))))))
        clear hA49 hsz41 hdf41 l1_41 l3_41 l5_41 l8_41 l59_41 l60_41 l61_41 l66_41
        refine then_n (hK44 _ _ ?_)
        clear hK44
        refine wp_seq_k (fun K50 hK50 => ?_)
        -- region 16
        refine region_in ?_
        refine W_v rfl rfl (V_asg rfl rfl) ?_
        refine W_end ?_
        refine gen_Q (fun A51 hA51 => ?_)
        have hsz51 : SzN A51 163 := by rw [hA51]; infer_instance
        have hdf51 : A51.defers = [] := by rw [hA51]; simp only [df_put]; exact hdf49
        have l1_51 := lookE hA51 1 (es rfl l1_49)
        have l3_51 := lookE hA51 3 (es rfl l3_49)
        have l5_51 := lookE hA51 5 (es rfl l5_49)
        have l8_51 := lookE hA51 8 (es rfl l8_49)
        have l9_51 := lookE hA51 9 (es rfl l9_49)
        have l10_51 := lookE hA51 10 (es rfl l10_49)
        have l11_51 := lookE hA51 11 (et rfl)
        have l59_51 := lookE hA51 59 (es rfl l59_49)
        have l60_51 := lookE hA51 60 (es rfl l60_49)
        have l61_51 := lookE hA51 61 (es rfl l61_49)
        clear hA51 hsz49 hdf49 l1_49 l3_49 l5_49 l8_49 l9_49 l10_49 l59_49 l60_49 l61_49
        refine then_n (hK50 _ _ ?_)
        clear hK50
        refine wp_seq_k (fun K52 hK52 => ?_)
        refine wp_seq_k (fun K53 hK53 => ?_)
        -- region 17
        refine region_in ?_
        refine W_v rfl rfl (V_mov rfl l5_51) ?_
        refine W_v rfl rfl (V_mov rfl (es rfl l8_51)) ?_
        refine W_v rfl rfl (V_lss rfl (es rfl (et rfl)) (et rfl)) ?_
        refine W_end ?_
        refine gen_Q (fun A54 hA54 => ?_)
        have hsz54 : SzN A54 163 := by rw [hA54]; infer_instance
        have hdf54 : A54.defers = [] := by rw [hA54]; simp only [df_put]; exact hdf51
        have l1_54 := lookE hA54 1 (es rfl (es rfl (es rfl l1_51)))
        have l3_54 := lookE hA54 3 (es rfl (es rfl (es rfl l3_51)))
        have l5_54 := lookE hA54 5 (es rfl (es rfl (es rfl l5_51)))
        have l8_54 := lookE hA54 8 (es rfl (es rfl (es rfl l8_51)))
        have l9_54 := lookE hA54 9 (es rfl (es rfl (es rfl l9_51)))
        have l10_54 := lookE hA54 10 (es rfl (es rfl (es rfl l10_51)))
        have l11_54 := lookE hA54 11 (es rfl (es rfl (es rfl l11_51)))
        have l59_54 := lookE hA54 59 (es rfl (es rfl (es rfl l59_51)))
        have l60_54 := lookE hA54 60 (es rfl (es rfl (es rfl l60_51)))
        have l61_54 := lookE hA54 61 (es rfl (es rfl (es rfl l61_51)))
        have l84_54 := lookE hA54 84 (et rfl)
        clear hA54 hsz51 hdf51 l1_51 l3_51 l5_51 l8_51 l9_51 l10_51 l11_51 l59_51 l60_51 l61_51
        refine then_n (hK53 _ _ ?_)
        clear hK53
        refine cond_dec l84_54 (fun c55 => ?_) (fun c55 => ?_)
        · skip
          -- region 18
          refine region_in ?_
          refine W_v rfl rfl (V_asg rfl rfl) ?_
          refine W_end ?_
          refine gen_Q (fun A56 hA56 => ?_)
          have hsz56 : SzN A56 163 := by rw [hA56]; infer_instance
          have hdf56 : A56.defers = [] := by rw [hA56]; simp only [df_put]; exact hdf54
          have l1_56 := lookE hA56 1 (es rfl l1_54)
          have l3_56 := lookE hA56 3 (es rfl l3_54)
          have l5_56 := lookE hA56 5 (es rfl l5_54)
          have l8_56 := lookE hA56 8 (es rfl l8_54)
          have l9_56 := lookE hA56 9 (es rfl l9_54)
          have l10_56 := lookE hA56 10 (es rfl l10_54)
          have l11_56 := lookE hA56 11 (et rfl)
          have l59_56 := lookE hA56 59 (es rfl l59_54)
          have l60_56 := lookE hA56 60 (es rfl l60_54)
          have l61_56 := lookE hA56 61 (es rfl l61_54)
          clear hA56 hsz54 hdf54 l1_54 l3_54 l5_54 l8_54 l9_54 l10_54 l11_54 l59_54 l60_54 l61_54 l84_54
          refine then_n (hK52 _ _ ?_)
          clear hK52
          refine wp_seq_k (fun K57 hK57 => ?_)
          refine wp_seq_k (fun K58 hK58 => ?_)
          -- region 19
          refine region_in ?_
          refine W_v rfl rfl (V_mov rfl l5_56) ?_
          refine W_v rfl rfl (V_mov rfl (es rfl l8_56)) ?_
          refine W_v rfl rfl (V_gtr rfl (es rfl (et rfl)) (et rfl)) ?_
          refine W_end ?_
          refine gen_Q (fun A59 hA59 => ?_)
          have hsz59 : SzN A59 163 := by rw [hA59]; infer_instance
          have hdf59 : A59.defers = [] := by rw [hA59]; simp only [df_put]; exact hdf56
          have l1_59 := lookE hA59 1 (es rfl (es rfl (es rfl l1_56)))
          have l3_59 := lookE hA59 3 (es rfl (es rfl (es rfl l3_56)))
          have l5_59 := lookE hA59 5 (es rfl (es rfl (es rfl l5_56)))
          have l8_59 := lookE hA59 8 (es rfl (es rfl (es rfl l8_56)))
          have l9_59 := lookE hA59 9 (es rfl (es rfl (es rfl l9_56)))
          have l10_59 := lookE hA59 10 (es rfl (es rfl (es rfl l10_56)))
          have l11_59 := lookE hA59 11 (es rfl (es rfl (es rfl l11_56)))
          have l59_59 := lookE hA59 59 (es rfl (es rfl (es rfl l59_56)))
          have l60_59 := lookE hA59 60 (es rfl (es rfl (es rfl l60_56)))
          have l61_59 := lookE hA59 61 (es rfl (es rfl (es rfl l61_56)))
          have l87_59 := lookE hA59 87 (et rfl)
          clear hA59 hsz56 hdf56 l1_56 l3_56 l5_56 l8_56 l9_56 l10_56 l11_56 l59_56 l60_56 l61_56
          refine then_n (hK58 _ _ ?_)
          clear hK58
          refine cond_dec l87_59 (fun c60 => ?_) (fun c60 => ?_)
          · skip
            -- region 20
            refine region_in ?_
            refine W_v rfl rfl (V_asg rfl rfl) ?_
            refine W_end ?_
            refine gen_Q (fun A61 hA61 => ?_)
            have hsz61 : SzN A61 163 := by rw [hA61]; infer_instance
            have hdf61 : A61.defers = [] := by rw [hA61]; simp only [df_put]; exact hdf59
            have l1_61 := lookE hA61 1 (es rfl l1_59)
            have l3_61 := lookE hA61 3 (es rfl l3_59)
            have l5_61 := lookE hA61 5 (es rfl l5_59)
            have l8_61 := lookE hA61 8 (es rfl l8_59)
            have l9_61 := lookE hA61 9 (es rfl l9_59)
            have l10_61 := lookE hA61 10 (es rfl l10_59)
            have l11_61 := lookE hA61 11 (et rfl)
            have l59_61 := lookE hA61 59 (es rfl l59_59)
            have l60_61 := lookE hA61 60 (es rfl l60_59)
            have l61_61 := lookE hA61 61 (es rfl l61_59)
            clear hA61 hsz59 hdf59 l1_59 l3_59 l5_59 l8_59 l9_59 l10_59 l11_59 l59_59 l60_59 l61_59 l87_59
            refine then_n (hK57 _ _ ?_)
            clear hK57
            refine wp_seq_k (fun K62 hK62 => ?_)
            -- region 21
            refine region_monoS 23 23 [] (by kernel_rfl) (by kernel_rfl) ?_
            refine D_v rfl rfl (V_mov rfl l10_61) rfl rfl ?_
            refine D_v rfl rfl (V_neq rfl (et rfl) rfl) rfl rfl ?_
            refine D_sure (c' := false) rfl rfl (V_mov rfl (et rfl)) (by rw [decide_eq_false_iff_not]; rw [(ord_cm hg (hoT ▸ hy45) (hoT ▸ hy46)).1]; simp) rfl rfl ?_
            refine D_v rfl (wanted_t rfl rfl (et rfl) (ez rfl)) (V_mov rfl (es rfl (es rfl (es rfl l9_61)))) rfl rfl ?_
            refine D_v rfl (wanted_t rfl rfl (es rfl (et rfl)) (ez rfl)) (V_mov rfl (es rfl (es rfl (es rfl (es rfl l11_61))))) rfl rfl ?_
            refine D_v rfl (wanted_t rfl rfl (es rfl (es rfl (et rfl))) (ez rfl)) (V_neq rfl (es rfl (et rfl)) (et rfl)) rfl rfl ?_
            refine D_v rfl rfl (V_pickF rfl (es rfl (es rfl (es rfl (et rfl)))) (et rfl)) rfl rfl ?_
            refine D_sure (c' := false) rfl rfl (V_mov rfl (et rfl)) (by rw [decide_eq_false_iff_not]; rw [(ord_cm hg (hoT ▸ hy45) (hoT ▸ hy46)).2]; split <;> first | omega | (split <;> omega)) rfl rfl ?_
            refine D_v rfl (wanted_t rfl rfl (et rfl) (ez rfl)) (V_mov rfl (es rfl (es rfl (es rfl (es rfl (es rfl (es rfl (es rfl (es rfl l5_61))))))))) rfl rfl ?_
            refine D_v rfl (wanted_t rfl rfl (es rfl (et rfl)) (ez rfl)) (V_mov rfl (es rfl (es rfl (es rfl (es rfl (es rfl (es rfl (es rfl (es rfl (es rfl l8_61)))))))))) rfl rfl ?_
            refine D_v rfl (wanted_t rfl rfl (es rfl (es rfl (et rfl))) (ez rfl)) (V_neq rfl (es rfl (et rfl)) (et rfl)) rfl rfl ?_
            refine D_split rfl (wanted_t rfl rfl (es rfl (es rfl (es rfl (et rfl)))) (ez rfl)) (V_mov rfl (et rfl)) rfl rfl (fun c63 => ?_) (fun c63 => ?_)
            · skip
              refine D_v rfl (wanted_t rfl rfl (et rfl) (ez rfl)) (V_mov rfl (es rfl (es rfl (es rfl (es rfl (es rfl (es rfl (es rfl (es rfl (es rfl (es rfl (es rfl (es rfl l3_61))))))))))))) rfl rfl ?_
              refine D_v rfl (wanted_t rfl rfl (es rfl (et rfl)) (ez rfl)) (V_mov rfl (es rfl (es rfl (es rfl (es rfl (es rfl (es rfl (es rfl (es rfl (es rfl (es rfl (es rfl (es rfl (es rfl l5_61)))))))))))))) rfl rfl ?_
              refine D_v rfl (wanted_t rfl rfl (es rfl (es rfl (et rfl))) (ez rfl)) (V_ixS (off := O45 + i) 1 (i) rfl (es rfl (et rfl)) (et rfl) hv45 (by omega) k45 Tryd.underlying22 (by kernel_rfl) (congrArg _ (Nat.mul_one _))) rfl rfl ?_
              refine D_r rfl (wanted_t rfl rfl (es rfl (es rfl (es rfl (et rfl)))) (ez rfl)) (by kernel_rfl) (fun sx hx hF => (VR_ldC rfl (et rfl) ((ow_at ((hS48.grow hx).chq 0 rfl hc_38)).cell hv45 (map_get hy45)) Tryd.underlying3 rfl)) rfl rfl ?_
              refine D_v rfl (wanted_t rfl rfl (es rfl (es rfl (es rfl (es rfl (et rfl))))) (ez rfl)) (V_mov rfl (es rfl (es rfl (es rfl (es rfl (es rfl (es rfl (es rfl (es rfl (es rfl (es rfl (es rfl (es rfl (es rfl (es rfl (es rfl (es rfl l3_61))))))))))))))))) rfl rfl ?_
              refine D_v rfl (wanted_t rfl rfl (es rfl (es rfl (es rfl (es rfl (es rfl (et rfl)))))) (ez rfl)) (V_mov rfl (es rfl (es rfl (es rfl (es rfl (es rfl (es rfl (es rfl (es rfl (es rfl (es rfl (es rfl (es rfl (es rfl (es rfl (es rfl (es rfl (es rfl l8_61)))))))))))))))))) rfl rfl ?_
              refine D_v rfl (wanted_t rfl rfl (es rfl (es rfl (es rfl (es rfl (es rfl (es rfl (et rfl))))))) (ez rfl)) (V_ixS (off := O45 + k) 1 (k) rfl (es rfl (et rfl)) (et rfl) hv45 (by omega) k46 Tryd.underlying22 (by kernel_rfl) (congrArg _ (Nat.mul_one _))) rfl rfl ?_
              refine D_r rfl (wanted_t rfl rfl (es rfl (es rfl (es rfl (es rfl (es rfl (es rfl (es rfl (et rfl)))))))) (ez rfl)) (by kernel_rfl) (fun sx hx hF => (VR_ldC rfl (et rfl) ((ow_at ((hS48.grow hx).chq 0 rfl hc_38)).cell hv45 (map_get hy46)) Tryd.underlying3 rfl)) rfl rfl ?_
              refine D_v rfl (wanted_t rfl rfl (es rfl (es rfl (es rfl (es rfl (es rfl (es rfl (es rfl (es rfl (et rfl))))))))) (ez rfl)) (V_eql rfl (es rfl (es rfl (es rfl (es rfl (et rfl))))) (et rfl)) rfl rfl ?_
              refine D_v rfl (wanted_t rfl rfl (es rfl (es rfl (es rfl (es rfl (es rfl (es rfl (es rfl (es rfl (es rfl (es rfl (es rfl (es rfl (es rfl (et rfl)))))))))))))) (ez rfl)) (V_pickT rfl (es rfl (es rfl (es rfl (es rfl (es rfl (es rfl (es rfl (es rfl (es rfl (et rfl)))))))))) (et rfl)) rfl rfl ?_
              refine D_v rfl rfl (V_pickF rfl (es rfl (es rfl (es rfl (es rfl (es rfl (es rfl (es rfl (es rfl (es rfl (es rfl (es rfl (es rfl (es rfl (es rfl (et rfl))))))))))))))) (et rfl)) rfl rfl ?_
              refine ZS_none hS48 (Nat.le_refl _) (Nat.le_refl _) (fun s66 hJ66 hL66 hF66 => ?_)
              have hS66 := hJ66.st; clear hF66 hJ66 hL66
              generalize s66.1 = w66 at *
              replace hS66 : St w NoX [c_38, c2_38] w66 := hS66
              refine gen_Q (fun A67 hA67 => ?_)
              have hsz67 : SzN A67 163 := by rw [hA67]; infer_instance
              have hdf67 : A67.defers = [] := by rw [hA67]; simp only [df_put]; exact hdf61
              have l1_67 := lookE hA67 1 (es rfl (es rfl (es rfl (es rfl (es rfl (es rfl (es rfl (es rfl (es rfl (es rfl (es rfl (es rfl (es rfl (es rfl (es rfl (es rfl (es rfl (es rfl (es rfl (es rfl (es rfl (es rfl (es rfl l1_61)))))))))))))))))))))))
              have l3_67 := lookE hA67 3 (es rfl (es rfl (es rfl (es rfl (es rfl (es rfl (es rfl (es rfl (es rfl (es rfl (es rfl (es rfl (es rfl (es rfl (es rfl (es rfl (es rfl (es rfl (es rfl (es rfl (es rfl (es rfl (es rfl l3_61)))))))))))))))))))))))
              have l5_67 := lookE hA67 5 (es rfl (es rfl (es rfl (es rfl (es rfl (es rfl (es rfl (es rfl (es rfl (es rfl (es rfl (es rfl (es rfl (es rfl (es rfl (es rfl (es rfl (es rfl (es rfl (es rfl (es rfl (es rfl (es rfl l5_61)))))))))))))))))))))))
              have l8_67 := lookE hA67 8 (es rfl (es rfl (es rfl (es rfl (es rfl (es rfl (es rfl (es rfl (es rfl (es rfl (es rfl (es rfl (es rfl (es rfl (es rfl (es rfl (es rfl (es rfl (es rfl (es rfl (es rfl (es rfl (es rfl l8_61)))))))))))))))))))))))
              have l59_67 := lookE hA67 59 (es rfl (es rfl (es rfl (es rfl (es rfl (es rfl (es rfl (es rfl (es rfl (es rfl (es rfl (es rfl (es rfl (es rfl (es rfl (es rfl (es rfl (es rfl (es rfl (es rfl (es rfl (es rfl (es rfl l59_61)))))))))))))))))))))))
              have l60_67 := lookE hA67 60 (es rfl (es rfl (es rfl (es rfl (es rfl (es rfl (es rfl (es rfl (es rfl (es rfl (es rfl (es rfl (es rfl (es rfl (es rfl (es rfl (es rfl (es rfl (es rfl (es rfl (es rfl (es rfl (es rfl l60_61)))))))))))))))))))))))
              have l61_67 := lookE hA67 61 (es rfl (es rfl (es rfl (es rfl (es rfl (es rfl (es rfl (es rfl (es rfl (es rfl (es rfl (es rfl (es rfl (es rfl (es rfl (es rfl (es rfl (es rfl (es rfl (es rfl (es rfl (es rfl (es rfl l61_61)))))))))))))))))))))))
              have l91_67 := lookE hA67 91 (es rfl (es rfl (es rfl (es rfl (es rfl (es rfl (es rfl (es rfl (es rfl (es rfl (es rfl (es rfl (es rfl (es rfl (es rfl (es rfl (es rfl (es rfl (es rfl (et rfl))))))))))))))))))))
              have l92_67 := lookE hA67 92 (es rfl (es rfl (es rfl (es rfl (es rfl (es rfl (es rfl (es rfl (es rfl (es rfl (es rfl (es rfl (es rfl (es rfl (es rfl (es rfl (es rfl (es rfl (et rfl)))))))))))))))))))
              have l93_67 := lookE hA67 93 (es rfl (es rfl (es rfl (es rfl (es rfl (es rfl (es rfl (es rfl (es rfl (es rfl (es rfl (es rfl (es rfl (es rfl (es rfl (es rfl (es rfl (et rfl))))))))))))))))))
              have l96_67 := lookE hA67 96 (es rfl (es rfl (es rfl (es rfl (es rfl (es rfl (es rfl (es rfl (es rfl (es rfl (es rfl (es rfl (es rfl (es rfl (et rfl)))))))))))))))
              have l97_67 := lookE hA67 97 (es rfl (es rfl (es rfl (es rfl (es rfl (es rfl (es rfl (es rfl (es rfl (es rfl (es rfl (es rfl (es rfl (et rfl))))))))))))))
              have l98_67 := lookE hA67 98 (es rfl (es rfl (es rfl (es rfl (es rfl (es rfl (es rfl (es rfl (es rfl (es rfl (es rfl (es rfl (et rfl)))))))))))))
              have l99_67 := lookE hA67 99 (es rfl (es rfl (es rfl (es rfl (es rfl (es rfl (es rfl (es rfl (es rfl (es rfl (es rfl (et rfl))))))))))))
              have l100_67 := lookE hA67 100 (es rfl (es rfl (es rfl (es rfl (es rfl (es rfl (es rfl (es rfl (es rfl (es rfl (et rfl)))))))))))
              have l101_67 := lookE hA67 101 (es rfl (es rfl (es rfl (es rfl (es rfl (es rfl (es rfl (es rfl (es rfl (et rfl))))))))))
              have l102_67 := lookE hA67 102 (es rfl (es rfl (es rfl (es rfl (es rfl (es rfl (es rfl (es rfl (et rfl)))))))))
              have l103_67 := lookE hA67 103 (es rfl (es rfl (es rfl (es rfl (es rfl (es rfl (es rfl (et rfl))))))))
              have l104_67 := lookE hA67 104 (es rfl (es rfl (es rfl (es rfl (es rfl (es rfl (et rfl)))))))
              have l105_67 := lookE hA67 105 (es rfl (es rfl (es rfl (es rfl (es rfl (et rfl))))))
              have l106_67 := lookE hA67 106 (es rfl (es rfl (es rfl (es rfl (et rfl)))))
              have l107_67 := lookE hA67 107 (es rfl (es rfl (es rfl (et rfl))))
              have l108_67 := lookE hA67 108 (es rfl (es rfl (et rfl)))
              have l109_67 := lookE hA67 109 (es rfl (et rfl))
              have l110_67 := lookE hA67 110 (et rfl)
              clear hA67 hsz61 hdf61 l1_61 l3_61 l5_61 l8_61 l9_61 l10_61 l11_61 l59_61 l60_61 l61_61
              refine then_n (hK62 _ _ ?_)
              clear hK62
              refine cond_not l110_67 (by rw [decide_eq_false_iff_not]; exact ord_ne hg (hoT ▸ hy45) (hoT ▸ hy46) (by omega)) ?_
              refine wp_skip ?_
              refine inb_n ?_
              refine then_n (hK43 _ _ ?_)
              clear hK43
              -- region 14
              refine region_in ?_
              refine W_v rfl rfl (V_mov rfl l8_67) ?_
              refine W_v rfl rfl (V_add rfl (et rfl) rfl (by omega) (by omega)) ?_
              refine W_v rfl rfl (V_asg rfl (et rfl)) ?_
              refine W_end ?_
              refine gen_Q (fun A68 hA68 => ?_)
              have hsz68 : SzN A68 163 := by rw [hA68]; infer_instance
              have hdf68 : A68.defers = [] := by rw [hA68]; simp only [df_put]; exact hdf67
              have l1_68 := lookE hA68 1 (es rfl (es rfl (es rfl l1_67)))
              have l3_68 := lookE hA68 3 (es rfl (es rfl (es rfl l3_67)))
              have l5_68 := lookE hA68 5 (es rfl (es rfl (es rfl l5_67)))
              have l8_68 := lookE hA68 8 (et rfl)
              have l59_68 := lookE hA68 59 (es rfl (es rfl (es rfl l59_67)))
              have l60_68 := lookE hA68 60 (es rfl (es rfl (es rfl l60_67)))
              have l61_68 := lookE hA68 61 (es rfl (es rfl (es rfl l61_67)))
              have l91_68 := lookE hA68 91 (es rfl (es rfl (es rfl l91_67)))
              have l92_68 := lookE hA68 92 (es rfl (es rfl (es rfl l92_67)))
              have l93_68 := lookE hA68 93 (es rfl (es rfl (es rfl l93_67)))
              have l96_68 := lookE hA68 96 (es rfl (es rfl (es rfl l96_67)))
              have l97_68 := lookE hA68 97 (es rfl (es rfl (es rfl l97_67)))
              have l98_68 := lookE hA68 98 (es rfl (es rfl (es rfl l98_67)))
              have l99_68 := lookE hA68 99 (es rfl (es rfl (es rfl l99_67)))
              have l100_68 := lookE hA68 100 (es rfl (es rfl (es rfl l100_67)))
              have l101_68 := lookE hA68 101 (es rfl (es rfl (es rfl l101_67)))
              have l102_68 := lookE hA68 102 (es rfl (es rfl (es rfl l102_67)))
              have l103_68 := lookE hA68 103 (es rfl (es rfl (es rfl l103_67)))
              have l104_68 := lookE hA68 104 (es rfl (es rfl (es rfl l104_67)))
              have l105_68 := lookE hA68 105 (es rfl (es rfl (es rfl l105_67)))
              have l106_68 := lookE hA68 106 (es rfl (es rfl (es rfl l106_67)))
              have l107_68 := lookE hA68 107 (es rfl (es rfl (es rfl l107_67)))
              have l108_68 := lookE hA68 108 (es rfl (es rfl (es rfl l108_67)))
              have l109_68 := lookE hA68 109 (es rfl (es rfl (es rfl l109_67)))
              clear hA68 hsz67 hdf67 l1_67 l3_67 l5_67 l8_67 l59_67 l60_67 l61_67 l91_67 l92_67 l93_67 l96_67 l97_67 l98_67 l99_67 l100_67 l101_67 l102_67 l103_67 l104_67 l105_67 l106_67 l107_67 l108_67 l109_67 l110_67
              refine then_n ⟨(ordT lo yo).length - (k + 1), by simp only [hm38]; omega, hsz68, hdf68, (k + 1), rfl, (by omega), ((l8_68).trans (by first | rfl | (simp; done) | (congr 1; omega))), ((l1_68).trans l1_37.symm), ((l3_68).trans l3_37.symm), ((l5_68).trans l5_37.symm), ((l59_68).trans l59_37.symm), ((l60_68).trans l60_37.symm), ((l61_68).trans l61_37.symm), (by subst hc_38 hc2_38; exact hS66)⟩
            · skip
              refine D_off rfl (wanted_f rfl rfl (et rfl) (ez rfl) rfl) rfl ?_
              refine D_off rfl (wanted_f rfl rfl (es rfl (et rfl)) (ez rfl) rfl) rfl ?_
              refine D_off rfl (wanted_f rfl rfl (es rfl (es rfl (et rfl))) (ez rfl) rfl) rfl ?_
              refine D_off rfl (wanted_f rfl rfl (es rfl (es rfl (es rfl (et rfl)))) (ez rfl) rfl) rfl ?_
              refine D_off rfl (wanted_f rfl rfl (es rfl (es rfl (es rfl (es rfl (et rfl))))) (ez rfl) rfl) rfl ?_
              refine D_off rfl (wanted_f rfl rfl (es rfl (es rfl (es rfl (es rfl (es rfl (et rfl)))))) (ez rfl) rfl) rfl ?_
              refine D_off rfl (wanted_f rfl rfl (es rfl (es rfl (es rfl (es rfl (es rfl (es rfl (et rfl))))))) (ez rfl) rfl) rfl ?_
              refine D_off rfl (wanted_f rfl rfl (es rfl (es rfl (es rfl (es rfl (es rfl (es rfl (es rfl (et rfl)))))))) (ez rfl) rfl) rfl ?_
              refine D_off rfl (wanted_f rfl rfl (es rfl (es rfl (es rfl (es rfl (es rfl (es rfl (es rfl (es rfl (et rfl))))))))) (ez rfl) rfl) rfl ?_
              refine D_v rfl (wanted_t rfl rfl (es rfl (es rfl (es rfl (es rfl (es rfl (es rfl (es rfl (es rfl (es rfl (es rfl (es rfl (es rfl (es rfl (et rfl)))))))))))))) (ez rfl)) (V_pickF rfl (es rfl (es rfl (es rfl (es rfl (es rfl (es rfl (es rfl (es rfl (es rfl (et rfl)))))))))) rfl) rfl rfl ?_
              refine D_v rfl rfl (V_pickF rfl (es rfl (es rfl (es rfl (es rfl (es rfl (es rfl (es rfl (es rfl (es rfl (es rfl (es rfl (es rfl (es rfl (es rfl (et rfl))))))))))))))) (et rfl)) rfl rfl ?_
              refine ZS_none hS48 (Nat.le_refl _) (Nat.le_refl _) (fun s69 hJ69 hL69 hF69 => ?_)
              have hS69 := hJ69.st; clear hF69 hJ69 hL69
              generalize s69.1 = w69 at *
              replace hS69 : St w NoX [c_38, c2_38] w69 := hS69
              refine gen_Q (fun A70 hA70 => ?_)
              have hsz70 : SzN A70 163 := by rw [hA70]; infer_instance
              have hdf70 : A70.defers = [] := by rw [hA70]; simp only [df_put]; exact hdf61
              have l1_70 := lookE hA70 1 (es rfl (es rfl (es rfl (es rfl (es rfl (es rfl (es rfl (es rfl (es rfl (es rfl (es rfl (es rfl (es rfl (es rfl (es rfl (es rfl (es rfl (es rfl (es rfl (es rfl (es rfl (es rfl (es rfl l1_61)))))))))))))))))))))))
              have l3_70 := lookE hA70 3 (es rfl (es rfl (es rfl (es rfl (es rfl (es rfl (es rfl (es rfl (es rfl (es rfl (es rfl (es rfl (es rfl (es rfl (es rfl (es rfl (es rfl (es rfl (es rfl (es rfl (es rfl (es rfl (es rfl l3_61)))))))))))))))))))))))
              have l5_70 := lookE hA70 5 (es rfl (es rfl (es rfl (es rfl (es rfl (es rfl (es rfl (es rfl (es rfl (es rfl (es rfl (es rfl (es rfl (es rfl (es rfl (es rfl (es rfl (es rfl (es rfl (es rfl (es rfl (es rfl (es rfl l5_61)))))))))))))))))))))))
              have l8_70 := lookE hA70 8 (es rfl (es rfl (es rfl (es rfl (es rfl (es rfl (es rfl (es rfl (es rfl (es rfl (es rfl (es rfl (es rfl (es rfl (es rfl (es rfl (es rfl (es rfl (es rfl (es rfl (es rfl (es rfl (es rfl l8_61)))))))))))))))))))))))
              have l59_70 := lookE hA70 59 (es rfl (es rfl (es rfl (es rfl (es rfl (es rfl (es rfl (es rfl (es rfl (es rfl (es rfl (es rfl (es rfl (es rfl (es rfl (es rfl (es rfl (es rfl (es rfl (es rfl (es rfl (es rfl (es rfl l59_61)))))))))))))))))))))))
              have l60_70 := lookE hA70 60 (es rfl (es rfl (es rfl (es rfl (es rfl (es rfl (es rfl (es rfl (es rfl (es rfl (es rfl (es rfl (es rfl (es rfl (es rfl (es rfl (es rfl (es rfl (es rfl (es rfl (es rfl (es rfl (es rfl l60_61)))))))))))))))))))))))
              have l61_70 := lookE hA70 61 (es rfl (es rfl (es rfl (es rfl (es rfl (es rfl (es rfl (es rfl (es rfl (es rfl (es rfl (es rfl (es rfl (es rfl (es rfl (es rfl (es rfl (es rfl (es rfl (es rfl (es rfl (es rfl (es rfl l61_61)))))))))))))))))))))))
              have l91_70 := lookE hA70 91 (es rfl (es rfl (es rfl (es rfl (es rfl (es rfl (es rfl (es rfl (es rfl (es rfl (es rfl (es rfl (es rfl (es rfl (es rfl (es rfl (es rfl (es rfl (es rfl (et rfl))))))))))))))))))))
              have l92_70 := lookE hA70 92 (es rfl (es rfl (es rfl (es rfl (es rfl (es rfl (es rfl (es rfl (es rfl (es rfl (es rfl (es rfl (es rfl (es rfl (es rfl (es rfl (es rfl (es rfl (et rfl)))))))))))))))))))
              have l93_70 := lookE hA70 93 (es rfl (es rfl (es rfl (es rfl (es rfl (es rfl (es rfl (es rfl (es rfl (es rfl (es rfl (es rfl (es rfl (es rfl (es rfl (es rfl (es rfl (et rfl))))))))))))))))))
              have l96_70 := lookE hA70 96 (es rfl (es rfl (es rfl (es rfl (es rfl (es rfl (es rfl (es rfl (es rfl (es rfl (es rfl (es rfl (es rfl (es rfl (et rfl)))))))))))))))
              have l97_70 := lookE hA70 97 (es rfl (es rfl (es rfl (es rfl (es rfl (es rfl (es rfl (es rfl (es rfl (es rfl (es rfl (es rfl (es rfl (et rfl))))))))))))))
              have l98_70 := lookE hA70 98 (es rfl (es rfl (es rfl (es rfl (es rfl (es rfl (es rfl (es rfl (es rfl (es rfl (es rfl (es rfl (et rfl)))))))))))))
              have l99_70 := lookE hA70 99 (es rfl (es rfl (es rfl (es rfl (es rfl (es rfl (es rfl (es rfl (es rfl (es rfl (es rfl (et rfl))))))))))))
              have l100_70 := lookE hA70 100 (es rfl (es rfl (es rfl (es rfl (es rfl (es rfl (es rfl (es rfl (es rfl (es rfl (et rfl)))))))))))
              have l101_70 := lookE hA70 101 (es rfl (es rfl (es rfl (es rfl (es rfl (es rfl (es rfl (es rfl (es rfl (et rfl))))))))))
              have l102_70 := lookE hA70 102 (es rfl (es rfl (es rfl (es rfl (es rfl (es rfl (es rfl (es rfl (et rfl)))))))))
              have l103_70 := lookE hA70 103 (es rfl (es rfl (es rfl (es rfl (es rfl (es rfl (es rfl (et rfl))))))))
              have l104_70 := lookE hA70 104 (es rfl (es rfl (es rfl (es rfl (es rfl (es rfl (et rfl)))))))
              have l105_70 := lookE hA70 105 (es rfl (es rfl (es rfl (es rfl (es rfl (et rfl))))))
              have l106_70 := lookE hA70 106 (es rfl (es rfl (es rfl (es rfl (et rfl)))))
              have l107_70 := lookE hA70 107 (es rfl (es rfl (es rfl (et rfl))))
              have l108_70 := lookE hA70 108 (es rfl (es rfl (et rfl)))
              have l109_70 := lookE hA70 109 (es rfl (et rfl))
              have l110_70 := lookE hA70 110 (et rfl)
              clear hA70 hsz61 hdf61 l1_61 l3_61 l5_61 l8_61 l9_61 l10_61 l11_61 l59_61 l60_61 l61_61
              refine then_n (hK62 _ _ ?_)
              clear hK62
              refine cond_f l110_70 ?_
              refine wp_skip ?_
              refine inb_n ?_
              refine then_n (hK43 _ _ ?_)
              clear hK43
              -- region 14
              refine region_in ?_
              refine W_v rfl rfl (V_mov rfl l8_70) ?_
              refine W_v rfl rfl (V_add rfl (et rfl) rfl (by omega) (by omega)) ?_
              refine W_v rfl rfl (V_asg rfl (et rfl)) ?_
              refine W_end ?_
              refine gen_Q (fun A71 hA71 => ?_)
              have hsz71 : SzN A71 163 := by rw [hA71]; infer_instance
              have hdf71 : A71.defers = [] := by rw [hA71]; simp only [df_put]; exact hdf70
              have l1_71 := lookE hA71 1 (es rfl (es rfl (es rfl l1_70)))
              have l3_71 := lookE hA71 3 (es rfl (es rfl (es rfl l3_70)))
              have l5_71 := lookE hA71 5 (es rfl (es rfl (es rfl l5_70)))
              have l8_71 := lookE hA71 8 (et rfl)
              have l59_71 := lookE hA71 59 (es rfl (es rfl (es rfl l59_70)))
              have l60_71 := lookE hA71 60 (es rfl (es rfl (es rfl l60_70)))
              have l61_71 := lookE hA71 61 (es rfl (es rfl (es rfl l61_70)))
              have l91_71 := lookE hA71 91 (es rfl (es rfl (es rfl l91_70)))
              have l92_71 := lookE hA71 92 (es rfl (es rfl (es rfl l92_70)))
              have l93_71 := lookE hA71 93 (es rfl (es rfl (es rfl l93_70)))
              have l96_71 := lookE hA71 96 (es rfl (es rfl (es rfl l96_70)))
              have l97_71 := lookE hA71 97 (es rfl (es rfl (es rfl l97_70)))
              have l98_71 := lookE hA71 98 (es rfl (es rfl (es rfl l98_70)))
              have l99_71 := lookE hA71 99 (es rfl (es rfl (es rfl l99_70)))
              have l100_71 := lookE hA71 100 (es rfl (es rfl (es rfl l100_70)))
              have l101_71 := lookE hA71 101 (es rfl (es rfl (es rfl l101_70)))
              have l102_71 := lookE hA71 102 (es rfl (es rfl (es rfl l102_70)))
              have l103_71 := lookE hA71 103 (es rfl (es rfl (es rfl l103_70)))
              have l104_71 := lookE hA71 104 (es rfl (es rfl (es rfl l104_70)))
              have l105_71 := lookE hA71 105 (es rfl (es rfl (es rfl l105_70)))
              have l106_71 := lookE hA71 106 (es rfl (es rfl (es rfl l106_70)))
              have l107_71 := lookE hA71 107 (es rfl (es rfl (es rfl l107_70)))
              have l108_71 := lookE hA71 108 (es rfl (es rfl (es rfl l108_70)))
              have l109_71 := lookE hA71 109 (es rfl (es rfl (es rfl l109_70)))
              clear hA71 hsz70 hdf70 l1_70 l3_70 l5_70 l8_70 l59_70 l60_70 l61_70 l91_70 l92_70 l93_70 l96_70 l97_70 l98_70 l99_70 l100_70 l101_70 l102_70 l103_70 l104_70 l105_70 l106_70 l107_70 l108_70 l109_70 l110_70
              refine then_n ⟨(ordT lo yo).length - (k + 1), by simp only [hm38]; omega, hsz71, hdf71, (k + 1), rfl, (by omega), ((l8_71).trans (by first | rfl | (simp; done) | (congr 1; omega))), ((l1_71).trans l1_37.symm), ((l3_71).trans l3_37.symm), ((l5_71).trans l5_37.symm), ((l59_71).trans l59_37.symm), ((l60_71).trans l60_37.symm), ((l61_71).trans l61_37.symm), (by subst hc_38 hc2_38; exact hS69)⟩
          · skip
            refine wp_skip ?_
            refine then_n (hK57 _ _ ?_)
            clear hK57
            refine wp_seq_k (fun K72 hK72 => ?_)
            -- region 21
            refine region_monoS 23 23 [] (by kernel_rfl) (by kernel_rfl) ?_
            refine D_v rfl rfl (V_mov rfl l10_59) rfl rfl ?_
            refine D_v rfl rfl (V_neq rfl (et rfl) rfl) rfl rfl ?_
            refine D_sure (c' := false) rfl rfl (V_mov rfl (et rfl)) (by rw [decide_eq_false_iff_not]; rw [(ord_cm hg (hoT ▸ hy45) (hoT ▸ hy46)).1]; simp) rfl rfl ?_
            refine D_v rfl (wanted_t rfl rfl (et rfl) (ez rfl)) (V_mov rfl (es rfl (es rfl (es rfl l9_59)))) rfl rfl ?_
            refine D_v rfl (wanted_t rfl rfl (es rfl (et rfl)) (ez rfl)) (V_mov rfl (es rfl (es rfl (es rfl (es rfl l11_59))))) rfl rfl ?_
            refine D_v rfl (wanted_t rfl rfl (es rfl (es rfl (et rfl))) (ez rfl)) (V_neq rfl (es rfl (et rfl)) (et rfl)) rfl rfl ?_
            refine D_v rfl rfl (V_pickF rfl (es rfl (es rfl (es rfl (et rfl)))) (et rfl)) rfl rfl ?_
            refine D_sure (c' := false) rfl rfl (V_mov rfl (et rfl)) (by rw [decide_eq_false_iff_not]; rw [(ord_cm hg (hoT ▸ hy45) (hoT ▸ hy46)).2]; split <;> first | omega | (split <;> omega)) rfl rfl ?_
            refine D_v rfl (wanted_t rfl rfl (et rfl) (ez rfl)) (V_mov rfl (es rfl (es rfl (es rfl (es rfl (es rfl (es rfl (es rfl (es rfl l5_59))))))))) rfl rfl ?_
            refine D_v rfl (wanted_t rfl rfl (es rfl (et rfl)) (ez rfl)) (V_mov rfl (es rfl (es rfl (es rfl (es rfl (es rfl (es rfl (es rfl (es rfl (es rfl l8_59)))))))))) rfl rfl ?_
            refine D_v rfl (wanted_t rfl rfl (es rfl (es rfl (et rfl))) (ez rfl)) (V_neq rfl (es rfl (et rfl)) (et rfl)) rfl rfl ?_
            refine D_split rfl (wanted_t rfl rfl (es rfl (es rfl (es rfl (et rfl)))) (ez rfl)) (V_mov rfl (et rfl)) rfl rfl (fun c73 => ?_) (fun c73 => ?_)
            · skip
              refine D_v rfl (wanted_t rfl rfl (et rfl) (ez rfl)) (V_mov rfl (es rfl (es rfl (es rfl (es rfl (es rfl (es rfl (es rfl (es rfl (es rfl (es rfl (es rfl (es rfl l3_59))))))))))))) rfl rfl ?_
              refine D_v rfl (wanted_t rfl rfl (es rfl (et rfl)) (ez rfl)) (V_mov rfl (es rfl (es rfl (es rfl (es rfl (es rfl (es rfl (es rfl (es rfl (es rfl (es rfl (es rfl (es rfl (es rfl l5_59)))))))))))))) rfl rfl ?_
              refine D_v rfl (wanted_t rfl rfl (es rfl (es rfl (et rfl))) (ez rfl)) (V_ixS (off := O45 + i) 1 (i) rfl (es rfl (et rfl)) (et rfl) hv45 (by omega) k45 Tryd.underlying22 (by kernel_rfl) (congrArg _ (Nat.mul_one _))) rfl rfl ?_
              refine D_r rfl (wanted_t rfl rfl (es rfl (es rfl (es rfl (et rfl)))) (ez rfl)) (by kernel_rfl) (fun sx hx hF => (VR_ldC rfl (et rfl) ((ow_at ((hS48.grow hx).chq 0 rfl hc_38)).cell hv45 (map_get hy45)) Tryd.underlying3 rfl)) rfl rfl ?_
              refine D_v rfl (wanted_t rfl rfl (es rfl (es rfl (es rfl (es rfl (et rfl))))) (ez rfl)) (V_mov rfl (es rfl (es rfl (es rfl (es rfl (es rfl (es rfl (es rfl (es rfl (es rfl (es rfl (es rfl (es rfl (es rfl (es rfl (es rfl (es rfl l3_59))))))))))))))))) rfl rfl ?_
              refine D_v rfl (wanted_t rfl rfl (es rfl (es rfl (es rfl (es rfl (es rfl (et rfl)))))) (ez rfl)) (V_mov rfl (es rfl (es rfl (es rfl (es rfl (es rfl (es rfl (es rfl (es rfl (es rfl (es rfl (es rfl (es rfl (es rfl (es rfl (es rfl (es rfl (es rfl l8_59)))))))))))))))))) rfl rfl ?_
              refine D_v rfl (wanted_t rfl rfl (es rfl (es rfl (es rfl (es rfl (es rfl (es rfl (et rfl))))))) (ez rfl)) (V_ixS (off := O45 + k) 1 (k) rfl (es rfl (et rfl)) (et rfl) hv45 (by omega) k46 Tryd.underlying22 (by kernel_rfl) (congrArg _ (Nat.mul_one _))) rfl rfl ?_
              refine D_r rfl (wanted_t rfl rfl (es rfl (es rfl (es rfl (es rfl (es rfl (es rfl (es rfl (et rfl)))))))) (ez rfl)) (by kernel_rfl) (fun sx hx hF => (VR_ldC rfl (et rfl) ((ow_at ((hS48.grow hx).chq 0 rfl hc_38)).cell hv45 (map_get hy46)) Tryd.underlying3 rfl)) rfl rfl ?_
              refine D_v rfl (wanted_t rfl rfl (es rfl (es rfl (es rfl (es rfl (es rfl (es rfl (es rfl (es rfl (et rfl))))))))) (ez rfl)) (V_eql rfl (es rfl (es rfl (es rfl (es rfl (et rfl))))) (et rfl)) rfl rfl ?_
              refine D_v rfl (wanted_t rfl rfl (es rfl (es rfl (es rfl (es rfl (es rfl (es rfl (es rfl (es rfl (es rfl (es rfl (es rfl (es rfl (es rfl (et rfl)))))))))))))) (ez rfl)) (V_pickT rfl (es rfl (es rfl (es rfl (es rfl (es rfl (es rfl (es rfl (es rfl (es rfl (et rfl)))))))))) (et rfl)) rfl rfl ?_
              refine D_v rfl rfl (V_pickF rfl (es rfl (es rfl (es rfl (es rfl (es rfl (es rfl (es rfl (es rfl (es rfl (es rfl (es rfl (es rfl (es rfl (es rfl (et rfl))))))))))))))) (et rfl)) rfl rfl ?_
              refine ZS_none hS48 (Nat.le_refl _) (Nat.le_refl _) (fun s76 hJ76 hL76 hF76 => ?_)
              have hS76 := hJ76.st; clear hF76 hJ76 hL76
              generalize s76.1 = w76 at *
              replace hS76 : St w NoX [c_38, c2_38] w76 := hS76
              refine gen_Q (fun A77 hA77 => ?_)
              have hsz77 : SzN A77 163 := by rw [hA77]; infer_instance
              have hdf77 : A77.defers = [] := by rw [hA77]; simp only [df_put]; exact hdf59
              have l1_77 := lookE hA77 1 (es rfl (es rfl (es rfl (es rfl (es rfl (es rfl (es rfl (es rfl (es rfl (es rfl (es rfl (es rfl (es rfl (es rfl (es rfl (es rfl (es rfl (es rfl (es rfl (es rfl (es rfl (es rfl (es rfl l1_59)))))))))))))))))))))))
              have l3_77 := lookE hA77 3 (es rfl (es rfl (es rfl (es rfl (es rfl (es rfl (es rfl (es rfl (es rfl (es rfl (es rfl (es rfl (es rfl (es rfl (es rfl (es rfl (es rfl (es rfl (es rfl (es rfl (es rfl (es rfl (es rfl l3_59)))))))))))))))))))))))
              have l5_77 := lookE hA77 5 (es rfl (es rfl (es rfl (es rfl (es rfl (es rfl (es rfl (es rfl (es rfl (es rfl (es rfl (es rfl (es rfl (es rfl (es rfl (es rfl (es rfl (es rfl (es rfl (es rfl (es rfl (es rfl (es rfl l5_59)))))))))))))))))))))))
              have l8_77 := lookE hA77 8 (es rfl (es rfl (es rfl (es rfl (es rfl (es rfl (es rfl (es rfl (es rfl (es rfl (es rfl (es rfl (es rfl (es rfl (es rfl (es rfl (es rfl (es rfl (es rfl (es rfl (es rfl (es rfl (es rfl l8_59)))))))))))))))))))))))
              have l59_77 := lookE hA77 59 (es rfl (es rfl (es rfl (es rfl (es rfl (es rfl (es rfl (es rfl (es rfl (es rfl (es rfl (es rfl (es rfl (es rfl (es rfl (es rfl (es rfl (es rfl (es rfl (es rfl (es rfl (es rfl (es rfl l59_59)))))))))))))))))))))))
              have l60_77 := lookE hA77 60 (es rfl (es rfl (es rfl (es rfl (es rfl (es rfl (es rfl (es rfl (es rfl (es rfl (es rfl (es rfl (es rfl (es rfl (es rfl (es rfl (es rfl (es rfl (es rfl (es rfl (es rfl (es rfl (es rfl l60_59)))))))))))))))))))))))
              have l61_77 := lookE hA77 61 (es rfl (es rfl (es rfl (es rfl (es rfl (es rfl (es rfl (es rfl (es rfl (es rfl (es rfl (es rfl (es rfl (es rfl (es rfl (es rfl (es rfl (es rfl (es rfl (es rfl (es rfl (es rfl (es rfl l61_59)))))))))))))))))))))))
              have l91_77 := lookE hA77 91 (es rfl (es rfl (es rfl (es rfl (es rfl (es rfl (es rfl (es rfl (es rfl (es rfl (es rfl (es rfl (es rfl (es rfl (es rfl (es rfl (es rfl (es rfl (es rfl (et rfl))))))))))))))))))))
              have l92_77 := lookE hA77 92 (es rfl (es rfl (es rfl (es rfl (es rfl (es rfl (es rfl (es rfl (es rfl (es rfl (es rfl (es rfl (es rfl (es rfl (es rfl (es rfl (es rfl (es rfl (et rfl)))))))))))))))))))
              have l93_77 := lookE hA77 93 (es rfl (es rfl (es rfl (es rfl (es rfl (es rfl (es rfl (es rfl (es rfl (es rfl (es rfl (es rfl (es rfl (es rfl (es rfl (es rfl (es rfl (et rfl))))))))))))))))))
              have l96_77 := lookE hA77 96 (es rfl (es rfl (es rfl (es rfl (es rfl (es rfl (es rfl (es rfl (es rfl (es rfl (es rfl (es rfl (es rfl (es rfl (et rfl)))))))))))))))
              have l97_77 := lookE hA77 97 (es rfl (es rfl (es rfl (es rfl (es rfl (es rfl (es rfl (es rfl (es rfl (es rfl (es rfl (es rfl (es rfl (et rfl))))))))))))))
              have l98_77 := lookE hA77 98 (es rfl (es rfl (es rfl (es rfl (es rfl (es rfl (es rfl (es rfl (es rfl (es rfl (es rfl (es rfl (et rfl)))))))))))))
              have l99_77 := lookE hA77 99 (es rfl (es rfl (es rfl (es rfl (es rfl (es rfl (es rfl (es rfl (es rfl (es rfl (es rfl (et rfl))))))))))))
              have l100_77 := lookE hA77 100 (es rfl (es rfl (es rfl (es rfl (es rfl (es rfl (es rfl (es rfl (es rfl (es rfl (et rfl)))))))))))
              have l101_77 := lookE hA77 101 (es rfl (es rfl (es rfl (es rfl (es rfl (es rfl (es rfl (es rfl (es rfl (et rfl))))))))))
              have l102_77 := lookE hA77 102 (es rfl (es rfl (es rfl (es rfl (es rfl (es rfl (es rfl (es rfl (et rfl)))))))))
              have l103_77 := lookE hA77 103 (es rfl (es rfl (es rfl (es rfl (es rfl (es rfl (es rfl (et rfl))))))))
              have l104_77 := lookE hA77 104 (es rfl (es rfl (es rfl (es rfl (es rfl (es rfl (et rfl)))))))
              have l105_77 := lookE hA77 105 (es rfl (es rfl (es rfl (es rfl (es rfl (et rfl))))))
              have l106_77 := lookE hA77 106 (es rfl (es rfl (es rfl (es rfl (et rfl)))))
              have l107_77 := lookE hA77 107 (es rfl (es rfl (es rfl (et rfl))))
              have l108_77 := lookE hA77 108 (es rfl (es rfl (et rfl)))
              have l109_77 := lookE hA77 109 (es rfl (et rfl))
              have l110_77 := lookE hA77 110 (et rfl)
              clear hA77 hsz59 hdf59 l1_59 l3_59 l5_59 l8_59 l9_59 l10_59 l11_59 l59_59 l60_59 l61_59 l87_59
              refine then_n (hK72 _ _ ?_)
              clear hK72
              refine cond_not l110_77 (by rw [decide_eq_false_iff_not]; exact ord_ne hg (hoT ▸ hy45) (hoT ▸ hy46) (by omega)) ?_
              refine wp_skip ?_
              refine inb_n ?_
              refine then_n (hK43 _ _ ?_)
              clear hK43
              -- region 14
              refine region_in ?_
              refine W_v rfl rfl (V_mov rfl l8_77) ?_
              refine W_v rfl rfl (V_add rfl (et rfl) rfl (by omega) (by omega)) ?_
              refine W_v rfl rfl (V_asg rfl (et rfl)) ?_
              refine W_end ?_
              refine gen_Q (fun A78 hA78 => ?_)
              have hsz78 : SzN A78 163 := by rw [hA78]; infer_instance
              have hdf78 : A78.defers = [] := by rw [hA78]; simp only [df_put]; exact hdf77
              have l1_78 := lookE hA78 1 (es rfl (es rfl (es rfl l1_77)))
              have l3_78 := lookE hA78 3 (es rfl (es rfl (es rfl l3_77)))
              have l5_78 := lookE hA78 5 (es rfl (es rfl (es rfl l5_77)))
              have l8_78 := lookE hA78 8 (et rfl)
              have l59_78 := lookE hA78 59 (es rfl (es rfl (es rfl l59_77)))
              have l60_78 := lookE hA78 60 (es rfl (es rfl (es rfl l60_77)))
              have l61_78 := lookE hA78 61 (es rfl (es rfl (es rfl l61_77)))
              have l91_78 := lookE hA78 91 (es rfl (es rfl (es rfl l91_77)))
              have l92_78 := lookE hA78 92 (es rfl (es rfl (es rfl l92_77)))
              have l93_78 := lookE hA78 93 (es rfl (es rfl (es rfl l93_77)))
              have l96_78 := lookE hA78 96 (es rfl (es rfl (es rfl l96_77)))
              have l97_78 := lookE hA78 97 (es rfl (es rfl (es rfl l97_77)))
              have l98_78 := lookE hA78 98 (es rfl (es rfl (es rfl l98_77)))
              have l99_78 := lookE hA78 99 (es rfl (es rfl (es rfl l99_77)))
              have l100_78 := lookE hA78 100 (es rfl (es rfl (es rfl l100_77)))
              have l101_78 := lookE hA78 101 (es rfl (es rfl (es rfl l101_77)))
              have l102_78 := lookE hA78 102 (es rfl (es rfl (es rfl l102_77)))
              have l103_78 := lookE hA78 103 (es rfl (es rfl (es rfl l103_77)))
              have l104_78 := lookE hA78 104 (es rfl (es rfl (es rfl l104_77)))
              have l105_78 := lookE hA78 105 (es rfl (es rfl (es rfl l105_77)))
              have l106_78 := lookE hA78 106 (es rfl (es rfl (es rfl l106_77)))
              have l107_78 := lookE hA78 107 (es rfl (es rfl (es rfl l107_77)))
              have l108_78 := lookE hA78 108 (es rfl (es rfl (es rfl l108_77)))
              have l109_78 := lookE hA78 109 (es rfl (es rfl (es rfl l109_77)))
              clear hA78 hsz77 hdf77 l1_77 l3_77 l5_77 l8_77 l59_77 l60_77 l61_77 l91_77 l92_77 l93_77 l96_77 l97_77 l98_77 l99_77 l100_77 l101_77 l102_77 l103_77 l104_77 l105_77 l106_77 l107_77 l108_77 l109_77 l110_77
              refine then_n ⟨(ordT lo yo).length - (k + 1), by simp only [hm38]; omega, hsz78, hdf78, (k + 1), rfl, (by omega), ((l8_78).trans (by first | rfl | (simp; done) | (congr 1; omega))), ((l1_78).trans l1_37.symm), ((l3_78).trans l3_37.symm), ((l5_78).trans l5_37.symm), ((l59_78).trans l59_37.symm), ((l60_78).trans l60_37.symm), ((l61_78).trans l61_37.symm), (by subst hc_38 hc2_38; exact hS76)⟩
            · skip
              refine D_off rfl (wanted_f rfl rfl (et rfl) (ez rfl) rfl) rfl ?_
              refine D_off rfl (wanted_f rfl rfl (es rfl (et rfl)) (ez rfl) rfl) rfl ?_
              refine D_off rfl (wanted_f rfl rfl (es rfl (es rfl (et rfl))) (ez rfl) rfl) rfl ?_
              refine D_off rfl (wanted_f rfl rfl (es rfl (es rfl (es rfl (et rfl)))) (ez rfl) rfl) rfl ?_
              refine D_off rfl (wanted_f rfl rfl (es rfl (es rfl (es rfl (es rfl (et rfl))))) (ez rfl) rfl) rfl ?_
              refine D_off rfl (wanted_f rfl rfl (es rfl (es rfl (es rfl (es rfl (es rfl (et rfl)))))) (ez rfl) rfl) rfl ?_
              refine D_off rfl (wanted_f rfl rfl (es rfl (es rfl (es rfl (es rfl (es rfl (es rfl (et rfl))))))) (ez rfl) rfl) rfl ?_
              refine D_off rfl (wanted_f rfl rfl (es rfl (es rfl (es rfl (es rfl (es rfl (es rfl (es rfl (et rfl)))))))) (ez rfl) rfl) rfl ?_
              refine D_off rfl (wanted_f rfl rfl (es rfl (es rfl (es rfl (es rfl (es rfl (es rfl (es rfl (es rfl (et rfl))))))))) (ez rfl) rfl) rfl ?_
              refine D_v rfl (wanted_t rfl rfl (es rfl (es rfl (es rfl (es rfl (es rfl (es rfl (es rfl (es rfl (es rfl (es rfl (es rfl (es rfl (es rfl (et rfl)))))))))))))) (ez rfl)) (V_pickF rfl (es rfl (es rfl (es rfl (es rfl (es rfl (es rfl (es rfl (es rfl (es rfl (et rfl)))))))))) rfl) rfl rfl ?_
              refine D_v rfl rfl (V_pickF rfl (es rfl (es rfl (es rfl (es rfl (es rfl (es rfl (es rfl (es rfl (es rfl (es rfl (es rfl (es rfl (es rfl (es rfl (et rfl))))))))))))))) (et rfl)) rfl rfl ?_
              refine ZS_none hS48 (Nat.le_refl _) (Nat.le_refl _) (fun s79 hJ79 hL79 hF79 => ?_)
              have hS79 := hJ79.st; clear hF79 hJ79 hL79
              generalize s79.1 = w79 at *
              replace hS79 : St w NoX [c_38, c2_38] w79 := hS79
              refine gen_Q (fun A80 hA80 => ?_)
              have hsz80 : SzN A80 163 := by rw [hA80]; infer_instance
              have hdf80 : A80.defers = [] := by rw [hA80]; simp only [df_put]; exact hdf59
              have l1_80 := lookE hA80 1 (es rfl (es rfl (es rfl (es rfl (es rfl (es rfl (es rfl (es rfl (es rfl (es rfl (es rfl (es rfl (es rfl (es rfl (es rfl (es rfl (es rfl (es rfl (es rfl (es rfl (es rfl (es rfl (es rfl l1_59)))))))))))))))))))))))
              have l3_80 := lookE hA80 3 (es rfl (es rfl (es rfl (es rfl (es rfl (es rfl (es rfl (es rfl (es rfl (es rfl (es rfl (es rfl (es rfl (es rfl (es rfl (es rfl (es rfl (es rfl (es rfl (es rfl (es rfl (es rfl (es rfl l3_59)))))))))))))))))))))))
              have l5_80 := lookE hA80 5 (es rfl (es rfl (es rfl (es rfl (es rfl (es rfl (es rfl (es rfl (es rfl (es rfl (es rfl (es rfl (es rfl (es rfl (es rfl (es rfl (es rfl (es rfl (es rfl (es rfl (es rfl (es rfl (es rfl l5_59)))))))))))))))))))))))
              have l8_80 := lookE hA80 8 (es rfl (es rfl (es rfl (es rfl (es rfl (es rfl (es rfl (es rfl (es rfl (es rfl (es rfl (es rfl (es rfl (es rfl (es rfl (es rfl (es rfl (es rfl (es rfl (es rfl (es rfl (es rfl (es rfl l8_59)))))))))))))))))))))))
              have l59_80 := lookE hA80 59 (es rfl (es rfl (es rfl (es rfl (es rfl (es rfl (es rfl (es rfl (es rfl (es rfl (es rfl (es rfl (es rfl (es rfl (es rfl (es rfl (es rfl (es rfl (es rfl (es rfl (es rfl (es rfl (es rfl l59_59)))))))))))))))))))))))
              have l60_80 := lookE hA80 60 (es rfl (es rfl (es rfl (es rfl (es rfl (es rfl (es rfl (es rfl (es rfl (es rfl (es rfl (es rfl (es rfl (es rfl (es rfl (es rfl (es rfl (es rfl (es rfl (es rfl (es rfl (es rfl (es rfl l60_59)))))))))))))))))))))))
              have l61_80 := lookE hA80 61 (es rfl (es rfl (es rfl (es rfl (es rfl (es rfl (es rfl (es rfl (es rfl (es rfl (es rfl (es rfl (es rfl (es rfl (es rfl (es rfl (es rfl (es rfl (es rfl (es rfl (es rfl (es rfl (es rfl l61_59)))))))))))))))))))))))
              have l91_80 := lookE hA80 91 (es rfl (es rfl (es rfl (es rfl (es rfl (es rfl (es rfl (es rfl (es rfl (es rfl (es rfl (es rfl (es rfl (es rfl (es rfl (es rfl (es rfl (es rfl (es rfl (et rfl))))))))))))))))))))
              have l92_80 := lookE hA80 92 (es rfl (es rfl (es rfl (es rfl (es rfl (es rfl (es rfl (es rfl (es rfl (es rfl (es rfl (es rfl (es rfl (es rfl (es rfl (es rfl (es rfl (es rfl (et rfl)))))))))))))))))))
              have l93_80 := lookE hA80 93 (es rfl (es rfl (es rfl (es rfl (es rfl (es rfl (es rfl (es rfl (es rfl (es rfl (es rfl (es rfl (es rfl (es rfl (es rfl (es rfl (es rfl (et rfl))))))))))))))))))
              have l96_80 := lookE hA80 96 (es rfl (es rfl (es rfl (es rfl (es rfl (es rfl (es rfl (es rfl (es rfl (es rfl (es rfl (es rfl (es rfl (es rfl (et rfl)))))))))))))))
              have l97_80 := lookE hA80 97 (es rfl (es rfl (es rfl (es rfl (es rfl (es rfl (es rfl (es rfl (es rfl (es rfl (es rfl (es rfl (es rfl (et rfl))))))))))))))
              have l98_80 := lookE hA80 98 (es rfl (es rfl (es rfl (es rfl (es rfl (es rfl (es rfl (es rfl (es rfl (es rfl (es rfl (es rfl (et rfl)))))))))))))
              have l99_80 := lookE hA80 99 (es rfl (es rfl (es rfl (es rfl (es rfl (es rfl (es rfl (es rfl (es rfl (es rfl (es rfl (et rfl))))))))))))
              have l100_80 := lookE hA80 100 (es rfl (es rfl (es rfl (es rfl (es rfl (es rfl (es rfl (es rfl (es rfl (es rfl (et rfl)))))))))))
              have l101_80 := lookE hA80 101 (es rfl (es rfl (es rfl (es rfl (es rfl (es rfl (es rfl (es rfl (es rfl (et rfl))))))))))
              have l102_80 := lookE hA80 102 (es rfl (es rfl (es rfl (es rfl (es rfl (es rfl (es rfl (es rfl (et rfl)))))))))
              have l103_80 := lookE hA80 103 (es rfl (es rfl (es rfl (es rfl (es rfl (es rfl (es rfl (et rfl))))))))
              have l104_80 := lookE hA80 104 (es rfl (es rfl (es rfl (es rfl (es rfl (es rfl (et rfl)))))))
              have l105_80 := lookE hA80 105 (es rfl (es rfl (es rfl (es rfl (es rfl (et rfl))))))
              have l106_80 := lookE hA80 106 (es rfl (es rfl (es rfl (es rfl (et rfl)))))
              have l107_80 := lookE hA80 107 (es rfl (es rfl (es rfl (et rfl))))
              have l108_80 := lookE hA80 108 (es rfl (es rfl (et rfl)))
              have l109_80 := lookE hA80 109 (es rfl (et rfl))
              have l110_80 := lookE hA80 110 (et rfl)
              clear hA80 hsz59 hdf59 l1_59 l3_59 l5_59 l8_59 l9_59 l10_59 l11_59 l59_59 l60_59 l61_59 l87_59
              refine then_n (hK72 _ _ ?_)
              clear hK72
              refine cond_f l110_80 ?_
              refine wp_skip ?_
              refine inb_n ?_
              refine then_n (hK43 _ _ ?_)
              clear hK43
              -- region 14
              refine region_in ?_
              refine W_v rfl rfl (V_mov rfl l8_80) ?_
              refine W_v rfl rfl (V_add rfl (et rfl) rfl (by omega) (by omega)) ?_
              refine W_v rfl rfl (V_asg rfl (et rfl)) ?_
              refine W_end ?_
              refine gen_Q (fun A81 hA81 => ?_)
              have hsz81 : SzN A81 163 := by rw [hA81]; infer_instance
              have hdf81 : A81.defers = [] := by rw [hA81]; simp only [df_put]; exact hdf80
              have l1_81 := lookE hA81 1 (es rfl (es rfl (es rfl l1_80)))
              have l3_81 := lookE hA81 3 (es rfl (es rfl (es rfl l3_80)))
              have l5_81 := lookE hA81 5 (es rfl (es rfl (es rfl l5_80)))
              have l8_81 := lookE hA81 8 (et rfl)
              have l59_81 := lookE hA81 59 (es rfl (es rfl (es rfl l59_80)))
              have l60_81 := lookE hA81 60 (es rfl (es rfl (es rfl l60_80)))
              have l61_81 := lookE hA81 61 (es rfl (es rfl (es rfl l61_80)))
              have l91_81 := lookE hA81 91 (es rfl (es rfl (es rfl l91_80)))
              have l92_81 := lookE hA81 92 (es rfl (es rfl (es rfl l92_80)))
              have l93_81 := lookE hA81 93 (es rfl (es rfl (es rfl l93_80)))
              have l96_81 := lookE hA81 96 (es rfl (es rfl (es rfl l96_80)))
              have l97_81 := lookE hA81 97 (es rfl (es rfl (es rfl l97_80)))
              have l98_81 := lookE hA81 98 (es rfl (es rfl (es rfl l98_80)))
              have l99_81 := lookE hA81 99 (es rfl (es rfl (es rfl l99_80)))
              have l100_81 := lookE hA81 100 (es rfl (es rfl (es rfl l100_80)))
              have l101_81 := lookE hA81 101 (es rfl (es rfl (es rfl l101_80)))
              have l102_81 := lookE hA81 102 (es rfl (es rfl (es rfl l102_80)))
              have l103_81 := lookE hA81 103 (es rfl (es rfl (es rfl l103_80)))
              have l104_81 := lookE hA81 104 (es rfl (es rfl (es rfl l104_80)))
              have l105_81 := lookE hA81 105 (es rfl (es rfl (es rfl l105_80)))
              have l106_81 := lookE hA81 106 (es rfl (es rfl (es rfl l106_80)))
              have l107_81 := lookE hA81 107 (es rfl (es rfl (es rfl l107_80)))
              have l108_81 := lookE hA81 108 (es rfl (es rfl (es rfl l108_80)))
              have l109_81 := lookE hA81 109 (es rfl (es rfl (es rfl l109_80)))
              clear hA81 hsz80 hdf80 l1_80 l3_80 l5_80 l8_80 l59_80 l60_80 l61_80 l91_80 l92_80 l93_80 l96_80 l97_80 l98_80 l99_80 l100_80 l101_80 l102_80 l103_80 l104_80 l105_80 l106_80 l107_80 l108_80 l109_80 l110_80
              refine then_n ⟨(ordT lo yo).length - (k + 1), by simp only [hm38]; omega, hsz81, hdf81, (k + 1), rfl, (by omega), ((l8_81).trans (by first | rfl | (simp; done) | (congr 1; omega))), ((l1_81).trans l1_37.symm), ((l3_81).trans l3_37.symm), ((l5_81).trans l5_37.symm), ((l59_81).trans l59_37.symm), ((l60_81).trans l60_37.symm), ((l61_81).trans l61_37.symm), (by subst hc_38 hc2_38; exact hS79)⟩
        · skip
          refine wp_skip ?_
          refine then_n (hK52 _ _ ?_)
          clear hK52
          refine wp_seq_k (fun K82 hK82 => ?_)
          refine wp_seq_k (fun K83 hK83 => ?_)
          -- region 19
          refine region_in ?_
          refine W_v rfl rfl (V_mov rfl l5_54) ?_
          refine W_v rfl rfl (V_mov rfl (es rfl l8_54)) ?_
          refine W_v rfl rfl (V_gtr rfl (es rfl (et rfl)) (et rfl)) ?_
          refine W_end ?_
          refine gen_Q (fun A84 hA84 => ?_)
          have hsz84 : SzN A84 163 := by rw [hA84]; infer_instance
          have hdf84 : A84.defers = [] := by rw [hA84]; simp only [df_put]; exact hdf54
          have l1_84 := lookE hA84 1 (es rfl (es rfl (es rfl l1_54)))
          have l3_84 := lookE hA84 3 (es rfl (es rfl (es rfl l3_54)))
          have l5_84 := lookE hA84 5 (es rfl (es rfl (es rfl l5_54)))
          have l8_84 := lookE hA84 8 (es rfl (es rfl (es rfl l8_54)))
          have l9_84 := lookE hA84 9 (es rfl (es rfl (es rfl l9_54)))
          have l10_84 := lookE hA84 10 (es rfl (es rfl (es rfl l10_54)))
          have l11_84 := lookE hA84 11 (es rfl (es rfl (es rfl l11_54)))
          have l59_84 := lookE hA84 59 (es rfl (es rfl (es rfl l59_54)))
          have l60_84 := lookE hA84 60 (es rfl (es rfl (es rfl l60_54)))
          have l61_84 := lookE hA84 61 (es rfl (es rfl (es rfl l61_54)))
          have l87_84 := lookE hA84 87 (et rfl)
          clear hA84 hsz54 hdf54 l1_54 l3_54 l5_54 l8_54 l9_54 l10_54 l11_54 l59_54 l60_54 l61_54 l84_54
          refine then_n (hK83 _ _ ?_)
          clear hK83
          refine cond_dec l87_84 (fun c85 => ?_) (fun c85 => ?_)
          · skip
            -- region 20
            refine region_in ?_
            refine W_v rfl rfl (V_asg rfl rfl) ?_
            refine W_end ?_
            refine gen_Q (fun A86 hA86 => ?_)
            have hsz86 : SzN A86 163 := by rw [hA86]; infer_instance
            have hdf86 : A86.defers = [] := by rw [hA86]; simp only [df_put]; exact hdf84
            have l1_86 := lookE hA86 1 (es rfl l1_84)
            have l3_86 := lookE hA86 3 (es rfl l3_84)
            have l5_86 := lookE hA86 5 (es rfl l5_84)
            have l8_86 := lookE hA86 8 (es rfl l8_84)
            have l9_86 := lookE hA86 9 (es rfl l9_84)
            have l10_86 := lookE hA86 10 (es rfl l10_84)
            have l11_86 := lookE hA86 11 (et rfl)
            have l59_86 := lookE hA86 59 (es rfl l59_84)
            have l60_86 := lookE hA86 60 (es rfl l60_84)
            have l61_86 := lookE hA86 61 (es rfl l61_84)
            clear hA86 hsz84 hdf84 l1_84 l3_84 l5_84 l8_84 l9_84 l10_84 l11_84 l59_84 l60_84 l61_84 l87_84
            refine then_n (hK82 _ _ ?_)
            clear hK82
            refine wp_seq_k (fun K87 hK87 => ?_)
            -- region 21
            refine region_monoS 23 23 [] (by kernel_rfl) (by kernel_rfl) ?_
            refine D_v rfl rfl (V_mov rfl l10_86) rfl rfl ?_
            refine D_v rfl rfl (V_neq rfl (et rfl) rfl) rfl rfl ?_
            refine D_sure (c' := false) rfl rfl (V_mov rfl (et rfl)) (by rw [decide_eq_false_iff_not]; rw [(ord_cm hg (hoT ▸ hy45) (hoT ▸ hy46)).1]; simp) rfl rfl ?_
            refine D_v rfl (wanted_t rfl rfl (et rfl) (ez rfl)) (V_mov rfl (es rfl (es rfl (es rfl l9_86)))) rfl rfl ?_
            refine D_v rfl (wanted_t rfl rfl (es rfl (et rfl)) (ez rfl)) (V_mov rfl (es rfl (es rfl (es rfl (es rfl l11_86))))) rfl rfl ?_
            refine D_v rfl (wanted_t rfl rfl (es rfl (es rfl (et rfl))) (ez rfl)) (V_neq rfl (es rfl (et rfl)) (et rfl)) rfl rfl ?_
            refine D_v rfl rfl (V_pickF rfl (es rfl (es rfl (es rfl (et rfl)))) (et rfl)) rfl rfl ?_
            refine D_sure (c' := false) rfl rfl (V_mov rfl (et rfl)) (by rw [decide_eq_false_iff_not]; rw [(ord_cm hg (hoT ▸ hy45) (hoT ▸ hy46)).2]; split <;> first | omega | (split <;> omega)) rfl rfl ?_
            refine D_v rfl (wanted_t rfl rfl (et rfl) (ez rfl)) (V_mov rfl (es rfl (es rfl (es rfl (es rfl (es rfl (es rfl (es rfl (es rfl l5_86))))))))) rfl rfl ?_
            refine D_v rfl (wanted_t rfl rfl (es rfl (et rfl)) (ez rfl)) (V_mov rfl (es rfl (es rfl (es rfl (es rfl (es rfl (es rfl (es rfl (es rfl (es rfl l8_86)))))))))) rfl rfl ?_
            refine D_v rfl (wanted_t rfl rfl (es rfl (es rfl (et rfl))) (ez rfl)) (V_neq rfl (es rfl (et rfl)) (et rfl)) rfl rfl ?_
            refine D_split rfl (wanted_t rfl rfl (es rfl (es rfl (es rfl (et rfl)))) (ez rfl)) (V_mov rfl (et rfl)) rfl rfl (fun c88 => ?_) (fun c88 => ?_)
            · skip
              refine D_v rfl (wanted_t rfl rfl (et rfl) (ez rfl)) (V_mov rfl (es rfl (es rfl (es rfl (es rfl (es rfl (es rfl (es rfl (es rfl (es rfl (es rfl (es rfl (es rfl l3_86))))))))))))) rfl rfl ?_
              refine D_v rfl (wanted_t rfl rfl (es rfl (et rfl)) (ez rfl)) (V_mov rfl (es rfl (es rfl (es rfl (es rfl (es rfl (es rfl (es rfl (es rfl (es rfl (es rfl (es rfl (es rfl (es rfl l5_86)))))))))))))) rfl rfl ?_
              refine D_v rfl (wanted_t rfl rfl (es rfl (es rfl (et rfl))) (ez rfl)) (V_ixS (off := O45 + i) 1 (i) rfl (es rfl (et rfl)) (et rfl) hv45 (by omega) k45 Tryd.underlying22 (by kernel_rfl) (congrArg _ (Nat.mul_one _))) rfl rfl ?_
              refine D_r rfl (wanted_t rfl rfl (es rfl (es rfl (es rfl (et rfl)))) (ez rfl)) (by kernel_rfl) (fun sx hx hF => (VR_ldC rfl (et rfl) ((ow_at ((hS48.grow hx).chq 0 rfl hc_38)).cell hv45 (map_get hy45)) Tryd.underlying3 rfl)) rfl rfl ?_
              refine D_v rfl (wanted_t rfl rfl (es rfl (es rfl (es rfl (es rfl (et rfl))))) (ez rfl)) (V_mov rfl (es rfl (es rfl (es rfl (es rfl (es rfl (es rfl (es rfl (es rfl (es rfl (es rfl (es rfl (es rfl (es rfl (es rfl (es rfl (es rfl l3_86))))))))))))))))) rfl rfl ?_
              refine D_v rfl (wanted_t rfl rfl (es rfl (es rfl (es rfl (es rfl (es rfl (et rfl)))))) (ez rfl)) (V_mov rfl (es rfl (es rfl (es rfl (es rfl (es rfl (es rfl (es rfl (es rfl (es rfl (es rfl (es rfl (es rfl (es rfl (es rfl (es rfl (es rfl (es rfl l8_86)))))))))))))))))) rfl rfl ?_
              refine D_v rfl (wanted_t rfl rfl (es rfl (es rfl (es rfl (es rfl (es rfl (es rfl (et rfl))))))) (ez rfl)) (V_ixS (off := O45 + k) 1 (k) rfl (es rfl (et rfl)) (et rfl) hv45 (by omega) k46 Tryd.underlying22 (by kernel_rfl) (congrArg _ (Nat.mul_one _))) rfl rfl ?_
              refine D_r rfl (wanted_t rfl rfl (es rfl (es rfl (es rfl (es rfl (es rfl (es rfl (es rfl (et rfl)))))))) (ez rfl)) (by kernel_rfl) (fun sx hx hF => (VR_ldC rfl (et rfl) ((ow_at ((hS48.grow hx).chq 0 rfl hc_38)).cell hv45 (map_get hy46)) Tryd.underlying3 rfl)) rfl rfl ?_
              refine D_v rfl (wanted_t rfl rfl (es rfl (es rfl (es rfl (es rfl (es rfl (es rfl (es rfl (es rfl (et rfl))))))))) (ez rfl)) (V_eql rfl (es rfl (es rfl (es rfl (es rfl (et rfl))))) (et rfl)) rfl rfl ?_
              refine D_v rfl (wanted_t rfl rfl (es rfl (es rfl (es rfl (es rfl (es rfl (es rfl (es rfl (es rfl (es rfl (es rfl (es rfl (es rfl (es rfl (et rfl)))))))))))))) (ez rfl)) (V_pickT rfl (es rfl (es rfl (es rfl (es rfl (es rfl (es rfl (es rfl (es rfl (es rfl (et rfl)))))))))) (et rfl)) rfl rfl ?_
              refine D_v rfl rfl (V_pickF rfl (es rfl (es rfl (es rfl (es rfl (es rfl (es rfl (es rfl (es rfl (es rfl (es rfl (es rfl (es rfl (es rfl (es rfl (et rfl))))))))))))))) (et rfl)) rfl rfl ?_
              refine ZS_none hS48 (Nat.le_refl _) (Nat.le_refl _) (fun s91 hJ91 hL91 hF91 => ?_)
              have hS91 := hJ91.st; clear hF91 hJ91 hL91
              generalize s91.1 = w91 at *
              replace hS91 : St w NoX [c_38, c2_38] w91 := hS91
              refine gen_Q (fun A92 hA92 => ?_)
              have hsz92 : SzN A92 163 := by rw [hA92]; infer_instance
              have hdf92 : A92.defers = [] := by rw [hA92]; simp only [df_put]; exact hdf86
              have l1_92 := lookE hA92 1 (es rfl (es rfl (es rfl (es rfl (es rfl (es rfl (es rfl (es rfl (es rfl (es rfl (es rfl (es rfl (es rfl (es rfl (es rfl (es rfl (es rfl (es rfl (es rfl (es rfl (es rfl (es rfl (es rfl l1_86)))))))))))))))))))))))
              have l3_92 := lookE hA92 3 (es rfl (es rfl (es rfl (es rfl (es rfl (es rfl (es rfl (es rfl (es rfl (es rfl (es rfl (es rfl (es rfl (es rfl (es rfl (es rfl (es rfl (es rfl (es rfl (es rfl (es rfl (es rfl (es rfl l3_86)))))))))))))))))))))))
              have l5_92 := lookE hA92 5 (es rfl (es rfl (es rfl (es rfl (es rfl (es rfl (es rfl (es rfl (es rfl (es rfl (es rfl (es rfl (es rfl (es rfl (es rfl (es rfl (es rfl (es rfl (es rfl (es rfl (es rfl (es rfl (es rfl l5_86)))))))))))))))))))))))
              have l8_92 := lookE hA92 8 (es rfl (es rfl (es rfl (es rfl (es rfl (es rfl (es rfl (es rfl (es rfl (es rfl (es rfl (es rfl (es rfl (es rfl (es rfl (es rfl (es rfl (es rfl (es rfl (es rfl (es rfl (es rfl (es rfl l8_86)))))))))))))))))))))))
              have l59_92 := lookE hA92 59 (es rfl (es rfl (es rfl (es rfl (es rfl (es rfl (es rfl (es rfl (es rfl (es rfl (es rfl (es rfl (es rfl (es rfl (es rfl (es rfl (es rfl (es rfl (es rfl (es rfl (es rfl (es rfl (es rfl l59_86)))))))))))))))))))))))
              have l60_92 := lookE hA92 60 (es rfl (es rfl (es rfl (es rfl (es rfl (es rfl (es rfl (es rfl (es rfl (es rfl (es rfl (es rfl (es rfl (es rfl (es rfl (es rfl (es rfl (es rfl (es rfl (es rfl (es rfl (es rfl (es rfl l60_86)))))))))))))))))))))))
              have l61_92 := lookE hA92 61 (es rfl (es rfl (es rfl (es rfl (es rfl (es rfl (es rfl (es rfl (es rfl (es rfl (es rfl (es rfl (es rfl (es rfl (es rfl (es rfl (es rfl (es rfl (es rfl (es rfl (es rfl (es rfl (es rfl l61_86)))))))))))))))))))))))
              have l91_92 := lookE hA92 91 (es rfl (es rfl (es rfl (es rfl (es rfl (es rfl (es rfl (es rfl (es rfl (es rfl (es rfl (es rfl (es rfl (es rfl (es rfl (es rfl (es rfl (es rfl (es rfl (et rfl))))))))))))))))))))
              have l92_92 := lookE hA92 92 (es rfl (es rfl (es rfl (es rfl (es rfl (es rfl (es rfl (es rfl (es rfl (es rfl (es rfl (es rfl (es rfl (es rfl (es rfl (es rfl (es rfl (es rfl (et rfl)))))))))))))))))))
              have l93_92 := lookE hA92 93 (es rfl (es rfl (es rfl (es rfl (es rfl (es rfl (es rfl (es rfl (es rfl (es rfl (es rfl (es rfl (es rfl (es rfl (es rfl (es rfl (es rfl (et rfl))))))))))))))))))
              have l96_92 := lookE hA92 96 (es rfl (es rfl (es rfl (es rfl (es rfl (es rfl (es rfl (es rfl (es rfl (es rfl (es rfl (es rfl (es rfl (es rfl (et rfl)))))))))))))))
              have l97_92 := lookE hA92 97 (es rfl (es rfl (es rfl (es rfl (es rfl (es rfl (es rfl (es rfl (es rfl (es rfl (es rfl (es rfl (es rfl (et rfl))))))))))))))
              have l98_92 := lookE hA92 98 (es rfl (es rfl (es rfl (es rfl (es rfl (es rfl (es rfl (es rfl (es rfl (es rfl (es rfl (es rfl (et rfl)))))))))))))
              have l99_92 := lookE hA92 99 (es rfl (es rfl (es rfl (es rfl (es rfl (es rfl (es rfl (es rfl (es rfl (es rfl (es rfl (et rfl))))))))))))
              have l100_92 := lookE hA92 100 (es rfl (es rfl (es rfl (es rfl (es rfl (es rfl (es rfl (es rfl (es rfl (es rfl (et rfl)))))))))))
              have l101_92 := lookE hA92 101 (es rfl (es rfl (es rfl (es rfl (es rfl (es rfl (es rfl (es rfl (es rfl (et rfl))))))))))
              have l102_92 := lookE hA92 102 (es rfl (es rfl (es rfl (es rfl (es rfl (es rfl (es rfl (es rfl (et rfl)))))))))
              have l103_92 := lookE hA92 103 (es rfl (es rfl (es rfl (es rfl (es rfl (es rfl (es rfl (et rfl))))))))
              have l104_92 := lookE hA92 104 (es rfl (es rfl (es rfl (es rfl (es rfl (es rfl (et rfl)))))))
              have l105_92 := lookE hA92 105 (es rfl (es rfl (es rfl (es rfl (es rfl (et rfl))))))
              have l106_92 := lookE hA92 106 (es rfl (es rfl (es rfl (es rfl (et rfl)))))
              have l107_92 := lookE hA92 107 (es rfl (es rfl (es rfl (et rfl))))
              have l108_92 := lookE hA92 108 (es rfl (es rfl (et rfl)))
              have l109_92 := lookE hA92 109 (es rfl (et rfl))
              have l110_92 := lookE hA92 110 (et rfl)
              clear hA92 hsz86 hdf86 l1_86 l3_86 l5_86 l8_86 l9_86 l10_86 l11_86 l59_86 l60_86 l61_86
              refine then_n (hK87 _ _ ?_)
              clear hK87
              refine cond_not l110_92 (by rw [decide_eq_false_iff_not]; exact ord_ne hg (hoT ▸ hy45) (hoT ▸ hy46) (by omega)) ?_
              refine wp_skip ?_
              refine inb_n ?_
              refine then_n (hK43 _ _ ?_)
              clear hK43
              -- region 14
              refine region_in ?_
              refine W_v rfl rfl (V_mov rfl l8_92) ?_
              refine W_v rfl rfl (V_add rfl (et rfl) rfl (by omega) (by omega)) ?_
              refine W_v rfl rfl (V_asg rfl (et rfl)) ?_
              refine W_end ?_
              refine gen_Q (fun A93 hA93 => ?_)
              have hsz93 : SzN A93 163 := by rw [hA93]; infer_instance
              have hdf93 : A93.defers = [] := by rw [hA93]; simp only [df_put]; exact hdf92
              have l1_93 := lookE hA93 1 (es rfl (es rfl (es rfl l1_92)))
              have l3_93 := lookE hA93 3 (es rfl (es rfl (es rfl l3_92)))
              have l5_93 := lookE hA93 5 (es rfl (es rfl (es rfl l5_92)))
              have l8_93 := lookE hA93 8 (et rfl)
              have l59_93 := lookE hA93 59 (es rfl (es rfl (es rfl l59_92)))
              have l60_93 := lookE hA93 60 (es rfl (es rfl (es rfl l60_92)))
              have l61_93 := lookE hA93 61 (es rfl (es rfl (es rfl l61_92)))
              have l91_93 := lookE hA93 91 (es rfl (es rfl (es rfl l91_92)))
              have l92_93 := lookE hA93 92 (es rfl (es rfl (es rfl l92_92)))
              have l93_93 := lookE hA93 93 (es rfl (es rfl (es rfl l93_92)))
              have l96_93 := lookE hA93 96 (es rfl (es rfl (es rfl l96_92)))
              have l97_93 := lookE hA93 97 (es rfl (es rfl (es rfl l97_92)))
              have l98_93 := lookE hA93 98 (es rfl (es rfl (es rfl l98_92)))
              have l99_93 := lookE hA93 99 (es rfl (es rfl (es rfl l99_92)))
              have l100_93 := lookE hA93 100 (es rfl (es rfl (es rfl l100_92)))
              have l101_93 := lookE hA93 101 (es rfl (es rfl (es rfl l101_92)))
              have l102_93 := lookE hA93 102 (es rfl (es rfl (es rfl l102_92)))
              have l103_93 := lookE hA93 103 (es rfl (es rfl (es rfl l103_92)))
              have l104_93 := lookE hA93 104 (es rfl (es rfl (es rfl l104_92)))
              have l105_93 := lookE hA93 105 (es rfl (es rfl (es rfl l105_92)))
              have l106_93 := lookE hA93 106 (es rfl (es rfl (es rfl l106_92)))
              have l107_93 := lookE hA93 107 (es rfl (es rfl (es rfl l107_92)))
              have l108_93 := lookE hA93 108 (es rfl (es rfl (es rfl l108_92)))
              have l109_93 := lookE hA93 109 (es rfl (es rfl (es rfl l109_92)))
              clear hA93 hsz92 hdf92 l1_92 l3_92 l5_92 l8_92 l59_92 l60_92 l61_92 l91_92 l92_92 l93_92 l96_92 l97_92 l98_92 l99_92 l100_92 l101_92 l102_92 l103_92 l104_92 l105_92 l106_92 l107_92 l108_92 l109_92 l110_92
              refine then_n ⟨(ordT lo yo).length - (k + 1), by simp only [hm38]; omega, hsz93, hdf93, (k + 1), rfl, (by omega), ((l8_93).trans (by first | rfl | (simp; done) | (congr 1; omega))), ((l1_93).trans l1_37.symm), ((l3_93).trans l3_37.symm), ((l5_93).trans l5_37.symm), ((l59_93).trans l59_37.symm), ((l60_93).trans l60_37.symm), ((l61_93).trans l61_37.symm), (by subst hc_38 hc2_38; exact hS91)⟩
            · skip
              refine D_off rfl (wanted_f rfl rfl (et rfl) (ez rfl) rfl) rfl ?_
              refine D_off rfl (wanted_f rfl rfl (es rfl (et rfl)) (ez rfl) rfl) rfl ?_
              refine D_off rfl (wanted_f rfl rfl (es rfl (es rfl (et rfl))) (ez rfl) rfl) rfl ?_
              refine D_off rfl (wanted_f rfl rfl (es rfl (es rfl (es rfl (et rfl)))) (ez rfl) rfl) rfl ?_
              refine D_off rfl (wanted_f rfl rfl (es rfl (es rfl (es rfl (es rfl (et rfl))))) (ez rfl) rfl) rfl ?_
              refine D_off rfl (wanted_f rfl rfl (es rfl (es rfl (es rfl (es rfl (es rfl (et rfl)))))) (ez rfl) rfl) rfl ?_
              refine D_off rfl (wanted_f rfl rfl (es rfl (es rfl (es rfl (es rfl (es rfl (es rfl (et rfl))))))) (ez rfl) rfl) rfl ?_
              refine D_off rfl (wanted_f rfl rfl (es rfl (es rfl (es rfl (es rfl (es rfl (es rfl (es rfl (et rfl)))))))) (ez rfl) rfl) rfl ?_
              refine D_off rfl (wanted_f rfl rfl (es rfl (es rfl (es rfl (es rfl (es rfl (es rfl (es rfl (es rfl (et rfl))))))))) (ez rfl) rfl) rfl ?_
              refine D_v rfl (wanted_t rfl rfl (es rfl (es rfl (es rfl (es rfl (es rfl (es rfl (es rfl (es rfl (es rfl (es rfl (es rfl (es rfl (es rfl (et rfl)))))))))))))) (ez rfl)) (V_pickF rfl (es rfl (es rfl (es rfl (es rfl (es rfl (es rfl (es rfl (es rfl (es rfl (et rfl)))))))))) rfl) rfl rfl ?_
              refine D_v rfl rfl (V_pickF rfl (es rfl (es rfl (es rfl (es rfl (es rfl (es rfl (es rfl (es rfl (es rfl (es rfl (es rfl (es rfl (es rfl (es rfl (et rfl))))))))))))))) (et rfl)) rfl rfl ?_
              refine ZS_none hS48 (Nat.le_refl _) (Nat.le_refl _) (fun s94 hJ94 hL94 hF94 => ?_)
              have hS94 := hJ94.st; clear hF94 hJ94 hL94
              generalize s94.1 = w94 at *
              replace hS94 : St w NoX [c_38, c2_38] w94 := hS94
              refine gen_Q (fun A95 hA95 => ?_)
              have hsz95 : SzN A95 163 := by rw [hA95]; infer_instance
              have hdf95 : A95.defers = [] := by rw [hA95]; simp only [df_put]; exact hdf86
              have l1_95 := lookE hA95 1 (es rfl (es rfl (es rfl (es rfl (es rfl (es rfl (es rfl (es rfl (es rfl (es rfl (es rfl (es rfl (es rfl (es rfl (es rfl (es rfl (es rfl (es rfl (es rfl (es rfl (es rfl (es rfl (es rfl l1_86)))))))))))))))))))))))
              have l3_95 := lookE hA95 3 (es rfl (es rfl (es rfl (es rfl (es rfl (es rfl (es rfl (es rfl (es rfl (es rfl (es rfl (es rfl (es rfl (es rfl (es rfl (es rfl (es rfl (es rfl (es rfl (es rfl (es rfl (es rfl (es rfl l3_86)))))))))))))))))))))))
              have l5_95 := lookE hA95 5 (es rfl (es rfl (es rfl (es rfl (es rfl (es rfl (es rfl (es rfl (es rfl (es rfl (es rfl (es rfl (es rfl (es rfl (es rfl (es rfl (es rfl (es rfl (es rfl (es rfl (es rfl (es rfl (es rfl l5_86)))))))))))))))))))))))
              have l8_95 := lookE hA95 8 (es rfl (es rfl (es rfl (es rfl (es rfl (es rfl (es rfl (es rfl (es rfl (es rfl (es rfl (es rfl (es rfl (es rfl (es rfl (es rfl (es rfl (es rfl (es rfl (es rfl (es rfl (es rfl (es rfl l8_86)))))))))))))))))))))))
              have l59_95 := lookE hA95 59 (es rfl (es rfl (es rfl (es rfl (es rfl (es rfl (es rfl (es rfl (es rfl (es rfl (es rfl (es rfl (es rfl (es rfl (es rfl (es rfl (es rfl (es rfl (es rfl (es rfl (es rfl (es rfl (es rfl l59_86)))))))))))))))))))))))
              have l60_95 := lookE hA95 60 (es rfl (es rfl (es rfl (es rfl (es rfl (es rfl (es rfl (es rfl (es rfl (es rfl (es rfl (es rfl (es rfl (es rfl (es rfl (es rfl (es rfl (es rfl (es rfl (es rfl (es rfl (es rfl (es rfl l60_86)))))))))))))))))))))))
              have l61_95 := lookE hA95 61 (es rfl (es rfl (es rfl (es rfl (es rfl (es rfl (es rfl (es rfl (es rfl (es rfl (es rfl (es rfl (es rfl (es rfl (es rfl (es rfl (es rfl (es rfl (es rfl (es rfl (es rfl (es rfl (es rfl l61_86)))))))))))))))))))))))
              have l91_95 := lookE hA95 91 (es rfl (es rfl (es rfl (es rfl (es rfl (es rfl (es rfl (es rfl (es rfl (es rfl (es rfl (es rfl (es rfl (es rfl (es rfl (es rfl (es rfl (es rfl (es rfl (et rfl))))))))))))))))))))
              have l92_95 := lookE hA95 92 (es rfl (es rfl (es rfl (es rfl (es rfl (es rfl (es rfl (es rfl (es rfl (es rfl (es rfl (es rfl (es rfl (es rfl (es rfl (es rfl (es rfl (es rfl (et rfl)))))))))))))))))))
              have l93_95 := lookE hA95 93 (es rfl (es rfl (es rfl (es rfl (es rfl (es rfl (es rfl (es rfl (es rfl (es rfl (es rfl (es rfl (es rfl (es rfl (es rfl (es rfl (es rfl (et rfl))))))))))))))))))
              have l96_95 := lookE hA95 96 (es rfl (es rfl (es rfl (es rfl (es rfl (es rfl (es rfl (es rfl (es rfl (es rfl (es rfl (es rfl (es rfl (es rfl (et rfl)))))))))))))))
              have l97_95 := lookE hA95 97 (es rfl (es rfl (es rfl (es rfl (es rfl (es rfl (es rfl (es rfl (es rfl (es rfl (es rfl (es rfl (es rfl (et rfl))))))))))))))
              have l98_95 := lookE hA95 98 (es rfl (es rfl (es rfl (es rfl (es rfl (es rfl (es rfl (es rfl (es rfl (es rfl (es rfl (es rfl (et rfl)))))))))))))
              have l99_95 := lookE hA95 99 (es rfl (es rfl (es rfl (es rfl (es rfl (es rfl (es rfl (es rfl (es rfl (es rfl (es rfl (et rfl))))))))))))
              have l100_95 := lookE hA95 100 (es rfl (es rfl (es rfl (es rfl (es rfl (es rfl (es rfl (es rfl (es rfl (es rfl (et rfl)))))))))))
              have l101_95 := lookE hA95 101 (es rfl (es rfl (es rfl (es rfl (es rfl (es rfl (es rfl (es rfl (es rfl (et rfl))))))))))
              have l102_95 := lookE hA95 102 (es rfl (es rfl (es rfl (es rfl (es rfl (es rfl (es rfl (es rfl (et rfl)))))))))
              have l103_95 := lookE hA95 103 (es rfl (es rfl (es rfl (es rfl (es rfl (es rfl (es rfl (et rfl))))))))
              have l104_95 := lookE hA95 104 (es rfl (es rfl (es rfl (es rfl (es rfl (es rfl (et rfl)))))))
              have l105_95 := lookE hA95 105 (es rfl (es rfl (es rfl (es rfl (es rfl (et rfl))))))
              have l106_95 := lookE hA95 106 (es rfl (es rfl (es rfl (es rfl (et rfl)))))
              have l107_95 := lookE hA95 107 (es rfl (es rfl (es rfl (et rfl))))
              have l108_95 := lookE hA95 108 (es rfl (es rfl (et rfl)))
              have l109_95 := lookE hA95 109 (es rfl (et rfl))
              have l110_95 := lookE hA95 110 (et rfl)
              clear hA95 hsz86 hdf86 l1_86 l3_86 l5_86 l8_86 l9_86 l10_86 l11_86 l59_86 l60_86 l61_86
              refine then_n (hK87 _ _ ?_)
              clear hK87
              refine cond_f l110_95 ?_
              refine wp_skip ?_
              refine inb_n ?_
              refine then_n (hK43 _ _ ?_)
              clear hK43
              -- region 14
              refine region_in ?_
              refine W_v rfl rfl (V_mov rfl l8_95) ?_
              refine W_v rfl rfl (V_add rfl (et rfl) rfl (by omega) (by omega)) ?_
              refine W_v rfl rfl (V_asg rfl (et rfl)) ?_
              refine W_end ?_
              refine gen_Q (fun A96 hA96 => ?_)
              have hsz96 : SzN A96 163 := by rw [hA96]; infer_instance
              have hdf96 : A96.defers = [] := by rw [hA96]; simp only [df_put]; exact hdf95
              have l1_96 := lookE hA96 1 (es rfl (es rfl (es rfl l1_95)))
              have l3_96 := lookE hA96 3 (es rfl (es rfl (es rfl l3_95)))
              have l5_96 := lookE hA96 5 (es rfl (es rfl (es rfl l5_95)))
              have l8_96 := lookE hA96 8 (et rfl)
              have l59_96 := lookE hA96 59 (es rfl (es rfl (es rfl l59_95)))
              have l60_96 := lookE hA96 60 (es rfl (es rfl (es rfl l60_95)))
              have l61_96 := lookE hA96 61 (es rfl (es rfl (es rfl l61_95)))
              have l91_96 := lookE hA96 91 (es rfl (es rfl (es rfl l91_95)))
              have l92_96 := lookE hA96 92 (es rfl (es rfl (es rfl l92_95)))
              have l93_96 := lookE hA96 93 (es rfl (es rfl (es rfl l93_95)))
              have l96_96 := lookE hA96 96 (es rfl (es rfl (es rfl l96_95)))
              have l97_96 := lookE hA96 97 (es rfl (es rfl (es rfl l97_95)))
              have l98_96 := lookE hA96 98 (es rfl (es rfl (es rfl l98_95)))
              have l99_96 := lookE hA96 99 (es rfl (es rfl (es rfl l99_95)))
              have l100_96 := lookE hA96 100 (es rfl (es rfl (es rfl l100_95)))
              have l101_96 := lookE hA96 101 (es rfl (es rfl (es rfl l101_95)))
              have l102_96 := lookE hA96 102 (es rfl (es rfl (es rfl l102_95)))
              have l103_96 := lookE hA96 103 (es rfl (es rfl (es rfl l103_95)))
              have l104_96 := lookE hA96 104 (es rfl (es rfl (es rfl l104_95)))
              have l105_96 := lookE hA96 105 (es rfl (es rfl (es rfl l105_95)))
              have l106_96 := lookE hA96 106 (es rfl (es rfl (es rfl l106_95)))
              have l107_96 := lookE hA96 107 (es rfl (es rfl (es rfl l107_95)))
              have l108_96 := lookE hA96 108 (es rfl (es rfl (es rfl l108_95)))
              have l109_96 := lookE hA96 109 (es rfl (es rfl (es rfl l109_95)))
              clear hA96 hsz95 hdf95 l1_95 l3_95 l5_95 l8_95 l59_95 l60_95 l61_95 l91_95 l92_95 l93_95 l96_95 l97_95 l98_95 l99_95 l100_95 l101_95 l102_95 l103_95 l104_95 l105_95 l106_95 l107_95 l108_95 l109_95 l110_95
              refine then_n ⟨(ordT lo yo).length - (k + 1), by simp only [hm38]; omega, hsz96, hdf96, (k + 1), rfl, (by omega), ((l8_96).trans (by first | rfl | (simp; done) | (congr 1; omega))), ((l1_96).trans l1_37.symm), ((l3_96).trans l3_37.symm), ((l5_96).trans l5_37.symm), ((l59_96).trans l59_37.symm), ((l60_96).trans l60_37.symm), ((l61_96).trans l61_37.symm), (by subst hc_38 hc2_38; exact hS94)⟩
          · skip
            refine wp_skip ?_
            refine then_n (hK82 _ _ ?_)
            clear hK82
            refine wp_seq_k (fun K97 hK97 => ?_)
            -- region 21
            refine region_monoS 23 23 [] (by kernel_rfl) (by kernel_rfl) ?_
            refine D_v rfl rfl (V_mov rfl l10_84) rfl rfl ?_
            refine D_v rfl rfl (V_neq rfl (et rfl) rfl) rfl rfl ?_
            refine D_sure (c' := false) rfl rfl (V_mov rfl (et rfl)) (by rw [decide_eq_false_iff_not]; rw [(ord_cm hg (hoT ▸ hy45) (hoT ▸ hy46)).1]; simp) rfl rfl ?_
            refine D_v rfl (wanted_t rfl rfl (et rfl) (ez rfl)) (V_mov rfl (es rfl (es rfl (es rfl l9_84)))) rfl rfl ?_
            refine D_v rfl (wanted_t rfl rfl (es rfl (et rfl)) (ez rfl)) (V_mov rfl (es rfl (es rfl (es rfl (es rfl l11_84))))) rfl rfl ?_
            refine D_v rfl (wanted_t rfl rfl (es rfl (es rfl (et rfl))) (ez rfl)) (V_neq rfl (es rfl (et rfl)) (et rfl)) rfl rfl ?_
            refine D_v rfl rfl (V_pickF rfl (es rfl (es rfl (es rfl (et rfl)))) (et rfl)) rfl rfl ?_
            refine D_sure (c' := false) rfl rfl (V_mov rfl (et rfl)) (by rw [decide_eq_false_iff_not]; rw [(ord_cm hg (hoT ▸ hy45) (hoT ▸ hy46)).2]; split <;> first | omega | (split <;> omega)) rfl rfl ?_
            refine D_v rfl (wanted_t rfl rfl (et rfl) (ez rfl)) (V_mov rfl (es rfl (es rfl (es rfl (es rfl (es rfl (es rfl (es rfl (es rfl l5_84))))))))) rfl rfl ?_
            refine D_v rfl (wanted_t rfl rfl (es rfl (et rfl)) (ez rfl)) (V_mov rfl (es rfl (es rfl (es rfl (es rfl (es rfl (es rfl (es rfl (es rfl (es rfl l8_84)))))))))) rfl rfl ?_
            refine D_v rfl (wanted_t rfl rfl (es rfl (es rfl (et rfl))) (ez rfl)) (V_neq rfl (es rfl (et rfl)) (et rfl)) rfl rfl ?_
            refine D_split rfl (wanted_t rfl rfl (es rfl (es rfl (es rfl (et rfl)))) (ez rfl)) (V_mov rfl (et rfl)) rfl rfl (fun c98 => ?_) (fun c98 => ?_)
            · skip
              refine D_v rfl (wanted_t rfl rfl (et rfl) (ez rfl)) (V_mov rfl (es rfl (es rfl (es rfl (es rfl (es rfl (es rfl (es rfl (es rfl (es rfl (es rfl (es rfl (es rfl l3_84))))))))))))) rfl rfl ?_
              refine D_v rfl (wanted_t rfl rfl (es rfl (et rfl)) (ez rfl)) (V_mov rfl (es rfl (es rfl (es rfl (es rfl (es rfl (es rfl (es rfl (es rfl (es rfl (es rfl (es rfl (es rfl (es rfl l5_84)))))))))))))) rfl rfl ?_
              refine D_v rfl (wanted_t rfl rfl (es rfl (es rfl (et rfl))) (ez rfl)) (V_ixS (off := O45 + i) 1 (i) rfl (es rfl (et rfl)) (et rfl) hv45 (by omega) k45 Tryd.underlying22 (by kernel_rfl) (congrArg _ (Nat.mul_one _))) rfl rfl ?_
              refine D_r rfl (wanted_t rfl rfl (es rfl (es rfl (es rfl (et rfl)))) (ez rfl)) (by kernel_rfl) (fun sx hx hF => (VR_ldC rfl (et rfl) ((ow_at ((hS48.grow hx).chq 0 rfl hc_38)).cell hv45 (map_get hy45)) Tryd.underlying3 rfl)) rfl rfl ?_
              refine D_v rfl (wanted_t rfl rfl (es rfl (es rfl (es rfl (es rfl (et rfl))))) (ez rfl)) (V_mov rfl (es rfl (es rfl (es rfl (es rfl (es rfl (es rfl (es rfl (es rfl (es rfl (es rfl (es rfl (es rfl (es rfl (es rfl (es rfl (es rfl l3_84))))))))))))))))) rfl rfl ?_
              refine D_v rfl (wanted_t rfl rfl (es rfl (es rfl (es rfl (es rfl (es rfl (et rfl)))))) (ez rfl)) (V_mov rfl (es rfl (es rfl (es rfl (es rfl (es rfl (es rfl (es rfl (es rfl (es rfl (es rfl (es rfl (es rfl (es rfl (es rfl (es rfl (es rfl (es rfl l8_84)))))))))))))))))) rfl rfl ?_
              refine D_v rfl (wanted_t rfl rfl (es rfl (es rfl (es rfl (es rfl (es rfl (es rfl (et rfl))))))) (ez rfl)) (V_ixS (off := O45 + k) 1 (k) rfl (es rfl (et rfl)) (et rfl) hv45 (by omega) k46 Tryd.underlying22 (by kernel_rfl) (congrArg _ (Nat.mul_one _))) rfl rfl ?_
              refine D_r rfl (wanted_t rfl rfl (es rfl (es rfl (es rfl (es rfl (es rfl (es rfl (es rfl (et rfl)))))))) (ez rfl)) (by kernel_rfl) (fun sx hx hF => (VR_ldC rfl (et rfl) ((ow_at ((hS48.grow hx).chq 0 rfl hc_38)).cell hv45 (map_get hy46)) Tryd.underlying3 rfl)) rfl rfl ?_
              refine D_v rfl (wanted_t rfl rfl (es rfl (es rfl (es rfl (es rfl (es rfl (es rfl (es rfl (es rfl (et rfl))))))))) (ez rfl)) (V_eql rfl (es rfl (es rfl (es rfl (es rfl (et rfl))))) (et rfl)) rfl rfl ?_
              refine D_v rfl (wanted_t rfl rfl (es rfl (es rfl (es rfl (es rfl (es rfl (es rfl (es rfl (es rfl (es rfl (es rfl (es rfl (es rfl (es rfl (et rfl)))))))))))))) (ez rfl)) (V_pickT rfl (es rfl (es rfl (es rfl (es rfl (es rfl (es rfl (es rfl (es rfl (es rfl (et rfl)))))))))) (et rfl)) rfl rfl ?_
              refine D_v rfl rfl (V_pickF rfl (es rfl (es rfl (es rfl (es rfl (es rfl (es rfl (es rfl (es rfl (es rfl (es rfl (es rfl (es rfl (es rfl (es rfl (et rfl))))))))))))))) (et rfl)) rfl rfl ?_
              refine ZS_none hS48 (Nat.le_refl _) (Nat.le_refl _) (fun s101 hJ101 hL101 hF101 => ?_)
              have hS101 := hJ101.st; clear hF101 hJ101 hL101
              generalize s101.1 = w101 at *
              replace hS101 : St w NoX [c_38, c2_38] w101 := hS101
              refine gen_Q (fun A102 hA102 => ?_)
              have hsz102 : SzN A102 163 := by rw [hA102]; infer_instance
              have hdf102 : A102.defers = [] := by rw [hA102]; simp only [df_put]; exact hdf84
              have l1_102 := lookE hA102 1 (es rfl (es rfl (es rfl (es rfl (es rfl (es rfl (es rfl (es rfl (es rfl (es rfl (es rfl (es rfl (es rfl (es rfl (es rfl (es rfl (es rfl (es rfl (es rfl (es rfl (es rfl (es rfl (es rfl l1_84)))))))))))))))))))))))
              have l3_102 := lookE hA102 3 (es rfl (es rfl (es rfl (es rfl (es rfl (es rfl (es rfl (es rfl (es rfl (es rfl (es rfl (es rfl (es rfl (es rfl (es rfl (es rfl (es rfl (es rfl (es rfl (es rfl (es rfl (es rfl (es rfl l3_84)))))))))))))))))))))))
              have l5_102 := lookE hA102 5 (es rfl (es rfl (es rfl (es rfl (es rfl (es rfl (es rfl (es rfl (es rfl (es rfl (es rfl (es rfl (es rfl (es rfl (es rfl (es rfl (es rfl (es rfl (es rfl (es rfl (es rfl (es rfl (es rfl l5_84)))))))))))))))))))))))
              have l8_102 := lookE hA102 8 (es rfl (es rfl (es rfl (es rfl (es rfl (es rfl (es rfl (es rfl (es rfl (es rfl (es rfl (es rfl (es rfl (es rfl (es rfl (es rfl (es rfl (es rfl (es rfl (es rfl (es rfl (es rfl (es rfl l8_84)))))))))))))))))))))))
              have l59_102 := lookE hA102 59 (es rfl (es rfl (es rfl (es rfl (es rfl (es rfl (es rfl (es rfl (es rfl (es rfl (es rfl (es rfl (es rfl (es rfl (es rfl (es rfl (es rfl (es rfl (es rfl (es rfl (es rfl (es rfl (es rfl l59_84)))))))))))))))))))))))
              have l60_102 := lookE hA102 60 (es rfl (es rfl (es rfl (es rfl (es rfl (es rfl (es rfl (es rfl (es rfl (es rfl (es rfl (es rfl (es rfl (es rfl (es rfl (es rfl (es rfl (es rfl (es rfl (es rfl (es rfl (es rfl (es rfl l60_84)))))))))))))))))))))))
              have l61_102 := lookE hA102 61 (es rfl (es rfl (es rfl (es rfl (es rfl (es rfl (es rfl (es rfl (es rfl (es rfl (es rfl (es rfl (es rfl (es rfl (es rfl (es rfl (es rfl (es rfl (es rfl (es rfl (es rfl (es rfl (es rfl l61_84)))))))))))))))))))))))
              have l91_102 := lookE hA102 91 (es rfl (es rfl (es rfl (es rfl (es rfl (es rfl (es rfl (es rfl (es rfl (es rfl (es rfl (es rfl (es rfl (es rfl (es rfl (es rfl (es rfl (es rfl (es rfl (et rfl))))))))))))))))))))
              have l92_102 := lookE hA102 92 (es rfl (es rfl (es rfl (es rfl (es rfl (es rfl (es rfl (es rfl (es rfl (es rfl (es rfl (es rfl (es rfl (es rfl (es rfl (es rfl (es rfl (es rfl (et rfl)))))))))))))))))))
              have l93_102 := lookE hA102 93 (es rfl (es rfl (es rfl (es rfl (es rfl (es rfl (es rfl (es rfl (es rfl (es rfl (es rfl (es rfl (es rfl (es rfl (es rfl (es rfl (es rfl (et rfl))))))))))))))))))
              have l96_102 := lookE hA102 96 (es rfl (es rfl (es rfl (es rfl (es rfl (es rfl (es rfl (es rfl (es rfl (es rfl (es rfl (es rfl (es rfl (es rfl (et rfl)))))))))))))))
              have l97_102 := lookE hA102 97 (es rfl (es rfl (es rfl (es rfl (es rfl (es rfl (es rfl (es rfl (es rfl (es rfl (es rfl (es rfl (es rfl (et rfl))))))))))))))
              have l98_102 := lookE hA102 98 (es rfl (es rfl (es rfl (es rfl (es rfl (es rfl (es rfl (es rfl (es rfl (es rfl (es rfl (es rfl (et rfl)))))))))))))
              have l99_102 := lookE hA102 99 (es rfl (es rfl (es rfl (es rfl (es rfl (es rfl (es rfl (es rfl (es rfl (es rfl (es rfl (et rfl))))))))))))
              have l100_102 := lookE hA102 100 (es rfl (es rfl (es rfl (es rfl (es rfl (es rfl (es rfl (es rfl (es rfl (es rfl (et rfl)))))))))))
              have l101_102 := lookE hA102 101 (es rfl (es rfl (es rfl (es rfl (es rfl (es rfl (es rfl (es rfl (es rfl (et rfl))))))))))
              have l102_102 := lookE hA102 102 (es rfl (es rfl (es rfl (es rfl (es rfl (es rfl (es rfl (es rfl (et rfl)))))))))
              have l103_102 := lookE hA102 103 (es rfl (es rfl (es rfl (es rfl (es rfl (es rfl (es rfl (et rfl))))))))
              have l104_102 := lookE hA102 104 (es rfl (es rfl (es rfl (es rfl (es rfl (es rfl (et rfl)))))))
              have l105_102 := lookE hA102 105 (es rfl (es rfl (es rfl (es rfl (es rfl (et rfl))))))
              have l106_102 := lookE hA102 106 (es rfl (es rfl (es rfl (es rfl (et rfl)))))
              have l107_102 := lookE hA102 107 (es rfl (es rfl (es rfl (et rfl))))
              have l108_102 := lookE hA102 108 (es rfl (es rfl (et rfl)))
              have l109_102 := lookE hA102 109 (es rfl (et rfl))
              have l110_102 := lookE hA102 110 (et rfl)
              clear hA102 hsz84 hdf84 l1_84 l3_84 l5_84 l8_84 l9_84 l10_84 l11_84 l59_84 l60_84 l61_84 l87_84
              refine then_n (hK97 _ _ ?_)
              clear hK97
              refine cond_not l110_102 (by rw [decide_eq_false_iff_not]; exact ord_ne hg (hoT ▸ hy45) (hoT ▸ hy46) (by omega)) ?_
              refine wp_skip ?_
              refine inb_n ?_
              refine then_n (hK43 _ _ ?_)
              clear hK43
              -- region 14
              refine region_in ?_
              refine W_v rfl rfl (V_mov rfl l8_102) ?_
              refine W_v rfl rfl (V_add rfl (et rfl) rfl (by omega) (by omega)) ?_
              refine W_v rfl rfl (V_asg rfl (et rfl)) ?_
              refine W_end ?_
              refine gen_Q (fun A103 hA103 => ?_)
              have hsz103 : SzN A103 163 := by rw [hA103]; infer_instance
              have hdf103 : A103.defers = [] := by rw [hA103]; simp only [df_put]; exact hdf102
              have l1_103 := lookE hA103 1 (es rfl (es rfl (es rfl l1_102)))
              have l3_103 := lookE hA103 3 (es rfl (es rfl (es rfl l3_102)))
              have l5_103 := lookE hA103 5 (es rfl (es rfl (es rfl l5_102)))
              have l8_103 := lookE hA103 8 (et rfl)
              have l59_103 := lookE hA103 59 (es rfl (es rfl (es rfl l59_102)))
              have l60_103 := lookE hA103 60 (es rfl (es rfl (es rfl l60_102)))
              have l61_103 := lookE hA103 61 (es rfl (es rfl (es rfl l61_102)))
              have l91_103 := lookE hA103 91 (es rfl (es rfl (es rfl l91_102)))
              have l92_103 := lookE hA103 92 (es rfl (es rfl (es rfl l92_102)))
              have l93_103 := lookE hA103 93 (es rfl (es rfl (es rfl l93_102)))
              have l96_103 := lookE hA103 96 (es rfl (es rfl (es rfl l96_102)))
              have l97_103 := lookE hA103 97 (es rfl (es rfl (es rfl l97_102)))
              have l98_103 := lookE hA103 98 (es rfl (es rfl (es rfl l98_102)))
              have l99_103 := lookE hA103 99 (es rfl (es rfl (es rfl l99_102)))
              have l100_103 := lookE hA103 100 (es rfl (es rfl (es rfl l100_102)))
              have l101_103 := lookE hA103 101 (es rfl (es rfl (es rfl l101_102)))
              have l102_103 := lookE hA103 102 (es rfl (es rfl (es rfl l102_102)))
              have l103_103 := lookE hA103 103 (es rfl (es rfl (es rfl l103_102)))
              have l104_103 := lookE hA103 104 (es rfl (es rfl (es rfl l104_102)))
              have l105_103 := lookE hA103 105 (es rfl (es rfl (es rfl l105_102)))
              have l106_103 := lookE hA103 106 (es rfl (es rfl (es rfl l106_102)))
              have l107_103 := lookE hA103 107 (es rfl (es rfl (es rfl l107_102)))
              have l108_103 := lookE hA103 108 (es rfl (es rfl (es rfl l108_102)))
              have l109_103 := lookE hA103 109 (es rfl (es rfl (es rfl l109_102)))
              clear hA103 hsz102 hdf102 l1_102 l3_102 l5_102 l8_102 l59_102 l60_102 l61_102 l91_102 l92_102 l93_102 l96_102 l97_102 l98_102 l99_102 l100_102 l101_102 l102_102 l103_102 l104_102 l105_102 l106_102 l107_102 l108_102 l109_102 l110_102
              refine then_n ⟨(ordT lo yo).length - (k + 1), by simp only [hm38]; omega, hsz103, hdf103, (k + 1), rfl, (by omega), ((l8_103).trans (by first | rfl | (simp; done) | (congr 1; omega))), ((l1_103).trans l1_37.symm), ((l3_103).trans l3_37.symm), ((l5_103).trans l5_37.symm), ((l59_103).trans l59_37.symm), ((l60_103).trans l60_37.symm), ((l61_103).trans l61_37.symm), (by subst hc_38 hc2_38; exact hS101)⟩
            · skip
              refine D_off rfl (wanted_f rfl rfl (et rfl) (ez rfl) rfl) rfl ?_
              refine D_off rfl (wanted_f rfl rfl (es rfl (et rfl)) (ez rfl) rfl) rfl ?_
              refine D_off rfl (wanted_f rfl rfl (es rfl (es rfl (et rfl))) (ez rfl) rfl) rfl ?_
              refine D_off rfl (wanted_f rfl rfl (es rfl (es rfl (es rfl (et rfl)))) (ez rfl) rfl) rfl ?_
              refine D_off rfl (wanted_f rfl rfl (es rfl (es rfl (es rfl (es rfl (et rfl))))) (ez rfl) rfl) rfl ?_
              refine D_off rfl (wanted_f rfl rfl (es rfl (es rfl (es rfl (es rfl (es rfl (et rfl)))))) (ez rfl) rfl) rfl ?_
              refine D_off rfl (wanted_f rfl rfl (es rfl (es rfl (es rfl (es rfl (es rfl (es rfl (et rfl))))))) (ez rfl) rfl) rfl ?_
              refine D_off rfl (wanted_f rfl rfl (es rfl (es rfl (es rfl (es rfl (es rfl (es rfl (es rfl (et rfl)))))))) (ez rfl) rfl) rfl ?_
              refine D_off rfl (wanted_f rfl rfl (es rfl (es rfl (es rfl (es rfl (es rfl (es rfl (es rfl (es rfl (et rfl))))))))) (ez rfl) rfl) rfl ?_
              refine D_v rfl (wanted_t rfl rfl (es rfl (es rfl (es rfl (es rfl (es rfl (es rfl (es rfl (es rfl (es rfl (es rfl (es rfl (es rfl (es rfl (et rfl)))))))))))))) (ez rfl)) (V_pickF rfl (es rfl (es rfl (es rfl (es rfl (es rfl (es rfl (es rfl (es rfl (es rfl (et rfl)))))))))) rfl) rfl rfl ?_
              refine D_v rfl rfl (V_pickF rfl (es rfl (es rfl (es rfl (es rfl (es rfl (es rfl (es rfl (es rfl (es rfl (es rfl (es rfl (es rfl (es rfl (es rfl (et rfl))))))))))))))) (et rfl)) rfl rfl ?_
              refine ZS_none hS48 (Nat.le_refl _) (Nat.le_refl _) (fun s104 hJ104 hL104 hF104 => ?_)
              have hS104 := hJ104.st; clear hF104 hJ104 hL104
              generalize s104.1 = w104 at *
              replace hS104 : St w NoX [c_38, c2_38] w104 := hS104
              refine gen_Q (fun A105 hA105 => ?_)
              have hsz105 : SzN A105 163 := by rw [hA105]; infer_instance
              have hdf105 : A105.defers = [] := by rw [hA105]; simp only [df_put]; exact hdf84
              have l1_105 := lookE hA105 1 (es rfl (es rfl (es rfl (es rfl (es rfl (es rfl (es rfl (es rfl (es rfl (es rfl (es rfl (es rfl (es rfl (es rfl (es rfl (es rfl (es rfl (es rfl (es rfl (es rfl (es rfl (es rfl (es rfl l1_84)))))))))))))))))))))))
              have l3_105 := lookE hA105 3 (es rfl (es rfl (es rfl (es rfl (es rfl (es rfl (es rfl (es rfl (es rfl (es rfl (es rfl (es rfl (es rfl (es rfl (es rfl (es rfl (es rfl (es rfl (es rfl (es rfl (es rfl (es rfl (es rfl l3_84)))))))))))))))))))))))
              have l5_105 := lookE hA105 5 (es rfl (es rfl (es rfl (es rfl (es rfl (es rfl (es rfl (es rfl (es rfl (es rfl (es rfl (es rfl (es rfl (es rfl (es rfl (es rfl (es rfl (es rfl (es rfl (es rfl (es rfl (es rfl (es rfl l5_84)))))))))))))))))))))))
              have l8_105 := lookE hA105 8 (es rfl (es rfl (es rfl (es rfl (es rfl (es rfl (es rfl (es rfl (es rfl (es rfl (es rfl (es rfl (es rfl (es rfl (es rfl (es rfl (es rfl (es rfl (es rfl (es rfl (es rfl (es rfl (es rfl l8_84)))))))))))))))))))))))
              have l59_105 := lookE hA105 59 (es rfl (es rfl (es rfl (es rfl (es rfl (es rfl (es rfl (es rfl (es rfl (es rfl (es rfl (es rfl (es rfl (es rfl (es rfl (es rfl (es rfl (es rfl (es rfl (es rfl (es rfl (es rfl (es rfl l59_84)))))))))))))))))))))))
              have l60_105 := lookE hA105 60 (es rfl (es rfl (es rfl (es rfl (es rfl (es rfl (es rfl (es rfl (es rfl (es rfl (es rfl (es rfl (es rfl (es rfl (es rfl (es rfl (es rfl (es rfl (es rfl (es rfl (es rfl (es rfl (es rfl l60_84)))))))))))))))))))))))
              have l61_105 := lookE hA105 61 (es rfl (es rfl (es rfl (es rfl (es rfl (es rfl (es rfl (es rfl (es rfl (es rfl (es rfl (es rfl (es rfl (es rfl (es rfl (es rfl (es rfl (es rfl (es rfl (es rfl (es rfl (es rfl (es rfl l61_84)))))))))))))))))))))))
              have l91_105 := lookE hA105 91 (es rfl (es rfl (es rfl (es rfl (es rfl (es rfl (es rfl (es rfl (es rfl (es rfl (es rfl (es rfl (es rfl (es rfl (es rfl (es rfl (es rfl (es rfl (es rfl (et rfl))))))))))))))))))))
              have l92_105 := lookE hA105 92 (es rfl (es rfl (es rfl (es rfl (es rfl (es rfl (es rfl (es rfl (es rfl (es rfl (es rfl (es rfl (es rfl (es rfl (es rfl (es rfl (es rfl (es rfl (et rfl)))))))))))))))))))
              have l93_105 := lookE hA105 93 (es rfl (es rfl (es rfl (es rfl (es rfl (es rfl (es rfl (es rfl (es rfl (es rfl (es rfl (es rfl (es rfl (es rfl (es rfl (es rfl (es rfl (et rfl))))))))))))))))))
              have l96_105 := lookE hA105 96 (es rfl (es rfl (es rfl (es rfl (es rfl (es rfl (es rfl (es rfl (es rfl (es rfl (es rfl (es rfl (es rfl (es rfl (et rfl)))))))))))))))
              have l97_105 := lookE hA105 97 (es rfl (es rfl (es rfl (es rfl (es rfl (es rfl (es rfl (es rfl (es rfl (es rfl (es rfl (es rfl (es rfl (et rfl))))))))))))))
              have l98_105 := lookE hA105 98 (es rfl (es rfl (es rfl (es rfl (es rfl (es rfl (es rfl (es rfl (es rfl (es rfl (es rfl (es rfl (et rfl)))))))))))))
              have l99_105 := lookE hA105 99 (es rfl (es rfl (es rfl (es rfl (es rfl (es rfl (es rfl (es rfl (es rfl (es rfl (es rfl (et rfl))))))))))))
              have l100_105 := lookE hA105 100 (es rfl (es rfl (es rfl (es rfl (es rfl (es rfl (es rfl (es rfl (es rfl (es rfl (et rfl)))))))))))
              have l101_105 := lookE hA105 101 (es rfl (es rfl (es rfl (es rfl (es rfl (es rfl (es rfl (es rfl (es rfl (et rfl))))))))))
              have l102_105 := lookE hA105 102 (es rfl (es rfl (es rfl (es rfl (es rfl (es rfl (es rfl (es rfl (et rfl)))))))))
              have l103_105 := lookE hA105 103 (es rfl (es rfl (es rfl (es rfl (es rfl (es rfl (es rfl (et rfl))))))))
              have l104_105 := lookE hA105 104 (es rfl (es rfl (es rfl (es rfl (es rfl (es rfl (et rfl)))))))
              have l105_105 := lookE hA105 105 (es rfl (es rfl (es rfl (es rfl (es rfl (et rfl))))))
              have l106_105 := lookE hA105 106 (es rfl (es rfl (es rfl (es rfl (et rfl)))))
              have l107_105 := lookE hA105 107 (es rfl (es rfl (es rfl (et rfl))))
              have l108_105 := lookE hA105 108 (es rfl (es rfl (et rfl)))
              have l109_105 := lookE hA105 109 (es rfl (et rfl))
              have l110_105 := lookE hA105 110 (et rfl)
              clear hA105 hsz84 hdf84 l1_84 l3_84 l5_84 l8_84 l9_84 l10_84 l11_84 l59_84 l60_84 l61_84 l87_84
              refine then_n (hK97 _ _ ?_)
              clear hK97
              refine cond_f l110_105 ?_
              refine wp_skip ?_
              refine inb_n ?_
              refine then_n (hK43 _ _ ?_)
              clear hK43
              -- region 14
              refine region_in ?_
              refine W_v rfl rfl (V_mov rfl l8_105) ?_
              refine W_v rfl rfl (V_add rfl (et rfl) rfl (by omega) (by omega)) ?_
              refine W_v rfl rfl (V_asg rfl (et rfl)) ?_
              refine W_end ?_
              refine gen_Q (fun A106 hA106 => ?_)
              have hsz106 : SzN A106 163 := by rw [hA106]; infer_instance
              have hdf106 : A106.defers = [] := by rw [hA106]; simp only [df_put]; exact hdf105
              have l1_106 := lookE hA106 1 (es rfl (es rfl (es rfl l1_105)))
              have l3_106 := lookE hA106 3 (es rfl (es rfl (es rfl l3_105)))
              have l5_106 := lookE hA106 5 (es rfl (es rfl (es rfl l5_105)))
              have l8_106 := lookE hA106 8 (et rfl)
              have l59_106 := lookE hA106 59 (es rfl (es rfl (es rfl l59_105)))
              have l60_106 := lookE hA106 60 (es rfl (es rfl (es rfl l60_105)))
              have l61_106 := lookE hA106 61 (es rfl (es rfl (es rfl l61_105)))
              have l91_106 := lookE hA106 91 (es rfl (es rfl (es rfl l91_105)))
              have l92_106 := lookE hA106 92 (es rfl (es rfl (es rfl l92_105)))
              have l93_106 := lookE hA106 93 (es rfl (es rfl (es rfl l93_105)))
              have l96_106 := lookE hA106 96 (es rfl (es rfl (es rfl l96_105)))
              have l97_106 := lookE hA106 97 (es rfl (es rfl (es rfl l97_105)))
              have l98_106 := lookE hA106 98 (es rfl (es rfl (es rfl l98_105)))
              have l99_106 := lookE hA106 99 (es rfl (es rfl (es rfl l99_105)))
              have l100_106 := lookE hA106 100 (es rfl (es rfl (es rfl l100_105)))
              have l101_106 := lookE hA106 101 (es rfl (es rfl (es rfl l101_105)))
              have l102_106 := lookE hA106 102 (es rfl (es rfl (es rfl l102_105)))
              have l103_106 := lookE hA106 103 (es rfl (es rfl (es rfl l103_105)))
              have l104_106 := lookE hA106 104 (es rfl (es rfl (es rfl l104_105)))
              have l105_106 := lookE hA106 105 (es rfl (es rfl (es rfl l105_105)))
              have l106_106 := lookE hA106 106 (es rfl (es rfl (es rfl l106_105)))
              have l107_106 := lookE hA106 107 (es rfl (es rfl (es rfl l107_105)))
              have l108_106 := lookE hA106 108 (es rfl (es rfl (es rfl l108_105)))
              have l109_106 := lookE hA106 109 (es rfl (es rfl (es rfl l109_105)))
              clear hA106 hsz105 hdf105 l1_105 l3_105 l5_105 l8_105 l59_105 l60_105 l61_105 l91_105 l92_105 l93_105 l96_105 l97_105 l98_105 l99_105 l100_105 l101_105 l102_105 l103_105 l104_105 l105_105 l106_105 l107_105 l108_105 l109_105 l110_105
              refine then_n ⟨(ordT lo yo).length - (k + 1), by simp only [hm38]; omega, hsz106, hdf106, (k + 1), rfl, (by omega), ((l8_106).trans (by first | rfl | (simp; done) | (congr 1; omega))), ((l1_106).trans l1_37.symm), ((l3_106).trans l3_37.symm), ((l5_106).trans l5_37.symm), ((l59_106).trans l59_37.symm), ((l60_106).trans l60_37.symm), ((l61_106).trans l61_37.symm), (by subst hc_38 hc2_38; exact hS104)⟩
      · skip
        refine wp_exit ?_
        refine then_exit ?_
        refine then_exit ?_
        refine inb_hit ?_
        refine inb_n ?_
        refine then_n (hK27 _ _ ?_)
        clear hK27
        -- region 8
        refine region_in ?_
        refine W_v rfl rfl (V_mov rfl l5_41) ?_
        refine W_v rfl rfl (V_add rfl (et rfl) rfl (by omega) (by omega)) ?_
        refine W_v rfl rfl (V_asg rfl (et rfl)) ?_
        refine W_end ?_
        refine gen_Q (fun A107 hA107 => ?_)
        have hsz107 : SzN A107 163 := by rw [hA107]; infer_instance
        have hdf107 : A107.defers = [] := by rw [hA107]; simp only [df_put]; exact hdf41
        have l1_107 := lookE hA107 1 (es rfl (es rfl (es rfl l1_41)))
        have l3_107 := lookE hA107 3 (es rfl (es rfl (es rfl l3_41)))
        have l5_107 := lookE hA107 5 (et rfl)
        have l59_107 := lookE hA107 59 (es rfl (es rfl (es rfl l59_41)))
        have l60_107 := lookE hA107 60 (es rfl (es rfl (es rfl l60_41)))
        have l61_107 := lookE hA107 61 (es rfl (es rfl (es rfl l61_41)))
        clear hA107 hsz41 hdf41 l1_41 l3_41 l5_41 l8_41 l59_41 l60_41 l61_41 l66_41
        refine then_n ⟨(ordT lo yo).length - (i + 1), by simp only [hm22]; omega, hsz107, hdf107, (i + 1), rfl, (by omega), ((l5_107).trans (by first | rfl | (simp; done) | (congr 1; omega))), ((l1_107).trans l1_21.symm), ((l3_107).trans l3_21.symm), (by subst hc_38 hc2_38; exact hS38)⟩
    · skip
      refine wp_exit ?_
      refine then_exit ?_
      refine then_exit ?_
      refine inb_hit ?_
      refine then_n (hK19 _ _ ?_)
      clear hK19
      refine wp_seq_k (fun K108 hK108 => ?_)
      -- region 23
      refine region_in ?_
      refine W_v rfl rfl (V_asg rfl rfl) ?_
      refine W_end ?_
      refine gen_Q (fun A109 hA109 => ?_)
      have hsz109 : SzN A109 163 := by rw [hA109]; infer_instance
      have hdf109 : A109.defers = [] := by rw [hA109]; simp only [df_put]; exact hdf25
      have l1_109 := lookE hA109 1 (es rfl l1_25)
      have l3_109 := lookE hA109 3 (es rfl l3_25)
      have l12_109 := lookE hA109 12 (et rfl)
      clear hA109 hsz25 hdf25 l1_25 l3_25 l5_25 l44_25
      refine then_n (hK108 _ _ ?_)
      clear hK108
      refine wp_seq_k (fun K110 hK110 => ?_)
      -- region 24
      refine region_in ?_
      refine W_r rfl rfl (VR_ldA rfl l1_109 (hS22.obj 1 rfl hc2_22) Tryd.underlying24 rfl (by kernel_rfl)) ?_
      refine W_call rfl rfl rfl Tryd.func33 (by kernel_rfl) rfl (args1 (et rfl)) (kAll_c (hS22.roC h_lv) (hS22.roC h_yv) (hS22.roC hG0) ) ?_
      rintro _ w111 ⟨v_111, rfl, hP111⟩
      refine ⟨_, rfl, ?_⟩
      obtain ⟨c_111, hc_111, hP111⟩ := gen1 hP111
      have hS111 := hS22.join hP111
      replace hS111 : St w NoX [c_111, c_22, c2_22] w111 := hS111
      refine W_v rfl rfl (V_mov rfl (et rfl)) ?_
      refine W_v rfl rfl (V_ext (v := v_111) rfl (et rfl) rfl) ?_
      refine W_v rfl rfl (V_ext (v := .int .i64 ((chk lo yo).2.2)) rfl (es rfl (et rfl)) rfl) ?_
      refine W_v rfl rfl (V_asg rfl (es rfl (et rfl))) ?_
      refine W_v rfl rfl (V_asg rfl (es rfl (et rfl))) ?_
      refine W_end ?_
      refine gen_Q (fun A112 hA112 => ?_)
      have hsz112 : SzN A112 163 := by rw [hA112]; infer_instance
      have hdf112 : A112.defers = [] := by rw [hA112]; simp only [df_put]; exact hdf109
      have l1_112 := lookE hA112 1 (es rfl (es rfl (es rfl (es rfl (es rfl (es rfl (es rfl l1_109)))))))
      have l3_112 := lookE hA112 3 (es rfl (es rfl (es rfl (es rfl (es rfl (es rfl (es rfl l3_109)))))))
      have l12_112 := lookE hA112 12 (es rfl (es rfl (es rfl (es rfl (es rfl (es rfl (es rfl l12_109)))))))
      have l13_112 := lookE hA112 13 (es rfl (et rfl))
      have l14_112 := lookE hA112 14 (et rfl)
      clear hA112 hsz109 hdf109 l1_109 l3_109 l12_109
      refine then_n (hK110 _ _ ?_)
      clear hK110
      refine wp_seq_k (fun K113 hK113 => ?_)
      refine wp_seq_k (fun K114 hK114 => ?_)
      -- region 25
      refine region_in ?_
      refine W_v rfl rfl (V_asg rfl rfl) ?_
      refine W_end ?_
      refine gen_Q (fun A115 hA115 => ?_)
      have hsz115 : SzN A115 163 := by rw [hA115]; infer_instance
      have hdf115 : A115.defers = [] := by rw [hA115]; simp only [df_put]; exact hdf112
      have l1_115 := lookE hA115 1 (es rfl l1_112)
      have l3_115 := lookE hA115 3 (es rfl l3_112)
      have l12_115 := lookE hA115 12 (es rfl l12_112)
      have l13_115 := lookE hA115 13 (es rfl l13_112)
      have l14_115 := lookE hA115 14 (es rfl l14_112)
      have l15_115 := lookE hA115 15 (et rfl)
      clear hA115 hsz112 hdf112 l1_112 l3_112 l12_112 l13_112 l14_112
      refine then_n (hK114 _ _ ?_)
      clear hK114
      refine wp_block ?_
      -- loop 26
      refine loopX (fun mz A' w' => SzN A' 163 ∧ A'.defers = [] ∧ (∃ (c : Nat), (mz = 24 - c) ∧ (c ≤ 24) ∧ (0 ≤ below (lo ++ yo) c ∧ below (lo ++ yo) c ≤ ((lo ++ yo).length : Int)) ∧ (EV A' (.tmp 15) = .int .i64 (c : Int)) ∧ (EV A' (.tmp 12) = .int .i64 (below (lo ++ yo) c)) ∧ (EV A' (.tmp 1) = EV A115 (.tmp 1)) ∧ (EV A' (.tmp 3) = EV A115 (.tmp 3)) ∧ (EV A' (.tmp 13) = EV A115 (.tmp 13)) ∧ (EV A' (.tmp 14) = EV A115 (.tmp 14)) ∧ (St w NoX [ro 2 rkC v_111 (allT lo yo), io .i64 v_14 (ordT lo yo), bx g2 24 #[lv, yv]] w'))) (24 - 0) ⟨hsz115, hdf115, 0, rfl, (by omega), (below_len _ _), ((l15_115).trans (by first | rfl | (simp; done) | (congr 1; omega))), ((l12_115).trans ((by rw [below_zero hG] <;> rfl))), rfl, rfl, rfl, rfl, (by subst hc_111 hc_22 hc2_22; exact hS111)⟩ ?_
      clear hS111 hc_111 hc_22 hc2_22
      rintro n116 A116 w116 ⟨hsz116, hdf116, c, hm116, hc, hb0, l15_116, l12_116, u1_116, u3_116, u13_116, u14_116, hS116⟩
      have l1_116 := u1_116.trans l1_115
      have l3_116 := u3_116.trans l3_115
      have l13_116 := u13_116.trans l13_115
      have l14_116 := u14_116.trans l14_115
      obtain ⟨c_116, c_116b, c2_116, hc_116, hc_116b, hc2_116, hS116⟩ := gen3 hS116
      refine wp_seq_k (fun K117 hK117 => ?_)
      refine wp_seq_k (fun K118 hK118 => ?_)
      -- region 26
      refine region_in ?_
      refine W_v rfl rfl (V_mov rfl l15_116) ?_
      refine W_v rfl rfl (V_lss rfl (et rfl) rfl) ?_
      refine W_split rfl rfl (V_mov rfl (et rfl)) (fun c119 => ?_) (fun c119 => ?_)
      · skip
        refine W_v rfl (wanted_t rfl rfl (et rfl) (ez rfl)) (V_mov rfl (es rfl (es rfl (es rfl l14_116)))) ?_
        refine W_v rfl (wanted_t rfl rfl (es rfl (et rfl)) (ez rfl)) (V_eql rfl (et rfl) rfl) ?_
        refine W_v rfl rfl (V_pickT rfl (es rfl (es rfl (et rfl))) (et rfl)) ?_
        refine W_end ?_
        refine gen_Q (fun A120 hA120 => ?_)
        have hsz120 : SzN A120 163 := by rw [hA120]; infer_instance
        have hdf120 : A120.defers = [] := by rw [hA120]; simp only [df_put]; exact hdf116
        have l1_120 := lookE hA120 1 (es rfl (es rfl (es rfl (es rfl (es rfl (es rfl l1_116))))))
        have l3_120 := lookE hA120 3 (es rfl (es rfl (es rfl (es rfl (es rfl (es rfl l3_116))))))
        have l12_120 := lookE hA120 12 (es rfl (es rfl (es rfl (es rfl (es rfl (es rfl l12_116))))))
        have l13_120 := lookE hA120 13 (es rfl (es rfl (es rfl (es rfl (es rfl (es rfl l13_116))))))
        have l14_120 := lookE hA120 14 (es rfl (es rfl (es rfl (es rfl (es rfl (es rfl l14_116))))))
        have l15_120 := lookE hA120 15 (es rfl (es rfl (es rfl (es rfl (es rfl (es rfl l15_116))))))
        have l119_120 := lookE hA120 119 (es rfl (es rfl (et rfl)))
        have l120_120 := lookE hA120 120 (es rfl (et rfl))
        have l121_120 := lookE hA120 121 (et rfl)
        clear hA120 hsz116 hdf116 l15_116 l12_116 l1_116 l3_116 l13_116 l14_116
        refine then_n (hK118 _ _ ?_)
        clear hK118
        refine cond_sure l121_120 (by rw [decide_eq_true_eq]; exact hg) ?_
        refine wp_skip ?_
        refine then_n (hK117 _ _ ?_)
        clear hK117
        refine wp_seq_k (fun K121 hK121 => ?_)
        refine wp_block ?_
        refine wp_seq_k (fun K122 hK122 => ?_)
        refine wp_seq_k (fun K123 hK123 => ?_)
        -- region 28
        refine region_in ?_
        refine W_v rfl rfl (V_mov rfl l15_120) ?_
        refine W_v rfl rfl (V_mov rfl (es rfl l13_120)) ?_
        refine W_v rfl rfl (V_lenS rfl (et rfl) (ow_at (hS116.chq 0 rfl hc_116)) Tryd.underlying53) ?_
        refine W_v rfl rfl (V_geq rfl (es rfl (es rfl (et rfl))) (et rfl)) ?_
        refine W_end ?_
        refine gen_Q (fun A124 hA124 => ?_)
        have hsz124 : SzN A124 163 := by rw [hA124]; infer_instance
        have hdf124 : A124.defers = [] := by rw [hA124]; simp only [df_put]; exact hdf120
        have l1_124 := lookE hA124 1 (es rfl (es rfl (es rfl (es rfl l1_120))))
        have l3_124 := lookE hA124 3 (es rfl (es rfl (es rfl (es rfl l3_120))))
        have l12_124 := lookE hA124 12 (es rfl (es rfl (es rfl (es rfl l12_120))))
        have l13_124 := lookE hA124 13 (es rfl (es rfl (es rfl (es rfl l13_120))))
        have l14_124 := lookE hA124 14 (es rfl (es rfl (es rfl (es rfl l14_120))))
        have l15_124 := lookE hA124 15 (es rfl (es rfl (es rfl (es rfl l15_120))))
        have l119_124 := lookE hA124 119 (es rfl (es rfl (es rfl (es rfl l119_120))))
        have l120_124 := lookE hA124 120 (es rfl (es rfl (es rfl (es rfl l120_120))))
        have l127_124 := lookE hA124 127 (et rfl)
        clear hA124 hsz120 hdf120 l1_120 l3_120 l12_120 l13_120 l14_120 l15_120 l119_120 l120_120 l121_120
        refine then_n (hK123 _ _ ?_)
        clear hK123
        refine cond_not l127_124 (by rw [decide_eq_false_iff_not]; rw [hL]; omega) ?_
        refine wp_skip ?_
        refine then_n (hK122 _ _ ?_)
        clear hK122
        refine wp_seq_k (fun K125 hK125 => ?_)
        -- region 30
        refine region_in ?_
        refine W_r rfl rfl (VR_ldA rfl l1_124 (hS116.obj 2 rfl hc2_116) Tryd.underlying24 rfl (by kernel_rfl)) ?_
        refine W_v rfl rfl (V_mov rfl (es rfl l15_124)) ?_
        refine W_call rfl rfl rfl Tryd.func18 (by kernel_rfl) rfl (args2 (es rfl (et rfl)) (et rfl)) (kWt_c (c := (c : Int)) (hS116.roC h_lv) (hS116.roC h_yv) (hS116.roC hG0) ) ?_
        rintro _ w126 ⟨rfl, hP126⟩
        refine ⟨_, rfl, ?_⟩
        have hS126 := hS116.join hP126
        replace hS126 : St w NoX [c_116, c_116b, c2_116] w126 := hS126
        refine W_v rfl rfl (V_mov rfl (et rfl)) ?_
        refine W_v rfl rfl (V_ext (v := .int .i64 ((plN lo yo (c : Int)))) rfl (et rfl) rfl) ?_
        refine W_v rfl rfl (V_ext (v := .int .i64 ((plE lo yo (c : Int)))) rfl (es rfl (et rfl)) rfl) ?_
        refine W_v rfl rfl (V_asg rfl (es rfl (et rfl))) ?_
        refine W_v rfl rfl (V_asg rfl (es rfl (et rfl))) ?_
        refine W_end ?_
        refine gen_Q (fun A127 hA127 => ?_)
        have hsz127 : SzN A127 163 := by rw [hA127]; infer_instance
        have hdf127 : A127.defers = [] := by rw [hA127]; simp only [df_put]; exact hdf124
        have l1_127 := lookE hA127 1 (es rfl (es rfl (es rfl (es rfl (es rfl (es rfl (es rfl (es rfl l1_124))))))))
        have l3_127 := lookE hA127 3 (es rfl (es rfl (es rfl (es rfl (es rfl (es rfl (es rfl (es rfl l3_124))))))))
        have l12_127 := lookE hA127 12 (es rfl (es rfl (es rfl (es rfl (es rfl (es rfl (es rfl (es rfl l12_124))))))))
        have l13_127 := lookE hA127 13 (es rfl (es rfl (es rfl (es rfl (es rfl (es rfl (es rfl (es rfl l13_124))))))))
        have l14_127 := lookE hA127 14 (es rfl (es rfl (es rfl (es rfl (es rfl (es rfl (es rfl (es rfl l14_124))))))))
        have l15_127 := lookE hA127 15 (es rfl (es rfl (es rfl (es rfl (es rfl (es rfl (es rfl (es rfl l15_124))))))))
        have l17_127 := lookE hA127 17 (et rfl)
        have l119_127 := lookE hA127 119 (es rfl (es rfl (es rfl (es rfl (es rfl (es rfl (es rfl (es rfl l119_124))))))))
        have l120_127 := lookE hA127 120 (es rfl (es rfl (es rfl (es rfl (es rfl (es rfl (es rfl (es rfl l120_124))))))))
        clear hA127 hsz124 hdf124 l1_124 l3_124 l12_124 l13_124 l14_124 l15_124 l119_124 l120_124 l127_124
        refine then_n (hK125 _ _ ?_)
        clear hK125
        refine wp_seq_k (fun K128 hK128 => ?_)
        refine wp_seq_k (fun K129 hK129 => ?_)
        -- region 31
        refine region_in ?_
        refine W_v rfl rfl (V_mov rfl l17_127) ?_
        refine W_v rfl rfl (V_eql rfl (et rfl) rfl) ?_
        refine W_v rfl rfl (V_mov rfl (es rfl (es rfl l13_127))) ?_
        refine W_v rfl rfl (V_mov rfl (es rfl (es rfl (es rfl l15_127)))) ?_
        have k130 : c < (allT lo yo).length := by first | omega | (simp only [List.length_cons, List.length_nil]; omega)
        obtain ⟨y130, hy130⟩ := get_some (xs := (allT lo yo)) (k := c) k130
        obtain ⟨B130, O130, C130, hv130⟩ := (SlN.blk (ow_at (hS126.chq 0 rfl hc_116)) (by first | omega | (simp only [List.length_cons, List.length_nil]; omega)))
        refine W_v rfl rfl (V_ixS (off := O130 + c * 2) 2 (c) rfl (es rfl (et rfl)) (et rfl) hv130 (by omega) k130 Tryd.underlying53 (by kernel_rfl) rfl) ?_
        refine W_v rfl rfl (V_fa (off' := O130 + c * 2 + 0) rfl (et rfl) Tryd.underlying50 rfl (by decide) rfl) ?_
        refine W_r rfl rfl (VR_ldC (v := .int .i64 (y130.1)) rfl (et rfl) (SlN.row rkC_len (ow_at (hS126.chq 0 rfl hc_116)) hv130 hy130 rfl 0 _ rfl) Tryd.underlying3 rfl) ?_
        refine W_v rfl rfl (V_geq rfl (et rfl) rfl) ?_
        refine W_v rfl rfl (V_neB rfl (es rfl (es rfl (es rfl (es rfl (es rfl (es rfl (et rfl))))))) (et rfl) Tryd.underlying4) ?_
        refine W_end ?_
        refine gen_Q (fun A131 hA131 => ?_)
        have hsz131 : SzN A131 163 := by rw [hA131]; infer_instance
        have hdf131 : A131.defers = [] := by rw [hA131]; simp only [df_put]; exact hdf127
        have l1_131 := lookE hA131 1 (es rfl (es rfl (es rfl (es rfl (es rfl (es rfl (es rfl (es rfl (es rfl l1_127)))))))))
        have l3_131 := lookE hA131 3 (es rfl (es rfl (es rfl (es rfl (es rfl (es rfl (es rfl (es rfl (es rfl l3_127)))))))))
        have l12_131 := lookE hA131 12 (es rfl (es rfl (es rfl (es rfl (es rfl (es rfl (es rfl (es rfl (es rfl l12_127)))))))))
        have l13_131 := lookE hA131 13 (es rfl (es rfl (es rfl (es rfl (es rfl (es rfl (es rfl (es rfl (es rfl l13_127)))))))))
        have l14_131 := lookE hA131 14 (es rfl (es rfl (es rfl (es rfl (es rfl (es rfl (es rfl (es rfl (es rfl l14_127)))))))))
        have l15_131 := lookE hA131 15 (es rfl (es rfl (es rfl (es rfl (es rfl (es rfl (es rfl (es rfl (es rfl l15_127)))))))))
        have l17_131 := lookE hA131 17 (es rfl (es rfl (es rfl (es rfl (es rfl (es rfl (es rfl (es rfl (es rfl l17_127)))))))))
        have l119_131 := lookE hA131 119 (es rfl (es rfl (es rfl (es rfl (es rfl (es rfl (es rfl (es rfl (es rfl l119_127)))))))))
        have l120_131 := lookE hA131 120 (es rfl (es rfl (es rfl (es rfl (es rfl (es rfl (es rfl (es rfl (es rfl l120_127)))))))))
        have l142_131 := lookE hA131 142 (et rfl)
        clear hA131 hsz127 hdf127 l1_127 l3_127 l12_127 l13_127 l14_127 l15_127 l17_127 l119_127 l120_127
        refine then_n (hK129 _ _ ?_)
        clear hK129
        refine cond_not l142_131 (by rw [decide_eq_false_iff_not]; have h1 := pl_iff hg (c := (c : Int)) ⟨by omega, by omega⟩; rw [all_row' hg (by omega) hy130] at h1; simp [h1]) ?_
        refine wp_skip ?_
        refine then_n (hK128 _ _ ?_)
        clear hK128
        refine wp_seq_k (fun K132 hK132 => ?_)
        -- region 33
        refine region_in ?_
        refine W_v rfl rfl (V_mov rfl l17_131) ?_
        refine W_v rfl rfl (V_eql rfl (et rfl) rfl) ?_
        refine W_end ?_
        refine gen_Q (fun A133 hA133 => ?_)
        have hsz133 : SzN A133 163 := by rw [hA133]; infer_instance
        have hdf133 : A133.defers = [] := by rw [hA133]; simp only [df_put]; exact hdf131
        have l1_133 := lookE hA133 1 (es rfl (es rfl l1_131))
        have l3_133 := lookE hA133 3 (es rfl (es rfl l3_131))
        have l12_133 := lookE hA133 12 (es rfl (es rfl l12_131))
        have l13_133 := lookE hA133 13 (es rfl (es rfl l13_131))
        have l14_133 := lookE hA133 14 (es rfl (es rfl l14_131))
        have l15_133 := lookE hA133 15 (es rfl (es rfl l15_131))
        have l119_133 := lookE hA133 119 (es rfl (es rfl l119_131))
        have l120_133 := lookE hA133 120 (es rfl (es rfl l120_131))
        have l144_133 := lookE hA133 144 (et rfl)
        clear hA133 hsz131 hdf131 l1_131 l3_131 l12_131 l13_131 l14_131 l15_131 l17_131 l119_131 l120_131 l142_131
        refine then_n (hK132 _ _ ?_)
        clear hK132
        refine cond_dec l144_133 (fun c134 => ?_) (fun c134 => ?_)
        · skip
          -- region 34
          refine region_in ?_
          refine W_v rfl rfl (V_mov rfl l12_133) ?_
          refine W_v rfl rfl (V_add rfl (et rfl) rfl (by omega) (by omega)) ?_
          refine W_v rfl rfl (V_asg rfl (et rfl)) ?_
          refine W_end ?_
          refine gen_Q (fun A135 hA135 => ?_)
          have hsz135 : SzN A135 163 := by rw [hA135]; infer_instance
          have hdf135 : A135.defers = [] := by rw [hA135]; simp only [df_put]; exact hdf133
          have l1_135 := lookE hA135 1 (es rfl (es rfl (es rfl l1_133)))
          have l3_135 := lookE hA135 3 (es rfl (es rfl (es rfl l3_133)))
          have l12_135 := lookE hA135 12 (et rfl)
          have l13_135 := lookE hA135 13 (es rfl (es rfl (es rfl l13_133)))
          have l14_135 := lookE hA135 14 (es rfl (es rfl (es rfl l14_133)))
          have l15_135 := lookE hA135 15 (es rfl (es rfl (es rfl l15_133)))
          have l119_135 := lookE hA135 119 (es rfl (es rfl (es rfl l119_133)))
          have l120_135 := lookE hA135 120 (es rfl (es rfl (es rfl l120_133)))
          clear hA135 hsz133 hdf133 l1_133 l3_133 l12_133 l13_133 l14_133 l15_133 l119_133 l120_133 l144_133
          refine inb_n ?_
          refine then_n (hK121 _ _ ?_)
          clear hK121
          -- region 27
          refine region_in ?_
          refine W_v rfl rfl (V_mov rfl l15_135) ?_
          refine W_v rfl rfl (V_add rfl (et rfl) rfl (by omega) (by omega)) ?_
          refine W_v rfl rfl (V_asg rfl (et rfl)) ?_
          refine W_end ?_
          refine gen_Q (fun A136 hA136 => ?_)
          have hsz136 : SzN A136 163 := by rw [hA136]; infer_instance
          have hdf136 : A136.defers = [] := by rw [hA136]; simp only [df_put]; exact hdf135
          have l1_136 := lookE hA136 1 (es rfl (es rfl (es rfl l1_135)))
          have l3_136 := lookE hA136 3 (es rfl (es rfl (es rfl l3_135)))
          have l12_136 := lookE hA136 12 (es rfl (es rfl (es rfl l12_135)))
          have l13_136 := lookE hA136 13 (es rfl (es rfl (es rfl l13_135)))
          have l14_136 := lookE hA136 14 (es rfl (es rfl (es rfl l14_135)))
          have l15_136 := lookE hA136 15 (et rfl)
          have l119_136 := lookE hA136 119 (es rfl (es rfl (es rfl l119_135)))
          have l120_136 := lookE hA136 120 (es rfl (es rfl (es rfl l120_135)))
          clear hA136 hsz135 hdf135 l1_135 l3_135 l12_135 l13_135 l14_135 l15_135 l119_135 l120_135
          refine then_n ⟨24 - (c + 1), by simp only [hm116]; omega, hsz136, hdf136, (c + 1), rfl, (by omega), (below_len _ _), ((l15_136).trans (by first | rfl | (simp; done) | (congr 1; omega))), ((l12_136).trans ((by rw [below_in hG (mem_pl c134)]))), ((l1_136).trans l1_115.symm), ((l3_136).trans l3_115.symm), ((l13_136).trans l13_115.symm), ((l14_136).trans l14_115.symm), (by subst hc_116 hc_116b hc2_116; exact hS126)⟩
        · skip
          refine wp_skip ?_
          refine inb_n ?_
          refine then_n (hK121 _ _ ?_)
          clear hK121
          -- region 27
          refine region_in ?_
          refine W_v rfl rfl (V_mov rfl l15_133) ?_
          refine W_v rfl rfl (V_add rfl (et rfl) rfl (by omega) (by omega)) ?_
          refine W_v rfl rfl (V_asg rfl (et rfl)) ?_
          refine W_end ?_
          refine gen_Q (fun A137 hA137 => ?_)
          have hsz137 : SzN A137 163 := by rw [hA137]; infer_instance
          have hdf137 : A137.defers = [] := by rw [hA137]; simp only [df_put]; exact hdf133
          have l1_137 := lookE hA137 1 (es rfl (es rfl (es rfl l1_133)))
          have l3_137 := lookE hA137 3 (es rfl (es rfl (es rfl l3_133)))
          have l12_137 := lookE hA137 12 (es rfl (es rfl (es rfl l12_133)))
          have l13_137 := lookE hA137 13 (es rfl (es rfl (es rfl l13_133)))
          have l14_137 := lookE hA137 14 (es rfl (es rfl (es rfl l14_133)))
          have l15_137 := lookE hA137 15 (et rfl)
          have l119_137 := lookE hA137 119 (es rfl (es rfl (es rfl l119_133)))
          have l120_137 := lookE hA137 120 (es rfl (es rfl (es rfl l120_133)))
          clear hA137 hsz133 hdf133 l1_133 l3_133 l12_133 l13_133 l14_133 l15_133 l119_133 l120_133 l144_133
          refine then_n ⟨24 - (c + 1), by simp only [hm116]; omega, hsz137, hdf137, (c + 1), rfl, (by omega), (below_len _ _), ((l15_137).trans (by first | rfl | (simp; done) | (congr 1; omega))), ((l12_137).trans ((by rw [below_out (fun h => c134 (pl_mem hg h))]))), ((l1_137).trans l1_115.symm), ((l3_137).trans l3_115.symm), ((l13_137).trans l13_115.symm), ((l14_137).trans l14_115.symm), (by subst hc_116 hc_116b hc2_116; exact hS126)⟩
      · skip
        refine W_off rfl (wanted_f rfl rfl (et rfl) (ez rfl) rfl) ?_
        refine W_off rfl (wanted_f rfl rfl (es rfl (et rfl)) (ez rfl) rfl) ?_
        refine W_v rfl rfl (V_pickF rfl (es rfl (es rfl (et rfl))) rfl) ?_
        refine W_end ?_
        refine gen_Q (fun A138 hA138 => ?_)
        have hsz138 : SzN A138 163 := by rw [hA138]; infer_instance
        have hdf138 : A138.defers = [] := by rw [hA138]; simp only [df_put]; exact hdf116
        have l1_138 := lookE hA138 1 (es rfl (es rfl (es rfl (es rfl (es rfl (es rfl l1_116))))))
        have l3_138 := lookE hA138 3 (es rfl (es rfl (es rfl (es rfl (es rfl (es rfl l3_116))))))
        have l12_138 := lookE hA138 12 (es rfl (es rfl (es rfl (es rfl (es rfl (es rfl l12_116))))))
        have l13_138 := lookE hA138 13 (es rfl (es rfl (es rfl (es rfl (es rfl (es rfl l13_116))))))
        have l14_138 := lookE hA138 14 (es rfl (es rfl (es rfl (es rfl (es rfl (es rfl l14_116))))))
        have l15_138 := lookE hA138 15 (es rfl (es rfl (es rfl (es rfl (es rfl (es rfl l15_116))))))
        have l119_138 := lookE hA138 119 (es rfl (es rfl (et rfl)))
        have l120_138 := lookE hA138 120 (es rfl (et rfl))
        have l121_138 := lookE hA138 121 (et rfl)
        clear hA138 hsz116 hdf116 l15_116 l12_116 l1_116 l3_116 l13_116 l14_116
        refine then_n (hK118 _ _ ?_)
        clear hK118
        refine cond_f l121_138 ?_
        refine wp_exit ?_
        refine then_exit ?_
        refine then_exit ?_
        refine inb_hit ?_
        refine then_n (hK113 _ _ ?_)
        clear hK113
        refine wp_seq_k (fun K139 hK139 => ?_)
        -- region 35
        refine region_in ?_
        refine W_v rfl rfl (V_mov rfl l14_138) ?_
        refine W_v rfl rfl (V_eql rfl (et rfl) rfl) ?_
        refine W_sure (c' := true) rfl rfl (V_mov rfl (et rfl)) (by rw [decide_eq_true_eq]; exact hg) ?_
        refine W_v rfl (wanted_t rfl rfl (et rfl) (ez rfl)) (V_mov rfl (es rfl (es rfl (es rfl l13_138)))) ?_
        refine W_v rfl (wanted_t rfl rfl (es rfl (et rfl)) (ez rfl)) (V_lenS rfl (et rfl) (ow_at (hS116.chq 0 rfl hc_116)) Tryd.underlying53) ?_
        refine W_v rfl (wanted_t rfl rfl (es rfl (es rfl (et rfl))) (ez rfl)) (V_eql rfl (et rfl) rfl) ?_
        refine W_v rfl rfl (V_pickT rfl (es rfl (es rfl (es rfl (et rfl)))) (et rfl)) ?_
        refine W_sure (c' := true) rfl rfl (V_mov rfl (et rfl)) (by rw [decide_eq_true_eq]; rw [hL]; rfl) ?_
        refine W_v rfl (wanted_t rfl rfl (et rfl) (ez rfl)) (V_mov rfl (es rfl (es rfl (es rfl (es rfl (es rfl (es rfl (es rfl (es rfl l12_138))))))))) ?_
        refine W_v rfl (wanted_t rfl rfl (es rfl (et rfl)) (ez rfl)) (V_mov rfl (es rfl (es rfl (es rfl (es rfl (es rfl (es rfl (es rfl (es rfl (es rfl l3_138)))))))))) ?_
        refine W_v rfl (wanted_t rfl rfl (es rfl (es rfl (et rfl))) (ez rfl)) (V_lenS rfl (et rfl) (ow_at (hS116.chq 1 rfl hc_116b)) Tryd.underlying22) ?_
        refine W_v rfl (wanted_t rfl rfl (es rfl (es rfl (es rfl (et rfl)))) (ez rfl)) (V_eql rfl (es rfl (es rfl (et rfl))) (et rfl)) ?_
        refine W_v rfl rfl (V_pickT rfl (es rfl (es rfl (es rfl (es rfl (et rfl))))) (et rfl)) ?_
        refine W_sure (c' := true) rfl rfl (V_mov rfl (et rfl)) (by rw [decide_eq_true_eq]; rw [show c = 24 by omega, below_all hG, hoT]) ?_
        refine W_call rfl (wanted_t rfl rfl (et rfl) (ez rfl)) rfl Tryd.func12 (by kernel_rfl) rfl (args0) (awk_c (hS116.roC hG0) ) ?_
        rintro _ w140 ⟨rfl, hP140⟩
        refine ⟨_, rfl, ?_⟩
        have hS140 := hS116.join hP140
        replace hS140 : St w NoX [c_116, c_116b, c2_116] w140 := hS140
        refine W_v rfl rfl (V_pickT rfl (es rfl (et rfl)) (et rfl)) ?_
        refine W_v rfl rfl (V_asg rfl (et rfl)) ?_
        refine W_end ?_
        refine gen_Q (fun A141 hA141 => ?_)
        have hsz141 : SzN A141 163 := by rw [hA141]; infer_instance
        have hdf141 : A141.defers = [] := by rw [hA141]; simp only [df_put]; exact hdf138
        have l2_141 := lookE hA141 2 (et rfl)
        clear hA141 hsz138 hdf138 l1_138 l3_138 l12_138 l13_138 l14_138 l15_138 l119_138 l120_138 l121_138
        have hS142 : St w NoX [] w140 := hS140.sel [] (by decide) rfl
        refine then_n (hK139 _ _ ?_)
        clear hK139
        refine wp_ret ?_
        refine ret_in (results_1 Tryd.results9 (rv_tmp l2_141)) hdf141 ?_
        -- leaf FFF
        exact ⟨rfl, hS142.fin0⟩

end Go.Proofs.YtodbfgfbkgpooaaDoor