import Derived.Test.YtodbfgfbkgpooaaDoorProg
import Derived.Test.YtodbfgfbkgpooaaDoorRa3
namespace Go.Proofs.YtodbfgfbkgpooaaDoor
open Go.RowKit Go.Own


set_option maxHeartbeats 4000000 in
theorem kAll_c {lv : Value} {lo : List Int} {yv : Value} {yo : List Int} {gT0 : Nat} {w : World} (h_lv : Ro w NoX (il .i64 lv lo)) (h_yv : Ro w NoX (il .i64 yv yo)) (hG0 : Ro w NoX (bx 0 gT0 #[.int .i64 (-1), .int .i64 (-1)]))  :
    Calls Tryd.prog 33 #[.agg #[lv, yv]] w fun e w' => ∃ v, e = .returned (.tuple #[v, .int .i64 (chk lo yo).2.2]) ∧ St w NoX [ro 2 rkC (v) (allT lo yo)] w' := by
  refine calls_in 15 Tryd.func33 rfl rfl (by simp) (fun A0 hsz0 hdf0 hargs => ?_)
  have l0_0 := hargs 0 (.agg #[lv, yv]) rfl
  clear hargs; replace hsz0 : SzN A0 15 := ⟨hsz0⟩
  have hS := St.nil w
  have bh_lv := SlN.le (sl_SlN h_lv.at)
  have bh_yv := SlN.le (sl_SlN h_yv.at)
  refine wp_seq_k (fun K1 hK1 => ?_)
  -- region 0
  refine region_in ?_
  refine W_boxS (zs := #[lv, yv]) hS rfl rfl rfl l0_0 (by rfl) (fun g2 w2 c2 hc2 hS2 => ?_)
  replace hS2 : St w NoX [c2] w2 := hS2
  refine W_v rfl rfl (V_asg rfl rfl) ?_
  refine W_v rfl rfl (V_asg rfl rfl) ?_
  refine W_end ?_
  refine gen_Q (fun A3 hA3 => ?_)
  have hsz3 : SzN A3 15 := by rw [hA3]; infer_instance
  have hdf3 : A3.defers = [] := by rw [hA3]; simp only [df_put]; exact hdf0
  have l1_3 := lookE hA3 1 (es rfl (es rfl (et rfl)))
  clear hA3 hsz0 hdf0 l0_0
  refine then_n (hK1 _ _ ?_)
  clear hK1
  refine wp_seq_k (fun K4 hK4 => ?_)
  -- region 1
  refine region_in ?_
  refine W_r rfl rfl (VR_ldA rfl l1_3 (hS2.obj 0 rfl hc2) Tryd.underlying24 rfl (by kernel_rfl)) ?_
  refine W_call rfl rfl rfl Tryd.func38 (by kernel_rfl) rfl (args2 (et rfl) rfl) (kof_c (cs := []) (cv := .slice none 0 0) (hS2.roC h_lv) (hS2.roC h_yv) ro_nil (hS2.roC hG0) ) ?_
  rintro _ w5 ⟨rfl, hP5⟩
  refine ⟨_, rfl, ?_⟩
  have hS5 := hS2.join hP5
  replace hS5 : St w NoX [c2] w5 := hS5
  refine W_v rfl rfl (V_mov rfl (et rfl)) ?_
  refine W_v rfl rfl (V_ext (v := .agg (((ofT lo yo []).flatMap rkC).toArray)) rfl (et rfl) rfl) ?_
  refine W_v rfl rfl (V_ext (v := .int .i64 ((ofE lo yo []))) rfl (es rfl (et rfl)) rfl) ?_
  refine W_allocS (z := .agg (((List.replicate 24 (0, 0)).flatMap rkC).toArray)) (zs := ((((List.replicate 24 (0, 0)).flatMap rkC).toArray))) hS5 rfl rfl rfl (by kernel_rfl) (by rfl) (fun g6 w6 c6 hc6 hS6 => ?_)
  replace hS6 : St w NoX [c6, c2] w6 := hS6
  refine W_stAS 0 hS6 rfl hc6 rfl rfl rfl (et rfl) (es rfl (es rfl (et rfl))) (arrR_one rkC_one) (arrR_sz rkC_len List.length_replicate (ofT_len _ _ _)) (arrR_info rkC_len (ofT_len _ _ _) (by kernel_rfl)) (fun w7 c7 hc7 hS7 => ?_)
  replace hS7 : St w NoX [c7, c2] w7 := hS7
  refine W_v rfl rfl (V_asg rfl (es rfl (et rfl))) ?_
  refine W_end ?_
  refine gen_Q (fun A8 hA8 => ?_)
  have hsz8 : SzN A8 15 := by rw [hA8]; infer_instance
  have hdf8 : A8.defers = [] := by rw [hA8]; simp only [df_put]; exact hdf3
  have l4_8 := lookE hA8 4 (es rfl (et rfl))
  have l5_8 := lookE hA8 5 (et rfl)
  clear hA8 hsz3 hdf3 l1_3
  have hS9 : St w NoX [c7] w7 := hS7.sel [0] (by decide) rfl
  refine then_n (hK4 _ _ ?_)
  clear hK4
  refine wp_seq_k (fun K10 hK10 => ?_)
  refine wp_seq_k (fun K11 hK11 => ?_)
  -- region 2
  refine region_in ?_
  refine W_v rfl rfl (V_mov rfl l5_8) ?_
  refine W_v rfl rfl (V_neq rfl (et rfl) rfl) ?_
  refine W_end ?_
  refine gen_Q (fun A12 hA12 => ?_)
  have hsz12 : SzN A12 15 := by rw [hA12]; infer_instance
  have hdf12 : A12.defers = [] := by rw [hA12]; simp only [df_put]; exact hdf8
  have l4_12 := lookE hA12 4 (es rfl (es rfl l4_8))
  have l5_12 := lookE hA12 5 (es rfl (es rfl l5_8))
  have l12_12 := lookE hA12 12 (et rfl)
  clear hA12 hsz8 hdf8 l4_8 l5_8
  refine then_n (hK11 _ _ ?_)
  clear hK11
  refine cond_dec l12_12 (fun c13 => ?_) (fun c13 => ?_)
  · skip
    refine wp_seq_k (fun K14 hK14 => ?_)
    -- region 3
    refine region_in ?_
    refine W_v rfl rfl (V_mov rfl l5_12) ?_
    refine W_v rfl rfl (V_asg rfl rfl) ?_
    refine W_v rfl rfl (V_asg rfl (es rfl (et rfl))) ?_
    refine W_end ?_
    refine gen_Q (fun A15 hA15 => ?_)
    have hsz15 : SzN A15 15 := by rw [hA15]; infer_instance
    have hdf15 : A15.defers = [] := by rw [hA15]; simp only [df_put]; exact hdf12
    have l2_15 := lookE hA15 2 (es rfl (et rfl))
    have l3_15 := lookE hA15 3 (et rfl)
    clear hA15 hsz12 hdf12 l4_12 l5_12 l12_12
    have hS16 : St w NoX [] w7 := hS9.sel [] (by decide) rfl
    refine then_n (hK14 _ _ ?_)
    clear hK14
    refine wp_ret ?_
    refine then_ret ?_
    refine ret_in (results_2 Tryd.results33 (rv_tmp l2_15) (rv_tmp l3_15)) hdf15 ?_
    -- leaf T
    obtain ⟨c17, hc17, hS17⟩ := hS16.pnil (s := 2)
    have h : (chk lo yo).2.2 = ofE lo yo [] := (ofE_nil lo yo).symm
    rw [h]
    exact ⟨_, rfl, (hS17.fin1 0 rfl (hc17.trans (by rw [allT_err (by rw [← ofE_nil]; exact c13)] <;> rfl)))⟩
  · skip
    refine wp_skip ?_
    refine then_n (hK10 _ _ ?_)
    clear hK10
    refine wp_seq_k (fun K18 hK18 => ?_)
    -- region 4
    refine region_in ?_
    obtain ⟨c19, hc19, hS19⟩ := hS9.asSl 0 rfl hc7 (n := 24) (s := 2) (by simp only [arrR_size rkC_len]; rw [(ofT_len _ _ _)]) (by decide)
    replace hc19 : c19 = ro 2 rkC (.slice (some ⟨g6, 0, none⟩) 24 24) (ofT lo yo []) := hc19.trans (asSl_castR (ofT_len _ _ _))
    replace hS19 : St w NoX [c19] w7 := hS19
    refine W_v rfl rfl (V_slA rfl l4_12 Tryd.underlying60 (by kernel_rfl)) ?_
    refine W_v rfl rfl (V_asg rfl (et rfl)) ?_
    refine W_v rfl rfl (V_asg rfl rfl) ?_
    refine W_end ?_
    refine gen_Q (fun A20 hA20 => ?_)
    have hsz20 : SzN A20 15 := by rw [hA20]; infer_instance
    have hdf20 : A20.defers = [] := by rw [hA20]; simp only [df_put]; exact hdf12
    have l2_20 := lookE hA20 2 (es rfl (et rfl))
    have l3_20 := lookE hA20 3 (et rfl)
    clear hA20 hsz12 hdf12 l4_12 l5_12 l12_12
    refine then_n (hK18 _ _ ?_)
    clear hK18
    refine wp_ret ?_
    refine ret_in (results_2 Tryd.results33 (rv_tmp l2_20) (rv_tmp l3_20)) hdf20 ?_
    -- leaf F
    have h : (chk lo yo).2.2 = 0 := (ofE_nil lo yo).symm.trans (by simpa using c13)
    rw [h]
    exact ⟨_, rfl, (hS19.fin1 0 rfl (hc19.trans (by rw [allT_ok h])))⟩

set_option maxHeartbeats 4000000 in
theorem qAll_c {lv : Value} {lo : List Int} {yv : Value} {yo : List Int} {w : World} (h_lv : Ro w NoX (il .i64 lv lo)) (h_yv : Ro w NoX (il .i64 yv yo)) (h1 : lo.length ≤ 1000) (h2 : yo.length ≤ 1000) :
    Calls Tryd.prog 34 #[.agg #[lv, yv]] w fun e w' => ∃ v, e = .returned (.tuple #[v, .int .i64 (chk lo yo).2.2]) ∧ St w NoX [ro 2 rkC (v) (allT lo yo)] w' := by
  refine calls_in 37 Tryd.func34 rfl rfl (by simp) (fun A0 hsz0 hdf0 hargs => ?_)
  have l0_0 := hargs 0 (.agg #[lv, yv]) rfl
  clear hargs; replace hsz0 : SzN A0 37 := ⟨hsz0⟩
  have hS := St.nil w
  have bh_lv := SlN.le (sl_SlN h_lv.at)
  have bh_yv := SlN.le (sl_SlN h_yv.at)
  refine wp_seq_k (fun K1 hK1 => ?_)
  -- region 0
  refine region_in ?_
  refine W_boxS (zs := #[lv, yv]) hS rfl rfl rfl l0_0 (by rfl) (fun g2 w2 c2 hc2 hS2 => ?_)
  replace hS2 : St w NoX [c2] w2 := hS2
  refine W_v rfl rfl (V_asg rfl rfl) ?_
  refine W_v rfl rfl (V_asg rfl rfl) ?_
  refine W_end ?_
  refine gen_Q (fun A3 hA3 => ?_)
  have hsz3 : SzN A3 37 := by rw [hA3]; infer_instance
  have hdf3 : A3.defers = [] := by rw [hA3]; simp only [df_put]; exact hdf0
  have l1_3 := lookE hA3 1 (es rfl (es rfl (et rfl)))
  clear hA3 hsz0 hdf0 l0_0
  refine then_n (hK1 _ _ ?_)
  clear hK1
  refine wp_seq_k (fun K4 hK4 => ?_)
  -- region 1
  refine region_in ?_
  refine W_r rfl rfl (VR_ldA rfl l1_3 (hS2.obj 0 rfl hc2) Tryd.underlying24 rfl (by kernel_rfl)) ?_
  refine W_call rfl rfl rfl Tryd.func43 (by kernel_rfl) rfl (args1 (et rfl)) (lift0 (rCheck_c (hS2.roC h_lv).ints (hS2.roC h_yv).ints)) ?_
  rintro _ w5 ⟨rfl, hP5⟩
  refine ⟨_, rfl, ?_⟩
  have hS5 := hS2.join hP5
  replace hS5 : St w NoX [c2] w5 := hS5
  refine W_v rfl rfl (V_mov rfl (et rfl)) ?_
  refine W_v rfl rfl (V_ext (v := .int .i64 ((chk lo yo).1)) rfl (et rfl) rfl) ?_
  refine W_v rfl rfl (V_ext (v := .int .i64 ((chk lo yo).2.1)) rfl (es rfl (et rfl)) rfl) ?_
  refine W_v rfl rfl (V_ext (v := .int .i64 ((chk lo yo).2.2)) rfl (es rfl (es rfl (et rfl))) rfl) ?_
  refine W_v rfl rfl (V_asg rfl (es rfl (es rfl (et rfl)))) ?_
  refine W_v rfl rfl (V_asg rfl (es rfl (es rfl (et rfl)))) ?_
  refine W_v rfl rfl (V_asg rfl (es rfl (es rfl (et rfl)))) ?_
  refine W_end ?_
  refine gen_Q (fun A6 hA6 => ?_)
  have hsz6 : SzN A6 37 := by rw [hA6]; infer_instance
  have hdf6 : A6.defers = [] := by rw [hA6]; simp only [df_put]; exact hdf3
  have l1_6 := lookE hA6 1 (es rfl (es rfl (es rfl (es rfl (es rfl (es rfl (es rfl (es rfl (es rfl l1_3)))))))))
  have l6_6 := lookE hA6 6 (et rfl)
  clear hA6 hsz3 hdf3 l1_3
  refine then_n (hK4 _ _ ?_)
  clear hK4
  refine wp_seq_k (fun K7 hK7 => ?_)
  -- region 2
  refine region_in ?_
  refine W_v rfl rfl (V_asg rfl rfl) ?_
  refine W_end ?_
  refine gen_Q (fun A8 hA8 => ?_)
  have hsz8 : SzN A8 37 := by rw [hA8]; infer_instance
  have hdf8 : A8.defers = [] := by rw [hA8]; simp only [df_put]; exact hdf6
  have l1_8 := lookE hA8 1 (es rfl l1_6)
  have l6_8 := lookE hA8 6 (es rfl l6_6)
  have l7_8 := lookE hA8 7 (et rfl)
  clear hA8 hsz6 hdf6 l1_6 l6_6
  refine then_n (hK7 _ _ ?_)
  clear hK7
  refine wp_seq_k (fun K9 hK9 => ?_)
  refine wp_seq_k (fun K10 hK10 => ?_)
  -- region 3
  refine region_in ?_
  refine W_v rfl rfl (V_asg rfl rfl) ?_
  refine W_end ?_
  refine gen_Q (fun A11 hA11 => ?_)
  have hsz11 : SzN A11 37 := by rw [hA11]; infer_instance
  have hdf11 : A11.defers = [] := by rw [hA11]; simp only [df_put]; exact hdf8
  have l1_11 := lookE hA11 1 (es rfl l1_8)
  have l6_11 := lookE hA11 6 (es rfl l6_8)
  have l7_11 := lookE hA11 7 (es rfl l7_8)
  have l8_11 := lookE hA11 8 (et rfl)
  clear hA11 hsz8 hdf8 l1_8 l6_8 l7_8
  refine then_n (hK10 _ _ ?_)
  clear hK10
  refine wp_block ?_
  obtain ⟨c12, hc12, hS12⟩ := hS5.pnil (s := 2)
  -- loop 4
  refine loopX (fun mz A' w' => SzN A' 37 ∧ A'.defers = [] ∧ (∃ (k : Nat) (vo : Value), (mz = 24 - k) ∧ (k ≤ 24) ∧ ((chk lo yo).2.2 = 0 ∨ k = 0) ∧ (EV A' (.tmp 8) = .int .i64 (k : Int)) ∧ (EV A' (.tmp 7) = vo) ∧ (EV A' (.tmp 1) = EV A11 (.tmp 1)) ∧ (EV A' (.tmp 6) = EV A11 (.tmp 6)) ∧ (St w NoX [ro 2 rkC vo (allK lo yo k), bx g2 24 #[lv, yv]] w'))) (24 - 0) ⟨hsz11, hdf11, 0, (.slice none 0 0), rfl, (by omega), (.inr rfl), ((l8_11).trans (by first | rfl | (simp; done) | (congr 1; omega))), ((l7_11).trans (by first | rfl | (simp; done) | (congr 1; omega))), rfl, rfl, (by subst hc12 hc2; exact hS12)⟩ ?_
  clear hS12 hc12 hc2
  rintro n13 A13 w13 ⟨hsz13, hdf13, k, vo, hm13, hk, hke, l8_13, l7_13, u1_13, u6_13, hS13⟩
  have l1_13 := u1_13.trans l1_11
  have l6_13 := u6_13.trans l6_11
  obtain ⟨c12_13, c2_13, hc12_13, hc2_13, hS13⟩ := gen2 hS13
  refine wp_seq_k (fun K14 hK14 => ?_)
  refine wp_seq_k (fun K15 hK15 => ?_)
  -- region 4
  refine region_in ?_
  refine W_v rfl rfl (V_mov rfl l8_13) ?_
  refine W_v rfl rfl (V_lss rfl (et rfl) rfl) ?_
  refine W_split rfl rfl (V_mov rfl (et rfl)) (fun c16 => ?_) (fun c16 => ?_)
  · skip
    refine W_v rfl (wanted_t rfl rfl (et rfl) (ez rfl)) (V_mov rfl (es rfl (es rfl (es rfl l6_13)))) ?_
    refine W_v rfl (wanted_t rfl rfl (es rfl (et rfl)) (ez rfl)) (V_eql rfl (et rfl) rfl) ?_
    refine W_v rfl rfl (V_pickT rfl (es rfl (es rfl (et rfl))) (et rfl)) ?_
    refine W_end ?_
    refine gen_Q (fun A17 hA17 => ?_)
    have hsz17 : SzN A17 37 := by rw [hA17]; infer_instance
    have hdf17 : A17.defers = [] := by rw [hA17]; simp only [df_put]; exact hdf13
    have l1_17 := lookE hA17 1 (es rfl (es rfl (es rfl (es rfl (es rfl (es rfl l1_13))))))
    have l6_17 := lookE hA17 6 (es rfl (es rfl (es rfl (es rfl (es rfl (es rfl l6_13))))))
    have l7_17 := lookE hA17 7 (es rfl (es rfl (es rfl (es rfl (es rfl (es rfl l7_13))))))
    have l8_17 := lookE hA17 8 (es rfl (es rfl (es rfl (es rfl (es rfl (es rfl l8_13))))))
    have l20_17 := lookE hA17 20 (es rfl (es rfl (et rfl)))
    have l21_17 := lookE hA17 21 (es rfl (et rfl))
    have l22_17 := lookE hA17 22 (et rfl)
    clear hA17 hsz13 hdf13 l8_13 l7_13 l1_13 l6_13
    refine then_n (hK15 _ _ ?_)
    clear hK15
    refine cond_dec l22_17 (fun c18 => ?_) (fun c18 => ?_)
    · skip
      refine wp_skip ?_
      refine then_n (hK14 _ _ ?_)
      clear hK14
      refine wp_seq_k (fun K19 hK19 => ?_)
      refine wp_block ?_
      refine wp_seq_k (fun K20 hK20 => ?_)
      -- region 6
      refine region_in ?_
      refine W_r rfl rfl (VR_ldA rfl l1_17 (hS13.obj 1 rfl hc2_13) Tryd.underlying24 rfl (by kernel_rfl)) ?_
      refine W_v rfl rfl (V_mov rfl (es rfl l8_17)) ?_
      refine W_call rfl rfl rfl Tryd.func32 (by kernel_rfl) rfl (args2 (es rfl (et rfl)) (et rfl)) (qOf_c (c := (k : Int)) (hS13.roC h_lv) (hS13.roC h_yv) (by first | omega | (simp; done) | (simp; omega)) (by first | omega | (simp; done) | (simp; omega))) ?_
      rintro _ w21 ⟨rfl, hP21⟩
      refine ⟨_, rfl, ?_⟩
      have hS21 := hS13.join hP21
      replace hS21 : St w NoX [c12_13, c2_13] w21 := hS21
      refine W_v rfl rfl (V_mov rfl (et rfl)) ?_
      refine W_v rfl rfl (V_ext (v := .agg #[.int .i64 ((rkR lo yo (k : Int)).1), .int .i64 ((rkR lo yo (k : Int)).2)]) rfl (et rfl) rfl) ?_
      refine W_v rfl rfl (V_ext (v := .int .i64 ((rkE lo yo (k : Int)))) rfl (es rfl (et rfl)) rfl) ?_
      refine W_allocS (z := .agg #[.int .i64 0, .int .i64 0]) (zs := #[.int .i64 0, .int .i64 0]) hS21 rfl rfl rfl (by kernel_rfl) (by rfl) (fun g22 w22 c22 hc22 hS22 => ?_)
      replace hS22 : St w NoX [c22, c12_13, c2_13] w22 := hS22
      refine W_stAS 0 hS22 rfl hc22 rfl rfl rfl (et rfl) (es rfl (es rfl (et rfl))) (by first | (rw [List.all_toArray] <;> rfl) | (simp only [List.all_toArray, List.all_cons, List.all_nil] <;> rfl)) (by rfl) (by kernel_rfl) (fun w23 c23 hc23 hS23 => ?_)
      replace hS23 : St w NoX [c23, c12_13, c2_13] w23 := hS23
      refine W_v rfl rfl (V_asg rfl (es rfl (et rfl))) ?_
      refine W_end ?_
      refine gen_Q (fun A24 hA24 => ?_)
      have hsz24 : SzN A24 37 := by rw [hA24]; infer_instance
      have hdf24 : A24.defers = [] := by rw [hA24]; simp only [df_put]; exact hdf17
      have l1_24 := lookE hA24 1 (es rfl (es rfl (es rfl (es rfl (es rfl (es rfl (es rfl (es rfl l1_17))))))))
      have l6_24 := lookE hA24 6 (es rfl (es rfl (es rfl (es rfl (es rfl (es rfl (es rfl (es rfl l6_17))))))))
      have l7_24 := lookE hA24 7 (es rfl (es rfl (es rfl (es rfl (es rfl (es rfl (es rfl (es rfl l7_17))))))))
      have l8_24 := lookE hA24 8 (es rfl (es rfl (es rfl (es rfl (es rfl (es rfl (es rfl (es rfl l8_17))))))))
      have l9_24 := lookE hA24 9 (es rfl (et rfl))
      have l20_24 := lookE hA24 20 (es rfl (es rfl (es rfl (es rfl (es rfl (es rfl (es rfl (es rfl l20_17))))))))
      have l21_24 := lookE hA24 21 (es rfl (es rfl (es rfl (es rfl (es rfl (es rfl (es rfl (es rfl l21_17))))))))
      clear hA24 hsz17 hdf17 l1_17 l6_17 l7_17 l8_17 l20_17 l21_17 l22_17
      refine then_n (hK20 _ _ ?_)
      clear hK20
      -- region 7
      refine region_in ?_
      refine W_v rfl rfl (V_mov rfl l7_24) ?_
      refine W_r rfl rfl (VR_ldA rfl (es rfl l9_24) (hS23.obj 0 rfl hc23) Tryd.underlying50 rfl (by kernel_rfl)) ?_
      have hll25 : [((rkR lo yo (k : Int)).1, (rkR lo yo (k : Int)).2)].length = 1 := rfl
      refine W_litS (vs := [.agg #[.int .i64 ((rkR lo yo (k : Int)).1), .int .i64 ((rkR lo yo (k : Int)).2)]]) (xs := ([((rkR lo yo (k : Int)).1, (rkR lo yo (k : Int)).2)].flatMap rkC)) 2 hS23 rfl rfl rfl (parts1 (et rfl)) rfl Tryd.underlying53 (by kernel_rfl) (by decide) (by intro v hv; simp only [List.mem_cons, List.not_mem_nil, or_false] at hv; rcases hv with rfl <;> rfl) (by rfl) (fun g25 w25 c25 hc25 hS25 => ?_)
      replace hc25 : c25 = ro 2 rkC (.slice (some ⟨g25, 0, none⟩) 1 1) [((rkR lo yo (k : Int)).1, (rkR lo yo (k : Int)).2)] := hc25
      replace hS25 : St w NoX [c25, c23, c12_13, c2_13] w25 := hS25
      refine W_appS 2 2 hS25 rfl hc12_13 rfl rfl rfl (es rfl (es rfl (et rfl))) (et rfl) Tryd.underlying53 Tryd.underlying53 (z := .agg #[.int .i64 0, .int .i64 0]) (bytes := 16) (by kernel_rfl) rfl (by decide) (ow_at (hS25.chq 0 rfl hc25)) (ones_r rkC_one) (by simp [allK]; omega) (by simp [allK]; omega) (fun v26 w26 c26 hc26 hS26 => ?_)
      replace hc26 : c26 = ro 2 rkC v26 ((allK lo yo k) ++ [((rkR lo yo (k : Int)).1, (rkR lo yo (k : Int)).2)]) := hc26.trans (app_eqR (by simp))
      replace hS26 : St w NoX [c25, c23, c26, c2_13] w26 := hS26
      refine W_v rfl rfl (V_asg rfl (et rfl)) ?_
      refine W_end ?_
      refine gen_Q (fun A27 hA27 => ?_)
      have hsz27 : SzN A27 37 := by rw [hA27]; infer_instance
      have hdf27 : A27.defers = [] := by rw [hA27]; simp only [df_put]; exact hdf24
      have l1_27 := lookE hA27 1 (es rfl (es rfl (es rfl (es rfl (es rfl l1_24)))))
      have l6_27 := lookE hA27 6 (es rfl (es rfl (es rfl (es rfl (es rfl l6_24)))))
      have l7_27 := lookE hA27 7 (et rfl)
      have l8_27 := lookE hA27 8 (es rfl (es rfl (es rfl (es rfl (es rfl l8_24)))))
      have l20_27 := lookE hA27 20 (es rfl (es rfl (es rfl (es rfl (es rfl l20_24)))))
      have l21_27 := lookE hA27 21 (es rfl (es rfl (es rfl (es rfl (es rfl l21_24)))))
      clear hA27 hsz24 hdf24 l1_24 l6_24 l7_24 l8_24 l9_24 l20_24 l21_24
      have hS28 : St w NoX [c26, c2_13] w26 := hS26.sel [2, 3] (by decide) rfl
      refine inb_n ?_
      refine then_n (hK19 _ _ ?_)
      clear hK19
      -- region 5
      refine region_in ?_
      refine W_v rfl rfl (V_mov rfl l8_27) ?_
      refine W_v rfl rfl (V_add rfl (et rfl) rfl (by omega) (by omega)) ?_
      refine W_v rfl rfl (V_asg rfl (et rfl)) ?_
      refine W_end ?_
      refine gen_Q (fun A29 hA29 => ?_)
      have hsz29 : SzN A29 37 := by rw [hA29]; infer_instance
      have hdf29 : A29.defers = [] := by rw [hA29]; simp only [df_put]; exact hdf27
      have l1_29 := lookE hA29 1 (es rfl (es rfl (es rfl l1_27)))
      have l6_29 := lookE hA29 6 (es rfl (es rfl (es rfl l6_27)))
      have l7_29 := lookE hA29 7 (es rfl (es rfl (es rfl l7_27)))
      have l8_29 := lookE hA29 8 (et rfl)
      have l20_29 := lookE hA29 20 (es rfl (es rfl (es rfl l20_27)))
      have l21_29 := lookE hA29 21 (es rfl (es rfl (es rfl l21_27)))
      clear hA29 hsz27 hdf27 l1_27 l6_27 l7_27 l8_27 l20_27 l21_27
      refine then_n ⟨24 - (k + 1), by simp only [hm13]; omega, hsz29, hdf29, (k + 1), v26, rfl, (by omega), (.inl c18), ((l8_29).trans (by first | rfl | (simp; done) | (congr 1; omega))), ((l7_29).trans (by first | rfl | (simp; done) | (congr 1; omega))), ((l1_29).trans l1_11.symm), ((l6_29).trans l6_11.symm), (by have q0 : c26 = ro 2 rkC v26 (allK lo yo (k + 1)) := hc26.trans (by rw [allK_snoc]); have q1 := hc2_13; subst q0 q1; exact hS28)⟩
    · skip
      refine wp_exit ?_
      refine then_exit ?_
      refine then_exit ?_
      refine inb_hit ?_
      refine then_n (hK9 _ _ ?_)
      clear hK9
      refine wp_seq_k (fun K30 hK30 => ?_)
      -- region 8
      refine region_in ?_
      refine W_v rfl rfl (V_mov rfl l7_17) ?_
      refine W_v rfl rfl (V_mov rfl (es rfl l6_17)) ?_
      refine W_v rfl rfl (V_asg rfl (es rfl (et rfl))) ?_
      refine W_v rfl rfl (V_asg rfl (es rfl (et rfl))) ?_
      refine W_end ?_
      refine gen_Q (fun A31 hA31 => ?_)
      have hsz31 : SzN A31 37 := by rw [hA31]; infer_instance
      have hdf31 : A31.defers = [] := by rw [hA31]; simp only [df_put]; exact hdf17
      have l2_31 := lookE hA31 2 (es rfl (et rfl))
      have l3_31 := lookE hA31 3 (et rfl)
      clear hA31 hsz17 hdf17 l1_17 l6_17 l7_17 l8_17 l20_17 l21_17 l22_17
      have hS32 : St w NoX [c12_13] w13 := hS13.sel [0] (by decide) rfl
      refine then_n (hK30 _ _ ?_)
      clear hK30
      refine wp_ret ?_
      refine ret_in (results_2 Tryd.results34 (rv_tmp l2_31) (rv_tmp l3_31)) hdf31 ?_
      -- leaf TF
      exact ⟨_, rfl, (hS32.fin1 0 rfl (hc12_13.trans (by rw [allT_k hke (.inr c18)])))⟩
  · skip
    refine W_off rfl (wanted_f rfl rfl (et rfl) (ez rfl) rfl) ?_
    refine W_off rfl (wanted_f rfl rfl (es rfl (et rfl)) (ez rfl) rfl) ?_
    refine W_v rfl rfl (V_pickF rfl (es rfl (es rfl (et rfl))) rfl) ?_
    refine W_end ?_
    refine gen_Q (fun A33 hA33 => ?_)
    have hsz33 : SzN A33 37 := by rw [hA33]; infer_instance
    have hdf33 : A33.defers = [] := by rw [hA33]; simp only [df_put]; exact hdf13
    have l1_33 := lookE hA33 1 (es rfl (es rfl (es rfl (es rfl (es rfl (es rfl l1_13))))))
    have l6_33 := lookE hA33 6 (es rfl (es rfl (es rfl (es rfl (es rfl (es rfl l6_13))))))
    have l7_33 := lookE hA33 7 (es rfl (es rfl (es rfl (es rfl (es rfl (es rfl l7_13))))))
    have l8_33 := lookE hA33 8 (es rfl (es rfl (es rfl (es rfl (es rfl (es rfl l8_13))))))
    have l20_33 := lookE hA33 20 (es rfl (es rfl (et rfl)))
    have l21_33 := lookE hA33 21 (es rfl (et rfl))
    have l22_33 := lookE hA33 22 (et rfl)
    clear hA33 hsz13 hdf13 l8_13 l7_13 l1_13 l6_13
    refine then_n (hK15 _ _ ?_)
    clear hK15
    refine cond_f l22_33 ?_
    refine wp_exit ?_
    refine then_exit ?_
    refine then_exit ?_
    refine inb_hit ?_
    refine then_n (hK9 _ _ ?_)
    clear hK9
    refine wp_seq_k (fun K34 hK34 => ?_)
    -- region 8
    refine region_in ?_
    refine W_v rfl rfl (V_mov rfl l7_33) ?_
    refine W_v rfl rfl (V_mov rfl (es rfl l6_33)) ?_
    refine W_v rfl rfl (V_asg rfl (es rfl (et rfl))) ?_
    refine W_v rfl rfl (V_asg rfl (es rfl (et rfl))) ?_
    refine W_end ?_
    refine gen_Q (fun A35 hA35 => ?_)
    have hsz35 : SzN A35 37 := by rw [hA35]; infer_instance
    have hdf35 : A35.defers = [] := by rw [hA35]; simp only [df_put]; exact hdf33
    have l2_35 := lookE hA35 2 (es rfl (et rfl))
    have l3_35 := lookE hA35 3 (et rfl)
    clear hA35 hsz33 hdf33 l1_33 l6_33 l7_33 l8_33 l20_33 l21_33 l22_33
    have hS36 : St w NoX [c12_13] w13 := hS13.sel [0] (by decide) rfl
    refine then_n (hK34 _ _ ?_)
    clear hK34
    refine wp_ret ?_
    refine ret_in (results_2 Tryd.results34 (rv_tmp l2_35) (rv_tmp l3_35)) hdf35 ?_
    -- leaf F
    exact ⟨_, rfl, (hS36.fin1 0 rfl (hc12_13.trans (by rw [allT_k hke (.inl (by omega))])))⟩

set_option maxHeartbeats 4000000 in
theorem kOrd_c {lv : Value} {lo : List Int} {yv : Value} {yo : List Int} {gT0 : Nat} {w : World} (h_lv : Ro w NoX (il .i64 lv lo)) (h_yv : Ro w NoX (il .i64 yv yo)) (hG0 : Ro w NoX (bx 0 gT0 #[.int .i64 (-1), .int .i64 (-1)]))  :
    Calls Tryd.prog 26 #[.agg #[lv, yv]] w fun e w' => ∃ v, e = .returned (.tuple #[v, .int .i64 (chk lo yo).2.2]) ∧ St w NoX [io .i64 (v) (ordT lo yo)] w' := by
  refine calls_inR 25 Tryd.func26 rfl rfl (by simp) (fun A0 hsz0 hdf0 hargs => ?_)
  have l0_0 := hargs 0 (.agg #[lv, yv]) rfl
  clear hargs; replace hsz0 : SzN A0 25 := ⟨hsz0⟩
  have hS := St.nil w
  have bh_lv := SlN.le (sl_SlN h_lv.at)
  have bh_yv := SlN.le (sl_SlN h_yv.at)
  refine R_seq (fun K1 hK1 => ?_)
  -- region 0
  refine R_region (by kernel_rfl) ?_
  refine W_boxS (zs := #[lv, yv]) hS rfl rfl rfl l0_0 (by rfl) (fun g2 w2 c2 hc2 hS2 => ?_)
  replace hS2 : St w NoX [c2] w2 := hS2
  refine W_v rfl rfl (V_asg rfl rfl) ?_
  refine W_v rfl rfl (V_asg rfl rfl) ?_
  refine W_end ?_
  refine Qo_normal ?_
  refine gen_Q (fun A3 hA3 => ?_)
  have hsz3 : SzN A3 25 := by rw [hA3]; infer_instance
  have hdf3 : A3.defers = [] := by rw [hA3]; simp only [df_put]; exact hdf0
  have l1_3 := lookE hA3 1 (es rfl (es rfl (et rfl)))
  clear hA3 hsz0 hdf0 l0_0
  refine then_n (hK1 _ _ ?_)
  clear hK1
  refine R_seq (fun K4 hK4 => ?_)
  refine R_seq (fun K5 hK5 => ?_)
  -- region 1
  refine R_region (by kernel_rfl) ?_
  refine W_r rfl rfl (VR_ldA rfl l1_3 (hS2.obj 0 rfl hc2) Tryd.underlying24 rfl (by kernel_rfl)) ?_
  refine W_call rfl rfl rfl Tryd.func38 (by kernel_rfl) rfl (args2 (et rfl) rfl) (kof_c (cs := []) (cv := .slice none 0 0) (hS2.roC h_lv) (hS2.roC h_yv) ro_nil (hS2.roC hG0) ) ?_
  rintro _ w6 ⟨rfl, hP6⟩
  refine ⟨_, rfl, ?_⟩
  have hS6 := hS2.join hP6
  replace hS6 : St w NoX [c2] w6 := hS6
  refine W_v rfl rfl (V_mov rfl (et rfl)) ?_
  refine W_v rfl rfl (V_ext (v := .agg (((ofT lo yo []).flatMap rkC).toArray)) rfl (et rfl) rfl) ?_
  refine W_v rfl rfl (V_ext (v := .int .i64 ((ofE lo yo []))) rfl (es rfl (et rfl)) rfl) ?_
  refine W_allocS (z := .agg (((List.replicate 24 (0, 0)).flatMap rkC).toArray)) (zs := ((((List.replicate 24 (0, 0)).flatMap rkC).toArray))) hS6 rfl rfl rfl (by kernel_rfl) (by rfl) (fun g7 w7 c7 hc7 hS7 => ?_)
  replace hS7 : St w NoX [c7, c2] w7 := hS7
  refine W_stAS 0 hS7 rfl hc7 rfl rfl rfl (et rfl) (es rfl (es rfl (et rfl))) (arrR_one rkC_one) (arrR_sz rkC_len List.length_replicate (ofT_len _ _ _)) (arrR_info rkC_len (ofT_len _ _ _) (by kernel_rfl)) (fun w8 c8 hc8 hS8 => ?_)
  replace hS8 : St w NoX [c8, c2] w8 := hS8
  refine W_v rfl rfl (V_asg rfl (es rfl (et rfl))) ?_
  refine W_end ?_
  refine Qo_normal ?_
  refine gen_Q (fun A9 hA9 => ?_)
  have hsz9 : SzN A9 25 := by rw [hA9]; infer_instance
  have hdf9 : A9.defers = [] := by rw [hA9]; simp only [df_put]; exact hdf3
  have l1_9 := lookE hA9 1 (es rfl (es rfl (es rfl (es rfl (es rfl (es rfl (es rfl l1_3)))))))
  have l5_9 := lookE hA9 5 (et rfl)
  clear hA9 hsz3 hdf3 l1_3
  have hS10 : St w NoX [c2] w8 := hS8.sel [1] (by decide) rfl
  refine then_n (hK5 _ _ ?_)
  clear hK5
  refine R_seq (fun K11 hK11 => ?_)
  -- region 2
  refine R_region (by kernel_rfl) ?_
  refine W_v rfl rfl (V_mov rfl l5_9) ?_
  refine W_v rfl rfl (V_neq rfl (et rfl) rfl) ?_
  refine W_end ?_
  refine Qo_normal ?_
  refine gen_Q (fun A12 hA12 => ?_)
  have hsz12 : SzN A12 25 := by rw [hA12]; infer_instance
  have hdf12 : A12.defers = [] := by rw [hA12]; simp only [df_put]; exact hdf9
  have l1_12 := lookE hA12 1 (es rfl (es rfl l1_9))
  have l5_12 := lookE hA12 5 (es rfl (es rfl l5_9))
  have l14_12 := lookE hA12 14 (et rfl)
  clear hA12 hsz9 hdf9 l1_9 l5_9
  refine then_n (hK11 _ _ ?_)
  clear hK11
  refine R_cond_dec l14_12 (fun c13 => ?_) (fun c13 => ?_)
  · skip
    refine R_seq (fun K14 hK14 => ?_)
    -- region 3
    refine R_region (by kernel_rfl) ?_
    refine W_v rfl rfl (V_mov rfl l5_12) ?_
    refine W_v rfl rfl (V_asg rfl rfl) ?_
    refine W_v rfl rfl (V_asg rfl (es rfl (et rfl))) ?_
    refine W_end ?_
    refine Qo_normal ?_
    refine gen_Q (fun A15 hA15 => ?_)
    have hsz15 : SzN A15 25 := by rw [hA15]; infer_instance
    have hdf15 : A15.defers = [] := by rw [hA15]; simp only [df_put]; exact hdf12
    have l2_15 := lookE hA15 2 (es rfl (et rfl))
    have l3_15 := lookE hA15 3 (et rfl)
    clear hA15 hsz12 hdf12 l1_12 l5_12 l14_12
    have hS16 : St w NoX [] w8 := hS10.sel [] (by decide) rfl
    refine then_n (hK14 _ _ ?_)
    clear hK14
    refine R_ret ?_
    refine then_ret ?_
    refine ret_inR0 (results_2 Tryd.results26 (rv_tmp l2_15) (rv_tmp l3_15)) hdf15 ?_
    -- leaf T
    obtain ⟨c17, hc17, hS17⟩ := hS16.pnil (s := 1)
    have h : (chk lo yo).2.2 = ofE lo yo [] := (ofE_nil lo yo).symm
    rw [h]
    exact ⟨_, rfl, (hS17.fin1 0 rfl (hc17.trans (by rw [ordT_err (by rw [← ofE_nil]; exact c13)] <;> rfl)))⟩
  · skip
    have hgood : (chk lo yo).2.2 = 0 := (ofE_nil lo yo).symm.trans (by simpa using c13)
    refine R_skip ?_
    refine then_n (hK4 _ _ ?_)
    clear hK4
    refine R_seq (fun K18 hK18 => ?_)
    -- region 4
    refine R_region (by kernel_rfl) ?_
    refine W_allocS (z := .slice none 0 0) (zs := #[.slice none 0 0]) hS10 rfl rfl rfl (by kernel_rfl) (by rfl) (fun g19 w19 c19 hc19 hS19 => ?_)
    replace hS19 : St w NoX [c19, c2] w19 := hS19
    refine W_end ?_
    refine Qo_normal ?_
    refine gen_Q (fun A20 hA20 => ?_)
    have hsz20 : SzN A20 25 := by rw [hA20]; infer_instance
    have hdf20 : A20.defers = [] := by rw [hA20]; simp only [df_put]; exact hdf12
    have l1_20 := lookE hA20 1 (es rfl l1_12)
    have l6_20 := lookE hA20 6 (et rfl)
    clear hA20 hsz12 hdf12 l1_12 l5_12 l14_12
    refine then_n (hK18 _ _ ?_)
    clear hK18
    refine R_seq (fun K21 hK21 => ?_)
    refine R_seq (fun K22 hK22 => ?_)
    -- region 5
    refine R_region (by kernel_rfl) ?_
    refine W_r rfl rfl (VR_ldA rfl l1_20 (hS19.obj 1 rfl hc2) Tryd.underlying24 rfl (by kernel_rfl)) ?_
    refine W_call rfl rfl rfl Tryd.func42 (by kernel_rfl) rfl (args1 (et rfl)) (kall_c (hS19.roC h_lv) (hS19.roC h_yv) ) ?_
    rintro _ w23 ⟨g_23, rfl, hP23⟩
    refine ⟨_, rfl, ?_⟩
    obtain ⟨c_23, hc_23, hP23⟩ := gen1 hP23
    have hS23 := hS19.join hP23
    replace hS23 : St w NoX [c_23, c19, c2] w23 := hS23
    refine W_end ?_
    refine Qo_normal ?_
    refine gen_Q (fun A24 hA24 => ?_)
    have hsz24 : SzN A24 25 := by rw [hA24]; infer_instance
    have hdf24 : A24.defers = [] := by rw [hA24]; simp only [df_put]; exact hdf20
    have l6_24 := lookE hA24 6 (es rfl (es rfl l6_20))
    have l17_24 := lookE hA24 17 (et rfl)
    clear hA24 hsz20 hdf20 l1_20 l6_20
    have hS25 : St w NoX [c_23, c19] w23 := hS23.sel [0, 1] (by decide) rfl
    refine then_n (hK22 _ _ ?_)
    clear hK22
    refine R_block ?_
    obtain ⟨c26, hc26, hS26⟩ := hS25.pnil (s := 1)
    refine R_rangeS (α := Int × Int × Int) l17_24 (fun args w => calls_enter Tryd.func49 rfl rfl args w) (kall_it (g0 := g_23) (lv := lv) (yv := yv) (lo := lo) (yo := yo) (Rd := fun W => (bx g_23 24 #[lv, yv]).at W ∧ (il .i64 lv lo).at W ∧ (il .i64 yv yo).at W) (fun _ h => h)) (fun _ => rfl) (fun pre => pk (fun l => ∃ (vo : Value), l = [io .i64 vo (fst3 pre), bx g_23 24 #[lv, yv], bx g19 22 #[vo]])) (fun cQ pre => pk (fun l => False)) (St.pack (l := [io .i64 (.slice none 0 0) (fst3 []), bx g_23 24 #[lv, yv], bx g19 22 #[(.slice none 0 0)]]) (fr := []) (by have q0 : c26 = io .i64 (.slice none 0 0) (fst3 []) := hc26; have q1 : c_23 = bx g_23 24 #[lv, yv] := hc_23; have q2 : c19 = bx g19 22 #[(.slice none 0 0)] := hc19; subst q0 q1 q2; exact hS26) ⟨(.slice none 0 0), rfl⟩)
      (fun pre W l' hS => by obtain ⟨l, ⟨vo, rfl⟩, hl⟩ := pk_at (hS.ch 0 rfl); exact ⟨(hl 1 _ rfl), hS.ro h_lv, hS.ro h_yv⟩)
      (fun x a' cQ => match x with | (x1, x2, x3) => SzN a' 25 ∧ a'.defers = [] ∧ EV a' (.tmp 6) = EV A24 (.tmp 6) ∧ EV a' (.tmp 7) = .int .i64 (x1) ∧ cQ = pk (· = [])) ?_ ?_ ?_ ?_
    · rintro la27 pre ⟨x1, x2, x3⟩ wa27 fr K hSa27 hK
      simp only [encR]
      rw [rnd2]
      obtain ⟨A28, hA28⟩ : ∃ A, A = (PT (PT { tmps := A24.tmps, defers := [] } 18 (.int .i64 x1)) 19 (.agg #[.int .i64 x2, .int .i64 x3])) := ⟨_, rfl⟩
      rw [← hA28]
      have hsz28 : SzN A28 25 := by rw [hA28]; infer_instance
      have hdf28 : A28.defers = [] := by rw [hA28]; rfl
      have l6_28 := lookE hA28 6 (es rfl (es rfl (rnd_l l6_24)))
      have l18_28 := lookE hA28 18 (es rfl (et rfl))
      have l19_28 := lookE hA28 19 (et rfl)
      clear hA28
      obtain ⟨cI, hcI, hSa27⟩ := gen1 hSa27
      -- region 6
      refine R_region (by kernel_rfl) ?_
      refine W_v rfl rfl (V_asg rfl l18_28) ?_
      refine W_end ?_
      refine Qo_normal ?_
      refine gen_Q (fun A29 hA29 => ?_)
      have hsz29 : SzN A29 25 := by rw [hA29]; infer_instance
      have hdf29 : A29.defers = [] := by rw [hA29]; simp only [df_put]; exact hdf28
      have l6_29 := lookE hA29 6 (es rfl l6_28)
      have l7_29 := lookE hA29 7 (et rfl)
      clear hA29 hsz28 hdf28 l6_28 l18_28 l19_28
      refine then_n ?_
      refine hK _ _ _ ⟨hsz29, hdf29, (l6_29.trans l6_24.symm), l7_29, rfl⟩ ?_
      subst hcI; exact hSa27.asg0
    · rintro lb30 pre ⟨x1, x2, x3⟩ A30 w30 cQ fr hAx hlr hS30 hVd
      obtain ⟨hsz30, hdf30, u6_30, l7_30, rfl⟩ := hAx
      have l6_30 := u6_30.trans l6_24
      obtain ⟨_, _, ⟨vo, rfl⟩, rfl, hS30⟩ := hS30.body2
      replace hS30 : St w NoX ((io .i64 vo (fst3 pre)) :: (bx g_23 24 #[lv, yv]) :: (bx g19 22 #[vo]) :: fr) w30 := hS30
      obtain ⟨c26_31, c_31, c19_31, hc26_31, hc_31, hc19_31, hS30⟩ := gen3 hS30
      have hlen := rk_len ((chk_iff lo yo).1 hgood) hVd
      refine R_block ?_
      -- region 7
      refine R_region (by kernel_rfl) ?_
      refine W_r rfl rfl (VR_ldC rfl l6_30 (cell_box (v := vo) (hS30.obj 2 rfl hc19_31) rfl) Tryd.underlying22 rfl) ?_
      refine W_v rfl rfl (V_mov rfl (es rfl l7_30)) ?_
      have hll32 : [x1].length = 1 := rfl
      refine W_litS (vs := [.int .i64 (x1)]) (xs := ([x1].map (Value.int .i64))) 1 hS30 rfl rfl rfl (parts1 (et rfl)) rfl Tryd.underlying22 (by kernel_rfl) (by decide) (by intro v hv; simp only [List.mem_cons, List.not_mem_nil, or_false] at hv; rcases hv with rfl <;> rfl) (by rfl) (fun g32 w32 c32 hc32 hS32 => ?_)
      replace hc32 : c32 = io .i64 (.slice (some ⟨g32, 0, none⟩) 1 1) [x1] := hc32
      replace hS32 : St w NoX (c32 :: c26_31 :: c_31 :: c19_31 :: fr) w32 := hS32
      refine W_appS 1 1 hS32 rfl hc26_31 rfl rfl rfl (es rfl (es rfl (et rfl))) (et rfl) Tryd.underlying22 Tryd.underlying22 (z := .int .i64 0) (bytes := 8) (by kernel_rfl) rfl (by decide) (ow_at (hS32.chq 0 rfl hc32)) ones_i (by simp [fst3]; omega) (by simp [fst3]; omega) (fun v33 w33 c33 hc33 hS33 => ?_)
      replace hc33 : c33 = io .i64 v33 ((fst3 pre) ++ [x1]) := hc33.trans (app_eq (by simp))
      replace hS33 : St w NoX (c32 :: c33 :: c_31 :: c19_31 :: fr) w33 := hS33
      refine W_stCS (zs' := #[v33]) 3 hS33 rfl hc19_31 rfl rfl rfl (es rfl (es rfl (es rfl (es rfl l6_30)))) (et rfl) (SlN_one (ow_at (hS33.chq 1 rfl hc33))) (by rfl) (by kernel_rfl) (by first | rfl | (simp only [List.setIfInBounds_toArray, List.set_cons_succ, List.set_cons_zero] <;> rfl)) (fun w34 c34 hc34 hS34 => ?_)
      replace hS34 : St w NoX (c32 :: c33 :: c_31 :: c34 :: fr) w34 := hS34
      refine W_end ?_
      refine Qo_normal ?_
      refine gen_Q (fun A35 hA35 => ?_)
      have hsz35 : SzN A35 25 := by rw [hA35]; infer_instance
      have hdf35 : A35.defers = [] := by rw [hA35]; simp only [df_put]; exact hdf30
      clear hA35 hsz30 hdf30 l6_30 l7_30
      have hS37 := hS34.del 0
      replace hS37 : St w NoX (c33 :: c_31 :: c34 :: fr) w34 := hS37
      refine inb_n ?_
      exact (St.pack (l := [io .i64 v33 (fst3 (pre ++ [(x1, x2, x3)])), bx g_23 24 #[lv, yv], bx g19 22 #[v33]]) (fr := fr) (by have q0 : c33 = io .i64 v33 (fst3 (pre ++ [(x1, x2, x3)])) := hc33.trans (by simp [fst3]); have q1 : c_31 = bx g_23 24 #[lv, yv] := hc_31; have q2 : c34 = bx g19 22 #[v33] := hc34; subst q0 q1 q2; exact hS37) (⟨v33, rfl⟩))
    · intro D38 xs w38 hxs hS38
      have hxs' : xs = ranked lo yo := hxs; subst hxs'; clear hxs
      obtain ⟨_, ⟨vo, rfl⟩, hS38⟩ := hS38.unpack
      replace hS38 : St w NoX ((io .i64 vo (fst3 (ranked lo yo))) :: (bx g_23 24 #[lv, yv]) :: (bx g19 22 #[vo]) :: (ob D38 (.deferred (some []))) :: []) w38 := hS38
      obtain ⟨c26_38, c_38, c19_38, cD38, hc26_38, hc_38, hc19_38, hcD38, hS38⟩ := gen4 hS38
      refine gen_Q (fun A38 hA38 => ?_)
      have hsz38 : SzN A38 25 := by rw [hA38]; infer_instance
      have hdf38 : A38.defers = [{ target := .collected D38, args := #[] }] := by rw [hA38, df_mk, hdf24]
      have l6_38 := lookE hA38 6 (mk_l l6_24)
      clear hA38
      refine inb_n ?_
      refine then_n (hK21 _ _ ?_)
      clear hK21
      refine R_seq (fun K39 hK39 => ?_)
      -- region 8
      refine R_region (by kernel_rfl) ?_
      refine W_r rfl rfl (VR_ldC rfl l6_38 (cell_box (v := vo) (hS38.obj 2 rfl hc19_38) rfl) Tryd.underlying22 rfl) ?_
      refine W_v rfl rfl (V_asg rfl (et rfl)) ?_
      refine W_v rfl rfl (V_asg rfl rfl) ?_
      refine W_end ?_
      refine Qo_normal ?_
      refine gen_Q (fun A40 hA40 => ?_)
      have hsz40 : SzN A40 25 := by rw [hA40]; infer_instance
      have hdf40 : A40.defers = [{ target := .collected D38, args := #[] }] := by rw [hA40]; simp only [df_put]; exact hdf38
      have l2_40 := lookE hA40 2 (es rfl (et rfl))
      have l3_40 := lookE hA40 3 (et rfl)
      clear hA40 hsz38 hdf38 l6_38
      have hS41 : St w NoX [c26_38, cD38] w38 := hS38.sel [0, 3] (by decide) rfl
      refine then_n (hK39 _ _ ?_)
      clear hK39
      refine R_ret ?_
      have hD42 := hS41.obj 1 rfl hcD38
      have hS42 := hS41.put (o' := .deferred none) 1 rfl hcD38
      obtain ⟨w42, hw42⟩ : ∃ w', w' = w38.putObj D38 (.deferred none) := ⟨_, rfl⟩
      rw [← hw42] at hS42
      replace hS42 : St w NoX [c26_38, (ob D38 (.deferred none))] w42 := hS42
      refine ret_inR1' (D := D38) (w1 := w42) hw42 (results_2 Tryd.results26 (rv_tmp l2_40) (rv_tmp l3_40)) hdf40 hD42 ?_
      -- leaf Fd
      rw [hgood]
      exact ⟨_, rfl, (hS42.fin1 0 rfl (hc26_38.trans (by rw [ordT_ok hgood, ← ranked_fst]; rfl)))⟩
    · intro D43 cQ pre w43 hpre hS43
      obtain ⟨_, h, _⟩ := hS43.unpack; exact h.elim

set_option maxHeartbeats 4000000 in
theorem qOrd_c {lv : Value} {lo : List Int} {yv : Value} {yo : List Int} {w : World} (h_lv : Ro w NoX (il .i64 lv lo)) (h_yv : Ro w NoX (il .i64 yv yo)) (h1 : lo.length ≤ 1000) (h2 : yo.length ≤ 1000) :
    Calls Tryd.prog 35 #[.agg #[lv, yv]] w fun e w' => ∃ v, e = .returned (.tuple #[v, .int .i64 (chk lo yo).2.2]) ∧ St w NoX [io .i64 (v) (ordT lo yo)] w' := by
  refine calls_in 23 Tryd.func35 rfl rfl (by simp) (fun A0 hsz0 hdf0 hargs => ?_)
  have l0_0 := hargs 0 (.agg #[lv, yv]) rfl
  clear hargs; replace hsz0 : SzN A0 23 := ⟨hsz0⟩
  have hS := St.nil w
  have bh_lv := SlN.le (sl_SlN h_lv.at)
  have bh_yv := SlN.le (sl_SlN h_yv.at)
  refine wp_seq_k (fun K1 hK1 => ?_)
  -- region 0
  refine region_in ?_
  refine W_boxS (zs := #[lv, yv]) hS rfl rfl rfl l0_0 (by rfl) (fun g2 w2 c2 hc2 hS2 => ?_)
  replace hS2 : St w NoX [c2] w2 := hS2
  refine W_v rfl rfl (V_asg rfl rfl) ?_
  refine W_v rfl rfl (V_asg rfl rfl) ?_
  refine W_end ?_
  refine gen_Q (fun A3 hA3 => ?_)
  have hsz3 : SzN A3 23 := by rw [hA3]; infer_instance
  have hdf3 : A3.defers = [] := by rw [hA3]; simp only [df_put]; exact hdf0
  have l1_3 := lookE hA3 1 (es rfl (es rfl (et rfl)))
  clear hA3 hsz0 hdf0 l0_0
  refine then_n (hK1 _ _ ?_)
  clear hK1
  refine wp_seq_k (fun K4 hK4 => ?_)
  -- region 1
  refine region_in ?_
  refine W_r rfl rfl (VR_ldA rfl l1_3 (hS2.obj 0 rfl hc2) Tryd.underlying24 rfl (by kernel_rfl)) ?_
  refine W_call rfl rfl rfl Tryd.func43 (by kernel_rfl) rfl (args1 (et rfl)) (lift0 (rCheck_c (hS2.roC h_lv).ints (hS2.roC h_yv).ints)) ?_
  rintro _ w5 ⟨rfl, hP5⟩
  refine ⟨_, rfl, ?_⟩
  have hS5 := hS2.join hP5
  replace hS5 : St w NoX [c2] w5 := hS5
  refine W_v rfl rfl (V_mov rfl (et rfl)) ?_
  refine W_v rfl rfl (V_ext (v := .int .i64 ((chk lo yo).1)) rfl (et rfl) rfl) ?_
  refine W_v rfl rfl (V_ext (v := .int .i64 ((chk lo yo).2.1)) rfl (es rfl (et rfl)) rfl) ?_
  refine W_v rfl rfl (V_ext (v := .int .i64 ((chk lo yo).2.2)) rfl (es rfl (es rfl (et rfl))) rfl) ?_
  refine W_v rfl rfl (V_asg rfl (es rfl (es rfl (et rfl)))) ?_
  refine W_v rfl rfl (V_asg rfl (es rfl (es rfl (et rfl)))) ?_
  refine W_v rfl rfl (V_asg rfl (es rfl (es rfl (et rfl)))) ?_
  refine W_end ?_
  refine gen_Q (fun A6 hA6 => ?_)
  have hsz6 : SzN A6 23 := by rw [hA6]; infer_instance
  have hdf6 : A6.defers = [] := by rw [hA6]; simp only [df_put]; exact hdf3
  have l1_6 := lookE hA6 1 (es rfl (es rfl (es rfl (es rfl (es rfl (es rfl (es rfl (es rfl (es rfl l1_3)))))))))
  have l6_6 := lookE hA6 6 (et rfl)
  clear hA6 hsz3 hdf3 l1_3
  refine then_n (hK4 _ _ ?_)
  clear hK4
  refine wp_seq_k (fun K7 hK7 => ?_)
  refine wp_seq_k (fun K8 hK8 => ?_)
  -- region 2
  refine region_in ?_
  refine W_v rfl rfl (V_mov rfl l6_6) ?_
  refine W_v rfl rfl (V_neq rfl (et rfl) rfl) ?_
  refine W_end ?_
  refine gen_Q (fun A9 hA9 => ?_)
  have hsz9 : SzN A9 23 := by rw [hA9]; infer_instance
  have hdf9 : A9.defers = [] := by rw [hA9]; simp only [df_put]; exact hdf6
  have l1_9 := lookE hA9 1 (es rfl (es rfl l1_6))
  have l6_9 := lookE hA9 6 (es rfl (es rfl l6_6))
  have l14_9 := lookE hA9 14 (et rfl)
  clear hA9 hsz6 hdf6 l1_6 l6_6
  refine then_n (hK8 _ _ ?_)
  clear hK8
  refine cond_dec l14_9 (fun c10 => ?_) (fun c10 => ?_)
  · skip
    refine wp_seq_k (fun K11 hK11 => ?_)
    -- region 3
    refine region_in ?_
    refine W_v rfl rfl (V_mov rfl l6_9) ?_
    refine W_v rfl rfl (V_asg rfl rfl) ?_
    refine W_v rfl rfl (V_asg rfl (es rfl (et rfl))) ?_
    refine W_end ?_
    refine gen_Q (fun A12 hA12 => ?_)
    have hsz12 : SzN A12 23 := by rw [hA12]; infer_instance
    have hdf12 : A12.defers = [] := by rw [hA12]; simp only [df_put]; exact hdf9
    have l2_12 := lookE hA12 2 (es rfl (et rfl))
    have l3_12 := lookE hA12 3 (et rfl)
    clear hA12 hsz9 hdf9 l1_9 l6_9 l14_9
    have hS13 : St w NoX [] w5 := hS5.sel [] (by decide) rfl
    refine then_n (hK11 _ _ ?_)
    clear hK11
    refine wp_ret ?_
    refine then_ret ?_
    refine ret_in (results_2 Tryd.results35 (rv_tmp l2_12) (rv_tmp l3_12)) hdf12 ?_
    -- leaf T
    obtain ⟨c14, hc14, hS14⟩ := hS13.pnil (s := 1)
    exact ⟨_, rfl, (hS14.fin1 0 rfl (hc14.trans (by rw [ordT_err c10] <;> rfl)))⟩
  · skip
    refine wp_skip ?_
    refine then_n (hK7 _ _ ?_)
    clear hK7
    refine wp_seq_k (fun K15 hK15 => ?_)
    -- region 4
    refine region_monoS 6 7 [some (SPc (fun u l' => ∃ g, u = .slice (some ⟨g, 0, none⟩) 0 0 ∧ ∃ c, c = io .i64 (.slice (some ⟨g, 0, none⟩) 0 0) [] ∧ l' = [c]) 0), none, none, some (SPc (fun u l' => ∃ v, u = v ∧ ∃ c, c = io .i64 v lo ∧ l' = [c]) 3)] (by kernel_rfl) (by kernel_rfl) ?_
    refine D_lay (C := fun u l' => ∃ g, u = .slice (some ⟨g, 0, none⟩) 0 0 ∧ ∃ c, c = io .i64 (.slice (some ⟨g, 0, none⟩) 0 0) [] ∧ l' = [c]) rfl rfl rfl rfl (fun sx hx hF => lay_lit (vs := []) 1 rfl (parts0) rfl Tryd.underlying22 (by kernel_rfl) (by decide) (by intro v hv; cases hv) (by rfl)) (fun u16 l16 hu16 => ?_)
    obtain ⟨g16, rfl, c16, hc16, hl16⟩ := hu16
    refine D_v rfl rfl (V_fa (off' := 0) rfl (es rfl l1_9) Tryd.underlying24 rfl (by decide) rfl) rfl rfl ?_
    refine D_r rfl rfl (by kernel_rfl) (fun sx hx hF => (VR_ldC rfl (et rfl) (cell_box (v := lv) ((hS5.grow hx).obj 0 rfl hc2) rfl) Tryd.underlying22 rfl)) rfl rfl ?_
    refine D_lay (C := fun u l' => ∃ v, u = v ∧ ∃ c, c = io .i64 v lo ∧ l' = [c]) rfl rfl rfl rfl (fun sx hx hF => lay_app0 (a := (some ⟨g16, 0, none⟩)) 1 rfl (es rfl (es rfl (et rfl))) (by intro b e; cases e <;> rfl) (et rfl) Tryd.underlying22 Tryd.underlying22 (z := .int .i64 0) (bytes := 8) (by kernel_rfl) rfl (by decide) (sl_SlN ((hS5.grow hx).ro h_lv)) ones_i (by first | omega | (simp; done) | (simp; omega)) (by first | omega | (simp; done) | (simp; omega))) (fun u17 l17 hu17 => ?_)
    obtain ⟨v17, rfl, c17, hc17, hl17⟩ := hu17
    refine D_v rfl rfl (V_fa (off' := 1) rfl (es rfl (es rfl (es rfl (es rfl l1_9)))) Tryd.underlying24 rfl (by decide) rfl) rfl rfl ?_
    refine D_r rfl rfl (by kernel_rfl) (fun sx hx hF => (VR_ldC rfl (et rfl) (cell_box (v := yv) ((hS5.grow hx).obj 0 rfl hc2) rfl) Tryd.underlying22 rfl)) rfl rfl ?_
    refine D_eff rfl ?_
    refine ZS_eff hS5 rfl rfl (fun s18 hJ18 hL18 hF18 => ?_)
    obtain ⟨ll16, ws16, we16, ⟨g16q, hq16, c16r, hc16r, hl16r⟩, hm16, k16, e16⟩ := L.all_get (L.all_rest hF18); cases hq16; subst hl16r
    replace hJ18 := hJ18.add hL18 (i := 0) rfl hm16 k16 e16
    obtain ⟨ll17, ws17, we17, ⟨v17q, hq17, c17r, hc17r, hl17r⟩, hm17, k17, e17⟩ := L.all_get hF18; cases hq17; subst hl17r
    replace hJ18 := hJ18.add hL18 (i := 3) rfl hm17 k17 e17
    have hS18 := hJ18.st; clear hF18 hJ18 hL18
    generalize s18.1 = w18 at *
    replace hS18 : St w NoX [c17r, c16r, c2] w18 := hS18
    refine W_appS 1 0 hS18 rfl hc17r rfl rfl rfl (es rfl (es rfl (et rfl))) (et rfl) Tryd.underlying22 Tryd.underlying22 (z := .int .i64 0) (bytes := 8) (by kernel_rfl) rfl (by decide) (sl_SlN (hS18.ro h_yv)) ones_i (by first | omega | (simp; done) | (simp; omega)) (by first | omega | (simp; done) | (simp; omega)) (fun v19 w19 c19 hc19 hS19 => ?_)
    replace hc19 : c19 = io .i64 v19 (lo ++ yo) := hc19.trans (app_eq (by simp))
    replace hS19 : St w NoX [c19, c16r, c2] w19 := hS19
    refine W_v rfl rfl (V_asg rfl (et rfl)) ?_
    refine W_v rfl rfl (V_asg rfl rfl) ?_
    refine W_end ?_
    refine Qo_normal ?_
    refine gen_Q (fun A20 hA20 => ?_)
    have hsz20 : SzN A20 23 := by rw [hA20]; infer_instance
    have hdf20 : A20.defers = [] := by rw [hA20]; simp only [df_put]; exact hdf9
    have l2_20 := lookE hA20 2 (es rfl (et rfl))
    have l3_20 := lookE hA20 3 (et rfl)
    clear hA20 hsz9 hdf9 l1_9 l6_9 l14_9
    have hS21 : St w NoX [c19] w19 := hS19.sel [0] (by decide) rfl
    refine then_n (hK15 _ _ ?_)
    clear hK15
    refine wp_ret ?_
    refine ret_in (results_2 Tryd.results35 (rv_tmp l2_20) (rv_tmp l3_20)) hdf20 ?_
    -- leaf F
    have h : (chk lo yo).2.2 = 0 := by simpa using c10
    rw [h]
    exact ⟨_, rfl, (hS21.fin1 0 rfl (hc19.trans (by rw [ordT_ok h])))⟩

end Go.Proofs.YtodbfgfbkgpooaaDoor