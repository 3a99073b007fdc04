import Derived.Test.YtodbfgfbkgpooaaDoorProg
import Derived.Test.YtodbfgfbkgpooaaDoorRa2
import Derived.Test.YtodbfgfbkgpooaaDoorRg2
import Derived.Test.YtodbfgfbkgpooaaDoorSepE
namespace Go.Proofs.YtodbfgfbkgpooaaDoor
open Go.RowKit Go.Own


set_option maxHeartbeats 4000000 in
theorem kOf_c {lv : Value} {lo : List Int} {yv : Value} {yo : List Int} {c : Int} {gT0 : Nat} {w : World} (h_lv : Ro w NoX (il .i64 lv lo)) (h_yv : Ro w NoX (il .i64 yv yo)) (hG0 : Ro w NoX (bx 0 gT0 #[.int .i64 (-1), .int .i64 (-1)]))  :
    Calls Tryd.prog 31 #[.agg #[lv, yv], .int .i64 c] w fun e w' => e = .returned (.tuple #[.agg #[.int .i64 (rkR lo yo c).1, .int .i64 (rkR lo yo c).2], .int .i64 (rkE lo yo c)]) ∧ St w NoX [] w' := by
  refine calls_in 22 Tryd.func31 rfl rfl (by simp) (fun A0 hsz0 hdf0 hargs => ?_)
  have l0_0 := hargs 0 (.agg #[lv, yv]) rfl
  have l1_0 := hargs 1 (.int .i64 c) rfl
  clear hargs; replace hsz0 : SzN A0 22 := ⟨hsz0⟩
  have hS := St.nil w
  have bh_lv := SlN.le (sl_SlN h_lv.at)
  have bh_yv := SlN.le (sl_SlN h_yv.at)
  refine wp_seq_k (fun K1 hK1 => ?_)
  -- region 0
  refine region_in ?_
  refine W_boxS (zs := #[lv, yv]) hS rfl rfl rfl l0_0 (by rfl) (fun g2 w2 c2 hc2 hS2 => ?_)
  replace hS2 : St w NoX [c2] w2 := hS2
  refine W_allocS (z := .agg #[.int .i64 0, .int .i64 0]) (zs := #[.int .i64 0, .int .i64 0]) hS2 rfl rfl rfl (by kernel_rfl) (by rfl) (fun g3 w3 c3 hc3 hS3 => ?_)
  replace hS3 : St w NoX [c3, c2] w3 := hS3
  refine W_v rfl rfl (V_asg rfl rfl) ?_
  refine W_end ?_
  refine gen_Q (fun A4 hA4 => ?_)
  have hsz4 : SzN A4 22 := by rw [hA4]; infer_instance
  have hdf4 : A4.defers = [] := by rw [hA4]; simp only [df_put]; exact hdf0
  have l1_4 := lookE hA4 1 (es rfl (es rfl (es rfl l1_0)))
  have l2_4 := lookE hA4 2 (es rfl (es rfl (et rfl)))
  have l4_4 := lookE hA4 4 (es rfl (et rfl))
  clear hA4 hsz0 hdf0 l0_0 l1_0
  refine then_n (hK1 _ _ ?_)
  clear hK1
  refine wp_seq_k (fun K5 hK5 => ?_)
  -- region 1
  refine region_in ?_
  refine W_r rfl rfl (VR_ldA rfl l2_4 (hS3.obj 1 rfl hc2) Tryd.underlying24 rfl (by kernel_rfl)) ?_
  refine W_v rfl rfl (V_mov rfl (es rfl l1_4)) ?_
  have hll6 : [c].length = 1 := rfl
  refine W_litS (vs := [.int .i64 (c)]) (xs := ([c].map (Value.int .i64))) 1 hS3 rfl rfl rfl (parts1 (et rfl)) rfl Tryd.underlying22 (by kernel_rfl) (by decide) (by intro v hv; simp only [List.mem_cons, List.not_mem_nil, or_false] at hv; rcases hv with rfl <;> rfl) (by rfl) (fun g6 w6 c6 hc6 hS6 => ?_)
  replace hc6 : c6 = io .i64 (.slice (some ⟨g6, 0, none⟩) 1 1) [c] := hc6
  replace hS6 : St w NoX [c6, c3, c2] w6 := hS6
  refine W_call rfl rfl rfl Tryd.func38 (by kernel_rfl) rfl (args2 (es rfl (es rfl (et rfl))) (et rfl)) (kof_c (hS6.roC h_lv) (hS6.roC h_yv) (hS6.chC 0 rfl hc6).own (hS6.roC hG0) ) ?_
  rintro _ w7 ⟨rfl, hP7⟩
  refine ⟨_, rfl, ?_⟩
  have hS7 := hS6.join hP7
  replace hS7 : St w NoX [c6, c3, c2] w7 := hS7
  refine W_v rfl rfl (V_mov rfl (et rfl)) ?_
  refine W_v rfl rfl (V_ext (v := .agg (((ofT lo yo [c]).flatMap rkC).toArray)) rfl (et rfl) rfl) ?_
  refine W_v rfl rfl (V_ext (v := .int .i64 ((ofE lo yo [c]))) rfl (es rfl (et rfl)) rfl) ?_
  refine W_allocS (z := .agg (((List.replicate 24 (0, 0)).flatMap rkC).toArray)) (zs := ((((List.replicate 24 (0, 0)).flatMap rkC).toArray))) hS7 rfl rfl rfl (by kernel_rfl) (by rfl) (fun g8 w8 c8 hc8 hS8 => ?_)
  replace hS8 : St w NoX [c8, c6, c3, c2] w8 := hS8
  refine W_stAS 0 hS8 rfl hc8 rfl rfl rfl (et rfl) (es rfl (es rfl (et rfl))) (arrR_one rkC_one) (arrR_sz rkC_len List.length_replicate (ofT_len _ _ _)) (arrR_info rkC_len (ofT_len _ _ _) (by kernel_rfl)) (fun w9 c9 hc9 hS9 => ?_)
  replace hS9 : St w NoX [c9, c6, c3, c2] w9 := hS9
  refine W_v rfl rfl (V_asg rfl (es rfl (et rfl))) ?_
  refine W_end ?_
  refine gen_Q (fun A10 hA10 => ?_)
  have hsz10 : SzN A10 22 := by rw [hA10]; infer_instance
  have hdf10 : A10.defers = [] := by rw [hA10]; simp only [df_put]; exact hdf4
  have l1_10 := lookE hA10 1 (es rfl (es rfl (es rfl (es rfl (es rfl (es rfl (es rfl (es rfl (es rfl l1_4)))))))))
  have l4_10 := lookE hA10 4 (es rfl (es rfl (es rfl (es rfl (es rfl (es rfl (es rfl (es rfl (es rfl l4_4)))))))))
  have l6_10 := lookE hA10 6 (es rfl (et rfl))
  have l7_10 := lookE hA10 7 (et rfl)
  clear hA10 hsz4 hdf4 l1_4 l2_4 l4_4
  have hS11 : St w NoX [c9, c3] w9 := hS9.sel [0, 2] (by decide) rfl
  refine then_n (hK5 _ _ ?_)
  clear hK5
  refine wp_seq_k (fun K12 hK12 => ?_)
  refine wp_seq_k (fun K13 hK13 => ?_)
  -- region 2
  refine region_in ?_
  refine W_v rfl rfl (V_mov rfl l7_10) ?_
  refine W_v rfl rfl (V_neq rfl (et rfl) rfl) ?_
  refine W_end ?_
  refine gen_Q (fun A14 hA14 => ?_)
  have hsz14 : SzN A14 22 := by rw [hA14]; infer_instance
  have hdf14 : A14.defers = [] := by rw [hA14]; simp only [df_put]; exact hdf10
  have l1_14 := lookE hA14 1 (es rfl (es rfl l1_10))
  have l4_14 := lookE hA14 4 (es rfl (es rfl l4_10))
  have l6_14 := lookE hA14 6 (es rfl (es rfl l6_10))
  have l7_14 := lookE hA14 7 (es rfl (es rfl l7_10))
  have l16_14 := lookE hA14 16 (et rfl)
  clear hA14 hsz10 hdf10 l1_10 l4_10 l6_10 l7_10
  refine then_n (hK13 _ _ ?_)
  clear hK13
  refine cond_dec l16_14 (fun c15 => ?_) (fun c15 => ?_)
  · skip
    refine wp_seq_k (fun K16 hK16 => ?_)
    -- region 3
    refine region_in ?_
    refine W_v rfl rfl (V_bldS (n := 2) (z := .agg #[.int .i64 0, .int .i64 0]) rfl (parts0) (by kernel_rfl) (by simp only [List.all_cons, List.all_nil, Bool.and_true] <;> rfl) (by kernel_rfl) (by simp only [List.foldl_cons, List.foldl_nil, Value.cells, List.setIfInBounds_toArray, List.set_cons_succ, List.set_cons_zero] <;> rfl)) ?_
    refine W_v rfl rfl (V_mov rfl (es rfl l7_14)) ?_
    refine W_stAS 1 hS11 rfl hc3 rfl rfl rfl (es rfl (es rfl l4_14)) (es rfl (et rfl)) (by first | (rw [List.all_toArray] <;> rfl) | (simp only [List.all_toArray, List.all_cons, List.all_nil] <;> rfl)) (by rfl) (by kernel_rfl) (fun w17 c17 hc17 hS17 => ?_)
    replace hS17 : St w NoX [c9, c17] w17 := hS17
    refine W_v rfl rfl (V_asg rfl (et rfl)) ?_
    refine W_end ?_
    refine gen_Q (fun A18 hA18 => ?_)
    have hsz18 : SzN A18 22 := by rw [hA18]; infer_instance
    have hdf18 : A18.defers = [] := by rw [hA18]; simp only [df_put]; exact hdf14
    have l4_18 := lookE hA18 4 (es rfl (es rfl (es rfl l4_14)))
    have l5_18 := lookE hA18 5 (et rfl)
    clear hA18 hsz14 hdf14 l1_14 l4_14 l6_14 l7_14 l16_14
    have hS19 : St w NoX [c17] w17 := hS17.sel [1] (by decide) rfl
    refine then_n (hK16 _ _ ?_)
    clear hK16
    refine wp_ret ?_
    refine then_ret ?_
    refine ret_in (results_2 Tryd.results31 (rv_cellA l4_18 (hS19.obj 0 rfl hc17) Tryd.underlying50 rfl (by kernel_rfl)) (rv_tmp l5_18)) hdf18 ?_
    -- leaf T
    have h : rkE lo yo c = ofE lo yo [c] := (ofE_one lo yo c).symm
    have h2 : rkR lo yo c = (0, 0) := rkR_err (by rw [h]; exact c15)
    rw [h2, h]
    exact ⟨rfl, hS19.fin0⟩
  · skip
    have hE : ofE lo yo [c] = 0 := by simpa using c15
    have hr := ofE_one0 hE
    refine wp_skip ?_
    refine then_n (hK12 _ _ ?_)
    clear hK12
    refine wp_seq_k (fun K20 hK20 => ?_)
    -- region 4
    refine region_in ?_
    refine W_v rfl rfl (V_mov rfl l1_14) ?_
    have k21 : c.toNat < 24 := by omega
    refine W_v rfl rfl (V_ixA (sz := 2) (off' := c.toNat * 2) (c.toNat) rfl (es rfl l6_14) (et rfl) (by omega) Tryd.underlying60 k21 (by kernel_rfl) (by omega)) ?_
    obtain ⟨y22, hy22⟩ := get_some (xs := (ofT lo yo [c])) (k := c.toNat) (by rw [(ofT_len _ _ _)]; omega)
    refine W_r rfl rfl (VR_ldP (ys := rkC y22) rfl (et rfl) (hS11.obj 0 rfl hc9) (arrR_at rkC_len hy22) Tryd.underlying50 rfl (by kernel_rfl)) ?_
    refine W_stAS 1 hS11 rfl hc3 rfl rfl rfl (es rfl (es rfl (es rfl l4_14))) (et rfl) (by first | (rw [List.all_toArray] <;> rfl) | (simp only [List.all_toArray, List.all_cons, List.all_nil] <;> rfl)) (by rfl) (by kernel_rfl) (fun w23 c23 hc23 hS23 => ?_)
    replace hS23 : St w NoX [c9, c23] w23 := hS23
    refine W_v rfl rfl (V_asg rfl rfl) ?_
    refine W_end ?_
    refine gen_Q (fun A24 hA24 => ?_)
    have hsz24 : SzN A24 22 := by rw [hA24]; infer_instance
    have hdf24 : A24.defers = [] := by rw [hA24]; simp only [df_put]; exact hdf14
    have l4_24 := lookE hA24 4 (es rfl (es rfl (es rfl (es rfl l4_14))))
    have l5_24 := lookE hA24 5 (et rfl)
    clear hA24 hsz14 hdf14 l1_14 l4_14 l6_14 l7_14 l16_14
    have hS25 : St w NoX [c23] w23 := hS23.sel [1] (by decide) rfl
    refine then_n (hK20 _ _ ?_)
    clear hK20
    refine wp_ret ?_
    refine ret_in (results_2 Tryd.results31 (rv_cellA l4_24 (hS25.obj 0 rfl hc23) Tryd.underlying50 rfl (by kernel_rfl)) (rv_tmp l5_24)) hdf24 ?_
    -- leaf F
    have h : rkE lo yo c = 0 := (ofE_one lo yo c).symm.trans hE
    have h2 : rkR lo yo c = y22 := ofT_row hE h hy22
    rw [h2, h]
    exact ⟨rfl, hS25.fin0⟩

set_option maxHeartbeats 4000000 in
theorem qOf_c {lv : Value} {lo : List Int} {yv : Value} {yo : List Int} {c : Int} {w : World} (h_lv : Ro w NoX (il .i64 lv lo)) (h_yv : Ro w NoX (il .i64 yv yo)) (h1 : lo.length ≤ 1000) (h2 : yo.length ≤ 1000) :
    Calls Tryd.prog 32 #[.agg #[lv, yv], .int .i64 c] w fun e w' => e = .returned (.tuple #[.agg #[.int .i64 (rkR lo yo c).1, .int .i64 (rkR lo yo c).2], .int .i64 (rkE lo yo c)]) ∧ St w NoX [] w' := by
  refine calls_in 23 Tryd.func32 rfl rfl (by simp) (fun A0 hsz0 hdf0 hargs => ?_)
  have l0_0 := hargs 0 (.agg #[lv, yv]) rfl
  have l1_0 := hargs 1 (.int .i64 c) rfl
  clear hargs; replace hsz0 : SzN A0 23 := ⟨hsz0⟩
  have hS := St.nil w
  have bh_lv := SlN.le (sl_SlN h_lv.at)
  have bh_yv := SlN.le (sl_SlN h_yv.at)
  refine wp_seq_k (fun K1 hK1 => ?_)
  -- region 0
  refine region_in ?_
  refine W_boxS (zs := #[lv, yv]) hS rfl rfl rfl l0_0 (by rfl) (fun g2 w2 c2 hc2 hS2 => ?_)
  replace hS2 : St w NoX [c2] w2 := hS2
  refine W_allocS (z := .agg #[.int .i64 0, .int .i64 0]) (zs := #[.int .i64 0, .int .i64 0]) hS2 rfl rfl rfl (by kernel_rfl) (by rfl) (fun g3 w3 c3 hc3 hS3 => ?_)
  replace hS3 : St w NoX [c3, c2] w3 := hS3
  refine W_v rfl rfl (V_asg rfl rfl) ?_
  refine W_end ?_
  refine gen_Q (fun A4 hA4 => ?_)
  have hsz4 : SzN A4 23 := by rw [hA4]; infer_instance
  have hdf4 : A4.defers = [] := by rw [hA4]; simp only [df_put]; exact hdf0
  have l1_4 := lookE hA4 1 (es rfl (es rfl (es rfl l1_0)))
  have l2_4 := lookE hA4 2 (es rfl (es rfl (et rfl)))
  have l4_4 := lookE hA4 4 (es rfl (et rfl))
  clear hA4 hsz0 hdf0 l0_0 l1_0
  refine then_n (hK1 _ _ ?_)
  clear hK1
  refine wp_seq_k (fun K5 hK5 => ?_)
  -- region 1
  refine region_in ?_
  refine W_r rfl rfl (VR_ldA rfl l2_4 (hS3.obj 1 rfl hc2) Tryd.underlying24 rfl (by kernel_rfl)) ?_
  refine W_v rfl rfl (V_mov rfl (es rfl l1_4)) ?_
  refine W_call rfl rfl rfl Tryd.func46 (by kernel_rfl) rfl (args2 (es rfl (et rfl)) (et rfl)) (lift0 (rFind_c (c := c) (hS3.roC h_lv).ints (hS3.roC h_yv).ints (by first | omega | (simp; done) | (simp; omega)) (by first | omega | (simp; done) | (simp; omega)))) ?_
  rintro _ w6 ⟨rfl, hP6⟩
  refine ⟨_, rfl, ?_⟩
  have hS6 := hS3.join hP6
  replace hS6 : St w NoX [c3, c2] w6 := hS6
  refine W_v rfl rfl (V_mov rfl (et rfl)) ?_
  refine W_v rfl rfl (V_ext (v := .int .i64 ((findS lo yo c).1)) rfl (et rfl) rfl) ?_
  refine W_v rfl rfl (V_ext (v := .int .i64 ((findS lo yo c).2.1)) rfl (es rfl (et rfl)) rfl) ?_
  refine W_v rfl rfl (V_ext (v := .int .i64 ((findS lo yo c).2.2)) rfl (es rfl (es rfl (et rfl))) rfl) ?_
  refine W_v rfl rfl (V_asg rfl (es rfl (es rfl (et rfl)))) ?_
  refine W_v rfl rfl (V_asg rfl (es rfl (es rfl (et rfl)))) ?_
  refine W_v rfl rfl (V_asg rfl (es rfl (es rfl (et rfl)))) ?_
  refine W_end ?_
  refine gen_Q (fun A7 hA7 => ?_)
  have hsz7 : SzN A7 23 := by rw [hA7]; infer_instance
  have hdf7 : A7.defers = [] := by rw [hA7]; simp only [df_put]; exact hdf4
  have l4_7 := lookE hA7 4 (es rfl (es rfl (es rfl (es rfl (es rfl (es rfl (es rfl (es rfl (es rfl (es rfl l4_4))))))))))
  have l6_7 := lookE hA7 6 (es rfl (es rfl (et rfl)))
  have l7_7 := lookE hA7 7 (es rfl (et rfl))
  have l8_7 := lookE hA7 8 (et rfl)
  clear hA7 hsz4 hdf4 l1_4 l2_4 l4_4
  have hS8 : St w NoX [c3] w6 := hS6.sel [0] (by decide) rfl
  refine then_n (hK5 _ _ ?_)
  clear hK5
  refine wp_seq_k (fun K9 hK9 => ?_)
  refine wp_seq_k (fun K10 hK10 => ?_)
  -- region 2
  refine region_in ?_
  refine W_v rfl rfl (V_mov rfl l8_7) ?_
  refine W_v rfl rfl (V_eql rfl (et rfl) rfl) ?_
  refine W_end ?_
  refine gen_Q (fun A11 hA11 => ?_)
  have hsz11 : SzN A11 23 := by rw [hA11]; infer_instance
  have hdf11 : A11.defers = [] := by rw [hA11]; simp only [df_put]; exact hdf7
  have l4_11 := lookE hA11 4 (es rfl (es rfl l4_7))
  have l6_11 := lookE hA11 6 (es rfl (es rfl l6_7))
  have l7_11 := lookE hA11 7 (es rfl (es rfl l7_7))
  have l8_11 := lookE hA11 8 (es rfl (es rfl l8_7))
  have l17_11 := lookE hA11 17 (et rfl)
  clear hA11 hsz7 hdf7 l4_7 l6_7 l7_7 l8_7
  refine then_n (hK10 _ _ ?_)
  clear hK10
  refine cond_dec l17_11 (fun c12 => ?_) (fun c12 => ?_)
  · skip
    refine wp_seq_k (fun K13 hK13 => ?_)
    -- region 3
    refine region_in ?_
    refine W_v rfl rfl (V_bldS (n := 2) (z := .agg #[.int .i64 0, .int .i64 0]) rfl (parts2 rfl rfl) (by kernel_rfl) (by simp only [List.all_cons, List.all_nil, Bool.and_true] <;> rfl) (by kernel_rfl) (by simp only [List.foldl_cons, List.foldl_nil, Value.cells, List.setIfInBounds_toArray, List.set_cons_succ, List.set_cons_zero] <;> rfl)) ?_
    refine W_stAS 0 hS8 rfl hc3 rfl rfl rfl (es rfl l4_11) (et rfl) (by first | (rw [List.all_toArray] <;> rfl) | (simp only [List.all_toArray, List.all_cons, List.all_nil] <;> rfl)) (by rfl) (by kernel_rfl) (fun w14 c14 hc14 hS14 => ?_)
    replace hS14 : St w NoX [c14] w14 := hS14
    refine W_v rfl rfl (V_asg rfl rfl) ?_
    refine W_end ?_
    refine gen_Q (fun A15 hA15 => ?_)
    have hsz15 : SzN A15 23 := by rw [hA15]; infer_instance
    have hdf15 : A15.defers = [] := by rw [hA15]; simp only [df_put]; exact hdf11
    have l4_15 := lookE hA15 4 (es rfl (es rfl l4_11))
    have l5_15 := lookE hA15 5 (et rfl)
    clear hA15 hsz11 hdf11 l4_11 l6_11 l7_11 l8_11 l17_11
    refine then_n (hK13 _ _ ?_)
    clear hK13
    refine wp_ret ?_
    refine then_ret ?_
    refine ret_in (results_2 Tryd.results32 (rv_cellA l4_15 (hS14.obj 0 rfl hc14) Tryd.underlying50 rfl (by kernel_rfl)) (rv_tmp l5_15)) hdf15 ?_
    -- leaf T
    have h : rkE lo yo c = 0 ∧ rkR lo yo c = (-1, -1) := rkR_none c12
    rw [h.1, h.2]
    exact ⟨rfl, hS14.fin0⟩
  · skip
    refine wp_skip ?_
    refine then_n (hK9 _ _ ?_)
    clear hK9
    refine wp_seq_k (fun K16 hK16 => ?_)
    -- region 4
    refine region_in ?_
    refine W_v rfl rfl (V_mov rfl l6_11) ?_
    refine W_v rfl rfl (V_mov rfl (es rfl l7_11)) ?_
    refine W_v rfl rfl (V_bldS (n := 2) (z := .agg #[.int .i64 0, .int .i64 0]) rfl (parts2 (es rfl (et rfl)) (et rfl)) (by kernel_rfl) (by simp only [List.all_cons, List.all_nil, Bool.and_true] <;> rfl) (by kernel_rfl) (by simp only [List.foldl_cons, List.foldl_nil, Value.cells, List.setIfInBounds_toArray, List.set_cons_succ, List.set_cons_zero] <;> rfl)) ?_
    refine W_v rfl rfl (V_mov rfl (es rfl (es rfl (es rfl l8_11)))) ?_
    refine W_stAS 0 hS8 rfl hc3 rfl rfl rfl (es rfl (es rfl (es rfl (es rfl l4_11)))) (es rfl (et rfl)) (by first | (rw [List.all_toArray] <;> rfl) | (simp only [List.all_toArray, List.all_cons, List.all_nil] <;> rfl)) (by rfl) (by kernel_rfl) (fun w17 c17 hc17 hS17 => ?_)
    replace hS17 : St w NoX [c17] w17 := hS17
    refine W_v rfl rfl (V_asg rfl (et rfl)) ?_
    refine W_end ?_
    refine gen_Q (fun A18 hA18 => ?_)
    have hsz18 : SzN A18 23 := by rw [hA18]; infer_instance
    have hdf18 : A18.defers = [] := by rw [hA18]; simp only [df_put]; exact hdf11
    have l4_18 := lookE hA18 4 (es rfl (es rfl (es rfl (es rfl (es rfl l4_11)))))
    have l5_18 := lookE hA18 5 (et rfl)
    clear hA18 hsz11 hdf11 l4_11 l6_11 l7_11 l8_11 l17_11
    refine then_n (hK16 _ _ ?_)
    clear hK16
    refine wp_ret ?_
    refine ret_in (results_2 Tryd.results32 (rv_cellA l4_18 (hS17.obj 0 rfl hc17) Tryd.underlying50 rfl (by kernel_rfl)) (rv_tmp l5_18)) hdf18 ?_
    -- leaf F
    have h : rkE lo yo c = (findS lo yo c).2.2 ∧ rkR lo yo c = ((findS lo yo c).1, (findS lo yo c).2.1) := rkR_find c12
    rw [h.1, h.2]
    exact ⟨rfl, hS17.fin0⟩

end Go.Proofs.YtodbfgfbkgpooaaDoor