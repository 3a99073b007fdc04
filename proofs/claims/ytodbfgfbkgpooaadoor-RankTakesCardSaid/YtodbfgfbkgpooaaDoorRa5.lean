import Derived.Test.YtodbfgfbkgpooaaDoorProg
import Derived.Test.YtodbfgfbkgpooaaDoorRa4
import Derived.Test.YtodbfgfbkgpooaaDoorPl12
namespace Go.Proofs.YtodbfgfbkgpooaaDoor
open Go.RowKit Go.Own


set_option maxHeartbeats 4000000 in
theorem kCmp_c {lv : Value} {lo : List Int} {yv : Value} {yo : List Int} {a : Int} {b : Int} {gT0 : Nat} {w : World} (h_lv : Ro w NoX (il .i64 lv lo)) (h_yv : Ro w NoX (il .i64 yv yo)) (hG0 : Ro w NoX (bx 0 gT0 #[.int .i64 (-1), .int .i64 (-1)]))  :
    Calls Tryd.prog 13 #[.agg #[lv, yv], .int .i64 a, .int .i64 b] w fun e w' => e = .returned (.tuple #[.int .i64 (cmN lo yo a b), .int .i64 (cmE lo yo a b)]) ∧ St w NoX [] w' := by
  refine calls_in 49 Tryd.func13 rfl rfl (by simp) (fun A0 hsz0 hdf0 hargs => ?_)
  have l0_0 := hargs 0 (.agg #[lv, yv]) rfl
  have l1_0 := hargs 1 (.int .i64 a) rfl
  have l2_0 := hargs 2 (.int .i64 b) rfl
  clear hargs; replace hsz0 : SzN A0 49 := ⟨hsz0⟩
  have hS := St.nil w
  have bh_lv := SlN.le (sl_SlN h_lv.at)
  have bh_yv := SlN.le (sl_SlN h_yv.at)
  refine wp_seq_k (fun K1 hK1 => ?_)
  -- region 0
  refine region_in ?_
  refine W_boxS (zs := #[lv, yv]) hS rfl rfl rfl l0_0 (by rfl) (fun g2 w2 c2 hc2 hS2 => ?_)
  replace hS2 : St w NoX [c2] w2 := hS2
  refine W_v rfl rfl (V_asg rfl rfl) ?_
  refine W_v rfl rfl (V_asg rfl rfl) ?_
  refine W_end ?_
  refine gen_Q (fun A3 hA3 => ?_)
  have hsz3 : SzN A3 49 := by rw [hA3]; infer_instance
  have hdf3 : A3.defers = [] := by rw [hA3]; simp only [df_put]; exact hdf0
  have l1_3 := lookE hA3 1 (es rfl (es rfl (es rfl l1_0)))
  have l2_3 := lookE hA3 2 (es rfl (es rfl (es rfl l2_0)))
  have l3_3 := lookE hA3 3 (es rfl (es rfl (et rfl)))
  clear hA3 hsz0 hdf0 l0_0 l1_0 l2_0
  refine then_n (hK1 _ _ ?_)
  clear hK1
  refine wp_seq_k (fun K4 hK4 => ?_)
  -- region 1
  refine region_in ?_
  refine W_r rfl rfl (VR_ldA rfl l3_3 (hS2.obj 0 rfl hc2) Tryd.underlying24 rfl (by kernel_rfl)) ?_
  refine W_v rfl rfl (V_mov rfl (es rfl l1_3)) ?_
  refine W_v rfl rfl (V_mov rfl (es rfl (es rfl l2_3))) ?_
  have hll5 : [a, b].length = 2 := rfl
  refine W_litS (vs := [.int .i64 (a), .int .i64 (b)]) (xs := ([a, b].map (Value.int .i64))) 1 hS2 rfl rfl rfl (parts2 (es rfl (et rfl)) (et rfl)) rfl Tryd.underlying22 (by kernel_rfl) (by decide) (by intro v hv; simp only [List.mem_cons, List.not_mem_nil, or_false] at hv; rcases hv with rfl | rfl <;> rfl) (by rfl) (fun g5 w5 c5 hc5 hS5 => ?_)
  replace hc5 : c5 = io .i64 (.slice (some ⟨g5, 0, none⟩) 2 2) [a, b] := hc5
  replace hS5 : St w NoX [c5, c2] w5 := hS5
  refine W_call rfl rfl rfl Tryd.func38 (by kernel_rfl) rfl (args2 (es rfl (es rfl (es rfl (et rfl)))) (et rfl)) (kof_c (hS5.roC h_lv) (hS5.roC h_yv) (hS5.chC 0 rfl hc5).own (hS5.roC hG0) ) ?_
  rintro _ w6 ⟨rfl, hP6⟩
  refine ⟨_, rfl, ?_⟩
  have hS6 := hS5.join hP6
  replace hS6 : St w NoX [c5, c2] w6 := hS6
  refine W_v rfl rfl (V_mov rfl (et rfl)) ?_
  refine W_v rfl rfl (V_ext (v := .agg (((ofT lo yo [a, b]).flatMap rkC).toArray)) rfl (et rfl) rfl) ?_
  refine W_v rfl rfl (V_ext (v := .int .i64 ((ofE lo yo [a, b]))) rfl (es rfl (et rfl)) rfl) ?_
  refine W_allocS (z := .agg (((List.replicate 24 (0, 0)).flatMap rkC).toArray)) (zs := ((((List.replicate 24 (0, 0)).flatMap rkC).toArray))) hS6 rfl rfl rfl (by kernel_rfl) (by rfl) (fun g7 w7 c7 hc7 hS7 => ?_)
  replace hS7 : St w NoX [c7, c5, c2] w7 := hS7
  refine W_stAS 0 hS7 rfl hc7 rfl rfl rfl (et rfl) (es rfl (es rfl (et rfl))) (arrR_one rkC_one) (arrR_sz rkC_len List.length_replicate (ofT_len _ _ _)) (arrR_info rkC_len (ofT_len _ _ _) (by kernel_rfl)) (fun w8 c8 hc8 hS8 => ?_)
  replace hS8 : St w NoX [c8, c5, c2] w8 := hS8
  refine W_v rfl rfl (V_asg rfl (es rfl (et rfl))) ?_
  refine W_end ?_
  refine gen_Q (fun A9 hA9 => ?_)
  have hsz9 : SzN A9 49 := by rw [hA9]; infer_instance
  have hdf9 : A9.defers = [] := by rw [hA9]; simp only [df_put]; exact hdf3
  have l1_9 := lookE hA9 1 (es rfl (es rfl (es rfl (es rfl (es rfl (es rfl (es rfl (es rfl (es rfl (es rfl l1_3))))))))))
  have l2_9 := lookE hA9 2 (es rfl (es rfl (es rfl (es rfl (es rfl (es rfl (es rfl (es rfl (es rfl (es rfl l2_3))))))))))
  have l8_9 := lookE hA9 8 (es rfl (et rfl))
  have l9_9 := lookE hA9 9 (et rfl)
  clear hA9 hsz3 hdf3 l1_3 l2_3 l3_3
  have hS10 : St w NoX [c8] w8 := hS8.sel [0] (by decide) rfl
  refine then_n (hK4 _ _ ?_)
  clear hK4
  refine wp_seq_k (fun K11 hK11 => ?_)
  refine wp_seq_k (fun K12 hK12 => ?_)
  -- region 2
  refine region_in ?_
  refine W_v rfl rfl (V_mov rfl l9_9) ?_
  refine W_v rfl rfl (V_neq rfl (et rfl) rfl) ?_
  refine W_end ?_
  refine gen_Q (fun A13 hA13 => ?_)
  have hsz13 : SzN A13 49 := by rw [hA13]; infer_instance
  have hdf13 : A13.defers = [] := by rw [hA13]; simp only [df_put]; exact hdf9
  have l1_13 := lookE hA13 1 (es rfl (es rfl l1_9))
  have l2_13 := lookE hA13 2 (es rfl (es rfl l2_9))
  have l8_13 := lookE hA13 8 (es rfl (es rfl l8_9))
  have l9_13 := lookE hA13 9 (es rfl (es rfl l9_9))
  have l21_13 := lookE hA13 21 (et rfl)
  clear hA13 hsz9 hdf9 l1_9 l2_9 l8_9 l9_9
  refine then_n (hK12 _ _ ?_)
  clear hK12
  refine cond_dec l21_13 (fun c14 => ?_) (fun c14 => ?_)
  · skip
    refine wp_seq_k (fun K15 hK15 => ?_)
    -- region 3
    refine region_in ?_
    refine W_v rfl rfl (V_mov rfl l9_13) ?_
    refine W_v rfl rfl (V_asg rfl rfl) ?_
    refine W_v rfl rfl (V_asg rfl (es rfl (et rfl))) ?_
    refine W_end ?_
    refine gen_Q (fun A16 hA16 => ?_)
    have hsz16 : SzN A16 49 := by rw [hA16]; infer_instance
    have hdf16 : A16.defers = [] := by rw [hA16]; simp only [df_put]; exact hdf13
    have l6_16 := lookE hA16 6 (es rfl (et rfl))
    have l7_16 := lookE hA16 7 (et rfl)
    clear hA16 hsz13 hdf13 l1_13 l2_13 l8_13 l9_13 l21_13
    have hS17 : St w NoX [] w8 := hS10.sel [] (by decide) rfl
    refine then_n (hK15 _ _ ?_)
    clear hK15
    refine wp_ret ?_
    refine then_ret ?_
    refine ret_in (results_2 Tryd.results13 (rv_tmp l6_16) (rv_tmp l7_16)) hdf16 ?_
    -- leaf T
    have e0 : cmN lo yo a b = 0 := by exact cmN_err (by rw [cmE_of c14]; exact c14)
    have e1 : cmE lo yo a b = (ofE lo yo [a, b]) := by exact cmE_of c14
    rw [e0, e1]
    exact ⟨rfl, hS17.fin0⟩
  · skip
    have hE : ofE lo yo [a, b] = 0 := by simpa using c14
    have hk_a := ofE_mem hE (c := a) (by simp)
    have hk_b := ofE_mem hE (c := b) (by simp)
    have hra := (chkE_ok hk_a).2.2
    have hrb := (chkE_ok hk_b).2.2
    refine wp_skip ?_
    refine then_n (hK11 _ _ ?_)
    clear hK11
    refine wp_seq_k (fun K18 hK18 => ?_)
    -- region 4
    have k19 : a.toNat < 24 := by omega
    obtain ⟨y20, hy20⟩ := get_some (xs := (ofT lo yo [a, b])) (k := a.toNat) (by rw [(ofT_len _ _ _)]; omega)
    have hr20 := ofT_row hE hk_a hy20
    have k21 : b.toNat < 24 := by omega
    obtain ⟨y22, hy22⟩ := get_some (xs := (ofT lo yo [a, b])) (k := b.toNat) (by rw [(ofT_len _ _ _)]; omega)
    have hr22 := ofT_row hE hk_b hy22
    refine join_wp (R := fun A' w' => ∃ g24 g23 : Nat, SzN A' 49 ∧ A'.defers = [] ∧ EV A' (.tmp 10) = .pointer (some ⟨g23, 0, none⟩) ∧ EV A' (.tmp 11) = .pointer (some ⟨g24, 0, none⟩) ∧ St w NoX [bx g24 50 #[.int .i64 (y22.1), .int .i64 (y22.2)], bx g23 50 #[.int .i64 (y20.1), .int .i64 (y20.2)]] w') ?_ ?_
    · skip
      refine region_anyQ (by kernel_rfl) 10 rfl (fun w119 hx119 => ?_)
      have hS119 := hS10.grow hx119
      refine AX_first (i := 0) (by kernel_rfl) (by kernel_rfl) (by kernel_rfl) rfl rfl rfl (V_mov rfl l1_13) ?_
      refine AX_cast (l2 := #[true, false, false, false, false, false, false, false, false, false]) ?_ (by kernel_rfl)
      have k120 : a.toNat < 24 := by omega
      refine AX_first (i := 1) (by kernel_rfl) (by kernel_rfl) (by kernel_rfl) rfl rfl rfl (V_ixA (sz := 2) (off' := a.toNat * 2) (a.toNat) rfl (es rfl l8_13) (et rfl) (by omega) Tryd.underlying60 k120 (by kernel_rfl) (by omega)) ?_
      refine AX_cast (l2 := #[true, true, false, false, false, false, false, false, false, false]) ?_ (by kernel_rfl)
      refine AX_first (i := 3) (by kernel_rfl) (by kernel_rfl) (by kernel_rfl) rfl rfl rfl (V_mov rfl (es rfl (es rfl l2_13))) ?_
      refine AX_cast (l2 := #[true, true, false, true, false, false, false, false, false, false]) ?_ (by kernel_rfl)
      have k121 : b.toNat < 24 := by omega
      refine AX_first (i := 4) (by kernel_rfl) (by kernel_rfl) (by kernel_rfl) rfl rfl rfl (V_ixA (sz := 2) (off' := b.toNat * 2) (b.toNat) rfl (es rfl (es rfl (es rfl l8_13))) (et rfl) (by omega) Tryd.underlying60 k121 (by kernel_rfl) (by omega)) ?_
      refine AX_cast (l2 := #[true, true, false, true, true, false, false, false, false, false]) ?_ (by kernel_rfl)
      refine AX_4 (i := 2) (j := 5) (m := 6) (q := 7) (by kernel_rfl) rfl rfl rfl rfl ?_ ?_ ?_ ?_
      · skip
        refine W_r rfl rfl (VR_ldP (ys := rkC y20) rfl (es rfl (es rfl (et rfl))) (hS119.obj 0 rfl hc8) (arrR_at rkC_len hy20) Tryd.underlying50 rfl (by kernel_rfl)) ?_
        refine W_end ?_
        refine kq _ ?_
        refine AX_cast (l2 := #[true, true, true, true, true, false, false, false, false, false]) ?_ (by kernel_rfl)
        refine AX_3 (i := 5) (j := 6) (m := 7) (by kernel_rfl) rfl rfl rfl ?_ ?_ ?_
        · skip
          refine W_r rfl rfl (VR_ldP (ys := rkC y22) rfl (es rfl (et rfl)) (hS119.obj 0 rfl hc8) (arrR_at rkC_len hy22) Tryd.underlying50 rfl (by kernel_rfl)) ?_
          refine W_end ?_
          refine kq _ ?_
          refine AX_cast (l2 := #[true, true, true, true, true, true, false, false, false, false]) ?_ (by kernel_rfl)
          refine AX_2 (i := 6) (j := 7) (by kernel_rfl) rfl rfl ?_ ?_
          · skip
            refine W_allocS (z := .agg #[.int .i64 0, .int .i64 0]) (zs := #[.int .i64 0, .int .i64 0]) hS119 rfl rfl rfl (by kernel_rfl) (by rfl) (fun g124 w124 c124 hc124 hS124 => ?_)
            replace hS124 : St w NoX [c124, c8] w124 := hS124
            refine W_end ?_
            refine kq _ ?_
            refine AX_cast (l2 := #[true, true, true, true, true, true, true, false, false, false]) ?_ (by kernel_rfl)
            refine AX_1 (i := 7) (by kernel_rfl) rfl ?_
            refine W_allocS (z := .agg #[.int .i64 0, .int .i64 0]) (zs := #[.int .i64 0, .int .i64 0]) hS124 rfl rfl rfl (by kernel_rfl) (by rfl) (fun g125 w125 c125 hc125 hS125 => ?_)
            replace hS125 : St w NoX [c125, c124, c8] w125 := hS125
            refine W_end ?_
            refine kq _ ?_
            refine AX_cast (l2 := #[true, true, true, true, true, true, true, true, false, false]) ?_ (by kernel_rfl)
            refine AX_1 (i := 8) (by kernel_rfl) rfl ?_
            refine W_stAS 1 hS125 rfl hc124 rfl rfl rfl (es rfl (et rfl)) (es rfl (es rfl (es rfl (et rfl)))) (by first | (rw [List.all_toArray] <;> rfl) | (simp only [List.all_toArray, List.all_cons, List.all_nil] <;> rfl)) (by rfl) (by kernel_rfl) (fun w126 c126 hc126 hS126 => ?_)
            replace hS126 : St w NoX [c125, c126, c8] w126 := hS126
            refine W_end ?_
            refine kq _ ?_
            refine AX_cast (l2 := #[true, true, true, true, true, true, true, true, true, false]) ?_ (by kernel_rfl)
            refine AX_1 (i := 9) (by kernel_rfl) rfl ?_
            refine W_stAS 0 hS126 rfl hc125 rfl rfl rfl (et rfl) (es rfl (es rfl (et rfl))) (by first | (rw [List.all_toArray] <;> rfl) | (simp only [List.all_toArray, List.all_cons, List.all_nil] <;> rfl)) (by rfl) (by kernel_rfl) (fun w127 c127 hc127 hS127 => ?_)
            replace hS127 : St w NoX [c127, c126, c8] w127 := hS127
            refine W_end ?_
            refine kq _ ?_
            refine AX_cast (l2 := #[true, true, true, true, true, true, true, true, true, true]) ?_ (by kernel_rfl)
            refine AX_end (by kernel_rfl) ?_
            refine Qo_normal ?_
            have hS128 : St w NoX [c127, c126] w127 := hS127.sel [0, 1] (by decide) rfl
            exact ⟨g125, g124, inferInstance, (by simp only [df_put]; exact hdf13), (es rfl (et rfl)), (et rfl), (by subst hc127 hc126; exact hS128)⟩
          · skip
            refine W_allocS (z := .agg #[.int .i64 0, .int .i64 0]) (zs := #[.int .i64 0, .int .i64 0]) hS119 rfl rfl rfl (by kernel_rfl) (by rfl) (fun g129 w129 c129 hc129 hS129 => ?_)
            replace hS129 : St w NoX [c129, c8] w129 := hS129
            refine W_end ?_
            refine kq _ ?_
            refine AX_cast (l2 := #[true, true, true, true, true, true, false, true, false, false]) ?_ (by kernel_rfl)
            refine AX_1 (i := 6) (by kernel_rfl) rfl ?_
            refine W_allocS (z := .agg #[.int .i64 0, .int .i64 0]) (zs := #[.int .i64 0, .int .i64 0]) hS129 rfl rfl rfl (by kernel_rfl) (by rfl) (fun g130 w130 c130 hc130 hS130 => ?_)
            replace hS130 : St w NoX [c130, c129, c8] w130 := hS130
            refine W_end ?_
            refine kq _ ?_
            refine AX_cast (l2 := #[true, true, true, true, true, true, true, true, false, false]) ?_ (by kernel_rfl)
            refine AX_1 (i := 8) (by kernel_rfl) rfl ?_
            refine W_stAS 0 hS130 rfl hc130 rfl rfl rfl (et rfl) (es rfl (es rfl (es rfl (et rfl)))) (by first | (rw [List.all_toArray] <;> rfl) | (simp only [List.all_toArray, List.all_cons, List.all_nil] <;> rfl)) (by rfl) (by kernel_rfl) (fun w131 c131 hc131 hS131 => ?_)
            replace hS131 : St w NoX [c131, c129, c8] w131 := hS131
            refine W_end ?_
            refine kq _ ?_
            refine AX_cast (l2 := #[true, true, true, true, true, true, true, true, true, false]) ?_ (by kernel_rfl)
            refine AX_1 (i := 9) (by kernel_rfl) rfl ?_
            refine W_stAS 1 hS131 rfl hc129 rfl rfl rfl (es rfl (et rfl)) (es rfl (es rfl (et rfl))) (by first | (rw [List.all_toArray] <;> rfl) | (simp only [List.all_toArray, List.all_cons, List.all_nil] <;> rfl)) (by rfl) (by kernel_rfl) (fun w132 c132 hc132 hS132 => ?_)
            replace hS132 : St w NoX [c131, c132, c8] w132 := hS132
            refine W_end ?_
            refine kq _ ?_
            refine AX_cast (l2 := #[true, true, true, true, true, true, true, true, true, true]) ?_ (by kernel_rfl)
            refine AX_end (by kernel_rfl) ?_
            refine Qo_normal ?_
            have hS133 : St w NoX [c132, c131] w132 := hS132.sel [1, 0] (by decide) rfl
            exact ⟨g129, g130, inferInstance, (by simp only [df_put]; exact hdf13), (et rfl), (es rfl (et rfl)), (by subst hc132 hc131; exact hS133)⟩
        · skip
          refine W_allocS (z := .agg #[.int .i64 0, .int .i64 0]) (zs := #[.int .i64 0, .int .i64 0]) hS119 rfl rfl rfl (by kernel_rfl) (by rfl) (fun g134 w134 c134 hc134 hS134 => ?_)
          replace hS134 : St w NoX [c134, c8] w134 := hS134
          refine W_end ?_
          refine kq _ ?_
          refine AX_cast (l2 := #[true, true, true, true, true, false, true, false, false, false]) ?_ (by kernel_rfl)
          refine AX_2 (i := 5) (j := 7) (by kernel_rfl) rfl rfl ?_ ?_
          · skip
            refine W_r rfl rfl (VR_ldP (ys := rkC y22) rfl (es rfl (es rfl (et rfl))) (hS134.obj 1 rfl hc8) (arrR_at rkC_len hy22) Tryd.underlying50 rfl (by kernel_rfl)) ?_
            refine W_end ?_
            refine kq _ ?_
            refine AX_cast (l2 := #[true, true, true, true, true, true, true, false, false, false]) ?_ (by kernel_rfl)
            refine AX_1 (i := 7) (by kernel_rfl) rfl ?_
            refine W_allocS (z := .agg #[.int .i64 0, .int .i64 0]) (zs := #[.int .i64 0, .int .i64 0]) hS134 rfl rfl rfl (by kernel_rfl) (by rfl) (fun g136 w136 c136 hc136 hS136 => ?_)
            replace hS136 : St w NoX [c136, c134, c8] w136 := hS136
            refine W_end ?_
            refine kq _ ?_
            refine AX_cast (l2 := #[true, true, true, true, true, true, true, true, false, false]) ?_ (by kernel_rfl)
            refine AX_1 (i := 8) (by kernel_rfl) rfl ?_
            refine W_stAS 1 hS136 rfl hc134 rfl rfl rfl (es rfl (es rfl (et rfl))) (es rfl (es rfl (es rfl (et rfl)))) (by first | (rw [List.all_toArray] <;> rfl) | (simp only [List.all_toArray, List.all_cons, List.all_nil] <;> rfl)) (by rfl) (by kernel_rfl) (fun w137 c137 hc137 hS137 => ?_)
            replace hS137 : St w NoX [c136, c137, c8] w137 := hS137
            refine W_end ?_
            refine kq _ ?_
            refine AX_cast (l2 := #[true, true, true, true, true, true, true, true, true, false]) ?_ (by kernel_rfl)
            refine AX_1 (i := 9) (by kernel_rfl) rfl ?_
            refine W_stAS 0 hS137 rfl hc136 rfl rfl rfl (et rfl) (es rfl (et rfl)) (by first | (rw [List.all_toArray] <;> rfl) | (simp only [List.all_toArray, List.all_cons, List.all_nil] <;> rfl)) (by rfl) (by kernel_rfl) (fun w138 c138 hc138 hS138 => ?_)
            replace hS138 : St w NoX [c138, c137, c8] w138 := hS138
            refine W_end ?_
            refine kq _ ?_
            refine AX_cast (l2 := #[true, true, true, true, true, true, true, true, true, true]) ?_ (by kernel_rfl)
            refine AX_end (by kernel_rfl) ?_
            refine Qo_normal ?_
            have hS139 : St w NoX [c138, c137] w138 := hS138.sel [0, 1] (by decide) rfl
            exact ⟨g136, g134, inferInstance, (by simp only [df_put]; exact hdf13), (es rfl (es rfl (et rfl))), (et rfl), (by subst hc138 hc137; exact hS139)⟩
          · skip
            refine W_allocS (z := .agg #[.int .i64 0, .int .i64 0]) (zs := #[.int .i64 0, .int .i64 0]) hS134 rfl rfl rfl (by kernel_rfl) (by rfl) (fun g140 w140 c140 hc140 hS140 => ?_)
            replace hS140 : St w NoX [c140, c134, c8] w140 := hS140
            refine W_end ?_
            refine kq _ ?_
            refine AX_cast (l2 := #[true, true, true, true, true, false, true, true, false, false]) ?_ (by kernel_rfl)
            refine AX_2 (i := 5) (j := 8) (by kernel_rfl) rfl rfl ?_ ?_
            · skip
              refine W_r rfl rfl (VR_ldP (ys := rkC y22) rfl (es rfl (es rfl (es rfl (et rfl)))) (hS140.obj 2 rfl hc8) (arrR_at rkC_len hy22) Tryd.underlying50 rfl (by kernel_rfl)) ?_
              refine W_end ?_
              refine kq _ ?_
              refine AX_cast (l2 := #[true, true, true, true, true, true, true, true, false, false]) ?_ (by kernel_rfl)
              refine AX_1 (i := 8) (by kernel_rfl) rfl ?_
              refine W_stAS 1 hS140 rfl hc134 rfl rfl rfl (es rfl (es rfl (et rfl))) (es rfl (es rfl (es rfl (et rfl)))) (by first | (rw [List.all_toArray] <;> rfl) | (simp only [List.all_toArray, List.all_cons, List.all_nil] <;> rfl)) (by rfl) (by kernel_rfl) (fun w142 c142 hc142 hS142 => ?_)
              replace hS142 : St w NoX [c140, c142, c8] w142 := hS142
              refine W_end ?_
              refine kq _ ?_
              refine AX_cast (l2 := #[true, true, true, true, true, true, true, true, true, false]) ?_ (by kernel_rfl)
              refine AX_1 (i := 9) (by kernel_rfl) rfl ?_
              refine W_stAS 0 hS142 rfl hc140 rfl rfl rfl (es rfl (et rfl)) (et rfl) (by first | (rw [List.all_toArray] <;> rfl) | (simp only [List.all_toArray, List.all_cons, List.all_nil] <;> rfl)) (by rfl) (by kernel_rfl) (fun w143 c143 hc143 hS143 => ?_)
              replace hS143 : St w NoX [c143, c142, c8] w143 := hS143
              refine W_end ?_
              refine kq _ ?_
              refine AX_cast (l2 := #[true, true, true, true, true, true, true, true, true, true]) ?_ (by kernel_rfl)
              refine AX_end (by kernel_rfl) ?_
              refine Qo_normal ?_
              have hS144 : St w NoX [c143, c142] w143 := hS143.sel [0, 1] (by decide) rfl
              exact ⟨g140, g134, inferInstance, (by simp only [df_put]; exact hdf13), (es rfl (es rfl (et rfl))), (es rfl (et rfl)), (by subst hc143 hc142; exact hS144)⟩
            · skip
              refine W_stAS 1 hS140 rfl hc134 rfl rfl rfl (es rfl (et rfl)) (es rfl (es rfl (et rfl))) (by first | (rw [List.all_toArray] <;> rfl) | (simp only [List.all_toArray, List.all_cons, List.all_nil] <;> rfl)) (by rfl) (by kernel_rfl) (fun w145 c145 hc145 hS145 => ?_)
              replace hS145 : St w NoX [c140, c145, c8] w145 := hS145
              refine W_end ?_
              refine kq _ ?_
              refine AX_cast (l2 := #[true, true, true, true, true, false, true, true, true, false]) ?_ (by kernel_rfl)
              refine AX_1 (i := 5) (by kernel_rfl) rfl ?_
              refine W_r rfl rfl (VR_ldP (ys := rkC y22) rfl (es rfl (es rfl (es rfl (et rfl)))) (hS145.obj 2 rfl hc8) (arrR_at rkC_len hy22) Tryd.underlying50 rfl (by kernel_rfl)) ?_
              refine W_end ?_
              refine kq _ ?_
              refine AX_cast (l2 := #[true, true, true, true, true, true, true, true, true, false]) ?_ (by kernel_rfl)
              refine AX_1 (i := 9) (by kernel_rfl) rfl ?_
              refine W_stAS 0 hS145 rfl hc140 rfl rfl rfl (es rfl (et rfl)) (et rfl) (by first | (rw [List.all_toArray] <;> rfl) | (simp only [List.all_toArray, List.all_cons, List.all_nil] <;> rfl)) (by rfl) (by kernel_rfl) (fun w147 c147 hc147 hS147 => ?_)
              replace hS147 : St w NoX [c147, c145, c8] w147 := hS147
              refine W_end ?_
              refine kq _ ?_
              refine AX_cast (l2 := #[true, true, true, true, true, true, true, true, true, true]) ?_ (by kernel_rfl)
              refine AX_end (by kernel_rfl) ?_
              refine Qo_normal ?_
              have hS148 : St w NoX [c147, c145] w147 := hS147.sel [0, 1] (by decide) rfl
              exact ⟨g140, g134, inferInstance, (by simp only [df_put]; exact hdf13), (es rfl (es rfl (et rfl))), (es rfl (et rfl)), (by subst hc147 hc145; exact hS148)⟩
        · skip
          refine W_allocS (z := .agg #[.int .i64 0, .int .i64 0]) (zs := #[.int .i64 0, .int .i64 0]) hS119 rfl rfl rfl (by kernel_rfl) (by rfl) (fun g149 w149 c149 hc149 hS149 => ?_)
          replace hS149 : St w NoX [c149, c8] w149 := hS149
          refine W_end ?_
          refine kq _ ?_
          refine AX_cast (l2 := #[true, true, true, true, true, false, false, true, false, false]) ?_ (by kernel_rfl)
          refine AX_2 (i := 5) (j := 6) (by kernel_rfl) rfl rfl ?_ ?_
          · skip
            refine W_r rfl rfl (VR_ldP (ys := rkC y22) rfl (es rfl (es rfl (et rfl))) (hS149.obj 1 rfl hc8) (arrR_at rkC_len hy22) Tryd.underlying50 rfl (by kernel_rfl)) ?_
            refine W_end ?_
            refine kq _ ?_
            refine AX_cast (l2 := #[true, true, true, true, true, true, false, true, false, false]) ?_ (by kernel_rfl)
            refine AX_1 (i := 6) (by kernel_rfl) rfl ?_
            refine W_allocS (z := .agg #[.int .i64 0, .int .i64 0]) (zs := #[.int .i64 0, .int .i64 0]) hS149 rfl rfl rfl (by kernel_rfl) (by rfl) (fun g151 w151 c151 hc151 hS151 => ?_)
            replace hS151 : St w NoX [c151, c149, c8] w151 := hS151
            refine W_end ?_
            refine kq _ ?_
            refine AX_cast (l2 := #[true, true, true, true, true, true, true, true, false, false]) ?_ (by kernel_rfl)
            refine AX_1 (i := 8) (by kernel_rfl) rfl ?_
            refine W_stAS 0 hS151 rfl hc151 rfl rfl rfl (et rfl) (es rfl (es rfl (es rfl (et rfl)))) (by first | (rw [List.all_toArray] <;> rfl) | (simp only [List.all_toArray, List.all_cons, List.all_nil] <;> rfl)) (by rfl) (by kernel_rfl) (fun w152 c152 hc152 hS152 => ?_)
            replace hS152 : St w NoX [c152, c149, c8] w152 := hS152
            refine W_end ?_
            refine kq _ ?_
            refine AX_cast (l2 := #[true, true, true, true, true, true, true, true, true, false]) ?_ (by kernel_rfl)
            refine AX_1 (i := 9) (by kernel_rfl) rfl ?_
            refine W_stAS 1 hS152 rfl hc149 rfl rfl rfl (es rfl (es rfl (et rfl))) (es rfl (et rfl)) (by first | (rw [List.all_toArray] <;> rfl) | (simp only [List.all_toArray, List.all_cons, List.all_nil] <;> rfl)) (by rfl) (by kernel_rfl) (fun w153 c153 hc153 hS153 => ?_)
            replace hS153 : St w NoX [c152, c153, c8] w153 := hS153
            refine W_end ?_
            refine kq _ ?_
            refine AX_cast (l2 := #[true, true, true, true, true, true, true, true, true, true]) ?_ (by kernel_rfl)
            refine AX_end (by kernel_rfl) ?_
            refine Qo_normal ?_
            have hS154 : St w NoX [c153, c152] w153 := hS153.sel [1, 0] (by decide) rfl
            exact ⟨g149, g151, inferInstance, (by simp only [df_put]; exact hdf13), (et rfl), (es rfl (es rfl (et rfl))), (by subst hc153 hc152; exact hS154)⟩
          · skip
            refine W_allocS (z := .agg #[.int .i64 0, .int .i64 0]) (zs := #[.int .i64 0, .int .i64 0]) hS149 rfl rfl rfl (by kernel_rfl) (by rfl) (fun g155 w155 c155 hc155 hS155 => ?_)
            replace hS155 : St w NoX [c155, c149, c8] w155 := hS155
            refine W_end ?_
            refine kq _ ?_
            refine AX_cast (l2 := #[true, true, true, true, true, false, true, true, false, false]) ?_ (by kernel_rfl)
            refine AX_2 (i := 5) (j := 8) (by kernel_rfl) rfl rfl ?_ ?_
            · skip
              refine W_r rfl rfl (VR_ldP (ys := rkC y22) rfl (es rfl (es rfl (es rfl (et rfl)))) (hS155.obj 2 rfl hc8) (arrR_at rkC_len hy22) Tryd.underlying50 rfl (by kernel_rfl)) ?_
              refine W_end ?_
              refine kq _ ?_
              refine AX_cast (l2 := #[true, true, true, true, true, true, true, true, false, false]) ?_ (by kernel_rfl)
              refine AX_1 (i := 8) (by kernel_rfl) rfl ?_
              refine W_stAS 0 hS155 rfl hc155 rfl rfl rfl (es rfl (et rfl)) (es rfl (es rfl (es rfl (et rfl)))) (by first | (rw [List.all_toArray] <;> rfl) | (simp only [List.all_toArray, List.all_cons, List.all_nil] <;> rfl)) (by rfl) (by kernel_rfl) (fun w157 c157 hc157 hS157 => ?_)
              replace hS157 : St w NoX [c157, c149, c8] w157 := hS157
              refine W_end ?_
              refine kq _ ?_
              refine AX_cast (l2 := #[true, true, true, true, true, true, true, true, true, false]) ?_ (by kernel_rfl)
              refine AX_1 (i := 9) (by kernel_rfl) rfl ?_
              refine W_stAS 1 hS157 rfl hc149 rfl rfl rfl (es rfl (es rfl (et rfl))) (et rfl) (by first | (rw [List.all_toArray] <;> rfl) | (simp only [List.all_toArray, List.all_cons, List.all_nil] <;> rfl)) (by rfl) (by kernel_rfl) (fun w158 c158 hc158 hS158 => ?_)
              replace hS158 : St w NoX [c157, c158, c8] w158 := hS158
              refine W_end ?_
              refine kq _ ?_
              refine AX_cast (l2 := #[true, true, true, true, true, true, true, true, true, true]) ?_ (by kernel_rfl)
              refine AX_end (by kernel_rfl) ?_
              refine Qo_normal ?_
              have hS159 : St w NoX [c158, c157] w158 := hS158.sel [1, 0] (by decide) rfl
              exact ⟨g149, g155, inferInstance, (by simp only [df_put]; exact hdf13), (es rfl (et rfl)), (es rfl (es rfl (et rfl))), (by subst hc158 hc157; exact hS159)⟩
            · skip
              refine W_stAS 0 hS155 rfl hc155 rfl rfl rfl (et rfl) (es rfl (es rfl (et rfl))) (by first | (rw [List.all_toArray] <;> rfl) | (simp only [List.all_toArray, List.all_cons, List.all_nil] <;> rfl)) (by rfl) (by kernel_rfl) (fun w160 c160 hc160 hS160 => ?_)
              replace hS160 : St w NoX [c160, c149, c8] w160 := hS160
              refine W_end ?_
              refine kq _ ?_
              refine AX_cast (l2 := #[true, true, true, true, true, false, true, true, true, false]) ?_ (by kernel_rfl)
              refine AX_1 (i := 5) (by kernel_rfl) rfl ?_
              refine W_r rfl rfl (VR_ldP (ys := rkC y22) rfl (es rfl (es rfl (es rfl (et rfl)))) (hS160.obj 2 rfl hc8) (arrR_at rkC_len hy22) Tryd.underlying50 rfl (by kernel_rfl)) ?_
              refine W_end ?_
              refine kq _ ?_
              refine AX_cast (l2 := #[true, true, true, true, true, true, true, true, true, false]) ?_ (by kernel_rfl)
              refine AX_1 (i := 9) (by kernel_rfl) rfl ?_
              refine W_stAS 1 hS160 rfl hc149 rfl rfl rfl (es rfl (es rfl (et rfl))) (et rfl) (by first | (rw [List.all_toArray] <;> rfl) | (simp only [List.all_toArray, List.all_cons, List.all_nil] <;> rfl)) (by rfl) (by kernel_rfl) (fun w162 c162 hc162 hS162 => ?_)
              replace hS162 : St w NoX [c160, c162, c8] w162 := hS162
              refine W_end ?_
              refine kq _ ?_
              refine AX_cast (l2 := #[true, true, true, true, true, true, true, true, true, true]) ?_ (by kernel_rfl)
              refine AX_end (by kernel_rfl) ?_
              refine Qo_normal ?_
              have hS163 : St w NoX [c162, c160] w162 := hS162.sel [1, 0] (by decide) rfl
              exact ⟨g149, g155, inferInstance, (by simp only [df_put]; exact hdf13), (es rfl (et rfl)), (es rfl (es rfl (et rfl))), (by subst hc162 hc160; exact hS163)⟩
      · skip
        refine W_r rfl rfl (VR_ldP (ys := rkC y22) rfl (et rfl) (hS119.obj 0 rfl hc8) (arrR_at rkC_len hy22) Tryd.underlying50 rfl (by kernel_rfl)) ?_
        refine W_end ?_
        refine kq _ ?_
        refine AX_cast (l2 := #[true, true, false, true, true, true, false, false, false, false]) ?_ (by kernel_rfl)
        refine AX_3 (i := 2) (j := 6) (m := 7) (by kernel_rfl) rfl rfl rfl ?_ ?_ ?_
        · skip
          refine W_r rfl rfl (VR_ldP (ys := rkC y20) rfl (es rfl (es rfl (es rfl (et rfl)))) (hS119.obj 0 rfl hc8) (arrR_at rkC_len hy20) Tryd.underlying50 rfl (by kernel_rfl)) ?_
          refine W_end ?_
          refine kq _ ?_
          refine AX_cast (l2 := #[true, true, true, true, true, true, false, false, false, false]) ?_ (by kernel_rfl)
          refine AX_2 (i := 6) (j := 7) (by kernel_rfl) rfl rfl ?_ ?_
          · skip
            refine W_allocS (z := .agg #[.int .i64 0, .int .i64 0]) (zs := #[.int .i64 0, .int .i64 0]) hS119 rfl rfl rfl (by kernel_rfl) (by rfl) (fun g166 w166 c166 hc166 hS166 => ?_)
            replace hS166 : St w NoX [c166, c8] w166 := hS166
            refine W_end ?_
            refine kq _ ?_
            refine AX_cast (l2 := #[true, true, true, true, true, true, true, false, false, false]) ?_ (by kernel_rfl)
            refine AX_1 (i := 7) (by kernel_rfl) rfl ?_
            refine W_allocS (z := .agg #[.int .i64 0, .int .i64 0]) (zs := #[.int .i64 0, .int .i64 0]) hS166 rfl rfl rfl (by kernel_rfl) (by rfl) (fun g167 w167 c167 hc167 hS167 => ?_)
            replace hS167 : St w NoX [c167, c166, c8] w167 := hS167
            refine W_end ?_
            refine kq _ ?_
            refine AX_cast (l2 := #[true, true, true, true, true, true, true, true, false, false]) ?_ (by kernel_rfl)
            refine AX_1 (i := 8) (by kernel_rfl) rfl ?_
            refine W_stAS 1 hS167 rfl hc166 rfl rfl rfl (es rfl (et rfl)) (es rfl (es rfl (et rfl))) (by first | (rw [List.all_toArray] <;> rfl) | (simp only [List.all_toArray, List.all_cons, List.all_nil] <;> rfl)) (by rfl) (by kernel_rfl) (fun w168 c168 hc168 hS168 => ?_)
            replace hS168 : St w NoX [c167, c168, c8] w168 := hS168
            refine W_end ?_
            refine kq _ ?_
            refine AX_cast (l2 := #[true, true, true, true, true, true, true, true, true, false]) ?_ (by kernel_rfl)
            refine AX_1 (i := 9) (by kernel_rfl) rfl ?_
            refine W_stAS 0 hS168 rfl hc167 rfl rfl rfl (et rfl) (es rfl (es rfl (es rfl (et rfl)))) (by first | (rw [List.all_toArray] <;> rfl) | (simp only [List.all_toArray, List.all_cons, List.all_nil] <;> rfl)) (by rfl) (by kernel_rfl) (fun w169 c169 hc169 hS169 => ?_)
            replace hS169 : St w NoX [c169, c168, c8] w169 := hS169
            refine W_end ?_
            refine kq _ ?_
            refine AX_cast (l2 := #[true, true, true, true, true, true, true, true, true, true]) ?_ (by kernel_rfl)
            refine AX_end (by kernel_rfl) ?_
            refine Qo_normal ?_
            have hS170 : St w NoX [c169, c168] w169 := hS169.sel [0, 1] (by decide) rfl
            exact ⟨g167, g166, inferInstance, (by simp only [df_put]; exact hdf13), (es rfl (et rfl)), (et rfl), (by subst hc169 hc168; exact hS170)⟩
          · skip
            refine W_allocS (z := .agg #[.int .i64 0, .int .i64 0]) (zs := #[.int .i64 0, .int .i64 0]) hS119 rfl rfl rfl (by kernel_rfl) (by rfl) (fun g171 w171 c171 hc171 hS171 => ?_)
            replace hS171 : St w NoX [c171, c8] w171 := hS171
            refine W_end ?_
            refine kq _ ?_
            refine AX_cast (l2 := #[true, true, true, true, true, true, false, true, false, false]) ?_ (by kernel_rfl)
            refine AX_1 (i := 6) (by kernel_rfl) rfl ?_
            refine W_allocS (z := .agg #[.int .i64 0, .int .i64 0]) (zs := #[.int .i64 0, .int .i64 0]) hS171 rfl rfl rfl (by kernel_rfl) (by rfl) (fun g172 w172 c172 hc172 hS172 => ?_)
            replace hS172 : St w NoX [c172, c171, c8] w172 := hS172
            refine W_end ?_
            refine kq _ ?_
            refine AX_cast (l2 := #[true, true, true, true, true, true, true, true, false, false]) ?_ (by kernel_rfl)
            refine AX_1 (i := 8) (by kernel_rfl) rfl ?_
            refine W_stAS 0 hS172 rfl hc172 rfl rfl rfl (et rfl) (es rfl (es rfl (et rfl))) (by first | (rw [List.all_toArray] <;> rfl) | (simp only [List.all_toArray, List.all_cons, List.all_nil] <;> rfl)) (by rfl) (by kernel_rfl) (fun w173 c173 hc173 hS173 => ?_)
            replace hS173 : St w NoX [c173, c171, c8] w173 := hS173
            refine W_end ?_
            refine kq _ ?_
            refine AX_cast (l2 := #[true, true, true, true, true, true, true, true, true, false]) ?_ (by kernel_rfl)
            refine AX_1 (i := 9) (by kernel_rfl) rfl ?_
            refine W_stAS 1 hS173 rfl hc171 rfl rfl rfl (es rfl (et rfl)) (es rfl (es rfl (es rfl (et rfl)))) (by first | (rw [List.all_toArray] <;> rfl) | (simp only [List.all_toArray, List.all_cons, List.all_nil] <;> rfl)) (by rfl) (by kernel_rfl) (fun w174 c174 hc174 hS174 => ?_)
            replace hS174 : St w NoX [c173, c174, c8] w174 := hS174
            refine W_end ?_
            refine kq _ ?_
            refine AX_cast (l2 := #[true, true, true, true, true, true, true, true, true, true]) ?_ (by kernel_rfl)
            refine AX_end (by kernel_rfl) ?_
            refine Qo_normal ?_
            have hS175 : St w NoX [c174, c173] w174 := hS174.sel [1, 0] (by decide) rfl
            exact ⟨g171, g172, inferInstance, (by simp only [df_put]; exact hdf13), (et rfl), (es rfl (et rfl)), (by subst hc174 hc173; exact hS175)⟩
        · skip
          refine W_allocS (z := .agg #[.int .i64 0, .int .i64 0]) (zs := #[.int .i64 0, .int .i64 0]) hS119 rfl rfl rfl (by kernel_rfl) (by rfl) (fun g176 w176 c176 hc176 hS176 => ?_)
          replace hS176 : St w NoX [c176, c8] w176 := hS176
          refine W_end ?_
          refine kq _ ?_
          refine AX_cast (l2 := #[true, true, false, true, true, true, true, false, false, false]) ?_ (by kernel_rfl)
          refine AX_2 (i := 2) (j := 7) (by kernel_rfl) rfl rfl ?_ ?_
          · skip
            refine W_r rfl rfl (VR_ldP (ys := rkC y20) rfl (es rfl (es rfl (es rfl (es rfl (et rfl))))) (hS176.obj 1 rfl hc8) (arrR_at rkC_len hy20) Tryd.underlying50 rfl (by kernel_rfl)) ?_
            refine W_end ?_
            refine kq _ ?_
            refine AX_cast (l2 := #[true, true, true, true, true, true, true, false, false, false]) ?_ (by kernel_rfl)
            refine AX_1 (i := 7) (by kernel_rfl) rfl ?_
            refine W_allocS (z := .agg #[.int .i64 0, .int .i64 0]) (zs := #[.int .i64 0, .int .i64 0]) hS176 rfl rfl rfl (by kernel_rfl) (by rfl) (fun g178 w178 c178 hc178 hS178 => ?_)
            replace hS178 : St w NoX [c178, c176, c8] w178 := hS178
            refine W_end ?_
            refine kq _ ?_
            refine AX_cast (l2 := #[true, true, true, true, true, true, true, true, false, false]) ?_ (by kernel_rfl)
            refine AX_1 (i := 8) (by kernel_rfl) rfl ?_
            refine W_stAS 1 hS178 rfl hc176 rfl rfl rfl (es rfl (es rfl (et rfl))) (es rfl (et rfl)) (by first | (rw [List.all_toArray] <;> rfl) | (simp only [List.all_toArray, List.all_cons, List.all_nil] <;> rfl)) (by rfl) (by kernel_rfl) (fun w179 c179 hc179 hS179 => ?_)
            replace hS179 : St w NoX [c178, c179, c8] w179 := hS179
            refine W_end ?_
            refine kq _ ?_
            refine AX_cast (l2 := #[true, true, true, true, true, true, true, true, true, false]) ?_ (by kernel_rfl)
            refine AX_1 (i := 9) (by kernel_rfl) rfl ?_
            refine W_stAS 0 hS179 rfl hc178 rfl rfl rfl (et rfl) (es rfl (es rfl (es rfl (et rfl)))) (by first | (rw [List.all_toArray] <;> rfl) | (simp only [List.all_toArray, List.all_cons, List.all_nil] <;> rfl)) (by rfl) (by kernel_rfl) (fun w180 c180 hc180 hS180 => ?_)
            replace hS180 : St w NoX [c180, c179, c8] w180 := hS180
            refine W_end ?_
            refine kq _ ?_
            refine AX_cast (l2 := #[true, true, true, true, true, true, true, true, true, true]) ?_ (by kernel_rfl)
            refine AX_end (by kernel_rfl) ?_
            refine Qo_normal ?_
            have hS181 : St w NoX [c180, c179] w180 := hS180.sel [0, 1] (by decide) rfl
            exact ⟨g178, g176, inferInstance, (by simp only [df_put]; exact hdf13), (es rfl (es rfl (et rfl))), (et rfl), (by subst hc180 hc179; exact hS181)⟩
          · skip
            refine W_allocS (z := .agg #[.int .i64 0, .int .i64 0]) (zs := #[.int .i64 0, .int .i64 0]) hS176 rfl rfl rfl (by kernel_rfl) (by rfl) (fun g182 w182 c182 hc182 hS182 => ?_)
            replace hS182 : St w NoX [c182, c176, c8] w182 := hS182
            refine W_end ?_
            refine kq _ ?_
            refine AX_cast (l2 := #[true, true, false, true, true, true, true, true, false, false]) ?_ (by kernel_rfl)
            refine AX_1 (i := 2) (by kernel_rfl) rfl ?_
            refine W_r rfl rfl (VR_ldP (ys := rkC y20) rfl (es rfl (es rfl (es rfl (es rfl (es rfl (et rfl)))))) (hS182.obj 2 rfl hc8) (arrR_at rkC_len hy20) Tryd.underlying50 rfl (by kernel_rfl)) ?_
            refine W_end ?_
            refine kq _ ?_
            refine AX_cast (l2 := #[true, true, true, true, true, true, true, true, false, false]) ?_ (by kernel_rfl)
            refine AX_1 (i := 8) (by kernel_rfl) rfl ?_
            refine W_stAS 1 hS182 rfl hc176 rfl rfl rfl (es rfl (es rfl (et rfl))) (et rfl) (by first | (rw [List.all_toArray] <;> rfl) | (simp only [List.all_toArray, List.all_cons, List.all_nil] <;> rfl)) (by rfl) (by kernel_rfl) (fun w184 c184 hc184 hS184 => ?_)
            replace hS184 : St w NoX [c182, c184, c8] w184 := hS184
            refine W_end ?_
            refine kq _ ?_
            refine AX_cast (l2 := #[true, true, true, true, true, true, true, true, true, false]) ?_ (by kernel_rfl)
            refine AX_1 (i := 9) (by kernel_rfl) rfl ?_
            refine W_stAS 0 hS184 rfl hc182 rfl rfl rfl (es rfl (et rfl)) (es rfl (es rfl (es rfl (et rfl)))) (by first | (rw [List.all_toArray] <;> rfl) | (simp only [List.all_toArray, List.all_cons, List.all_nil] <;> rfl)) (by rfl) (by kernel_rfl) (fun w185 c185 hc185 hS185 => ?_)
            replace hS185 : St w NoX [c185, c184, c8] w185 := hS185
            refine W_end ?_
            refine kq _ ?_
            refine AX_cast (l2 := #[true, true, true, true, true, true, true, true, true, true]) ?_ (by kernel_rfl)
            refine AX_end (by kernel_rfl) ?_
            refine Qo_normal ?_
            have hS186 : St w NoX [c185, c184] w185 := hS185.sel [0, 1] (by decide) rfl
            exact ⟨g182, g176, inferInstance, (by simp only [df_put]; exact hdf13), (es rfl (es rfl (et rfl))), (es rfl (et rfl)), (by subst hc185 hc184; exact hS186)⟩
        · skip
          refine W_allocS (z := .agg #[.int .i64 0, .int .i64 0]) (zs := #[.int .i64 0, .int .i64 0]) hS119 rfl rfl rfl (by kernel_rfl) (by rfl) (fun g187 w187 c187 hc187 hS187 => ?_)
          replace hS187 : St w NoX [c187, c8] w187 := hS187
          refine W_end ?_
          refine kq _ ?_
          refine AX_cast (l2 := #[true, true, false, true, true, true, false, true, false, false]) ?_ (by kernel_rfl)
          refine AX_2 (i := 2) (j := 6) (by kernel_rfl) rfl rfl ?_ ?_
          · skip
            refine W_r rfl rfl (VR_ldP (ys := rkC y20) rfl (es rfl (es rfl (es rfl (es rfl (et rfl))))) (hS187.obj 1 rfl hc8) (arrR_at rkC_len hy20) Tryd.underlying50 rfl (by kernel_rfl)) ?_
            refine W_end ?_
            refine kq _ ?_
            refine AX_cast (l2 := #[true, true, true, true, true, true, false, true, false, false]) ?_ (by kernel_rfl)
            refine AX_1 (i := 6) (by kernel_rfl) rfl ?_
            refine W_allocS (z := .agg #[.int .i64 0, .int .i64 0]) (zs := #[.int .i64 0, .int .i64 0]) hS187 rfl rfl rfl (by kernel_rfl) (by rfl) (fun g189 w189 c189 hc189 hS189 => ?_)
            replace hS189 : St w NoX [c189, c187, c8] w189 := hS189
            refine W_end ?_
            refine kq _ ?_
            refine AX_cast (l2 := #[true, true, true, true, true, true, true, true, false, false]) ?_ (by kernel_rfl)
            refine AX_1 (i := 8) (by kernel_rfl) rfl ?_
            refine W_stAS 0 hS189 rfl hc189 rfl rfl rfl (et rfl) (es rfl (et rfl)) (by first | (rw [List.all_toArray] <;> rfl) | (simp only [List.all_toArray, List.all_cons, List.all_nil] <;> rfl)) (by rfl) (by kernel_rfl) (fun w190 c190 hc190 hS190 => ?_)
            replace hS190 : St w NoX [c190, c187, c8] w190 := hS190
            refine W_end ?_
            refine kq _ ?_
            refine AX_cast (l2 := #[true, true, true, true, true, true, true, true, true, false]) ?_ (by kernel_rfl)
            refine AX_1 (i := 9) (by kernel_rfl) rfl ?_
            refine W_stAS 1 hS190 rfl hc187 rfl rfl rfl (es rfl (es rfl (et rfl))) (es rfl (es rfl (es rfl (et rfl)))) (by first | (rw [List.all_toArray] <;> rfl) | (simp only [List.all_toArray, List.all_cons, List.all_nil] <;> rfl)) (by rfl) (by kernel_rfl) (fun w191 c191 hc191 hS191 => ?_)
            replace hS191 : St w NoX [c190, c191, c8] w191 := hS191
            refine W_end ?_
            refine kq _ ?_
            refine AX_cast (l2 := #[true, true, true, true, true, true, true, true, true, true]) ?_ (by kernel_rfl)
            refine AX_end (by kernel_rfl) ?_
            refine Qo_normal ?_
            have hS192 : St w NoX [c191, c190] w191 := hS191.sel [1, 0] (by decide) rfl
            exact ⟨g187, g189, inferInstance, (by simp only [df_put]; exact hdf13), (et rfl), (es rfl (es rfl (et rfl))), (by subst hc191 hc190; exact hS192)⟩
          · skip
            refine W_allocS (z := .agg #[.int .i64 0, .int .i64 0]) (zs := #[.int .i64 0, .int .i64 0]) hS187 rfl rfl rfl (by kernel_rfl) (by rfl) (fun g193 w193 c193 hc193 hS193 => ?_)
            replace hS193 : St w NoX [c193, c187, c8] w193 := hS193
            refine W_end ?_
            refine kq _ ?_
            refine AX_cast (l2 := #[true, true, false, true, true, true, true, true, false, false]) ?_ (by kernel_rfl)
            refine AX_1 (i := 2) (by kernel_rfl) rfl ?_
            refine W_r rfl rfl (VR_ldP (ys := rkC y20) rfl (es rfl (es rfl (es rfl (es rfl (es rfl (et rfl)))))) (hS193.obj 2 rfl hc8) (arrR_at rkC_len hy20) Tryd.underlying50 rfl (by kernel_rfl)) ?_
            refine W_end ?_
            refine kq _ ?_
            refine AX_cast (l2 := #[true, true, true, true, true, true, true, true, false, false]) ?_ (by kernel_rfl)
            refine AX_1 (i := 8) (by kernel_rfl) rfl ?_
            refine W_stAS 0 hS193 rfl hc193 rfl rfl rfl (es rfl (et rfl)) (et rfl) (by first | (rw [List.all_toArray] <;> rfl) | (simp only [List.all_toArray, List.all_cons, List.all_nil] <;> rfl)) (by rfl) (by kernel_rfl) (fun w195 c195 hc195 hS195 => ?_)
            replace hS195 : St w NoX [c195, c187, c8] w195 := hS195
            refine W_end ?_
            refine kq _ ?_
            refine AX_cast (l2 := #[true, true, true, true, true, true, true, true, true, false]) ?_ (by kernel_rfl)
            refine AX_1 (i := 9) (by kernel_rfl) rfl ?_
            refine W_stAS 1 hS195 rfl hc187 rfl rfl rfl (es rfl (es rfl (et rfl))) (es rfl (es rfl (es rfl (et rfl)))) (by first | (rw [List.all_toArray] <;> rfl) | (simp only [List.all_toArray, List.all_cons, List.all_nil] <;> rfl)) (by rfl) (by kernel_rfl) (fun w196 c196 hc196 hS196 => ?_)
            replace hS196 : St w NoX [c195, c196, c8] w196 := hS196
            refine W_end ?_
            refine kq _ ?_
            refine AX_cast (l2 := #[true, true, true, true, true, true, true, true, true, true]) ?_ (by kernel_rfl)
            refine AX_end (by kernel_rfl) ?_
            refine Qo_normal ?_
            have hS197 : St w NoX [c196, c195] w196 := hS196.sel [1, 0] (by decide) rfl
            exact ⟨g187, g193, inferInstance, (by simp only [df_put]; exact hdf13), (es rfl (et rfl)), (es rfl (es rfl (et rfl))), (by subst hc196 hc195; exact hS197)⟩
      · skip
        refine W_allocS (z := .agg #[.int .i64 0, .int .i64 0]) (zs := #[.int .i64 0, .int .i64 0]) hS119 rfl rfl rfl (by kernel_rfl) (by rfl) (fun g198 w198 c198 hc198 hS198 => ?_)
        replace hS198 : St w NoX [c198, c8] w198 := hS198
        refine W_end ?_
        refine kq _ ?_
        refine AX_cast (l2 := #[true, true, false, true, true, false, true, false, false, false]) ?_ (by kernel_rfl)
        refine AX_3 (i := 2) (j := 5) (m := 7) (by kernel_rfl) rfl rfl rfl ?_ ?_ ?_
        · skip
          refine W_r rfl rfl (VR_ldP (ys := rkC y20) rfl (es rfl (es rfl (es rfl (et rfl)))) (hS198.obj 1 rfl hc8) (arrR_at rkC_len hy20) Tryd.underlying50 rfl (by kernel_rfl)) ?_
          refine W_end ?_
          refine kq _ ?_
          refine AX_cast (l2 := #[true, true, true, true, true, false, true, false, false, false]) ?_ (by kernel_rfl)
          refine AX_2 (i := 5) (j := 7) (by kernel_rfl) rfl rfl ?_ ?_
          · skip
            refine W_r rfl rfl (VR_ldP (ys := rkC y22) rfl (es rfl (es rfl (et rfl))) (hS198.obj 1 rfl hc8) (arrR_at rkC_len hy22) Tryd.underlying50 rfl (by kernel_rfl)) ?_
            refine W_end ?_
            refine kq _ ?_
            refine AX_cast (l2 := #[true, true, true, true, true, true, true, false, false, false]) ?_ (by kernel_rfl)
            refine AX_1 (i := 7) (by kernel_rfl) rfl ?_
            refine W_allocS (z := .agg #[.int .i64 0, .int .i64 0]) (zs := #[.int .i64 0, .int .i64 0]) hS198 rfl rfl rfl (by kernel_rfl) (by rfl) (fun g201 w201 c201 hc201 hS201 => ?_)
            replace hS201 : St w NoX [c201, c198, c8] w201 := hS201
            refine W_end ?_
            refine kq _ ?_
            refine AX_cast (l2 := #[true, true, true, true, true, true, true, true, false, false]) ?_ (by kernel_rfl)
            refine AX_1 (i := 8) (by kernel_rfl) rfl ?_
            refine W_stAS 1 hS201 rfl hc198 rfl rfl rfl (es rfl (es rfl (es rfl (et rfl)))) (es rfl (es rfl (et rfl))) (by first | (rw [List.all_toArray] <;> rfl) | (simp only [List.all_toArray, List.all_cons, List.all_nil] <;> rfl)) (by rfl) (by kernel_rfl) (fun w202 c202 hc202 hS202 => ?_)
            replace hS202 : St w NoX [c201, c202, c8] w202 := hS202
            refine W_end ?_
            refine kq _ ?_
            refine AX_cast (l2 := #[true, true, true, true, true, true, true, true, true, false]) ?_ (by kernel_rfl)
            refine AX_1 (i := 9) (by kernel_rfl) rfl ?_
            refine W_stAS 0 hS202 rfl hc201 rfl rfl rfl (et rfl) (es rfl (et rfl)) (by first | (rw [List.all_toArray] <;> rfl) | (simp only [List.all_toArray, List.all_cons, List.all_nil] <;> rfl)) (by rfl) (by kernel_rfl) (fun w203 c203 hc203 hS203 => ?_)
            replace hS203 : St w NoX [c203, c202, c8] w203 := hS203
            refine W_end ?_
            refine kq _ ?_
            refine AX_cast (l2 := #[true, true, true, true, true, true, true, true, true, true]) ?_ (by kernel_rfl)
            refine AX_end (by kernel_rfl) ?_
            refine Qo_normal ?_
            have hS204 : St w NoX [c203, c202] w203 := hS203.sel [0, 1] (by decide) rfl
            exact ⟨g201, g198, inferInstance, (by simp only [df_put]; exact hdf13), (es rfl (es rfl (es rfl (et rfl)))), (et rfl), (by subst hc203 hc202; exact hS204)⟩
          · skip
            refine W_allocS (z := .agg #[.int .i64 0, .int .i64 0]) (zs := #[.int .i64 0, .int .i64 0]) hS198 rfl rfl rfl (by kernel_rfl) (by rfl) (fun g205 w205 c205 hc205 hS205 => ?_)
            replace hS205 : St w NoX [c205, c198, c8] w205 := hS205
            refine W_end ?_
            refine kq _ ?_
            refine AX_cast (l2 := #[true, true, true, true, true, false, true, true, false, false]) ?_ (by kernel_rfl)
            refine AX_2 (i := 5) (j := 8) (by kernel_rfl) rfl rfl ?_ ?_
            · skip
              refine W_r rfl rfl (VR_ldP (ys := rkC y22) rfl (es rfl (es rfl (es rfl (et rfl)))) (hS205.obj 2 rfl hc8) (arrR_at rkC_len hy22) Tryd.underlying50 rfl (by kernel_rfl)) ?_
              refine W_end ?_
              refine kq _ ?_
              refine AX_cast (l2 := #[true, true, true, true, true, true, true, true, false, false]) ?_ (by kernel_rfl)
              refine AX_1 (i := 8) (by kernel_rfl) rfl ?_
              refine W_stAS 1 hS205 rfl hc198 rfl rfl rfl (es rfl (es rfl (es rfl (et rfl)))) (es rfl (es rfl (et rfl))) (by first | (rw [List.all_toArray] <;> rfl) | (simp only [List.all_toArray, List.all_cons, List.all_nil] <;> rfl)) (by rfl) (by kernel_rfl) (fun w207 c207 hc207 hS207 => ?_)
              replace hS207 : St w NoX [c205, c207, c8] w207 := hS207
              refine W_end ?_
              refine kq _ ?_
              refine AX_cast (l2 := #[true, true, true, true, true, true, true, true, true, false]) ?_ (by kernel_rfl)
              refine AX_1 (i := 9) (by kernel_rfl) rfl ?_
              refine W_stAS 0 hS207 rfl hc205 rfl rfl rfl (es rfl (et rfl)) (et rfl) (by first | (rw [List.all_toArray] <;> rfl) | (simp only [List.all_toArray, List.all_cons, List.all_nil] <;> rfl)) (by rfl) (by kernel_rfl) (fun w208 c208 hc208 hS208 => ?_)
              replace hS208 : St w NoX [c208, c207, c8] w208 := hS208
              refine W_end ?_
              refine kq _ ?_
              refine AX_cast (l2 := #[true, true, true, true, true, true, true, true, true, true]) ?_ (by kernel_rfl)
              refine AX_end (by kernel_rfl) ?_
              refine Qo_normal ?_
              have hS209 : St w NoX [c208, c207] w208 := hS208.sel [0, 1] (by decide) rfl
              exact ⟨g205, g198, inferInstance, (by simp only [df_put]; exact hdf13), (es rfl (es rfl (es rfl (et rfl)))), (es rfl (et rfl)), (by subst hc208 hc207; exact hS209)⟩
            · skip
              refine W_stAS 1 hS205 rfl hc198 rfl rfl rfl (es rfl (es rfl (et rfl))) (es rfl (et rfl)) (by first | (rw [List.all_toArray] <;> rfl) | (simp only [List.all_toArray, List.all_cons, List.all_nil] <;> rfl)) (by rfl) (by kernel_rfl) (fun w210 c210 hc210 hS210 => ?_)
              replace hS210 : St w NoX [c205, c210, c8] w210 := hS210
              refine W_end ?_
              refine kq _ ?_
              refine AX_cast (l2 := #[true, true, true, true, true, false, true, true, true, false]) ?_ (by kernel_rfl)
              refine AX_1 (i := 5) (by kernel_rfl) rfl ?_
              refine W_r rfl rfl (VR_ldP (ys := rkC y22) rfl (es rfl (es rfl (es rfl (et rfl)))) (hS210.obj 2 rfl hc8) (arrR_at rkC_len hy22) Tryd.underlying50 rfl (by kernel_rfl)) ?_
              refine W_end ?_
              refine kq _ ?_
              refine AX_cast (l2 := #[true, true, true, true, true, true, true, true, true, false]) ?_ (by kernel_rfl)
              refine AX_1 (i := 9) (by kernel_rfl) rfl ?_
              refine W_stAS 0 hS210 rfl hc205 rfl rfl rfl (es rfl (et rfl)) (et rfl) (by first | (rw [List.all_toArray] <;> rfl) | (simp only [List.all_toArray, List.all_cons, List.all_nil] <;> rfl)) (by rfl) (by kernel_rfl) (fun w212 c212 hc212 hS212 => ?_)
              replace hS212 : St w NoX [c212, c210, c8] w212 := hS212
              refine W_end ?_
              refine kq _ ?_
              refine AX_cast (l2 := #[true, true, true, true, true, true, true, true, true, true]) ?_ (by kernel_rfl)
              refine AX_end (by kernel_rfl) ?_
              refine Qo_normal ?_
              have hS213 : St w NoX [c212, c210] w212 := hS212.sel [0, 1] (by decide) rfl
              exact ⟨g205, g198, inferInstance, (by simp only [df_put]; exact hdf13), (es rfl (es rfl (es rfl (et rfl)))), (es rfl (et rfl)), (by subst hc212 hc210; exact hS213)⟩
        · skip
          refine W_r rfl rfl (VR_ldP (ys := rkC y22) rfl (es rfl (et rfl)) (hS198.obj 1 rfl hc8) (arrR_at rkC_len hy22) Tryd.underlying50 rfl (by kernel_rfl)) ?_
          refine W_end ?_
          refine kq _ ?_
          refine AX_cast (l2 := #[true, true, false, true, true, true, true, false, false, false]) ?_ (by kernel_rfl)
          refine AX_2 (i := 2) (j := 7) (by kernel_rfl) rfl rfl ?_ ?_
          · skip
            refine W_r rfl rfl (VR_ldP (ys := rkC y20) rfl (es rfl (es rfl (es rfl (es rfl (et rfl))))) (hS198.obj 1 rfl hc8) (arrR_at rkC_len hy20) Tryd.underlying50 rfl (by kernel_rfl)) ?_
            refine W_end ?_
            refine kq _ ?_
            refine AX_cast (l2 := #[true, true, true, true, true, true, true, false, false, false]) ?_ (by kernel_rfl)
            refine AX_1 (i := 7) (by kernel_rfl) rfl ?_
            refine W_allocS (z := .agg #[.int .i64 0, .int .i64 0]) (zs := #[.int .i64 0, .int .i64 0]) hS198 rfl rfl rfl (by kernel_rfl) (by rfl) (fun g216 w216 c216 hc216 hS216 => ?_)
            replace hS216 : St w NoX [c216, c198, c8] w216 := hS216
            refine W_end ?_
            refine kq _ ?_
            refine AX_cast (l2 := #[true, true, true, true, true, true, true, true, false, false]) ?_ (by kernel_rfl)
            refine AX_1 (i := 8) (by kernel_rfl) rfl ?_
            refine W_stAS 1 hS216 rfl hc198 rfl rfl rfl (es rfl (es rfl (es rfl (et rfl)))) (es rfl (et rfl)) (by first | (rw [List.all_toArray] <;> rfl) | (simp only [List.all_toArray, List.all_cons, List.all_nil] <;> rfl)) (by rfl) (by kernel_rfl) (fun w217 c217 hc217 hS217 => ?_)
            replace hS217 : St w NoX [c216, c217, c8] w217 := hS217
            refine W_end ?_
            refine kq _ ?_
            refine AX_cast (l2 := #[true, true, true, true, true, true, true, true, true, false]) ?_ (by kernel_rfl)
            refine AX_1 (i := 9) (by kernel_rfl) rfl ?_
            refine W_stAS 0 hS217 rfl hc216 rfl rfl rfl (et rfl) (es rfl (es rfl (et rfl))) (by first | (rw [List.all_toArray] <;> rfl) | (simp only [List.all_toArray, List.all_cons, List.all_nil] <;> rfl)) (by rfl) (by kernel_rfl) (fun w218 c218 hc218 hS218 => ?_)
            replace hS218 : St w NoX [c218, c217, c8] w218 := hS218
            refine W_end ?_
            refine kq _ ?_
            refine AX_cast (l2 := #[true, true, true, true, true, true, true, true, true, true]) ?_ (by kernel_rfl)
            refine AX_end (by kernel_rfl) ?_
            refine Qo_normal ?_
            have hS219 : St w NoX [c218, c217] w218 := hS218.sel [0, 1] (by decide) rfl
            exact ⟨g216, g198, inferInstance, (by simp only [df_put]; exact hdf13), (es rfl (es rfl (es rfl (et rfl)))), (et rfl), (by subst hc218 hc217; exact hS219)⟩
          · skip
            refine W_allocS (z := .agg #[.int .i64 0, .int .i64 0]) (zs := #[.int .i64 0, .int .i64 0]) hS198 rfl rfl rfl (by kernel_rfl) (by rfl) (fun g220 w220 c220 hc220 hS220 => ?_)
            replace hS220 : St w NoX [c220, c198, c8] w220 := hS220
            refine W_end ?_
            refine kq _ ?_
            refine AX_cast (l2 := #[true, true, false, true, true, true, true, true, false, false]) ?_ (by kernel_rfl)
            refine AX_1 (i := 2) (by kernel_rfl) rfl ?_
            refine W_r rfl rfl (VR_ldP (ys := rkC y20) rfl (es rfl (es rfl (es rfl (es rfl (es rfl (et rfl)))))) (hS220.obj 2 rfl hc8) (arrR_at rkC_len hy20) Tryd.underlying50 rfl (by kernel_rfl)) ?_
            refine W_end ?_
            refine kq _ ?_
            refine AX_cast (l2 := #[true, true, true, true, true, true, true, true, false, false]) ?_ (by kernel_rfl)
            refine AX_1 (i := 8) (by kernel_rfl) rfl ?_
            refine W_stAS 1 hS220 rfl hc198 rfl rfl rfl (es rfl (es rfl (es rfl (et rfl)))) (et rfl) (by first | (rw [List.all_toArray] <;> rfl) | (simp only [List.all_toArray, List.all_cons, List.all_nil] <;> rfl)) (by rfl) (by kernel_rfl) (fun w222 c222 hc222 hS222 => ?_)
            replace hS222 : St w NoX [c220, c222, c8] w222 := hS222
            refine W_end ?_
            refine kq _ ?_
            refine AX_cast (l2 := #[true, true, true, true, true, true, true, true, true, false]) ?_ (by kernel_rfl)
            refine AX_1 (i := 9) (by kernel_rfl) rfl ?_
            refine W_stAS 0 hS222 rfl hc220 rfl rfl rfl (es rfl (et rfl)) (es rfl (es rfl (et rfl))) (by first | (rw [List.all_toArray] <;> rfl) | (simp only [List.all_toArray, List.all_cons, List.all_nil] <;> rfl)) (by rfl) (by kernel_rfl) (fun w223 c223 hc223 hS223 => ?_)
            replace hS223 : St w NoX [c223, c222, c8] w223 := hS223
            refine W_end ?_
            refine kq _ ?_
            refine AX_cast (l2 := #[true, true, true, true, true, true, true, true, true, true]) ?_ (by kernel_rfl)
            refine AX_end (by kernel_rfl) ?_
            refine Qo_normal ?_
            have hS224 : St w NoX [c223, c222] w223 := hS223.sel [0, 1] (by decide) rfl
            exact ⟨g220, g198, inferInstance, (by simp only [df_put]; exact hdf13), (es rfl (es rfl (es rfl (et rfl)))), (es rfl (et rfl)), (by subst hc223 hc222; exact hS224)⟩
        · skip
          refine W_allocS (z := .agg #[.int .i64 0, .int .i64 0]) (zs := #[.int .i64 0, .int .i64 0]) hS198 rfl rfl rfl (by kernel_rfl) (by rfl) (fun g225 w225 c225 hc225 hS225 => ?_)
          replace hS225 : St w NoX [c225, c198, c8] w225 := hS225
          refine W_end ?_
          refine kq _ ?_
          refine AX_cast (l2 := #[true, true, false, true, true, false, true, true, false, false]) ?_ (by kernel_rfl)
          refine AX_2 (i := 2) (j := 5) (by kernel_rfl) rfl rfl ?_ ?_
          · skip
            refine W_r rfl rfl (VR_ldP (ys := rkC y20) rfl (es rfl (es rfl (es rfl (es rfl (et rfl))))) (hS225.obj 2 rfl hc8) (arrR_at rkC_len hy20) Tryd.underlying50 rfl (by kernel_rfl)) ?_
            refine W_end ?_
            refine kq _ ?_
            refine AX_cast (l2 := #[true, true, true, true, true, false, true, true, false, false]) ?_ (by kernel_rfl)
            refine AX_2 (i := 5) (j := 8) (by kernel_rfl) rfl rfl ?_ ?_
            · skip
              refine W_r rfl rfl (VR_ldP (ys := rkC y22) rfl (es rfl (es rfl (es rfl (et rfl)))) (hS225.obj 2 rfl hc8) (arrR_at rkC_len hy22) Tryd.underlying50 rfl (by kernel_rfl)) ?_
              refine W_end ?_
              refine kq _ ?_
              refine AX_cast (l2 := #[true, true, true, true, true, true, true, true, false, false]) ?_ (by kernel_rfl)
              refine AX_1 (i := 8) (by kernel_rfl) rfl ?_
              refine W_stAS 1 hS225 rfl hc198 rfl rfl rfl (es rfl (es rfl (es rfl (et rfl)))) (es rfl (et rfl)) (by first | (rw [List.all_toArray] <;> rfl) | (simp only [List.all_toArray, List.all_cons, List.all_nil] <;> rfl)) (by rfl) (by kernel_rfl) (fun w228 c228 hc228 hS228 => ?_)
              replace hS228 : St w NoX [c225, c228, c8] w228 := hS228
              refine W_end ?_
              refine kq _ ?_
              refine AX_cast (l2 := #[true, true, true, true, true, true, true, true, true, false]) ?_ (by kernel_rfl)
              refine AX_1 (i := 9) (by kernel_rfl) rfl ?_
              refine W_stAS 0 hS228 rfl hc225 rfl rfl rfl (es rfl (es rfl (et rfl))) (et rfl) (by first | (rw [List.all_toArray] <;> rfl) | (simp only [List.all_toArray, List.all_cons, List.all_nil] <;> rfl)) (by rfl) (by kernel_rfl) (fun w229 c229 hc229 hS229 => ?_)
              replace hS229 : St w NoX [c229, c228, c8] w229 := hS229
              refine W_end ?_
              refine kq _ ?_
              refine AX_cast (l2 := #[true, true, true, true, true, true, true, true, true, true]) ?_ (by kernel_rfl)
              refine AX_end (by kernel_rfl) ?_
              refine Qo_normal ?_
              have hS230 : St w NoX [c229, c228] w229 := hS229.sel [0, 1] (by decide) rfl
              exact ⟨g225, g198, inferInstance, (by simp only [df_put]; exact hdf13), (es rfl (es rfl (es rfl (et rfl)))), (es rfl (es rfl (et rfl))), (by subst hc229 hc228; exact hS230)⟩
            · skip
              refine W_stAS 1 hS225 rfl hc198 rfl rfl rfl (es rfl (es rfl (et rfl))) (et rfl) (by first | (rw [List.all_toArray] <;> rfl) | (simp only [List.all_toArray, List.all_cons, List.all_nil] <;> rfl)) (by rfl) (by kernel_rfl) (fun w231 c231 hc231 hS231 => ?_)
              replace hS231 : St w NoX [c225, c231, c8] w231 := hS231
              refine W_end ?_
              refine kq _ ?_
              refine AX_cast (l2 := #[true, true, true, true, true, false, true, true, true, false]) ?_ (by kernel_rfl)
              refine AX_1 (i := 5) (by kernel_rfl) rfl ?_
              refine W_r rfl rfl (VR_ldP (ys := rkC y22) rfl (es rfl (es rfl (es rfl (et rfl)))) (hS231.obj 2 rfl hc8) (arrR_at rkC_len hy22) Tryd.underlying50 rfl (by kernel_rfl)) ?_
              refine W_end ?_
              refine kq _ ?_
              refine AX_cast (l2 := #[true, true, true, true, true, true, true, true, true, false]) ?_ (by kernel_rfl)
              refine AX_1 (i := 9) (by kernel_rfl) rfl ?_
              refine W_stAS 0 hS231 rfl hc225 rfl rfl rfl (es rfl (es rfl (et rfl))) (et rfl) (by first | (rw [List.all_toArray] <;> rfl) | (simp only [List.all_toArray, List.all_cons, List.all_nil] <;> rfl)) (by rfl) (by kernel_rfl) (fun w233 c233 hc233 hS233 => ?_)
              replace hS233 : St w NoX [c233, c231, c8] w233 := hS233
              refine W_end ?_
              refine kq _ ?_
              refine AX_cast (l2 := #[true, true, true, true, true, true, true, true, true, true]) ?_ (by kernel_rfl)
              refine AX_end (by kernel_rfl) ?_
              refine Qo_normal ?_
              have hS234 : St w NoX [c233, c231] w233 := hS233.sel [0, 1] (by decide) rfl
              exact ⟨g225, g198, inferInstance, (by simp only [df_put]; exact hdf13), (es rfl (es rfl (es rfl (et rfl)))), (es rfl (es rfl (et rfl))), (by subst hc233 hc231; exact hS234)⟩
          · skip
            refine W_r rfl rfl (VR_ldP (ys := rkC y22) rfl (es rfl (es rfl (et rfl))) (hS225.obj 2 rfl hc8) (arrR_at rkC_len hy22) Tryd.underlying50 rfl (by kernel_rfl)) ?_
            refine W_end ?_
            refine kq _ ?_
            refine AX_cast (l2 := #[true, true, false, true, true, true, true, true, false, false]) ?_ (by kernel_rfl)
            refine AX_1 (i := 2) (by kernel_rfl) rfl ?_
            refine W_r rfl rfl (VR_ldP (ys := rkC y20) rfl (es rfl (es rfl (es rfl (es rfl (es rfl (et rfl)))))) (hS225.obj 2 rfl hc8) (arrR_at rkC_len hy20) Tryd.underlying50 rfl (by kernel_rfl)) ?_
            refine W_end ?_
            refine kq _ ?_
            refine AX_cast (l2 := #[true, true, true, true, true, true, true, true, false, false]) ?_ (by kernel_rfl)
            refine AX_1 (i := 8) (by kernel_rfl) rfl ?_
            refine W_stAS 1 hS225 rfl hc198 rfl rfl rfl (es rfl (es rfl (es rfl (et rfl)))) (et rfl) (by first | (rw [List.all_toArray] <;> rfl) | (simp only [List.all_toArray, List.all_cons, List.all_nil] <;> rfl)) (by rfl) (by kernel_rfl) (fun w237 c237 hc237 hS237 => ?_)
            replace hS237 : St w NoX [c225, c237, c8] w237 := hS237
            refine W_end ?_
            refine kq _ ?_
            refine AX_cast (l2 := #[true, true, true, true, true, true, true, true, true, false]) ?_ (by kernel_rfl)
            refine AX_1 (i := 9) (by kernel_rfl) rfl ?_
            refine W_stAS 0 hS237 rfl hc225 rfl rfl rfl (es rfl (es rfl (et rfl))) (es rfl (et rfl)) (by first | (rw [List.all_toArray] <;> rfl) | (simp only [List.all_toArray, List.all_cons, List.all_nil] <;> rfl)) (by rfl) (by kernel_rfl) (fun w238 c238 hc238 hS238 => ?_)
            replace hS238 : St w NoX [c238, c237, c8] w238 := hS238
            refine W_end ?_
            refine kq _ ?_
            refine AX_cast (l2 := #[true, true, true, true, true, true, true, true, true, true]) ?_ (by kernel_rfl)
            refine AX_end (by kernel_rfl) ?_
            refine Qo_normal ?_
            have hS239 : St w NoX [c238, c237] w238 := hS238.sel [0, 1] (by decide) rfl
            exact ⟨g225, g198, inferInstance, (by simp only [df_put]; exact hdf13), (es rfl (es rfl (es rfl (et rfl)))), (es rfl (es rfl (et rfl))), (by subst hc238 hc237; exact hS239)⟩
      · skip
        refine W_allocS (z := .agg #[.int .i64 0, .int .i64 0]) (zs := #[.int .i64 0, .int .i64 0]) hS119 rfl rfl rfl (by kernel_rfl) (by rfl) (fun g240 w240 c240 hc240 hS240 => ?_)
        replace hS240 : St w NoX [c240, c8] w240 := hS240
        refine W_end ?_
        refine kq _ ?_
        refine AX_cast (l2 := #[true, true, false, true, true, false, false, true, false, false]) ?_ (by kernel_rfl)
        refine AX_3 (i := 2) (j := 5) (m := 6) (by kernel_rfl) rfl rfl rfl ?_ ?_ ?_
        · skip
          refine W_r rfl rfl (VR_ldP (ys := rkC y20) rfl (es rfl (es rfl (es rfl (et rfl)))) (hS240.obj 1 rfl hc8) (arrR_at rkC_len hy20) Tryd.underlying50 rfl (by kernel_rfl)) ?_
          refine W_end ?_
          refine kq _ ?_
          refine AX_cast (l2 := #[true, true, true, true, true, false, false, true, false, false]) ?_ (by kernel_rfl)
          refine AX_2 (i := 5) (j := 6) (by kernel_rfl) rfl rfl ?_ ?_
          · skip
            refine W_r rfl rfl (VR_ldP (ys := rkC y22) rfl (es rfl (es rfl (et rfl))) (hS240.obj 1 rfl hc8) (arrR_at rkC_len hy22) Tryd.underlying50 rfl (by kernel_rfl)) ?_
            refine W_end ?_
            refine kq _ ?_
            refine AX_cast (l2 := #[true, true, true, true, true, true, false, true, false, false]) ?_ (by kernel_rfl)
            refine AX_1 (i := 6) (by kernel_rfl) rfl ?_
            refine W_allocS (z := .agg #[.int .i64 0, .int .i64 0]) (zs := #[.int .i64 0, .int .i64 0]) hS240 rfl rfl rfl (by kernel_rfl) (by rfl) (fun g243 w243 c243 hc243 hS243 => ?_)
            replace hS243 : St w NoX [c243, c240, c8] w243 := hS243
            refine W_end ?_
            refine kq _ ?_
            refine AX_cast (l2 := #[true, true, true, true, true, true, true, true, false, false]) ?_ (by kernel_rfl)
            refine AX_1 (i := 8) (by kernel_rfl) rfl ?_
            refine W_stAS 0 hS243 rfl hc243 rfl rfl rfl (et rfl) (es rfl (es rfl (et rfl))) (by first | (rw [List.all_toArray] <;> rfl) | (simp only [List.all_toArray, List.all_cons, List.all_nil] <;> rfl)) (by rfl) (by kernel_rfl) (fun w244 c244 hc244 hS244 => ?_)
            replace hS244 : St w NoX [c244, c240, c8] w244 := hS244
            refine W_end ?_
            refine kq _ ?_
            refine AX_cast (l2 := #[true, true, true, true, true, true, true, true, true, false]) ?_ (by kernel_rfl)
            refine AX_1 (i := 9) (by kernel_rfl) rfl ?_
            refine W_stAS 1 hS244 rfl hc240 rfl rfl rfl (es rfl (es rfl (es rfl (et rfl)))) (es rfl (et rfl)) (by first | (rw [List.all_toArray] <;> rfl) | (simp only [List.all_toArray, List.all_cons, List.all_nil] <;> rfl)) (by rfl) (by kernel_rfl) (fun w245 c245 hc245 hS245 => ?_)
            replace hS245 : St w NoX [c244, c245, c8] w245 := hS245
            refine W_end ?_
            refine kq _ ?_
            refine AX_cast (l2 := #[true, true, true, true, true, true, true, true, true, true]) ?_ (by kernel_rfl)
            refine AX_end (by kernel_rfl) ?_
            refine Qo_normal ?_
            have hS246 : St w NoX [c245, c244] w245 := hS245.sel [1, 0] (by decide) rfl
            exact ⟨g240, g243, inferInstance, (by simp only [df_put]; exact hdf13), (et rfl), (es rfl (es rfl (es rfl (et rfl)))), (by subst hc245 hc244; exact hS246)⟩
          · skip
            refine W_allocS (z := .agg #[.int .i64 0, .int .i64 0]) (zs := #[.int .i64 0, .int .i64 0]) hS240 rfl rfl rfl (by kernel_rfl) (by rfl) (fun g247 w247 c247 hc247 hS247 => ?_)
            replace hS247 : St w NoX [c247, c240, c8] w247 := hS247
            refine W_end ?_
            refine kq _ ?_
            refine AX_cast (l2 := #[true, true, true, true, true, false, true, true, false, false]) ?_ (by kernel_rfl)
            refine AX_2 (i := 5) (j := 8) (by kernel_rfl) rfl rfl ?_ ?_
            · skip
              refine W_r rfl rfl (VR_ldP (ys := rkC y22) rfl (es rfl (es rfl (es rfl (et rfl)))) (hS247.obj 2 rfl hc8) (arrR_at rkC_len hy22) Tryd.underlying50 rfl (by kernel_rfl)) ?_
              refine W_end ?_
              refine kq _ ?_
              refine AX_cast (l2 := #[true, true, true, true, true, true, true, true, false, false]) ?_ (by kernel_rfl)
              refine AX_1 (i := 8) (by kernel_rfl) rfl ?_
              refine W_stAS 0 hS247 rfl hc247 rfl rfl rfl (es rfl (et rfl)) (es rfl (es rfl (et rfl))) (by first | (rw [List.all_toArray] <;> rfl) | (simp only [List.all_toArray, List.all_cons, List.all_nil] <;> rfl)) (by rfl) (by kernel_rfl) (fun w249 c249 hc249 hS249 => ?_)
              replace hS249 : St w NoX [c249, c240, c8] w249 := hS249
              refine W_end ?_
              refine kq _ ?_
              refine AX_cast (l2 := #[true, true, true, true, true, true, true, true, true, false]) ?_ (by kernel_rfl)
              refine AX_1 (i := 9) (by kernel_rfl) rfl ?_
              refine W_stAS 1 hS249 rfl hc240 rfl rfl rfl (es rfl (es rfl (es rfl (et rfl)))) (et rfl) (by first | (rw [List.all_toArray] <;> rfl) | (simp only [List.all_toArray, List.all_cons, List.all_nil] <;> rfl)) (by rfl) (by kernel_rfl) (fun w250 c250 hc250 hS250 => ?_)
              replace hS250 : St w NoX [c249, c250, c8] w250 := hS250
              refine W_end ?_
              refine kq _ ?_
              refine AX_cast (l2 := #[true, true, true, true, true, true, true, true, true, true]) ?_ (by kernel_rfl)
              refine AX_end (by kernel_rfl) ?_
              refine Qo_normal ?_
              have hS251 : St w NoX [c250, c249] w250 := hS250.sel [1, 0] (by decide) rfl
              exact ⟨g240, g247, inferInstance, (by simp only [df_put]; exact hdf13), (es rfl (et rfl)), (es rfl (es rfl (es rfl (et rfl)))), (by subst hc250 hc249; exact hS251)⟩
            · skip
              refine W_stAS 0 hS247 rfl hc247 rfl rfl rfl (et rfl) (es rfl (et rfl)) (by first | (rw [List.all_toArray] <;> rfl) | (simp only [List.all_toArray, List.all_cons, List.all_nil] <;> rfl)) (by rfl) (by kernel_rfl) (fun w252 c252 hc252 hS252 => ?_)
              replace hS252 : St w NoX [c252, c240, c8] w252 := hS252
              refine W_end ?_
              refine kq _ ?_
              refine AX_cast (l2 := #[true, true, true, true, true, false, true, true, true, false]) ?_ (by kernel_rfl)
              refine AX_1 (i := 5) (by kernel_rfl) rfl ?_
              refine W_r rfl rfl (VR_ldP (ys := rkC y22) rfl (es rfl (es rfl (es rfl (et rfl)))) (hS252.obj 2 rfl hc8) (arrR_at rkC_len hy22) Tryd.underlying50 rfl (by kernel_rfl)) ?_
              refine W_end ?_
              refine kq _ ?_
              refine AX_cast (l2 := #[true, true, true, true, true, true, true, true, true, false]) ?_ (by kernel_rfl)
              refine AX_1 (i := 9) (by kernel_rfl) rfl ?_
              refine W_stAS 1 hS252 rfl hc240 rfl rfl rfl (es rfl (es rfl (es rfl (et rfl)))) (et rfl) (by first | (rw [List.all_toArray] <;> rfl) | (simp only [List.all_toArray, List.all_cons, List.all_nil] <;> rfl)) (by rfl) (by kernel_rfl) (fun w254 c254 hc254 hS254 => ?_)
              replace hS254 : St w NoX [c252, c254, c8] w254 := hS254
              refine W_end ?_
              refine kq _ ?_
              refine AX_cast (l2 := #[true, true, true, true, true, true, true, true, true, true]) ?_ (by kernel_rfl)
              refine AX_end (by kernel_rfl) ?_
              refine Qo_normal ?_
              have hS255 : St w NoX [c254, c252] w254 := hS254.sel [1, 0] (by decide) rfl
              exact ⟨g240, g247, inferInstance, (by simp only [df_put]; exact hdf13), (es rfl (et rfl)), (es rfl (es rfl (es rfl (et rfl)))), (by subst hc254 hc252; exact hS255)⟩
        · skip
          refine W_r rfl rfl (VR_ldP (ys := rkC y22) rfl (es rfl (et rfl)) (hS240.obj 1 rfl hc8) (arrR_at rkC_len hy22) Tryd.underlying50 rfl (by kernel_rfl)) ?_
          refine W_end ?_
          refine kq _ ?_
          refine AX_cast (l2 := #[true, true, false, true, true, true, false, true, false, false]) ?_ (by kernel_rfl)
          refine AX_2 (i := 2) (j := 6) (by kernel_rfl) rfl rfl ?_ ?_
          · skip
            refine W_r rfl rfl (VR_ldP (ys := rkC y20) rfl (es rfl (es rfl (es rfl (es rfl (et rfl))))) (hS240.obj 1 rfl hc8) (arrR_at rkC_len hy20) Tryd.underlying50 rfl (by kernel_rfl)) ?_
            refine W_end ?_
            refine kq _ ?_
            refine AX_cast (l2 := #[true, true, true, true, true, true, false, true, false, false]) ?_ (by kernel_rfl)
            refine AX_1 (i := 6) (by kernel_rfl) rfl ?_
            refine W_allocS (z := .agg #[.int .i64 0, .int .i64 0]) (zs := #[.int .i64 0, .int .i64 0]) hS240 rfl rfl rfl (by kernel_rfl) (by rfl) (fun g258 w258 c258 hc258 hS258 => ?_)
            replace hS258 : St w NoX [c258, c240, c8] w258 := hS258
            refine W_end ?_
            refine kq _ ?_
            refine AX_cast (l2 := #[true, true, true, true, true, true, true, true, false, false]) ?_ (by kernel_rfl)
            refine AX_1 (i := 8) (by kernel_rfl) rfl ?_
            refine W_stAS 0 hS258 rfl hc258 rfl rfl rfl (et rfl) (es rfl (et rfl)) (by first | (rw [List.all_toArray] <;> rfl) | (simp only [List.all_toArray, List.all_cons, List.all_nil] <;> rfl)) (by rfl) (by kernel_rfl) (fun w259 c259 hc259 hS259 => ?_)
            replace hS259 : St w NoX [c259, c240, c8] w259 := hS259
            refine W_end ?_
            refine kq _ ?_
            refine AX_cast (l2 := #[true, true, true, true, true, true, true, true, true, false]) ?_ (by kernel_rfl)
            refine AX_1 (i := 9) (by kernel_rfl) rfl ?_
            refine W_stAS 1 hS259 rfl hc240 rfl rfl rfl (es rfl (es rfl (es rfl (et rfl)))) (es rfl (es rfl (et rfl))) (by first | (rw [List.all_toArray] <;> rfl) | (simp only [List.all_toArray, List.all_cons, List.all_nil] <;> rfl)) (by rfl) (by kernel_rfl) (fun w260 c260 hc260 hS260 => ?_)
            replace hS260 : St w NoX [c259, c260, c8] w260 := hS260
            refine W_end ?_
            refine kq _ ?_
            refine AX_cast (l2 := #[true, true, true, true, true, true, true, true, true, true]) ?_ (by kernel_rfl)
            refine AX_end (by kernel_rfl) ?_
            refine Qo_normal ?_
            have hS261 : St w NoX [c260, c259] w260 := hS260.sel [1, 0] (by decide) rfl
            exact ⟨g240, g258, inferInstance, (by simp only [df_put]; exact hdf13), (et rfl), (es rfl (es rfl (es rfl (et rfl)))), (by subst hc260 hc259; exact hS261)⟩
          · skip
            refine W_allocS (z := .agg #[.int .i64 0, .int .i64 0]) (zs := #[.int .i64 0, .int .i64 0]) hS240 rfl rfl rfl (by kernel_rfl) (by rfl) (fun g262 w262 c262 hc262 hS262 => ?_)
            replace hS262 : St w NoX [c262, c240, c8] w262 := hS262
            refine W_end ?_
            refine kq _ ?_
            refine AX_cast (l2 := #[true, true, false, true, true, true, true, true, false, false]) ?_ (by kernel_rfl)
            refine AX_1 (i := 2) (by kernel_rfl) rfl ?_
            refine W_r rfl rfl (VR_ldP (ys := rkC y20) rfl (es rfl (es rfl (es rfl (es rfl (es rfl (et rfl)))))) (hS262.obj 2 rfl hc8) (arrR_at rkC_len hy20) Tryd.underlying50 rfl (by kernel_rfl)) ?_
            refine W_end ?_
            refine kq _ ?_
            refine AX_cast (l2 := #[true, true, true, true, true, true, true, true, false, false]) ?_ (by kernel_rfl)
            refine AX_1 (i := 8) (by kernel_rfl) rfl ?_
            refine W_stAS 0 hS262 rfl hc262 rfl rfl rfl (es rfl (et rfl)) (et rfl) (by first | (rw [List.all_toArray] <;> rfl) | (simp only [List.all_toArray, List.all_cons, List.all_nil] <;> rfl)) (by rfl) (by kernel_rfl) (fun w264 c264 hc264 hS264 => ?_)
            replace hS264 : St w NoX [c264, c240, c8] w264 := hS264
            refine W_end ?_
            refine kq _ ?_
            refine AX_cast (l2 := #[true, true, true, true, true, true, true, true, true, false]) ?_ (by kernel_rfl)
            refine AX_1 (i := 9) (by kernel_rfl) rfl ?_
            refine W_stAS 1 hS264 rfl hc240 rfl rfl rfl (es rfl (es rfl (es rfl (et rfl)))) (es rfl (es rfl (et rfl))) (by first | (rw [List.all_toArray] <;> rfl) | (simp only [List.all_toArray, List.all_cons, List.all_nil] <;> rfl)) (by rfl) (by kernel_rfl) (fun w265 c265 hc265 hS265 => ?_)
            replace hS265 : St w NoX [c264, c265, c8] w265 := hS265
            refine W_end ?_
            refine kq _ ?_
            refine AX_cast (l2 := #[true, true, true, true, true, true, true, true, true, true]) ?_ (by kernel_rfl)
            refine AX_end (by kernel_rfl) ?_
            refine Qo_normal ?_
            have hS266 : St w NoX [c265, c264] w265 := hS265.sel [1, 0] (by decide) rfl
            exact ⟨g240, g262, inferInstance, (by simp only [df_put]; exact hdf13), (es rfl (et rfl)), (es rfl (es rfl (es rfl (et rfl)))), (by subst hc265 hc264; exact hS266)⟩
        · skip
          refine W_allocS (z := .agg #[.int .i64 0, .int .i64 0]) (zs := #[.int .i64 0, .int .i64 0]) hS240 rfl rfl rfl (by kernel_rfl) (by rfl) (fun g267 w267 c267 hc267 hS267 => ?_)
          replace hS267 : St w NoX [c267, c240, c8] w267 := hS267
          refine W_end ?_
          refine kq _ ?_
          refine AX_cast (l2 := #[true, true, false, true, true, false, true, true, false, false]) ?_ (by kernel_rfl)
          refine AX_2 (i := 2) (j := 5) (by kernel_rfl) rfl rfl ?_ ?_
          · skip
            refine W_r rfl rfl (VR_ldP (ys := rkC y20) rfl (es rfl (es rfl (es rfl (es rfl (et rfl))))) (hS267.obj 2 rfl hc8) (arrR_at rkC_len hy20) Tryd.underlying50 rfl (by kernel_rfl)) ?_
            refine W_end ?_
            refine kq _ ?_
            refine AX_cast (l2 := #[true, true, true, true, true, false, true, true, false, false]) ?_ (by kernel_rfl)
            refine AX_2 (i := 5) (j := 8) (by kernel_rfl) rfl rfl ?_ ?_
            · skip
              refine W_r rfl rfl (VR_ldP (ys := rkC y22) rfl (es rfl (es rfl (es rfl (et rfl)))) (hS267.obj 2 rfl hc8) (arrR_at rkC_len hy22) Tryd.underlying50 rfl (by kernel_rfl)) ?_
              refine W_end ?_
              refine kq _ ?_
              refine AX_cast (l2 := #[true, true, true, true, true, true, true, true, false, false]) ?_ (by kernel_rfl)
              refine AX_1 (i := 8) (by kernel_rfl) rfl ?_
              refine W_stAS 0 hS267 rfl hc267 rfl rfl rfl (es rfl (es rfl (et rfl))) (es rfl (et rfl)) (by first | (rw [List.all_toArray] <;> rfl) | (simp only [List.all_toArray, List.all_cons, List.all_nil] <;> rfl)) (by rfl) (by kernel_rfl) (fun w270 c270 hc270 hS270 => ?_)
              replace hS270 : St w NoX [c270, c240, c8] w270 := hS270
              refine W_end ?_
              refine kq _ ?_
              refine AX_cast (l2 := #[true, true, true, true, true, true, true, true, true, false]) ?_ (by kernel_rfl)
              refine AX_1 (i := 9) (by kernel_rfl) rfl ?_
              refine W_stAS 1 hS270 rfl hc240 rfl rfl rfl (es rfl (es rfl (es rfl (et rfl)))) (et rfl) (by first | (rw [List.all_toArray] <;> rfl) | (simp only [List.all_toArray, List.all_cons, List.all_nil] <;> rfl)) (by rfl) (by kernel_rfl) (fun w271 c271 hc271 hS271 => ?_)
              replace hS271 : St w NoX [c270, c271, c8] w271 := hS271
              refine W_end ?_
              refine kq _ ?_
              refine AX_cast (l2 := #[true, true, true, true, true, true, true, true, true, true]) ?_ (by kernel_rfl)
              refine AX_end (by kernel_rfl) ?_
              refine Qo_normal ?_
              have hS272 : St w NoX [c271, c270] w271 := hS271.sel [1, 0] (by decide) rfl
              exact ⟨g240, g267, inferInstance, (by simp only [df_put]; exact hdf13), (es rfl (es rfl (et rfl))), (es rfl (es rfl (es rfl (et rfl)))), (by subst hc271 hc270; exact hS272)⟩
            · skip
              refine W_stAS 0 hS267 rfl hc267 rfl rfl rfl (es rfl (et rfl)) (et rfl) (by first | (rw [List.all_toArray] <;> rfl) | (simp only [List.all_toArray, List.all_cons, List.all_nil] <;> rfl)) (by rfl) (by kernel_rfl) (fun w273 c273 hc273 hS273 => ?_)
              replace hS273 : St w NoX [c273, c240, c8] w273 := hS273
              refine W_end ?_
              refine kq _ ?_
              refine AX_cast (l2 := #[true, true, true, true, true, false, true, true, true, false]) ?_ (by kernel_rfl)
              refine AX_1 (i := 5) (by kernel_rfl) rfl ?_
              refine W_r rfl rfl (VR_ldP (ys := rkC y22) rfl (es rfl (es rfl (es rfl (et rfl)))) (hS273.obj 2 rfl hc8) (arrR_at rkC_len hy22) Tryd.underlying50 rfl (by kernel_rfl)) ?_
              refine W_end ?_
              refine kq _ ?_
              refine AX_cast (l2 := #[true, true, true, true, true, true, true, true, true, false]) ?_ (by kernel_rfl)
              refine AX_1 (i := 9) (by kernel_rfl) rfl ?_
              refine W_stAS 1 hS273 rfl hc240 rfl rfl rfl (es rfl (es rfl (es rfl (et rfl)))) (et rfl) (by first | (rw [List.all_toArray] <;> rfl) | (simp only [List.all_toArray, List.all_cons, List.all_nil] <;> rfl)) (by rfl) (by kernel_rfl) (fun w275 c275 hc275 hS275 => ?_)
              replace hS275 : St w NoX [c273, c275, c8] w275 := hS275
              refine W_end ?_
              refine kq _ ?_
              refine AX_cast (l2 := #[true, true, true, true, true, true, true, true, true, true]) ?_ (by kernel_rfl)
              refine AX_end (by kernel_rfl) ?_
              refine Qo_normal ?_
              have hS276 : St w NoX [c275, c273] w275 := hS275.sel [1, 0] (by decide) rfl
              exact ⟨g240, g267, inferInstance, (by simp only [df_put]; exact hdf13), (es rfl (es rfl (et rfl))), (es rfl (es rfl (es rfl (et rfl)))), (by subst hc275 hc273; exact hS276)⟩
          · skip
            refine W_r rfl rfl (VR_ldP (ys := rkC y22) rfl (es rfl (es rfl (et rfl))) (hS267.obj 2 rfl hc8) (arrR_at rkC_len hy22) Tryd.underlying50 rfl (by kernel_rfl)) ?_
            refine W_end ?_
            refine kq _ ?_
            refine AX_cast (l2 := #[true, true, false, true, true, true, true, true, false, false]) ?_ (by kernel_rfl)
            refine AX_1 (i := 2) (by kernel_rfl) rfl ?_
            refine W_r rfl rfl (VR_ldP (ys := rkC y20) rfl (es rfl (es rfl (es rfl (es rfl (es rfl (et rfl)))))) (hS267.obj 2 rfl hc8) (arrR_at rkC_len hy20) Tryd.underlying50 rfl (by kernel_rfl)) ?_
            refine W_end ?_
            refine kq _ ?_
            refine AX_cast (l2 := #[true, true, true, true, true, true, true, true, false, false]) ?_ (by kernel_rfl)
            refine AX_1 (i := 8) (by kernel_rfl) rfl ?_
            refine W_stAS 0 hS267 rfl hc267 rfl rfl rfl (es rfl (es rfl (et rfl))) (et rfl) (by first | (rw [List.all_toArray] <;> rfl) | (simp only [List.all_toArray, List.all_cons, List.all_nil] <;> rfl)) (by rfl) (by kernel_rfl) (fun w279 c279 hc279 hS279 => ?_)
            replace hS279 : St w NoX [c279, c240, c8] w279 := hS279
            refine W_end ?_
            refine kq _ ?_
            refine AX_cast (l2 := #[true, true, true, true, true, true, true, true, true, false]) ?_ (by kernel_rfl)
            refine AX_1 (i := 9) (by kernel_rfl) rfl ?_
            refine W_stAS 1 hS279 rfl hc240 rfl rfl rfl (es rfl (es rfl (es rfl (et rfl)))) (es rfl (et rfl)) (by first | (rw [List.all_toArray] <;> rfl) | (simp only [List.all_toArray, List.all_cons, List.all_nil] <;> rfl)) (by rfl) (by kernel_rfl) (fun w280 c280 hc280 hS280 => ?_)
            replace hS280 : St w NoX [c279, c280, c8] w280 := hS280
            refine W_end ?_
            refine kq _ ?_
            refine AX_cast (l2 := #[true, true, true, true, true, true, true, true, true, true]) ?_ (by kernel_rfl)
            refine AX_end (by kernel_rfl) ?_
            refine Qo_normal ?_
            have hS281 : St w NoX [c280, c279] w280 := hS280.sel [1, 0] (by decide) rfl
            exact ⟨g240, g267, inferInstance, (by simp only [df_put]; exact hdf13), (es rfl (es rfl (et rfl))), (es rfl (es rfl (es rfl (et rfl)))), (by subst hc280 hc279; exact hS281)⟩
    · rintro A282 w282 ⟨g24, g23, hsz282, hdf282, l10_282, l11_282, hS282⟩
      clear hsz13 hdf13 hS10 l1_13 l2_13 l8_13 l9_13 l21_13
      obtain ⟨c26_282, c25_282, hc26_282, hc25_282, hS282⟩ := gen2 hS282
      refine then_n (hK18 _ _ ?_)
      clear hK18
      refine wp_seq_k (fun K283 hK283 => ?_)
      refine wp_seq_k (fun K284 hK284 => ?_)
      -- region 5
      refine region_in ?_
      refine W_r rfl rfl (VR_ldA rfl l10_282 (hS282.obj 1 rfl hc25_282) Tryd.underlying50 rfl (by kernel_rfl)) ?_
      refine W_r rfl rfl (VR_ldA rfl rfl (ob_at (hS282.ro hG0)) Tryd.underlying50 rfl (by kernel_rfl)) ?_
      refine W_v rfl rfl (V_eqSt2 rfl (es rfl (et rfl)) (et rfl) (by kernel_rfl)) ?_
      refine W_split rfl rfl (V_mov rfl (et rfl)) (fun c285 => ?_) (fun c285 => ?_)
      · skip
        refine W_off rfl (wanted_f rfl rfl (et rfl) (ez rfl) rfl) ?_
        refine W_off rfl (wanted_f rfl rfl (es rfl (et rfl)) (ez rfl) rfl) ?_
        refine W_off rfl (wanted_f rfl rfl (es rfl (es rfl (et rfl))) (ez rfl) rfl) ?_
        refine W_v rfl rfl (V_pickT rfl (es rfl (es rfl (es rfl (et rfl)))) rfl) ?_
        refine W_end ?_
        refine gen_Q (fun A286 hA286 => ?_)
        have hsz286 : SzN A286 49 := by rw [hA286]; infer_instance
        have hdf286 : A286.defers = [] := by rw [hA286]; simp only [df_put]; exact hdf282
        have l10_286 := lookE hA286 10 (es rfl (es rfl (es rfl (es rfl (es rfl (es rfl (es rfl (es rfl l10_282))))))))
        have l11_286 := lookE hA286 11 (es rfl (es rfl (es rfl (es rfl (es rfl (es rfl (es rfl (es rfl l11_282))))))))
        have l36_286 := lookE hA286 36 (et rfl)
        clear hA286 hsz282 hdf282 l10_282 l11_282
        refine then_n (hK284 _ _ ?_)
        clear hK284
        refine cond_t l36_286 ?_
        refine wp_seq_k (fun K287 hK287 => ?_)
        -- region 6
        refine region_in ?_
        refine W_v rfl rfl (V_asg rfl rfl) ?_
        refine W_v rfl rfl (V_asg rfl rfl) ?_
        refine W_end ?_
        refine gen_Q (fun A288 hA288 => ?_)
        have hsz288 : SzN A288 49 := by rw [hA288]; infer_instance
        have hdf288 : A288.defers = [] := by rw [hA288]; simp only [df_put]; exact hdf286
        have l6_288 := lookE hA288 6 (es rfl (et rfl))
        have l7_288 := lookE hA288 7 (et rfl)
        clear hA288 hsz286 hdf286 l10_286 l11_286 l36_286
        have hS289 : St w NoX [] w282 := hS282.sel [] (by decide) rfl
        refine then_n (hK287 _ _ ?_)
        clear hK287
        refine wp_ret ?_
        refine then_ret ?_
        refine ret_in (results_2 Tryd.results13 (rv_tmp l6_288) (rv_tmp l7_288)) hdf288 ?_
        -- leaf FT
        have hn : (rkR lo yo a).1 = -1 ∨ (rkR lo yo b).1 = -1 := by rw [hr20, hr22]; exact .inl c285.1
        have e0 : cmN lo yo a b = 0 := by exact cmN_err (by rw [cmE_no hk_a hk_b hn]; decide)
        have e1 : cmE lo yo a b = 4 := by exact cmE_no hk_a hk_b hn
        rw [e0, e1]
        exact ⟨rfl, hS289.fin0⟩
      · skip
        refine W_r rfl (wanted_t rfl rfl (et rfl) (ez rfl)) (VR_ldA rfl (es rfl (es rfl (es rfl (es rfl l11_282)))) (hS282.obj 0 rfl hc26_282) Tryd.underlying50 rfl (by kernel_rfl)) ?_
        refine W_r rfl (wanted_t rfl rfl (es rfl (et rfl)) (ez rfl)) (VR_ldA rfl rfl (ob_at (hS282.ro hG0)) Tryd.underlying50 rfl (by kernel_rfl)) ?_
        refine W_v rfl (wanted_t rfl rfl (es rfl (es rfl (et rfl))) (ez rfl)) (V_eqSt2 rfl (es rfl (et rfl)) (et rfl) (by kernel_rfl)) ?_
        refine W_v rfl rfl (V_pickF rfl (es rfl (es rfl (es rfl (et rfl)))) (et rfl)) ?_
        refine W_end ?_
        refine gen_Q (fun A290 hA290 => ?_)
        have hsz290 : SzN A290 49 := by rw [hA290]; infer_instance
        have hdf290 : A290.defers = [] := by rw [hA290]; simp only [df_put]; exact hdf282
        have l10_290 := lookE hA290 10 (es rfl (es rfl (es rfl (es rfl (es rfl (es rfl (es rfl (es rfl l10_282))))))))
        have l11_290 := lookE hA290 11 (es rfl (es rfl (es rfl (es rfl (es rfl (es rfl (es rfl (es rfl l11_282))))))))
        have l36_290 := lookE hA290 36 (et rfl)
        clear hA290 hsz282 hdf282 l10_282 l11_282
        refine then_n (hK284 _ _ ?_)
        clear hK284
        refine cond_dec l36_290 (fun c291 => ?_) (fun c291 => ?_)
        · skip
          refine wp_seq_k (fun K292 hK292 => ?_)
          -- region 6
          refine region_in ?_
          refine W_v rfl rfl (V_asg rfl rfl) ?_
          refine W_v rfl rfl (V_asg rfl rfl) ?_
          refine W_end ?_
          refine gen_Q (fun A293 hA293 => ?_)
          have hsz293 : SzN A293 49 := by rw [hA293]; infer_instance
          have hdf293 : A293.defers = [] := by rw [hA293]; simp only [df_put]; exact hdf290
          have l6_293 := lookE hA293 6 (es rfl (et rfl))
          have l7_293 := lookE hA293 7 (et rfl)
          clear hA293 hsz290 hdf290 l10_290 l11_290 l36_290
          have hS294 : St w NoX [] w282 := hS282.sel [] (by decide) rfl
          refine then_n (hK292 _ _ ?_)
          clear hK292
          refine wp_ret ?_
          refine then_ret ?_
          refine ret_in (results_2 Tryd.results13 (rv_tmp l6_293) (rv_tmp l7_293)) hdf293 ?_
          -- leaf FFT
          have hn : (rkR lo yo a).1 = -1 ∨ (rkR lo yo b).1 = -1 := by rw [hr20, hr22]; exact .inr c291.1
          have e0 : cmN lo yo a b = 0 := by exact cmN_err (by rw [cmE_no hk_a hk_b hn]; decide)
          have e1 : cmE lo yo a b = 4 := by exact cmE_no hk_a hk_b hn
          rw [e0, e1]
          exact ⟨rfl, hS294.fin0⟩
        · skip
          refine wp_skip ?_
          refine then_n (hK283 _ _ ?_)
          clear hK283
          refine wp_seq_k (fun K295 hK295 => ?_)
          -- region 7
          refine region_monoS 14 14 [none, none, none, none, some (SPc (fun u l' => u = .int .i64 (cmpI y20.1 y22.1) ∧ l' = []) 4), none, none, none, none, some (SPc (fun u l' => u = .int .i64 (cmpI y20.2 y22.2) ∧ l' = []) 9), some (SPc (fun u l' => ∃ g, u = .slice (some ⟨g, 0, none⟩) 2 2 ∧ ∃ c, c = io .i64 (.slice (some ⟨g, 0, none⟩) 2 2) [cmpI y20.1 y22.1, cmpI y20.2 y22.2] ∧ l' = [c]) 10), some (SPc (fun u l' => u = .int .i64 (orI [cmpI y20.1 y22.1, cmpI y20.2 y22.2]) ∧ l' = []) 11)] (by kernel_rfl) (by kernel_rfl) ?_
          refine D_v rfl rfl (V_fa (off' := 0) rfl l10_290 Tryd.underlying50 rfl (by decide) rfl) rfl rfl ?_
          refine D_r rfl rfl (by kernel_rfl) (fun sx hx hF => (VR_ldC rfl (et rfl) (cell_box (v := .int .i64 (y20.1)) ((hS282.grow hx).obj 1 rfl hc25_282) rfl) Tryd.underlying3 rfl)) rfl rfl ?_
          refine D_v rfl rfl (V_fa (off' := 0) rfl (es rfl (es rfl l11_290)) Tryd.underlying50 rfl (by decide) rfl) rfl rfl ?_
          refine D_r rfl rfl (by kernel_rfl) (fun sx hx hF => (VR_ldC rfl (et rfl) (cell_box (v := .int .i64 (y22.1)) ((hS282.grow hx).obj 0 rfl hc26_282) rfl) Tryd.underlying3 rfl)) rfl rfl ?_
          refine D_call (C := fun u l' => u = .int .i64 (cmpI y20.1 y22.1) ∧ l' = []) rfl rfl rfl Tryd.func40 (by kernel_rfl) rfl (args2 (es rfl (es rfl (et rfl))) (et rfl)) rfl rfl (fun sx hx hF => ?_) (fun u296 l296 hu296 => ?_)
          · refine (cmpI_c (x := y20.1) (y := y22.1)  ).mono ?_
            rintro _ _ ⟨rfl, hz⟩
            exact ⟨_, rfl, _, ⟨rfl, rfl⟩, hz⟩
          obtain ⟨rfl, hl296⟩ := hu296
          refine D_v rfl rfl (V_fa (off' := 1) rfl (es rfl (es rfl (es rfl (es rfl (es rfl l10_290))))) Tryd.underlying50 rfl (by decide) rfl) rfl rfl ?_
          refine D_r rfl rfl (by kernel_rfl) (fun sx hx hF => (VR_ldC rfl (et rfl) (cell_box (v := .int .i64 (y20.2)) ((hS282.grow hx).obj 1 rfl hc25_282) rfl) Tryd.underlying3 rfl)) rfl rfl ?_
          refine D_v rfl rfl (V_fa (off' := 1) rfl (es rfl (es rfl (es rfl (es rfl (es rfl (es rfl (es rfl l11_290))))))) Tryd.underlying50 rfl (by decide) rfl) rfl rfl ?_
          refine D_r rfl rfl (by kernel_rfl) (fun sx hx hF => (VR_ldC rfl (et rfl) (cell_box (v := .int .i64 (y22.2)) ((hS282.grow hx).obj 0 rfl hc26_282) rfl) Tryd.underlying3 rfl)) rfl rfl ?_
          refine D_call (C := fun u l' => u = .int .i64 (cmpI y20.2 y22.2) ∧ l' = []) rfl rfl rfl Tryd.func40 (by kernel_rfl) rfl (args2 (es rfl (es rfl (et rfl))) (et rfl)) rfl rfl (fun sx hx hF => ?_) (fun u297 l297 hu297 => ?_)
          · refine (cmpI_c (x := y20.2) (y := y22.2)  ).mono ?_
            rintro _ _ ⟨rfl, hz⟩
            exact ⟨_, rfl, _, ⟨rfl, rfl⟩, hz⟩
          obtain ⟨rfl, hl297⟩ := hu297
          have hll298 : [cmpI y20.1 y22.1, cmpI y20.2 y22.2].length = 2 := rfl
          refine D_lay (C := fun u l' => ∃ g, u = .slice (some ⟨g, 0, none⟩) 2 2 ∧ ∃ c, c = io .i64 (.slice (some ⟨g, 0, none⟩) 2 2) [cmpI y20.1 y22.1, cmpI y20.2 y22.2] ∧ l' = [c]) rfl rfl rfl rfl (fun sx hx hF => lay_lit (vs := [.int .i64 (cmpI y20.1 y22.1), .int .i64 (cmpI y20.2 y22.2)]) 1 rfl (parts2 (es rfl (es rfl (es rfl (es rfl (es rfl (et rfl)))))) (et rfl)) rfl Tryd.underlying22 (by kernel_rfl) (by decide) (by intro v hv; simp only [List.mem_cons, List.not_mem_nil, or_false] at hv; rcases hv with rfl | rfl <;> rfl) (by rfl)) (fun u298 l298 hu298 => ?_)
          obtain ⟨g298, rfl, c298, hc298, hl298⟩ := hu298
          refine D_call (C := fun u l' => u = .int .i64 (orI [cmpI y20.1 y22.1, cmpI y20.2 y22.2]) ∧ l' = []) rfl rfl rfl Tryd.func39 (by kernel_rfl) rfl (args1 (et rfl)) rfl rfl (fun sx hx hF => ?_) (fun u299 l299 hu299 => ?_)
          · obtain ⟨ll298, ws298, we298, ⟨g298q, hq298, c298_, hc298_, hl298_⟩, hm298, k298, e298⟩ := L.ancF_get hF (by kernel_rfl); cases hq298; subst hl298_; refine (cmpOr_c ((k298.grow e298).chC 0 rfl hc298_).own ).mono ?_
            rintro _ _ ⟨rfl, hz⟩
            exact ⟨_, rfl, _, ⟨rfl, rfl⟩, hz⟩
          obtain ⟨rfl, hl299⟩ := hu299
          refine D_v rfl rfl (V_asg rfl (et rfl)) rfl rfl ?_
          refine D_v rfl rfl (V_asg rfl rfl) rfl rfl ?_
          refine ZS_none hS282 (Nat.le_refl _) (Nat.le_refl _) (fun s300 hJ300 hL300 hF300 => ?_)
          obtain ⟨ll296, ws296, we296, ⟨hq296, hl296r⟩, hm296, k296, e296⟩ := L.all_get (L.all_rest (L.all_rest (L.all_rest hF300))); cases hq296; subst hl296r
          replace hJ300 := hJ300.add hL300 (i := 4) rfl hm296 k296 e296
          obtain ⟨ll297, ws297, we297, ⟨hq297, hl297r⟩, hm297, k297, e297⟩ := L.all_get (L.all_rest (L.all_rest hF300)); cases hq297; subst hl297r
          replace hJ300 := hJ300.add hL300 (i := 9) rfl hm297 k297 e297
          obtain ⟨ll298, ws298, we298, ⟨g298q, hq298, c298r, hc298r, hl298r⟩, hm298, k298, e298⟩ := L.all_get (L.all_rest hF300); cases hq298; subst hl298r
          replace hJ300 := hJ300.add hL300 (i := 10) rfl hm298 k298 e298
          obtain ⟨ll299, ws299, we299, ⟨hq299, hl299r⟩, hm299, k299, e299⟩ := L.all_get hF300; cases hq299; subst hl299r
          replace hJ300 := hJ300.add hL300 (i := 11) rfl hm299 k299 e299
          have hS300 := hJ300.st; clear hF300 hJ300 hL300
          generalize s300.1 = w300 at *
          replace hS300 : St w NoX [c298r, c26_282, c25_282] w300 := hS300
          refine gen_Q (fun A301 hA301 => ?_)
          have hsz301 : SzN A301 49 := by rw [hA301]; infer_instance
          have hdf301 : A301.defers = [] := by rw [hA301]; simp only [df_put]; exact hdf290
          have l6_301 := lookE hA301 6 (es rfl (et rfl))
          have l7_301 := lookE hA301 7 (et rfl)
          clear hA301 hsz290 hdf290 l10_290 l11_290 l36_290
          have hS302 : St w NoX [] w300 := hS300.sel [] (by decide) rfl
          refine then_n (hK295 _ _ ?_)
          clear hK295
          refine wp_ret ?_
          refine ret_in (results_2 Tryd.results13 (rv_tmp l6_301) (rv_tmp l7_301)) hdf301 ?_
          -- leaf FFF
          have hn : cmE lo yo a b = 0 := cmE_ok hk_a hk_b (fun h => c285 (by rw [← hr20]; exact rkR_pair hk_a h)) (fun h => c291 (by rw [← hr22]; exact rkR_pair hk_b h))
          have e0 : cmN lo yo a b = orI [cmpI y20.1 y22.1, cmpI y20.2 y22.2] := by rw [cmN_ok hn, hr20, hr22]
          have e1 : cmE lo yo a b = 0 := by exact hn
          rw [e0, e1]
          exact ⟨rfl, hS302.fin0⟩

set_option maxHeartbeats 4000000 in
theorem qpl_c {lv : Value} {lo : List Int} {yv : Value} {yo : List Int} {c : Int} {w : World} (h_lv : Ro w NoX (il .i64 lv lo)) (h_yv : Ro w NoX (il .i64 yv yo)) (h1 : lo.length ≤ 1000) (h2 : yo.length ≤ 1000) :
    Calls Tryd.prog 41 #[.agg #[lv, yv], .int .i64 c] w fun e w' => e = .returned (.tuple #[.int .i64 (plN lo yo c), .int .i64 (plE lo yo c)]) ∧ St w NoX [] w' := by
  have bb := rk_bd lo yo c
  refine calls_in 35 Tryd.func41 rfl rfl (by simp) (fun A0 hsz0 hdf0 hargs => ?_)
  have l0_0 := hargs 0 (.agg #[lv, yv]) rfl
  have l1_0 := hargs 1 (.int .i64 c) rfl
  clear hargs; replace hsz0 : SzN A0 35 := ⟨hsz0⟩
  have hS := St.nil w
  have bh_lv := SlN.le (sl_SlN h_lv.at)
  have bh_yv := SlN.le (sl_SlN h_yv.at)
  refine wp_seq_k (fun K1 hK1 => ?_)
  -- region 0
  refine region_in ?_
  refine W_boxS (zs := #[lv, yv]) hS rfl rfl rfl l0_0 (by rfl) (fun g2 w2 c2 hc2 hS2 => ?_)
  replace hS2 : St w NoX [c2] w2 := hS2
  refine W_v rfl rfl (V_asg rfl rfl) ?_
  refine W_v rfl rfl (V_asg rfl rfl) ?_
  refine W_end ?_
  refine gen_Q (fun A3 hA3 => ?_)
  have hsz3 : SzN A3 35 := by rw [hA3]; infer_instance
  have hdf3 : A3.defers = [] := by rw [hA3]; simp only [df_put]; exact hdf0
  have l1_3 := lookE hA3 1 (es rfl (es rfl (es rfl l1_0)))
  have l2_3 := lookE hA3 2 (es rfl (es rfl (et rfl)))
  clear hA3 hsz0 hdf0 l0_0 l1_0
  refine then_n (hK1 _ _ ?_)
  clear hK1
  refine wp_seq_k (fun K4 hK4 => ?_)
  -- region 1
  refine region_in ?_
  refine W_r rfl rfl (VR_ldA rfl l2_3 (hS2.obj 0 rfl hc2) Tryd.underlying24 rfl (by kernel_rfl)) ?_
  refine W_v rfl rfl (V_mov rfl (es rfl l1_3)) ?_
  refine W_call rfl rfl rfl Tryd.func32 (by kernel_rfl) rfl (args2 (es rfl (et rfl)) (et rfl)) (qOf_c (c := c) (hS2.roC h_lv) (hS2.roC h_yv) (by first | omega | (simp; done) | (simp; omega)) (by first | omega | (simp; done) | (simp; omega))) ?_
  rintro _ w5 ⟨rfl, hP5⟩
  refine ⟨_, rfl, ?_⟩
  have hS5 := hS2.join hP5
  replace hS5 : St w NoX [c2] w5 := hS5
  refine W_v rfl rfl (V_mov rfl (et rfl)) ?_
  refine W_v rfl rfl (V_ext (v := .agg #[.int .i64 ((rkR lo yo c).1), .int .i64 ((rkR lo yo c).2)]) rfl (et rfl) rfl) ?_
  refine W_v rfl rfl (V_ext (v := .int .i64 ((rkE lo yo c))) rfl (es rfl (et rfl)) rfl) ?_
  refine W_allocS (z := .agg #[.int .i64 0, .int .i64 0]) (zs := #[.int .i64 0, .int .i64 0]) hS5 rfl rfl rfl (by kernel_rfl) (by rfl) (fun g6 w6 c6 hc6 hS6 => ?_)
  replace hS6 : St w NoX [c6, c2] w6 := hS6
  refine W_stAS 0 hS6 rfl hc6 rfl rfl rfl (et rfl) (es rfl (es rfl (et rfl))) (by first | (rw [List.all_toArray] <;> rfl) | (simp only [List.all_toArray, List.all_cons, List.all_nil] <;> rfl)) (by rfl) (by kernel_rfl) (fun w7 c7 hc7 hS7 => ?_)
  replace hS7 : St w NoX [c7, c2] w7 := hS7
  refine W_v rfl rfl (V_asg rfl (es rfl (et rfl))) ?_
  refine W_end ?_
  refine gen_Q (fun A8 hA8 => ?_)
  have hsz8 : SzN A8 35 := by rw [hA8]; infer_instance
  have hdf8 : A8.defers = [] := by rw [hA8]; simp only [df_put]; exact hdf3
  have l2_8 := lookE hA8 2 (es rfl (es rfl (es rfl (es rfl (es rfl (es rfl (es rfl (es rfl l2_3))))))))
  have l6_8 := lookE hA8 6 (es rfl (et rfl))
  have l7_8 := lookE hA8 7 (et rfl)
  clear hA8 hsz3 hdf3 l1_3 l2_3
  refine then_n (hK4 _ _ ?_)
  clear hK4
  refine wp_seq_k (fun K9 hK9 => ?_)
  refine wp_seq_k (fun K10 hK10 => ?_)
  -- region 2
  refine region_in ?_
  refine W_v rfl rfl (V_mov rfl l7_8) ?_
  refine W_v rfl rfl (V_eql rfl (et rfl) rfl) ?_
  refine W_split rfl rfl (V_mov rfl (et rfl)) (fun c11 => ?_) (fun c11 => ?_)
  · skip
    refine W_v rfl (wanted_t rfl rfl (et rfl) (ez rfl)) (V_fa (off' := 0) rfl (es rfl (es rfl (es rfl l6_8))) Tryd.underlying50 rfl (by decide) rfl) ?_
    refine W_r rfl (wanted_t rfl rfl (es rfl (et rfl)) (ez rfl)) (VR_ldC rfl (et rfl) (cell_box (v := .int .i64 ((rkR lo yo c).1)) (hS7.obj 0 rfl hc7) rfl) Tryd.underlying3 rfl) ?_
    refine W_v rfl (wanted_t rfl rfl (es rfl (es rfl (et rfl))) (ez rfl)) (V_eql rfl (et rfl) rfl) ?_
    refine W_v rfl rfl (V_pickT rfl (es rfl (es rfl (es rfl (et rfl)))) (et rfl)) ?_
    refine W_end ?_
    refine gen_Q (fun A12 hA12 => ?_)
    have hsz12 : SzN A12 35 := by rw [hA12]; infer_instance
    have hdf12 : A12.defers = [] := by rw [hA12]; simp only [df_put]; exact hdf8
    have l2_12 := lookE hA12 2 (es rfl (es rfl (es rfl (es rfl (es rfl (es rfl (es rfl l2_8)))))))
    have l6_12 := lookE hA12 6 (es rfl (es rfl (es rfl (es rfl (es rfl (es rfl (es rfl l6_8)))))))
    have l7_12 := lookE hA12 7 (es rfl (es rfl (es rfl (es rfl (es rfl (es rfl (es rfl l7_8)))))))
    have l20_12 := lookE hA12 20 (et rfl)
    clear hA12 hsz8 hdf8 l2_8 l6_8 l7_8
    refine then_n (hK10 _ _ ?_)
    clear hK10
    refine cond_dec l20_12 (fun c13 => ?_) (fun c13 => ?_)
    · skip
      -- region 3
      refine region_in ?_
      refine W_v rfl rfl (V_asg rfl rfl) ?_
      refine W_end ?_
      refine gen_Q (fun A14 hA14 => ?_)
      have hsz14 : SzN A14 35 := by rw [hA14]; infer_instance
      have hdf14 : A14.defers = [] := by rw [hA14]; simp only [df_put]; exact hdf12
      have l2_14 := lookE hA14 2 (es rfl l2_12)
      have l6_14 := lookE hA14 6 (es rfl l6_12)
      have l7_14 := lookE hA14 7 (et rfl)
      clear hA14 hsz12 hdf12 l2_12 l6_12 l7_12 l20_12
      refine then_n (hK9 _ _ ?_)
      clear hK9
      refine wp_seq_k (fun K15 hK15 => ?_)
      refine wp_seq_k (fun K16 hK16 => ?_)
      -- region 4
      refine region_in ?_
      refine W_v rfl rfl (V_mov rfl l7_14) ?_
      refine W_v rfl rfl (V_neq rfl (et rfl) rfl) ?_
      refine W_end ?_
      refine gen_Q (fun A17 hA17 => ?_)
      have hsz17 : SzN A17 35 := by rw [hA17]; infer_instance
      have hdf17 : A17.defers = [] := by rw [hA17]; simp only [df_put]; exact hdf14
      have l2_17 := lookE hA17 2 (es rfl (es rfl l2_14))
      have l6_17 := lookE hA17 6 (es rfl (es rfl l6_14))
      have l7_17 := lookE hA17 7 (es rfl (es rfl l7_14))
      have l22_17 := lookE hA17 22 (et rfl)
      clear hA17 hsz14 hdf14 l2_14 l6_14 l7_14
      refine then_n (hK16 _ _ ?_)
      clear hK16
      refine cond_sure l22_17 (by decide) ?_
      refine wp_seq_k (fun K18 hK18 => ?_)
      -- region 5
      refine region_in ?_
      refine W_v rfl rfl (V_mov rfl l7_17) ?_
      refine W_v rfl rfl (V_asg rfl rfl) ?_
      refine W_v rfl rfl (V_asg rfl (es rfl (et rfl))) ?_
      refine W_end ?_
      refine gen_Q (fun A19 hA19 => ?_)
      have hsz19 : SzN A19 35 := by rw [hA19]; infer_instance
      have hdf19 : A19.defers = [] := by rw [hA19]; simp only [df_put]; exact hdf17
      have l4_19 := lookE hA19 4 (es rfl (et rfl))
      have l5_19 := lookE hA19 5 (et rfl)
      clear hA19 hsz17 hdf17 l2_17 l6_17 l7_17 l22_17
      have hS20 : St w NoX [] w7 := hS7.sel [] (by decide) rfl
      refine then_n (hK18 _ _ ?_)
      clear hK18
      refine wp_ret ?_
      refine then_ret ?_
      refine ret_in (results_2 Tryd.results41 (rv_tmp l4_19) (rv_tmp l5_19)) hdf19 ?_
      -- leaf TT
      have pc := plc lo yo c
      have e0 : plN lo yo c = 0 := by rw [pc.1]; split <;> first | omega | (split <;> omega)
      have e1 : plE lo yo c = 4 := by rw [pc.2]; split <;> first | omega | (split <;> omega)
      rw [e0, e1]
      exact ⟨rfl, hS20.fin0⟩
    · skip
      refine wp_skip ?_
      refine then_n (hK9 _ _ ?_)
      clear hK9
      refine wp_seq_k (fun K21 hK21 => ?_)
      refine wp_seq_k (fun K22 hK22 => ?_)
      -- region 4
      refine region_in ?_
      refine W_v rfl rfl (V_mov rfl l7_12) ?_
      refine W_v rfl rfl (V_neq rfl (et rfl) rfl) ?_
      refine W_end ?_
      refine gen_Q (fun A23 hA23 => ?_)
      have hsz23 : SzN A23 35 := by rw [hA23]; infer_instance
      have hdf23 : A23.defers = [] := by rw [hA23]; simp only [df_put]; exact hdf12
      have l2_23 := lookE hA23 2 (es rfl (es rfl l2_12))
      have l6_23 := lookE hA23 6 (es rfl (es rfl l6_12))
      have l7_23 := lookE hA23 7 (es rfl (es rfl l7_12))
      have l22_23 := lookE hA23 22 (et rfl)
      clear hA23 hsz12 hdf12 l2_12 l6_12 l7_12 l20_12
      refine then_n (hK22 _ _ ?_)
      clear hK22
      refine cond_not l22_23 (by simp [c11]) ?_
      refine wp_skip ?_
      refine then_n (hK21 _ _ ?_)
      clear hK21
      refine wp_seq_k (fun K24 hK24 => ?_)
      refine wp_seq_k (fun K25 hK25 => ?_)
      -- region 6
      refine region_in ?_
      refine W_v rfl rfl (V_fa (off' := 0) rfl l6_23 Tryd.underlying50 rfl (by decide) rfl) ?_
      refine W_r rfl rfl (VR_ldC rfl (et rfl) (cell_box (v := .int .i64 ((rkR lo yo c).1)) (hS7.obj 0 rfl hc7) rfl) Tryd.underlying3 rfl) ?_
      refine W_v rfl rfl (V_eql rfl (et rfl) rfl) ?_
      refine W_end ?_
      refine gen_Q (fun A26 hA26 => ?_)
      have hsz26 : SzN A26 35 := by rw [hA26]; infer_instance
      have hdf26 : A26.defers = [] := by rw [hA26]; simp only [df_put]; exact hdf23
      have l2_26 := lookE hA26 2 (es rfl (es rfl (es rfl l2_23)))
      have l6_26 := lookE hA26 6 (es rfl (es rfl (es rfl l6_23)))
      have l26_26 := lookE hA26 26 (et rfl)
      clear hA26 hsz23 hdf23 l2_23 l6_23 l7_23 l22_23
      refine then_n (hK25 _ _ ?_)
      clear hK25
      refine cond_dec l26_26 (fun c27 => ?_) (fun c27 => ?_)
      · skip
        refine wp_seq_k (fun K28 hK28 => ?_)
        -- region 7
        refine region_in ?_
        refine W_v rfl rfl (V_fa (off' := 0) rfl l2_26 Tryd.underlying24 rfl (by decide) rfl) ?_
        refine W_r rfl rfl (VR_ldC rfl (et rfl) (cell_box (v := lv) (hS7.obj 1 rfl hc2) rfl) Tryd.underlying22 rfl) ?_
        refine W_v rfl rfl (V_lenS rfl (et rfl) (sl_SlN h_lv.at) Tryd.underlying22) ?_
        refine W_v rfl rfl (V_fa (off' := 1) rfl (es rfl (es rfl (es rfl l6_26))) Tryd.underlying50 rfl (by decide) rfl) ?_
        refine W_r rfl rfl (VR_ldC rfl (et rfl) (cell_box (v := .int .i64 ((rkR lo yo c).2)) (hS7.obj 0 rfl hc7) rfl) Tryd.underlying3 rfl) ?_
        refine W_v rfl rfl (V_add rfl (es rfl (es rfl (et rfl))) (et rfl) (by omega) (by omega)) ?_
        refine W_v rfl rfl (V_asg rfl (et rfl)) ?_
        refine W_v rfl rfl (V_asg rfl rfl) ?_
        refine W_end ?_
        refine gen_Q (fun A29 hA29 => ?_)
        have hsz29 : SzN A29 35 := by rw [hA29]; infer_instance
        have hdf29 : A29.defers = [] := by rw [hA29]; simp only [df_put]; exact hdf26
        have l4_29 := lookE hA29 4 (es rfl (et rfl))
        have l5_29 := lookE hA29 5 (et rfl)
        clear hA29 hsz26 hdf26 l2_26 l6_26 l26_26
        have hS30 : St w NoX [] w7 := hS7.sel [] (by decide) rfl
        refine then_n (hK28 _ _ ?_)
        clear hK28
        refine wp_ret ?_
        refine then_ret ?_
        refine ret_in (results_2 Tryd.results41 (rv_tmp l4_29) (rv_tmp l5_29)) hdf29 ?_
        -- leaf TFT
        have pc := plc lo yo c
        have e0 : plN lo yo c = ((lo.length : Int) + (rkR lo yo c).2) := by rw [pc.1]; split <;> first | omega | (split <;> omega)
        have e1 : plE lo yo c = 0 := by rw [pc.2]; split <;> first | omega | (split <;> omega)
        rw [e0, e1]
        exact ⟨rfl, hS30.fin0⟩
      · skip
        refine wp_skip ?_
        refine then_n (hK24 _ _ ?_)
        clear hK24
        refine wp_seq_k (fun K31 hK31 => ?_)
        -- region 8
        refine region_in ?_
        refine W_v rfl rfl (V_fa (off' := 1) rfl l6_26 Tryd.underlying50 rfl (by decide) rfl) ?_
        refine W_r rfl rfl (VR_ldC rfl (et rfl) (cell_box (v := .int .i64 ((rkR lo yo c).2)) (hS7.obj 0 rfl hc7) rfl) Tryd.underlying3 rfl) ?_
        refine W_v rfl rfl (V_asg rfl (et rfl)) ?_
        refine W_v rfl rfl (V_asg rfl rfl) ?_
        refine W_end ?_
        refine gen_Q (fun A32 hA32 => ?_)
        have hsz32 : SzN A32 35 := by rw [hA32]; infer_instance
        have hdf32 : A32.defers = [] := by rw [hA32]; simp only [df_put]; exact hdf26
        have l4_32 := lookE hA32 4 (es rfl (et rfl))
        have l5_32 := lookE hA32 5 (et rfl)
        clear hA32 hsz26 hdf26 l2_26 l6_26 l26_26
        have hS33 : St w NoX [] w7 := hS7.sel [] (by decide) rfl
        refine then_n (hK31 _ _ ?_)
        clear hK31
        refine wp_ret ?_
        refine ret_in (results_2 Tryd.results41 (rv_tmp l4_32) (rv_tmp l5_32)) hdf32 ?_
        -- leaf TFF
        have pc := plc lo yo c
        have e0 : plN lo yo c = (rkR lo yo c).2 := by rw [pc.1]; split <;> first | omega | (split <;> omega)
        have e1 : plE lo yo c = 0 := by rw [pc.2]; split <;> first | omega | (split <;> omega)
        rw [e0, e1]
        exact ⟨rfl, hS33.fin0⟩
  · skip
    refine W_off rfl (wanted_f rfl rfl (et rfl) (ez rfl) rfl) ?_
    refine W_off rfl (wanted_f rfl rfl (es rfl (et rfl)) (ez rfl) rfl) ?_
    refine W_off rfl (wanted_f rfl rfl (es rfl (es rfl (et rfl))) (ez rfl) rfl) ?_
    refine W_v rfl rfl (V_pickF rfl (es rfl (es rfl (es rfl (et rfl)))) rfl) ?_
    refine W_end ?_
    refine gen_Q (fun A34 hA34 => ?_)
    have hsz34 : SzN A34 35 := by rw [hA34]; infer_instance
    have hdf34 : A34.defers = [] := by rw [hA34]; simp only [df_put]; exact hdf8
    have l2_34 := lookE hA34 2 (es rfl (es rfl (es rfl (es rfl (es rfl (es rfl (es rfl l2_8)))))))
    have l6_34 := lookE hA34 6 (es rfl (es rfl (es rfl (es rfl (es rfl (es rfl (es rfl l6_8)))))))
    have l7_34 := lookE hA34 7 (es rfl (es rfl (es rfl (es rfl (es rfl (es rfl (es rfl l7_8)))))))
    have l20_34 := lookE hA34 20 (et rfl)
    clear hA34 hsz8 hdf8 l2_8 l6_8 l7_8
    refine then_n (hK10 _ _ ?_)
    clear hK10
    refine cond_f l20_34 ?_
    refine wp_skip ?_
    refine then_n (hK9 _ _ ?_)
    clear hK9
    refine wp_seq_k (fun K35 hK35 => ?_)
    refine wp_seq_k (fun K36 hK36 => ?_)
    -- region 4
    refine region_in ?_
    refine W_v rfl rfl (V_mov rfl l7_34) ?_
    refine W_v rfl rfl (V_neq rfl (et rfl) rfl) ?_
    refine W_end ?_
    refine gen_Q (fun A37 hA37 => ?_)
    have hsz37 : SzN A37 35 := by rw [hA37]; infer_instance
    have hdf37 : A37.defers = [] := by rw [hA37]; simp only [df_put]; exact hdf34
    have l2_37 := lookE hA37 2 (es rfl (es rfl l2_34))
    have l6_37 := lookE hA37 6 (es rfl (es rfl l6_34))
    have l7_37 := lookE hA37 7 (es rfl (es rfl l7_34))
    have l22_37 := lookE hA37 22 (et rfl)
    clear hA37 hsz34 hdf34 l2_34 l6_34 l7_34 l20_34
    refine then_n (hK36 _ _ ?_)
    clear hK36
    refine cond_sure l22_37 (by simp [c11]) ?_
    refine wp_seq_k (fun K38 hK38 => ?_)
    -- region 5
    refine region_in ?_
    refine W_v rfl rfl (V_mov rfl l7_37) ?_
    refine W_v rfl rfl (V_asg rfl rfl) ?_
    refine W_v rfl rfl (V_asg rfl (es rfl (et rfl))) ?_
    refine W_end ?_
    refine gen_Q (fun A39 hA39 => ?_)
    have hsz39 : SzN A39 35 := by rw [hA39]; infer_instance
    have hdf39 : A39.defers = [] := by rw [hA39]; simp only [df_put]; exact hdf37
    have l4_39 := lookE hA39 4 (es rfl (et rfl))
    have l5_39 := lookE hA39 5 (et rfl)
    clear hA39 hsz37 hdf37 l2_37 l6_37 l7_37 l22_37
    have hS40 : St w NoX [] w7 := hS7.sel [] (by decide) rfl
    refine then_n (hK38 _ _ ?_)
    clear hK38
    refine wp_ret ?_
    refine then_ret ?_
    refine ret_in (results_2 Tryd.results41 (rv_tmp l4_39) (rv_tmp l5_39)) hdf39 ?_
    -- leaf F
    have pc := plc lo yo c
    have e0 : plN lo yo c = 0 := by rw [pc.1]; split <;> first | omega | (split <;> omega)
    have e1 : plE lo yo c = (rkE lo yo c) := by rw [pc.2]; split <;> first | omega | (split <;> omega)
    rw [e0, e1]
    exact ⟨rfl, hS40.fin0⟩

set_option maxHeartbeats 4000000 in
theorem qWt_c {lv : Value} {lo : List Int} {yv : Value} {yo : List Int} {c : Int} {w : World} (h_lv : Ro w NoX (il .i64 lv lo)) (h_yv : Ro w NoX (il .i64 yv yo)) (h1 : lo.length ≤ 1000) (h2 : yo.length ≤ 1000) :
    Calls Tryd.prog 19 #[.agg #[lv, yv], .int .i64 c] w fun e w' => e = .returned (.tuple #[.int .i64 (plN lo yo c), .int .i64 (plE lo yo c)]) ∧ St w NoX [] w' := by
  refine calls_in 11 Tryd.func19 rfl rfl (by simp) (fun A0 hsz0 hdf0 hargs => ?_)
  have l0_0 := hargs 0 (.agg #[lv, yv]) rfl
  have l1_0 := hargs 1 (.int .i64 c) rfl
  clear hargs; replace hsz0 : SzN A0 11 := ⟨hsz0⟩
  have hS := St.nil w
  have bh_lv := SlN.le (sl_SlN h_lv.at)
  have bh_yv := SlN.le (sl_SlN h_yv.at)
  refine wp_seq_k (fun K1 hK1 => ?_)
  -- region 0
  refine region_in ?_
  refine W_boxS (zs := #[lv, yv]) hS rfl rfl rfl l0_0 (by rfl) (fun g2 w2 c2 hc2 hS2 => ?_)
  replace hS2 : St w NoX [c2] w2 := hS2
  refine W_v rfl rfl (V_asg rfl rfl) ?_
  refine W_v rfl rfl (V_asg rfl rfl) ?_
  refine W_end ?_
  refine gen_Q (fun A3 hA3 => ?_)
  have hsz3 : SzN A3 11 := by rw [hA3]; infer_instance
  have hdf3 : A3.defers = [] := by rw [hA3]; simp only [df_put]; exact hdf0
  have l1_3 := lookE hA3 1 (es rfl (es rfl (es rfl l1_0)))
  have l2_3 := lookE hA3 2 (es rfl (es rfl (et rfl)))
  clear hA3 hsz0 hdf0 l0_0 l1_0
  refine then_n (hK1 _ _ ?_)
  clear hK1
  refine wp_seq_k (fun K4 hK4 => ?_)
  -- region 1
  refine region_in ?_
  refine W_r rfl rfl (VR_ldA rfl l2_3 (hS2.obj 0 rfl hc2) Tryd.underlying24 rfl (by kernel_rfl)) ?_
  refine W_v rfl rfl (V_mov rfl (es rfl l1_3)) ?_
  refine W_call rfl rfl rfl Tryd.func41 (by kernel_rfl) rfl (args2 (es rfl (et rfl)) (et rfl)) (qpl_c (c := c) (hS2.roC h_lv) (hS2.roC h_yv) (by first | omega | (simp; done) | (simp; omega)) (by first | omega | (simp; done) | (simp; omega))) ?_
  rintro _ w5 ⟨rfl, hP5⟩
  refine ⟨_, rfl, ?_⟩
  have hS5 := hS2.join hP5
  replace hS5 : St w NoX [c2] w5 := hS5
  refine W_v rfl rfl (V_ext (v := .int .i64 ((plN lo yo c))) rfl (et rfl) rfl) ?_
  refine W_v rfl rfl (V_ext (v := .int .i64 ((plE lo yo c))) rfl (es rfl (et rfl)) rfl) ?_
  refine W_v rfl rfl (V_asg rfl (es rfl (et rfl))) ?_
  refine W_v rfl rfl (V_asg rfl (es rfl (et rfl))) ?_
  refine W_end ?_
  refine gen_Q (fun A6 hA6 => ?_)
  have hsz6 : SzN A6 11 := by rw [hA6]; infer_instance
  have hdf6 : A6.defers = [] := by rw [hA6]; simp only [df_put]; exact hdf3
  have l4_6 := lookE hA6 4 (es rfl (et rfl))
  have l5_6 := lookE hA6 5 (et rfl)
  clear hA6 hsz3 hdf3 l1_3 l2_3
  have hS7 : St w NoX [] w5 := hS5.sel [] (by decide) rfl
  refine then_n (hK4 _ _ ?_)
  clear hK4
  refine wp_ret ?_
  refine ret_in (results_2 Tryd.results19 (rv_tmp l4_6) (rv_tmp l5_6)) hdf6 ?_
  -- leaf 
  exact ⟨rfl, hS7.fin0⟩

set_option maxHeartbeats 4000000 in
theorem qCmp_c {lv : Value} {lo : List Int} {yv : Value} {yo : List Int} {a : Int} {b : Int} {w : World} (h_lv : Ro w NoX (il .i64 lv lo)) (h_yv : Ro w NoX (il .i64 yv yo)) (h1 : lo.length ≤ 1000) (h2 : yo.length ≤ 1000) :
    Calls Tryd.prog 14 #[.agg #[lv, yv], .int .i64 a, .int .i64 b] w fun e w' => e = .returned (.tuple #[.int .i64 (cmN lo yo a b), .int .i64 (cmE lo yo a b)]) ∧ St w NoX [] w' := by
  refine calls_in 57 Tryd.func14 rfl rfl (by simp) (fun A0 hsz0 hdf0 hargs => ?_)
  have l0_0 := hargs 0 (.agg #[lv, yv]) rfl
  have l1_0 := hargs 1 (.int .i64 a) rfl
  have l2_0 := hargs 2 (.int .i64 b) rfl
  clear hargs; replace hsz0 : SzN A0 57 := ⟨hsz0⟩
  have hS := St.nil w
  have bh_lv := SlN.le (sl_SlN h_lv.at)
  have bh_yv := SlN.le (sl_SlN h_yv.at)
  refine wp_seq_k (fun K1 hK1 => ?_)
  -- region 0
  refine region_in ?_
  refine W_boxS (zs := #[lv, yv]) hS rfl rfl rfl l0_0 (by rfl) (fun g2 w2 c2 hc2 hS2 => ?_)
  replace hS2 : St w NoX [c2] w2 := hS2
  refine W_v rfl rfl (V_asg rfl rfl) ?_
  refine W_v rfl rfl (V_asg rfl rfl) ?_
  refine W_end ?_
  refine gen_Q (fun A3 hA3 => ?_)
  have hsz3 : SzN A3 57 := by rw [hA3]; infer_instance
  have hdf3 : A3.defers = [] := by rw [hA3]; simp only [df_put]; exact hdf0
  have l1_3 := lookE hA3 1 (es rfl (es rfl (es rfl l1_0)))
  have l2_3 := lookE hA3 2 (es rfl (es rfl (es rfl l2_0)))
  have l3_3 := lookE hA3 3 (es rfl (es rfl (et rfl)))
  clear hA3 hsz0 hdf0 l0_0 l1_0 l2_0
  refine then_n (hK1 _ _ ?_)
  clear hK1
  refine wp_seq_k (fun K4 hK4 => ?_)
  -- region 1
  refine region_in ?_
  refine W_r rfl rfl (VR_ldA rfl l3_3 (hS2.obj 0 rfl hc2) Tryd.underlying24 rfl (by kernel_rfl)) ?_
  refine W_v rfl rfl (V_mov rfl (es rfl l1_3)) ?_
  refine W_call rfl rfl rfl Tryd.func32 (by kernel_rfl) rfl (args2 (es rfl (et rfl)) (et rfl)) (qOf_c (c := a) (hS2.roC h_lv) (hS2.roC h_yv) (by first | omega | (simp; done) | (simp; omega)) (by first | omega | (simp; done) | (simp; omega))) ?_
  rintro _ w5 ⟨rfl, hP5⟩
  refine ⟨_, rfl, ?_⟩
  have hS5 := hS2.join hP5
  replace hS5 : St w NoX [c2] w5 := hS5
  refine W_v rfl rfl (V_mov rfl (et rfl)) ?_
  refine W_v rfl rfl (V_ext (v := .agg #[.int .i64 ((rkR lo yo a).1), .int .i64 ((rkR lo yo a).2)]) rfl (et rfl) rfl) ?_
  refine W_v rfl rfl (V_ext (v := .int .i64 ((rkE lo yo a))) rfl (es rfl (et rfl)) rfl) ?_
  refine W_allocS (z := .agg #[.int .i64 0, .int .i64 0]) (zs := #[.int .i64 0, .int .i64 0]) hS5 rfl rfl rfl (by kernel_rfl) (by rfl) (fun g6 w6 c6 hc6 hS6 => ?_)
  replace hS6 : St w NoX [c6, c2] w6 := hS6
  refine W_stAS 0 hS6 rfl hc6 rfl rfl rfl (et rfl) (es rfl (es rfl (et rfl))) (by first | (rw [List.all_toArray] <;> rfl) | (simp only [List.all_toArray, List.all_cons, List.all_nil] <;> rfl)) (by rfl) (by kernel_rfl) (fun w7 c7 hc7 hS7 => ?_)
  replace hS7 : St w NoX [c7, c2] w7 := hS7
  refine W_v rfl rfl (V_asg rfl (es rfl (et rfl))) ?_
  refine W_end ?_
  refine gen_Q (fun A8 hA8 => ?_)
  have hsz8 : SzN A8 57 := by rw [hA8]; infer_instance
  have hdf8 : A8.defers = [] := by rw [hA8]; simp only [df_put]; exact hdf3
  have l1_8 := lookE hA8 1 (es rfl (es rfl (es rfl (es rfl (es rfl (es rfl (es rfl (es rfl l1_3))))))))
  have l2_8 := lookE hA8 2 (es rfl (es rfl (es rfl (es rfl (es rfl (es rfl (es rfl (es rfl l2_3))))))))
  have l3_8 := lookE hA8 3 (es rfl (es rfl (es rfl (es rfl (es rfl (es rfl (es rfl (es rfl l3_3))))))))
  have l9_8 := lookE hA8 9 (et rfl)
  clear hA8 hsz3 hdf3 l1_3 l2_3 l3_3
  have hS9 : St w NoX [c2] w7 := hS7.sel [1] (by decide) rfl
  refine then_n (hK4 _ _ ?_)
  clear hK4
  refine wp_seq_k (fun K10 hK10 => ?_)
  refine wp_seq_k (fun K11 hK11 => ?_)
  -- region 2
  refine region_in ?_
  refine W_v rfl rfl (V_mov rfl l9_8) ?_
  refine W_v rfl rfl (V_eql rfl (et rfl) rfl) ?_
  refine W_end ?_
  refine gen_Q (fun A12 hA12 => ?_)
  have hsz12 : SzN A12 57 := by rw [hA12]; infer_instance
  have hdf12 : A12.defers = [] := by rw [hA12]; simp only [df_put]; exact hdf8
  have l1_12 := lookE hA12 1 (es rfl (es rfl l1_8))
  have l2_12 := lookE hA12 2 (es rfl (es rfl l2_8))
  have l3_12 := lookE hA12 3 (es rfl (es rfl l3_8))
  have l9_12 := lookE hA12 9 (es rfl (es rfl l9_8))
  have l20_12 := lookE hA12 20 (et rfl)
  clear hA12 hsz8 hdf8 l1_8 l2_8 l3_8 l9_8
  refine then_n (hK11 _ _ ?_)
  clear hK11
  refine cond_dec l20_12 (fun c13 => ?_) (fun c13 => ?_)
  · skip
    -- region 3
    refine region_in ?_
    refine W_r rfl rfl (VR_ldA rfl l3_12 (hS9.obj 0 rfl hc2) Tryd.underlying24 rfl (by kernel_rfl)) ?_
    refine W_v rfl rfl (V_mov rfl (es rfl l2_12)) ?_
    refine W_call rfl rfl rfl Tryd.func32 (by kernel_rfl) rfl (args2 (es rfl (et rfl)) (et rfl)) (qOf_c (c := b) (hS9.roC h_lv) (hS9.roC h_yv) (by first | omega | (simp; done) | (simp; omega)) (by first | omega | (simp; done) | (simp; omega))) ?_
    rintro _ w14 ⟨rfl, hP14⟩
    refine ⟨_, rfl, ?_⟩
    have hS14 := hS9.join hP14
    replace hS14 : St w NoX [c2] w14 := hS14
    refine W_v rfl rfl (V_mov rfl (et rfl)) ?_
    refine W_v rfl rfl (V_ext (v := .agg #[.int .i64 ((rkR lo yo b).1), .int .i64 ((rkR lo yo b).2)]) rfl (et rfl) rfl) ?_
    refine W_v rfl rfl (V_ext (v := .int .i64 ((rkE lo yo b))) rfl (es rfl (et rfl)) rfl) ?_
    refine W_v rfl rfl (V_asg rfl (et rfl)) ?_
    refine W_end ?_
    refine gen_Q (fun A15 hA15 => ?_)
    have hsz15 : SzN A15 57 := by rw [hA15]; infer_instance
    have hdf15 : A15.defers = [] := by rw [hA15]; simp only [df_put]; exact hdf12
    have l1_15 := lookE hA15 1 (es rfl (es rfl (es rfl (es rfl (es rfl (es rfl (es rfl l1_12)))))))
    have l2_15 := lookE hA15 2 (es rfl (es rfl (es rfl (es rfl (es rfl (es rfl (es rfl l2_12)))))))
    have l3_15 := lookE hA15 3 (es rfl (es rfl (es rfl (es rfl (es rfl (es rfl (es rfl l3_12)))))))
    have l9_15 := lookE hA15 9 (et rfl)
    clear hA15 hsz12 hdf12 l1_12 l2_12 l3_12 l9_12 l20_12
    refine then_n (hK10 _ _ ?_)
    clear hK10
    refine wp_seq_k (fun K16 hK16 => ?_)
    refine wp_seq_k (fun K17 hK17 => ?_)
    -- region 4
    refine region_in ?_
    refine W_v rfl rfl (V_mov rfl l9_15) ?_
    refine W_v rfl rfl (V_neq rfl (et rfl) rfl) ?_
    refine W_end ?_
    refine gen_Q (fun A18 hA18 => ?_)
    have hsz18 : SzN A18 57 := by rw [hA18]; infer_instance
    have hdf18 : A18.defers = [] := by rw [hA18]; simp only [df_put]; exact hdf15
    have l1_18 := lookE hA18 1 (es rfl (es rfl l1_15))
    have l2_18 := lookE hA18 2 (es rfl (es rfl l2_15))
    have l3_18 := lookE hA18 3 (es rfl (es rfl l3_15))
    have l9_18 := lookE hA18 9 (es rfl (es rfl l9_15))
    have l28_18 := lookE hA18 28 (et rfl)
    clear hA18 hsz15 hdf15 l1_15 l2_15 l3_15 l9_15
    refine then_n (hK17 _ _ ?_)
    clear hK17
    refine cond_dec l28_18 (fun c19 => ?_) (fun c19 => ?_)
    · skip
      refine wp_seq_k (fun K20 hK20 => ?_)
      -- region 5
      refine region_in ?_
      refine W_v rfl rfl (V_mov rfl l9_18) ?_
      refine W_v rfl rfl (V_asg rfl rfl) ?_
      refine W_v rfl rfl (V_asg rfl (es rfl (et rfl))) ?_
      refine W_end ?_
      refine gen_Q (fun A21 hA21 => ?_)
      have hsz21 : SzN A21 57 := by rw [hA21]; infer_instance
      have hdf21 : A21.defers = [] := by rw [hA21]; simp only [df_put]; exact hdf18
      have l6_21 := lookE hA21 6 (es rfl (et rfl))
      have l7_21 := lookE hA21 7 (et rfl)
      clear hA21 hsz18 hdf18 l1_18 l2_18 l3_18 l9_18 l28_18
      have hS22 : St w NoX [] w14 := hS14.sel [] (by decide) rfl
      refine then_n (hK20 _ _ ?_)
      clear hK20
      refine wp_ret ?_
      refine then_ret ?_
      refine ret_in (results_2 Tryd.results14 (rv_tmp l6_21) (rv_tmp l7_21)) hdf21 ?_
      -- leaf TT
      have pa := plc lo yo a
      have pb := plc lo yo b
      have pc := cmc lo yo a b
      have e0 : cmN lo yo a b = 0 := by rw [pc.1]; repeat (first | omega | split)
      have e1 : cmE lo yo a b = (rkE lo yo b) := by rw [pc.2]; repeat (first | omega | split)
      rw [e0, e1]
      exact ⟨rfl, hS22.fin0⟩
    · skip
      refine wp_skip ?_
      refine then_n (hK16 _ _ ?_)
      clear hK16
      refine wp_seq_k (fun K23 hK23 => ?_)
      -- region 6
      refine region_in ?_
      refine W_r rfl rfl (VR_ldA rfl l3_18 (hS14.obj 0 rfl hc2) Tryd.underlying24 rfl (by kernel_rfl)) ?_
      refine W_v rfl rfl (V_mov rfl (es rfl l1_18)) ?_
      refine W_call rfl rfl rfl Tryd.func41 (by kernel_rfl) rfl (args2 (es rfl (et rfl)) (et rfl)) (qpl_c (c := a) (hS14.roC h_lv) (hS14.roC h_yv) (by first | omega | (simp; done) | (simp; omega)) (by first | omega | (simp; done) | (simp; omega))) ?_
      rintro _ w24 ⟨rfl, hP24⟩
      refine ⟨_, rfl, ?_⟩
      have hS24 := hS14.join hP24
      replace hS24 : St w NoX [c2] w24 := hS24
      refine W_v rfl rfl (V_mov rfl (et rfl)) ?_
      refine W_v rfl rfl (V_ext (v := .int .i64 ((plN lo yo a))) rfl (et rfl) rfl) ?_
      refine W_v rfl rfl (V_ext (v := .int .i64 ((plE lo yo a))) rfl (es rfl (et rfl)) rfl) ?_
      refine W_v rfl rfl (V_asg rfl (es rfl (et rfl))) ?_
      refine W_v rfl rfl (V_asg rfl (es rfl (et rfl))) ?_
      refine W_end ?_
      refine gen_Q (fun A25 hA25 => ?_)
      have hsz25 : SzN A25 57 := by rw [hA25]; infer_instance
      have hdf25 : A25.defers = [] := by rw [hA25]; simp only [df_put]; exact hdf18
      have l2_25 := lookE hA25 2 (es rfl (es rfl (es rfl (es rfl (es rfl (es rfl (es rfl (es rfl l2_18))))))))
      have l3_25 := lookE hA25 3 (es rfl (es rfl (es rfl (es rfl (es rfl (es rfl (es rfl (es rfl l3_18))))))))
      have l9_25 := lookE hA25 9 (et rfl)
      have l10_25 := lookE hA25 10 (es rfl (et rfl))
      clear hA25 hsz18 hdf18 l1_18 l2_18 l3_18 l9_18 l28_18
      refine then_n (hK23 _ _ ?_)
      clear hK23
      refine wp_seq_k (fun K26 hK26 => ?_)
      -- region 7
      refine region_in ?_
      refine W_r rfl rfl (VR_ldA rfl l3_25 (hS24.obj 0 rfl hc2) Tryd.underlying24 rfl (by kernel_rfl)) ?_
      refine W_v rfl rfl (V_mov rfl (es rfl l2_25)) ?_
      refine W_call rfl rfl rfl Tryd.func41 (by kernel_rfl) rfl (args2 (es rfl (et rfl)) (et rfl)) (qpl_c (c := b) (hS24.roC h_lv) (hS24.roC h_yv) (by first | omega | (simp; done) | (simp; omega)) (by first | omega | (simp; done) | (simp; omega))) ?_
      rintro _ w27 ⟨rfl, hP27⟩
      refine ⟨_, rfl, ?_⟩
      have hS27 := hS24.join hP27
      replace hS27 : St w NoX [c2] w27 := hS27
      refine W_v rfl rfl (V_mov rfl (et rfl)) ?_
      refine W_v rfl rfl (V_ext (v := .int .i64 ((plN lo yo b))) rfl (et rfl) rfl) ?_
      refine W_v rfl rfl (V_ext (v := .int .i64 ((plE lo yo b))) rfl (es rfl (et rfl)) rfl) ?_
      refine W_v rfl rfl (V_asg rfl (es rfl (et rfl))) ?_
      refine W_v rfl rfl (V_asg rfl (es rfl (et rfl))) ?_
      refine W_end ?_
      refine gen_Q (fun A28 hA28 => ?_)
      have hsz28 : SzN A28 57 := by rw [hA28]; infer_instance
      have hdf28 : A28.defers = [] := by rw [hA28]; simp only [df_put]; exact hdf25
      have l9_28 := lookE hA28 9 (es rfl (es rfl (es rfl (es rfl (es rfl (es rfl (es rfl (es rfl l9_25))))))))
      have l10_28 := lookE hA28 10 (es rfl (es rfl (es rfl (es rfl (es rfl (es rfl (es rfl (es rfl l10_25))))))))
      have l11_28 := lookE hA28 11 (es rfl (et rfl))
      have l12_28 := lookE hA28 12 (et rfl)
      clear hA28 hsz25 hdf25 l2_25 l3_25 l9_25 l10_25
      have hS29 : St w NoX [] w27 := hS27.sel [] (by decide) rfl
      refine then_n (hK26 _ _ ?_)
      clear hK26
      refine wp_seq_k (fun K30 hK30 => ?_)
      refine wp_block ?_
      refine wp_seq_k (fun K31 hK31 => ?_)
      -- region 8
      refine region_in ?_
      refine W_v rfl rfl (V_mov rfl l9_28) ?_
      refine W_v rfl rfl (V_neq rfl (et rfl) rfl) ?_
      refine W_split rfl rfl (V_mov rfl (et rfl)) (fun c32 => ?_) (fun c32 => ?_)
      · skip
        refine W_off rfl (wanted_f rfl rfl (et rfl) (ez rfl) rfl) ?_
        refine W_off rfl (wanted_f rfl rfl (es rfl (et rfl)) (ez rfl) rfl) ?_
        refine W_v rfl rfl (V_pickT rfl (es rfl (es rfl (et rfl))) rfl) ?_
        refine W_v rfl rfl (V_asg rfl (et rfl)) ?_
        refine W_end ?_
        refine gen_Q (fun A33 hA33 => ?_)
        have hsz33 : SzN A33 57 := by rw [hA33]; infer_instance
        have hdf33 : A33.defers = [] := by rw [hA33]; simp only [df_put]; exact hdf28
        have l10_33 := lookE hA33 10 (es rfl (es rfl (es rfl (es rfl (es rfl (es rfl (es rfl l10_28)))))))
        have l11_33 := lookE hA33 11 (es rfl (es rfl (es rfl (es rfl (es rfl (es rfl (es rfl l11_28)))))))
        have l42_33 := lookE hA33 42 (et rfl)
        clear hA33 hsz28 hdf28 l9_28 l10_28 l11_28 l12_28
        refine then_n (hK31 _ _ ?_)
        clear hK31
        refine cond_t l42_33 ?_
        refine wp_seq_k (fun K34 hK34 => ?_)
        -- region 9
        refine region_in ?_
        refine W_v rfl rfl (V_asg rfl rfl) ?_
        refine W_v rfl rfl (V_asg rfl rfl) ?_
        refine W_end ?_
        refine gen_Q (fun A35 hA35 => ?_)
        have hsz35 : SzN A35 57 := by rw [hA35]; infer_instance
        have hdf35 : A35.defers = [] := by rw [hA35]; simp only [df_put]; exact hdf33
        have l6_35 := lookE hA35 6 (es rfl (et rfl))
        have l7_35 := lookE hA35 7 (et rfl)
        clear hA35 hsz33 hdf33 l10_33 l11_33 l42_33
        refine then_n (hK34 _ _ ?_)
        clear hK34
        refine wp_ret ?_
        refine inb_ret ?_
        refine then_ret ?_
        refine ret_in (results_2 Tryd.results14 (rv_tmp l6_35) (rv_tmp l7_35)) hdf35 ?_
        -- leaf TFT
        have pa := plc lo yo a
        have pb := plc lo yo b
        have pc := cmc lo yo a b
        have e0 : cmN lo yo a b = 0 := by rw [pc.1]; repeat (first | omega | split)
        have e1 : cmE lo yo a b = 4 := by rw [pc.2]; repeat (first | omega | split)
        rw [e0, e1]
        exact ⟨rfl, hS29.fin0⟩
      · skip
        refine W_v rfl (wanted_t rfl rfl (et rfl) (ez rfl)) (V_mov rfl (es rfl (es rfl (es rfl l12_28)))) ?_
        refine W_v rfl (wanted_t rfl rfl (es rfl (et rfl)) (ez rfl)) (V_neq rfl (et rfl) rfl) ?_
        refine W_v rfl rfl (V_pickF rfl (es rfl (es rfl (et rfl))) (et rfl)) ?_
        refine W_v rfl rfl (V_asg rfl (et rfl)) ?_
        refine W_end ?_
        refine gen_Q (fun A36 hA36 => ?_)
        have hsz36 : SzN A36 57 := by rw [hA36]; infer_instance
        have hdf36 : A36.defers = [] := by rw [hA36]; simp only [df_put]; exact hdf28
        have l10_36 := lookE hA36 10 (es rfl (es rfl (es rfl (es rfl (es rfl (es rfl (es rfl l10_28)))))))
        have l11_36 := lookE hA36 11 (es rfl (es rfl (es rfl (es rfl (es rfl (es rfl (es rfl l11_28)))))))
        have l42_36 := lookE hA36 42 (et rfl)
        clear hA36 hsz28 hdf28 l9_28 l10_28 l11_28 l12_28
        refine then_n (hK31 _ _ ?_)
        clear hK31
        refine cond_dec l42_36 (fun c37 => ?_) (fun c37 => ?_)
        · skip
          refine wp_seq_k (fun K38 hK38 => ?_)
          -- region 9
          refine region_in ?_
          refine W_v rfl rfl (V_asg rfl rfl) ?_
          refine W_v rfl rfl (V_asg rfl rfl) ?_
          refine W_end ?_
          refine gen_Q (fun A39 hA39 => ?_)
          have hsz39 : SzN A39 57 := by rw [hA39]; infer_instance
          have hdf39 : A39.defers = [] := by rw [hA39]; simp only [df_put]; exact hdf36
          have l6_39 := lookE hA39 6 (es rfl (et rfl))
          have l7_39 := lookE hA39 7 (et rfl)
          clear hA39 hsz36 hdf36 l10_36 l11_36 l42_36
          refine then_n (hK38 _ _ ?_)
          clear hK38
          refine wp_ret ?_
          refine inb_ret ?_
          refine then_ret ?_
          refine ret_in (results_2 Tryd.results14 (rv_tmp l6_39) (rv_tmp l7_39)) hdf39 ?_
          -- leaf TFFT
          have pa := plc lo yo a
          have pb := plc lo yo b
          have pc := cmc lo yo a b
          have e0 : cmN lo yo a b = 0 := by rw [pc.1]; repeat (first | omega | split)
          have e1 : cmE lo yo a b = 4 := by rw [pc.2]; repeat (first | omega | split)
          rw [e0, e1]
          exact ⟨rfl, hS29.fin0⟩
        · skip
          refine wp_seq_k (fun K40 hK40 => ?_)
          -- region 10
          refine region_in ?_
          refine W_v rfl rfl (V_mov rfl l10_36) ?_
          refine W_v rfl rfl (V_mov rfl (es rfl l11_36)) ?_
          refine W_v rfl rfl (V_lss rfl (es rfl (et rfl)) (et rfl)) ?_
          refine W_v rfl rfl (V_asg rfl (et rfl)) ?_
          refine W_end ?_
          refine gen_Q (fun A41 hA41 => ?_)
          have hsz41 : SzN A41 57 := by rw [hA41]; infer_instance
          have hdf41 : A41.defers = [] := by rw [hA41]; simp only [df_put]; exact hdf36
          have l10_41 := lookE hA41 10 (es rfl (es rfl (es rfl (es rfl l10_36))))
          have l11_41 := lookE hA41 11 (es rfl (es rfl (es rfl (es rfl l11_36))))
          have l49_41 := lookE hA41 49 (et rfl)
          clear hA41 hsz36 hdf36 l10_36 l11_36 l42_36
          refine then_n (hK40 _ _ ?_)
          clear hK40
          refine cond_dec l49_41 (fun c42 => ?_) (fun c42 => ?_)
          · skip
            refine wp_seq_k (fun K43 hK43 => ?_)
            -- region 11
            refine region_in ?_
            refine W_v rfl rfl (V_asg rfl rfl) ?_
            refine W_v rfl rfl (V_asg rfl rfl) ?_
            refine W_end ?_
            refine gen_Q (fun A44 hA44 => ?_)
            have hsz44 : SzN A44 57 := by rw [hA44]; infer_instance
            have hdf44 : A44.defers = [] := by rw [hA44]; simp only [df_put]; exact hdf41
            have l6_44 := lookE hA44 6 (es rfl (et rfl))
            have l7_44 := lookE hA44 7 (et rfl)
            clear hA44 hsz41 hdf41 l10_41 l11_41 l49_41
            refine then_n (hK43 _ _ ?_)
            clear hK43
            refine wp_ret ?_
            refine inb_ret ?_
            refine then_ret ?_
            refine ret_in (results_2 Tryd.results14 (rv_tmp l6_44) (rv_tmp l7_44)) hdf44 ?_
            -- leaf TFFFT
            have pa := plc lo yo a
            have pb := plc lo yo b
            have pc := cmc lo yo a b
            have e0 : cmN lo yo a b = (-1) := by rw [pc.1]; repeat (first | omega | split)
            have e1 : cmE lo yo a b = 0 := by rw [pc.2]; repeat (first | omega | split)
            rw [e0, e1]
            exact ⟨rfl, hS29.fin0⟩
          · skip
            refine wp_seq_k (fun K45 hK45 => ?_)
            -- region 12
            refine region_in ?_
            refine W_v rfl rfl (V_mov rfl l10_41) ?_
            refine W_v rfl rfl (V_mov rfl (es rfl l11_41)) ?_
            refine W_v rfl rfl (V_gtr rfl (es rfl (et rfl)) (et rfl)) ?_
            refine W_v rfl rfl (V_asg rfl (et rfl)) ?_
            refine W_end ?_
            refine gen_Q (fun A46 hA46 => ?_)
            have hsz46 : SzN A46 57 := by rw [hA46]; infer_instance
            have hdf46 : A46.defers = [] := by rw [hA46]; simp only [df_put]; exact hdf41
            have l53_46 := lookE hA46 53 (et rfl)
            clear hA46 hsz41 hdf41 l10_41 l11_41 l49_41
            refine then_n (hK45 _ _ ?_)
            clear hK45
            refine cond_dec l53_46 (fun c47 => ?_) (fun c47 => ?_)
            · skip
              refine wp_seq_k (fun K48 hK48 => ?_)
              -- region 13
              refine region_in ?_
              refine W_v rfl rfl (V_asg rfl rfl) ?_
              refine W_v rfl rfl (V_asg rfl rfl) ?_
              refine W_end ?_
              refine gen_Q (fun A49 hA49 => ?_)
              have hsz49 : SzN A49 57 := by rw [hA49]; infer_instance
              have hdf49 : A49.defers = [] := by rw [hA49]; simp only [df_put]; exact hdf46
              have l6_49 := lookE hA49 6 (es rfl (et rfl))
              have l7_49 := lookE hA49 7 (et rfl)
              clear hA49 hsz46 hdf46 l53_46
              refine then_n (hK48 _ _ ?_)
              clear hK48
              refine wp_ret ?_
              refine inb_ret ?_
              refine then_ret ?_
              refine ret_in (results_2 Tryd.results14 (rv_tmp l6_49) (rv_tmp l7_49)) hdf49 ?_
              -- leaf TFFFFT
              have pa := plc lo yo a
              have pb := plc lo yo b
              have pc := cmc lo yo a b
              have e0 : cmN lo yo a b = 1 := by rw [pc.1]; repeat (first | omega | split)
              have e1 : cmE lo yo a b = 0 := by rw [pc.2]; repeat (first | omega | split)
              rw [e0, e1]
              exact ⟨rfl, hS29.fin0⟩
            · skip
              refine wp_skip ?_
              refine inb_n ?_
              refine then_n (hK30 _ _ ?_)
              clear hK30
              refine wp_seq_k (fun K50 hK50 => ?_)
              -- region 14
              refine region_in ?_
              refine W_v rfl rfl (V_asg rfl rfl) ?_
              refine W_v rfl rfl (V_asg rfl rfl) ?_
              refine W_end ?_
              refine gen_Q (fun A51 hA51 => ?_)
              have hsz51 : SzN A51 57 := by rw [hA51]; infer_instance
              have hdf51 : A51.defers = [] := by rw [hA51]; simp only [df_put]; exact hdf46
              have l6_51 := lookE hA51 6 (es rfl (et rfl))
              have l7_51 := lookE hA51 7 (et rfl)
              clear hA51 hsz46 hdf46 l53_46
              refine then_n (hK50 _ _ ?_)
              clear hK50
              refine wp_ret ?_
              refine ret_in (results_2 Tryd.results14 (rv_tmp l6_51) (rv_tmp l7_51)) hdf51 ?_
              -- leaf TFFFFF
              have pa := plc lo yo a
              have pb := plc lo yo b
              have pc := cmc lo yo a b
              have e0 : cmN lo yo a b = 0 := by rw [pc.1]; repeat (first | omega | split)
              have e1 : cmE lo yo a b = 0 := by rw [pc.2]; repeat (first | omega | split)
              rw [e0, e1]
              exact ⟨rfl, hS29.fin0⟩
  · skip
    refine wp_skip ?_
    refine then_n (hK10 _ _ ?_)
    clear hK10
    refine wp_seq_k (fun K52 hK52 => ?_)
    refine wp_seq_k (fun K53 hK53 => ?_)
    -- region 4
    refine region_in ?_
    refine W_v rfl rfl (V_mov rfl l9_12) ?_
    refine W_v rfl rfl (V_neq rfl (et rfl) rfl) ?_
    refine W_end ?_
    refine gen_Q (fun A54 hA54 => ?_)
    have hsz54 : SzN A54 57 := by rw [hA54]; infer_instance
    have hdf54 : A54.defers = [] := by rw [hA54]; simp only [df_put]; exact hdf12
    have l1_54 := lookE hA54 1 (es rfl (es rfl l1_12))
    have l2_54 := lookE hA54 2 (es rfl (es rfl l2_12))
    have l3_54 := lookE hA54 3 (es rfl (es rfl l3_12))
    have l9_54 := lookE hA54 9 (es rfl (es rfl l9_12))
    have l28_54 := lookE hA54 28 (et rfl)
    clear hA54 hsz12 hdf12 l1_12 l2_12 l3_12 l9_12 l20_12
    refine then_n (hK53 _ _ ?_)
    clear hK53
    refine cond_sure l28_54 (by simp [c13]) ?_
    refine wp_seq_k (fun K55 hK55 => ?_)
    -- region 5
    refine region_in ?_
    refine W_v rfl rfl (V_mov rfl l9_54) ?_
    refine W_v rfl rfl (V_asg rfl rfl) ?_
    refine W_v rfl rfl (V_asg rfl (es rfl (et rfl))) ?_
    refine W_end ?_
    refine gen_Q (fun A56 hA56 => ?_)
    have hsz56 : SzN A56 57 := by rw [hA56]; infer_instance
    have hdf56 : A56.defers = [] := by rw [hA56]; simp only [df_put]; exact hdf54
    have l6_56 := lookE hA56 6 (es rfl (et rfl))
    have l7_56 := lookE hA56 7 (et rfl)
    clear hA56 hsz54 hdf54 l1_54 l2_54 l3_54 l9_54 l28_54
    have hS57 : St w NoX [] w7 := hS9.sel [] (by decide) rfl
    refine then_n (hK55 _ _ ?_)
    clear hK55
    refine wp_ret ?_
    refine then_ret ?_
    refine ret_in (results_2 Tryd.results14 (rv_tmp l6_56) (rv_tmp l7_56)) hdf56 ?_
    -- leaf F
    have pa := plc lo yo a
    have pb := plc lo yo b
    have pc := cmc lo yo a b
    have e0 : cmN lo yo a b = 0 := by rw [pc.1]; repeat (first | omega | split)
    have e1 : cmE lo yo a b = (rkE lo yo a) := by rw [pc.2]; repeat (first | omega | split)
    rw [e0, e1]
    exact ⟨rfl, hS57.fin0⟩

end Go.Proofs.YtodbfgfbkgpooaaDoor