import Derived.Test.YtodbfgfbkgpooaaDoorProg
import Derived.Test.YtodbfgfbkgpooaaDoorRa7
import Derived.Test.YtodbfgfbkgpooaaDoorPl12
namespace Go.Proofs.YtodbfgfbkgpooaaDoor
open Go.RowKit Go.Own


set_option maxHeartbeats 4000000 in
theorem RankTakes_c {lv : Value} {lo : List Int} {yv : Value} {yo : List Int} {at_ : Int} {gT0 : Nat} {w : World} (h_lv : Ro w NoX (il .i64 lv lo)) (h_yv : Ro w NoX (il .i64 yv yo)) (hG0 : Ro w NoX (bx 0 gT0 #[.int .i64 (-1), .int .i64 (-1)])) (ht0 : 0 ≤ at_) (ht1 : at_ ≤ 255) :
    Calls Tryd.prog 5 #[.agg #[lv, yv], .int .u8 at_] w fun e w' => e = .returned (.bool true) ∧ St w NoX [] w' := by
  refine calls_in 179 Tryd.func5 rfl rfl (by simp) (fun A0 hsz0 hdf0 hargs => ?_)
  have l0_0 := hargs 0 (.agg #[lv, yv]) rfl
  have l1_0 := hargs 1 (.int .u8 at_) rfl
  clear hargs; replace hsz0 : SzN A0 179 := ⟨hsz0⟩
  have hS := St.nil w
  have bh_lv := SlN.le (sl_SlN h_lv.at)
  have bh_yv := SlN.le (sl_SlN h_yv.at)
  refine wp_seq_k (fun K1 hK1 => ?_)
  -- region 0
  refine region_in ?_
  refine W_boxS (zs := #[lv, yv]) hS rfl rfl rfl l0_0 (by rfl) (fun g2 w2 c2 hc2 hS2 => ?_)
  replace hS2 : St w NoX [c2] w2 := hS2
  refine W_v rfl rfl (V_asg rfl rfl) ?_
  refine W_end ?_
  refine gen_Q (fun A3 hA3 => ?_)
  have hsz3 : SzN A3 179 := by rw [hA3]; infer_instance
  have hdf3 : A3.defers = [] := by rw [hA3]; simp only [df_put]; exact hdf0
  have l1_3 := lookE hA3 1 (es rfl (es rfl l1_0))
  have l2_3 := lookE hA3 2 (es rfl (et rfl))
  clear hA3 hsz0 hdf0 l0_0 l1_0
  refine then_n (hK1 _ _ ?_)
  clear hK1
  refine wp_seq_k (fun K4 hK4 => ?_)
  refine wp_seq_k (fun K5 hK5 => ?_)
  -- region 1
  refine region_in ?_
  refine W_r rfl rfl (VR_ldA rfl l2_3 (hS2.obj 0 rfl hc2) Tryd.underlying24 rfl (by kernel_rfl)) ?_
  refine W_call rfl rfl rfl Tryd.func24 (by kernel_rfl) rfl (args1 (et rfl)) (good_c (hS2.roC h_lv) (hS2.roC h_yv) ) ?_
  rintro _ w6 ⟨rfl, hP6⟩
  refine ⟨_, rfl, ?_⟩
  have hS6 := hS2.join hP6
  replace hS6 : St w NoX [c2] w6 := hS6
  refine W_v rfl rfl (V_notd rfl (et rfl)) ?_
  refine W_split rfl rfl (V_mov rfl (et rfl)) (fun c7 => ?_) (fun c7 => ?_)
  · skip
    refine W_off rfl (wanted_f rfl rfl (et rfl) (ez rfl) rfl) ?_
    refine W_off rfl (wanted_f rfl rfl (es rfl (et rfl)) (ez rfl) rfl) ?_
    refine W_off rfl (wanted_f rfl rfl (es rfl (es rfl (et rfl))) (ez rfl) rfl) ?_
    refine W_off rfl (wanted_f rfl rfl (es rfl (es rfl (es rfl (et rfl)))) (ez rfl) rfl) ?_
    refine W_v rfl rfl (V_pickT rfl (es rfl (es rfl (es rfl (es rfl (et rfl))))) rfl) ?_
    refine W_end ?_
    refine gen_Q (fun A8 hA8 => ?_)
    have hsz8 : SzN A8 179 := by rw [hA8]; infer_instance
    have hdf8 : A8.defers = [] := by rw [hA8]; simp only [df_put]; exact hdf3
    have l1_8 := lookE hA8 1 (es rfl (es rfl (es rfl (es rfl (es rfl (es rfl (es rfl (es rfl (es rfl l1_3)))))))))
    have l2_8 := lookE hA8 2 (es rfl (es rfl (es rfl (es rfl (es rfl (es rfl (es rfl (es rfl (es rfl l2_3)))))))))
    have l34_8 := lookE hA8 34 (et rfl)
    clear hA8 hsz3 hdf3 l1_3 l2_3
    refine then_n (hK5 _ _ ?_)
    clear hK5
    refine cond_t l34_8 ?_
    refine wp_seq_k (fun K9 hK9 => ?_)
    -- region 2
    refine region_in ?_
    refine W_call rfl rfl rfl Tryd.func12 (by kernel_rfl) rfl (args0) (awk_c (hS6.roC hG0) ) ?_
    rintro _ w10 ⟨rfl, hP10⟩
    refine ⟨_, rfl, ?_⟩
    have hS10 := hS6.join hP10
    replace hS10 : St w NoX [c2] w10 := hS10
    refine W_v rfl rfl (V_asg rfl (et rfl)) ?_
    refine W_end ?_
    refine gen_Q (fun A11 hA11 => ?_)
    have hsz11 : SzN A11 179 := by rw [hA11]; infer_instance
    have hdf11 : A11.defers = [] := by rw [hA11]; simp only [df_put]; exact hdf8
    have l4_11 := lookE hA11 4 (et rfl)
    clear hA11 hsz8 hdf8 l1_8 l2_8 l34_8
    have hS12 : St w NoX [] w10 := hS10.sel [] (by decide) rfl
    refine then_n (hK9 _ _ ?_)
    clear hK9
    refine wp_ret ?_
    refine then_ret ?_
    refine ret_in (results_1 Tryd.results5 (rv_tmp l4_11)) hdf11 ?_
    -- leaf T
    exact ⟨rfl, hS12.fin0⟩
  · skip
    have hgd : ¬ (30 < lo.length ∨ 30 < yo.length) ∧ (chk lo yo).2.2 = 0 := by first | exact c7 | exact Classical.not_not.1 c7
    have hg := hgd.2
    have hG := (chk_iff lo yo).1 hg
    have hl : lo.length ≤ 30 ∧ yo.length ≤ 30 := by omega
    obtain ⟨hla, hlb⟩ := hl
    refine W_v rfl (wanted_t rfl rfl (et rfl) (ez rfl)) (V_fa (off' := 0) rfl (es rfl (es rfl (es rfl (es rfl l2_3)))) Tryd.underlying24 rfl (by decide) rfl) ?_
    refine W_r rfl (wanted_t rfl rfl (es rfl (et rfl)) (ez rfl)) (VR_ldC rfl (et rfl) (cell_box (v := lv) (hS6.obj 0 rfl hc2) rfl) Tryd.underlying22 rfl) ?_
    refine W_v rfl (wanted_t rfl rfl (es rfl (es rfl (et rfl))) (ez rfl)) (V_lenS rfl (et rfl) (sl_SlN h_lv.at) Tryd.underlying22) ?_
    refine W_v rfl (wanted_t rfl rfl (es rfl (es rfl (es rfl (et rfl)))) (ez rfl)) (V_eql rfl (et rfl) rfl) ?_
    refine W_v rfl rfl (V_pickF rfl (es rfl (es rfl (es rfl (es rfl (et rfl))))) (et rfl)) ?_
    refine W_end ?_
    refine gen_Q (fun A13 hA13 => ?_)
    have hsz13 : SzN A13 179 := by rw [hA13]; infer_instance
    have hdf13 : A13.defers = [] := by rw [hA13]; simp only [df_put]; exact hdf3
    have l1_13 := lookE hA13 1 (es rfl (es rfl (es rfl (es rfl (es rfl (es rfl (es rfl (es rfl (es rfl l1_3)))))))))
    have l2_13 := lookE hA13 2 (es rfl (es rfl (es rfl (es rfl (es rfl (es rfl (es rfl (es rfl (es rfl l2_3)))))))))
    have l34_13 := lookE hA13 34 (et rfl)
    clear hA13 hsz3 hdf3 l1_3 l2_3
    refine then_n (hK5 _ _ ?_)
    clear hK5
    refine cond_dec l34_13 (fun c14 => ?_) (fun c14 => ?_)
    · skip
      refine wp_seq_k (fun K15 hK15 => ?_)
      -- region 2
      refine region_in ?_
      refine W_call rfl rfl rfl Tryd.func12 (by kernel_rfl) rfl (args0) (awk_c (hS6.roC hG0) ) ?_
      rintro _ w16 ⟨rfl, hP16⟩
      refine ⟨_, rfl, ?_⟩
      have hS16 := hS6.join hP16
      replace hS16 : St w NoX [c2] w16 := hS16
      refine W_v rfl rfl (V_asg rfl (et rfl)) ?_
      refine W_end ?_
      refine gen_Q (fun A17 hA17 => ?_)
      have hsz17 : SzN A17 179 := by rw [hA17]; infer_instance
      have hdf17 : A17.defers = [] := by rw [hA17]; simp only [df_put]; exact hdf13
      have l4_17 := lookE hA17 4 (et rfl)
      clear hA17 hsz13 hdf13 l1_13 l2_13 l34_13
      have hS18 : St w NoX [] w16 := hS16.sel [] (by decide) rfl
      refine then_n (hK15 _ _ ?_)
      clear hK15
      refine wp_ret ?_
      refine then_ret ?_
      refine ret_in (results_1 Tryd.results5 (rv_tmp l4_17)) hdf17 ?_
      -- leaf FT
      exact ⟨rfl, hS18.fin0⟩
    · skip
      have hm0 : 0 ≤ at_ % (lo.length : Int) := Int.emod_nonneg _ (by omega)
      have hm1 : at_ % (lo.length : Int) < lo.length := Int.emod_lt_of_pos _ (by omega)
      refine wp_skip ?_
      refine then_n (hK4 _ _ ?_)
      clear hK4
      refine wp_seq_k (fun K19 hK19 => ?_)
      -- region 3
      refine region_monoS 11 11 [] (by kernel_rfl) (by kernel_rfl) ?_
      refine D_v rfl rfl (V_fa (off' := 0) rfl l2_13 Tryd.underlying24 rfl (by decide) rfl) rfl rfl ?_
      refine D_r rfl rfl (by kernel_rfl) (fun sx hx hF => (VR_ldC rfl (et rfl) (cell_box (v := lv) ((hS6.grow hx).obj 0 rfl hc2) rfl) Tryd.underlying22 rfl)) rfl rfl ?_
      refine D_v rfl rfl (V_mov rfl (es rfl (es rfl l1_13))) rfl rfl ?_
      refine D_v rfl rfl (V_cvt rfl (et rfl) Tryd.underlying5 Tryd.underlying3 (wrap_i64 (by omega) (by omega))) rfl rfl ?_
      refine D_v rfl rfl (V_fa (off' := 0) rfl (es rfl (es rfl (es rfl (es rfl l2_13)))) Tryd.underlying24 rfl (by decide) rfl) rfl rfl ?_
      refine D_r rfl rfl (by kernel_rfl) (fun sx hx hF => (VR_ldC rfl (et rfl) (cell_box (v := lv) ((hS6.grow hx).obj 0 rfl hc2) rfl) Tryd.underlying22 rfl)) rfl rfl ?_
      refine D_v rfl rfl (V_lenS rfl (et rfl) (sl_SlN h_lv.at) Tryd.underlying22) rfl rfl ?_
      refine D_v rfl rfl (V_rem rfl (es rfl (es rfl (es rfl (et rfl)))) (et rfl) (by omega) (by omega) (wrap_i64 (by omega) (by omega))) rfl rfl ?_
      have k20 : (at_ % (lo.length : Int)).toNat < lo.length := by first | omega | (simp only [List.length_cons, List.length_nil]; omega)
      obtain ⟨y20, hy20⟩ := get_some (xs := lo) (k := (at_ % (lo.length : Int)).toNat) k20
      obtain ⟨B20, O20, C20, hv20⟩ := (SlN.blk (sl_SlN h_lv.at) (by first | omega | (simp only [List.length_cons, List.length_nil]; omega)))
      refine D_v rfl rfl (V_ixS (off := O20 + ((at_ % (lo.length : Int)).toNat)) 1 ((at_ % (lo.length : Int)).toNat) rfl (es rfl (es rfl (es rfl (es rfl (es rfl (es rfl (et rfl))))))) (et rfl) hv20 (by omega) k20 Tryd.underlying22 (by kernel_rfl) (congrArg _ (Nat.mul_one _))) rfl rfl ?_
      refine D_r rfl rfl (by kernel_rfl) (fun sx hx hF => (VR_ldC rfl (et rfl) ((sl_SlN ((hS6.grow hx).ro h_lv)).cell hv20 (map_get hy20)) Tryd.underlying3 rfl)) rfl rfl ?_
      refine D_v rfl rfl (V_asg rfl (et rfl)) rfl rfl ?_
      refine ZS_none hS6 (Nat.le_refl _) (Nat.le_refl _) (fun s21 hJ21 hL21 hF21 => ?_)
      have hS21 := hJ21.st; clear hF21 hJ21 hL21
      generalize s21.1 = w21 at *
      replace hS21 : St w NoX [c2] w21 := hS21
      refine gen_Q (fun A22 hA22 => ?_)
      have hsz22 : SzN A22 179 := by rw [hA22]; infer_instance
      have hdf22 : A22.defers = [] := by rw [hA22]; simp only [df_put]; exact hdf13
      have l1_22 := lookE hA22 1 (es rfl (es rfl (es rfl (es rfl (es rfl (es rfl (es rfl (es rfl (es rfl (es rfl (es rfl l1_13)))))))))))
      have l2_22 := lookE hA22 2 (es rfl (es rfl (es rfl (es rfl (es rfl (es rfl (es rfl (es rfl (es rfl (es rfl (es rfl l2_13)))))))))))
      have l5_22 := lookE hA22 5 (et rfl)
      clear hA22 hsz13 hdf13 l1_13 l2_13 l34_13
      refine then_n (hK19 _ _ ?_)
      clear hK19
      refine wp_seq_k (fun K23 hK23 => ?_)
      -- region 4
      refine region_in ?_
      refine W_r rfl rfl (VR_ldA rfl l2_22 (hS21.obj 0 rfl hc2) Tryd.underlying24 rfl (by kernel_rfl)) ?_
      refine W_v rfl rfl (V_mov rfl (es rfl l5_22)) ?_
      refine W_call rfl rfl rfl Tryd.func18 (by kernel_rfl) rfl (args2 (es rfl (et rfl)) (et rfl)) (kWt_c (c := y20) (hS21.roC h_lv) (hS21.roC h_yv) (hS21.roC hG0) ) ?_
      rintro _ w24 ⟨rfl, hP24⟩
      refine ⟨_, rfl, ?_⟩
      have hS24 := hS21.join hP24
      replace hS24 : St w NoX [c2] w24 := hS24
      refine W_v rfl rfl (V_mov rfl (et rfl)) ?_
      refine W_v rfl rfl (V_ext (v := .int .i64 ((plN lo yo y20))) rfl (et rfl) rfl) ?_
      refine W_v rfl rfl (V_ext (v := .int .i64 ((plE lo yo y20))) rfl (es rfl (et rfl)) rfl) ?_
      refine W_v rfl rfl (V_asg rfl (es rfl (et rfl))) ?_
      refine W_v rfl rfl (V_asg rfl (es rfl (et rfl))) ?_
      refine W_end ?_
      refine gen_Q (fun A25 hA25 => ?_)
      have hsz25 : SzN A25 179 := by rw [hA25]; infer_instance
      have hdf25 : A25.defers = [] := by rw [hA25]; simp only [df_put]; exact hdf22
      have l1_25 := lookE hA25 1 (es rfl (es rfl (es rfl (es rfl (es rfl (es rfl (es rfl (es rfl l1_22))))))))
      have l2_25 := lookE hA25 2 (es rfl (es rfl (es rfl (es rfl (es rfl (es rfl (es rfl (es rfl l2_22))))))))
      have l5_25 := lookE hA25 5 (es rfl (es rfl (es rfl (es rfl (es rfl (es rfl (es rfl (es rfl l5_22))))))))
      have l6_25 := lookE hA25 6 (es rfl (et rfl))
      have l7_25 := lookE hA25 7 (et rfl)
      clear hA25 hsz22 hdf22 l1_22 l2_22 l5_22
      refine then_n (hK23 _ _ ?_)
      clear hK23
      refine wp_seq_k (fun K26 hK26 => ?_)
      refine wp_seq_k (fun K27 hK27 => ?_)
      -- region 5
      refine region_in ?_
      refine W_v rfl rfl (V_mov rfl l7_25) ?_
      refine W_v rfl rfl (V_neq rfl (et rfl) rfl) ?_
      refine W_sure (c' := false) rfl rfl (V_mov rfl (et rfl)) (by rw [decide_eq_false_iff_not]; rw [(lo_at hg hy20).1]; simp) ?_
      refine W_v rfl (wanted_t rfl rfl (et rfl) (ez rfl)) (V_mov rfl (es rfl (es rfl (es rfl l6_25)))) ?_
      refine W_v rfl (wanted_t rfl rfl (es rfl (et rfl)) (ez rfl)) (V_mov rfl (es rfl (es rfl (es rfl (es rfl l1_25))))) ?_
      refine W_v rfl (wanted_t rfl rfl (es rfl (es rfl (et rfl))) (ez rfl)) (V_cvt rfl (et rfl) Tryd.underlying5 Tryd.underlying3 (wrap_i64 (by omega) (by omega))) ?_
      refine W_v rfl (wanted_t rfl rfl (es rfl (es rfl (es rfl (et rfl)))) (ez rfl)) (V_fa (off' := 0) rfl (es rfl (es rfl (es rfl (es rfl (es rfl (es rfl l2_25)))))) Tryd.underlying24 rfl (by decide) rfl) ?_
      refine W_r rfl (wanted_t rfl rfl (es rfl (es rfl (es rfl (es rfl (et rfl))))) (ez rfl)) (VR_ldC rfl (et rfl) (cell_box (v := lv) (hS24.obj 0 rfl hc2) rfl) Tryd.underlying22 rfl) ?_
      refine W_v rfl (wanted_t rfl rfl (es rfl (es rfl (es rfl (es rfl (es rfl (et rfl)))))) (ez rfl)) (V_lenS rfl (et rfl) (sl_SlN h_lv.at) Tryd.underlying22) ?_
      refine W_v rfl (wanted_t rfl rfl (es rfl (es rfl (es rfl (es rfl (es rfl (es rfl (et rfl))))))) (ez rfl)) (V_rem rfl (es rfl (es rfl (es rfl (et rfl)))) (et rfl) (by omega) (by omega) (wrap_i64 (by omega) (by omega))) ?_
      refine W_v rfl (wanted_t rfl rfl (es rfl (es rfl (es rfl (es rfl (es rfl (es rfl (es rfl (et rfl)))))))) (ez rfl)) (V_neq rfl (es rfl (es rfl (es rfl (es rfl (es rfl (es rfl (et rfl))))))) (et rfl)) ?_
      refine W_v rfl rfl (V_pickF rfl (es rfl (es rfl (es rfl (es rfl (es rfl (es rfl (es rfl (es rfl (et rfl))))))))) (et rfl)) ?_
      refine W_end ?_
      refine gen_Q (fun A28 hA28 => ?_)
      have hsz28 : SzN A28 179 := by rw [hA28]; infer_instance
      have hdf28 : A28.defers = [] := by rw [hA28]; simp only [df_put]; exact hdf25
      have l2_28 := lookE hA28 2 (es rfl (es rfl (es rfl (es rfl (es rfl (es rfl (es rfl (es rfl (es rfl (es rfl (es rfl (es rfl l2_25))))))))))))
      have l5_28 := lookE hA28 5 (es rfl (es rfl (es rfl (es rfl (es rfl (es rfl (es rfl (es rfl (es rfl (es rfl (es rfl (es rfl l5_25))))))))))))
      have l6_28 := lookE hA28 6 (es rfl (es rfl (es rfl (es rfl (es rfl (es rfl (es rfl (es rfl (es rfl (es rfl (es rfl (es rfl l6_25))))))))))))
      have l63_28 := lookE hA28 63 (et rfl)
      clear hA28 hsz25 hdf25 l1_25 l2_25 l5_25 l6_25 l7_25
      refine then_n (hK27 _ _ ?_)
      clear hK27
      refine cond_not l63_28 (by rw [decide_eq_false_iff_not]; rw [(lo_at hg hy20).2]; omega) ?_
      refine wp_skip ?_
      refine then_n (hK26 _ _ ?_)
      clear hK26
      refine wp_seq_k (fun K29 hK29 => ?_)
      refine wp_block ?_
      -- loop 7
      refine loopX (fun mz A' w' => SzN A' 179 ∧ A'.defers = [] ∧ (∃ (wb30 : World) (Xb30 : Nat → Prop) (n : Nat) (lk : List Int) (yk : List Int) (lkv : Value) (ykv : Value), (∀ w2 post, St wb30 Xb30 post w2 → St w NoX post w2) ∧ (Ro wb30 Xb30 (il .i64 lv lo)) ∧ (Ro wb30 Xb30 (il .i64 yv yo)) ∧ (Ro wb30 Xb30 (bx 0 gT0 #[.int .i64 (-1), .int .i64 (-1)])) ∧ (Ro wb30 Xb30 (il .i64 lkv lk)) ∧ (Ro wb30 Xb30 (il .i64 ykv yk)) ∧ (mz = n) ∧ ((chk lk yk).2.2 = 0) ∧ (lk[n]? = some y20) ∧ (EV A' (.tmp 6) = .int .i64 (n : Int)) ∧ (EV A' (.tmp 2) = EV A28 (.tmp 2)) ∧ (EV A' (.tmp 5) = EV A28 (.tmp 5)) ∧ (St wb30 Xb30 [bx g2 24 #[lkv, ykv]] w'))) (((at_ % (lo.length : Int)).toNat)) ⟨hsz28, hdf28, w, NoX, (at_ % (lo.length : Int)).toNat, lo, yo, lv, yv, (fun _ _ h => h), h_lv, h_yv, hG0, h_lv, h_yv, rfl, hg, hy20, ((l6_28).trans ((by rw [(lo_at hg hy20).2]))), rfl, rfl, (by subst hc2; exact hS24)⟩ ?_
      clear hS24 hc2
      rintro n30 A30 w30 ⟨hsz30, hdf30, wb30, Xb30, n, lk, yk, lkv, ykv, back30, h_lv_30, h_yv_30, hG0_30, r1, r2, hm30, hg1, hcar, l6_30, u2_30, u5_30, hS30⟩
      have l2_30 := u2_30.trans l2_28
      have l5_30 := u5_30.trans l5_28
      obtain ⟨c2_30, hc2_30, hS30⟩ := gen1 hS30
      refine wp_seq_k (fun K31 hK31 => ?_)
      refine wp_seq_k (fun K32 hK32 => ?_)
      -- region 7
      refine region_in ?_
      refine W_v rfl rfl (V_mov rfl l6_30) ?_
      refine W_v rfl rfl (V_gtr rfl (et rfl) rfl) ?_
      refine W_end ?_
      refine gen_Q (fun A33 hA33 => ?_)
      have hsz33 : SzN A33 179 := by rw [hA33]; infer_instance
      have hdf33 : A33.defers = [] := by rw [hA33]; simp only [df_put]; exact hdf30
      have l2_33 := lookE hA33 2 (es rfl (es rfl l2_30))
      have l5_33 := lookE hA33 5 (es rfl (es rfl l5_30))
      have l6_33 := lookE hA33 6 (es rfl (es rfl l6_30))
      have l65_33 := lookE hA33 65 (et rfl)
      clear hA33 hsz30 hdf30 l6_30 l2_30 l5_30
      refine then_n (hK32 _ _ ?_)
      clear hK32
      refine cond_dec l65_33 (fun c34 => ?_) (fun c34 => ?_)
      · skip
        have hlk := good_len ((chk_iff lk yk).1 hg1)
        obtain ⟨hlk1, hlk2⟩ := hlk
        have hk0 := (List.getElem?_eq_some_iff.1 hcar).1
        have hgt := tk_good hg1
        have hoT : ordT (lk.drop 1) yk = lk.drop 1 ++ yk := ordT_ok hgt
        have hdl : (lk.drop 1).length = lk.length - 1 := List.length_drop
        have hoL : (ordT (lk.drop 1) yk).length = lk.length - 1 + yk.length := by rw [hoT, List.length_append, hdl]
        have hal := apL_len (lk.drop 1) (lk.headD 0) ((n : Int) % 2)
        have hay := apY_len yk (lk.headD 0) ((n : Int) % 2)
        refine wp_skip ?_
        refine then_n (hK31 _ _ ?_)
        clear hK31
        refine wp_seq_k (fun K35 hK35 => ?_)
        refine wp_block ?_
        refine wp_seq_k (fun K36 hK36 => ?_)
        -- region 9
        refine region_in ?_
        refine W_r rfl rfl (VR_ldA rfl l2_33 (hS30.obj 0 rfl hc2_30) Tryd.underlying24 rfl (by kernel_rfl)) ?_
        refine W_call rfl rfl rfl Tryd.func25 (by kernel_rfl) rfl (args1 (et rfl)) ((tk_lift (by assumption) (by omega) (lift2 (rTake_c (hS30.roC r1).ints (hS30.roC r2).ints (by first | omega | (simp; done) | (simp; omega)) (by first | omega | (simp; done) | (simp; omega)))))) ?_
        rintro _ w37 ⟨v1_37, v2_37, rfl, hP37⟩
        refine ⟨_, rfl, ?_⟩
        obtain ⟨ct_37, hct_37, hP37⟩ := gen1 hP37
        have hS37 := hS30.join hP37
        replace hS37 : St wb30 Xb30 [ct_37, c2_30] w37 := hS37
        refine W_v rfl rfl (V_mov rfl (et rfl)) ?_
        refine W_v rfl rfl (V_ext (v := .agg #[v1_37, v2_37]) rfl (et rfl) rfl) ?_
        refine W_v rfl rfl (V_ext (v := .int .i64 ((lk.headD 0))) rfl (es rfl (et rfl)) rfl) ?_
        refine W_v rfl rfl (V_ext (v := .int .i64 (0)) rfl (es rfl (es rfl (et rfl))) rfl) ?_
        refine W_allocS (z := .agg #[.slice none 0 0, .slice none 0 0]) (zs := #[.slice none 0 0, .slice none 0 0]) hS37 rfl rfl rfl (by kernel_rfl) (by rfl) (fun g38 w38 c38 hc38 hS38 => ?_)
        replace hS38 : St wb30 Xb30 [c38, ct_37, c2_30] w38 := hS38
        refine W_stAS 0 hS38 rfl hc38 rfl rfl rfl (et rfl) (es rfl (es rfl (es rfl (et rfl)))) (by simp only [List.all_toArray, List.all_cons, List.all_nil, SlN_one (sl_SlN (at_fst (hS38.chq 1 rfl hct_37))), SlN_one (sl_SlN (at_snd (hS38.chq 1 rfl hct_37)))] <;> rfl) (by rfl) (by kernel_rfl) (fun w39 c39 hc39 hS39 => ?_)
        replace hS39 : St wb30 Xb30 [c39, ct_37, c2_30] w39 := hS39
        refine W_v rfl rfl (V_asg rfl (es rfl (es rfl (et rfl)))) ?_
        refine W_v rfl rfl (V_asg rfl (es rfl (es rfl (et rfl)))) ?_
        refine W_end ?_
        refine gen_Q (fun A40 hA40 => ?_)
        have hsz40 : SzN A40 179 := by rw [hA40]; infer_instance
        have hdf40 : A40.defers = [] := by rw [hA40]; simp only [df_put]; exact hdf33
        have l2_40 := lookE hA40 2 (es rfl (es rfl (es rfl (es rfl (es rfl (es rfl (es rfl (es rfl (es rfl l2_33)))))))))
        have l5_40 := lookE hA40 5 (es rfl (es rfl (es rfl (es rfl (es rfl (es rfl (es rfl (es rfl (es rfl l5_33)))))))))
        have l6_40 := lookE hA40 6 (es rfl (es rfl (es rfl (es rfl (es rfl (es rfl (es rfl (es rfl (es rfl l6_33)))))))))
        have l8_40 := lookE hA40 8 (es rfl (es rfl (et rfl)))
        have l9_40 := lookE hA40 9 (es rfl (et rfl))
        have l10_40 := lookE hA40 10 (et rfl)
        clear hA40 hsz33 hdf33 l2_33 l5_33 l6_33 l65_33
        refine then_n (hK36 _ _ ?_)
        clear hK36
        refine wp_seq_k (fun K41 hK41 => ?_)
        refine wp_seq_k (fun K42 hK42 => ?_)
        -- region 10
        refine region_in ?_
        refine W_v rfl rfl (V_mov rfl l10_40) ?_
        refine W_v rfl rfl (V_neq rfl (et rfl) rfl) ?_
        refine W_sure (c' := false) rfl rfl (V_mov rfl (et rfl)) (by decide) ?_
        refine W_v rfl (wanted_t rfl rfl (et rfl) (ez rfl)) (V_mov rfl (es rfl (es rfl (es rfl l9_40)))) ?_
        refine W_v rfl (wanted_t rfl rfl (es rfl (et rfl)) (ez rfl)) (V_mov rfl (es rfl (es rfl (es rfl (es rfl l5_40))))) ?_
        refine W_v rfl (wanted_t rfl rfl (es rfl (es rfl (et rfl))) (ez rfl)) (V_eql rfl (es rfl (et rfl)) (et rfl)) ?_
        refine W_v rfl rfl (V_pickF rfl (es rfl (es rfl (es rfl (et rfl)))) (et rfl)) ?_
        refine W_end ?_
        refine gen_Q (fun A43 hA43 => ?_)
        have hsz43 : SzN A43 179 := by rw [hA43]; infer_instance
        have hdf43 : A43.defers = [] := by rw [hA43]; simp only [df_put]; exact hdf40
        have l2_43 := lookE hA43 2 (es rfl (es rfl (es rfl (es rfl (es rfl (es rfl (es rfl l2_40)))))))
        have l5_43 := lookE hA43 5 (es rfl (es rfl (es rfl (es rfl (es rfl (es rfl (es rfl l5_40)))))))
        have l6_43 := lookE hA43 6 (es rfl (es rfl (es rfl (es rfl (es rfl (es rfl (es rfl l6_40)))))))
        have l8_43 := lookE hA43 8 (es rfl (es rfl (es rfl (es rfl (es rfl (es rfl (es rfl l8_40)))))))
        have l9_43 := lookE hA43 9 (es rfl (es rfl (es rfl (es rfl (es rfl (es rfl (es rfl l9_40)))))))
        have l77_43 := lookE hA43 77 (es rfl (es rfl (es rfl (et rfl))))
        have l78_43 := lookE hA43 78 (es rfl (es rfl (et rfl)))
        have l79_43 := lookE hA43 79 (es rfl (et rfl))
        have l80_43 := lookE hA43 80 (et rfl)
        clear hA43 hsz40 hdf40 l2_40 l5_40 l6_40 l8_40 l9_40 l10_40
        refine then_n (hK42 _ _ ?_)
        clear hK42
        refine cond_not l80_43 (by rw [decide_eq_false_iff_not]; exact tk_ne hg1 hcar (by omega)) ?_
        refine wp_skip ?_
        refine then_n (hK41 _ _ ?_)
        clear hK41
        refine wp_seq_k (fun K44 hK44 => ?_)
        -- region 12
        refine region_in ?_
        refine W_r rfl rfl (VR_ldA rfl l8_43 (hS39.obj 0 rfl hc39) Tryd.underlying24 rfl (by kernel_rfl)) ?_
        refine W_call rfl rfl rfl Tryd.func26 (by kernel_rfl) rfl (args1 (et rfl)) (kOrd_c ((hS39.chC 1 rfl hct_37).fst) ((hS39.chC 1 rfl hct_37).snd) (hS39.roC hG0_30) ) ?_
        rintro _ w45 ⟨v_45, rfl, hP45⟩
        refine ⟨_, rfl, ?_⟩
        obtain ⟨c_45, hc_45, hP45⟩ := gen1 hP45
        have hS45 := hS39.join hP45
        replace hS45 : St wb30 Xb30 [c_45, c39, ct_37, c2_30] w45 := hS45
        refine W_v rfl rfl (V_mov rfl (et rfl)) ?_
        refine W_v rfl rfl (V_ext (v := v_45) rfl (et rfl) rfl) ?_
        refine W_v rfl rfl (V_ext (v := .int .i64 ((chk (lk.drop 1) yk).2.2)) rfl (es rfl (et rfl)) rfl) ?_
        refine W_v rfl rfl (V_asg rfl (es rfl (et rfl))) ?_
        refine W_v rfl rfl (V_asg rfl (es rfl (et rfl))) ?_
        refine W_end ?_
        refine gen_Q (fun A46 hA46 => ?_)
        have hsz46 : SzN A46 179 := by rw [hA46]; infer_instance
        have hdf46 : A46.defers = [] := by rw [hA46]; simp only [df_put]; exact hdf43
        have l2_46 := lookE hA46 2 (es rfl (es rfl (es rfl (es rfl (es rfl (es rfl (es rfl l2_43)))))))
        have l5_46 := lookE hA46 5 (es rfl (es rfl (es rfl (es rfl (es rfl (es rfl (es rfl l5_43)))))))
        have l6_46 := lookE hA46 6 (es rfl (es rfl (es rfl (es rfl (es rfl (es rfl (es rfl l6_43)))))))
        have l8_46 := lookE hA46 8 (es rfl (es rfl (es rfl (es rfl (es rfl (es rfl (es rfl l8_43)))))))
        have l9_46 := lookE hA46 9 (es rfl (es rfl (es rfl (es rfl (es rfl (es rfl (es rfl l9_43)))))))
        have l11_46 := lookE hA46 11 (es rfl (et rfl))
        have l77_46 := lookE hA46 77 (es rfl (es rfl (es rfl (es rfl (es rfl (es rfl (es rfl l77_43)))))))
        have l78_46 := lookE hA46 78 (es rfl (es rfl (es rfl (es rfl (es rfl (es rfl (es rfl l78_43)))))))
        have l79_46 := lookE hA46 79 (es rfl (es rfl (es rfl (es rfl (es rfl (es rfl (es rfl l79_43)))))))
        clear hA46 hsz43 hdf43 l2_43 l5_43 l6_43 l8_43 l9_43 l77_43 l78_43 l79_43 l80_43
        refine then_n (hK44 _ _ ?_)
        clear hK44
        refine wp_seq_k (fun K47 hK47 => ?_)
        refine wp_seq_k (fun K48 hK48 => ?_)
        -- region 13
        refine region_in ?_
        refine W_v rfl rfl (V_asg rfl rfl) ?_
        refine W_end ?_
        refine gen_Q (fun A49 hA49 => ?_)
        have hsz49 : SzN A49 179 := by rw [hA49]; infer_instance
        have hdf49 : A49.defers = [] := by rw [hA49]; simp only [df_put]; exact hdf46
        have l2_49 := lookE hA49 2 (es rfl l2_46)
        have l5_49 := lookE hA49 5 (es rfl l5_46)
        have l6_49 := lookE hA49 6 (es rfl l6_46)
        have l8_49 := lookE hA49 8 (es rfl l8_46)
        have l9_49 := lookE hA49 9 (es rfl l9_46)
        have l11_49 := lookE hA49 11 (es rfl l11_46)
        have l13_49 := lookE hA49 13 (et rfl)
        have l77_49 := lookE hA49 77 (es rfl l77_46)
        have l78_49 := lookE hA49 78 (es rfl l78_46)
        have l79_49 := lookE hA49 79 (es rfl l79_46)
        clear hA49 hsz46 hdf46 l2_46 l5_46 l6_46 l8_46 l9_46 l11_46 l77_46 l78_46 l79_46
        refine then_n (hK48 _ _ ?_)
        clear hK48
        refine wp_block ?_
        -- loop 14
        refine loopX (fun mz A' w' => SzN A' 179 ∧ A'.defers = [] ∧ (∃ (i : Nat), (mz = (ordT (lk.drop 1) yk).length - i) ∧ (i ≤ (ordT (lk.drop 1) yk).length) ∧ (EV A' (.tmp 13) = .int .i64 (i : Int)) ∧ (EV A' (.tmp 2) = EV A49 (.tmp 2)) ∧ (EV A' (.tmp 5) = EV A49 (.tmp 5)) ∧ (EV A' (.tmp 6) = EV A49 (.tmp 6)) ∧ (EV A' (.tmp 8) = EV A49 (.tmp 8)) ∧ (EV A' (.tmp 9) = EV A49 (.tmp 9)) ∧ (EV A' (.tmp 11) = EV A49 (.tmp 11)) ∧ (EV A' (.tmp 77) = EV A49 (.tmp 77)) ∧ (EV A' (.tmp 78) = EV A49 (.tmp 78)) ∧ (EV A' (.tmp 79) = EV A49 (.tmp 79)) ∧ (St wb30 Xb30 [io .i64 v_45 (ordT (lk.drop 1) yk), bx g38 24 #[v1_37, v2_37], (il .i64 v1_37 (lk.drop 1)).and (il .i64 v2_37 yk), bx g2 24 #[lkv, ykv]] w'))) ((ordT (lk.drop 1) yk).length - 0) ⟨hsz49, hdf49, 0, rfl, (by omega), ((l13_49).trans (by first | rfl | (simp; done) | (congr 1; omega))), rfl, rfl, rfl, rfl, rfl, rfl, rfl, rfl, rfl, (by subst hc_45 hc39 hct_37 hc2_30; exact hS45)⟩ ?_
        clear hS45 hc_45 hc39 hct_37 hc2_30
        rintro n50 A50 w50 ⟨hsz50, hdf50, i, hm50, hi, l13_50, u2_50, u5_50, u6_50, u8_50, u9_50, u11_50, u77_50, u78_50, u79_50, hS50⟩
        have l2_50 := u2_50.trans l2_49
        have l5_50 := u5_50.trans l5_49
        have l6_50 := u6_50.trans l6_49
        have l8_50 := u8_50.trans l8_49
        have l9_50 := u9_50.trans l9_49
        have l11_50 := u11_50.trans l11_49
        have l77_50 := u77_50.trans l77_49
        have l78_50 := u78_50.trans l78_49
        have l79_50 := u79_50.trans l79_49
        obtain ⟨c_50, c39_50, ct_50, c2_50, hc_50, hc39_50, hct_50, hc2_50, hS50⟩ := gen4 hS50
        refine wp_seq_k (fun K51 hK51 => ?_)
        refine wp_seq_k (fun K52 hK52 => ?_)
        -- region 14
        refine region_in ?_
        refine W_v rfl rfl (V_mov rfl l13_50) ?_
        refine W_v rfl rfl (V_mov rfl (es rfl l11_50)) ?_
        refine W_v rfl rfl (V_lenS rfl (et rfl) (ow_at (hS50.chq 0 rfl hc_50)) Tryd.underlying22) ?_
        refine W_v rfl rfl (V_lss rfl (es rfl (es rfl (et rfl))) (et rfl)) ?_
        refine W_end ?_
        refine gen_Q (fun A53 hA53 => ?_)
        have hsz53 : SzN A53 179 := by rw [hA53]; infer_instance
        have hdf53 : A53.defers = [] := by rw [hA53]; simp only [df_put]; exact hdf50
        have l2_53 := lookE hA53 2 (es rfl (es rfl (es rfl (es rfl l2_50))))
        have l5_53 := lookE hA53 5 (es rfl (es rfl (es rfl (es rfl l5_50))))
        have l6_53 := lookE hA53 6 (es rfl (es rfl (es rfl (es rfl l6_50))))
        have l8_53 := lookE hA53 8 (es rfl (es rfl (es rfl (es rfl l8_50))))
        have l9_53 := lookE hA53 9 (es rfl (es rfl (es rfl (es rfl l9_50))))
        have l11_53 := lookE hA53 11 (es rfl (es rfl (es rfl (es rfl l11_50))))
        have l13_53 := lookE hA53 13 (es rfl (es rfl (es rfl (es rfl l13_50))))
        have l77_53 := lookE hA53 77 (es rfl (es rfl (es rfl (es rfl l77_50))))
        have l78_53 := lookE hA53 78 (es rfl (es rfl (es rfl (es rfl l78_50))))
        have l79_53 := lookE hA53 79 (es rfl (es rfl (es rfl (es rfl l79_50))))
        have l89_53 := lookE hA53 89 (et rfl)
        clear hA53 hsz50 hdf50 l13_50 l2_50 l5_50 l6_50 l8_50 l9_50 l11_50 l77_50 l78_50 l79_50
        refine then_n (hK52 _ _ ?_)
        clear hK52
        refine cond_dec l89_53 (fun c54 => ?_) (fun c54 => ?_)
        · skip
          refine wp_skip ?_
          refine then_n (hK51 _ _ ?_)
          clear hK51
          refine wp_seq_k (fun K55 hK55 => ?_)
          refine wp_block ?_
          refine wp_seq_k (fun K56 hK56 => ?_)
          -- region 16
          have k57 : i < (ordT (lk.drop 1) yk).length := by first | omega | (simp only [List.length_cons, List.length_nil]; omega)
          obtain ⟨y57, hy57⟩ := get_some (xs := (ordT (lk.drop 1) yk)) (k := i) k57
          have ht57 := tk_at hg1 (by omega) (hoT ▸ hy57)
          refine region_monoS 11 11 [none, none, none, none, none, some (SPc (fun u l' => u = .tuple #[.int .i64 (plN lk yk y57), .int .i64 (plE lk yk y57)] ∧ l' = []) 5)] (by kernel_rfl) (by kernel_rfl) ?_
          refine D_r rfl rfl (by kernel_rfl) (fun sx hx hF => (VR_ldA rfl l2_53 ((hS50.grow hx).obj 3 rfl hc2_50) Tryd.underlying24 rfl (by kernel_rfl))) rfl rfl ?_
          refine D_v rfl rfl (V_mov rfl (es rfl l11_53)) rfl rfl ?_
          refine D_v rfl rfl (V_mov rfl (es rfl (es rfl l13_53))) rfl rfl ?_
          obtain ⟨B57, O57, C57, hv57⟩ := (SlN.blk (ow_at (hS50.chq 0 rfl hc_50)) (by first | omega | (simp only [List.length_cons, List.length_nil]; omega)))
          refine D_v rfl rfl (V_ixS (off := O57 + i) 1 (i) rfl (es rfl (et rfl)) (et rfl) hv57 (by omega) k57 Tryd.underlying22 (by kernel_rfl) (congrArg _ (Nat.mul_one _))) rfl rfl ?_
          refine D_r rfl rfl (by kernel_rfl) (fun sx hx hF => (VR_ldC rfl (et rfl) ((ow_at ((hS50.grow hx).chq 0 rfl hc_50)).cell hv57 (map_get hy57)) Tryd.underlying3 rfl)) rfl rfl ?_
          refine D_call (C := fun u l' => u = .tuple #[.int .i64 (plN lk yk y57), .int .i64 (plE lk yk y57)] ∧ l' = []) rfl rfl rfl Tryd.func18 (by kernel_rfl) rfl (args2 (es rfl (es rfl (es rfl (es rfl (et rfl))))) (et rfl)) rfl rfl (fun sx hx hF => ?_) (fun u58 l58 hu58 => ?_)
          · refine (kWt_c (c := y57) ((hS50.grow hx).roC r1) ((hS50.grow hx).roC r2) ((hS50.grow hx).roC hG0_30) ).mono ?_
            rintro _ _ ⟨rfl, hz⟩
            exact ⟨_, rfl, _, ⟨rfl, rfl⟩, hz⟩
          obtain ⟨rfl, hl58⟩ := hu58
          refine D_v rfl rfl (V_mov rfl (et rfl)) rfl rfl ?_
          refine D_v rfl rfl (V_ext (v := .int .i64 ((plN lk yk y57))) rfl (et rfl) rfl) rfl rfl ?_
          refine D_v rfl rfl (V_ext (v := .int .i64 ((plE lk yk y57))) rfl (es rfl (et rfl)) rfl) rfl rfl ?_
          refine D_v rfl rfl (V_asg rfl (es rfl (et rfl))) rfl rfl ?_
          refine D_v rfl rfl (V_asg rfl (es rfl (et rfl))) rfl rfl ?_
          refine ZS_none hS50 (Nat.le_refl _) (Nat.le_refl _) (fun s59 hJ59 hL59 hF59 => ?_)
          obtain ⟨ll58, ws58, we58, ⟨hq58, hl58r⟩, hm58, k58, e58⟩ := L.all_get hF59; cases hq58; subst hl58r
          replace hJ59 := hJ59.add hL59 (i := 5) rfl hm58 k58 e58
          have hS59 := hJ59.st; clear hF59 hJ59 hL59
          generalize s59.1 = w59 at *
          replace hS59 : St wb30 Xb30 [c_50, c39_50, ct_50, c2_50] w59 := hS59
          refine gen_Q (fun A60 hA60 => ?_)
          have hsz60 : SzN A60 179 := by rw [hA60]; infer_instance
          have hdf60 : A60.defers = [] := by rw [hA60]; simp only [df_put]; exact hdf53
          have l2_60 := lookE hA60 2 (es rfl (es rfl (es rfl (es rfl (es rfl (es rfl (es rfl (es rfl (es rfl (es rfl (es rfl l2_53)))))))))))
          have l5_60 := lookE hA60 5 (es rfl (es rfl (es rfl (es rfl (es rfl (es rfl (es rfl (es rfl (es rfl (es rfl (es rfl l5_53)))))))))))
          have l6_60 := lookE hA60 6 (es rfl (es rfl (es rfl (es rfl (es rfl (es rfl (es rfl (es rfl (es rfl (es rfl (es rfl l6_53)))))))))))
          have l8_60 := lookE hA60 8 (es rfl (es rfl (es rfl (es rfl (es rfl (es rfl (es rfl (es rfl (es rfl (es rfl (es rfl l8_53)))))))))))
          have l9_60 := lookE hA60 9 (es rfl (es rfl (es rfl (es rfl (es rfl (es rfl (es rfl (es rfl (es rfl (es rfl (es rfl l9_53)))))))))))
          have l11_60 := lookE hA60 11 (es rfl (es rfl (es rfl (es rfl (es rfl (es rfl (es rfl (es rfl (es rfl (es rfl (es rfl l11_53)))))))))))
          have l13_60 := lookE hA60 13 (es rfl (es rfl (es rfl (es rfl (es rfl (es rfl (es rfl (es rfl (es rfl (es rfl (es rfl l13_53)))))))))))
          have l14_60 := lookE hA60 14 (es rfl (et rfl))
          have l15_60 := lookE hA60 15 (et rfl)
          have l77_60 := lookE hA60 77 (es rfl (es rfl (es rfl (es rfl (es rfl (es rfl (es rfl (es rfl (es rfl (es rfl (es rfl l77_53)))))))))))
          have l78_60 := lookE hA60 78 (es rfl (es rfl (es rfl (es rfl (es rfl (es rfl (es rfl (es rfl (es rfl (es rfl (es rfl l78_53)))))))))))
          have l79_60 := lookE hA60 79 (es rfl (es rfl (es rfl (es rfl (es rfl (es rfl (es rfl (es rfl (es rfl (es rfl (es rfl l79_53)))))))))))
          clear hA60 hsz53 hdf53 l2_53 l5_53 l6_53 l8_53 l9_53 l11_53 l13_53 l77_53 l78_53 l79_53 l89_53
          refine then_n (hK56 _ _ ?_)
          clear hK56
          refine wp_seq_k (fun K61 hK61 => ?_)
          -- region 17
          refine region_monoS 11 11 [none, none, none, none, none, some (SPc (fun u l' => u = .tuple #[.int .i64 (plN (lk.drop 1) yk y57), .int .i64 (plE (lk.drop 1) yk y57)] ∧ l' = []) 5)] (by kernel_rfl) (by kernel_rfl) ?_
          refine D_r rfl rfl (by kernel_rfl) (fun sx hx hF => (VR_ldA rfl l8_60 ((hS59.grow hx).obj 1 rfl hc39_50) Tryd.underlying24 rfl (by kernel_rfl))) rfl rfl ?_
          refine D_v rfl rfl (V_mov rfl (es rfl l11_60)) rfl rfl ?_
          refine D_v rfl rfl (V_mov rfl (es rfl (es rfl l13_60))) rfl rfl ?_
          refine D_v rfl rfl (V_ixS (off := O57 + i) 1 (i) rfl (es rfl (et rfl)) (et rfl) hv57 (by omega) k57 Tryd.underlying22 (by kernel_rfl) (congrArg _ (Nat.mul_one _))) rfl rfl ?_
          refine D_r rfl rfl (by kernel_rfl) (fun sx hx hF => (VR_ldC rfl (et rfl) ((ow_at ((hS59.grow hx).chq 0 rfl hc_50)).cell hv57 (map_get hy57)) Tryd.underlying3 rfl)) rfl rfl ?_
          refine D_call (C := fun u l' => u = .tuple #[.int .i64 (plN (lk.drop 1) yk y57), .int .i64 (plE (lk.drop 1) yk y57)] ∧ l' = []) rfl rfl rfl Tryd.func18 (by kernel_rfl) rfl (args2 (es rfl (es rfl (es rfl (es rfl (et rfl))))) (et rfl)) rfl rfl (fun sx hx hF => ?_) (fun u63 l63 hu63 => ?_)
          · refine (kWt_c (c := y57) (((hS59.grow hx).chC 2 rfl hct_50).fst) (((hS59.grow hx).chC 2 rfl hct_50).snd) ((hS59.grow hx).roC hG0_30) ).mono ?_
            rintro _ _ ⟨rfl, hz⟩
            exact ⟨_, rfl, _, ⟨rfl, rfl⟩, hz⟩
          obtain ⟨rfl, hl63⟩ := hu63
          refine D_v rfl rfl (V_mov rfl (et rfl)) rfl rfl ?_
          refine D_v rfl rfl (V_ext (v := .int .i64 ((plN (lk.drop 1) yk y57))) rfl (et rfl) rfl) rfl rfl ?_
          refine D_v rfl rfl (V_ext (v := .int .i64 ((plE (lk.drop 1) yk y57))) rfl (es rfl (et rfl)) rfl) rfl rfl ?_
          refine D_v rfl rfl (V_asg rfl (es rfl (et rfl))) rfl rfl ?_
          refine D_v rfl rfl (V_asg rfl (es rfl (et rfl))) rfl rfl ?_
          refine ZS_none hS59 (Nat.le_refl _) (Nat.le_refl _) (fun s64 hJ64 hL64 hF64 => ?_)
          obtain ⟨ll63, ws63, we63, ⟨hq63, hl63r⟩, hm63, k63, e63⟩ := L.all_get hF64; cases hq63; subst hl63r
          replace hJ64 := hJ64.add hL64 (i := 5) rfl hm63 k63 e63
          have hS64 := hJ64.st; clear hF64 hJ64 hL64
          generalize s64.1 = w64 at *
          replace hS64 : St wb30 Xb30 [c_50, c39_50, ct_50, c2_50] w64 := hS64
          refine gen_Q (fun A65 hA65 => ?_)
          have hsz65 : SzN A65 179 := by rw [hA65]; infer_instance
          have hdf65 : A65.defers = [] := by rw [hA65]; simp only [df_put]; exact hdf60
          have l2_65 := lookE hA65 2 (es rfl (es rfl (es rfl (es rfl (es rfl (es rfl (es rfl (es rfl (es rfl (es rfl (es rfl l2_60)))))))))))
          have l5_65 := lookE hA65 5 (es rfl (es rfl (es rfl (es rfl (es rfl (es rfl (es rfl (es rfl (es rfl (es rfl (es rfl l5_60)))))))))))
          have l6_65 := lookE hA65 6 (es rfl (es rfl (es rfl (es rfl (es rfl (es rfl (es rfl (es rfl (es rfl (es rfl (es rfl l6_60)))))))))))
          have l8_65 := lookE hA65 8 (es rfl (es rfl (es rfl (es rfl (es rfl (es rfl (es rfl (es rfl (es rfl (es rfl (es rfl l8_60)))))))))))
          have l9_65 := lookE hA65 9 (es rfl (es rfl (es rfl (es rfl (es rfl (es rfl (es rfl (es rfl (es rfl (es rfl (es rfl l9_60)))))))))))
          have l11_65 := lookE hA65 11 (es rfl (es rfl (es rfl (es rfl (es rfl (es rfl (es rfl (es rfl (es rfl (es rfl (es rfl l11_60)))))))))))
          have l13_65 := lookE hA65 13 (es rfl (es rfl (es rfl (es rfl (es rfl (es rfl (es rfl (es rfl (es rfl (es rfl (es rfl l13_60)))))))))))
          have l14_65 := lookE hA65 14 (es rfl (es rfl (es rfl (es rfl (es rfl (es rfl (es rfl (es rfl (es rfl (es rfl (es rfl l14_60)))))))))))
          have l15_65 := lookE hA65 15 (es rfl (es rfl (es rfl (es rfl (es rfl (es rfl (es rfl (es rfl (es rfl (es rfl (es rfl l15_60)))))))))))
          have l16_65 := lookE hA65 16 (es rfl (et rfl))
          have l17_65 := lookE hA65 17 (et rfl)
          have l77_65 := lookE hA65 77 (es rfl (es rfl (es rfl (es rfl (es rfl (es rfl (es rfl (es rfl (es rfl (es rfl (es rfl l77_60)))))))))))
          have l78_65 := lookE hA65 78 (es rfl (es rfl (es rfl (es rfl (es rfl (es rfl (es rfl (es rfl (es rfl (es rfl (es rfl l78_60)))))))))))
          have l79_65 := lookE hA65 79 (es rfl (es rfl (es rfl (es rfl (es rfl (es rfl (es rfl (es rfl (es rfl (es rfl (es rfl l79_60)))))))))))
          clear hA65 hsz60 hdf60 l2_60 l5_60 l6_60 l8_60 l9_60 l11_60 l13_60 l14_60 l15_60 l77_60 l78_60 l79_60
          refine then_n (hK61 _ _ ?_)
          clear hK61
          refine wp_seq_k (fun K66 hK66 => ?_)
          -- region 18
          refine region_in ?_
          refine W_v rfl rfl (V_mov rfl l15_65) ?_
          refine W_v rfl rfl (V_neq rfl (et rfl) rfl) ?_
          refine W_sure (c' := false) rfl rfl (V_mov rfl (et rfl)) (by rw [decide_eq_false_iff_not]; rw [(tk_at hg1 (by omega) (hoT ▸ hy57)).1]; simp) ?_
          refine W_v rfl (wanted_t rfl rfl (et rfl) (ez rfl)) (V_mov rfl (es rfl (es rfl (es rfl l17_65)))) ?_
          refine W_v rfl (wanted_t rfl rfl (es rfl (et rfl)) (ez rfl)) (V_neq rfl (et rfl) rfl) ?_
          refine W_v rfl rfl (V_pickF rfl (es rfl (es rfl (et rfl))) (et rfl)) ?_
          refine W_sure (c' := false) rfl rfl (V_mov rfl (et rfl)) (by rw [decide_eq_false_iff_not]; rw [(tk_at hg1 (by omega) (hoT ▸ hy57)).2.2.1]; simp) ?_
          refine W_v rfl (wanted_t rfl rfl (et rfl) (ez rfl)) (V_mov rfl (es rfl (es rfl (es rfl (es rfl (es rfl (es rfl (es rfl l16_65)))))))) ?_
          refine W_v rfl (wanted_t rfl rfl (es rfl (et rfl)) (ez rfl)) (V_mov rfl (es rfl (es rfl (es rfl (es rfl (es rfl (es rfl (es rfl (es rfl l14_65))))))))) ?_
          refine W_v rfl (wanted_t rfl rfl (es rfl (es rfl (et rfl))) (ez rfl)) (V_sb rfl (et rfl) rfl (by omega) (by omega)) ?_
          refine W_v rfl (wanted_t rfl rfl (es rfl (es rfl (es rfl (et rfl)))) (ez rfl)) (V_neq rfl (es rfl (es rfl (et rfl))) (et rfl)) ?_
          refine W_v rfl rfl (V_pickF rfl (es rfl (es rfl (es rfl (es rfl (et rfl))))) (et rfl)) ?_
          refine W_end ?_
          refine gen_Q (fun A67 hA67 => ?_)
          have hsz67 : SzN A67 179 := by rw [hA67]; infer_instance
          have hdf67 : A67.defers = [] := by rw [hA67]; simp only [df_put]; exact hdf65
          have l2_67 := lookE hA67 2 (es rfl (es rfl (es rfl (es rfl (es rfl (es rfl (es rfl (es rfl (es rfl (es rfl (es rfl (es rfl l2_65))))))))))))
          have l5_67 := lookE hA67 5 (es rfl (es rfl (es rfl (es rfl (es rfl (es rfl (es rfl (es rfl (es rfl (es rfl (es rfl (es rfl l5_65))))))))))))
          have l6_67 := lookE hA67 6 (es rfl (es rfl (es rfl (es rfl (es rfl (es rfl (es rfl (es rfl (es rfl (es rfl (es rfl (es rfl l6_65))))))))))))
          have l8_67 := lookE hA67 8 (es rfl (es rfl (es rfl (es rfl (es rfl (es rfl (es rfl (es rfl (es rfl (es rfl (es rfl (es rfl l8_65))))))))))))
          have l9_67 := lookE hA67 9 (es rfl (es rfl (es rfl (es rfl (es rfl (es rfl (es rfl (es rfl (es rfl (es rfl (es rfl (es rfl l9_65))))))))))))
          have l11_67 := lookE hA67 11 (es rfl (es rfl (es rfl (es rfl (es rfl (es rfl (es rfl (es rfl (es rfl (es rfl (es rfl (es rfl l11_65))))))))))))
          have l13_67 := lookE hA67 13 (es rfl (es rfl (es rfl (es rfl (es rfl (es rfl (es rfl (es rfl (es rfl (es rfl (es rfl (es rfl l13_65))))))))))))
          have l77_67 := lookE hA67 77 (es rfl (es rfl (es rfl (es rfl (es rfl (es rfl (es rfl (es rfl (es rfl (es rfl (es rfl (es rfl l77_65))))))))))))
          have l78_67 := lookE hA67 78 (es rfl (es rfl (es rfl (es rfl (es rfl (es rfl (es rfl (es rfl (es rfl (es rfl (es rfl (es rfl l78_65))))))))))))
          have l79_67 := lookE hA67 79 (es rfl (es rfl (es rfl (es rfl (es rfl (es rfl (es rfl (es rfl (es rfl (es rfl (es rfl (es rfl l79_65))))))))))))
          have l113_67 := lookE hA67 113 (es rfl (es rfl (es rfl (es rfl (es rfl (es rfl (es rfl (es rfl (et rfl)))))))))
          have l114_67 := lookE hA67 114 (es rfl (es rfl (es rfl (es rfl (es rfl (es rfl (es rfl (et rfl))))))))
          have l117_67 := lookE hA67 117 (es rfl (es rfl (es rfl (es rfl (et rfl)))))
          have l118_67 := lookE hA67 118 (es rfl (es rfl (es rfl (et rfl))))
          have l119_67 := lookE hA67 119 (es rfl (es rfl (et rfl)))
          have l120_67 := lookE hA67 120 (es rfl (et rfl))
          have l121_67 := lookE hA67 121 (et rfl)
          clear hA67 hsz65 hdf65 l2_65 l5_65 l6_65 l8_65 l9_65 l11_65 l13_65 l14_65 l15_65 l16_65 l17_65 l77_65 l78_65 l79_65
          refine then_n (hK66 _ _ ?_)
          clear hK66
          refine cond_not l121_67 (by rw [decide_eq_false_iff_not]; rw [(tk_at hg1 (by omega) (hoT ▸ hy57)).2.1, (tk_at hg1 (by omega) (hoT ▸ hy57)).2.2.2]; omega) ?_
          refine wp_skip ?_
          refine inb_n ?_
          refine then_n (hK55 _ _ ?_)
          clear hK55
          -- region 15
          refine region_in ?_
          refine W_v rfl rfl (V_mov rfl l13_67) ?_
          refine W_v rfl rfl (V_add rfl (et rfl) rfl (by omega) (by omega)) ?_
          refine W_v rfl rfl (V_asg rfl (et rfl)) ?_
          refine W_end ?_
          refine gen_Q (fun A68 hA68 => ?_)
          have hsz68 : SzN A68 179 := by rw [hA68]; infer_instance
          have hdf68 : A68.defers = [] := by rw [hA68]; simp only [df_put]; exact hdf67
          have l2_68 := lookE hA68 2 (es rfl (es rfl (es rfl l2_67)))
          have l5_68 := lookE hA68 5 (es rfl (es rfl (es rfl l5_67)))
          have l6_68 := lookE hA68 6 (es rfl (es rfl (es rfl l6_67)))
          have l8_68 := lookE hA68 8 (es rfl (es rfl (es rfl l8_67)))
          have l9_68 := lookE hA68 9 (es rfl (es rfl (es rfl l9_67)))
          have l11_68 := lookE hA68 11 (es rfl (es rfl (es rfl l11_67)))
          have l13_68 := lookE hA68 13 (et rfl)
          have l77_68 := lookE hA68 77 (es rfl (es rfl (es rfl l77_67)))
          have l78_68 := lookE hA68 78 (es rfl (es rfl (es rfl l78_67)))
          have l79_68 := lookE hA68 79 (es rfl (es rfl (es rfl l79_67)))
          have l113_68 := lookE hA68 113 (es rfl (es rfl (es rfl l113_67)))
          have l114_68 := lookE hA68 114 (es rfl (es rfl (es rfl l114_67)))
          have l117_68 := lookE hA68 117 (es rfl (es rfl (es rfl l117_67)))
          have l118_68 := lookE hA68 118 (es rfl (es rfl (es rfl l118_67)))
          have l119_68 := lookE hA68 119 (es rfl (es rfl (es rfl l119_67)))
          have l120_68 := lookE hA68 120 (es rfl (es rfl (es rfl l120_67)))
          clear hA68 hsz67 hdf67 l2_67 l5_67 l6_67 l8_67 l9_67 l11_67 l13_67 l77_67 l78_67 l79_67 l113_67 l114_67 l117_67 l118_67 l119_67 l120_67 l121_67
          refine then_n ⟨(ordT (lk.drop 1) yk).length - (i + 1), by simp only [hm50]; omega, hsz68, hdf68, (i + 1), rfl, (by omega), ((l13_68).trans (by first | rfl | (simp; done) | (congr 1; omega))), ((l2_68).trans l2_49.symm), ((l5_68).trans l5_49.symm), ((l6_68).trans l6_49.symm), ((l8_68).trans l8_49.symm), ((l9_68).trans l9_49.symm), ((l11_68).trans l11_49.symm), ((l77_68).trans l77_49.symm), ((l78_68).trans l78_49.symm), ((l79_68).trans l79_49.symm), (by subst hc_50 hc39_50 hct_50 hc2_50; exact hS64)⟩
        · skip
          refine wp_exit ?_
          refine then_exit ?_
          refine then_exit ?_
          refine inb_hit ?_
          refine then_n (hK47 _ _ ?_)
          clear hK47
          refine wp_seq_k (fun K69 hK69 => ?_)
          -- region 20
          refine region_in ?_
          refine W_r rfl rfl (VR_ldA rfl l8_53 (hS50.obj 1 rfl hc39_50) Tryd.underlying24 rfl (by kernel_rfl)) ?_
          refine W_v rfl rfl (V_mov rfl (es rfl l6_53)) ?_
          refine W_v rfl rfl (V_rem rfl (et rfl) rfl (by omega) (by omega) (wrap_i64 (by omega) (by omega))) ?_
          refine W_v rfl rfl (V_mov rfl (es rfl (es rfl (es rfl l9_53)))) ?_
          refine W_call rfl rfl rfl Tryd.func27 (by kernel_rfl) rfl (args3 (es rfl (es rfl (es rfl (et rfl)))) (es rfl (et rfl)) (et rfl)) ((ap_lift (xl := lk) (xy := yk) hg1 (by omega) (by omega) (lift2 (rAppend_c (n := ((n : Int) % 2)) (c := (lk.headD 0)) ((hS50.chC 2 rfl hct_50).fst).ints ((hS50.chC 2 rfl hct_50).snd).ints (by first | omega | (simp; done) | (simp; omega)) (by first | omega | (simp; done) | (simp; omega)))))) ?_
          rintro _ w70 ⟨v1_70, v2_70, rfl, hP70⟩
          refine ⟨_, rfl, ?_⟩
          obtain ⟨ct_70, hct_70, hP70⟩ := gen1 hP70
          have hS70 := hS50.join hP70
          replace hS70 : St wb30 Xb30 [ct_70, c_50, c39_50, ct_50, c2_50] w70 := hS70
          refine W_v rfl rfl (V_mov rfl (et rfl)) ?_
          refine W_v rfl rfl (V_ext (v := .agg #[v1_70, v2_70]) rfl (et rfl) rfl) ?_
          refine W_v rfl rfl (V_ext (v := .int .i64 (0)) rfl (es rfl (et rfl)) rfl) ?_
          refine W_allocS (z := .agg #[.slice none 0 0, .slice none 0 0]) (zs := #[.slice none 0 0, .slice none 0 0]) hS70 rfl rfl rfl (by kernel_rfl) (by rfl) (fun g71 w71 c71 hc71 hS71 => ?_)
          replace hS71 : St wb30 Xb30 [c71, ct_70, c_50, c39_50, ct_50, c2_50] w71 := hS71
          refine W_stAS 0 hS71 rfl hc71 rfl rfl rfl (et rfl) (es rfl (es rfl (et rfl))) (by simp only [List.all_toArray, List.all_cons, List.all_nil, SlN_one (sl_SlN (at_fst (hS71.chq 1 rfl hct_70))), SlN_one (sl_SlN (at_snd (hS71.chq 1 rfl hct_70)))] <;> rfl) (by rfl) (by kernel_rfl) (fun w72 c72 hc72 hS72 => ?_)
          replace hS72 : St wb30 Xb30 [c72, ct_70, c_50, c39_50, ct_50, c2_50] w72 := hS72
          refine W_v rfl rfl (V_asg rfl (es rfl (et rfl))) ?_
          refine W_end ?_
          refine gen_Q (fun A73 hA73 => ?_)
          have hsz73 : SzN A73 179 := by rw [hA73]; infer_instance
          have hdf73 : A73.defers = [] := by rw [hA73]; simp only [df_put]; exact hdf53
          have l2_73 := lookE hA73 2 (es rfl (es rfl (es rfl (es rfl (es rfl (es rfl (es rfl (es rfl (es rfl (es rfl l2_53))))))))))
          have l5_73 := lookE hA73 5 (es rfl (es rfl (es rfl (es rfl (es rfl (es rfl (es rfl (es rfl (es rfl (es rfl l5_53))))))))))
          have l6_73 := lookE hA73 6 (es rfl (es rfl (es rfl (es rfl (es rfl (es rfl (es rfl (es rfl (es rfl (es rfl l6_53))))))))))
          have l8_73 := lookE hA73 8 (es rfl (es rfl (es rfl (es rfl (es rfl (es rfl (es rfl (es rfl (es rfl (es rfl l8_53))))))))))
          have l18_73 := lookE hA73 18 (es rfl (et rfl))
          have l19_73 := lookE hA73 19 (et rfl)
          have l77_73 := lookE hA73 77 (es rfl (es rfl (es rfl (es rfl (es rfl (es rfl (es rfl (es rfl (es rfl (es rfl l77_53))))))))))
          have l78_73 := lookE hA73 78 (es rfl (es rfl (es rfl (es rfl (es rfl (es rfl (es rfl (es rfl (es rfl (es rfl l78_53))))))))))
          have l79_73 := lookE hA73 79 (es rfl (es rfl (es rfl (es rfl (es rfl (es rfl (es rfl (es rfl (es rfl (es rfl l79_53))))))))))
          clear hA73 hsz53 hdf53 l2_53 l5_53 l6_53 l8_53 l9_53 l11_53 l13_53 l77_53 l78_53 l79_53 l89_53
          have hS74 : St wb30 Xb30 [c72, ct_70, c39_50, ct_50, c2_50] w72 := hS72.sel [0, 1, 3, 4, 5] (by decide) rfl
          refine then_n (hK69 _ _ ?_)
          clear hK69
          refine wp_seq_k (fun K75 hK75 => ?_)
          -- region 21
          refine region_in ?_
          refine W_r rfl rfl (VR_ldA rfl l8_73 (hS74.obj 2 rfl hc39_50) Tryd.underlying24 rfl (by kernel_rfl)) ?_
          refine W_v rfl rfl (V_mov rfl (es rfl l5_73)) ?_
          refine W_call rfl rfl rfl Tryd.func18 (by kernel_rfl) rfl (args2 (es rfl (et rfl)) (et rfl)) (kWt_c (c := y20) ((hS74.chC 3 rfl hct_50).fst) ((hS74.chC 3 rfl hct_50).snd) (hS74.roC hG0_30) ) ?_
          rintro _ w76 ⟨rfl, hP76⟩
          refine ⟨_, rfl, ?_⟩
          have hS76 := hS74.join hP76
          replace hS76 : St wb30 Xb30 [c72, ct_70, c39_50, ct_50, c2_50] w76 := hS76
          refine W_v rfl rfl (V_mov rfl (et rfl)) ?_
          refine W_v rfl rfl (V_ext (v := .int .i64 ((plN (lk.drop 1) yk y20))) rfl (et rfl) rfl) ?_
          refine W_v rfl rfl (V_ext (v := .int .i64 ((plE (lk.drop 1) yk y20))) rfl (es rfl (et rfl)) rfl) ?_
          refine W_v rfl rfl (V_asg rfl (es rfl (et rfl))) ?_
          refine W_v rfl rfl (V_asg rfl (es rfl (et rfl))) ?_
          refine W_end ?_
          refine gen_Q (fun A77 hA77 => ?_)
          have hsz77 : SzN A77 179 := by rw [hA77]; infer_instance
          have hdf77 : A77.defers = [] := by rw [hA77]; simp only [df_put]; exact hdf73
          have l2_77 := lookE hA77 2 (es rfl (es rfl (es rfl (es rfl (es rfl (es rfl (es rfl (es rfl l2_73))))))))
          have l5_77 := lookE hA77 5 (es rfl (es rfl (es rfl (es rfl (es rfl (es rfl (es rfl (es rfl l5_73))))))))
          have l6_77 := lookE hA77 6 (es rfl (es rfl (es rfl (es rfl (es rfl (es rfl (es rfl (es rfl l6_73))))))))
          have l18_77 := lookE hA77 18 (es rfl (es rfl (es rfl (es rfl (es rfl (es rfl (es rfl (es rfl l18_73))))))))
          have l19_77 := lookE hA77 19 (es rfl (es rfl (es rfl (es rfl (es rfl (es rfl (es rfl (es rfl l19_73))))))))
          have l20_77 := lookE hA77 20 (es rfl (et rfl))
          have l21_77 := lookE hA77 21 (et rfl)
          have l77_77 := lookE hA77 77 (es rfl (es rfl (es rfl (es rfl (es rfl (es rfl (es rfl (es rfl l77_73))))))))
          have l78_77 := lookE hA77 78 (es rfl (es rfl (es rfl (es rfl (es rfl (es rfl (es rfl (es rfl l78_73))))))))
          have l79_77 := lookE hA77 79 (es rfl (es rfl (es rfl (es rfl (es rfl (es rfl (es rfl (es rfl l79_73))))))))
          clear hA77 hsz73 hdf73 l2_73 l5_73 l6_73 l8_73 l18_73 l19_73 l77_73 l78_73 l79_73
          have hS78 : St wb30 Xb30 [c72, ct_70, c2_50] w76 := hS76.sel [0, 1, 4] (by decide) rfl
          refine then_n (hK75 _ _ ?_)
          clear hK75
          refine wp_seq_k (fun K79 hK79 => ?_)
          -- region 22
          refine region_in ?_
          refine W_r rfl rfl (VR_ldA rfl l18_77 (hS78.obj 0 rfl hc72) Tryd.underlying24 rfl (by kernel_rfl)) ?_
          refine W_v rfl rfl (V_mov rfl (es rfl l5_77)) ?_
          refine W_call rfl rfl rfl Tryd.func18 (by kernel_rfl) rfl (args2 (es rfl (et rfl)) (et rfl)) (kWt_c (c := y20) ((hS78.chC 1 rfl hct_70).fst) ((hS78.chC 1 rfl hct_70).snd) (hS78.roC hG0_30) ) ?_
          rintro _ w80 ⟨rfl, hP80⟩
          refine ⟨_, rfl, ?_⟩
          have hS80 := hS78.join hP80
          replace hS80 : St wb30 Xb30 [c72, ct_70, c2_50] w80 := hS80
          refine W_v rfl rfl (V_mov rfl (et rfl)) ?_
          refine W_v rfl rfl (V_ext (v := .int .i64 ((plN (apL (lk.drop 1) (lk.headD 0) ((n : Int) % 2)) (apY yk (lk.headD 0) ((n : Int) % 2)) y20))) rfl (et rfl) rfl) ?_
          refine W_v rfl rfl (V_ext (v := .int .i64 ((plE (apL (lk.drop 1) (lk.headD 0) ((n : Int) % 2)) (apY yk (lk.headD 0) ((n : Int) % 2)) y20))) rfl (es rfl (et rfl)) rfl) ?_
          refine W_v rfl rfl (V_asg rfl (es rfl (et rfl))) ?_
          refine W_v rfl rfl (V_asg rfl (es rfl (et rfl))) ?_
          refine W_end ?_
          refine gen_Q (fun A81 hA81 => ?_)
          have hsz81 : SzN A81 179 := by rw [hA81]; infer_instance
          have hdf81 : A81.defers = [] := by rw [hA81]; simp only [df_put]; exact hdf77
          have l2_81 := lookE hA81 2 (es rfl (es rfl (es rfl (es rfl (es rfl (es rfl (es rfl (es rfl l2_77))))))))
          have l5_81 := lookE hA81 5 (es rfl (es rfl (es rfl (es rfl (es rfl (es rfl (es rfl (es rfl l5_77))))))))
          have l6_81 := lookE hA81 6 (es rfl (es rfl (es rfl (es rfl (es rfl (es rfl (es rfl (es rfl l6_77))))))))
          have l18_81 := lookE hA81 18 (es rfl (es rfl (es rfl (es rfl (es rfl (es rfl (es rfl (es rfl l18_77))))))))
          have l19_81 := lookE hA81 19 (es rfl (es rfl (es rfl (es rfl (es rfl (es rfl (es rfl (es rfl l19_77))))))))
          have l20_81 := lookE hA81 20 (es rfl (es rfl (es rfl (es rfl (es rfl (es rfl (es rfl (es rfl l20_77))))))))
          have l21_81 := lookE hA81 21 (es rfl (es rfl (es rfl (es rfl (es rfl (es rfl (es rfl (es rfl l21_77))))))))
          have l22_81 := lookE hA81 22 (es rfl (et rfl))
          have l23_81 := lookE hA81 23 (et rfl)
          have l77_81 := lookE hA81 77 (es rfl (es rfl (es rfl (es rfl (es rfl (es rfl (es rfl (es rfl l77_77))))))))
          have l78_81 := lookE hA81 78 (es rfl (es rfl (es rfl (es rfl (es rfl (es rfl (es rfl (es rfl l78_77))))))))
          have l79_81 := lookE hA81 79 (es rfl (es rfl (es rfl (es rfl (es rfl (es rfl (es rfl (es rfl l79_77))))))))
          clear hA81 hsz77 hdf77 l2_77 l5_77 l6_77 l18_77 l19_77 l20_77 l21_77 l77_77 l78_77 l79_77
          refine then_n (hK79 _ _ ?_)
          clear hK79
          refine wp_seq_k (fun K82 hK82 => ?_)
          refine wp_seq_k (fun K83 hK83 => ?_)
          -- region 23
          refine region_in ?_
          refine W_v rfl rfl (V_mov rfl l19_81) ?_
          refine W_v rfl rfl (V_neq rfl (et rfl) rfl) ?_
          refine W_sure (c' := false) rfl rfl (V_mov rfl (et rfl)) (by decide) ?_
          refine W_v rfl (wanted_t rfl rfl (et rfl) (ez rfl)) (V_mov rfl (es rfl (es rfl (es rfl l21_81)))) ?_
          refine W_v rfl (wanted_t rfl rfl (es rfl (et rfl)) (ez rfl)) (V_neq rfl (et rfl) rfl) ?_
          refine W_v rfl rfl (V_pickF rfl (es rfl (es rfl (et rfl))) (et rfl)) ?_
          refine W_sure (c' := false) rfl rfl (V_mov rfl (et rfl)) (by rw [decide_eq_false_iff_not]; rw [(lo_at hgt (tk_car hcar (by omega))).1]; simp) ?_
          refine W_v rfl (wanted_t rfl rfl (et rfl) (ez rfl)) (V_mov rfl (es rfl (es rfl (es rfl (es rfl (es rfl (es rfl (es rfl l23_81)))))))) ?_
          refine W_v rfl (wanted_t rfl rfl (es rfl (et rfl)) (ez rfl)) (V_neq rfl (et rfl) rfl) ?_
          refine W_v rfl rfl (V_pickF rfl (es rfl (es rfl (et rfl))) (et rfl)) ?_
          refine W_sure (c' := false) rfl rfl (V_mov rfl (et rfl)) (by rw [decide_eq_false_iff_not]; rw [(lo_at (ap_good hg1 (by omega)) (ap_car (tk_car hcar (by omega)))).1]; simp) ?_
          refine W_v rfl (wanted_t rfl rfl (et rfl) (ez rfl)) (V_mov rfl (es rfl (es rfl (es rfl (es rfl (es rfl (es rfl (es rfl (es rfl (es rfl (es rfl (es rfl l20_81)))))))))))) ?_
          refine W_v rfl (wanted_t rfl rfl (es rfl (et rfl)) (ez rfl)) (V_mov rfl (es rfl (es rfl (es rfl (es rfl (es rfl (es rfl (es rfl (es rfl (es rfl (es rfl (es rfl (es rfl l22_81))))))))))))) ?_
          refine W_v rfl (wanted_t rfl rfl (es rfl (es rfl (et rfl))) (ez rfl)) (V_neq rfl (es rfl (et rfl)) (et rfl)) ?_
          refine W_v rfl rfl (V_pickF rfl (es rfl (es rfl (es rfl (et rfl)))) (et rfl)) ?_
          refine W_sure (c' := false) rfl rfl (V_mov rfl (et rfl)) (by rw [decide_eq_false_iff_not]; rw [(lo_at (ap_good hg1 (by omega)) (ap_car (tk_car hcar (by omega)))).2, (lo_at hgt (tk_car hcar (by omega))).2]; simp) ?_
          refine W_v rfl (wanted_t rfl rfl (et rfl) (ez rfl)) (V_mov rfl (es rfl (es rfl (es rfl (es rfl (es rfl (es rfl (es rfl (es rfl (es rfl (es rfl (es rfl (es rfl (es rfl (es rfl (es rfl (es rfl l20_81))))))))))))))))) ?_
          refine W_v rfl (wanted_t rfl rfl (es rfl (et rfl)) (ez rfl)) (V_mov rfl (es rfl (es rfl (es rfl (es rfl (es rfl (es rfl (es rfl (es rfl (es rfl (es rfl (es rfl (es rfl (es rfl (es rfl (es rfl (es rfl (es rfl l6_81)))))))))))))))))) ?_
          refine W_v rfl (wanted_t rfl rfl (es rfl (es rfl (et rfl))) (ez rfl)) (V_sb rfl (et rfl) rfl (by omega) (by omega)) ?_
          refine W_v rfl (wanted_t rfl rfl (es rfl (es rfl (es rfl (et rfl)))) (ez rfl)) (V_neq rfl (es rfl (es rfl (et rfl))) (et rfl)) ?_
          refine W_v rfl rfl (V_pickF rfl (es rfl (es rfl (es rfl (es rfl (et rfl))))) (et rfl)) ?_
          refine W_end ?_
          refine gen_Q (fun A84 hA84 => ?_)
          have hsz84 : SzN A84 179 := by rw [hA84]; infer_instance
          have hdf84 : A84.defers = [] := by rw [hA84]; simp only [df_put]; exact hdf81
          have l2_84 := lookE hA84 2 (es rfl (es rfl (es rfl (es rfl (es rfl (es rfl (es rfl (es rfl (es rfl (es rfl (es rfl (es rfl (es rfl (es rfl (es rfl (es rfl (es rfl (es rfl (es rfl (es rfl (es rfl l2_81)))))))))))))))))))))
          have l5_84 := lookE hA84 5 (es rfl (es rfl (es rfl (es rfl (es rfl (es rfl (es rfl (es rfl (es rfl (es rfl (es rfl (es rfl (es rfl (es rfl (es rfl (es rfl (es rfl (es rfl (es rfl (es rfl (es rfl l5_81)))))))))))))))))))))
          have l6_84 := lookE hA84 6 (es rfl (es rfl (es rfl (es rfl (es rfl (es rfl (es rfl (es rfl (es rfl (es rfl (es rfl (es rfl (es rfl (es rfl (es rfl (es rfl (es rfl (es rfl (es rfl (es rfl (es rfl l6_81)))))))))))))))))))))
          have l18_84 := lookE hA84 18 (es rfl (es rfl (es rfl (es rfl (es rfl (es rfl (es rfl (es rfl (es rfl (es rfl (es rfl (es rfl (es rfl (es rfl (es rfl (es rfl (es rfl (es rfl (es rfl (es rfl (es rfl l18_81)))))))))))))))))))))
          have l77_84 := lookE hA84 77 (es rfl (es rfl (es rfl (es rfl (es rfl (es rfl (es rfl (es rfl (es rfl (es rfl (es rfl (es rfl (es rfl (es rfl (es rfl (es rfl (es rfl (es rfl (es rfl (es rfl (es rfl l77_81)))))))))))))))))))))
          have l78_84 := lookE hA84 78 (es rfl (es rfl (es rfl (es rfl (es rfl (es rfl (es rfl (es rfl (es rfl (es rfl (es rfl (es rfl (es rfl (es rfl (es rfl (es rfl (es rfl (es rfl (es rfl (es rfl (es rfl l78_81)))))))))))))))))))))
          have l79_84 := lookE hA84 79 (es rfl (es rfl (es rfl (es rfl (es rfl (es rfl (es rfl (es rfl (es rfl (es rfl (es rfl (es rfl (es rfl (es rfl (es rfl (es rfl (es rfl (es rfl (es rfl (es rfl (es rfl l79_81)))))))))))))))))))))
          have l145_84 := lookE hA84 145 (es rfl (es rfl (es rfl (es rfl (es rfl (es rfl (es rfl (es rfl (es rfl (es rfl (es rfl (es rfl (es rfl (es rfl (es rfl (es rfl (es rfl (et rfl))))))))))))))))))
          have l146_84 := lookE hA84 146 (es rfl (es rfl (es rfl (es rfl (es rfl (es rfl (es rfl (es rfl (es rfl (es rfl (es rfl (es rfl (es rfl (es rfl (es rfl (es rfl (et rfl)))))))))))))))))
          have l149_84 := lookE hA84 149 (es rfl (es rfl (es rfl (es rfl (es rfl (es rfl (es rfl (es rfl (es rfl (es rfl (es rfl (es rfl (es rfl (et rfl))))))))))))))
          have l150_84 := lookE hA84 150 (es rfl (es rfl (es rfl (es rfl (es rfl (es rfl (es rfl (es rfl (es rfl (es rfl (es rfl (es rfl (et rfl)))))))))))))
          have l153_84 := lookE hA84 153 (es rfl (es rfl (es rfl (es rfl (es rfl (es rfl (es rfl (es rfl (es rfl (et rfl))))))))))
          have l154_84 := lookE hA84 154 (es rfl (es rfl (es rfl (es rfl (es rfl (es rfl (es rfl (es rfl (et rfl)))))))))
          have l155_84 := lookE hA84 155 (es rfl (es rfl (es rfl (es rfl (es rfl (es rfl (es rfl (et rfl))))))))
          have l158_84 := lookE hA84 158 (es rfl (es rfl (es rfl (es rfl (et rfl)))))
          have l159_84 := lookE hA84 159 (es rfl (es rfl (es rfl (et rfl))))
          have l160_84 := lookE hA84 160 (es rfl (es rfl (et rfl)))
          have l161_84 := lookE hA84 161 (es rfl (et rfl))
          have l162_84 := lookE hA84 162 (et rfl)
          clear hA84 hsz81 hdf81 l2_81 l5_81 l6_81 l18_81 l19_81 l20_81 l21_81 l22_81 l23_81 l77_81 l78_81 l79_81
          refine then_n (hK83 _ _ ?_)
          clear hK83
          refine cond_not l162_84 (by rw [decide_eq_false_iff_not]; rw [(lo_at hgt (tk_car hcar (by omega))).2]; omega) ?_
          refine wp_skip ?_
          refine then_n (hK82 _ _ ?_)
          clear hK82
          -- region 25
          refine region_in ?_
          refine W_r rfl rfl (VR_ldA rfl l18_84 (hS80.obj 0 rfl hc72) Tryd.underlying24 rfl (by kernel_rfl)) ?_
          refine W_stAS 2 hS80 rfl hc2_50 rfl rfl rfl (es rfl l2_84) (et rfl) (by simp only [List.all_toArray, List.all_cons, List.all_nil, SlN_one (sl_SlN (at_fst (hS80.chq 1 rfl hct_70))), SlN_one (sl_SlN (at_snd (hS80.chq 1 rfl hct_70)))] <;> rfl) (by rfl) (by kernel_rfl) (fun w85 c85 hc85 hS85 => ?_)
          replace hS85 : St wb30 Xb30 [c72, ct_70, c85] w85 := hS85
          refine W_end ?_
          refine gen_Q (fun A86 hA86 => ?_)
          have hsz86 : SzN A86 179 := by rw [hA86]; infer_instance
          have hdf86 : A86.defers = [] := by rw [hA86]; simp only [df_put]; exact hdf84
          have l2_86 := lookE hA86 2 (es rfl l2_84)
          have l5_86 := lookE hA86 5 (es rfl l5_84)
          have l6_86 := lookE hA86 6 (es rfl l6_84)
          have l77_86 := lookE hA86 77 (es rfl l77_84)
          have l78_86 := lookE hA86 78 (es rfl l78_84)
          have l79_86 := lookE hA86 79 (es rfl l79_84)
          have l145_86 := lookE hA86 145 (es rfl l145_84)
          have l146_86 := lookE hA86 146 (es rfl l146_84)
          have l149_86 := lookE hA86 149 (es rfl l149_84)
          have l150_86 := lookE hA86 150 (es rfl l150_84)
          have l153_86 := lookE hA86 153 (es rfl l153_84)
          have l154_86 := lookE hA86 154 (es rfl l154_84)
          have l155_86 := lookE hA86 155 (es rfl l155_84)
          have l158_86 := lookE hA86 158 (es rfl l158_84)
          have l159_86 := lookE hA86 159 (es rfl l159_84)
          have l160_86 := lookE hA86 160 (es rfl l160_84)
          have l161_86 := lookE hA86 161 (es rfl l161_84)
          clear hA86 hsz84 hdf84 l2_84 l5_84 l6_84 l18_84 l77_84 l78_84 l79_84 l145_84 l146_84 l149_84 l150_84 l153_84 l154_84 l155_84 l158_84 l159_84 l160_84 l161_84 l162_84
          have hS87 : St wb30 Xb30 [ct_70, c85] w85 := hS85.sel [1, 2] (by decide) rfl
          refine inb_n ?_
          refine then_n (hK35 _ _ ?_)
          clear hK35
          -- region 8
          refine region_in ?_
          refine W_v rfl rfl (V_mov rfl l6_86) ?_
          refine W_v rfl rfl (V_sb rfl (et rfl) rfl (by omega) (by omega)) ?_
          refine W_v rfl rfl (V_asg rfl (et rfl)) ?_
          refine W_end ?_
          refine gen_Q (fun A88 hA88 => ?_)
          have hsz88 : SzN A88 179 := by rw [hA88]; infer_instance
          have hdf88 : A88.defers = [] := by rw [hA88]; simp only [df_put]; exact hdf86
          have l2_88 := lookE hA88 2 (es rfl (es rfl (es rfl l2_86)))
          have l5_88 := lookE hA88 5 (es rfl (es rfl (es rfl l5_86)))
          have l6_88 := lookE hA88 6 (et rfl)
          have l77_88 := lookE hA88 77 (es rfl (es rfl (es rfl l77_86)))
          have l78_88 := lookE hA88 78 (es rfl (es rfl (es rfl l78_86)))
          have l79_88 := lookE hA88 79 (es rfl (es rfl (es rfl l79_86)))
          have l145_88 := lookE hA88 145 (es rfl (es rfl (es rfl l145_86)))
          have l146_88 := lookE hA88 146 (es rfl (es rfl (es rfl l146_86)))
          have l149_88 := lookE hA88 149 (es rfl (es rfl (es rfl l149_86)))
          have l150_88 := lookE hA88 150 (es rfl (es rfl (es rfl l150_86)))
          have l153_88 := lookE hA88 153 (es rfl (es rfl (es rfl l153_86)))
          have l154_88 := lookE hA88 154 (es rfl (es rfl (es rfl l154_86)))
          have l155_88 := lookE hA88 155 (es rfl (es rfl (es rfl l155_86)))
          have l158_88 := lookE hA88 158 (es rfl (es rfl (es rfl l158_86)))
          have l159_88 := lookE hA88 159 (es rfl (es rfl (es rfl l159_86)))
          have l160_88 := lookE hA88 160 (es rfl (es rfl (es rfl l160_86)))
          have l161_88 := lookE hA88 161 (es rfl (es rfl (es rfl l161_86)))
          clear hA88 hsz86 hdf86 l2_86 l5_86 l6_86 l77_86 l78_86 l79_86 l145_86 l146_86 l149_86 l150_86 l153_86 l154_86 l155_86 l158_86 l159_86 l160_86 l161_86
          have hS89 : St wb30 Xb30 [c85, ct_70] w85 := hS87.sel [1, 0] (by decide) rfl
          obtain ⟨Y90, hS90, hY90, hF90, hB90⟩ := St.call (pre := [c85]) (fr := [ct_70]) hS89
          refine then_n ⟨(n - 1), by simp only [hm30]; omega, hsz88, hdf88, w85, Y90, (n - 1), (apL (lk.drop 1) (lk.headD 0) ((n : Int) % 2)), (apY yk (lk.headD 0) ((n : Int) % 2)), v1_70, v2_70, (fun _ _ h => back30 _ _ (hB90 _ _ h).left), (hY90 _ h_lv_30), (hY90 _ h_yv_30), (hY90 _ hG0_30), (hct_70 ▸ hF90 0 _ rfl).fst, (hct_70 ▸ hF90 0 _ rfl).snd, rfl, (ap_good hg1 (by omega)), (ap_car (tk_car hcar (by omega))), ((l6_88).trans (by first | rfl | (simp; done) | (congr 1; omega))), ((l2_88).trans l2_28.symm), ((l5_88).trans l5_28.symm), (by subst hc85; exact hS90)⟩
      · skip
        have hlk := good_len ((chk_iff lk yk).1 hg1)
        obtain ⟨hlk1, hlk2⟩ := hlk
        have hk0 := (List.getElem?_eq_some_iff.1 hcar).1
        refine wp_exit ?_
        refine then_exit ?_
        refine then_exit ?_
        refine inb_hit ?_
        refine then_n (hK29 _ _ ?_)
        clear hK29
        refine wp_seq_k (fun K91 hK91 => ?_)
        -- region 26
        refine region_in ?_
        refine W_r rfl rfl (VR_ldA rfl l2_33 (hS30.obj 0 rfl hc2_30) Tryd.underlying24 rfl (by kernel_rfl)) ?_
        refine W_call rfl rfl rfl Tryd.func28 (by kernel_rfl) rfl (args1 (et rfl)) (lift0 (rFirst_c (hS30.roC r1).ints (hS30.roC r2).ints (by first | omega | (simp; done) | (simp; omega)) (by first | omega | (simp; done) | (simp; omega)))) ?_
        rintro _ w92 ⟨rfl, hP92⟩
        refine ⟨_, rfl, ?_⟩
        have hS92 := hS30.join hP92
        replace hS92 : St wb30 Xb30 [c2_30] w92 := hS92
        refine W_v rfl rfl (V_mov rfl (et rfl)) ?_
        refine W_v rfl rfl (V_ext (v := .int .i64 ((takeS lk yk).car)) rfl (et rfl) rfl) ?_
        refine W_v rfl rfl (V_ext (v := .int .i64 ((takeS lk yk).e)) rfl (es rfl (et rfl)) rfl) ?_
        refine W_v rfl rfl (V_asg rfl (es rfl (et rfl))) ?_
        refine W_v rfl rfl (V_asg rfl (es rfl (et rfl))) ?_
        refine W_end ?_
        refine gen_Q (fun A93 hA93 => ?_)
        have hsz93 : SzN A93 179 := by rw [hA93]; infer_instance
        have hdf93 : A93.defers = [] := by rw [hA93]; simp only [df_put]; exact hdf33
        have l5_93 := lookE hA93 5 (es rfl (es rfl (es rfl (es rfl (es rfl (es rfl (es rfl l5_33)))))))
        have l24_93 := lookE hA93 24 (es rfl (et rfl))
        have l25_93 := lookE hA93 25 (et rfl)
        clear hA93 hsz33 hdf33 l2_33 l5_33 l6_33 l65_33
        have hS94 : St wb30 Xb30 [] w92 := hS92.sel [] (by decide) rfl
        refine then_n (hK91 _ _ ?_)
        clear hK91
        refine wp_seq_k (fun K95 hK95 => ?_)
        -- region 27
        refine region_in ?_
        refine W_v rfl rfl (V_mov rfl l25_93) ?_
        refine W_v rfl rfl (V_eql rfl (et rfl) rfl) ?_
        refine W_sure (c' := true) rfl rfl (V_mov rfl (et rfl)) (by rw [decide_eq_true_eq]; rw [tk_is hg1 (by omega)]) ?_
        refine W_v rfl (wanted_t rfl rfl (et rfl) (ez rfl)) (V_mov rfl (es rfl (es rfl (es rfl l24_93)))) ?_
        refine W_v rfl (wanted_t rfl rfl (es rfl (et rfl)) (ez rfl)) (V_mov rfl (es rfl (es rfl (es rfl (es rfl l5_93))))) ?_
        refine W_v rfl (wanted_t rfl rfl (es rfl (es rfl (et rfl))) (ez rfl)) (V_eql rfl (es rfl (et rfl)) (et rfl)) ?_
        refine W_v rfl rfl (V_pickT rfl (es rfl (es rfl (es rfl (et rfl)))) (et rfl)) ?_
        refine W_sure (c' := true) rfl rfl (V_mov rfl (et rfl)) (by rw [decide_eq_true_eq]; rw [tk_is hg1 (by omega)]; exact tk_hd hcar (by omega)) ?_
        refine W_call rfl (wanted_t rfl rfl (et rfl) (ez rfl)) rfl Tryd.func12 (by kernel_rfl) rfl (args0) (awk_c (hS94.roC hG0_30) ) ?_
        rintro _ w96 ⟨rfl, hP96⟩
        refine ⟨_, rfl, ?_⟩
        have hS96 := hS94.join hP96
        replace hS96 : St wb30 Xb30 [] w96 := hS96
        refine W_v rfl rfl (V_pickT rfl (es rfl (et rfl)) (et rfl)) ?_
        refine W_v rfl rfl (V_asg rfl (et rfl)) ?_
        refine W_end ?_
        refine gen_Q (fun A97 hA97 => ?_)
        have hsz97 : SzN A97 179 := by rw [hA97]; infer_instance
        have hdf97 : A97.defers = [] := by rw [hA97]; simp only [df_put]; exact hdf93
        have l4_97 := lookE hA97 4 (et rfl)
        clear hA97 hsz93 hdf93 l5_93 l24_93 l25_93
        refine then_n (hK95 _ _ ?_)
        clear hK95
        refine wp_ret ?_
        refine ret_in (results_1 Tryd.results5 (rv_tmp l4_97)) hdf97 ?_
        -- leaf FFF
        exact ⟨rfl, (back30 _ _ hS96.fin0)⟩

end Go.Proofs.YtodbfgfbkgpooaaDoor