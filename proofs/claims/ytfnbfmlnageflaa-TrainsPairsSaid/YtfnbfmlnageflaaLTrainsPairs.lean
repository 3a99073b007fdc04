import Derived.Test.YtfnbfmlnageflaaRg2
import Derived.Test.YtfnbfmlnageflaaPl11
namespace Go.Proofs.Ytfnbfmlnageflaa
open Go.RowKit Go.Own


set_option maxHeartbeats 4000000 in
theorem TrainsPairs_c {lv : Value} {lo : List Int} {yv : Value} {yo : List Int} {bf : Bool} {w : World} (h_lv : Ints w lv lo) (h_yv : Ints w yv yo)  :
    Calls Try.prog 7 #[.agg #[lv, yv], .bool bf] w fun e w' => e = .returned (.bool true) ∧ Ext w w' := by
  refine calls_in 135 Try.func7 rfl rfl (by simp) (fun A0 hsz0 hdf0 hargs => ?_)
  have l0_0 := hargs 0 (.agg #[lv, yv]) rfl
  have l1_0 := hargs 1 (.bool bf) rfl
  clear hargs
  have hE0 := Ext.rfl' w
  refine wp_seq_k (fun K1 hK1 => ?_)
  -- region 0
  refine region_in ?_
  refine W_box (cs := #[lv, yv]) rfl rfl rfl l0_0 rfl (fun g2 w2 hg2 hx2 b2 => ?_)
  have oB_2 : w.heap.size ≤ g2 := hg2 ▸ hE0.size
  have hE3 := Ext.tr hE0 hx2
  refine W_v rfl rfl (V_asg rfl rfl) ?_
  refine W_end ?_
  refine gen_Q (fun A4 hA4 => ?_)
  have hsz4 : A4.tmps.size = 135 := by rw [hA4]; simp only [sz_put]; exact hsz0
  have hdf4 : A4.defers = [] := by rw [hA4]; simp only [df_put]; exact hdf0
  have l1_4 := lookE hA4 1 (ev_step (ev_step l1_0 rfl) rfl)
  have l2_4 := lookE hA4 2 (ev_step (ev_top (lt_sz hsz0 rfl)) rfl)
  clear hA4 hsz0 hdf0 l0_0 l1_0
  refine then_n (hK1 _ _ ?_)
  clear hK1
  refine wp_seq_k (fun K5 hK5 => ?_)
  -- region 1
  refine region_in ?_
  refine W_r rfl rfl (VR_ldA rfl l2_4 b2 Try.underlying24 rfl (by kernel_rfl)) ?_
  refine W_call rfl rfl rfl Try.func24 (by kernel_rfl) rfl (args1 (ev_top (lt_sz hsz4 rfl))) (Check_c (h_lv.ext hE3) (h_yv.ext hE3) ) ?_
  rintro _ w6 ⟨rfl, hx6⟩
  refine ⟨_, rfl, ?_⟩
  have hb7 := hE3.size
  have hE8 := Ext.tr hE3 hx6
  replace b2 := heap_ext hx6 b2
  refine W_v rfl rfl (V_mov rfl (ev_top (lt_put (lt_sz hsz4 rfl)))) ?_
  refine W_v rfl rfl (V_ext rfl (ev_top (lt_put (lt_put (lt_sz hsz4 rfl)))) rfl) ?_
  refine W_v rfl rfl (V_ext rfl (ev_step (ev_top (lt_put (lt_put (lt_sz hsz4 rfl)))) rfl) rfl) ?_
  refine W_v rfl rfl (V_ext rfl (ev_step (ev_step (ev_top (lt_put (lt_put (lt_sz hsz4 rfl)))) rfl) rfl) rfl) ?_
  refine W_v rfl rfl (V_asg rfl (ev_step (ev_step (ev_top (lt_put (lt_put (lt_put (lt_sz hsz4 rfl))))) rfl) rfl)) ?_
  refine W_v rfl rfl (V_asg rfl (ev_step (ev_step (ev_top (lt_put (lt_put (lt_put (lt_put (lt_sz hsz4 rfl)))))) rfl) rfl)) ?_
  refine W_v rfl rfl (V_asg rfl (ev_step (ev_step (ev_top (lt_put (lt_put (lt_put (lt_put (lt_put (lt_sz hsz4 rfl))))))) rfl) rfl)) ?_
  refine W_end ?_
  refine gen_Q (fun A9 hA9 => ?_)
  have hsz9 : A9.tmps.size = 135 := by rw [hA9]; simp only [sz_put]; exact hsz4
  have hdf9 : A9.defers = [] := by rw [hA9]; simp only [df_put]; exact hdf4
  have l1_9 := lookE hA9 1 (ev_step (ev_step (ev_step (ev_step (ev_step (ev_step (ev_step (ev_step (ev_step l1_4 rfl) rfl) rfl) rfl) rfl) rfl) rfl) rfl) rfl)
  have l2_9 := lookE hA9 2 (ev_step (ev_step (ev_step (ev_step (ev_step (ev_step (ev_step (ev_step (ev_step l2_4 rfl) rfl) rfl) rfl) rfl) rfl) rfl) rfl) rfl)
  have l7_9 := lookE hA9 7 (ev_top (lt_put (lt_put (lt_put (lt_put (lt_put (lt_put (lt_put (lt_put (lt_sz hsz4 rfl))))))))))
  clear hA9 hsz4 hdf4 l1_4 l2_4
  refine then_n (hK5 _ _ ?_)
  clear hK5
  refine wp_seq_k (fun K10 hK10 => ?_)
  refine wp_seq_k (fun K11 hK11 => ?_)
  -- region 2
  refine region_in ?_
  refine W_r rfl rfl (VR_ldA rfl l2_9 b2 Try.underlying24 rfl (by kernel_rfl)) ?_
  refine W_call rfl rfl rfl Try.func11 (by kernel_rfl) rfl (args1 (ev_top (lt_sz hsz9 rfl))) (Far_c (h_lv.ext hE8) (h_yv.ext hE8) ) ?_
  rintro _ w12 ⟨rfl, hx12⟩
  refine ⟨_, rfl, ?_⟩
  have hb13 := hE8.size
  have hE14 := Ext.tr hE8 hx12
  replace b2 := heap_ext hx12 b2
  refine W_split rfl rfl (V_mov rfl (ev_top (lt_put (lt_sz hsz9 rfl)))) (fun c15 => ?_) (fun c15 => ?_)
  · skip
    refine W_off rfl (wanted_f rfl rfl (ev_top (lt_put (lt_put (lt_sz hsz9 rfl)))) (lt_put (lt_put (lt_put (lt_sz hsz9 rfl)))) rfl) ?_
    refine W_off rfl (wanted_f rfl rfl (ev_step (ev_top (lt_put (lt_put (lt_sz hsz9 rfl)))) rfl) (lt_put (lt_put (lt_put (lt_put (lt_sz hsz9 rfl))))) rfl) ?_
    refine W_v rfl rfl (V_pickT rfl (ev_step (ev_step (ev_top (lt_put (lt_put (lt_sz hsz9 rfl)))) rfl) rfl) rfl) ?_
    refine W_end ?_
    refine gen_Q (fun A16 hA16 => ?_)
    have hsz16 : A16.tmps.size = 135 := by rw [hA16]; simp only [sz_put]; exact hsz9
    have hdf16 : A16.defers = [] := by rw [hA16]; simp only [df_put]; exact hdf9
    have l1_16 := lookE hA16 1 (ev_step (ev_step (ev_step (ev_step (ev_step (ev_step l1_9 rfl) rfl) rfl) rfl) rfl) rfl)
    have l2_16 := lookE hA16 2 (ev_step (ev_step (ev_step (ev_step (ev_step (ev_step l2_9 rfl) rfl) rfl) rfl) rfl) rfl)
    have l38_16 := lookE hA16 38 (ev_top (lt_put (lt_put (lt_put (lt_put (lt_put (lt_sz hsz9 rfl)))))))
    clear hA16 hsz9 hdf9 l1_9 l2_9 l7_9
    refine then_n (hK11 _ _ ?_)
    clear hK11
    refine cond_t l38_16 ?_
    refine wp_seq_k (fun K17 hK17 => ?_)
    -- region 3
    refine region_in ?_
    refine W_call rfl rfl rfl Try.func12 (by kernel_rfl) rfl (args0) (awake_c  ) ?_
    rintro _ w18 ⟨rfl, hx18⟩
    refine ⟨_, rfl, ?_⟩
    have hb19 := hE14.size
    have hE20 := Ext.tr hE14 hx18
    replace b2 := heap_ext hx18 b2
    refine W_v rfl rfl (V_asg rfl (ev_top (lt_sz hsz16 rfl))) ?_
    refine W_end ?_
    refine gen_Q (fun A21 hA21 => ?_)
    have hsz21 : A21.tmps.size = 135 := by rw [hA21]; simp only [sz_put]; exact hsz16
    have hdf21 : A21.defers = [] := by rw [hA21]; simp only [df_put]; exact hdf16
    have l4_21 := lookE hA21 4 (ev_top (lt_put (lt_sz hsz16 rfl)))
    clear hA21 hsz16 hdf16 l1_16 l2_16 l38_16
    refine then_n (hK17 _ _ ?_)
    clear hK17
    refine wp_ret ?_
    refine then_ret ?_
    refine ret_in (results_1 Try.results7 (rv_tmp l4_21)) hdf21 ?_
    -- leaf T
    exact ⟨rfl, hE20⟩
  · skip
    refine W_v rfl (wanted_t rfl rfl (ev_top (lt_put (lt_put (lt_sz hsz9 rfl)))) (lt_put (lt_put (lt_put (lt_sz hsz9 rfl))))) (V_mov rfl (ev_step (ev_step (ev_step l7_9 rfl) rfl) rfl)) ?_
    refine W_v rfl (wanted_t rfl rfl (ev_step (ev_top (lt_put (lt_put (lt_sz hsz9 rfl)))) rfl) (lt_put (lt_put (lt_put (lt_put (lt_sz hsz9 rfl)))))) (V_neq rfl (ev_top (lt_put (lt_put (lt_put (lt_sz hsz9 rfl))))) rfl) ?_
    refine W_v rfl rfl (V_pickF rfl (ev_step (ev_step (ev_top (lt_put (lt_put (lt_sz hsz9 rfl)))) rfl) rfl) (ev_top (lt_put (lt_put (lt_put (lt_put (lt_sz hsz9 rfl))))))) ?_
    refine W_end ?_
    refine gen_Q (fun A22 hA22 => ?_)
    have hsz22 : A22.tmps.size = 135 := by rw [hA22]; simp only [sz_put]; exact hsz9
    have hdf22 : A22.defers = [] := by rw [hA22]; simp only [df_put]; exact hdf9
    have l1_22 := lookE hA22 1 (ev_step (ev_step (ev_step (ev_step (ev_step (ev_step l1_9 rfl) rfl) rfl) rfl) rfl) rfl)
    have l2_22 := lookE hA22 2 (ev_step (ev_step (ev_step (ev_step (ev_step (ev_step l2_9 rfl) rfl) rfl) rfl) rfl) rfl)
    have l38_22 := lookE hA22 38 (ev_top (lt_put (lt_put (lt_put (lt_put (lt_put (lt_sz hsz9 rfl)))))))
    clear hA22 hsz9 hdf9 l1_9 l2_9 l7_9
    refine then_n (hK11 _ _ ?_)
    clear hK11
    refine cond_dec l38_22 (fun c23 => ?_) (fun c23 => ?_)
    · skip
      refine wp_seq_k (fun K24 hK24 => ?_)
      -- region 3
      refine region_in ?_
      refine W_call rfl rfl rfl Try.func12 (by kernel_rfl) rfl (args0) (awake_c  ) ?_
      rintro _ w25 ⟨rfl, hx25⟩
      refine ⟨_, rfl, ?_⟩
      have hb26 := hE14.size
      have hE27 := Ext.tr hE14 hx25
      replace b2 := heap_ext hx25 b2
      refine W_v rfl rfl (V_asg rfl (ev_top (lt_sz hsz22 rfl))) ?_
      refine W_end ?_
      refine gen_Q (fun A28 hA28 => ?_)
      have hsz28 : A28.tmps.size = 135 := by rw [hA28]; simp only [sz_put]; exact hsz22
      have hdf28 : A28.defers = [] := by rw [hA28]; simp only [df_put]; exact hdf22
      have l4_28 := lookE hA28 4 (ev_top (lt_put (lt_sz hsz22 rfl)))
      clear hA28 hsz22 hdf22 l1_22 l2_22 l38_22
      refine then_n (hK24 _ _ ?_)
      clear hK24
      refine wp_ret ?_
      refine then_ret ?_
      refine ret_in (results_1 Try.results7 (rv_tmp l4_28)) hdf28 ?_
      -- leaf FT
      exact ⟨rfl, hE27⟩
    · skip
      have hgood : (chk lo yo).2.2 = 0 := by simpa using c23
      have hC := clearS_ok hgood
      have hCl : (clearS lo yo).lo.length = lo.length := by rw [hC]
      have hTL := takeS_lenL (yo := yo) (show lo.length ≤ 1000 by omega)
      have hTY := takeS_len (lo := lo) (show yo.length ≤ 1000 by omega)
      refine wp_skip ?_
      refine then_n (hK10 _ _ ?_)
      clear hK10
      refine wp_seq_k (fun K29 hK29 => ?_)
      -- region 4
      refine region_in ?_
      refine W_r rfl rfl (VR_ldA rfl l2_22 b2 Try.underlying24 rfl (by kernel_rfl)) ?_
      refine W_v rfl rfl (V_mov rfl (ev_step l1_22 rfl)) ?_
      refine W_call rfl rfl rfl Try.func26 (by kernel_rfl) rfl (args2 (ev_step (ev_top (lt_sz hsz22 rfl)) rfl) (ev_top (lt_put (lt_sz hsz22 rfl)))) (Relink_c (bf := bf) (h_lv.ext hE14) (h_yv.ext hE14) (by first | omega | (simp; omega)) (by first | omega | (simp; omega))) ?_
      rintro _ w30 ⟨v1_30, v2_30, rfl, f1_30, f2_30, hx30⟩
      refine ⟨_, rfl, ?_⟩
      have hb31 := hE14.size
      have hE32 := Ext.tr hE14 hx30
      replace b2 := heap_ext hx30 b2
      replace f1_30 := f1_30.base hb31
      replace f2_30 := f2_30.base hb31
      refine W_v rfl rfl (V_mov rfl (ev_top (lt_put (lt_put (lt_sz hsz22 rfl))))) ?_
      refine W_v rfl rfl (V_ext rfl (ev_top (lt_put (lt_put (lt_put (lt_sz hsz22 rfl))))) rfl) ?_
      refine W_v rfl rfl (V_ext rfl (ev_step (ev_top (lt_put (lt_put (lt_put (lt_sz hsz22 rfl))))) rfl) rfl) ?_
      refine W_v rfl rfl (V_ext rfl (ev_step (ev_step (ev_top (lt_put (lt_put (lt_put (lt_sz hsz22 rfl))))) rfl) rfl) rfl) ?_
      refine W_alloc (z := .agg #[.slice none 0 0, .slice none 0 0]) (cs := #[.slice none 0 0, .slice none 0 0]) rfl rfl rfl (by kernel_rfl) rfl (fun g33 w33 hg33 hx33 b33 => ?_)
      have o2_33 : g2 < g33 := hg33 ▸ lt_size b2
      have oB_33 : w.heap.size ≤ g33 := hg33 ▸ hE32.size
      have hE34 := Ext.tr hE32 hx33
      replace b2 := heap_ext hx33 b2
      replace f1_30 := f1_30.ext hx33
      replace f2_30 := f2_30.ext hx33
      refine W_stA rfl rfl rfl (ev_top (lt_put (lt_put (lt_put (lt_put (lt_put (lt_put (lt_put (lt_sz hsz22 rfl))))))))) (ev_step (ev_step (ev_step (ev_top (lt_put (lt_put (lt_put (lt_put (lt_sz hsz22 rfl)))))) rfl) rfl) rfl) (by simp only [List.all_toArray, List.all_cons, List.all_nil, one_ints f1_30.1, one_ints f2_30.1] <;> rfl) b33 (by rfl) (by kernel_rfl) (fun w35 ht35 hb35 => ?_)
      have hE36 := ext_tch hE34 ht35 oB_33
      replace f1_30 := f1_30.tch ht35 b33 rfl
      replace f2_30 := f2_30.tch ht35 b33 rfl
      replace b2 := box_tch b2 ht35 (Nat.ne_of_lt o2_33)
      replace b33 := hb35
      refine W_v rfl rfl (V_asg rfl (ev_step (ev_step (ev_top (lt_put (lt_put (lt_put (lt_put (lt_put (lt_sz hsz22 rfl))))))) rfl) rfl)) ?_
      refine W_v rfl rfl (V_asg rfl (ev_step (ev_step (ev_top (lt_put (lt_put (lt_put (lt_put (lt_put (lt_put (lt_sz hsz22 rfl)))))))) rfl) rfl)) ?_
      refine W_end ?_
      refine gen_Q (fun A37 hA37 => ?_)
      have hsz37 : A37.tmps.size = 135 := by rw [hA37]; simp only [sz_put]; exact hsz22
      have hdf37 : A37.defers = [] := by rw [hA37]; simp only [df_put]; exact hdf22
      have l1_37 := lookE hA37 1 (ev_step (ev_step (ev_step (ev_step (ev_step (ev_step (ev_step (ev_step (ev_step (ev_step l1_22 rfl) rfl) rfl) rfl) rfl) rfl) rfl) rfl) rfl) rfl)
      have l2_37 := lookE hA37 2 (ev_step (ev_step (ev_step (ev_step (ev_step (ev_step (ev_step (ev_step (ev_step (ev_step l2_22 rfl) rfl) rfl) rfl) rfl) rfl) rfl) rfl) rfl) rfl)
      have l8_37 := lookE hA37 8 (ev_step (ev_step (ev_top (lt_put (lt_put (lt_put (lt_put (lt_put (lt_put (lt_put (lt_sz hsz22 rfl))))))))) rfl) rfl)
      have l9_37 := lookE hA37 9 (ev_step (ev_top (lt_put (lt_put (lt_put (lt_put (lt_put (lt_put (lt_put (lt_put (lt_sz hsz22 rfl)))))))))) rfl)
      have l10_37 := lookE hA37 10 (ev_top (lt_put (lt_put (lt_put (lt_put (lt_put (lt_put (lt_put (lt_put (lt_put (lt_sz hsz22 rfl)))))))))))
      clear hA37 hsz22 hdf22 l1_22 l2_22 l38_22
      refine then_n (hK29 _ _ ?_)
      clear hK29
      refine wp_seq_k (fun K38 hK38 => ?_)
      -- region 5
      refine region_in ?_
      refine W_r rfl rfl (VR_ldA rfl l2_37 b2 Try.underlying24 rfl (by kernel_rfl)) ?_
      refine W_call rfl rfl rfl Try.func19 (by kernel_rfl) rfl (args1 (ev_top (lt_sz hsz37 rfl))) (Take_c (h_lv.ext hE36) (h_yv.ext hE36) (by first | omega | (simp; omega)) (by first | omega | (simp; omega))) ?_
      rintro _ w39 ⟨v1_39, v2_39, rfl, f1_39, f2_39, hx39⟩
      refine ⟨_, rfl, ?_⟩
      have hb40 := hE36.size
      have hE41 := Ext.tr hE36 hx39
      replace b2 := heap_ext hx39 b2
      replace b33 := heap_ext hx39 b33
      replace f1_30 := f1_30.ext hx39
      replace f2_30 := f2_30.ext hx39
      replace f1_39 := f1_39.base hb40
      replace f2_39 := f2_39.base hb40
      refine W_v rfl rfl (V_mov rfl (ev_top (lt_put (lt_sz hsz37 rfl)))) ?_
      refine W_v rfl rfl (V_ext rfl (ev_top (lt_put (lt_put (lt_sz hsz37 rfl)))) rfl) ?_
      refine W_v rfl rfl (V_ext rfl (ev_step (ev_top (lt_put (lt_put (lt_sz hsz37 rfl)))) rfl) rfl) ?_
      refine W_v rfl rfl (V_ext rfl (ev_step (ev_step (ev_top (lt_put (lt_put (lt_sz hsz37 rfl)))) rfl) rfl) rfl) ?_
      refine W_alloc (z := .agg #[.slice none 0 0, .slice none 0 0]) (cs := #[.slice none 0 0, .slice none 0 0]) rfl rfl rfl (by kernel_rfl) rfl (fun g42 w42 hg42 hx42 b42 => ?_)
      have o2_42 : g2 < g42 := hg42 ▸ lt_size b2
      have o33_42 : g33 < g42 := hg42 ▸ lt_size b33
      have oB_42 : w.heap.size ≤ g42 := hg42 ▸ hE41.size
      have hE43 := Ext.tr hE41 hx42
      replace b2 := heap_ext hx42 b2
      replace b33 := heap_ext hx42 b33
      replace f1_30 := f1_30.ext hx42
      replace f2_30 := f2_30.ext hx42
      replace f1_39 := f1_39.ext hx42
      replace f2_39 := f2_39.ext hx42
      refine W_stA rfl rfl rfl (ev_top (lt_put (lt_put (lt_put (lt_put (lt_put (lt_put (lt_sz hsz37 rfl)))))))) (ev_step (ev_step (ev_step (ev_top (lt_put (lt_put (lt_put (lt_sz hsz37 rfl))))) rfl) rfl) rfl) (by simp only [List.all_toArray, List.all_cons, List.all_nil, one_ints f1_39.1, one_ints f2_39.1] <;> rfl) b42 (by rfl) (by kernel_rfl) (fun w44 ht44 hb44 => ?_)
      have hE45 := ext_tch hE43 ht44 oB_42
      replace f1_30 := f1_30.tch ht44 b42 rfl
      replace f2_30 := f2_30.tch ht44 b42 rfl
      replace f1_39 := f1_39.tch ht44 b42 rfl
      replace f2_39 := f2_39.tch ht44 b42 rfl
      replace b2 := box_tch b2 ht44 (Nat.ne_of_lt o2_42)
      replace b33 := box_tch b33 ht44 (Nat.ne_of_lt o33_42)
      replace b42 := hb44
      refine W_v rfl rfl (V_asg rfl (ev_step (ev_step (ev_top (lt_put (lt_put (lt_put (lt_put (lt_sz hsz37 rfl)))))) rfl) rfl)) ?_
      refine W_v rfl rfl (V_asg rfl (ev_step (ev_step (ev_top (lt_put (lt_put (lt_put (lt_put (lt_put (lt_sz hsz37 rfl))))))) rfl) rfl)) ?_
      refine W_end ?_
      refine gen_Q (fun A46 hA46 => ?_)
      have hsz46 : A46.tmps.size = 135 := by rw [hA46]; simp only [sz_put]; exact hsz37
      have hdf46 : A46.defers = [] := by rw [hA46]; simp only [df_put]; exact hdf37
      have l1_46 := lookE hA46 1 (ev_step (ev_step (ev_step (ev_step (ev_step (ev_step (ev_step (ev_step (ev_step l1_37 rfl) rfl) rfl) rfl) rfl) rfl) rfl) rfl) rfl)
      have l2_46 := lookE hA46 2 (ev_step (ev_step (ev_step (ev_step (ev_step (ev_step (ev_step (ev_step (ev_step l2_37 rfl) rfl) rfl) rfl) rfl) rfl) rfl) rfl) rfl)
      have l8_46 := lookE hA46 8 (ev_step (ev_step (ev_step (ev_step (ev_step (ev_step (ev_step (ev_step (ev_step l8_37 rfl) rfl) rfl) rfl) rfl) rfl) rfl) rfl) rfl)
      have l9_46 := lookE hA46 9 (ev_step (ev_step (ev_step (ev_step (ev_step (ev_step (ev_step (ev_step (ev_step l9_37 rfl) rfl) rfl) rfl) rfl) rfl) rfl) rfl) rfl)
      have l10_46 := lookE hA46 10 (ev_step (ev_step (ev_step (ev_step (ev_step (ev_step (ev_step (ev_step (ev_step l10_37 rfl) rfl) rfl) rfl) rfl) rfl) rfl) rfl) rfl)
      have l11_46 := lookE hA46 11 (ev_step (ev_step (ev_top (lt_put (lt_put (lt_put (lt_put (lt_put (lt_put (lt_sz hsz37 rfl)))))))) rfl) rfl)
      have l12_46 := lookE hA46 12 (ev_step (ev_top (lt_put (lt_put (lt_put (lt_put (lt_put (lt_put (lt_put (lt_sz hsz37 rfl))))))))) rfl)
      have l13_46 := lookE hA46 13 (ev_top (lt_put (lt_put (lt_put (lt_put (lt_put (lt_put (lt_put (lt_put (lt_sz hsz37 rfl))))))))))
      clear hA46 hsz37 hdf37 l1_37 l2_37 l8_37 l9_37 l10_37
      refine then_n (hK38 _ _ ?_)
      clear hK38
      refine wp_seq_k (fun K47 hK47 => ?_)
      refine wp_seq_k (fun K48 hK48 => ?_)
      -- region 6
      refine region_in ?_
      refine W_v rfl rfl (V_mov rfl l10_46) ?_
      refine W_v rfl rfl (V_mov rfl (ev_step l13_46 rfl)) ?_
      refine W_v rfl rfl (V_neq rfl (ev_step (ev_top (lt_sz hsz46 rfl)) rfl) (ev_top (lt_put (lt_sz hsz46 rfl)))) ?_
      refine W_sure (c' := false) rfl rfl (V_mov rfl (ev_top (lt_put (lt_put (lt_sz hsz46 rfl))))) (by simp [relinkS_e]) ?_
      refine W_v rfl (wanted_t rfl rfl (ev_top (lt_put (lt_put (lt_put (lt_sz hsz46 rfl))))) (lt_put (lt_put (lt_put (lt_put (lt_sz hsz46 rfl)))))) (V_mov rfl (ev_step (ev_step (ev_step (ev_step l9_46 rfl) rfl) rfl) rfl)) ?_
      refine W_v rfl (wanted_t rfl rfl (ev_step (ev_top (lt_put (lt_put (lt_put (lt_sz hsz46 rfl))))) rfl) (lt_put (lt_put (lt_put (lt_put (lt_put (lt_sz hsz46 rfl))))))) (V_mov rfl (ev_step (ev_step (ev_step (ev_step (ev_step l12_46 rfl) rfl) rfl) rfl) rfl)) ?_
      refine W_v rfl (wanted_t rfl rfl (ev_step (ev_step (ev_top (lt_put (lt_put (lt_put (lt_sz hsz46 rfl))))) rfl) rfl) (lt_put (lt_put (lt_put (lt_put (lt_put (lt_put (lt_sz hsz46 rfl)))))))) (V_neq rfl (ev_step (ev_top (lt_put (lt_put (lt_put (lt_put (lt_sz hsz46 rfl)))))) rfl) (ev_top (lt_put (lt_put (lt_put (lt_put (lt_put (lt_sz hsz46 rfl)))))))) ?_
      refine W_v rfl rfl (V_pickF rfl (ev_step (ev_step (ev_step (ev_top (lt_put (lt_put (lt_put (lt_sz hsz46 rfl))))) rfl) rfl) rfl) (ev_top (lt_put (lt_put (lt_put (lt_put (lt_put (lt_put (lt_sz hsz46 rfl))))))))) ?_
      refine W_end ?_
      refine gen_Q (fun A49 hA49 => ?_)
      have hsz49 : A49.tmps.size = 135 := by rw [hA49]; simp only [sz_put]; exact hsz46
      have hdf49 : A49.defers = [] := by rw [hA49]; simp only [df_put]; exact hdf46
      have l1_49 := lookE hA49 1 (ev_step (ev_step (ev_step (ev_step (ev_step (ev_step (ev_step (ev_step l1_46 rfl) rfl) rfl) rfl) rfl) rfl) rfl) rfl)
      have l2_49 := lookE hA49 2 (ev_step (ev_step (ev_step (ev_step (ev_step (ev_step (ev_step (ev_step l2_46 rfl) rfl) rfl) rfl) rfl) rfl) rfl) rfl)
      have l8_49 := lookE hA49 8 (ev_step (ev_step (ev_step (ev_step (ev_step (ev_step (ev_step (ev_step l8_46 rfl) rfl) rfl) rfl) rfl) rfl) rfl) rfl)
      have l11_49 := lookE hA49 11 (ev_step (ev_step (ev_step (ev_step (ev_step (ev_step (ev_step (ev_step l11_46 rfl) rfl) rfl) rfl) rfl) rfl) rfl) rfl)
      have l12_49 := lookE hA49 12 (ev_step (ev_step (ev_step (ev_step (ev_step (ev_step (ev_step (ev_step l12_46 rfl) rfl) rfl) rfl) rfl) rfl) rfl) rfl)
      have l13_49 := lookE hA49 13 (ev_step (ev_step (ev_step (ev_step (ev_step (ev_step (ev_step (ev_step l13_46 rfl) rfl) rfl) rfl) rfl) rfl) rfl) rfl)
      have l60_49 := lookE hA49 60 (ev_top (lt_put (lt_put (lt_put (lt_put (lt_put (lt_put (lt_put (lt_sz hsz46 rfl)))))))))
      clear hA49 hsz46 hdf46 l1_46 l2_46 l8_46 l9_46 l10_46 l11_46 l12_46 l13_46
      refine then_n (hK48 _ _ ?_)
      clear hK48
      refine cond_not l60_49 (by simp [relinkS_car]) ?_
      refine wp_skip ?_
      refine then_n (hK47 _ _ ?_)
      clear hK47
      refine wp_seq_k (fun K50 hK50 => ?_)
      refine wp_seq_k (fun K51 hK51 => ?_)
      -- region 8
      refine region_in ?_
      refine W_v rfl rfl (V_mov rfl l13_49) ?_
      refine W_v rfl rfl (V_eql rfl (ev_top (lt_sz hsz49 rfl)) rfl) ?_
      refine W_end ?_
      refine gen_Q (fun A52 hA52 => ?_)
      have hsz52 : A52.tmps.size = 135 := by rw [hA52]; simp only [sz_put]; exact hsz49
      have hdf52 : A52.defers = [] := by rw [hA52]; simp only [df_put]; exact hdf49
      have l1_52 := lookE hA52 1 (ev_step (ev_step l1_49 rfl) rfl)
      have l2_52 := lookE hA52 2 (ev_step (ev_step l2_49 rfl) rfl)
      have l8_52 := lookE hA52 8 (ev_step (ev_step l8_49 rfl) rfl)
      have l11_52 := lookE hA52 11 (ev_step (ev_step l11_49 rfl) rfl)
      have l12_52 := lookE hA52 12 (ev_step (ev_step l12_49 rfl) rfl)
      have l62_52 := lookE hA52 62 (ev_top (lt_put (lt_sz hsz49 rfl)))
      clear hA52 hsz49 hdf49 l1_49 l2_49 l8_49 l11_49 l12_49 l13_49 l60_49
      refine then_n (hK51 _ _ ?_)
      clear hK51
      refine cond_dec l62_52 (fun c53 => ?_) (fun c53 => ?_)
      · skip
        obtain ⟨hF, hP⟩ := pairs_T hgood c53
        refine wp_seq_k (fun K54 hK54 => ?_)
        -- region 9
        refine region_in ?_
        refine W_r rfl rfl (VR_ldA rfl l11_52 b42 Try.underlying24 rfl (by kernel_rfl)) ?_
        refine W_v rfl rfl (V_mov rfl (ev_step l12_52 rfl)) ?_
        refine W_call rfl rfl rfl Try.func22 (by kernel_rfl) rfl (args2 (ev_step (ev_top (lt_sz hsz52 rfl)) rfl) (ev_top (lt_put (lt_sz hsz52 rfl)))) (Find_c (c := (takeS lo yo).car) f1_39.1 f2_39.1 ) ?_
        rintro _ w55 ⟨rfl, hx55⟩
        refine ⟨_, rfl, ?_⟩
        have hb56 := hE45.size
        have hE57 := Ext.tr hE45 hx55
        replace b2 := heap_ext hx55 b2
        replace b33 := heap_ext hx55 b33
        replace b42 := heap_ext hx55 b42
        replace f1_30 := f1_30.ext hx55
        replace f2_30 := f2_30.ext hx55
        replace f1_39 := f1_39.ext hx55
        replace f2_39 := f2_39.ext hx55
        refine W_v rfl rfl (V_mov rfl (ev_top (lt_put (lt_put (lt_sz hsz52 rfl))))) ?_
        refine W_v rfl rfl (V_ext rfl (ev_top (lt_put (lt_put (lt_put (lt_sz hsz52 rfl))))) rfl) ?_
        refine W_v rfl rfl (V_ext rfl (ev_step (ev_top (lt_put (lt_put (lt_put (lt_sz hsz52 rfl))))) rfl) rfl) ?_
        refine W_v rfl rfl (V_ext rfl (ev_step (ev_step (ev_top (lt_put (lt_put (lt_put (lt_sz hsz52 rfl))))) rfl) rfl) rfl) ?_
        refine W_v rfl rfl (V_asg rfl (ev_step (ev_step (ev_top (lt_put (lt_put (lt_put (lt_put (lt_sz hsz52 rfl)))))) rfl) rfl)) ?_
        refine W_v rfl rfl (V_asg rfl (ev_step (ev_step (ev_top (lt_put (lt_put (lt_put (lt_put (lt_put (lt_sz hsz52 rfl))))))) rfl) rfl)) ?_
        refine W_v rfl rfl (V_asg rfl (ev_step (ev_step (ev_top (lt_put (lt_put (lt_put (lt_put (lt_put (lt_put (lt_sz hsz52 rfl)))))))) rfl) rfl)) ?_
        refine W_end ?_
        refine gen_Q (fun A58 hA58 => ?_)
        have hsz58 : A58.tmps.size = 135 := by rw [hA58]; simp only [sz_put]; exact hsz52
        have hdf58 : A58.defers = [] := by rw [hA58]; simp only [df_put]; exact hdf52
        have l1_58 := lookE hA58 1 (ev_step (ev_step (ev_step (ev_step (ev_step (ev_step (ev_step (ev_step (ev_step (ev_step l1_52 rfl) rfl) rfl) rfl) rfl) rfl) rfl) rfl) rfl) rfl)
        have l2_58 := lookE hA58 2 (ev_step (ev_step (ev_step (ev_step (ev_step (ev_step (ev_step (ev_step (ev_step (ev_step l2_52 rfl) rfl) rfl) rfl) rfl) rfl) rfl) rfl) rfl) rfl)
        have l8_58 := lookE hA58 8 (ev_step (ev_step (ev_step (ev_step (ev_step (ev_step (ev_step (ev_step (ev_step (ev_step l8_52 rfl) rfl) rfl) rfl) rfl) rfl) rfl) rfl) rfl) rfl)
        have l11_58 := lookE hA58 11 (ev_step (ev_step (ev_step (ev_step (ev_step (ev_step (ev_step (ev_step (ev_step (ev_step l11_52 rfl) rfl) rfl) rfl) rfl) rfl) rfl) rfl) rfl) rfl)
        have l12_58 := lookE hA58 12 (ev_step (ev_step (ev_step (ev_step (ev_step (ev_step (ev_step (ev_step (ev_step (ev_step l12_52 rfl) rfl) rfl) rfl) rfl) rfl) rfl) rfl) rfl) rfl)
        have l16_58 := lookE hA58 16 (ev_top (lt_put (lt_put (lt_put (lt_put (lt_put (lt_put (lt_put (lt_put (lt_put (lt_sz hsz52 rfl)))))))))))
        clear hA58 hsz52 hdf52 l1_52 l2_52 l8_52 l11_52 l12_52 l62_52
        refine then_n (hK54 _ _ ?_)
        clear hK54
        refine wp_seq_k (fun K59 hK59 => ?_)
        -- region 10
        refine region_in ?_
        refine W_r rfl rfl (VR_ldA rfl l11_58 b42 Try.underlying24 rfl (by kernel_rfl)) ?_
        refine W_v rfl rfl (V_mov rfl (ev_step l12_58 rfl)) ?_
        refine W_call rfl rfl rfl Try.func13 (by kernel_rfl) rfl (args3 (ev_step (ev_top (lt_sz hsz58 rfl)) rfl) rfl (ev_top (lt_put (lt_sz hsz58 rfl)))) (Append_c (tr := 1) (c := (takeS lo yo).car) f1_39.1 f2_39.1 ) ?_
        rintro _ w60 ⟨v1_60, v2_60, rfl, f1_60, f2_60, hx60⟩
        refine ⟨_, rfl, ?_⟩
        have hb61 := hE57.size
        have hE62 := Ext.tr hE57 hx60
        replace b2 := heap_ext hx60 b2
        replace b33 := heap_ext hx60 b33
        replace b42 := heap_ext hx60 b42
        replace f1_30 := f1_30.ext hx60
        replace f2_30 := f2_30.ext hx60
        replace f1_39 := f1_39.ext hx60
        replace f2_39 := f2_39.ext hx60
        replace f1_60 := f1_60.base hb61
        replace f2_60 := f2_60.base hb61
        refine W_v rfl rfl (V_mov rfl (ev_top (lt_put (lt_put (lt_sz hsz58 rfl))))) ?_
        refine W_v rfl rfl (V_ext rfl (ev_top (lt_put (lt_put (lt_put (lt_sz hsz58 rfl))))) rfl) ?_
        refine W_v rfl rfl (V_ext rfl (ev_step (ev_top (lt_put (lt_put (lt_put (lt_sz hsz58 rfl))))) rfl) rfl) ?_
        refine W_alloc (z := .agg #[.slice none 0 0, .slice none 0 0]) (cs := #[.slice none 0 0, .slice none 0 0]) rfl rfl rfl (by kernel_rfl) rfl (fun g63 w63 hg63 hx63 b63 => ?_)
        have o2_63 : g2 < g63 := hg63 ▸ lt_size b2
        have o33_63 : g33 < g63 := hg63 ▸ lt_size b33
        have o42_63 : g42 < g63 := hg63 ▸ lt_size b42
        have oB_63 : w.heap.size ≤ g63 := hg63 ▸ hE62.size
        have hE64 := Ext.tr hE62 hx63
        replace b2 := heap_ext hx63 b2
        replace b33 := heap_ext hx63 b33
        replace b42 := heap_ext hx63 b42
        replace f1_30 := f1_30.ext hx63
        replace f2_30 := f2_30.ext hx63
        replace f1_39 := f1_39.ext hx63
        replace f2_39 := f2_39.ext hx63
        replace f1_60 := f1_60.ext hx63
        replace f2_60 := f2_60.ext hx63
        refine W_stA rfl rfl rfl (ev_top (lt_put (lt_put (lt_put (lt_put (lt_put (lt_put (lt_sz hsz58 rfl)))))))) (ev_step (ev_step (ev_top (lt_put (lt_put (lt_put (lt_put (lt_sz hsz58 rfl)))))) rfl) rfl) (by simp only [List.all_toArray, List.all_cons, List.all_nil, one_ints f1_60.1, one_ints f2_60.1] <;> rfl) b63 (by rfl) (by kernel_rfl) (fun w65 ht65 hb65 => ?_)
        have hE66 := ext_tch hE64 ht65 oB_63
        replace f1_30 := f1_30.tch ht65 b63 rfl
        replace f2_30 := f2_30.tch ht65 b63 rfl
        replace f1_39 := f1_39.tch ht65 b63 rfl
        replace f2_39 := f2_39.tch ht65 b63 rfl
        replace f1_60 := f1_60.tch ht65 b63 rfl
        replace f2_60 := f2_60.tch ht65 b63 rfl
        replace b2 := box_tch b2 ht65 (Nat.ne_of_lt o2_63)
        replace b33 := box_tch b33 ht65 (Nat.ne_of_lt o33_63)
        replace b42 := box_tch b42 ht65 (Nat.ne_of_lt o42_63)
        replace b63 := hb65
        refine W_v rfl rfl (V_asg rfl (ev_step (ev_top (lt_put (lt_put (lt_put (lt_put (lt_put (lt_sz hsz58 rfl))))))) rfl)) ?_
        refine W_end ?_
        refine gen_Q (fun A67 hA67 => ?_)
        have hsz67 : A67.tmps.size = 135 := by rw [hA67]; simp only [sz_put]; exact hsz58
        have hdf67 : A67.defers = [] := by rw [hA67]; simp only [df_put]; exact hdf58
        have l1_67 := lookE hA67 1 (ev_step (ev_step (ev_step (ev_step (ev_step (ev_step (ev_step (ev_step l1_58 rfl) rfl) rfl) rfl) rfl) rfl) rfl) rfl)
        have l2_67 := lookE hA67 2 (ev_step (ev_step (ev_step (ev_step (ev_step (ev_step (ev_step (ev_step l2_58 rfl) rfl) rfl) rfl) rfl) rfl) rfl) rfl)
        have l8_67 := lookE hA67 8 (ev_step (ev_step (ev_step (ev_step (ev_step (ev_step (ev_step (ev_step l8_58 rfl) rfl) rfl) rfl) rfl) rfl) rfl) rfl)
        have l11_67 := lookE hA67 11 (ev_step (ev_step (ev_step (ev_step (ev_step (ev_step (ev_step (ev_step l11_58 rfl) rfl) rfl) rfl) rfl) rfl) rfl) rfl)
        have l12_67 := lookE hA67 12 (ev_step (ev_step (ev_step (ev_step (ev_step (ev_step (ev_step (ev_step l12_58 rfl) rfl) rfl) rfl) rfl) rfl) rfl) rfl)
        have l16_67 := lookE hA67 16 (ev_step (ev_step (ev_step (ev_step (ev_step (ev_step (ev_step (ev_step l16_58 rfl) rfl) rfl) rfl) rfl) rfl) rfl) rfl)
        have l17_67 := lookE hA67 17 (ev_step (ev_top (lt_put (lt_put (lt_put (lt_put (lt_put (lt_put (lt_sz hsz58 rfl)))))))) rfl)
        have l18_67 := lookE hA67 18 (ev_top (lt_put (lt_put (lt_put (lt_put (lt_put (lt_put (lt_put (lt_sz hsz58 rfl)))))))))
        clear hA67 hsz58 hdf58 l1_58 l2_58 l8_58 l11_58 l12_58 l16_58
        refine then_n (hK59 _ _ ?_)
        clear hK59
        refine wp_seq_k (fun K68 hK68 => ?_)
        refine wp_seq_k (fun K69 hK69 => ?_)
        -- region 11
        refine region_in ?_
        refine W_v rfl rfl (V_mov rfl l1_67) ?_
        refine W_end ?_
        refine gen_Q (fun A70 hA70 => ?_)
        have hsz70 : A70.tmps.size = 135 := by rw [hA70]; simp only [sz_put]; exact hsz67
        have hdf70 : A70.defers = [] := by rw [hA70]; simp only [df_put]; exact hdf67
        have l2_70 := lookE hA70 2 (ev_step l2_67 rfl)
        have l8_70 := lookE hA70 8 (ev_step l8_67 rfl)
        have l11_70 := lookE hA70 11 (ev_step l11_67 rfl)
        have l12_70 := lookE hA70 12 (ev_step l12_67 rfl)
        have l16_70 := lookE hA70 16 (ev_step l16_67 rfl)
        have l17_70 := lookE hA70 17 (ev_step l17_67 rfl)
        have l18_70 := lookE hA70 18 (ev_step l18_67 rfl)
        have l76_70 := lookE hA70 76 (ev_top (lt_sz hsz67 rfl))
        clear hA70 hsz67 hdf67 l1_67 l2_67 l8_67 l11_67 l12_67 l16_67 l17_67 l18_67
        refine then_n (hK69 _ _ ?_)
        clear hK69
        refine cond_b l76_70 (fun c71 => ?_) (fun c71 => ?_)
        · skip
          -- region 12
          refine region_in ?_
          refine W_r rfl rfl (VR_ldA rfl l11_70 b42 Try.underlying24 rfl (by kernel_rfl)) ?_
          refine W_v rfl rfl (V_mov rfl (ev_step l12_70 rfl)) ?_
          refine W_call rfl rfl rfl Try.func15 (by kernel_rfl) rfl (args3 (ev_step (ev_top (lt_sz hsz70 rfl)) rfl) rfl (ev_top (lt_put (lt_sz hsz70 rfl)))) (Insert_c (tr := 1) (c := (takeS lo yo).car) f1_39.1 f2_39.1 ) ?_
          rintro _ w72 ⟨v1_72, v2_72, rfl, f1_72, f2_72, hx72⟩
          refine ⟨_, rfl, ?_⟩
          have hb73 := hE66.size
          have hE74 := Ext.tr hE66 hx72
          replace b2 := heap_ext hx72 b2
          replace b33 := heap_ext hx72 b33
          replace b42 := heap_ext hx72 b42
          replace b63 := heap_ext hx72 b63
          replace f1_30 := f1_30.ext hx72
          replace f2_30 := f2_30.ext hx72
          replace f1_39 := f1_39.ext hx72
          replace f2_39 := f2_39.ext hx72
          replace f1_60 := f1_60.ext hx72
          replace f2_60 := f2_60.ext hx72
          replace f1_72 := f1_72.base hb73
          replace f2_72 := f2_72.base hb73
          refine W_v rfl rfl (V_mov rfl (ev_top (lt_put (lt_put (lt_sz hsz70 rfl))))) ?_
          refine W_v rfl rfl (V_ext rfl (ev_top (lt_put (lt_put (lt_put (lt_sz hsz70 rfl))))) rfl) ?_
          refine W_v rfl rfl (V_ext rfl (ev_step (ev_top (lt_put (lt_put (lt_put (lt_sz hsz70 rfl))))) rfl) rfl) ?_
          refine W_stA rfl rfl rfl (ev_step (ev_step (ev_step (ev_step (ev_step (ev_step l17_70 rfl) rfl) rfl) rfl) rfl) rfl) (ev_step (ev_top (lt_put (lt_put (lt_put (lt_put (lt_sz hsz70 rfl)))))) rfl) (by simp only [List.all_toArray, List.all_cons, List.all_nil, one_ints f1_72.1, one_ints f2_72.1] <;> rfl) b63 (by rfl) (by kernel_rfl) (fun w75 ht75 hb75 => ?_)
          have hE76 := ext_tch hE74 ht75 oB_63
          replace f1_30 := f1_30.tch ht75 b63 rfl
          replace f2_30 := f2_30.tch ht75 b63 rfl
          replace f1_39 := f1_39.tch ht75 b63 rfl
          replace f2_39 := f2_39.tch ht75 b63 rfl
          replace f1_60 := f1_60.tch ht75 b63 rfl
          replace f2_60 := f2_60.tch ht75 b63 rfl
          replace f1_72 := f1_72.tch ht75 b63 rfl
          replace f2_72 := f2_72.tch ht75 b63 rfl
          replace b2 := box_tch b2 ht75 (Nat.ne_of_lt o2_63)
          replace b33 := box_tch b33 ht75 (Nat.ne_of_lt o33_63)
          replace b42 := box_tch b42 ht75 (Nat.ne_of_lt o42_63)
          replace b63 := hb75
          refine W_v rfl rfl (V_asg rfl (ev_top (lt_put (lt_put (lt_put (lt_put (lt_put (lt_sz hsz70 rfl)))))))) ?_
          refine W_end ?_
          refine gen_Q (fun A77 hA77 => ?_)
          have hsz77 : A77.tmps.size = 135 := by rw [hA77]; simp only [sz_put]; exact hsz70
          have hdf77 : A77.defers = [] := by rw [hA77]; simp only [df_put]; exact hdf70
          have l2_77 := lookE hA77 2 (ev_step (ev_step (ev_step (ev_step (ev_step (ev_step (ev_step l2_70 rfl) rfl) rfl) rfl) rfl) rfl) rfl)
          have l8_77 := lookE hA77 8 (ev_step (ev_step (ev_step (ev_step (ev_step (ev_step (ev_step l8_70 rfl) rfl) rfl) rfl) rfl) rfl) rfl)
          have l16_77 := lookE hA77 16 (ev_step (ev_step (ev_step (ev_step (ev_step (ev_step (ev_step l16_70 rfl) rfl) rfl) rfl) rfl) rfl) rfl)
          have l17_77 := lookE hA77 17 (ev_step (ev_step (ev_step (ev_step (ev_step (ev_step (ev_step l17_70 rfl) rfl) rfl) rfl) rfl) rfl) rfl)
          have l18_77 := lookE hA77 18 (ev_top (lt_put (lt_put (lt_put (lt_put (lt_put (lt_put (lt_sz hsz70 rfl))))))))
          clear hA77 hsz70 hdf70 l2_70 l8_70 l11_70 l12_70 l16_70 l17_70 l18_70 l76_70
          refine then_n (hK68 _ _ ?_)
          clear hK68
          refine wp_seq_k (fun K78 hK78 => ?_)
          -- region 13
          refine region_in ?_
          refine W_v rfl rfl (V_mov rfl l16_77) ?_
          refine W_v rfl rfl (V_neq rfl (ev_top (lt_sz hsz77 rfl)) rfl) ?_
          refine W_sure (c' := false) rfl rfl (V_mov rfl (ev_top (lt_put (lt_sz hsz77 rfl)))) (by simp [hF]) ?_
          refine W_v rfl (wanted_t rfl rfl (ev_top (lt_put (lt_put (lt_sz hsz77 rfl)))) (lt_put (lt_put (lt_put (lt_sz hsz77 rfl))))) (V_mov rfl (ev_step (ev_step (ev_step l18_77 rfl) rfl) rfl)) ?_
          refine W_v rfl (wanted_t rfl rfl (ev_step (ev_top (lt_put (lt_put (lt_sz hsz77 rfl)))) rfl) (lt_put (lt_put (lt_put (lt_put (lt_sz hsz77 rfl)))))) (V_neq rfl (ev_top (lt_put (lt_put (lt_put (lt_sz hsz77 rfl))))) rfl) ?_
          refine W_v rfl rfl (V_pickF rfl (ev_step (ev_step (ev_top (lt_put (lt_put (lt_sz hsz77 rfl)))) rfl) rfl) (ev_top (lt_put (lt_put (lt_put (lt_put (lt_sz hsz77 rfl))))))) ?_
          refine W_sure (c' := false) rfl rfl (V_mov rfl (ev_top (lt_put (lt_put (lt_put (lt_put (lt_put (lt_sz hsz77 rfl)))))))) (by simp [hP]) ?_
          refine W_r rfl (wanted_t rfl rfl (ev_top (lt_put (lt_put (lt_put (lt_put (lt_put (lt_put (lt_sz hsz77 rfl)))))))) (lt_put (lt_put (lt_put (lt_put (lt_put (lt_put (lt_put (lt_sz hsz77 rfl))))))))) (VR_ldA rfl (ev_step (ev_step (ev_step (ev_step (ev_step (ev_step (ev_step l8_77 rfl) rfl) rfl) rfl) rfl) rfl) rfl) b33 Try.underlying24 rfl (by kernel_rfl)) ?_
          refine W_r rfl (wanted_t rfl rfl (ev_step (ev_top (lt_put (lt_put (lt_put (lt_put (lt_put (lt_put (lt_sz hsz77 rfl)))))))) rfl) (lt_put (lt_put (lt_put (lt_put (lt_put (lt_put (lt_put (lt_put (lt_sz hsz77 rfl)))))))))) (VR_ldA rfl (ev_step (ev_step (ev_step (ev_step (ev_step (ev_step (ev_step (ev_step l17_77 rfl) rfl) rfl) rfl) rfl) rfl) rfl) rfl) b63 Try.underlying24 rfl (by kernel_rfl)) ?_
          refine W_call rfl (wanted_t rfl rfl (ev_step (ev_step (ev_top (lt_put (lt_put (lt_put (lt_put (lt_put (lt_put (lt_sz hsz77 rfl)))))))) rfl) rfl) (lt_put (lt_put (lt_put (lt_put (lt_put (lt_put (lt_put (lt_put (lt_put (lt_sz hsz77 rfl))))))))))) rfl Try.func28 (by kernel_rfl) rfl (args2 (ev_step (ev_top (lt_put (lt_put (lt_put (lt_put (lt_put (lt_put (lt_put (lt_sz hsz77 rfl))))))))) rfl) (ev_top (lt_put (lt_put (lt_put (lt_put (lt_put (lt_put (lt_put (lt_put (lt_sz hsz77 rfl))))))))))) (Same_c f1_30.1 f2_30.1 f1_72.1 f2_72.1 ) ?_
          rintro _ w79 ⟨rfl, hx79⟩
          refine ⟨_, rfl, ?_⟩
          have hb80 := hE76.size
          have hE81 := Ext.tr hE76 hx79
          replace b2 := heap_ext hx79 b2
          replace b33 := heap_ext hx79 b33
          replace b63 := heap_ext hx79 b63
          replace f1_30 := f1_30.ext hx79
          replace f2_30 := f2_30.ext hx79
          replace f1_72 := f1_72.ext hx79
          replace f2_72 := f2_72.ext hx79
          refine W_v rfl (wanted_t rfl rfl (ev_step (ev_step (ev_step (ev_top (lt_put (lt_put (lt_put (lt_put (lt_put (lt_put (lt_sz hsz77 rfl)))))))) rfl) rfl) rfl) (lt_put (lt_put (lt_put (lt_put (lt_put (lt_put (lt_put (lt_put (lt_put (lt_put (lt_sz hsz77 rfl)))))))))))) (V_notd rfl (ev_top (lt_put (lt_put (lt_put (lt_put (lt_put (lt_put (lt_put (lt_put (lt_put (lt_sz hsz77 rfl)))))))))))) ?_
          refine W_v rfl rfl (V_pickF rfl (ev_step (ev_step (ev_step (ev_step (ev_top (lt_put (lt_put (lt_put (lt_put (lt_put (lt_put (lt_sz hsz77 rfl)))))))) rfl) rfl) rfl) rfl) (ev_top (lt_put (lt_put (lt_put (lt_put (lt_put (lt_put (lt_put (lt_put (lt_put (lt_put (lt_sz hsz77 rfl))))))))))))) ?_
          refine W_end ?_
          refine gen_Q (fun A82 hA82 => ?_)
          have hsz82 : A82.tmps.size = 135 := by rw [hA82]; simp only [sz_put]; exact hsz77
          have hdf82 : A82.defers = [] := by rw [hA82]; simp only [df_put]; exact hdf77
          have l2_82 := lookE hA82 2 (ev_step (ev_step (ev_step (ev_step (ev_step (ev_step (ev_step (ev_step (ev_step (ev_step (ev_step (ev_step l2_77 rfl) rfl) rfl) rfl) rfl) rfl) rfl) rfl) rfl) rfl) rfl) rfl)
          have l94_82 := lookE hA82 94 (ev_top (lt_put (lt_put (lt_put (lt_put (lt_put (lt_put (lt_put (lt_put (lt_put (lt_put (lt_put (lt_sz hsz77 rfl)))))))))))))
          clear hA82 hsz77 hdf77 l2_77 l8_77 l16_77 l17_77 l18_77
          refine then_n (hK78 _ _ ?_)
          clear hK78
          refine cond_not l94_82 (by simp [hP, c71]) ?_
          refine wp_skip ?_
          refine then_n (hK50 _ _ ?_)
          clear hK50
          refine wp_seq_k (fun K83 hK83 => ?_)
          -- region 15
          refine region_in ?_
          refine W_r rfl rfl (VR_ldA rfl l2_82 b2 Try.underlying24 rfl (by kernel_rfl)) ?_
          refine W_call rfl rfl rfl Try.func27 (by kernel_rfl) rfl (args1 (ev_top (lt_sz hsz82 rfl))) (Clear_c (h_lv.ext hE81) (h_yv.ext hE81) ) ?_
          rintro _ w84 ⟨v1_84, v2_84, u_84, rfl, f1_84, f2_84, f3_84, hx84⟩
          refine ⟨_, rfl, ?_⟩
          have hb85 := hE81.size
          have hE86 := Ext.tr hE81 hx84
          replace b2 := heap_ext hx84 b2
          replace f1_84 := f1_84.base hb85
          replace f2_84 := f2_84.base hb85
          replace f3_84 := f3_84.base hb85
          refine W_v rfl rfl (V_mov rfl (ev_top (lt_put (lt_sz hsz82 rfl)))) ?_
          refine W_v rfl rfl (V_ext rfl (ev_top (lt_put (lt_put (lt_sz hsz82 rfl)))) rfl) ?_
          refine W_v rfl rfl (V_ext rfl (ev_step (ev_top (lt_put (lt_put (lt_sz hsz82 rfl)))) rfl) rfl) ?_
          refine W_v rfl rfl (V_ext rfl (ev_step (ev_step (ev_top (lt_put (lt_put (lt_sz hsz82 rfl)))) rfl) rfl) rfl) ?_
          refine W_alloc (z := .agg #[.slice none 0 0, .slice none 0 0]) (cs := #[.slice none 0 0, .slice none 0 0]) rfl rfl rfl (by kernel_rfl) rfl (fun g87 w87 hg87 hx87 b87 => ?_)
          have o2_87 : g2 < g87 := hg87 ▸ lt_size b2
          have oB_87 : w.heap.size ≤ g87 := hg87 ▸ hE86.size
          have hE88 := Ext.tr hE86 hx87
          replace b2 := heap_ext hx87 b2
          replace f1_84 := f1_84.ext hx87
          replace f2_84 := f2_84.ext hx87
          replace f3_84 := f3_84.ext hx87
          refine W_stA rfl rfl rfl (ev_top (lt_put (lt_put (lt_put (lt_put (lt_put (lt_put (lt_sz hsz82 rfl)))))))) (ev_step (ev_step (ev_step (ev_top (lt_put (lt_put (lt_put (lt_sz hsz82 rfl))))) rfl) rfl) rfl) (by simp only [List.all_toArray, List.all_cons, List.all_nil, one_ints f1_84.1, one_ints f2_84.1] <;> rfl) b87 (by rfl) (by kernel_rfl) (fun w89 ht89 hb89 => ?_)
          have hE90 := ext_tch hE88 ht89 oB_87
          replace f1_84 := f1_84.tch ht89 b87 rfl
          replace f2_84 := f2_84.tch ht89 b87 rfl
          replace f3_84 := f3_84.tch ht89 b87 rfl
          replace b2 := box_tch b2 ht89 (Nat.ne_of_lt o2_87)
          replace b87 := hb89
          refine W_v rfl rfl (V_asg rfl (ev_step (ev_step (ev_top (lt_put (lt_put (lt_put (lt_put (lt_sz hsz82 rfl)))))) rfl) rfl)) ?_
          refine W_v rfl rfl (V_asg rfl (ev_step (ev_step (ev_top (lt_put (lt_put (lt_put (lt_put (lt_put (lt_sz hsz82 rfl))))))) rfl) rfl)) ?_
          refine W_end ?_
          refine gen_Q (fun A91 hA91 => ?_)
          have hsz91 : A91.tmps.size = 135 := by rw [hA91]; simp only [sz_put]; exact hsz82
          have hdf91 : A91.defers = [] := by rw [hA91]; simp only [df_put]; exact hdf82
          have l2_91 := lookE hA91 2 (ev_step (ev_step (ev_step (ev_step (ev_step (ev_step (ev_step (ev_step (ev_step l2_82 rfl) rfl) rfl) rfl) rfl) rfl) rfl) rfl) rfl)
          have l19_91 := lookE hA91 19 (ev_step (ev_step (ev_top (lt_put (lt_put (lt_put (lt_put (lt_put (lt_put (lt_sz hsz82 rfl)))))))) rfl) rfl)
          have l20_91 := lookE hA91 20 (ev_step (ev_top (lt_put (lt_put (lt_put (lt_put (lt_put (lt_put (lt_put (lt_sz hsz82 rfl))))))))) rfl)
          have l21_91 := lookE hA91 21 (ev_top (lt_put (lt_put (lt_put (lt_put (lt_put (lt_put (lt_put (lt_put (lt_sz hsz82 rfl))))))))))
          clear hA91 hsz82 hdf82 l2_82 l94_82
          refine then_n (hK83 _ _ ?_)
          clear hK83
          refine wp_seq_k (fun K92 hK92 => ?_)
          -- region 16
          refine region_in ?_
          refine W_r rfl rfl (VR_ldA rfl l2_91 b2 Try.underlying24 rfl (by kernel_rfl)) ?_
          refine W_alloc (z := .agg #[.slice none 0 0, .slice none 0 0]) (cs := #[.slice none 0 0, .slice none 0 0]) rfl rfl rfl (by kernel_rfl) rfl (fun g93 w93 hg93 hx93 b93 => ?_)
          have o2_93 : g2 < g93 := hg93 ▸ lt_size b2
          have o87_93 : g87 < g93 := hg93 ▸ lt_size b87
          have oB_93 : w.heap.size ≤ g93 := hg93 ▸ hE90.size
          have hE94 := Ext.tr hE90 hx93
          replace b2 := heap_ext hx93 b2
          replace b87 := heap_ext hx93 b87
          replace f1_84 := f1_84.ext hx93
          replace f2_84 := f2_84.ext hx93
          replace f3_84 := f3_84.ext hx93
          refine W_stA rfl rfl rfl (ev_top (lt_put (lt_sz hsz91 rfl))) (ev_step (ev_top (lt_sz hsz91 rfl)) rfl) (by simp only [List.all_toArray, List.all_cons, List.all_nil, one_ints (h_lv.ext hE94), one_ints (h_yv.ext hE94)] <;> rfl) b93 (by rfl) (by kernel_rfl) (fun w95 ht95 hb95 => ?_)
          have hE96 := ext_tch hE94 ht95 oB_93
          replace f1_84 := f1_84.tch ht95 b93 rfl
          replace f2_84 := f2_84.tch ht95 b93 rfl
          replace f3_84 := f3_84.tch ht95 b93 rfl
          replace b2 := box_tch b2 ht95 (Nat.ne_of_lt o2_93)
          replace b87 := box_tch b87 ht95 (Nat.ne_of_lt o87_93)
          replace b93 := hb95
          refine W_end ?_
          refine gen_Q (fun A97 hA97 => ?_)
          have hsz97 : A97.tmps.size = 135 := by rw [hA97]; simp only [sz_put]; exact hsz91
          have hdf97 : A97.defers = [] := by rw [hA97]; simp only [df_put]; exact hdf91
          have l19_97 := lookE hA97 19 (ev_step (ev_step l19_91 rfl) rfl)
          have l20_97 := lookE hA97 20 (ev_step (ev_step l20_91 rfl) rfl)
          have l21_97 := lookE hA97 21 (ev_step (ev_step l21_91 rfl) rfl)
          have l22_97 := lookE hA97 22 (ev_top (lt_put (lt_sz hsz91 rfl)))
          clear hA97 hsz91 hdf91 l2_91 l19_91 l20_91 l21_91
          refine then_n (hK92 _ _ ?_)
          clear hK92
          refine wp_seq_k (fun K98 hK98 => ?_)
          refine wp_seq_k (fun K99 hK99 => ?_)
          -- region 17
          refine region_in ?_
          refine W_v rfl rfl (V_asg rfl rfl) ?_
          refine W_end ?_
          refine gen_Q (fun A100 hA100 => ?_)
          have hsz100 : A100.tmps.size = 135 := by rw [hA100]; simp only [sz_put]; exact hsz97
          have hdf100 : A100.defers = [] := by rw [hA100]; simp only [df_put]; exact hdf97
          have l19_100 := lookE hA100 19 (ev_step l19_97 rfl)
          have l20_100 := lookE hA100 20 (ev_step l20_97 rfl)
          have l21_100 := lookE hA100 21 (ev_step l21_97 rfl)
          have l22_100 := lookE hA100 22 (ev_step l22_97 rfl)
          have l23_100 := lookE hA100 23 (ev_top (lt_sz hsz97 rfl))
          clear hA100 hsz97 hdf97 l19_97 l20_97 l21_97 l22_97
          refine then_n (hK99 _ _ ?_)
          clear hK99
          refine wp_block ?_
          -- loop 18
          refine loopX (fun n A' w' => A'.tmps.size = 135 ∧ A'.defers = [] ∧ Ext w w' ∧ (∃ (k : Nat) (yl : Value) (yy : Value), (n = lo.length - k) ∧ (k ≤ lo.length) ∧ (EV A' (.tmp 23) = .int .i64 (k : Int)) ∧ (EV A' (.tmp 19) = EV A100 (.tmp 19)) ∧ (EV A' (.tmp 20) = EV A100 (.tmp 20)) ∧ (EV A' (.tmp 21) = EV A100 (.tmp 21)) ∧ (EV A' (.tmp 22) = EV A100 (.tmp 22)) ∧ (w'.heap[g87]? = some (.cells #[v1_84, v2_84] 24 (0, 0))) ∧ (w'.heap[g93]? = some (.cells #[yl, yy] 24 (0, 0))) ∧ (FreI w' w.heap.size 3 (v1_84) ([])) ∧ (FreI w' w.heap.size 3 (v2_84) (((clearS lo yo).yo))) ∧ (FreI w' w.heap.size 3 (u_84) (((clearS lo yo).lo))) ∧ (MixI w w' 3 (yl) (lo.drop k)) ∧ (MixI w w' 3 (yy) (yo)))) (lo.length - (0)) ⟨hsz100, hdf100, hE96, 0, lv, yv, rfl, (Nat.zero_le _), ((l23_100).trans (by first | rfl | (simp; done) | (congr 1; omega))), rfl, rfl, rfl, rfl, b87, b93, f1_84, f2_84, f3_84, (.inl (by simpa using h_lv)), (.inl h_yv)⟩ ?_
          clear b87 b93 f1_84 f2_84 f3_84
          rintro n101 A101 w101 ⟨hsz101, hdf101, hE101, k, yl, yy, hm101, hk, l23_101, u19_101, u20_101, u21_101, u22_101, b87, b93, f1_84, f2_84, f3_84, fy1, fy2⟩
          have l19_101 := u19_101.trans l19_100
          have l20_101 := u20_101.trans l20_100
          have l21_101 := u21_101.trans l21_100
          have l22_101 := u22_101.trans l22_100
          refine wp_seq_k (fun K102 hK102 => ?_)
          refine wp_seq_k (fun K103 hK103 => ?_)
          -- region 18
          refine region_in ?_
          refine W_v rfl rfl (V_mov rfl l23_101) ?_
          refine W_v rfl rfl (V_mov rfl (ev_step l20_101 rfl)) ?_
          refine W_v rfl rfl (V_lenI rfl (ev_top (lt_put (lt_sz hsz101 rfl))) f3_84.1 Try.underlying22) ?_
          refine W_v rfl rfl (V_lss rfl (ev_step (ev_step (ev_top (lt_sz hsz101 rfl)) rfl) rfl) (ev_top (lt_put (lt_put (lt_sz hsz101 rfl))))) ?_
          refine W_end ?_
          refine gen_Q (fun A104 hA104 => ?_)
          have hsz104 : A104.tmps.size = 135 := by rw [hA104]; simp only [sz_put]; exact hsz101
          have hdf104 : A104.defers = [] := by rw [hA104]; simp only [df_put]; exact hdf101
          have l19_104 := lookE hA104 19 (ev_step (ev_step (ev_step (ev_step l19_101 rfl) rfl) rfl) rfl)
          have l20_104 := lookE hA104 20 (ev_step (ev_step (ev_step (ev_step l20_101 rfl) rfl) rfl) rfl)
          have l21_104 := lookE hA104 21 (ev_step (ev_step (ev_step (ev_step l21_101 rfl) rfl) rfl) rfl)
          have l22_104 := lookE hA104 22 (ev_step (ev_step (ev_step (ev_step l22_101 rfl) rfl) rfl) rfl)
          have l23_104 := lookE hA104 23 (ev_step (ev_step (ev_step (ev_step l23_101 rfl) rfl) rfl) rfl)
          have l105_104 := lookE hA104 105 (ev_top (lt_put (lt_put (lt_put (lt_sz hsz101 rfl)))))
          clear hA104 hsz101 hdf101 l23_101 l19_101 l20_101 l21_101 l22_101
          refine then_n (hK103 _ _ ?_)
          clear hK103
          refine cond_dec l105_104 (fun c105 => ?_) (fun c105 => ?_)
          · skip
            refine wp_skip ?_
            refine then_n (hK102 _ _ ?_)
            clear hK102
            refine wp_seq_k (fun K106 hK106 => ?_)
            refine wp_block ?_
            refine wp_seq_k (fun K107 hK107 => ?_)
            -- region 20
            refine region_in ?_
            refine W_r rfl rfl (VR_ldA rfl l22_104 b93 Try.underlying24 rfl (by kernel_rfl)) ?_
            refine W_call rfl rfl rfl Try.func19 (by kernel_rfl) rfl (args1 (ev_top (lt_sz hsz104 rfl))) (Take_c (fy1.ints hE101) (fy2.ints hE101) (by first | omega | (simp; omega)) (by first | omega | (simp; omega))) ?_
            rintro _ w108 ⟨v1_108, v2_108, rfl, f1_108, f2_108, hx108⟩
            refine ⟨_, rfl, ?_⟩
            have hb109 := hE101.size
            have hE110 := Ext.tr hE101 hx108
            replace b87 := heap_ext hx108 b87
            replace b93 := heap_ext hx108 b93
            replace f1_84 := f1_84.ext hx108
            replace f2_84 := f2_84.ext hx108
            replace f3_84 := f3_84.ext hx108
            replace fy1 := fy1.ext hx108
            replace fy2 := fy2.ext hx108
            replace f1_108 := f1_108.base hb109
            replace f2_108 := f2_108.base hb109
            refine W_v rfl rfl (V_mov rfl (ev_top (lt_put (lt_sz hsz104 rfl)))) ?_
            refine W_v rfl rfl (V_ext rfl (ev_top (lt_put (lt_put (lt_sz hsz104 rfl)))) rfl) ?_
            refine W_v rfl rfl (V_ext rfl (ev_step (ev_top (lt_put (lt_put (lt_sz hsz104 rfl)))) rfl) rfl) ?_
            refine W_v rfl rfl (V_ext rfl (ev_step (ev_step (ev_top (lt_put (lt_put (lt_sz hsz104 rfl)))) rfl) rfl) rfl) ?_
            refine W_alloc (z := .agg #[.slice none 0 0, .slice none 0 0]) (cs := #[.slice none 0 0, .slice none 0 0]) rfl rfl rfl (by kernel_rfl) rfl (fun g111 w111 hg111 hx111 b111 => ?_)
            have o87_111 : g87 < g111 := hg111 ▸ lt_size b87
            have o93_111 : g93 < g111 := hg111 ▸ lt_size b93
            have oB_111 : w.heap.size ≤ g111 := hg111 ▸ hE110.size
            have hE112 := Ext.tr hE110 hx111
            replace b87 := heap_ext hx111 b87
            replace b93 := heap_ext hx111 b93
            replace f1_84 := f1_84.ext hx111
            replace f2_84 := f2_84.ext hx111
            replace f3_84 := f3_84.ext hx111
            replace fy1 := fy1.ext hx111
            replace fy2 := fy2.ext hx111
            replace f1_108 := f1_108.ext hx111
            replace f2_108 := f2_108.ext hx111
            refine W_stA rfl rfl rfl (ev_top (lt_put (lt_put (lt_put (lt_put (lt_put (lt_put (lt_sz hsz104 rfl)))))))) (ev_step (ev_step (ev_step (ev_top (lt_put (lt_put (lt_put (lt_sz hsz104 rfl))))) rfl) rfl) rfl) (by simp only [List.all_toArray, List.all_cons, List.all_nil, one_ints f1_108.1, one_ints f2_108.1] <;> rfl) b111 (by rfl) (by kernel_rfl) (fun w113 ht113 hb113 => ?_)
            have hE114 := ext_tch hE112 ht113 oB_111
            replace f1_84 := f1_84.tch ht113 b111 rfl
            replace f2_84 := f2_84.tch ht113 b111 rfl
            replace f3_84 := f3_84.tch ht113 b111 rfl
            replace fy1 := fy1.tch ht113 b111 rfl
            replace fy2 := fy2.tch ht113 b111 rfl
            replace f1_108 := f1_108.tch ht113 b111 rfl
            replace f2_108 := f2_108.tch ht113 b111 rfl
            replace b87 := box_tch b87 ht113 (Nat.ne_of_lt o87_111)
            replace b93 := box_tch b93 ht113 (Nat.ne_of_lt o93_111)
            replace b111 := hb113
            refine W_v rfl rfl (V_asg rfl (ev_step (ev_step (ev_top (lt_put (lt_put (lt_put (lt_put (lt_sz hsz104 rfl)))))) rfl) rfl)) ?_
            refine W_v rfl rfl (V_asg rfl (ev_step (ev_step (ev_top (lt_put (lt_put (lt_put (lt_put (lt_put (lt_sz hsz104 rfl))))))) rfl) rfl)) ?_
            refine W_end ?_
            refine gen_Q (fun A115 hA115 => ?_)
            have hsz115 : A115.tmps.size = 135 := by rw [hA115]; simp only [sz_put]; exact hsz104
            have hdf115 : A115.defers = [] := by rw [hA115]; simp only [df_put]; exact hdf104
            have l19_115 := lookE hA115 19 (ev_step (ev_step (ev_step (ev_step (ev_step (ev_step (ev_step (ev_step (ev_step l19_104 rfl) rfl) rfl) rfl) rfl) rfl) rfl) rfl) rfl)
            have l20_115 := lookE hA115 20 (ev_step (ev_step (ev_step (ev_step (ev_step (ev_step (ev_step (ev_step (ev_step l20_104 rfl) rfl) rfl) rfl) rfl) rfl) rfl) rfl) rfl)
            have l21_115 := lookE hA115 21 (ev_step (ev_step (ev_step (ev_step (ev_step (ev_step (ev_step (ev_step (ev_step l21_104 rfl) rfl) rfl) rfl) rfl) rfl) rfl) rfl) rfl)
            have l22_115 := lookE hA115 22 (ev_step (ev_step (ev_step (ev_step (ev_step (ev_step (ev_step (ev_step (ev_step l22_104 rfl) rfl) rfl) rfl) rfl) rfl) rfl) rfl) rfl)
            have l23_115 := lookE hA115 23 (ev_step (ev_step (ev_step (ev_step (ev_step (ev_step (ev_step (ev_step (ev_step l23_104 rfl) rfl) rfl) rfl) rfl) rfl) rfl) rfl) rfl)
            have l24_115 := lookE hA115 24 (ev_step (ev_step (ev_top (lt_put (lt_put (lt_put (lt_put (lt_put (lt_put (lt_sz hsz104 rfl)))))))) rfl) rfl)
            have l25_115 := lookE hA115 25 (ev_step (ev_top (lt_put (lt_put (lt_put (lt_put (lt_put (lt_put (lt_put (lt_sz hsz104 rfl))))))))) rfl)
            have l26_115 := lookE hA115 26 (ev_top (lt_put (lt_put (lt_put (lt_put (lt_put (lt_put (lt_put (lt_put (lt_sz hsz104 rfl))))))))))
            clear hA115 hsz104 hdf104 l19_104 l20_104 l21_104 l22_104 l23_104 l105_104
            refine then_n (hK107 _ _ ?_)
            clear hK107
            refine wp_seq_k (fun K116 hK116 => ?_)
            refine wp_seq_k (fun K117 hK117 => ?_)
            -- region 21
            refine region_in ?_
            refine W_v rfl rfl (V_mov rfl l26_115) ?_
            refine W_v rfl rfl (V_neq rfl (ev_top (lt_sz hsz115 rfl)) rfl) ?_
            refine W_sure (c' := false) rfl rfl (V_mov rfl (ev_top (lt_put (lt_sz hsz115 rfl)))) (by simp [takeS_dropE hgood (show k < lo.length by omega)]) ?_
            refine W_v rfl (wanted_t rfl rfl (ev_top (lt_put (lt_put (lt_sz hsz115 rfl)))) (lt_put (lt_put (lt_put (lt_sz hsz115 rfl))))) (V_mov rfl (ev_step (ev_step (ev_step l25_115 rfl) rfl) rfl)) ?_
            refine W_v rfl (wanted_t rfl rfl (ev_step (ev_top (lt_put (lt_put (lt_sz hsz115 rfl)))) rfl) (lt_put (lt_put (lt_put (lt_put (lt_sz hsz115 rfl)))))) (V_mov rfl (ev_step (ev_step (ev_step (ev_step l20_115 rfl) rfl) rfl) rfl)) ?_
            refine W_v rfl (wanted_t rfl rfl (ev_step (ev_step (ev_top (lt_put (lt_put (lt_sz hsz115 rfl)))) rfl) rfl) (lt_put (lt_put (lt_put (lt_put (lt_put (lt_sz hsz115 rfl))))))) (V_mov rfl (ev_step (ev_step (ev_step (ev_step (ev_step l23_115 rfl) rfl) rfl) rfl) rfl)) ?_
            have k118 : k < ((clearS lo yo).lo).length := by omega
            obtain ⟨B118, O118, C118, y118, hv118, hy118, hc118⟩ := at_ints f3_84.1 (k) k118
            refine W_v rfl (wanted_t rfl rfl (ev_step (ev_step (ev_step (ev_top (lt_put (lt_put (lt_sz hsz115 rfl)))) rfl) rfl) rfl) (lt_put (lt_put (lt_put (lt_put (lt_put (lt_put (lt_sz hsz115 rfl)))))))) (V_idx (k) rfl (ev_step (ev_top (lt_put (lt_put (lt_put (lt_put (lt_sz hsz115 rfl)))))) rfl) (ev_top (lt_put (lt_put (lt_put (lt_put (lt_put (lt_sz hsz115 rfl))))))) hv118 (by omega) k118 Try.underlying22 (by kernel_rfl)) ?_
            refine W_r rfl (wanted_t rfl rfl (ev_step (ev_step (ev_step (ev_step (ev_top (lt_put (lt_put (lt_sz hsz115 rfl)))) rfl) rfl) rfl) rfl) (lt_put (lt_put (lt_put (lt_put (lt_put (lt_put (lt_put (lt_sz hsz115 rfl))))))))) (VR_ldC rfl (ev_top (lt_put (lt_put (lt_put (lt_put (lt_put (lt_put (lt_sz hsz115 rfl)))))))) hc118 Try.underlying3 rfl) ?_
            refine W_v rfl (wanted_t rfl rfl (ev_step (ev_step (ev_step (ev_step (ev_step (ev_top (lt_put (lt_put (lt_sz hsz115 rfl)))) rfl) rfl) rfl) rfl) rfl) (lt_put (lt_put (lt_put (lt_put (lt_put (lt_put (lt_put (lt_put (lt_sz hsz115 rfl)))))))))) (V_neq rfl (ev_step (ev_step (ev_step (ev_step (ev_top (lt_put (lt_put (lt_put (lt_sz hsz115 rfl))))) rfl) rfl) rfl) rfl) (ev_top (lt_put (lt_put (lt_put (lt_put (lt_put (lt_put (lt_put (lt_sz hsz115 rfl)))))))))) ?_
            refine W_v rfl rfl (V_pickF rfl (ev_step (ev_step (ev_step (ev_step (ev_step (ev_step (ev_top (lt_put (lt_put (lt_sz hsz115 rfl)))) rfl) rfl) rfl) rfl) rfl) rfl) (ev_top (lt_put (lt_put (lt_put (lt_put (lt_put (lt_put (lt_put (lt_put (lt_sz hsz115 rfl))))))))))) ?_
            refine W_end ?_
            refine gen_Q (fun A119 hA119 => ?_)
            have hsz119 : A119.tmps.size = 135 := by rw [hA119]; simp only [sz_put]; exact hsz115
            have hdf119 : A119.defers = [] := by rw [hA119]; simp only [df_put]; exact hdf115
            have l19_119 := lookE hA119 19 (ev_step (ev_step (ev_step (ev_step (ev_step (ev_step (ev_step (ev_step (ev_step (ev_step l19_115 rfl) rfl) rfl) rfl) rfl) rfl) rfl) rfl) rfl) rfl)
            have l20_119 := lookE hA119 20 (ev_step (ev_step (ev_step (ev_step (ev_step (ev_step (ev_step (ev_step (ev_step (ev_step l20_115 rfl) rfl) rfl) rfl) rfl) rfl) rfl) rfl) rfl) rfl)
            have l21_119 := lookE hA119 21 (ev_step (ev_step (ev_step (ev_step (ev_step (ev_step (ev_step (ev_step (ev_step (ev_step l21_115 rfl) rfl) rfl) rfl) rfl) rfl) rfl) rfl) rfl) rfl)
            have l22_119 := lookE hA119 22 (ev_step (ev_step (ev_step (ev_step (ev_step (ev_step (ev_step (ev_step (ev_step (ev_step l22_115 rfl) rfl) rfl) rfl) rfl) rfl) rfl) rfl) rfl) rfl)
            have l23_119 := lookE hA119 23 (ev_step (ev_step (ev_step (ev_step (ev_step (ev_step (ev_step (ev_step (ev_step (ev_step l23_115 rfl) rfl) rfl) rfl) rfl) rfl) rfl) rfl) rfl) rfl)
            have l24_119 := lookE hA119 24 (ev_step (ev_step (ev_step (ev_step (ev_step (ev_step (ev_step (ev_step (ev_step (ev_step l24_115 rfl) rfl) rfl) rfl) rfl) rfl) rfl) rfl) rfl) rfl)
            have l117_119 := lookE hA119 117 (ev_step (ev_step (ev_step (ev_step (ev_step (ev_step (ev_top (lt_put (lt_put (lt_put (lt_sz hsz115 rfl))))) rfl) rfl) rfl) rfl) rfl) rfl)
            have l118_119 := lookE hA119 118 (ev_step (ev_step (ev_step (ev_step (ev_step (ev_top (lt_put (lt_put (lt_put (lt_put (lt_sz hsz115 rfl)))))) rfl) rfl) rfl) rfl) rfl)
            have l119_119 := lookE hA119 119 (ev_step (ev_step (ev_step (ev_step (ev_top (lt_put (lt_put (lt_put (lt_put (lt_put (lt_sz hsz115 rfl))))))) rfl) rfl) rfl) rfl)
            have l120_119 := lookE hA119 120 (ev_step (ev_step (ev_step (ev_top (lt_put (lt_put (lt_put (lt_put (lt_put (lt_put (lt_sz hsz115 rfl)))))))) rfl) rfl) rfl)
            have l121_119 := lookE hA119 121 (ev_step (ev_step (ev_top (lt_put (lt_put (lt_put (lt_put (lt_put (lt_put (lt_put (lt_sz hsz115 rfl))))))))) rfl) rfl)
            have l122_119 := lookE hA119 122 (ev_step (ev_top (lt_put (lt_put (lt_put (lt_put (lt_put (lt_put (lt_put (lt_put (lt_sz hsz115 rfl)))))))))) rfl)
            have l123_119 := lookE hA119 123 (ev_top (lt_put (lt_put (lt_put (lt_put (lt_put (lt_put (lt_put (lt_put (lt_put (lt_sz hsz115 rfl)))))))))))
            clear hA119 hsz115 hdf115 l19_115 l20_115 l21_115 l22_115 l23_115 l24_115 l25_115 l26_115
            refine then_n (hK117 _ _ ?_)
            clear hK117
            refine cond_not l123_119 (by simp [takeS_drop hgood (clear_get hgood (by assumption))]) ?_
            refine wp_skip ?_
            refine then_n (hK116 _ _ ?_)
            clear hK116
            -- region 23
            refine region_in ?_
            refine W_r rfl rfl (VR_ldA rfl l24_119 b111 Try.underlying24 rfl (by kernel_rfl)) ?_
            refine W_stA rfl rfl rfl (ev_step l22_119 rfl) (ev_top (lt_sz hsz119 rfl)) (by simp only [List.all_toArray, List.all_cons, List.all_nil, one_ints f1_108.1, one_ints f2_108.1] <;> rfl) b93 (by rfl) (by kernel_rfl) (fun w120 ht120 hb120 => ?_)
            have hE121 := ext_tch hE114 ht120 oB_93
            replace f1_84 := f1_84.tch ht120 b93 rfl
            replace f2_84 := f2_84.tch ht120 b93 rfl
            replace f3_84 := f3_84.tch ht120 b93 rfl
            replace fy1 := fy1.tch ht120 b93 rfl
            replace fy2 := fy2.tch ht120 b93 rfl
            replace f1_108 := f1_108.tch ht120 b93 rfl
            replace f2_108 := f2_108.tch ht120 b93 rfl
            replace b87 := box_tch b87 ht120 (Nat.ne_of_lt o87_93)
            replace b111 := box_tch b111 ht120 (Nat.ne_of_gt o93_111)
            replace b93 := hb120
            refine W_end ?_
            refine gen_Q (fun A122 hA122 => ?_)
            have hsz122 : A122.tmps.size = 135 := by rw [hA122]; simp only [sz_put]; exact hsz119
            have hdf122 : A122.defers = [] := by rw [hA122]; simp only [df_put]; exact hdf119
            have l19_122 := lookE hA122 19 (ev_step l19_119 rfl)
            have l20_122 := lookE hA122 20 (ev_step l20_119 rfl)
            have l21_122 := lookE hA122 21 (ev_step l21_119 rfl)
            have l22_122 := lookE hA122 22 (ev_step l22_119 rfl)
            have l23_122 := lookE hA122 23 (ev_step l23_119 rfl)
            have l117_122 := lookE hA122 117 (ev_step l117_119 rfl)
            have l118_122 := lookE hA122 118 (ev_step l118_119 rfl)
            have l119_122 := lookE hA122 119 (ev_step l119_119 rfl)
            have l120_122 := lookE hA122 120 (ev_step l120_119 rfl)
            have l121_122 := lookE hA122 121 (ev_step l121_119 rfl)
            have l122_122 := lookE hA122 122 (ev_step l122_119 rfl)
            clear hA122 hsz119 hdf119 l19_119 l20_119 l21_119 l22_119 l23_119 l24_119 l117_119 l118_119 l119_119 l120_119 l121_119 l122_119 l123_119
            refine inb_n ?_
            refine then_n (hK106 _ _ ?_)
            clear hK106
            -- region 19
            refine region_in ?_
            refine W_v rfl rfl (V_mov rfl l23_122) ?_
            refine W_v rfl rfl (V_add rfl (ev_top (lt_sz hsz122 rfl)) rfl (by omega) (by omega)) ?_
            refine W_v rfl rfl (V_asg rfl (ev_top (lt_put (lt_sz hsz122 rfl)))) ?_
            refine W_end ?_
            refine gen_Q (fun A123 hA123 => ?_)
            have hsz123 : A123.tmps.size = 135 := by rw [hA123]; simp only [sz_put]; exact hsz122
            have hdf123 : A123.defers = [] := by rw [hA123]; simp only [df_put]; exact hdf122
            have l19_123 := lookE hA123 19 (ev_step (ev_step (ev_step l19_122 rfl) rfl) rfl)
            have l20_123 := lookE hA123 20 (ev_step (ev_step (ev_step l20_122 rfl) rfl) rfl)
            have l21_123 := lookE hA123 21 (ev_step (ev_step (ev_step l21_122 rfl) rfl) rfl)
            have l22_123 := lookE hA123 22 (ev_step (ev_step (ev_step l22_122 rfl) rfl) rfl)
            have l23_123 := lookE hA123 23 (ev_top (lt_put (lt_put (lt_sz hsz122 rfl))))
            have l117_123 := lookE hA123 117 (ev_step (ev_step (ev_step l117_122 rfl) rfl) rfl)
            have l118_123 := lookE hA123 118 (ev_step (ev_step (ev_step l118_122 rfl) rfl) rfl)
            have l119_123 := lookE hA123 119 (ev_step (ev_step (ev_step l119_122 rfl) rfl) rfl)
            have l120_123 := lookE hA123 120 (ev_step (ev_step (ev_step l120_122 rfl) rfl) rfl)
            have l121_123 := lookE hA123 121 (ev_step (ev_step (ev_step l121_122 rfl) rfl) rfl)
            have l122_123 := lookE hA123 122 (ev_step (ev_step (ev_step l122_122 rfl) rfl) rfl)
            clear hA123 hsz122 hdf122 l19_122 l20_122 l21_122 l22_122 l23_122 l117_122 l118_122 l119_122 l120_122 l121_122 l122_122
            refine then_n ⟨lo.length - ((k + 1)), by simp only [hm101]; omega, hsz123, hdf123, hE121, (k + 1), (v1_108), (v2_108), rfl, (by omega), ((l23_123).trans (by first | rfl | (simp; done) | (congr 1; omega))), ((l19_123).trans l19_100.symm), ((l20_123).trans l20_100.symm), ((l21_123).trans l21_100.symm), ((l22_123).trans l22_100.symm), b87, b93, f1_84, f2_84, f3_84, (by have := f1_108; rw [takeS_dropE hgood (show k < lo.length by omega)] at this; exact .inr this), (by have := f2_108; rw [takeS_dropE hgood (show k < lo.length by omega)] at this; exact .inr this)⟩
          · skip
            refine wp_exit ?_
            refine then_exit ?_
            refine then_exit ?_
            refine inb_hit ?_
            refine then_n (hK98 _ _ ?_)
            clear hK98
            refine wp_seq_k (fun K124 hK124 => ?_)
            -- region 24
            refine region_in ?_
            refine W_v rfl rfl (V_mov rfl l21_104) ?_
            refine W_v rfl rfl (V_eql rfl (ev_top (lt_sz hsz104 rfl)) rfl) ?_
            refine W_sure (c' := true) rfl rfl (V_mov rfl (ev_top (lt_put (lt_sz hsz104 rfl)))) (by simp [hC]) ?_
            refine W_r rfl (wanted_t rfl rfl (ev_top (lt_put (lt_put (lt_sz hsz104 rfl)))) (lt_put (lt_put (lt_put (lt_sz hsz104 rfl))))) (VR_ldA rfl (ev_step (ev_step (ev_step l19_104 rfl) rfl) rfl) b87 Try.underlying24 rfl (by kernel_rfl)) ?_
            refine W_r rfl (wanted_t rfl rfl (ev_step (ev_top (lt_put (lt_put (lt_sz hsz104 rfl)))) rfl) (lt_put (lt_put (lt_put (lt_put (lt_sz hsz104 rfl)))))) (VR_ldA rfl (ev_step (ev_step (ev_step (ev_step l22_104 rfl) rfl) rfl) rfl) b93 Try.underlying24 rfl (by kernel_rfl)) ?_
            refine W_call rfl (wanted_t rfl rfl (ev_step (ev_step (ev_top (lt_put (lt_put (lt_sz hsz104 rfl)))) rfl) rfl) (lt_put (lt_put (lt_put (lt_put (lt_put (lt_sz hsz104 rfl))))))) rfl Try.func28 (by kernel_rfl) rfl (args2 (ev_step (ev_top (lt_put (lt_put (lt_put (lt_sz hsz104 rfl))))) rfl) (ev_top (lt_put (lt_put (lt_put (lt_put (lt_sz hsz104 rfl))))))) (Same_c f1_84.1 f2_84.1 (fy1.ints hE101) (fy2.ints hE101) ) ?_
            rintro _ w125 ⟨rfl, hx125⟩
            refine ⟨_, rfl, ?_⟩
            have hb126 := hE101.size
            have hE127 := Ext.tr hE101 hx125
            replace b87 := heap_ext hx125 b87
            replace b93 := heap_ext hx125 b93
            replace f1_84 := f1_84.ext hx125
            replace f2_84 := f2_84.ext hx125
            replace f3_84 := f3_84.ext hx125
            replace fy1 := fy1.ext hx125
            replace fy2 := fy2.ext hx125
            refine W_v rfl rfl (V_pickT rfl (ev_step (ev_step (ev_step (ev_top (lt_put (lt_put (lt_sz hsz104 rfl)))) rfl) rfl) rfl) (ev_top (lt_put (lt_put (lt_put (lt_put (lt_put (lt_sz hsz104 rfl)))))))) ?_
            refine W_sure (c' := true) rfl rfl (V_mov rfl (ev_top (lt_put (lt_put (lt_put (lt_put (lt_put (lt_put (lt_sz hsz104 rfl))))))))) (by rw [decide_eq_true_eq]; exact ⟨(List.drop_eq_nil_of_le (by omega)).symm, by rw [hC]⟩) ?_
            refine W_call rfl (wanted_t rfl rfl (ev_top (lt_put (lt_put (lt_put (lt_put (lt_put (lt_put (lt_put (lt_sz hsz104 rfl))))))))) (lt_put (lt_put (lt_put (lt_put (lt_put (lt_put (lt_put (lt_put (lt_sz hsz104 rfl)))))))))) rfl Try.func12 (by kernel_rfl) rfl (args0) (awake_c  ) ?_
            rintro _ w128 ⟨rfl, hx128⟩
            refine ⟨_, rfl, ?_⟩
            have hb129 := hE127.size
            have hE130 := Ext.tr hE127 hx128
            replace b87 := heap_ext hx128 b87
            replace b93 := heap_ext hx128 b93
            replace f1_84 := f1_84.ext hx128
            replace f2_84 := f2_84.ext hx128
            replace f3_84 := f3_84.ext hx128
            replace fy1 := fy1.ext hx128
            replace fy2 := fy2.ext hx128
            refine W_v rfl rfl (V_pickT rfl (ev_step (ev_top (lt_put (lt_put (lt_put (lt_put (lt_put (lt_put (lt_put (lt_sz hsz104 rfl))))))))) rfl) (ev_top (lt_put (lt_put (lt_put (lt_put (lt_put (lt_put (lt_put (lt_put (lt_sz hsz104 rfl))))))))))) ?_
            refine W_v rfl rfl (V_asg rfl (ev_top (lt_put (lt_put (lt_put (lt_put (lt_put (lt_put (lt_put (lt_put (lt_put (lt_sz hsz104 rfl)))))))))))) ?_
            refine W_end ?_
            refine gen_Q (fun A131 hA131 => ?_)
            have hsz131 : A131.tmps.size = 135 := by rw [hA131]; simp only [sz_put]; exact hsz104
            have hdf131 : A131.defers = [] := by rw [hA131]; simp only [df_put]; exact hdf104
            have l4_131 := lookE hA131 4 (ev_top (lt_put (lt_put (lt_put (lt_put (lt_put (lt_put (lt_put (lt_put (lt_put (lt_put (lt_sz hsz104 rfl))))))))))))
            clear hA131 hsz104 hdf104 l19_104 l20_104 l21_104 l22_104 l23_104 l105_104
            refine then_n (hK124 _ _ ?_)
            clear hK124
            refine wp_ret ?_
            refine ret_in (results_1 Try.results7 (rv_tmp l4_131)) hdf131 ?_
            -- leaf FFTTF
            exact ⟨rfl, hE130⟩
        · skip
          refine wp_skip ?_
          refine then_n (hK68 _ _ ?_)
          clear hK68
          refine wp_seq_k (fun K132 hK132 => ?_)
          -- region 13
          refine region_in ?_
          refine W_v rfl rfl (V_mov rfl l16_70) ?_
          refine W_v rfl rfl (V_neq rfl (ev_top (lt_sz hsz70 rfl)) rfl) ?_
          refine W_sure (c' := false) rfl rfl (V_mov rfl (ev_top (lt_put (lt_sz hsz70 rfl)))) (by simp [hF]) ?_
          refine W_v rfl (wanted_t rfl rfl (ev_top (lt_put (lt_put (lt_sz hsz70 rfl)))) (lt_put (lt_put (lt_put (lt_sz hsz70 rfl))))) (V_mov rfl (ev_step (ev_step (ev_step l18_70 rfl) rfl) rfl)) ?_
          refine W_v rfl (wanted_t rfl rfl (ev_step (ev_top (lt_put (lt_put (lt_sz hsz70 rfl)))) rfl) (lt_put (lt_put (lt_put (lt_put (lt_sz hsz70 rfl)))))) (V_neq rfl (ev_top (lt_put (lt_put (lt_put (lt_sz hsz70 rfl))))) rfl) ?_
          refine W_v rfl rfl (V_pickF rfl (ev_step (ev_step (ev_top (lt_put (lt_put (lt_sz hsz70 rfl)))) rfl) rfl) (ev_top (lt_put (lt_put (lt_put (lt_put (lt_sz hsz70 rfl))))))) ?_
          refine W_sure (c' := false) rfl rfl (V_mov rfl (ev_top (lt_put (lt_put (lt_put (lt_put (lt_put (lt_sz hsz70 rfl)))))))) (by simp [hP]) ?_
          refine W_r rfl (wanted_t rfl rfl (ev_top (lt_put (lt_put (lt_put (lt_put (lt_put (lt_put (lt_sz hsz70 rfl)))))))) (lt_put (lt_put (lt_put (lt_put (lt_put (lt_put (lt_put (lt_sz hsz70 rfl))))))))) (VR_ldA rfl (ev_step (ev_step (ev_step (ev_step (ev_step (ev_step (ev_step l8_70 rfl) rfl) rfl) rfl) rfl) rfl) rfl) b33 Try.underlying24 rfl (by kernel_rfl)) ?_
          refine W_r rfl (wanted_t rfl rfl (ev_step (ev_top (lt_put (lt_put (lt_put (lt_put (lt_put (lt_put (lt_sz hsz70 rfl)))))))) rfl) (lt_put (lt_put (lt_put (lt_put (lt_put (lt_put (lt_put (lt_put (lt_sz hsz70 rfl)))))))))) (VR_ldA rfl (ev_step (ev_step (ev_step (ev_step (ev_step (ev_step (ev_step (ev_step l17_70 rfl) rfl) rfl) rfl) rfl) rfl) rfl) rfl) b63 Try.underlying24 rfl (by kernel_rfl)) ?_
          refine W_call rfl (wanted_t rfl rfl (ev_step (ev_step (ev_top (lt_put (lt_put (lt_put (lt_put (lt_put (lt_put (lt_sz hsz70 rfl)))))))) rfl) rfl) (lt_put (lt_put (lt_put (lt_put (lt_put (lt_put (lt_put (lt_put (lt_put (lt_sz hsz70 rfl))))))))))) rfl Try.func28 (by kernel_rfl) rfl (args2 (ev_step (ev_top (lt_put (lt_put (lt_put (lt_put (lt_put (lt_put (lt_put (lt_sz hsz70 rfl))))))))) rfl) (ev_top (lt_put (lt_put (lt_put (lt_put (lt_put (lt_put (lt_put (lt_put (lt_sz hsz70 rfl))))))))))) (Same_c f1_30.1 f2_30.1 f1_60.1 f2_60.1 ) ?_
          rintro _ w133 ⟨rfl, hx133⟩
          refine ⟨_, rfl, ?_⟩
          have hb134 := hE66.size
          have hE135 := Ext.tr hE66 hx133
          replace b2 := heap_ext hx133 b2
          replace b33 := heap_ext hx133 b33
          replace b42 := heap_ext hx133 b42
          replace b63 := heap_ext hx133 b63
          replace f1_30 := f1_30.ext hx133
          replace f2_30 := f2_30.ext hx133
          replace f1_39 := f1_39.ext hx133
          replace f2_39 := f2_39.ext hx133
          replace f1_60 := f1_60.ext hx133
          replace f2_60 := f2_60.ext hx133
          refine W_v rfl (wanted_t rfl rfl (ev_step (ev_step (ev_step (ev_top (lt_put (lt_put (lt_put (lt_put (lt_put (lt_put (lt_sz hsz70 rfl)))))))) rfl) rfl) rfl) (lt_put (lt_put (lt_put (lt_put (lt_put (lt_put (lt_put (lt_put (lt_put (lt_put (lt_sz hsz70 rfl)))))))))))) (V_notd rfl (ev_top (lt_put (lt_put (lt_put (lt_put (lt_put (lt_put (lt_put (lt_put (lt_put (lt_sz hsz70 rfl)))))))))))) ?_
          refine W_v rfl rfl (V_pickF rfl (ev_step (ev_step (ev_step (ev_step (ev_top (lt_put (lt_put (lt_put (lt_put (lt_put (lt_put (lt_sz hsz70 rfl)))))))) rfl) rfl) rfl) rfl) (ev_top (lt_put (lt_put (lt_put (lt_put (lt_put (lt_put (lt_put (lt_put (lt_put (lt_put (lt_sz hsz70 rfl))))))))))))) ?_
          refine W_end ?_
          refine gen_Q (fun A136 hA136 => ?_)
          have hsz136 : A136.tmps.size = 135 := by rw [hA136]; simp only [sz_put]; exact hsz70
          have hdf136 : A136.defers = [] := by rw [hA136]; simp only [df_put]; exact hdf70
          have l2_136 := lookE hA136 2 (ev_step (ev_step (ev_step (ev_step (ev_step (ev_step (ev_step (ev_step (ev_step (ev_step (ev_step (ev_step l2_70 rfl) rfl) rfl) rfl) rfl) rfl) rfl) rfl) rfl) rfl) rfl) rfl)
          have l94_136 := lookE hA136 94 (ev_top (lt_put (lt_put (lt_put (lt_put (lt_put (lt_put (lt_put (lt_put (lt_put (lt_put (lt_put (lt_sz hsz70 rfl)))))))))))))
          clear hA136 hsz70 hdf70 l2_70 l8_70 l11_70 l12_70 l16_70 l17_70 l18_70 l76_70
          refine then_n (hK132 _ _ ?_)
          clear hK132
          refine cond_not l94_136 (by simp [hP, c71]) ?_
          refine wp_skip ?_
          refine then_n (hK50 _ _ ?_)
          clear hK50
          refine wp_seq_k (fun K137 hK137 => ?_)
          -- region 15
          refine region_in ?_
          refine W_r rfl rfl (VR_ldA rfl l2_136 b2 Try.underlying24 rfl (by kernel_rfl)) ?_
          refine W_call rfl rfl rfl Try.func27 (by kernel_rfl) rfl (args1 (ev_top (lt_sz hsz136 rfl))) (Clear_c (h_lv.ext hE135) (h_yv.ext hE135) ) ?_
          rintro _ w138 ⟨v1_138, v2_138, u_138, rfl, f1_138, f2_138, f3_138, hx138⟩
          refine ⟨_, rfl, ?_⟩
          have hb139 := hE135.size
          have hE140 := Ext.tr hE135 hx138
          replace b2 := heap_ext hx138 b2
          replace f1_138 := f1_138.base hb139
          replace f2_138 := f2_138.base hb139
          replace f3_138 := f3_138.base hb139
          refine W_v rfl rfl (V_mov rfl (ev_top (lt_put (lt_sz hsz136 rfl)))) ?_
          refine W_v rfl rfl (V_ext rfl (ev_top (lt_put (lt_put (lt_sz hsz136 rfl)))) rfl) ?_
          refine W_v rfl rfl (V_ext rfl (ev_step (ev_top (lt_put (lt_put (lt_sz hsz136 rfl)))) rfl) rfl) ?_
          refine W_v rfl rfl (V_ext rfl (ev_step (ev_step (ev_top (lt_put (lt_put (lt_sz hsz136 rfl)))) rfl) rfl) rfl) ?_
          refine W_alloc (z := .agg #[.slice none 0 0, .slice none 0 0]) (cs := #[.slice none 0 0, .slice none 0 0]) rfl rfl rfl (by kernel_rfl) rfl (fun g141 w141 hg141 hx141 b141 => ?_)
          have o2_141 : g2 < g141 := hg141 ▸ lt_size b2
          have oB_141 : w.heap.size ≤ g141 := hg141 ▸ hE140.size
          have hE142 := Ext.tr hE140 hx141
          replace b2 := heap_ext hx141 b2
          replace f1_138 := f1_138.ext hx141
          replace f2_138 := f2_138.ext hx141
          replace f3_138 := f3_138.ext hx141
          refine W_stA rfl rfl rfl (ev_top (lt_put (lt_put (lt_put (lt_put (lt_put (lt_put (lt_sz hsz136 rfl)))))))) (ev_step (ev_step (ev_step (ev_top (lt_put (lt_put (lt_put (lt_sz hsz136 rfl))))) rfl) rfl) rfl) (by simp only [List.all_toArray, List.all_cons, List.all_nil, one_ints f1_138.1, one_ints f2_138.1] <;> rfl) b141 (by rfl) (by kernel_rfl) (fun w143 ht143 hb143 => ?_)
          have hE144 := ext_tch hE142 ht143 oB_141
          replace f1_138 := f1_138.tch ht143 b141 rfl
          replace f2_138 := f2_138.tch ht143 b141 rfl
          replace f3_138 := f3_138.tch ht143 b141 rfl
          replace b2 := box_tch b2 ht143 (Nat.ne_of_lt o2_141)
          replace b141 := hb143
          refine W_v rfl rfl (V_asg rfl (ev_step (ev_step (ev_top (lt_put (lt_put (lt_put (lt_put (lt_sz hsz136 rfl)))))) rfl) rfl)) ?_
          refine W_v rfl rfl (V_asg rfl (ev_step (ev_step (ev_top (lt_put (lt_put (lt_put (lt_put (lt_put (lt_sz hsz136 rfl))))))) rfl) rfl)) ?_
          refine W_end ?_
          refine gen_Q (fun A145 hA145 => ?_)
          have hsz145 : A145.tmps.size = 135 := by rw [hA145]; simp only [sz_put]; exact hsz136
          have hdf145 : A145.defers = [] := by rw [hA145]; simp only [df_put]; exact hdf136
          have l2_145 := lookE hA145 2 (ev_step (ev_step (ev_step (ev_step (ev_step (ev_step (ev_step (ev_step (ev_step l2_136 rfl) rfl) rfl) rfl) rfl) rfl) rfl) rfl) rfl)
          have l19_145 := lookE hA145 19 (ev_step (ev_step (ev_top (lt_put (lt_put (lt_put (lt_put (lt_put (lt_put (lt_sz hsz136 rfl)))))))) rfl) rfl)
          have l20_145 := lookE hA145 20 (ev_step (ev_top (lt_put (lt_put (lt_put (lt_put (lt_put (lt_put (lt_put (lt_sz hsz136 rfl))))))))) rfl)
          have l21_145 := lookE hA145 21 (ev_top (lt_put (lt_put (lt_put (lt_put (lt_put (lt_put (lt_put (lt_put (lt_sz hsz136 rfl))))))))))
          clear hA145 hsz136 hdf136 l2_136 l94_136
          refine then_n (hK137 _ _ ?_)
          clear hK137
          refine wp_seq_k (fun K146 hK146 => ?_)
          -- region 16
          refine region_in ?_
          refine W_r rfl rfl (VR_ldA rfl l2_145 b2 Try.underlying24 rfl (by kernel_rfl)) ?_
          refine W_alloc (z := .agg #[.slice none 0 0, .slice none 0 0]) (cs := #[.slice none 0 0, .slice none 0 0]) rfl rfl rfl (by kernel_rfl) rfl (fun g147 w147 hg147 hx147 b147 => ?_)
          have o2_147 : g2 < g147 := hg147 ▸ lt_size b2
          have o141_147 : g141 < g147 := hg147 ▸ lt_size b141
          have oB_147 : w.heap.size ≤ g147 := hg147 ▸ hE144.size
          have hE148 := Ext.tr hE144 hx147
          replace b2 := heap_ext hx147 b2
          replace b141 := heap_ext hx147 b141
          replace f1_138 := f1_138.ext hx147
          replace f2_138 := f2_138.ext hx147
          replace f3_138 := f3_138.ext hx147
          refine W_stA rfl rfl rfl (ev_top (lt_put (lt_sz hsz145 rfl))) (ev_step (ev_top (lt_sz hsz145 rfl)) rfl) (by simp only [List.all_toArray, List.all_cons, List.all_nil, one_ints (h_lv.ext hE148), one_ints (h_yv.ext hE148)] <;> rfl) b147 (by rfl) (by kernel_rfl) (fun w149 ht149 hb149 => ?_)
          have hE150 := ext_tch hE148 ht149 oB_147
          replace f1_138 := f1_138.tch ht149 b147 rfl
          replace f2_138 := f2_138.tch ht149 b147 rfl
          replace f3_138 := f3_138.tch ht149 b147 rfl
          replace b2 := box_tch b2 ht149 (Nat.ne_of_lt o2_147)
          replace b141 := box_tch b141 ht149 (Nat.ne_of_lt o141_147)
          replace b147 := hb149
          refine W_end ?_
          refine gen_Q (fun A151 hA151 => ?_)
          have hsz151 : A151.tmps.size = 135 := by rw [hA151]; simp only [sz_put]; exact hsz145
          have hdf151 : A151.defers = [] := by rw [hA151]; simp only [df_put]; exact hdf145
          have l19_151 := lookE hA151 19 (ev_step (ev_step l19_145 rfl) rfl)
          have l20_151 := lookE hA151 20 (ev_step (ev_step l20_145 rfl) rfl)
          have l21_151 := lookE hA151 21 (ev_step (ev_step l21_145 rfl) rfl)
          have l22_151 := lookE hA151 22 (ev_top (lt_put (lt_sz hsz145 rfl)))
          clear hA151 hsz145 hdf145 l2_145 l19_145 l20_145 l21_145
          refine then_n (hK146 _ _ ?_)
          clear hK146
          refine wp_seq_k (fun K152 hK152 => ?_)
          refine wp_seq_k (fun K153 hK153 => ?_)
          -- region 17
          refine region_in ?_
          refine W_v rfl rfl (V_asg rfl rfl) ?_
          refine W_end ?_
          refine gen_Q (fun A154 hA154 => ?_)
          have hsz154 : A154.tmps.size = 135 := by rw [hA154]; simp only [sz_put]; exact hsz151
          have hdf154 : A154.defers = [] := by rw [hA154]; simp only [df_put]; exact hdf151
          have l19_154 := lookE hA154 19 (ev_step l19_151 rfl)
          have l20_154 := lookE hA154 20 (ev_step l20_151 rfl)
          have l21_154 := lookE hA154 21 (ev_step l21_151 rfl)
          have l22_154 := lookE hA154 22 (ev_step l22_151 rfl)
          have l23_154 := lookE hA154 23 (ev_top (lt_sz hsz151 rfl))
          clear hA154 hsz151 hdf151 l19_151 l20_151 l21_151 l22_151
          refine then_n (hK153 _ _ ?_)
          clear hK153
          refine wp_block ?_
          -- loop 18
          refine loopX (fun n A' w' => A'.tmps.size = 135 ∧ A'.defers = [] ∧ Ext w w' ∧ (∃ (k : Nat) (yl : Value) (yy : Value), (n = lo.length - k) ∧ (k ≤ lo.length) ∧ (EV A' (.tmp 23) = .int .i64 (k : Int)) ∧ (EV A' (.tmp 19) = EV A154 (.tmp 19)) ∧ (EV A' (.tmp 20) = EV A154 (.tmp 20)) ∧ (EV A' (.tmp 21) = EV A154 (.tmp 21)) ∧ (EV A' (.tmp 22) = EV A154 (.tmp 22)) ∧ (w'.heap[g141]? = some (.cells #[v1_138, v2_138] 24 (0, 0))) ∧ (w'.heap[g147]? = some (.cells #[yl, yy] 24 (0, 0))) ∧ (FreI w' w.heap.size 3 (v1_138) ([])) ∧ (FreI w' w.heap.size 3 (v2_138) (((clearS lo yo).yo))) ∧ (FreI w' w.heap.size 3 (u_138) (((clearS lo yo).lo))) ∧ (MixI w w' 3 (yl) (lo.drop k)) ∧ (MixI w w' 3 (yy) (yo)))) (lo.length - (0)) ⟨hsz154, hdf154, hE150, 0, lv, yv, rfl, (Nat.zero_le _), ((l23_154).trans (by first | rfl | (simp; done) | (congr 1; omega))), rfl, rfl, rfl, rfl, b141, b147, f1_138, f2_138, f3_138, (.inl (by simpa using h_lv)), (.inl h_yv)⟩ ?_
          clear b141 b147 f1_138 f2_138 f3_138
          rintro n155 A155 w155 ⟨hsz155, hdf155, hE155, k, yl, yy, hm155, hk, l23_155, u19_155, u20_155, u21_155, u22_155, b141, b147, f1_138, f2_138, f3_138, fy1, fy2⟩
          have l19_155 := u19_155.trans l19_154
          have l20_155 := u20_155.trans l20_154
          have l21_155 := u21_155.trans l21_154
          have l22_155 := u22_155.trans l22_154
          refine wp_seq_k (fun K156 hK156 => ?_)
          refine wp_seq_k (fun K157 hK157 => ?_)
          -- region 18
          refine region_in ?_
          refine W_v rfl rfl (V_mov rfl l23_155) ?_
          refine W_v rfl rfl (V_mov rfl (ev_step l20_155 rfl)) ?_
          refine W_v rfl rfl (V_lenI rfl (ev_top (lt_put (lt_sz hsz155 rfl))) f3_138.1 Try.underlying22) ?_
          refine W_v rfl rfl (V_lss rfl (ev_step (ev_step (ev_top (lt_sz hsz155 rfl)) rfl) rfl) (ev_top (lt_put (lt_put (lt_sz hsz155 rfl))))) ?_
          refine W_end ?_
          refine gen_Q (fun A158 hA158 => ?_)
          have hsz158 : A158.tmps.size = 135 := by rw [hA158]; simp only [sz_put]; exact hsz155
          have hdf158 : A158.defers = [] := by rw [hA158]; simp only [df_put]; exact hdf155
          have l19_158 := lookE hA158 19 (ev_step (ev_step (ev_step (ev_step l19_155 rfl) rfl) rfl) rfl)
          have l20_158 := lookE hA158 20 (ev_step (ev_step (ev_step (ev_step l20_155 rfl) rfl) rfl) rfl)
          have l21_158 := lookE hA158 21 (ev_step (ev_step (ev_step (ev_step l21_155 rfl) rfl) rfl) rfl)
          have l22_158 := lookE hA158 22 (ev_step (ev_step (ev_step (ev_step l22_155 rfl) rfl) rfl) rfl)
          have l23_158 := lookE hA158 23 (ev_step (ev_step (ev_step (ev_step l23_155 rfl) rfl) rfl) rfl)
          have l105_158 := lookE hA158 105 (ev_top (lt_put (lt_put (lt_put (lt_sz hsz155 rfl)))))
          clear hA158 hsz155 hdf155 l23_155 l19_155 l20_155 l21_155 l22_155
          refine then_n (hK157 _ _ ?_)
          clear hK157
          refine cond_dec l105_158 (fun c159 => ?_) (fun c159 => ?_)
          · skip
            refine wp_skip ?_
            refine then_n (hK156 _ _ ?_)
            clear hK156
            refine wp_seq_k (fun K160 hK160 => ?_)
            refine wp_block ?_
            refine wp_seq_k (fun K161 hK161 => ?_)
            -- region 20
            refine region_in ?_
            refine W_r rfl rfl (VR_ldA rfl l22_158 b147 Try.underlying24 rfl (by kernel_rfl)) ?_
            refine W_call rfl rfl rfl Try.func19 (by kernel_rfl) rfl (args1 (ev_top (lt_sz hsz158 rfl))) (Take_c (fy1.ints hE155) (fy2.ints hE155) (by first | omega | (simp; omega)) (by first | omega | (simp; omega))) ?_
            rintro _ w162 ⟨v1_162, v2_162, rfl, f1_162, f2_162, hx162⟩
            refine ⟨_, rfl, ?_⟩
            have hb163 := hE155.size
            have hE164 := Ext.tr hE155 hx162
            replace b141 := heap_ext hx162 b141
            replace b147 := heap_ext hx162 b147
            replace f1_138 := f1_138.ext hx162
            replace f2_138 := f2_138.ext hx162
            replace f3_138 := f3_138.ext hx162
            replace fy1 := fy1.ext hx162
            replace fy2 := fy2.ext hx162
            replace f1_162 := f1_162.base hb163
            replace f2_162 := f2_162.base hb163
            refine W_v rfl rfl (V_mov rfl (ev_top (lt_put (lt_sz hsz158 rfl)))) ?_
            refine W_v rfl rfl (V_ext rfl (ev_top (lt_put (lt_put (lt_sz hsz158 rfl)))) rfl) ?_
            refine W_v rfl rfl (V_ext rfl (ev_step (ev_top (lt_put (lt_put (lt_sz hsz158 rfl)))) rfl) rfl) ?_
            refine W_v rfl rfl (V_ext rfl (ev_step (ev_step (ev_top (lt_put (lt_put (lt_sz hsz158 rfl)))) rfl) rfl) rfl) ?_
            refine W_alloc (z := .agg #[.slice none 0 0, .slice none 0 0]) (cs := #[.slice none 0 0, .slice none 0 0]) rfl rfl rfl (by kernel_rfl) rfl (fun g165 w165 hg165 hx165 b165 => ?_)
            have o141_165 : g141 < g165 := hg165 ▸ lt_size b141
            have o147_165 : g147 < g165 := hg165 ▸ lt_size b147
            have oB_165 : w.heap.size ≤ g165 := hg165 ▸ hE164.size
            have hE166 := Ext.tr hE164 hx165
            replace b141 := heap_ext hx165 b141
            replace b147 := heap_ext hx165 b147
            replace f1_138 := f1_138.ext hx165
            replace f2_138 := f2_138.ext hx165
            replace f3_138 := f3_138.ext hx165
            replace fy1 := fy1.ext hx165
            replace fy2 := fy2.ext hx165
            replace f1_162 := f1_162.ext hx165
            replace f2_162 := f2_162.ext hx165
            refine W_stA rfl rfl rfl (ev_top (lt_put (lt_put (lt_put (lt_put (lt_put (lt_put (lt_sz hsz158 rfl)))))))) (ev_step (ev_step (ev_step (ev_top (lt_put (lt_put (lt_put (lt_sz hsz158 rfl))))) rfl) rfl) rfl) (by simp only [List.all_toArray, List.all_cons, List.all_nil, one_ints f1_162.1, one_ints f2_162.1] <;> rfl) b165 (by rfl) (by kernel_rfl) (fun w167 ht167 hb167 => ?_)
            have hE168 := ext_tch hE166 ht167 oB_165
            replace f1_138 := f1_138.tch ht167 b165 rfl
            replace f2_138 := f2_138.tch ht167 b165 rfl
            replace f3_138 := f3_138.tch ht167 b165 rfl
            replace fy1 := fy1.tch ht167 b165 rfl
            replace fy2 := fy2.tch ht167 b165 rfl
            replace f1_162 := f1_162.tch ht167 b165 rfl
            replace f2_162 := f2_162.tch ht167 b165 rfl
            replace b141 := box_tch b141 ht167 (Nat.ne_of_lt o141_165)
            replace b147 := box_tch b147 ht167 (Nat.ne_of_lt o147_165)
            replace b165 := hb167
            refine W_v rfl rfl (V_asg rfl (ev_step (ev_step (ev_top (lt_put (lt_put (lt_put (lt_put (lt_sz hsz158 rfl)))))) rfl) rfl)) ?_
            refine W_v rfl rfl (V_asg rfl (ev_step (ev_step (ev_top (lt_put (lt_put (lt_put (lt_put (lt_put (lt_sz hsz158 rfl))))))) rfl) rfl)) ?_
            refine W_end ?_
            refine gen_Q (fun A169 hA169 => ?_)
            have hsz169 : A169.tmps.size = 135 := by rw [hA169]; simp only [sz_put]; exact hsz158
            have hdf169 : A169.defers = [] := by rw [hA169]; simp only [df_put]; exact hdf158
            have l19_169 := lookE hA169 19 (ev_step (ev_step (ev_step (ev_step (ev_step (ev_step (ev_step (ev_step (ev_step l19_158 rfl) rfl) rfl) rfl) rfl) rfl) rfl) rfl) rfl)
            have l20_169 := lookE hA169 20 (ev_step (ev_step (ev_step (ev_step (ev_step (ev_step (ev_step (ev_step (ev_step l20_158 rfl) rfl) rfl) rfl) rfl) rfl) rfl) rfl) rfl)
            have l21_169 := lookE hA169 21 (ev_step (ev_step (ev_step (ev_step (ev_step (ev_step (ev_step (ev_step (ev_step l21_158 rfl) rfl) rfl) rfl) rfl) rfl) rfl) rfl) rfl)
            have l22_169 := lookE hA169 22 (ev_step (ev_step (ev_step (ev_step (ev_step (ev_step (ev_step (ev_step (ev_step l22_158 rfl) rfl) rfl) rfl) rfl) rfl) rfl) rfl) rfl)
            have l23_169 := lookE hA169 23 (ev_step (ev_step (ev_step (ev_step (ev_step (ev_step (ev_step (ev_step (ev_step l23_158 rfl) rfl) rfl) rfl) rfl) rfl) rfl) rfl) rfl)
            have l24_169 := lookE hA169 24 (ev_step (ev_step (ev_top (lt_put (lt_put (lt_put (lt_put (lt_put (lt_put (lt_sz hsz158 rfl)))))))) rfl) rfl)
            have l25_169 := lookE hA169 25 (ev_step (ev_top (lt_put (lt_put (lt_put (lt_put (lt_put (lt_put (lt_put (lt_sz hsz158 rfl))))))))) rfl)
            have l26_169 := lookE hA169 26 (ev_top (lt_put (lt_put (lt_put (lt_put (lt_put (lt_put (lt_put (lt_put (lt_sz hsz158 rfl))))))))))
            clear hA169 hsz158 hdf158 l19_158 l20_158 l21_158 l22_158 l23_158 l105_158
            refine then_n (hK161 _ _ ?_)
            clear hK161
            refine wp_seq_k (fun K170 hK170 => ?_)
            refine wp_seq_k (fun K171 hK171 => ?_)
            -- region 21
            refine region_in ?_
            refine W_v rfl rfl (V_mov rfl l26_169) ?_
            refine W_v rfl rfl (V_neq rfl (ev_top (lt_sz hsz169 rfl)) rfl) ?_
            refine W_sure (c' := false) rfl rfl (V_mov rfl (ev_top (lt_put (lt_sz hsz169 rfl)))) (by simp [takeS_dropE hgood (show k < lo.length by omega)]) ?_
            refine W_v rfl (wanted_t rfl rfl (ev_top (lt_put (lt_put (lt_sz hsz169 rfl)))) (lt_put (lt_put (lt_put (lt_sz hsz169 rfl))))) (V_mov rfl (ev_step (ev_step (ev_step l25_169 rfl) rfl) rfl)) ?_
            refine W_v rfl (wanted_t rfl rfl (ev_step (ev_top (lt_put (lt_put (lt_sz hsz169 rfl)))) rfl) (lt_put (lt_put (lt_put (lt_put (lt_sz hsz169 rfl)))))) (V_mov rfl (ev_step (ev_step (ev_step (ev_step l20_169 rfl) rfl) rfl) rfl)) ?_
            refine W_v rfl (wanted_t rfl rfl (ev_step (ev_step (ev_top (lt_put (lt_put (lt_sz hsz169 rfl)))) rfl) rfl) (lt_put (lt_put (lt_put (lt_put (lt_put (lt_sz hsz169 rfl))))))) (V_mov rfl (ev_step (ev_step (ev_step (ev_step (ev_step l23_169 rfl) rfl) rfl) rfl) rfl)) ?_
            have k172 : k < ((clearS lo yo).lo).length := by omega
            obtain ⟨B172, O172, C172, y172, hv172, hy172, hc172⟩ := at_ints f3_138.1 (k) k172
            refine W_v rfl (wanted_t rfl rfl (ev_step (ev_step (ev_step (ev_top (lt_put (lt_put (lt_sz hsz169 rfl)))) rfl) rfl) rfl) (lt_put (lt_put (lt_put (lt_put (lt_put (lt_put (lt_sz hsz169 rfl)))))))) (V_idx (k) rfl (ev_step (ev_top (lt_put (lt_put (lt_put (lt_put (lt_sz hsz169 rfl)))))) rfl) (ev_top (lt_put (lt_put (lt_put (lt_put (lt_put (lt_sz hsz169 rfl))))))) hv172 (by omega) k172 Try.underlying22 (by kernel_rfl)) ?_
            refine W_r rfl (wanted_t rfl rfl (ev_step (ev_step (ev_step (ev_step (ev_top (lt_put (lt_put (lt_sz hsz169 rfl)))) rfl) rfl) rfl) rfl) (lt_put (lt_put (lt_put (lt_put (lt_put (lt_put (lt_put (lt_sz hsz169 rfl))))))))) (VR_ldC rfl (ev_top (lt_put (lt_put (lt_put (lt_put (lt_put (lt_put (lt_sz hsz169 rfl)))))))) hc172 Try.underlying3 rfl) ?_
            refine W_v rfl (wanted_t rfl rfl (ev_step (ev_step (ev_step (ev_step (ev_step (ev_top (lt_put (lt_put (lt_sz hsz169 rfl)))) rfl) rfl) rfl) rfl) rfl) (lt_put (lt_put (lt_put (lt_put (lt_put (lt_put (lt_put (lt_put (lt_sz hsz169 rfl)))))))))) (V_neq rfl (ev_step (ev_step (ev_step (ev_step (ev_top (lt_put (lt_put (lt_put (lt_sz hsz169 rfl))))) rfl) rfl) rfl) rfl) (ev_top (lt_put (lt_put (lt_put (lt_put (lt_put (lt_put (lt_put (lt_sz hsz169 rfl)))))))))) ?_
            refine W_v rfl rfl (V_pickF rfl (ev_step (ev_step (ev_step (ev_step (ev_step (ev_step (ev_top (lt_put (lt_put (lt_sz hsz169 rfl)))) rfl) rfl) rfl) rfl) rfl) rfl) (ev_top (lt_put (lt_put (lt_put (lt_put (lt_put (lt_put (lt_put (lt_put (lt_sz hsz169 rfl))))))))))) ?_
            refine W_end ?_
            refine gen_Q (fun A173 hA173 => ?_)
            have hsz173 : A173.tmps.size = 135 := by rw [hA173]; simp only [sz_put]; exact hsz169
            have hdf173 : A173.defers = [] := by rw [hA173]; simp only [df_put]; exact hdf169
            have l19_173 := lookE hA173 19 (ev_step (ev_step (ev_step (ev_step (ev_step (ev_step (ev_step (ev_step (ev_step (ev_step l19_169 rfl) rfl) rfl) rfl) rfl) rfl) rfl) rfl) rfl) rfl)
            have l20_173 := lookE hA173 20 (ev_step (ev_step (ev_step (ev_step (ev_step (ev_step (ev_step (ev_step (ev_step (ev_step l20_169 rfl) rfl) rfl) rfl) rfl) rfl) rfl) rfl) rfl) rfl)
            have l21_173 := lookE hA173 21 (ev_step (ev_step (ev_step (ev_step (ev_step (ev_step (ev_step (ev_step (ev_step (ev_step l21_169 rfl) rfl) rfl) rfl) rfl) rfl) rfl) rfl) rfl) rfl)
            have l22_173 := lookE hA173 22 (ev_step (ev_step (ev_step (ev_step (ev_step (ev_step (ev_step (ev_step (ev_step (ev_step l22_169 rfl) rfl) rfl) rfl) rfl) rfl) rfl) rfl) rfl) rfl)
            have l23_173 := lookE hA173 23 (ev_step (ev_step (ev_step (ev_step (ev_step (ev_step (ev_step (ev_step (ev_step (ev_step l23_169 rfl) rfl) rfl) rfl) rfl) rfl) rfl) rfl) rfl) rfl)
            have l24_173 := lookE hA173 24 (ev_step (ev_step (ev_step (ev_step (ev_step (ev_step (ev_step (ev_step (ev_step (ev_step l24_169 rfl) rfl) rfl) rfl) rfl) rfl) rfl) rfl) rfl) rfl)
            have l117_173 := lookE hA173 117 (ev_step (ev_step (ev_step (ev_step (ev_step (ev_step (ev_top (lt_put (lt_put (lt_put (lt_sz hsz169 rfl))))) rfl) rfl) rfl) rfl) rfl) rfl)
            have l118_173 := lookE hA173 118 (ev_step (ev_step (ev_step (ev_step (ev_step (ev_top (lt_put (lt_put (lt_put (lt_put (lt_sz hsz169 rfl)))))) rfl) rfl) rfl) rfl) rfl)
            have l119_173 := lookE hA173 119 (ev_step (ev_step (ev_step (ev_step (ev_top (lt_put (lt_put (lt_put (lt_put (lt_put (lt_sz hsz169 rfl))))))) rfl) rfl) rfl) rfl)
            have l120_173 := lookE hA173 120 (ev_step (ev_step (ev_step (ev_top (lt_put (lt_put (lt_put (lt_put (lt_put (lt_put (lt_sz hsz169 rfl)))))))) rfl) rfl) rfl)
            have l121_173 := lookE hA173 121 (ev_step (ev_step (ev_top (lt_put (lt_put (lt_put (lt_put (lt_put (lt_put (lt_put (lt_sz hsz169 rfl))))))))) rfl) rfl)
            have l122_173 := lookE hA173 122 (ev_step (ev_top (lt_put (lt_put (lt_put (lt_put (lt_put (lt_put (lt_put (lt_put (lt_sz hsz169 rfl)))))))))) rfl)
            have l123_173 := lookE hA173 123 (ev_top (lt_put (lt_put (lt_put (lt_put (lt_put (lt_put (lt_put (lt_put (lt_put (lt_sz hsz169 rfl)))))))))))
            clear hA173 hsz169 hdf169 l19_169 l20_169 l21_169 l22_169 l23_169 l24_169 l25_169 l26_169
            refine then_n (hK171 _ _ ?_)
            clear hK171
            refine cond_not l123_173 (by simp [takeS_drop hgood (clear_get hgood (by assumption))]) ?_
            refine wp_skip ?_
            refine then_n (hK170 _ _ ?_)
            clear hK170
            -- region 23
            refine region_in ?_
            refine W_r rfl rfl (VR_ldA rfl l24_173 b165 Try.underlying24 rfl (by kernel_rfl)) ?_
            refine W_stA rfl rfl rfl (ev_step l22_173 rfl) (ev_top (lt_sz hsz173 rfl)) (by simp only [List.all_toArray, List.all_cons, List.all_nil, one_ints f1_162.1, one_ints f2_162.1] <;> rfl) b147 (by rfl) (by kernel_rfl) (fun w174 ht174 hb174 => ?_)
            have hE175 := ext_tch hE168 ht174 oB_147
            replace f1_138 := f1_138.tch ht174 b147 rfl
            replace f2_138 := f2_138.tch ht174 b147 rfl
            replace f3_138 := f3_138.tch ht174 b147 rfl
            replace fy1 := fy1.tch ht174 b147 rfl
            replace fy2 := fy2.tch ht174 b147 rfl
            replace f1_162 := f1_162.tch ht174 b147 rfl
            replace f2_162 := f2_162.tch ht174 b147 rfl
            replace b141 := box_tch b141 ht174 (Nat.ne_of_lt o141_147)
            replace b165 := box_tch b165 ht174 (Nat.ne_of_gt o147_165)
            replace b147 := hb174
            refine W_end ?_
            refine gen_Q (fun A176 hA176 => ?_)
            have hsz176 : A176.tmps.size = 135 := by rw [hA176]; simp only [sz_put]; exact hsz173
            have hdf176 : A176.defers = [] := by rw [hA176]; simp only [df_put]; exact hdf173
            have l19_176 := lookE hA176 19 (ev_step l19_173 rfl)
            have l20_176 := lookE hA176 20 (ev_step l20_173 rfl)
            have l21_176 := lookE hA176 21 (ev_step l21_173 rfl)
            have l22_176 := lookE hA176 22 (ev_step l22_173 rfl)
            have l23_176 := lookE hA176 23 (ev_step l23_173 rfl)
            have l117_176 := lookE hA176 117 (ev_step l117_173 rfl)
            have l118_176 := lookE hA176 118 (ev_step l118_173 rfl)
            have l119_176 := lookE hA176 119 (ev_step l119_173 rfl)
            have l120_176 := lookE hA176 120 (ev_step l120_173 rfl)
            have l121_176 := lookE hA176 121 (ev_step l121_173 rfl)
            have l122_176 := lookE hA176 122 (ev_step l122_173 rfl)
            clear hA176 hsz173 hdf173 l19_173 l20_173 l21_173 l22_173 l23_173 l24_173 l117_173 l118_173 l119_173 l120_173 l121_173 l122_173 l123_173
            refine inb_n ?_
            refine then_n (hK160 _ _ ?_)
            clear hK160
            -- region 19
            refine region_in ?_
            refine W_v rfl rfl (V_mov rfl l23_176) ?_
            refine W_v rfl rfl (V_add rfl (ev_top (lt_sz hsz176 rfl)) rfl (by omega) (by omega)) ?_
            refine W_v rfl rfl (V_asg rfl (ev_top (lt_put (lt_sz hsz176 rfl)))) ?_
            refine W_end ?_
            refine gen_Q (fun A177 hA177 => ?_)
            have hsz177 : A177.tmps.size = 135 := by rw [hA177]; simp only [sz_put]; exact hsz176
            have hdf177 : A177.defers = [] := by rw [hA177]; simp only [df_put]; exact hdf176
            have l19_177 := lookE hA177 19 (ev_step (ev_step (ev_step l19_176 rfl) rfl) rfl)
            have l20_177 := lookE hA177 20 (ev_step (ev_step (ev_step l20_176 rfl) rfl) rfl)
            have l21_177 := lookE hA177 21 (ev_step (ev_step (ev_step l21_176 rfl) rfl) rfl)
            have l22_177 := lookE hA177 22 (ev_step (ev_step (ev_step l22_176 rfl) rfl) rfl)
            have l23_177 := lookE hA177 23 (ev_top (lt_put (lt_put (lt_sz hsz176 rfl))))
            have l117_177 := lookE hA177 117 (ev_step (ev_step (ev_step l117_176 rfl) rfl) rfl)
            have l118_177 := lookE hA177 118 (ev_step (ev_step (ev_step l118_176 rfl) rfl) rfl)
            have l119_177 := lookE hA177 119 (ev_step (ev_step (ev_step l119_176 rfl) rfl) rfl)
            have l120_177 := lookE hA177 120 (ev_step (ev_step (ev_step l120_176 rfl) rfl) rfl)
            have l121_177 := lookE hA177 121 (ev_step (ev_step (ev_step l121_176 rfl) rfl) rfl)
            have l122_177 := lookE hA177 122 (ev_step (ev_step (ev_step l122_176 rfl) rfl) rfl)
            clear hA177 hsz176 hdf176 l19_176 l20_176 l21_176 l22_176 l23_176 l117_176 l118_176 l119_176 l120_176 l121_176 l122_176
            refine then_n ⟨lo.length - ((k + 1)), by simp only [hm155]; omega, hsz177, hdf177, hE175, (k + 1), (v1_162), (v2_162), rfl, (by omega), ((l23_177).trans (by first | rfl | (simp; done) | (congr 1; omega))), ((l19_177).trans l19_154.symm), ((l20_177).trans l20_154.symm), ((l21_177).trans l21_154.symm), ((l22_177).trans l22_154.symm), b141, b147, f1_138, f2_138, f3_138, (by have := f1_162; rw [takeS_dropE hgood (show k < lo.length by omega)] at this; exact .inr this), (by have := f2_162; rw [takeS_dropE hgood (show k < lo.length by omega)] at this; exact .inr this)⟩
          · skip
            refine wp_exit ?_
            refine then_exit ?_
            refine then_exit ?_
            refine inb_hit ?_
            refine then_n (hK152 _ _ ?_)
            clear hK152
            refine wp_seq_k (fun K178 hK178 => ?_)
            -- region 24
            refine region_in ?_
            refine W_v rfl rfl (V_mov rfl l21_158) ?_
            refine W_v rfl rfl (V_eql rfl (ev_top (lt_sz hsz158 rfl)) rfl) ?_
            refine W_sure (c' := true) rfl rfl (V_mov rfl (ev_top (lt_put (lt_sz hsz158 rfl)))) (by simp [hC]) ?_
            refine W_r rfl (wanted_t rfl rfl (ev_top (lt_put (lt_put (lt_sz hsz158 rfl)))) (lt_put (lt_put (lt_put (lt_sz hsz158 rfl))))) (VR_ldA rfl (ev_step (ev_step (ev_step l19_158 rfl) rfl) rfl) b141 Try.underlying24 rfl (by kernel_rfl)) ?_
            refine W_r rfl (wanted_t rfl rfl (ev_step (ev_top (lt_put (lt_put (lt_sz hsz158 rfl)))) rfl) (lt_put (lt_put (lt_put (lt_put (lt_sz hsz158 rfl)))))) (VR_ldA rfl (ev_step (ev_step (ev_step (ev_step l22_158 rfl) rfl) rfl) rfl) b147 Try.underlying24 rfl (by kernel_rfl)) ?_
            refine W_call rfl (wanted_t rfl rfl (ev_step (ev_step (ev_top (lt_put (lt_put (lt_sz hsz158 rfl)))) rfl) rfl) (lt_put (lt_put (lt_put (lt_put (lt_put (lt_sz hsz158 rfl))))))) rfl Try.func28 (by kernel_rfl) rfl (args2 (ev_step (ev_top (lt_put (lt_put (lt_put (lt_sz hsz158 rfl))))) rfl) (ev_top (lt_put (lt_put (lt_put (lt_put (lt_sz hsz158 rfl))))))) (Same_c f1_138.1 f2_138.1 (fy1.ints hE155) (fy2.ints hE155) ) ?_
            rintro _ w179 ⟨rfl, hx179⟩
            refine ⟨_, rfl, ?_⟩
            have hb180 := hE155.size
            have hE181 := Ext.tr hE155 hx179
            replace b141 := heap_ext hx179 b141
            replace b147 := heap_ext hx179 b147
            replace f1_138 := f1_138.ext hx179
            replace f2_138 := f2_138.ext hx179
            replace f3_138 := f3_138.ext hx179
            replace fy1 := fy1.ext hx179
            replace fy2 := fy2.ext hx179
            refine W_v rfl rfl (V_pickT rfl (ev_step (ev_step (ev_step (ev_top (lt_put (lt_put (lt_sz hsz158 rfl)))) rfl) rfl) rfl) (ev_top (lt_put (lt_put (lt_put (lt_put (lt_put (lt_sz hsz158 rfl)))))))) ?_
            refine W_sure (c' := true) rfl rfl (V_mov rfl (ev_top (lt_put (lt_put (lt_put (lt_put (lt_put (lt_put (lt_sz hsz158 rfl))))))))) (by rw [decide_eq_true_eq]; exact ⟨(List.drop_eq_nil_of_le (by omega)).symm, by rw [hC]⟩) ?_
            refine W_call rfl (wanted_t rfl rfl (ev_top (lt_put (lt_put (lt_put (lt_put (lt_put (lt_put (lt_put (lt_sz hsz158 rfl))))))))) (lt_put (lt_put (lt_put (lt_put (lt_put (lt_put (lt_put (lt_put (lt_sz hsz158 rfl)))))))))) rfl Try.func12 (by kernel_rfl) rfl (args0) (awake_c  ) ?_
            rintro _ w182 ⟨rfl, hx182⟩
            refine ⟨_, rfl, ?_⟩
            have hb183 := hE181.size
            have hE184 := Ext.tr hE181 hx182
            replace b141 := heap_ext hx182 b141
            replace b147 := heap_ext hx182 b147
            replace f1_138 := f1_138.ext hx182
            replace f2_138 := f2_138.ext hx182
            replace f3_138 := f3_138.ext hx182
            replace fy1 := fy1.ext hx182
            replace fy2 := fy2.ext hx182
            refine W_v rfl rfl (V_pickT rfl (ev_step (ev_top (lt_put (lt_put (lt_put (lt_put (lt_put (lt_put (lt_put (lt_sz hsz158 rfl))))))))) rfl) (ev_top (lt_put (lt_put (lt_put (lt_put (lt_put (lt_put (lt_put (lt_put (lt_sz hsz158 rfl))))))))))) ?_
            refine W_v rfl rfl (V_asg rfl (ev_top (lt_put (lt_put (lt_put (lt_put (lt_put (lt_put (lt_put (lt_put (lt_put (lt_sz hsz158 rfl)))))))))))) ?_
            refine W_end ?_
            refine gen_Q (fun A185 hA185 => ?_)
            have hsz185 : A185.tmps.size = 135 := by rw [hA185]; simp only [sz_put]; exact hsz158
            have hdf185 : A185.defers = [] := by rw [hA185]; simp only [df_put]; exact hdf158
            have l4_185 := lookE hA185 4 (ev_top (lt_put (lt_put (lt_put (lt_put (lt_put (lt_put (lt_put (lt_put (lt_put (lt_put (lt_sz hsz158 rfl))))))))))))
            clear hA185 hsz158 hdf158 l19_158 l20_158 l21_158 l22_158 l23_158 l105_158
            refine then_n (hK178 _ _ ?_)
            clear hK178
            refine wp_ret ?_
            refine ret_in (results_1 Try.results7 (rv_tmp l4_185)) hdf185 ?_
            -- leaf FFTFF
            exact ⟨rfl, hE184⟩
      · skip
        refine wp_skip ?_
        refine then_n (hK50 _ _ ?_)
        clear hK50
        refine wp_seq_k (fun K186 hK186 => ?_)
        -- region 15
        refine region_in ?_
        refine W_r rfl rfl (VR_ldA rfl l2_52 b2 Try.underlying24 rfl (by kernel_rfl)) ?_
        refine W_call rfl rfl rfl Try.func27 (by kernel_rfl) rfl (args1 (ev_top (lt_sz hsz52 rfl))) (Clear_c (h_lv.ext hE45) (h_yv.ext hE45) ) ?_
        rintro _ w187 ⟨v1_187, v2_187, u_187, rfl, f1_187, f2_187, f3_187, hx187⟩
        refine ⟨_, rfl, ?_⟩
        have hb188 := hE45.size
        have hE189 := Ext.tr hE45 hx187
        replace b2 := heap_ext hx187 b2
        replace b33 := heap_ext hx187 b33
        replace b42 := heap_ext hx187 b42
        replace f1_30 := f1_30.ext hx187
        replace f2_30 := f2_30.ext hx187
        replace f1_39 := f1_39.ext hx187
        replace f2_39 := f2_39.ext hx187
        replace f1_187 := f1_187.base hb188
        replace f2_187 := f2_187.base hb188
        replace f3_187 := f3_187.base hb188
        refine W_v rfl rfl (V_mov rfl (ev_top (lt_put (lt_sz hsz52 rfl)))) ?_
        refine W_v rfl rfl (V_ext rfl (ev_top (lt_put (lt_put (lt_sz hsz52 rfl)))) rfl) ?_
        refine W_v rfl rfl (V_ext rfl (ev_step (ev_top (lt_put (lt_put (lt_sz hsz52 rfl)))) rfl) rfl) ?_
        refine W_v rfl rfl (V_ext rfl (ev_step (ev_step (ev_top (lt_put (lt_put (lt_sz hsz52 rfl)))) rfl) rfl) rfl) ?_
        refine W_alloc (z := .agg #[.slice none 0 0, .slice none 0 0]) (cs := #[.slice none 0 0, .slice none 0 0]) rfl rfl rfl (by kernel_rfl) rfl (fun g190 w190 hg190 hx190 b190 => ?_)
        have o2_190 : g2 < g190 := hg190 ▸ lt_size b2
        have o33_190 : g33 < g190 := hg190 ▸ lt_size b33
        have o42_190 : g42 < g190 := hg190 ▸ lt_size b42
        have oB_190 : w.heap.size ≤ g190 := hg190 ▸ hE189.size
        have hE191 := Ext.tr hE189 hx190
        replace b2 := heap_ext hx190 b2
        replace b33 := heap_ext hx190 b33
        replace b42 := heap_ext hx190 b42
        replace f1_30 := f1_30.ext hx190
        replace f2_30 := f2_30.ext hx190
        replace f1_39 := f1_39.ext hx190
        replace f2_39 := f2_39.ext hx190
        replace f1_187 := f1_187.ext hx190
        replace f2_187 := f2_187.ext hx190
        replace f3_187 := f3_187.ext hx190
        refine W_stA rfl rfl rfl (ev_top (lt_put (lt_put (lt_put (lt_put (lt_put (lt_put (lt_sz hsz52 rfl)))))))) (ev_step (ev_step (ev_step (ev_top (lt_put (lt_put (lt_put (lt_sz hsz52 rfl))))) rfl) rfl) rfl) (by simp only [List.all_toArray, List.all_cons, List.all_nil, one_ints f1_187.1, one_ints f2_187.1] <;> rfl) b190 (by rfl) (by kernel_rfl) (fun w192 ht192 hb192 => ?_)
        have hE193 := ext_tch hE191 ht192 oB_190
        replace f1_30 := f1_30.tch ht192 b190 rfl
        replace f2_30 := f2_30.tch ht192 b190 rfl
        replace f1_39 := f1_39.tch ht192 b190 rfl
        replace f2_39 := f2_39.tch ht192 b190 rfl
        replace f1_187 := f1_187.tch ht192 b190 rfl
        replace f2_187 := f2_187.tch ht192 b190 rfl
        replace f3_187 := f3_187.tch ht192 b190 rfl
        replace b2 := box_tch b2 ht192 (Nat.ne_of_lt o2_190)
        replace b33 := box_tch b33 ht192 (Nat.ne_of_lt o33_190)
        replace b42 := box_tch b42 ht192 (Nat.ne_of_lt o42_190)
        replace b190 := hb192
        refine W_v rfl rfl (V_asg rfl (ev_step (ev_step (ev_top (lt_put (lt_put (lt_put (lt_put (lt_sz hsz52 rfl)))))) rfl) rfl)) ?_
        refine W_v rfl rfl (V_asg rfl (ev_step (ev_step (ev_top (lt_put (lt_put (lt_put (lt_put (lt_put (lt_sz hsz52 rfl))))))) rfl) rfl)) ?_
        refine W_end ?_
        refine gen_Q (fun A194 hA194 => ?_)
        have hsz194 : A194.tmps.size = 135 := by rw [hA194]; simp only [sz_put]; exact hsz52
        have hdf194 : A194.defers = [] := by rw [hA194]; simp only [df_put]; exact hdf52
        have l2_194 := lookE hA194 2 (ev_step (ev_step (ev_step (ev_step (ev_step (ev_step (ev_step (ev_step (ev_step l2_52 rfl) rfl) rfl) rfl) rfl) rfl) rfl) rfl) rfl)
        have l19_194 := lookE hA194 19 (ev_step (ev_step (ev_top (lt_put (lt_put (lt_put (lt_put (lt_put (lt_put (lt_sz hsz52 rfl)))))))) rfl) rfl)
        have l20_194 := lookE hA194 20 (ev_step (ev_top (lt_put (lt_put (lt_put (lt_put (lt_put (lt_put (lt_put (lt_sz hsz52 rfl))))))))) rfl)
        have l21_194 := lookE hA194 21 (ev_top (lt_put (lt_put (lt_put (lt_put (lt_put (lt_put (lt_put (lt_put (lt_sz hsz52 rfl))))))))))
        clear hA194 hsz52 hdf52 l1_52 l2_52 l8_52 l11_52 l12_52 l62_52
        refine then_n (hK186 _ _ ?_)
        clear hK186
        refine wp_seq_k (fun K195 hK195 => ?_)
        -- region 16
        refine region_in ?_
        refine W_r rfl rfl (VR_ldA rfl l2_194 b2 Try.underlying24 rfl (by kernel_rfl)) ?_
        refine W_alloc (z := .agg #[.slice none 0 0, .slice none 0 0]) (cs := #[.slice none 0 0, .slice none 0 0]) rfl rfl rfl (by kernel_rfl) rfl (fun g196 w196 hg196 hx196 b196 => ?_)
        have o2_196 : g2 < g196 := hg196 ▸ lt_size b2
        have o190_196 : g190 < g196 := hg196 ▸ lt_size b190
        have oB_196 : w.heap.size ≤ g196 := hg196 ▸ hE193.size
        have hE197 := Ext.tr hE193 hx196
        replace b2 := heap_ext hx196 b2
        replace b190 := heap_ext hx196 b190
        replace f1_187 := f1_187.ext hx196
        replace f2_187 := f2_187.ext hx196
        replace f3_187 := f3_187.ext hx196
        refine W_stA rfl rfl rfl (ev_top (lt_put (lt_sz hsz194 rfl))) (ev_step (ev_top (lt_sz hsz194 rfl)) rfl) (by simp only [List.all_toArray, List.all_cons, List.all_nil, one_ints (h_lv.ext hE197), one_ints (h_yv.ext hE197)] <;> rfl) b196 (by rfl) (by kernel_rfl) (fun w198 ht198 hb198 => ?_)
        have hE199 := ext_tch hE197 ht198 oB_196
        replace f1_187 := f1_187.tch ht198 b196 rfl
        replace f2_187 := f2_187.tch ht198 b196 rfl
        replace f3_187 := f3_187.tch ht198 b196 rfl
        replace b2 := box_tch b2 ht198 (Nat.ne_of_lt o2_196)
        replace b190 := box_tch b190 ht198 (Nat.ne_of_lt o190_196)
        replace b196 := hb198
        refine W_end ?_
        refine gen_Q (fun A200 hA200 => ?_)
        have hsz200 : A200.tmps.size = 135 := by rw [hA200]; simp only [sz_put]; exact hsz194
        have hdf200 : A200.defers = [] := by rw [hA200]; simp only [df_put]; exact hdf194
        have l19_200 := lookE hA200 19 (ev_step (ev_step l19_194 rfl) rfl)
        have l20_200 := lookE hA200 20 (ev_step (ev_step l20_194 rfl) rfl)
        have l21_200 := lookE hA200 21 (ev_step (ev_step l21_194 rfl) rfl)
        have l22_200 := lookE hA200 22 (ev_top (lt_put (lt_sz hsz194 rfl)))
        clear hA200 hsz194 hdf194 l2_194 l19_194 l20_194 l21_194
        refine then_n (hK195 _ _ ?_)
        clear hK195
        refine wp_seq_k (fun K201 hK201 => ?_)
        refine wp_seq_k (fun K202 hK202 => ?_)
        -- region 17
        refine region_in ?_
        refine W_v rfl rfl (V_asg rfl rfl) ?_
        refine W_end ?_
        refine gen_Q (fun A203 hA203 => ?_)
        have hsz203 : A203.tmps.size = 135 := by rw [hA203]; simp only [sz_put]; exact hsz200
        have hdf203 : A203.defers = [] := by rw [hA203]; simp only [df_put]; exact hdf200
        have l19_203 := lookE hA203 19 (ev_step l19_200 rfl)
        have l20_203 := lookE hA203 20 (ev_step l20_200 rfl)
        have l21_203 := lookE hA203 21 (ev_step l21_200 rfl)
        have l22_203 := lookE hA203 22 (ev_step l22_200 rfl)
        have l23_203 := lookE hA203 23 (ev_top (lt_sz hsz200 rfl))
        clear hA203 hsz200 hdf200 l19_200 l20_200 l21_200 l22_200
        refine then_n (hK202 _ _ ?_)
        clear hK202
        refine wp_block ?_
        -- loop 18
        refine loopX (fun n A' w' => A'.tmps.size = 135 ∧ A'.defers = [] ∧ Ext w w' ∧ (∃ (k : Nat) (yl : Value) (yy : Value), (n = lo.length - k) ∧ (k ≤ lo.length) ∧ (EV A' (.tmp 23) = .int .i64 (k : Int)) ∧ (EV A' (.tmp 19) = EV A203 (.tmp 19)) ∧ (EV A' (.tmp 20) = EV A203 (.tmp 20)) ∧ (EV A' (.tmp 21) = EV A203 (.tmp 21)) ∧ (EV A' (.tmp 22) = EV A203 (.tmp 22)) ∧ (w'.heap[g190]? = some (.cells #[v1_187, v2_187] 24 (0, 0))) ∧ (w'.heap[g196]? = some (.cells #[yl, yy] 24 (0, 0))) ∧ (FreI w' w.heap.size 3 (v1_187) ([])) ∧ (FreI w' w.heap.size 3 (v2_187) (((clearS lo yo).yo))) ∧ (FreI w' w.heap.size 3 (u_187) (((clearS lo yo).lo))) ∧ (MixI w w' 3 (yl) (lo.drop k)) ∧ (MixI w w' 3 (yy) (yo)))) (lo.length - (0)) ⟨hsz203, hdf203, hE199, 0, lv, yv, rfl, (Nat.zero_le _), ((l23_203).trans (by first | rfl | (simp; done) | (congr 1; omega))), rfl, rfl, rfl, rfl, b190, b196, f1_187, f2_187, f3_187, (.inl (by simpa using h_lv)), (.inl h_yv)⟩ ?_
        clear b190 b196 f1_187 f2_187 f3_187
        rintro n204 A204 w204 ⟨hsz204, hdf204, hE204, k, yl, yy, hm204, hk, l23_204, u19_204, u20_204, u21_204, u22_204, b190, b196, f1_187, f2_187, f3_187, fy1, fy2⟩
        have l19_204 := u19_204.trans l19_203
        have l20_204 := u20_204.trans l20_203
        have l21_204 := u21_204.trans l21_203
        have l22_204 := u22_204.trans l22_203
        refine wp_seq_k (fun K205 hK205 => ?_)
        refine wp_seq_k (fun K206 hK206 => ?_)
        -- region 18
        refine region_in ?_
        refine W_v rfl rfl (V_mov rfl l23_204) ?_
        refine W_v rfl rfl (V_mov rfl (ev_step l20_204 rfl)) ?_
        refine W_v rfl rfl (V_lenI rfl (ev_top (lt_put (lt_sz hsz204 rfl))) f3_187.1 Try.underlying22) ?_
        refine W_v rfl rfl (V_lss rfl (ev_step (ev_step (ev_top (lt_sz hsz204 rfl)) rfl) rfl) (ev_top (lt_put (lt_put (lt_sz hsz204 rfl))))) ?_
        refine W_end ?_
        refine gen_Q (fun A207 hA207 => ?_)
        have hsz207 : A207.tmps.size = 135 := by rw [hA207]; simp only [sz_put]; exact hsz204
        have hdf207 : A207.defers = [] := by rw [hA207]; simp only [df_put]; exact hdf204
        have l19_207 := lookE hA207 19 (ev_step (ev_step (ev_step (ev_step l19_204 rfl) rfl) rfl) rfl)
        have l20_207 := lookE hA207 20 (ev_step (ev_step (ev_step (ev_step l20_204 rfl) rfl) rfl) rfl)
        have l21_207 := lookE hA207 21 (ev_step (ev_step (ev_step (ev_step l21_204 rfl) rfl) rfl) rfl)
        have l22_207 := lookE hA207 22 (ev_step (ev_step (ev_step (ev_step l22_204 rfl) rfl) rfl) rfl)
        have l23_207 := lookE hA207 23 (ev_step (ev_step (ev_step (ev_step l23_204 rfl) rfl) rfl) rfl)
        have l105_207 := lookE hA207 105 (ev_top (lt_put (lt_put (lt_put (lt_sz hsz204 rfl)))))
        clear hA207 hsz204 hdf204 l23_204 l19_204 l20_204 l21_204 l22_204
        refine then_n (hK206 _ _ ?_)
        clear hK206
        refine cond_dec l105_207 (fun c208 => ?_) (fun c208 => ?_)
        · skip
          refine wp_skip ?_
          refine then_n (hK205 _ _ ?_)
          clear hK205
          refine wp_seq_k (fun K209 hK209 => ?_)
          refine wp_block ?_
          refine wp_seq_k (fun K210 hK210 => ?_)
          -- region 20
          refine region_in ?_
          refine W_r rfl rfl (VR_ldA rfl l22_207 b196 Try.underlying24 rfl (by kernel_rfl)) ?_
          refine W_call rfl rfl rfl Try.func19 (by kernel_rfl) rfl (args1 (ev_top (lt_sz hsz207 rfl))) (Take_c (fy1.ints hE204) (fy2.ints hE204) (by first | omega | (simp; omega)) (by first | omega | (simp; omega))) ?_
          rintro _ w211 ⟨v1_211, v2_211, rfl, f1_211, f2_211, hx211⟩
          refine ⟨_, rfl, ?_⟩
          have hb212 := hE204.size
          have hE213 := Ext.tr hE204 hx211
          replace b190 := heap_ext hx211 b190
          replace b196 := heap_ext hx211 b196
          replace f1_187 := f1_187.ext hx211
          replace f2_187 := f2_187.ext hx211
          replace f3_187 := f3_187.ext hx211
          replace fy1 := fy1.ext hx211
          replace fy2 := fy2.ext hx211
          replace f1_211 := f1_211.base hb212
          replace f2_211 := f2_211.base hb212
          refine W_v rfl rfl (V_mov rfl (ev_top (lt_put (lt_sz hsz207 rfl)))) ?_
          refine W_v rfl rfl (V_ext rfl (ev_top (lt_put (lt_put (lt_sz hsz207 rfl)))) rfl) ?_
          refine W_v rfl rfl (V_ext rfl (ev_step (ev_top (lt_put (lt_put (lt_sz hsz207 rfl)))) rfl) rfl) ?_
          refine W_v rfl rfl (V_ext rfl (ev_step (ev_step (ev_top (lt_put (lt_put (lt_sz hsz207 rfl)))) rfl) rfl) rfl) ?_
          refine W_alloc (z := .agg #[.slice none 0 0, .slice none 0 0]) (cs := #[.slice none 0 0, .slice none 0 0]) rfl rfl rfl (by kernel_rfl) rfl (fun g214 w214 hg214 hx214 b214 => ?_)
          have o190_214 : g190 < g214 := hg214 ▸ lt_size b190
          have o196_214 : g196 < g214 := hg214 ▸ lt_size b196
          have oB_214 : w.heap.size ≤ g214 := hg214 ▸ hE213.size
          have hE215 := Ext.tr hE213 hx214
          replace b190 := heap_ext hx214 b190
          replace b196 := heap_ext hx214 b196
          replace f1_187 := f1_187.ext hx214
          replace f2_187 := f2_187.ext hx214
          replace f3_187 := f3_187.ext hx214
          replace fy1 := fy1.ext hx214
          replace fy2 := fy2.ext hx214
          replace f1_211 := f1_211.ext hx214
          replace f2_211 := f2_211.ext hx214
          refine W_stA rfl rfl rfl (ev_top (lt_put (lt_put (lt_put (lt_put (lt_put (lt_put (lt_sz hsz207 rfl)))))))) (ev_step (ev_step (ev_step (ev_top (lt_put (lt_put (lt_put (lt_sz hsz207 rfl))))) rfl) rfl) rfl) (by simp only [List.all_toArray, List.all_cons, List.all_nil, one_ints f1_211.1, one_ints f2_211.1] <;> rfl) b214 (by rfl) (by kernel_rfl) (fun w216 ht216 hb216 => ?_)
          have hE217 := ext_tch hE215 ht216 oB_214
          replace f1_187 := f1_187.tch ht216 b214 rfl
          replace f2_187 := f2_187.tch ht216 b214 rfl
          replace f3_187 := f3_187.tch ht216 b214 rfl
          replace fy1 := fy1.tch ht216 b214 rfl
          replace fy2 := fy2.tch ht216 b214 rfl
          replace f1_211 := f1_211.tch ht216 b214 rfl
          replace f2_211 := f2_211.tch ht216 b214 rfl
          replace b190 := box_tch b190 ht216 (Nat.ne_of_lt o190_214)
          replace b196 := box_tch b196 ht216 (Nat.ne_of_lt o196_214)
          replace b214 := hb216
          refine W_v rfl rfl (V_asg rfl (ev_step (ev_step (ev_top (lt_put (lt_put (lt_put (lt_put (lt_sz hsz207 rfl)))))) rfl) rfl)) ?_
          refine W_v rfl rfl (V_asg rfl (ev_step (ev_step (ev_top (lt_put (lt_put (lt_put (lt_put (lt_put (lt_sz hsz207 rfl))))))) rfl) rfl)) ?_
          refine W_end ?_
          refine gen_Q (fun A218 hA218 => ?_)
          have hsz218 : A218.tmps.size = 135 := by rw [hA218]; simp only [sz_put]; exact hsz207
          have hdf218 : A218.defers = [] := by rw [hA218]; simp only [df_put]; exact hdf207
          have l19_218 := lookE hA218 19 (ev_step (ev_step (ev_step (ev_step (ev_step (ev_step (ev_step (ev_step (ev_step l19_207 rfl) rfl) rfl) rfl) rfl) rfl) rfl) rfl) rfl)
          have l20_218 := lookE hA218 20 (ev_step (ev_step (ev_step (ev_step (ev_step (ev_step (ev_step (ev_step (ev_step l20_207 rfl) rfl) rfl) rfl) rfl) rfl) rfl) rfl) rfl)
          have l21_218 := lookE hA218 21 (ev_step (ev_step (ev_step (ev_step (ev_step (ev_step (ev_step (ev_step (ev_step l21_207 rfl) rfl) rfl) rfl) rfl) rfl) rfl) rfl) rfl)
          have l22_218 := lookE hA218 22 (ev_step (ev_step (ev_step (ev_step (ev_step (ev_step (ev_step (ev_step (ev_step l22_207 rfl) rfl) rfl) rfl) rfl) rfl) rfl) rfl) rfl)
          have l23_218 := lookE hA218 23 (ev_step (ev_step (ev_step (ev_step (ev_step (ev_step (ev_step (ev_step (ev_step l23_207 rfl) rfl) rfl) rfl) rfl) rfl) rfl) rfl) rfl)
          have l24_218 := lookE hA218 24 (ev_step (ev_step (ev_top (lt_put (lt_put (lt_put (lt_put (lt_put (lt_put (lt_sz hsz207 rfl)))))))) rfl) rfl)
          have l25_218 := lookE hA218 25 (ev_step (ev_top (lt_put (lt_put (lt_put (lt_put (lt_put (lt_put (lt_put (lt_sz hsz207 rfl))))))))) rfl)
          have l26_218 := lookE hA218 26 (ev_top (lt_put (lt_put (lt_put (lt_put (lt_put (lt_put (lt_put (lt_put (lt_sz hsz207 rfl))))))))))
          clear hA218 hsz207 hdf207 l19_207 l20_207 l21_207 l22_207 l23_207 l105_207
          refine then_n (hK210 _ _ ?_)
          clear hK210
          refine wp_seq_k (fun K219 hK219 => ?_)
          refine wp_seq_k (fun K220 hK220 => ?_)
          -- region 21
          refine region_in ?_
          refine W_v rfl rfl (V_mov rfl l26_218) ?_
          refine W_v rfl rfl (V_neq rfl (ev_top (lt_sz hsz218 rfl)) rfl) ?_
          refine W_sure (c' := false) rfl rfl (V_mov rfl (ev_top (lt_put (lt_sz hsz218 rfl)))) (by simp [takeS_dropE hgood (show k < lo.length by omega)]) ?_
          refine W_v rfl (wanted_t rfl rfl (ev_top (lt_put (lt_put (lt_sz hsz218 rfl)))) (lt_put (lt_put (lt_put (lt_sz hsz218 rfl))))) (V_mov rfl (ev_step (ev_step (ev_step l25_218 rfl) rfl) rfl)) ?_
          refine W_v rfl (wanted_t rfl rfl (ev_step (ev_top (lt_put (lt_put (lt_sz hsz218 rfl)))) rfl) (lt_put (lt_put (lt_put (lt_put (lt_sz hsz218 rfl)))))) (V_mov rfl (ev_step (ev_step (ev_step (ev_step l20_218 rfl) rfl) rfl) rfl)) ?_
          refine W_v rfl (wanted_t rfl rfl (ev_step (ev_step (ev_top (lt_put (lt_put (lt_sz hsz218 rfl)))) rfl) rfl) (lt_put (lt_put (lt_put (lt_put (lt_put (lt_sz hsz218 rfl))))))) (V_mov rfl (ev_step (ev_step (ev_step (ev_step (ev_step l23_218 rfl) rfl) rfl) rfl) rfl)) ?_
          have k221 : k < ((clearS lo yo).lo).length := by omega
          obtain ⟨B221, O221, C221, y221, hv221, hy221, hc221⟩ := at_ints f3_187.1 (k) k221
          refine W_v rfl (wanted_t rfl rfl (ev_step (ev_step (ev_step (ev_top (lt_put (lt_put (lt_sz hsz218 rfl)))) rfl) rfl) rfl) (lt_put (lt_put (lt_put (lt_put (lt_put (lt_put (lt_sz hsz218 rfl)))))))) (V_idx (k) rfl (ev_step (ev_top (lt_put (lt_put (lt_put (lt_put (lt_sz hsz218 rfl)))))) rfl) (ev_top (lt_put (lt_put (lt_put (lt_put (lt_put (lt_sz hsz218 rfl))))))) hv221 (by omega) k221 Try.underlying22 (by kernel_rfl)) ?_
          refine W_r rfl (wanted_t rfl rfl (ev_step (ev_step (ev_step (ev_step (ev_top (lt_put (lt_put (lt_sz hsz218 rfl)))) rfl) rfl) rfl) rfl) (lt_put (lt_put (lt_put (lt_put (lt_put (lt_put (lt_put (lt_sz hsz218 rfl))))))))) (VR_ldC rfl (ev_top (lt_put (lt_put (lt_put (lt_put (lt_put (lt_put (lt_sz hsz218 rfl)))))))) hc221 Try.underlying3 rfl) ?_
          refine W_v rfl (wanted_t rfl rfl (ev_step (ev_step (ev_step (ev_step (ev_step (ev_top (lt_put (lt_put (lt_sz hsz218 rfl)))) rfl) rfl) rfl) rfl) rfl) (lt_put (lt_put (lt_put (lt_put (lt_put (lt_put (lt_put (lt_put (lt_sz hsz218 rfl)))))))))) (V_neq rfl (ev_step (ev_step (ev_step (ev_step (ev_top (lt_put (lt_put (lt_put (lt_sz hsz218 rfl))))) rfl) rfl) rfl) rfl) (ev_top (lt_put (lt_put (lt_put (lt_put (lt_put (lt_put (lt_put (lt_sz hsz218 rfl)))))))))) ?_
          refine W_v rfl rfl (V_pickF rfl (ev_step (ev_step (ev_step (ev_step (ev_step (ev_step (ev_top (lt_put (lt_put (lt_sz hsz218 rfl)))) rfl) rfl) rfl) rfl) rfl) rfl) (ev_top (lt_put (lt_put (lt_put (lt_put (lt_put (lt_put (lt_put (lt_put (lt_sz hsz218 rfl))))))))))) ?_
          refine W_end ?_
          refine gen_Q (fun A222 hA222 => ?_)
          have hsz222 : A222.tmps.size = 135 := by rw [hA222]; simp only [sz_put]; exact hsz218
          have hdf222 : A222.defers = [] := by rw [hA222]; simp only [df_put]; exact hdf218
          have l19_222 := lookE hA222 19 (ev_step (ev_step (ev_step (ev_step (ev_step (ev_step (ev_step (ev_step (ev_step (ev_step l19_218 rfl) rfl) rfl) rfl) rfl) rfl) rfl) rfl) rfl) rfl)
          have l20_222 := lookE hA222 20 (ev_step (ev_step (ev_step (ev_step (ev_step (ev_step (ev_step (ev_step (ev_step (ev_step l20_218 rfl) rfl) rfl) rfl) rfl) rfl) rfl) rfl) rfl) rfl)
          have l21_222 := lookE hA222 21 (ev_step (ev_step (ev_step (ev_step (ev_step (ev_step (ev_step (ev_step (ev_step (ev_step l21_218 rfl) rfl) rfl) rfl) rfl) rfl) rfl) rfl) rfl) rfl)
          have l22_222 := lookE hA222 22 (ev_step (ev_step (ev_step (ev_step (ev_step (ev_step (ev_step (ev_step (ev_step (ev_step l22_218 rfl) rfl) rfl) rfl) rfl) rfl) rfl) rfl) rfl) rfl)
          have l23_222 := lookE hA222 23 (ev_step (ev_step (ev_step (ev_step (ev_step (ev_step (ev_step (ev_step (ev_step (ev_step l23_218 rfl) rfl) rfl) rfl) rfl) rfl) rfl) rfl) rfl) rfl)
          have l24_222 := lookE hA222 24 (ev_step (ev_step (ev_step (ev_step (ev_step (ev_step (ev_step (ev_step (ev_step (ev_step l24_218 rfl) rfl) rfl) rfl) rfl) rfl) rfl) rfl) rfl) rfl)
          have l117_222 := lookE hA222 117 (ev_step (ev_step (ev_step (ev_step (ev_step (ev_step (ev_top (lt_put (lt_put (lt_put (lt_sz hsz218 rfl))))) rfl) rfl) rfl) rfl) rfl) rfl)
          have l118_222 := lookE hA222 118 (ev_step (ev_step (ev_step (ev_step (ev_step (ev_top (lt_put (lt_put (lt_put (lt_put (lt_sz hsz218 rfl)))))) rfl) rfl) rfl) rfl) rfl)
          have l119_222 := lookE hA222 119 (ev_step (ev_step (ev_step (ev_step (ev_top (lt_put (lt_put (lt_put (lt_put (lt_put (lt_sz hsz218 rfl))))))) rfl) rfl) rfl) rfl)
          have l120_222 := lookE hA222 120 (ev_step (ev_step (ev_step (ev_top (lt_put (lt_put (lt_put (lt_put (lt_put (lt_put (lt_sz hsz218 rfl)))))))) rfl) rfl) rfl)
          have l121_222 := lookE hA222 121 (ev_step (ev_step (ev_top (lt_put (lt_put (lt_put (lt_put (lt_put (lt_put (lt_put (lt_sz hsz218 rfl))))))))) rfl) rfl)
          have l122_222 := lookE hA222 122 (ev_step (ev_top (lt_put (lt_put (lt_put (lt_put (lt_put (lt_put (lt_put (lt_put (lt_sz hsz218 rfl)))))))))) rfl)
          have l123_222 := lookE hA222 123 (ev_top (lt_put (lt_put (lt_put (lt_put (lt_put (lt_put (lt_put (lt_put (lt_put (lt_sz hsz218 rfl)))))))))))
          clear hA222 hsz218 hdf218 l19_218 l20_218 l21_218 l22_218 l23_218 l24_218 l25_218 l26_218
          refine then_n (hK220 _ _ ?_)
          clear hK220
          refine cond_not l123_222 (by simp [takeS_drop hgood (clear_get hgood (by assumption))]) ?_
          refine wp_skip ?_
          refine then_n (hK219 _ _ ?_)
          clear hK219
          -- region 23
          refine region_in ?_
          refine W_r rfl rfl (VR_ldA rfl l24_222 b214 Try.underlying24 rfl (by kernel_rfl)) ?_
          refine W_stA rfl rfl rfl (ev_step l22_222 rfl) (ev_top (lt_sz hsz222 rfl)) (by simp only [List.all_toArray, List.all_cons, List.all_nil, one_ints f1_211.1, one_ints f2_211.1] <;> rfl) b196 (by rfl) (by kernel_rfl) (fun w223 ht223 hb223 => ?_)
          have hE224 := ext_tch hE217 ht223 oB_196
          replace f1_187 := f1_187.tch ht223 b196 rfl
          replace f2_187 := f2_187.tch ht223 b196 rfl
          replace f3_187 := f3_187.tch ht223 b196 rfl
          replace fy1 := fy1.tch ht223 b196 rfl
          replace fy2 := fy2.tch ht223 b196 rfl
          replace f1_211 := f1_211.tch ht223 b196 rfl
          replace f2_211 := f2_211.tch ht223 b196 rfl
          replace b190 := box_tch b190 ht223 (Nat.ne_of_lt o190_196)
          replace b214 := box_tch b214 ht223 (Nat.ne_of_gt o196_214)
          replace b196 := hb223
          refine W_end ?_
          refine gen_Q (fun A225 hA225 => ?_)
          have hsz225 : A225.tmps.size = 135 := by rw [hA225]; simp only [sz_put]; exact hsz222
          have hdf225 : A225.defers = [] := by rw [hA225]; simp only [df_put]; exact hdf222
          have l19_225 := lookE hA225 19 (ev_step l19_222 rfl)
          have l20_225 := lookE hA225 20 (ev_step l20_222 rfl)
          have l21_225 := lookE hA225 21 (ev_step l21_222 rfl)
          have l22_225 := lookE hA225 22 (ev_step l22_222 rfl)
          have l23_225 := lookE hA225 23 (ev_step l23_222 rfl)
          have l117_225 := lookE hA225 117 (ev_step l117_222 rfl)
          have l118_225 := lookE hA225 118 (ev_step l118_222 rfl)
          have l119_225 := lookE hA225 119 (ev_step l119_222 rfl)
          have l120_225 := lookE hA225 120 (ev_step l120_222 rfl)
          have l121_225 := lookE hA225 121 (ev_step l121_222 rfl)
          have l122_225 := lookE hA225 122 (ev_step l122_222 rfl)
          clear hA225 hsz222 hdf222 l19_222 l20_222 l21_222 l22_222 l23_222 l24_222 l117_222 l118_222 l119_222 l120_222 l121_222 l122_222 l123_222
          refine inb_n ?_
          refine then_n (hK209 _ _ ?_)
          clear hK209
          -- region 19
          refine region_in ?_
          refine W_v rfl rfl (V_mov rfl l23_225) ?_
          refine W_v rfl rfl (V_add rfl (ev_top (lt_sz hsz225 rfl)) rfl (by omega) (by omega)) ?_
          refine W_v rfl rfl (V_asg rfl (ev_top (lt_put (lt_sz hsz225 rfl)))) ?_
          refine W_end ?_
          refine gen_Q (fun A226 hA226 => ?_)
          have hsz226 : A226.tmps.size = 135 := by rw [hA226]; simp only [sz_put]; exact hsz225
          have hdf226 : A226.defers = [] := by rw [hA226]; simp only [df_put]; exact hdf225
          have l19_226 := lookE hA226 19 (ev_step (ev_step (ev_step l19_225 rfl) rfl) rfl)
          have l20_226 := lookE hA226 20 (ev_step (ev_step (ev_step l20_225 rfl) rfl) rfl)
          have l21_226 := lookE hA226 21 (ev_step (ev_step (ev_step l21_225 rfl) rfl) rfl)
          have l22_226 := lookE hA226 22 (ev_step (ev_step (ev_step l22_225 rfl) rfl) rfl)
          have l23_226 := lookE hA226 23 (ev_top (lt_put (lt_put (lt_sz hsz225 rfl))))
          have l117_226 := lookE hA226 117 (ev_step (ev_step (ev_step l117_225 rfl) rfl) rfl)
          have l118_226 := lookE hA226 118 (ev_step (ev_step (ev_step l118_225 rfl) rfl) rfl)
          have l119_226 := lookE hA226 119 (ev_step (ev_step (ev_step l119_225 rfl) rfl) rfl)
          have l120_226 := lookE hA226 120 (ev_step (ev_step (ev_step l120_225 rfl) rfl) rfl)
          have l121_226 := lookE hA226 121 (ev_step (ev_step (ev_step l121_225 rfl) rfl) rfl)
          have l122_226 := lookE hA226 122 (ev_step (ev_step (ev_step l122_225 rfl) rfl) rfl)
          clear hA226 hsz225 hdf225 l19_225 l20_225 l21_225 l22_225 l23_225 l117_225 l118_225 l119_225 l120_225 l121_225 l122_225
          refine then_n ⟨lo.length - ((k + 1)), by simp only [hm204]; omega, hsz226, hdf226, hE224, (k + 1), (v1_211), (v2_211), rfl, (by omega), ((l23_226).trans (by first | rfl | (simp; done) | (congr 1; omega))), ((l19_226).trans l19_203.symm), ((l20_226).trans l20_203.symm), ((l21_226).trans l21_203.symm), ((l22_226).trans l22_203.symm), b190, b196, f1_187, f2_187, f3_187, (by have := f1_211; rw [takeS_dropE hgood (show k < lo.length by omega)] at this; exact .inr this), (by have := f2_211; rw [takeS_dropE hgood (show k < lo.length by omega)] at this; exact .inr this)⟩
        · skip
          refine wp_exit ?_
          refine then_exit ?_
          refine then_exit ?_
          refine inb_hit ?_
          refine then_n (hK201 _ _ ?_)
          clear hK201
          refine wp_seq_k (fun K227 hK227 => ?_)
          -- region 24
          refine region_in ?_
          refine W_v rfl rfl (V_mov rfl l21_207) ?_
          refine W_v rfl rfl (V_eql rfl (ev_top (lt_sz hsz207 rfl)) rfl) ?_
          refine W_sure (c' := true) rfl rfl (V_mov rfl (ev_top (lt_put (lt_sz hsz207 rfl)))) (by simp [hC]) ?_
          refine W_r rfl (wanted_t rfl rfl (ev_top (lt_put (lt_put (lt_sz hsz207 rfl)))) (lt_put (lt_put (lt_put (lt_sz hsz207 rfl))))) (VR_ldA rfl (ev_step (ev_step (ev_step l19_207 rfl) rfl) rfl) b190 Try.underlying24 rfl (by kernel_rfl)) ?_
          refine W_r rfl (wanted_t rfl rfl (ev_step (ev_top (lt_put (lt_put (lt_sz hsz207 rfl)))) rfl) (lt_put (lt_put (lt_put (lt_put (lt_sz hsz207 rfl)))))) (VR_ldA rfl (ev_step (ev_step (ev_step (ev_step l22_207 rfl) rfl) rfl) rfl) b196 Try.underlying24 rfl (by kernel_rfl)) ?_
          refine W_call rfl (wanted_t rfl rfl (ev_step (ev_step (ev_top (lt_put (lt_put (lt_sz hsz207 rfl)))) rfl) rfl) (lt_put (lt_put (lt_put (lt_put (lt_put (lt_sz hsz207 rfl))))))) rfl Try.func28 (by kernel_rfl) rfl (args2 (ev_step (ev_top (lt_put (lt_put (lt_put (lt_sz hsz207 rfl))))) rfl) (ev_top (lt_put (lt_put (lt_put (lt_put (lt_sz hsz207 rfl))))))) (Same_c f1_187.1 f2_187.1 (fy1.ints hE204) (fy2.ints hE204) ) ?_
          rintro _ w228 ⟨rfl, hx228⟩
          refine ⟨_, rfl, ?_⟩
          have hb229 := hE204.size
          have hE230 := Ext.tr hE204 hx228
          replace b190 := heap_ext hx228 b190
          replace b196 := heap_ext hx228 b196
          replace f1_187 := f1_187.ext hx228
          replace f2_187 := f2_187.ext hx228
          replace f3_187 := f3_187.ext hx228
          replace fy1 := fy1.ext hx228
          replace fy2 := fy2.ext hx228
          refine W_v rfl rfl (V_pickT rfl (ev_step (ev_step (ev_step (ev_top (lt_put (lt_put (lt_sz hsz207 rfl)))) rfl) rfl) rfl) (ev_top (lt_put (lt_put (lt_put (lt_put (lt_put (lt_sz hsz207 rfl)))))))) ?_
          refine W_sure (c' := true) rfl rfl (V_mov rfl (ev_top (lt_put (lt_put (lt_put (lt_put (lt_put (lt_put (lt_sz hsz207 rfl))))))))) (by rw [decide_eq_true_eq]; exact ⟨(List.drop_eq_nil_of_le (by omega)).symm, by rw [hC]⟩) ?_
          refine W_call rfl (wanted_t rfl rfl (ev_top (lt_put (lt_put (lt_put (lt_put (lt_put (lt_put (lt_put (lt_sz hsz207 rfl))))))))) (lt_put (lt_put (lt_put (lt_put (lt_put (lt_put (lt_put (lt_put (lt_sz hsz207 rfl)))))))))) rfl Try.func12 (by kernel_rfl) rfl (args0) (awake_c  ) ?_
          rintro _ w231 ⟨rfl, hx231⟩
          refine ⟨_, rfl, ?_⟩
          have hb232 := hE230.size
          have hE233 := Ext.tr hE230 hx231
          replace b190 := heap_ext hx231 b190
          replace b196 := heap_ext hx231 b196
          replace f1_187 := f1_187.ext hx231
          replace f2_187 := f2_187.ext hx231
          replace f3_187 := f3_187.ext hx231
          replace fy1 := fy1.ext hx231
          replace fy2 := fy2.ext hx231
          refine W_v rfl rfl (V_pickT rfl (ev_step (ev_top (lt_put (lt_put (lt_put (lt_put (lt_put (lt_put (lt_put (lt_sz hsz207 rfl))))))))) rfl) (ev_top (lt_put (lt_put (lt_put (lt_put (lt_put (lt_put (lt_put (lt_put (lt_sz hsz207 rfl))))))))))) ?_
          refine W_v rfl rfl (V_asg rfl (ev_top (lt_put (lt_put (lt_put (lt_put (lt_put (lt_put (lt_put (lt_put (lt_put (lt_sz hsz207 rfl)))))))))))) ?_
          refine W_end ?_
          refine gen_Q (fun A234 hA234 => ?_)
          have hsz234 : A234.tmps.size = 135 := by rw [hA234]; simp only [sz_put]; exact hsz207
          have hdf234 : A234.defers = [] := by rw [hA234]; simp only [df_put]; exact hdf207
          have l4_234 := lookE hA234 4 (ev_top (lt_put (lt_put (lt_put (lt_put (lt_put (lt_put (lt_put (lt_put (lt_put (lt_put (lt_sz hsz207 rfl))))))))))))
          clear hA234 hsz207 hdf207 l19_207 l20_207 l21_207 l22_207 l23_207 l105_207
          refine then_n (hK227 _ _ ?_)
          clear hK227
          refine wp_ret ?_
          refine ret_in (results_1 Try.results7 (rv_tmp l4_234)) hdf234 ?_
          -- leaf FFFF
          exact ⟨rfl, hE233⟩

end Go.Proofs.Ytfnbfmlnageflaa