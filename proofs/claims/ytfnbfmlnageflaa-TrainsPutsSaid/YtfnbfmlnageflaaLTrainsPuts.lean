import Derived.Test.YtfnbfmlnageflaaRg1
namespace Go.Proofs.Ytfnbfmlnageflaa
open Go.RowKit Go.Own


set_option maxHeartbeats 4000000 in
theorem TrainsPuts_c {lv : Value} {lo : List Int} {yv : Value} {yo : List Int} {tr : Int} {c : Int} {w : World} (h_lv : Ints w lv lo) (h_yv : Ints w yv yo)  :
    Calls Try.prog 3 #[.agg #[lv, yv], .int .i64 tr, .int .i64 c] w fun e w' => e = .returned (.bool true) ∧ Ext w w' := by
  refine calls_in 67 Try.func3 rfl rfl (by simp) (fun A0 hsz0 hdf0 hargs => ?_)
  have l0_0 := hargs 0 (.agg #[lv, yv]) rfl
  have l1_0 := hargs 1 (.int .i64 tr) rfl
  have l2_0 := hargs 2 (.int .i64 c) rfl
  clear hargs
  have hE0 := Ext.rfl' w
  refine wp_seq_k (fun K1 hK1 => ?_)
  -- region 0
  refine region_in ?_
  refine W_box (cs := #[lv, yv]) rfl rfl rfl l0_0 rfl (fun g2 w2 hg2 hx2 b2 => ?_)
  have oB_2 : w.heap.size ≤ g2 := hg2 ▸ hE0.size
  have hE3 := Ext.tr hE0 hx2
  refine W_v rfl rfl (V_asg rfl rfl) ?_
  refine W_end ?_
  refine gen_Q (fun A4 hA4 => ?_)
  have hsz4 : A4.tmps.size = 67 := by rw [hA4]; simp only [sz_put]; exact hsz0
  have hdf4 : A4.defers = [] := by rw [hA4]; simp only [df_put]; exact hdf0
  have l1_4 := lookE hA4 1 (ev_step (ev_step l1_0 rfl) rfl)
  have l2_4 := lookE hA4 2 (ev_step (ev_step l2_0 rfl) rfl)
  have l3_4 := lookE hA4 3 (ev_step (ev_top (lt_sz hsz0 rfl)) rfl)
  clear hA4 hsz0 hdf0 l0_0 l1_0 l2_0
  refine then_n (hK1 _ _ ?_)
  clear hK1
  refine wp_seq_k (fun K5 hK5 => ?_)
  refine wp_seq_k (fun K6 hK6 => ?_)
  -- region 1
  refine region_in ?_
  refine W_r rfl rfl (VR_ldA rfl l3_4 b2 Try.underlying24 rfl (by kernel_rfl)) ?_
  refine W_call rfl rfl rfl Try.func11 (by kernel_rfl) rfl (args1 (ev_top (lt_sz hsz4 rfl))) (Far_c (h_lv.ext hE3) (h_yv.ext hE3) ) ?_
  rintro _ w7 ⟨rfl, hx7⟩
  refine ⟨_, rfl, ?_⟩
  have hb8 := hE3.size
  have hE9 := Ext.tr hE3 hx7
  replace b2 := heap_ext hx7 b2
  refine W_end ?_
  refine gen_Q (fun A10 hA10 => ?_)
  have hsz10 : A10.tmps.size = 67 := by rw [hA10]; simp only [sz_put]; exact hsz4
  have hdf10 : A10.defers = [] := by rw [hA10]; simp only [df_put]; exact hdf4
  have l1_10 := lookE hA10 1 (ev_step (ev_step l1_4 rfl) rfl)
  have l2_10 := lookE hA10 2 (ev_step (ev_step l2_4 rfl) rfl)
  have l3_10 := lookE hA10 3 (ev_step (ev_step l3_4 rfl) rfl)
  have l16_10 := lookE hA10 16 (ev_top (lt_put (lt_sz hsz4 rfl)))
  clear hA10 hsz4 hdf4 l1_4 l2_4 l3_4
  refine then_n (hK6 _ _ ?_)
  clear hK6
  refine cond_dec l16_10 (fun c11 => ?_) (fun c11 => ?_)
  · skip
    refine wp_seq_k (fun K12 hK12 => ?_)
    -- region 2
    refine region_in ?_
    refine W_call rfl rfl rfl Try.func12 (by kernel_rfl) rfl (args0) (awake_c  ) ?_
    rintro _ w13 ⟨rfl, hx13⟩
    refine ⟨_, rfl, ?_⟩
    have hb14 := hE9.size
    have hE15 := Ext.tr hE9 hx13
    replace b2 := heap_ext hx13 b2
    refine W_v rfl rfl (V_asg rfl (ev_top (lt_sz hsz10 rfl))) ?_
    refine W_end ?_
    refine gen_Q (fun A16 hA16 => ?_)
    have hsz16 : A16.tmps.size = 67 := by rw [hA16]; simp only [sz_put]; exact hsz10
    have hdf16 : A16.defers = [] := by rw [hA16]; simp only [df_put]; exact hdf10
    have l6_16 := lookE hA16 6 (ev_top (lt_put (lt_sz hsz10 rfl)))
    clear hA16 hsz10 hdf10 l1_10 l2_10 l3_10 l16_10
    refine then_n (hK12 _ _ ?_)
    clear hK12
    refine wp_ret ?_
    refine then_ret ?_
    refine ret_in (results_1 Try.results3 (rv_tmp l6_16)) hdf16 ?_
    -- leaf T
    exact ⟨rfl, hE15⟩
  · skip
    refine wp_skip ?_
    refine then_n (hK5 _ _ ?_)
    clear hK5
    refine wp_seq_k (fun K17 hK17 => ?_)
    -- region 3
    refine region_in ?_
    refine W_r rfl rfl (VR_ldA rfl l3_10 b2 Try.underlying24 rfl (by kernel_rfl)) ?_
    refine W_v rfl rfl (V_mov rfl (ev_step l1_10 rfl)) ?_
    refine W_v rfl rfl (V_mov rfl (ev_step (ev_step l2_10 rfl) rfl)) ?_
    refine W_call rfl rfl rfl Try.func13 (by kernel_rfl) rfl (args3 (ev_step (ev_step (ev_top (lt_sz hsz10 rfl)) rfl) rfl) (ev_step (ev_top (lt_put (lt_sz hsz10 rfl))) rfl) (ev_top (lt_put (lt_put (lt_sz hsz10 rfl))))) (Append_c (tr := tr) (c := c) (h_lv.ext hE9) (h_yv.ext hE9) ) ?_
    rintro _ w18 ⟨v1_18, v2_18, rfl, f1_18, f2_18, hx18⟩
    refine ⟨_, rfl, ?_⟩
    have hb19 := hE9.size
    have hE20 := Ext.tr hE9 hx18
    replace b2 := heap_ext hx18 b2
    replace f1_18 := f1_18.base hb19
    replace f2_18 := f2_18.base hb19
    refine W_v rfl rfl (V_mov rfl (ev_top (lt_put (lt_put (lt_put (lt_sz hsz10 rfl)))))) ?_
    refine W_v rfl rfl (V_ext rfl (ev_top (lt_put (lt_put (lt_put (lt_put (lt_sz hsz10 rfl)))))) rfl) ?_
    refine W_v rfl rfl (V_ext rfl (ev_step (ev_top (lt_put (lt_put (lt_put (lt_put (lt_sz hsz10 rfl)))))) rfl) rfl) ?_
    refine W_alloc (z := .agg #[.slice none 0 0, .slice none 0 0]) (cs := #[.slice none 0 0, .slice none 0 0]) rfl rfl rfl (by kernel_rfl) rfl (fun g21 w21 hg21 hx21 b21 => ?_)
    have o2_21 : g2 < g21 := hg21 ▸ lt_size b2
    have oB_21 : w.heap.size ≤ g21 := hg21 ▸ hE20.size
    have hE22 := Ext.tr hE20 hx21
    replace b2 := heap_ext hx21 b2
    replace f1_18 := f1_18.ext hx21
    replace f2_18 := f2_18.ext hx21
    refine W_stA rfl rfl rfl (ev_top (lt_put (lt_put (lt_put (lt_put (lt_put (lt_put (lt_put (lt_sz hsz10 rfl))))))))) (ev_step (ev_step (ev_top (lt_put (lt_put (lt_put (lt_put (lt_put (lt_sz hsz10 rfl))))))) rfl) rfl) (by simp only [List.all_toArray, List.all_cons, List.all_nil, one_ints f1_18.1, one_ints f2_18.1] <;> rfl) b21 (by rfl) (by kernel_rfl) (fun w23 ht23 hb23 => ?_)
    have hE24 := ext_tch hE22 ht23 oB_21
    replace f1_18 := f1_18.tch ht23 b21 rfl
    replace f2_18 := f2_18.tch ht23 b21 rfl
    replace b2 := box_tch b2 ht23 (Nat.ne_of_lt o2_21)
    replace b21 := hb23
    refine W_v rfl rfl (V_asg rfl (ev_step (ev_top (lt_put (lt_put (lt_put (lt_put (lt_put (lt_put (lt_sz hsz10 rfl)))))))) rfl)) ?_
    refine W_end ?_
    refine gen_Q (fun A25 hA25 => ?_)
    have hsz25 : A25.tmps.size = 67 := by rw [hA25]; simp only [sz_put]; exact hsz10
    have hdf25 : A25.defers = [] := by rw [hA25]; simp only [df_put]; exact hdf10
    have l1_25 := lookE hA25 1 (ev_step (ev_step (ev_step (ev_step (ev_step (ev_step (ev_step (ev_step (ev_step l1_10 rfl) rfl) rfl) rfl) rfl) rfl) rfl) rfl) rfl)
    have l2_25 := lookE hA25 2 (ev_step (ev_step (ev_step (ev_step (ev_step (ev_step (ev_step (ev_step (ev_step l2_10 rfl) rfl) rfl) rfl) rfl) rfl) rfl) rfl) rfl)
    have l3_25 := lookE hA25 3 (ev_step (ev_step (ev_step (ev_step (ev_step (ev_step (ev_step (ev_step (ev_step l3_10 rfl) rfl) rfl) rfl) rfl) rfl) rfl) rfl) rfl)
    have l7_25 := lookE hA25 7 (ev_step (ev_top (lt_put (lt_put (lt_put (lt_put (lt_put (lt_put (lt_put (lt_sz hsz10 rfl))))))))) rfl)
    have l8_25 := lookE hA25 8 (ev_top (lt_put (lt_put (lt_put (lt_put (lt_put (lt_put (lt_put (lt_put (lt_sz hsz10 rfl))))))))))
    clear hA25 hsz10 hdf10 l1_10 l2_10 l3_10 l16_10
    refine then_n (hK17 _ _ ?_)
    clear hK17
    refine wp_seq_k (fun K26 hK26 => ?_)
    -- region 4
    refine region_in ?_
    refine W_r rfl rfl (VR_ldA rfl l3_25 b2 Try.underlying24 rfl (by kernel_rfl)) ?_
    refine W_v rfl rfl (V_mov rfl (ev_step l1_25 rfl)) ?_
    refine W_v rfl rfl (V_mov rfl (ev_step (ev_step l2_25 rfl) rfl)) ?_
    refine W_call rfl rfl rfl Try.func14 (by kernel_rfl) rfl (args3 (ev_step (ev_step (ev_top (lt_sz hsz25 rfl)) rfl) rfl) (ev_step (ev_top (lt_put (lt_sz hsz25 rfl))) rfl) (ev_top (lt_put (lt_put (lt_sz hsz25 rfl))))) (rAppend_c (n := tr) (c := c) (h_lv.ext hE24) (h_yv.ext hE24) (by omega) (by omega)) ?_
    rintro _ w27 ⟨v1_27, v2_27, rfl, f1_27, f2_27, hx27⟩
    refine ⟨_, rfl, ?_⟩
    have hb28 := hE24.size
    have hE29 := Ext.tr hE24 hx27
    replace b2 := heap_ext hx27 b2
    replace b21 := heap_ext hx27 b21
    replace f1_18 := f1_18.ext hx27
    replace f2_18 := f2_18.ext hx27
    replace f1_27 := f1_27.base hb28
    replace f2_27 := f2_27.base hb28
    refine W_v rfl rfl (V_mov rfl (ev_top (lt_put (lt_put (lt_put (lt_sz hsz25 rfl)))))) ?_
    refine W_v rfl rfl (V_ext rfl (ev_top (lt_put (lt_put (lt_put (lt_put (lt_sz hsz25 rfl)))))) rfl) ?_
    refine W_v rfl rfl (V_ext rfl (ev_step (ev_top (lt_put (lt_put (lt_put (lt_put (lt_sz hsz25 rfl)))))) rfl) rfl) ?_
    refine W_alloc (z := .agg #[.slice none 0 0, .slice none 0 0]) (cs := #[.slice none 0 0, .slice none 0 0]) rfl rfl rfl (by kernel_rfl) rfl (fun g30 w30 hg30 hx30 b30 => ?_)
    have o2_30 : g2 < g30 := hg30 ▸ lt_size b2
    have o21_30 : g21 < g30 := hg30 ▸ lt_size b21
    have oB_30 : w.heap.size ≤ g30 := hg30 ▸ hE29.size
    have hE31 := Ext.tr hE29 hx30
    replace b2 := heap_ext hx30 b2
    replace b21 := heap_ext hx30 b21
    replace f1_18 := f1_18.ext hx30
    replace f2_18 := f2_18.ext hx30
    replace f1_27 := f1_27.ext hx30
    replace f2_27 := f2_27.ext hx30
    refine W_stA rfl rfl rfl (ev_top (lt_put (lt_put (lt_put (lt_put (lt_put (lt_put (lt_put (lt_sz hsz25 rfl))))))))) (ev_step (ev_step (ev_top (lt_put (lt_put (lt_put (lt_put (lt_put (lt_sz hsz25 rfl))))))) rfl) rfl) (by simp only [List.all_toArray, List.all_cons, List.all_nil, one_ints f1_27.1, one_ints f2_27.1] <;> rfl) b30 (by rfl) (by kernel_rfl) (fun w32 ht32 hb32 => ?_)
    have hE33 := ext_tch hE31 ht32 oB_30
    replace f1_18 := f1_18.tch ht32 b30 rfl
    replace f2_18 := f2_18.tch ht32 b30 rfl
    replace f1_27 := f1_27.tch ht32 b30 rfl
    replace f2_27 := f2_27.tch ht32 b30 rfl
    replace b2 := box_tch b2 ht32 (Nat.ne_of_lt o2_30)
    replace b21 := box_tch b21 ht32 (Nat.ne_of_lt o21_30)
    replace b30 := hb32
    refine W_v rfl rfl (V_asg rfl (ev_step (ev_top (lt_put (lt_put (lt_put (lt_put (lt_put (lt_put (lt_sz hsz25 rfl)))))))) rfl)) ?_
    refine W_end ?_
    refine gen_Q (fun A34 hA34 => ?_)
    have hsz34 : A34.tmps.size = 67 := by rw [hA34]; simp only [sz_put]; exact hsz25
    have hdf34 : A34.defers = [] := by rw [hA34]; simp only [df_put]; exact hdf25
    have l1_34 := lookE hA34 1 (ev_step (ev_step (ev_step (ev_step (ev_step (ev_step (ev_step (ev_step (ev_step l1_25 rfl) rfl) rfl) rfl) rfl) rfl) rfl) rfl) rfl)
    have l2_34 := lookE hA34 2 (ev_step (ev_step (ev_step (ev_step (ev_step (ev_step (ev_step (ev_step (ev_step l2_25 rfl) rfl) rfl) rfl) rfl) rfl) rfl) rfl) rfl)
    have l3_34 := lookE hA34 3 (ev_step (ev_step (ev_step (ev_step (ev_step (ev_step (ev_step (ev_step (ev_step l3_25 rfl) rfl) rfl) rfl) rfl) rfl) rfl) rfl) rfl)
    have l7_34 := lookE hA34 7 (ev_step (ev_step (ev_step (ev_step (ev_step (ev_step (ev_step (ev_step (ev_step l7_25 rfl) rfl) rfl) rfl) rfl) rfl) rfl) rfl) rfl)
    have l8_34 := lookE hA34 8 (ev_step (ev_step (ev_step (ev_step (ev_step (ev_step (ev_step (ev_step (ev_step l8_25 rfl) rfl) rfl) rfl) rfl) rfl) rfl) rfl) rfl)
    have l9_34 := lookE hA34 9 (ev_step (ev_top (lt_put (lt_put (lt_put (lt_put (lt_put (lt_put (lt_put (lt_sz hsz25 rfl))))))))) rfl)
    have l10_34 := lookE hA34 10 (ev_top (lt_put (lt_put (lt_put (lt_put (lt_put (lt_put (lt_put (lt_put (lt_sz hsz25 rfl))))))))))
    clear hA34 hsz25 hdf25 l1_25 l2_25 l3_25 l7_25 l8_25
    refine then_n (hK26 _ _ ?_)
    clear hK26
    refine wp_seq_k (fun K35 hK35 => ?_)
    -- region 5
    refine region_in ?_
    refine W_r rfl rfl (VR_ldA rfl l3_34 b2 Try.underlying24 rfl (by kernel_rfl)) ?_
    refine W_v rfl rfl (V_mov rfl (ev_step l1_34 rfl)) ?_
    refine W_v rfl rfl (V_mov rfl (ev_step (ev_step l2_34 rfl) rfl)) ?_
    refine W_call rfl rfl rfl Try.func15 (by kernel_rfl) rfl (args3 (ev_step (ev_step (ev_top (lt_sz hsz34 rfl)) rfl) rfl) (ev_step (ev_top (lt_put (lt_sz hsz34 rfl))) rfl) (ev_top (lt_put (lt_put (lt_sz hsz34 rfl))))) (Insert_c (tr := tr) (c := c) (h_lv.ext hE33) (h_yv.ext hE33) ) ?_
    rintro _ w36 ⟨v1_36, v2_36, rfl, f1_36, f2_36, hx36⟩
    refine ⟨_, rfl, ?_⟩
    have hb37 := hE33.size
    have hE38 := Ext.tr hE33 hx36
    replace b2 := heap_ext hx36 b2
    replace b21 := heap_ext hx36 b21
    replace b30 := heap_ext hx36 b30
    replace f1_18 := f1_18.ext hx36
    replace f2_18 := f2_18.ext hx36
    replace f1_27 := f1_27.ext hx36
    replace f2_27 := f2_27.ext hx36
    replace f1_36 := f1_36.base hb37
    replace f2_36 := f2_36.base hb37
    refine W_v rfl rfl (V_mov rfl (ev_top (lt_put (lt_put (lt_put (lt_sz hsz34 rfl)))))) ?_
    refine W_v rfl rfl (V_ext rfl (ev_top (lt_put (lt_put (lt_put (lt_put (lt_sz hsz34 rfl)))))) rfl) ?_
    refine W_v rfl rfl (V_ext rfl (ev_step (ev_top (lt_put (lt_put (lt_put (lt_put (lt_sz hsz34 rfl)))))) rfl) rfl) ?_
    refine W_alloc (z := .agg #[.slice none 0 0, .slice none 0 0]) (cs := #[.slice none 0 0, .slice none 0 0]) rfl rfl rfl (by kernel_rfl) rfl (fun g39 w39 hg39 hx39 b39 => ?_)
    have o2_39 : g2 < g39 := hg39 ▸ lt_size b2
    have o21_39 : g21 < g39 := hg39 ▸ lt_size b21
    have o30_39 : g30 < g39 := hg39 ▸ lt_size b30
    have oB_39 : w.heap.size ≤ g39 := hg39 ▸ hE38.size
    have hE40 := Ext.tr hE38 hx39
    replace b2 := heap_ext hx39 b2
    replace b21 := heap_ext hx39 b21
    replace b30 := heap_ext hx39 b30
    replace f1_18 := f1_18.ext hx39
    replace f2_18 := f2_18.ext hx39
    replace f1_27 := f1_27.ext hx39
    replace f2_27 := f2_27.ext hx39
    replace f1_36 := f1_36.ext hx39
    replace f2_36 := f2_36.ext hx39
    refine W_stA rfl rfl rfl (ev_top (lt_put (lt_put (lt_put (lt_put (lt_put (lt_put (lt_put (lt_sz hsz34 rfl))))))))) (ev_step (ev_step (ev_top (lt_put (lt_put (lt_put (lt_put (lt_put (lt_sz hsz34 rfl))))))) rfl) rfl) (by simp only [List.all_toArray, List.all_cons, List.all_nil, one_ints f1_36.1, one_ints f2_36.1] <;> rfl) b39 (by rfl) (by kernel_rfl) (fun w41 ht41 hb41 => ?_)
    have hE42 := ext_tch hE40 ht41 oB_39
    replace f1_18 := f1_18.tch ht41 b39 rfl
    replace f2_18 := f2_18.tch ht41 b39 rfl
    replace f1_27 := f1_27.tch ht41 b39 rfl
    replace f2_27 := f2_27.tch ht41 b39 rfl
    replace f1_36 := f1_36.tch ht41 b39 rfl
    replace f2_36 := f2_36.tch ht41 b39 rfl
    replace b2 := box_tch b2 ht41 (Nat.ne_of_lt o2_39)
    replace b21 := box_tch b21 ht41 (Nat.ne_of_lt o21_39)
    replace b30 := box_tch b30 ht41 (Nat.ne_of_lt o30_39)
    replace b39 := hb41
    refine W_v rfl rfl (V_asg rfl (ev_step (ev_top (lt_put (lt_put (lt_put (lt_put (lt_put (lt_put (lt_sz hsz34 rfl)))))))) rfl)) ?_
    refine W_end ?_
    refine gen_Q (fun A43 hA43 => ?_)
    have hsz43 : A43.tmps.size = 67 := by rw [hA43]; simp only [sz_put]; exact hsz34
    have hdf43 : A43.defers = [] := by rw [hA43]; simp only [df_put]; exact hdf34
    have l1_43 := lookE hA43 1 (ev_step (ev_step (ev_step (ev_step (ev_step (ev_step (ev_step (ev_step (ev_step l1_34 rfl) rfl) rfl) rfl) rfl) rfl) rfl) rfl) rfl)
    have l2_43 := lookE hA43 2 (ev_step (ev_step (ev_step (ev_step (ev_step (ev_step (ev_step (ev_step (ev_step l2_34 rfl) rfl) rfl) rfl) rfl) rfl) rfl) rfl) rfl)
    have l3_43 := lookE hA43 3 (ev_step (ev_step (ev_step (ev_step (ev_step (ev_step (ev_step (ev_step (ev_step l3_34 rfl) rfl) rfl) rfl) rfl) rfl) rfl) rfl) rfl)
    have l7_43 := lookE hA43 7 (ev_step (ev_step (ev_step (ev_step (ev_step (ev_step (ev_step (ev_step (ev_step l7_34 rfl) rfl) rfl) rfl) rfl) rfl) rfl) rfl) rfl)
    have l8_43 := lookE hA43 8 (ev_step (ev_step (ev_step (ev_step (ev_step (ev_step (ev_step (ev_step (ev_step l8_34 rfl) rfl) rfl) rfl) rfl) rfl) rfl) rfl) rfl)
    have l9_43 := lookE hA43 9 (ev_step (ev_step (ev_step (ev_step (ev_step (ev_step (ev_step (ev_step (ev_step l9_34 rfl) rfl) rfl) rfl) rfl) rfl) rfl) rfl) rfl)
    have l10_43 := lookE hA43 10 (ev_step (ev_step (ev_step (ev_step (ev_step (ev_step (ev_step (ev_step (ev_step l10_34 rfl) rfl) rfl) rfl) rfl) rfl) rfl) rfl) rfl)
    have l11_43 := lookE hA43 11 (ev_step (ev_top (lt_put (lt_put (lt_put (lt_put (lt_put (lt_put (lt_put (lt_sz hsz34 rfl))))))))) rfl)
    have l12_43 := lookE hA43 12 (ev_top (lt_put (lt_put (lt_put (lt_put (lt_put (lt_put (lt_put (lt_put (lt_sz hsz34 rfl))))))))))
    clear hA43 hsz34 hdf34 l1_34 l2_34 l3_34 l7_34 l8_34 l9_34 l10_34
    refine then_n (hK35 _ _ ?_)
    clear hK35
    refine wp_seq_k (fun K44 hK44 => ?_)
    -- region 6
    refine region_in ?_
    refine W_r rfl rfl (VR_ldA rfl l3_43 b2 Try.underlying24 rfl (by kernel_rfl)) ?_
    refine W_v rfl rfl (V_mov rfl (ev_step l1_43 rfl)) ?_
    refine W_v rfl rfl (V_mov rfl (ev_step (ev_step l2_43 rfl) rfl)) ?_
    refine W_call rfl rfl rfl Try.func16 (by kernel_rfl) rfl (args3 (ev_step (ev_step (ev_top (lt_sz hsz43 rfl)) rfl) rfl) (ev_step (ev_top (lt_put (lt_sz hsz43 rfl))) rfl) (ev_top (lt_put (lt_put (lt_sz hsz43 rfl))))) (rInsert_c (n := tr) (c := c) (h_lv.ext hE42) (h_yv.ext hE42) (by omega) (by omega)) ?_
    rintro _ w45 ⟨v1_45, v2_45, rfl, f1_45, f2_45, hx45⟩
    refine ⟨_, rfl, ?_⟩
    have hb46 := hE42.size
    have hE47 := Ext.tr hE42 hx45
    replace b2 := heap_ext hx45 b2
    replace b21 := heap_ext hx45 b21
    replace b30 := heap_ext hx45 b30
    replace b39 := heap_ext hx45 b39
    replace f1_18 := f1_18.ext hx45
    replace f2_18 := f2_18.ext hx45
    replace f1_27 := f1_27.ext hx45
    replace f2_27 := f2_27.ext hx45
    replace f1_36 := f1_36.ext hx45
    replace f2_36 := f2_36.ext hx45
    replace f1_45 := f1_45.base hb46
    replace f2_45 := f2_45.base hb46
    refine W_v rfl rfl (V_mov rfl (ev_top (lt_put (lt_put (lt_put (lt_sz hsz43 rfl)))))) ?_
    refine W_v rfl rfl (V_ext rfl (ev_top (lt_put (lt_put (lt_put (lt_put (lt_sz hsz43 rfl)))))) rfl) ?_
    refine W_v rfl rfl (V_ext rfl (ev_step (ev_top (lt_put (lt_put (lt_put (lt_put (lt_sz hsz43 rfl)))))) rfl) rfl) ?_
    refine W_alloc (z := .agg #[.slice none 0 0, .slice none 0 0]) (cs := #[.slice none 0 0, .slice none 0 0]) rfl rfl rfl (by kernel_rfl) rfl (fun g48 w48 hg48 hx48 b48 => ?_)
    have o2_48 : g2 < g48 := hg48 ▸ lt_size b2
    have o21_48 : g21 < g48 := hg48 ▸ lt_size b21
    have o30_48 : g30 < g48 := hg48 ▸ lt_size b30
    have o39_48 : g39 < g48 := hg48 ▸ lt_size b39
    have oB_48 : w.heap.size ≤ g48 := hg48 ▸ hE47.size
    have hE49 := Ext.tr hE47 hx48
    replace b2 := heap_ext hx48 b2
    replace b21 := heap_ext hx48 b21
    replace b30 := heap_ext hx48 b30
    replace b39 := heap_ext hx48 b39
    replace f1_18 := f1_18.ext hx48
    replace f2_18 := f2_18.ext hx48
    replace f1_27 := f1_27.ext hx48
    replace f2_27 := f2_27.ext hx48
    replace f1_36 := f1_36.ext hx48
    replace f2_36 := f2_36.ext hx48
    replace f1_45 := f1_45.ext hx48
    replace f2_45 := f2_45.ext hx48
    refine W_stA rfl rfl rfl (ev_top (lt_put (lt_put (lt_put (lt_put (lt_put (lt_put (lt_put (lt_sz hsz43 rfl))))))))) (ev_step (ev_step (ev_top (lt_put (lt_put (lt_put (lt_put (lt_put (lt_sz hsz43 rfl))))))) rfl) rfl) (by simp only [List.all_toArray, List.all_cons, List.all_nil, one_ints f1_45.1, one_ints f2_45.1] <;> rfl) b48 (by rfl) (by kernel_rfl) (fun w50 ht50 hb50 => ?_)
    have hE51 := ext_tch hE49 ht50 oB_48
    replace f1_18 := f1_18.tch ht50 b48 rfl
    replace f2_18 := f2_18.tch ht50 b48 rfl
    replace f1_27 := f1_27.tch ht50 b48 rfl
    replace f2_27 := f2_27.tch ht50 b48 rfl
    replace f1_36 := f1_36.tch ht50 b48 rfl
    replace f2_36 := f2_36.tch ht50 b48 rfl
    replace f1_45 := f1_45.tch ht50 b48 rfl
    replace f2_45 := f2_45.tch ht50 b48 rfl
    replace b2 := box_tch b2 ht50 (Nat.ne_of_lt o2_48)
    replace b21 := box_tch b21 ht50 (Nat.ne_of_lt o21_48)
    replace b30 := box_tch b30 ht50 (Nat.ne_of_lt o30_48)
    replace b39 := box_tch b39 ht50 (Nat.ne_of_lt o39_48)
    replace b48 := hb50
    refine W_v rfl rfl (V_asg rfl (ev_step (ev_top (lt_put (lt_put (lt_put (lt_put (lt_put (lt_put (lt_sz hsz43 rfl)))))))) rfl)) ?_
    refine W_end ?_
    refine gen_Q (fun A52 hA52 => ?_)
    have hsz52 : A52.tmps.size = 67 := by rw [hA52]; simp only [sz_put]; exact hsz43
    have hdf52 : A52.defers = [] := by rw [hA52]; simp only [df_put]; exact hdf43
    have l7_52 := lookE hA52 7 (ev_step (ev_step (ev_step (ev_step (ev_step (ev_step (ev_step (ev_step (ev_step l7_43 rfl) rfl) rfl) rfl) rfl) rfl) rfl) rfl) rfl)
    have l8_52 := lookE hA52 8 (ev_step (ev_step (ev_step (ev_step (ev_step (ev_step (ev_step (ev_step (ev_step l8_43 rfl) rfl) rfl) rfl) rfl) rfl) rfl) rfl) rfl)
    have l9_52 := lookE hA52 9 (ev_step (ev_step (ev_step (ev_step (ev_step (ev_step (ev_step (ev_step (ev_step l9_43 rfl) rfl) rfl) rfl) rfl) rfl) rfl) rfl) rfl)
    have l10_52 := lookE hA52 10 (ev_step (ev_step (ev_step (ev_step (ev_step (ev_step (ev_step (ev_step (ev_step l10_43 rfl) rfl) rfl) rfl) rfl) rfl) rfl) rfl) rfl)
    have l11_52 := lookE hA52 11 (ev_step (ev_step (ev_step (ev_step (ev_step (ev_step (ev_step (ev_step (ev_step l11_43 rfl) rfl) rfl) rfl) rfl) rfl) rfl) rfl) rfl)
    have l12_52 := lookE hA52 12 (ev_step (ev_step (ev_step (ev_step (ev_step (ev_step (ev_step (ev_step (ev_step l12_43 rfl) rfl) rfl) rfl) rfl) rfl) rfl) rfl) rfl)
    have l13_52 := lookE hA52 13 (ev_step (ev_top (lt_put (lt_put (lt_put (lt_put (lt_put (lt_put (lt_put (lt_sz hsz43 rfl))))))))) rfl)
    have l14_52 := lookE hA52 14 (ev_top (lt_put (lt_put (lt_put (lt_put (lt_put (lt_put (lt_put (lt_put (lt_sz hsz43 rfl))))))))))
    clear hA52 hsz43 hdf43 l1_43 l2_43 l3_43 l7_43 l8_43 l9_43 l10_43 l11_43 l12_43
    refine then_n (hK44 _ _ ?_)
    clear hK44
    refine wp_seq_k (fun K53 hK53 => ?_)
    -- region 7
    refine region_in ?_
    refine W_r rfl rfl (VR_ldA rfl l7_52 b21 Try.underlying24 rfl (by kernel_rfl)) ?_
    refine W_r rfl rfl (VR_ldA rfl (ev_step l9_52 rfl) b30 Try.underlying24 rfl (by kernel_rfl)) ?_
    refine W_call rfl rfl rfl Try.func17 (by kernel_rfl) rfl (args2 (ev_step (ev_top (lt_sz hsz52 rfl)) rfl) (ev_top (lt_put (lt_sz hsz52 rfl)))) (rSame_c f1_18.1 f2_18.1 f1_27.1 f2_27.1 ) ?_
    rintro _ w54 ⟨rfl, hx54⟩
    refine ⟨_, rfl, ?_⟩
    have hb55 := hE51.size
    have hE56 := Ext.tr hE51 hx54
    replace b21 := heap_ext hx54 b21
    replace b30 := heap_ext hx54 b30
    replace b39 := heap_ext hx54 b39
    replace b48 := heap_ext hx54 b48
    replace f1_18 := f1_18.ext hx54
    replace f2_18 := f2_18.ext hx54
    replace f1_27 := f1_27.ext hx54
    replace f2_27 := f2_27.ext hx54
    replace f1_36 := f1_36.ext hx54
    replace f2_36 := f2_36.ext hx54
    replace f1_45 := f1_45.ext hx54
    replace f2_45 := f2_45.ext hx54
    refine W_sure (c' := true) rfl rfl (V_mov rfl (ev_top (lt_put (lt_put (lt_sz hsz52 rfl))))) (by simp) ?_
    refine W_v rfl (wanted_t rfl rfl (ev_top (lt_put (lt_put (lt_put (lt_sz hsz52 rfl))))) (lt_put (lt_put (lt_put (lt_put (lt_sz hsz52 rfl)))))) (V_mov rfl (ev_step (ev_step (ev_step (ev_step l8_52 rfl) rfl) rfl) rfl)) ?_
    refine W_v rfl (wanted_t rfl rfl (ev_step (ev_top (lt_put (lt_put (lt_put (lt_sz hsz52 rfl))))) rfl) (lt_put (lt_put (lt_put (lt_put (lt_put (lt_sz hsz52 rfl))))))) (V_mov rfl (ev_step (ev_step (ev_step (ev_step (ev_step l10_52 rfl) rfl) rfl) rfl) rfl)) ?_
    refine W_v rfl (wanted_t rfl rfl (ev_step (ev_step (ev_top (lt_put (lt_put (lt_put (lt_sz hsz52 rfl))))) rfl) rfl) (lt_put (lt_put (lt_put (lt_put (lt_put (lt_put (lt_sz hsz52 rfl)))))))) (V_eql rfl (ev_step (ev_top (lt_put (lt_put (lt_put (lt_put (lt_sz hsz52 rfl)))))) rfl) (ev_top (lt_put (lt_put (lt_put (lt_put (lt_put (lt_sz hsz52 rfl)))))))) ?_
    refine W_v rfl rfl (V_pickT rfl (ev_step (ev_step (ev_step (ev_top (lt_put (lt_put (lt_put (lt_sz hsz52 rfl))))) rfl) rfl) rfl) (ev_top (lt_put (lt_put (lt_put (lt_put (lt_put (lt_put (lt_sz hsz52 rfl))))))))) ?_
    refine W_sure (c' := true) rfl rfl (V_mov rfl (ev_top (lt_put (lt_put (lt_put (lt_put (lt_put (lt_put (lt_put (lt_sz hsz52 rfl)))))))))) (by simp) ?_
    refine W_r rfl (wanted_t rfl rfl (ev_top (lt_put (lt_put (lt_put (lt_put (lt_put (lt_put (lt_put (lt_put (lt_sz hsz52 rfl)))))))))) (lt_put (lt_put (lt_put (lt_put (lt_put (lt_put (lt_put (lt_put (lt_put (lt_sz hsz52 rfl))))))))))) (VR_ldA rfl (ev_step (ev_step (ev_step (ev_step (ev_step (ev_step (ev_step (ev_step (ev_step l11_52 rfl) rfl) rfl) rfl) rfl) rfl) rfl) rfl) rfl) b39 Try.underlying24 rfl (by kernel_rfl)) ?_
    refine W_r rfl (wanted_t rfl rfl (ev_step (ev_top (lt_put (lt_put (lt_put (lt_put (lt_put (lt_put (lt_put (lt_put (lt_sz hsz52 rfl)))))))))) rfl) (lt_put (lt_put (lt_put (lt_put (lt_put (lt_put (lt_put (lt_put (lt_put (lt_put (lt_sz hsz52 rfl)))))))))))) (VR_ldA rfl (ev_step (ev_step (ev_step (ev_step (ev_step (ev_step (ev_step (ev_step (ev_step (ev_step l13_52 rfl) rfl) rfl) rfl) rfl) rfl) rfl) rfl) rfl) rfl) b48 Try.underlying24 rfl (by kernel_rfl)) ?_
    refine W_call rfl (wanted_t rfl rfl (ev_step (ev_step (ev_top (lt_put (lt_put (lt_put (lt_put (lt_put (lt_put (lt_put (lt_put (lt_sz hsz52 rfl)))))))))) rfl) rfl) (lt_put (lt_put (lt_put (lt_put (lt_put (lt_put (lt_put (lt_put (lt_put (lt_put (lt_put (lt_sz hsz52 rfl))))))))))))) rfl Try.func17 (by kernel_rfl) rfl (args2 (ev_step (ev_top (lt_put (lt_put (lt_put (lt_put (lt_put (lt_put (lt_put (lt_put (lt_put (lt_sz hsz52 rfl))))))))))) rfl) (ev_top (lt_put (lt_put (lt_put (lt_put (lt_put (lt_put (lt_put (lt_put (lt_put (lt_put (lt_sz hsz52 rfl))))))))))))) (rSame_c f1_36.1 f2_36.1 f1_45.1 f2_45.1 ) ?_
    rintro _ w57 ⟨rfl, hx57⟩
    refine ⟨_, rfl, ?_⟩
    have hb58 := hE56.size
    have hE59 := Ext.tr hE56 hx57
    replace b21 := heap_ext hx57 b21
    replace b30 := heap_ext hx57 b30
    replace b39 := heap_ext hx57 b39
    replace b48 := heap_ext hx57 b48
    replace f1_18 := f1_18.ext hx57
    replace f2_18 := f2_18.ext hx57
    replace f1_27 := f1_27.ext hx57
    replace f2_27 := f2_27.ext hx57
    replace f1_36 := f1_36.ext hx57
    replace f2_36 := f2_36.ext hx57
    replace f1_45 := f1_45.ext hx57
    replace f2_45 := f2_45.ext hx57
    refine W_v rfl rfl (V_pickT rfl (ev_step (ev_step (ev_step (ev_top (lt_put (lt_put (lt_put (lt_put (lt_put (lt_put (lt_put (lt_put (lt_sz hsz52 rfl)))))))))) rfl) rfl) rfl) (ev_top (lt_put (lt_put (lt_put (lt_put (lt_put (lt_put (lt_put (lt_put (lt_put (lt_put (lt_put (lt_sz hsz52 rfl)))))))))))))) ?_
    refine W_sure (c' := true) rfl rfl (V_mov rfl (ev_top (lt_put (lt_put (lt_put (lt_put (lt_put (lt_put (lt_put (lt_put (lt_put (lt_put (lt_put (lt_put (lt_sz hsz52 rfl))))))))))))))) (by simp) ?_
    refine W_v rfl (wanted_t rfl rfl (ev_top (lt_put (lt_put (lt_put (lt_put (lt_put (lt_put (lt_put (lt_put (lt_put (lt_put (lt_put (lt_put (lt_put (lt_sz hsz52 rfl))))))))))))))) (lt_put (lt_put (lt_put (lt_put (lt_put (lt_put (lt_put (lt_put (lt_put (lt_put (lt_put (lt_put (lt_put (lt_put (lt_sz hsz52 rfl)))))))))))))))) (V_mov rfl (ev_step (ev_step (ev_step (ev_step (ev_step (ev_step (ev_step (ev_step (ev_step (ev_step (ev_step (ev_step (ev_step (ev_step l12_52 rfl) rfl) rfl) rfl) rfl) rfl) rfl) rfl) rfl) rfl) rfl) rfl) rfl) rfl)) ?_
    refine W_v rfl (wanted_t rfl rfl (ev_step (ev_top (lt_put (lt_put (lt_put (lt_put (lt_put (lt_put (lt_put (lt_put (lt_put (lt_put (lt_put (lt_put (lt_put (lt_sz hsz52 rfl))))))))))))))) rfl) (lt_put (lt_put (lt_put (lt_put (lt_put (lt_put (lt_put (lt_put (lt_put (lt_put (lt_put (lt_put (lt_put (lt_put (lt_put (lt_sz hsz52 rfl))))))))))))))))) (V_mov rfl (ev_step (ev_step (ev_step (ev_step (ev_step (ev_step (ev_step (ev_step (ev_step (ev_step (ev_step (ev_step (ev_step (ev_step (ev_step l14_52 rfl) rfl) rfl) rfl) rfl) rfl) rfl) rfl) rfl) rfl) rfl) rfl) rfl) rfl) rfl)) ?_
    refine W_v rfl (wanted_t rfl rfl (ev_step (ev_step (ev_top (lt_put (lt_put (lt_put (lt_put (lt_put (lt_put (lt_put (lt_put (lt_put (lt_put (lt_put (lt_put (lt_put (lt_sz hsz52 rfl))))))))))))))) rfl) rfl) (lt_put (lt_put (lt_put (lt_put (lt_put (lt_put (lt_put (lt_put (lt_put (lt_put (lt_put (lt_put (lt_put (lt_put (lt_put (lt_put (lt_sz hsz52 rfl)))))))))))))))))) (V_eql rfl (ev_step (ev_top (lt_put (lt_put (lt_put (lt_put (lt_put (lt_put (lt_put (lt_put (lt_put (lt_put (lt_put (lt_put (lt_put (lt_put (lt_sz hsz52 rfl)))))))))))))))) rfl) (ev_top (lt_put (lt_put (lt_put (lt_put (lt_put (lt_put (lt_put (lt_put (lt_put (lt_put (lt_put (lt_put (lt_put (lt_put (lt_put (lt_sz hsz52 rfl)))))))))))))))))) ?_
    refine W_v rfl rfl (V_pickT rfl (ev_step (ev_step (ev_step (ev_top (lt_put (lt_put (lt_put (lt_put (lt_put (lt_put (lt_put (lt_put (lt_put (lt_put (lt_put (lt_put (lt_put (lt_sz hsz52 rfl))))))))))))))) rfl) rfl) rfl) (ev_top (lt_put (lt_put (lt_put (lt_put (lt_put (lt_put (lt_put (lt_put (lt_put (lt_put (lt_put (lt_put (lt_put (lt_put (lt_put (lt_put (lt_sz hsz52 rfl))))))))))))))))))) ?_
    refine W_sure (c' := true) rfl rfl (V_mov rfl (ev_top (lt_put (lt_put (lt_put (lt_put (lt_put (lt_put (lt_put (lt_put (lt_put (lt_put (lt_put (lt_put (lt_put (lt_put (lt_put (lt_put (lt_put (lt_sz hsz52 rfl)))))))))))))))))))) (by simp) ?_
    refine W_call rfl (wanted_t rfl rfl (ev_top (lt_put (lt_put (lt_put (lt_put (lt_put (lt_put (lt_put (lt_put (lt_put (lt_put (lt_put (lt_put (lt_put (lt_put (lt_put (lt_put (lt_put (lt_put (lt_sz hsz52 rfl)))))))))))))))))))) (lt_put (lt_put (lt_put (lt_put (lt_put (lt_put (lt_put (lt_put (lt_put (lt_put (lt_put (lt_put (lt_put (lt_put (lt_put (lt_put (lt_put (lt_put (lt_put (lt_sz hsz52 rfl))))))))))))))))))))) rfl Try.func12 (by kernel_rfl) rfl (args0) (awake_c  ) ?_
    rintro _ w60 ⟨rfl, hx60⟩
    refine ⟨_, rfl, ?_⟩
    have hb61 := hE59.size
    have hE62 := Ext.tr hE59 hx60
    replace b21 := heap_ext hx60 b21
    replace b30 := heap_ext hx60 b30
    replace b39 := heap_ext hx60 b39
    replace b48 := heap_ext hx60 b48
    replace f1_18 := f1_18.ext hx60
    replace f2_18 := f2_18.ext hx60
    replace f1_27 := f1_27.ext hx60
    replace f2_27 := f2_27.ext hx60
    replace f1_36 := f1_36.ext hx60
    replace f2_36 := f2_36.ext hx60
    replace f1_45 := f1_45.ext hx60
    replace f2_45 := f2_45.ext hx60
    refine W_v rfl rfl (V_pickT rfl (ev_step (ev_top (lt_put (lt_put (lt_put (lt_put (lt_put (lt_put (lt_put (lt_put (lt_put (lt_put (lt_put (lt_put (lt_put (lt_put (lt_put (lt_put (lt_put (lt_put (lt_sz hsz52 rfl)))))))))))))))))))) rfl) (ev_top (lt_put (lt_put (lt_put (lt_put (lt_put (lt_put (lt_put (lt_put (lt_put (lt_put (lt_put (lt_put (lt_put (lt_put (lt_put (lt_put (lt_put (lt_put (lt_put (lt_sz hsz52 rfl)))))))))))))))))))))) ?_
    refine W_v rfl rfl (V_asg rfl (ev_top (lt_put (lt_put (lt_put (lt_put (lt_put (lt_put (lt_put (lt_put (lt_put (lt_put (lt_put (lt_put (lt_put (lt_put (lt_put (lt_put (lt_put (lt_put (lt_put (lt_put (lt_sz hsz52 rfl))))))))))))))))))))))) ?_
    refine W_end ?_
    refine gen_Q (fun A63 hA63 => ?_)
    have hsz63 : A63.tmps.size = 67 := by rw [hA63]; simp only [sz_put]; exact hsz52
    have hdf63 : A63.defers = [] := by rw [hA63]; simp only [df_put]; exact hdf52
    have l6_63 := lookE hA63 6 (ev_top (lt_put (lt_put (lt_put (lt_put (lt_put (lt_put (lt_put (lt_put (lt_put (lt_put (lt_put (lt_put (lt_put (lt_put (lt_put (lt_put (lt_put (lt_put (lt_put (lt_put (lt_put (lt_sz hsz52 rfl)))))))))))))))))))))))
    clear hA63 hsz52 hdf52 l7_52 l8_52 l9_52 l10_52 l11_52 l12_52 l13_52 l14_52
    refine then_n (hK53 _ _ ?_)
    clear hK53
    refine wp_ret ?_
    refine ret_in (results_1 Try.results3 (rv_tmp l6_63)) hdf63 ?_
    -- leaf F
    exact ⟨rfl, hE62⟩

end Go.Proofs.Ytfnbfmlnageflaa