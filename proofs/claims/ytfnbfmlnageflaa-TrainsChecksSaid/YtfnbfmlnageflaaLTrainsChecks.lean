import Derived.Test.YtfnbfmlnageflaaRg2
namespace Go.Proofs.Ytfnbfmlnageflaa
open Go.RowKit Go.Own


set_option maxHeartbeats 4000000 in
theorem TrainsChecks_c {lv : Value} {lo : List Int} {yv : Value} {yo : List Int} {lv2 : Value} {lo2 : List Int} {yv2 : Value} {yo2 : List Int} {x0 : Int} {x1 : Int} {w : World} (h_lv : Ints w lv lo) (h_yv : Ints w yv yo) (h_lv2 : Ints w lv2 lo2) (h_yv2 : Ints w yv2 yo2)  :
    Calls Try.prog 10 #[.agg #[lv, yv], .agg #[lv2, yv2], .agg #[.int .i64 x0, .int .i64 x1]] w fun e w' => e = .returned (.bool true) ∧ Ext w w' := by
  refine calls_in 119 Try.func10 rfl rfl (by simp) (fun A0 hsz0 hdf0 hargs => ?_)
  have l0_0 := hargs 0 (.agg #[lv, yv]) rfl
  have l1_0 := hargs 1 (.agg #[lv2, yv2]) rfl
  have l2_0 := hargs 2 (.agg #[.int .i64 x0, .int .i64 x1]) rfl
  clear hargs
  have hE0 := Ext.rfl' w
  refine wp_seq_k (fun K1 hK1 => ?_)
  -- region 0
  refine region_in ?_
  refine W_box (cs := #[lv, yv]) rfl rfl rfl l0_0 rfl (fun g2 w2 hg2 hx2 b2 => ?_)
  have oB_2 : w.heap.size ≤ g2 := hg2 ▸ hE0.size
  have hE3 := Ext.tr hE0 hx2
  refine W_box (cs := #[lv2, yv2]) rfl rfl rfl (ev_step l1_0 rfl) rfl (fun g4 w4 hg4 hx4 b4 => ?_)
  have o2_4 : g2 < g4 := hg4 ▸ lt_size b2
  have oB_4 : w.heap.size ≤ g4 := hg4 ▸ hE3.size
  have hE5 := Ext.tr hE3 hx4
  replace b2 := heap_ext hx4 b2
  refine W_box (cs := #[.int .i64 (x0), .int .i64 (x1)]) rfl rfl rfl (ev_step (ev_step l2_0 rfl) rfl) rfl (fun g6 w6 hg6 hx6 b6 => ?_)
  have o2_6 : g2 < g6 := hg6 ▸ lt_size b2
  have o4_6 : g4 < g6 := hg6 ▸ lt_size b4
  have oB_6 : w.heap.size ≤ g6 := hg6 ▸ hE5.size
  have hE7 := Ext.tr hE5 hx6
  replace b2 := heap_ext hx6 b2
  replace b4 := heap_ext hx6 b4
  refine W_v rfl rfl (V_asg rfl rfl) ?_
  refine W_end ?_
  refine gen_Q (fun A8 hA8 => ?_)
  have hsz8 : A8.tmps.size = 119 := by rw [hA8]; simp only [sz_put]; exact hsz0
  have hdf8 : A8.defers = [] := by rw [hA8]; simp only [df_put]; exact hdf0
  have l3_8 := lookE hA8 3 (ev_step (ev_step (ev_step (ev_top (lt_sz hsz0 rfl)) rfl) rfl) rfl)
  have l4_8 := lookE hA8 4 (ev_step (ev_step (ev_top (lt_put (lt_sz hsz0 rfl))) rfl) rfl)
  have l5_8 := lookE hA8 5 (ev_step (ev_top (lt_put (lt_put (lt_sz hsz0 rfl)))) rfl)
  clear hA8 hsz0 hdf0 l0_0 l1_0 l2_0
  refine then_n (hK1 _ _ ?_)
  clear hK1
  refine wp_seq_k (fun K9 hK9 => ?_)
  refine wp_seq_k (fun K10 hK10 => ?_)
  -- region 1
  refine region_in ?_
  refine W_r rfl rfl (VR_ldA rfl l3_8 b2 Try.underlying24 rfl (by kernel_rfl)) ?_
  refine W_call rfl rfl rfl Try.func11 (by kernel_rfl) rfl (args1 (ev_top (lt_sz hsz8 rfl))) (Far_c (h_lv.ext hE7) (h_yv.ext hE7) ) ?_
  rintro _ w11 ⟨rfl, hx11⟩
  refine ⟨_, rfl, ?_⟩
  have hb12 := hE7.size
  have hE13 := Ext.tr hE7 hx11
  replace b2 := heap_ext hx11 b2
  replace b4 := heap_ext hx11 b4
  replace b6 := heap_ext hx11 b6
  refine W_split rfl rfl (V_mov rfl (ev_top (lt_put (lt_sz hsz8 rfl)))) (fun c14 => ?_) (fun c14 => ?_)
  · skip
    refine W_off rfl (wanted_f rfl rfl (ev_top (lt_put (lt_put (lt_sz hsz8 rfl)))) (lt_put (lt_put (lt_put (lt_sz hsz8 rfl)))) rfl) ?_
    refine W_off rfl (wanted_f rfl rfl (ev_step (ev_top (lt_put (lt_put (lt_sz hsz8 rfl)))) rfl) (lt_put (lt_put (lt_put (lt_put (lt_sz hsz8 rfl))))) rfl) ?_
    refine W_v rfl rfl (V_pickT rfl (ev_step (ev_step (ev_top (lt_put (lt_put (lt_sz hsz8 rfl)))) rfl) rfl) rfl) ?_
    refine W_end ?_
    refine gen_Q (fun A15 hA15 => ?_)
    have hsz15 : A15.tmps.size = 119 := by rw [hA15]; simp only [sz_put]; exact hsz8
    have hdf15 : A15.defers = [] := by rw [hA15]; simp only [df_put]; exact hdf8
    have l3_15 := lookE hA15 3 (ev_step (ev_step (ev_step (ev_step (ev_step (ev_step l3_8 rfl) rfl) rfl) rfl) rfl) rfl)
    have l4_15 := lookE hA15 4 (ev_step (ev_step (ev_step (ev_step (ev_step (ev_step l4_8 rfl) rfl) rfl) rfl) rfl) rfl)
    have l5_15 := lookE hA15 5 (ev_step (ev_step (ev_step (ev_step (ev_step (ev_step l5_8 rfl) rfl) rfl) rfl) rfl) rfl)
    have l22_15 := lookE hA15 22 (ev_top (lt_put (lt_put (lt_put (lt_put (lt_put (lt_sz hsz8 rfl)))))))
    clear hA15 hsz8 hdf8 l3_8 l4_8 l5_8
    refine then_n (hK10 _ _ ?_)
    clear hK10
    refine cond_t l22_15 ?_
    refine wp_seq_k (fun K16 hK16 => ?_)
    -- region 2
    refine region_in ?_
    refine W_call rfl rfl rfl Try.func12 (by kernel_rfl) rfl (args0) (awake_c  ) ?_
    rintro _ w17 ⟨rfl, hx17⟩
    refine ⟨_, rfl, ?_⟩
    have hb18 := hE13.size
    have hE19 := Ext.tr hE13 hx17
    replace b2 := heap_ext hx17 b2
    replace b4 := heap_ext hx17 b4
    replace b6 := heap_ext hx17 b6
    refine W_v rfl rfl (V_asg rfl (ev_top (lt_sz hsz15 rfl))) ?_
    refine W_end ?_
    refine gen_Q (fun A20 hA20 => ?_)
    have hsz20 : A20.tmps.size = 119 := by rw [hA20]; simp only [sz_put]; exact hsz15
    have hdf20 : A20.defers = [] := by rw [hA20]; simp only [df_put]; exact hdf15
    have l6_20 := lookE hA20 6 (ev_top (lt_put (lt_sz hsz15 rfl)))
    clear hA20 hsz15 hdf15 l3_15 l4_15 l5_15 l22_15
    refine then_n (hK16 _ _ ?_)
    clear hK16
    refine wp_ret ?_
    refine then_ret ?_
    refine ret_in (results_1 Try.results10 (rv_tmp l6_20)) hdf20 ?_
    -- leaf T
    exact ⟨rfl, hE19⟩
  · skip
    refine W_r rfl (wanted_t rfl rfl (ev_top (lt_put (lt_put (lt_sz hsz8 rfl)))) (lt_put (lt_put (lt_put (lt_sz hsz8 rfl))))) (VR_ldA rfl (ev_step (ev_step (ev_step l4_8 rfl) rfl) rfl) b4 Try.underlying24 rfl (by kernel_rfl)) ?_
    refine W_call rfl (wanted_t rfl rfl (ev_step (ev_top (lt_put (lt_put (lt_sz hsz8 rfl)))) rfl) (lt_put (lt_put (lt_put (lt_put (lt_sz hsz8 rfl)))))) rfl Try.func11 (by kernel_rfl) rfl (args1 (ev_top (lt_put (lt_put (lt_put (lt_sz hsz8 rfl)))))) (Far_c (h_lv2.ext hE13) (h_yv2.ext hE13) ) ?_
    rintro _ w21 ⟨rfl, hx21⟩
    refine ⟨_, rfl, ?_⟩
    have hb22 := hE13.size
    have hE23 := Ext.tr hE13 hx21
    replace b2 := heap_ext hx21 b2
    replace b4 := heap_ext hx21 b4
    replace b6 := heap_ext hx21 b6
    refine W_v rfl rfl (V_pickF rfl (ev_step (ev_step (ev_top (lt_put (lt_put (lt_sz hsz8 rfl)))) rfl) rfl) (ev_top (lt_put (lt_put (lt_put (lt_put (lt_sz hsz8 rfl))))))) ?_
    refine W_end ?_
    refine gen_Q (fun A24 hA24 => ?_)
    have hsz24 : A24.tmps.size = 119 := by rw [hA24]; simp only [sz_put]; exact hsz8
    have hdf24 : A24.defers = [] := by rw [hA24]; simp only [df_put]; exact hdf8
    have l3_24 := lookE hA24 3 (ev_step (ev_step (ev_step (ev_step (ev_step (ev_step l3_8 rfl) rfl) rfl) rfl) rfl) rfl)
    have l4_24 := lookE hA24 4 (ev_step (ev_step (ev_step (ev_step (ev_step (ev_step l4_8 rfl) rfl) rfl) rfl) rfl) rfl)
    have l5_24 := lookE hA24 5 (ev_step (ev_step (ev_step (ev_step (ev_step (ev_step l5_8 rfl) rfl) rfl) rfl) rfl) rfl)
    have l22_24 := lookE hA24 22 (ev_top (lt_put (lt_put (lt_put (lt_put (lt_put (lt_sz hsz8 rfl)))))))
    clear hA24 hsz8 hdf8 l3_8 l4_8 l5_8
    refine then_n (hK10 _ _ ?_)
    clear hK10
    refine cond_dec l22_24 (fun c25 => ?_) (fun c25 => ?_)
    · skip
      refine wp_seq_k (fun K26 hK26 => ?_)
      -- region 2
      refine region_in ?_
      refine W_call rfl rfl rfl Try.func12 (by kernel_rfl) rfl (args0) (awake_c  ) ?_
      rintro _ w27 ⟨rfl, hx27⟩
      refine ⟨_, rfl, ?_⟩
      have hb28 := hE23.size
      have hE29 := Ext.tr hE23 hx27
      replace b2 := heap_ext hx27 b2
      replace b4 := heap_ext hx27 b4
      replace b6 := heap_ext hx27 b6
      refine W_v rfl rfl (V_asg rfl (ev_top (lt_sz hsz24 rfl))) ?_
      refine W_end ?_
      refine gen_Q (fun A30 hA30 => ?_)
      have hsz30 : A30.tmps.size = 119 := by rw [hA30]; simp only [sz_put]; exact hsz24
      have hdf30 : A30.defers = [] := by rw [hA30]; simp only [df_put]; exact hdf24
      have l6_30 := lookE hA30 6 (ev_top (lt_put (lt_sz hsz24 rfl)))
      clear hA30 hsz24 hdf24 l3_24 l4_24 l5_24 l22_24
      refine then_n (hK26 _ _ ?_)
      clear hK26
      refine wp_ret ?_
      refine then_ret ?_
      refine ret_in (results_1 Try.results10 (rv_tmp l6_30)) hdf30 ?_
      -- leaf FT
      exact ⟨rfl, hE29⟩
    · skip
      refine wp_skip ?_
      refine then_n (hK9 _ _ ?_)
      clear hK9
      refine wp_seq_k (fun K31 hK31 => ?_)
      -- region 3
      refine region_in ?_
      refine W_r rfl rfl (VR_ldA rfl l3_24 b2 Try.underlying24 rfl (by kernel_rfl)) ?_
      refine W_call rfl rfl rfl Try.func24 (by kernel_rfl) rfl (args1 (ev_top (lt_sz hsz24 rfl))) (Check_c (h_lv.ext hE23) (h_yv.ext hE23) ) ?_
      rintro _ w32 ⟨rfl, hx32⟩
      refine ⟨_, rfl, ?_⟩
      have hb33 := hE23.size
      have hE34 := Ext.tr hE23 hx32
      replace b2 := heap_ext hx32 b2
      replace b4 := heap_ext hx32 b4
      replace b6 := heap_ext hx32 b6
      refine W_v rfl rfl (V_mov rfl (ev_top (lt_put (lt_sz hsz24 rfl)))) ?_
      refine W_v rfl rfl (V_ext rfl (ev_top (lt_put (lt_put (lt_sz hsz24 rfl)))) rfl) ?_
      refine W_v rfl rfl (V_ext rfl (ev_step (ev_top (lt_put (lt_put (lt_sz hsz24 rfl)))) rfl) rfl) ?_
      refine W_v rfl rfl (V_ext rfl (ev_step (ev_step (ev_top (lt_put (lt_put (lt_sz hsz24 rfl)))) rfl) rfl) rfl) ?_
      refine W_v rfl rfl (V_asg rfl (ev_step (ev_step (ev_top (lt_put (lt_put (lt_put (lt_sz hsz24 rfl))))) rfl) rfl)) ?_
      refine W_v rfl rfl (V_asg rfl (ev_step (ev_step (ev_top (lt_put (lt_put (lt_put (lt_put (lt_sz hsz24 rfl)))))) rfl) rfl)) ?_
      refine W_v rfl rfl (V_asg rfl (ev_step (ev_step (ev_top (lt_put (lt_put (lt_put (lt_put (lt_put (lt_sz hsz24 rfl))))))) rfl) rfl)) ?_
      refine W_end ?_
      refine gen_Q (fun A35 hA35 => ?_)
      have hsz35 : A35.tmps.size = 119 := by rw [hA35]; simp only [sz_put]; exact hsz24
      have hdf35 : A35.defers = [] := by rw [hA35]; simp only [df_put]; exact hdf24
      have l3_35 := lookE hA35 3 (ev_step (ev_step (ev_step (ev_step (ev_step (ev_step (ev_step (ev_step (ev_step l3_24 rfl) rfl) rfl) rfl) rfl) rfl) rfl) rfl) rfl)
      have l4_35 := lookE hA35 4 (ev_step (ev_step (ev_step (ev_step (ev_step (ev_step (ev_step (ev_step (ev_step l4_24 rfl) rfl) rfl) rfl) rfl) rfl) rfl) rfl) rfl)
      have l5_35 := lookE hA35 5 (ev_step (ev_step (ev_step (ev_step (ev_step (ev_step (ev_step (ev_step (ev_step l5_24 rfl) rfl) rfl) rfl) rfl) rfl) rfl) rfl) rfl)
      have l7_35 := lookE hA35 7 (ev_step (ev_step (ev_top (lt_put (lt_put (lt_put (lt_put (lt_put (lt_put (lt_sz hsz24 rfl)))))))) rfl) rfl)
      have l8_35 := lookE hA35 8 (ev_step (ev_top (lt_put (lt_put (lt_put (lt_put (lt_put (lt_put (lt_put (lt_sz hsz24 rfl))))))))) rfl)
      have l9_35 := lookE hA35 9 (ev_top (lt_put (lt_put (lt_put (lt_put (lt_put (lt_put (lt_put (lt_put (lt_sz hsz24 rfl))))))))))
      clear hA35 hsz24 hdf24 l3_24 l4_24 l5_24 l22_24
      refine then_n (hK31 _ _ ?_)
      clear hK31
      refine wp_seq_k (fun K36 hK36 => ?_)
      -- region 4
      refine region_in ?_
      refine W_r rfl rfl (VR_ldA rfl l3_35 b2 Try.underlying24 rfl (by kernel_rfl)) ?_
      refine W_call rfl rfl rfl Try.func39 (by kernel_rfl) rfl (args1 (ev_top (lt_sz hsz35 rfl))) (rCheck_c (h_lv.ext hE34) (h_yv.ext hE34) ) ?_
      rintro _ w37 ⟨rfl, hx37⟩
      refine ⟨_, rfl, ?_⟩
      have hb38 := hE34.size
      have hE39 := Ext.tr hE34 hx37
      replace b2 := heap_ext hx37 b2
      replace b4 := heap_ext hx37 b4
      replace b6 := heap_ext hx37 b6
      refine W_v rfl rfl (V_mov rfl (ev_top (lt_put (lt_sz hsz35 rfl)))) ?_
      refine W_v rfl rfl (V_ext rfl (ev_top (lt_put (lt_put (lt_sz hsz35 rfl)))) rfl) ?_
      refine W_v rfl rfl (V_ext rfl (ev_step (ev_top (lt_put (lt_put (lt_sz hsz35 rfl)))) rfl) rfl) ?_
      refine W_v rfl rfl (V_ext rfl (ev_step (ev_step (ev_top (lt_put (lt_put (lt_sz hsz35 rfl)))) rfl) rfl) rfl) ?_
      refine W_v rfl rfl (V_asg rfl (ev_step (ev_step (ev_top (lt_put (lt_put (lt_put (lt_sz hsz35 rfl))))) rfl) rfl)) ?_
      refine W_v rfl rfl (V_asg rfl (ev_step (ev_step (ev_top (lt_put (lt_put (lt_put (lt_put (lt_sz hsz35 rfl)))))) rfl) rfl)) ?_
      refine W_v rfl rfl (V_asg rfl (ev_step (ev_step (ev_top (lt_put (lt_put (lt_put (lt_put (lt_put (lt_sz hsz35 rfl))))))) rfl) rfl)) ?_
      refine W_end ?_
      refine gen_Q (fun A40 hA40 => ?_)
      have hsz40 : A40.tmps.size = 119 := by rw [hA40]; simp only [sz_put]; exact hsz35
      have hdf40 : A40.defers = [] := by rw [hA40]; simp only [df_put]; exact hdf35
      have l3_40 := lookE hA40 3 (ev_step (ev_step (ev_step (ev_step (ev_step (ev_step (ev_step (ev_step (ev_step l3_35 rfl) rfl) rfl) rfl) rfl) rfl) rfl) rfl) rfl)
      have l4_40 := lookE hA40 4 (ev_step (ev_step (ev_step (ev_step (ev_step (ev_step (ev_step (ev_step (ev_step l4_35 rfl) rfl) rfl) rfl) rfl) rfl) rfl) rfl) rfl)
      have l5_40 := lookE hA40 5 (ev_step (ev_step (ev_step (ev_step (ev_step (ev_step (ev_step (ev_step (ev_step l5_35 rfl) rfl) rfl) rfl) rfl) rfl) rfl) rfl) rfl)
      have l7_40 := lookE hA40 7 (ev_step (ev_step (ev_step (ev_step (ev_step (ev_step (ev_step (ev_step (ev_step l7_35 rfl) rfl) rfl) rfl) rfl) rfl) rfl) rfl) rfl)
      have l8_40 := lookE hA40 8 (ev_step (ev_step (ev_step (ev_step (ev_step (ev_step (ev_step (ev_step (ev_step l8_35 rfl) rfl) rfl) rfl) rfl) rfl) rfl) rfl) rfl)
      have l9_40 := lookE hA40 9 (ev_step (ev_step (ev_step (ev_step (ev_step (ev_step (ev_step (ev_step (ev_step l9_35 rfl) rfl) rfl) rfl) rfl) rfl) rfl) rfl) rfl)
      have l10_40 := lookE hA40 10 (ev_step (ev_step (ev_top (lt_put (lt_put (lt_put (lt_put (lt_put (lt_put (lt_sz hsz35 rfl)))))))) rfl) rfl)
      have l11_40 := lookE hA40 11 (ev_step (ev_top (lt_put (lt_put (lt_put (lt_put (lt_put (lt_put (lt_put (lt_sz hsz35 rfl))))))))) rfl)
      have l12_40 := lookE hA40 12 (ev_top (lt_put (lt_put (lt_put (lt_put (lt_put (lt_put (lt_put (lt_put (lt_sz hsz35 rfl))))))))))
      clear hA40 hsz35 hdf35 l3_35 l4_35 l5_35 l7_35 l8_35 l9_35
      refine then_n (hK36 _ _ ?_)
      clear hK36
      refine wp_seq_k (fun K41 hK41 => ?_)
      refine wp_seq_k (fun K42 hK42 => ?_)
      -- region 5
      refine region_in ?_
      refine W_v rfl rfl (V_mov rfl l7_40) ?_
      refine W_v rfl rfl (V_mov rfl (ev_step l10_40 rfl)) ?_
      refine W_v rfl rfl (V_neq rfl (ev_step (ev_top (lt_sz hsz40 rfl)) rfl) (ev_top (lt_put (lt_sz hsz40 rfl)))) ?_
      refine W_sure (c' := false) rfl rfl (V_mov rfl (ev_top (lt_put (lt_put (lt_sz hsz40 rfl))))) (by simp) ?_
      refine W_v rfl (wanted_t rfl rfl (ev_top (lt_put (lt_put (lt_put (lt_sz hsz40 rfl))))) (lt_put (lt_put (lt_put (lt_put (lt_sz hsz40 rfl)))))) (V_mov rfl (ev_step (ev_step (ev_step (ev_step l8_40 rfl) rfl) rfl) rfl)) ?_
      refine W_v rfl (wanted_t rfl rfl (ev_step (ev_top (lt_put (lt_put (lt_put (lt_sz hsz40 rfl))))) rfl) (lt_put (lt_put (lt_put (lt_put (lt_put (lt_sz hsz40 rfl))))))) (V_mov rfl (ev_step (ev_step (ev_step (ev_step (ev_step l11_40 rfl) rfl) rfl) rfl) rfl)) ?_
      refine W_v rfl (wanted_t rfl rfl (ev_step (ev_step (ev_top (lt_put (lt_put (lt_put (lt_sz hsz40 rfl))))) rfl) rfl) (lt_put (lt_put (lt_put (lt_put (lt_put (lt_put (lt_sz hsz40 rfl)))))))) (V_neq rfl (ev_step (ev_top (lt_put (lt_put (lt_put (lt_put (lt_sz hsz40 rfl)))))) rfl) (ev_top (lt_put (lt_put (lt_put (lt_put (lt_put (lt_sz hsz40 rfl)))))))) ?_
      refine W_v rfl rfl (V_pickF rfl (ev_step (ev_step (ev_step (ev_top (lt_put (lt_put (lt_put (lt_sz hsz40 rfl))))) rfl) rfl) rfl) (ev_top (lt_put (lt_put (lt_put (lt_put (lt_put (lt_put (lt_sz hsz40 rfl))))))))) ?_
      refine W_sure (c' := false) rfl rfl (V_mov rfl (ev_top (lt_put (lt_put (lt_put (lt_put (lt_put (lt_put (lt_put (lt_sz hsz40 rfl)))))))))) (by simp) ?_
      refine W_v rfl (wanted_t rfl rfl (ev_top (lt_put (lt_put (lt_put (lt_put (lt_put (lt_put (lt_put (lt_put (lt_sz hsz40 rfl)))))))))) (lt_put (lt_put (lt_put (lt_put (lt_put (lt_put (lt_put (lt_put (lt_put (lt_sz hsz40 rfl))))))))))) (V_mov rfl (ev_step (ev_step (ev_step (ev_step (ev_step (ev_step (ev_step (ev_step (ev_step l9_40 rfl) rfl) rfl) rfl) rfl) rfl) rfl) rfl) rfl)) ?_
      refine W_v rfl (wanted_t rfl rfl (ev_step (ev_top (lt_put (lt_put (lt_put (lt_put (lt_put (lt_put (lt_put (lt_put (lt_sz hsz40 rfl)))))))))) rfl) (lt_put (lt_put (lt_put (lt_put (lt_put (lt_put (lt_put (lt_put (lt_put (lt_put (lt_sz hsz40 rfl)))))))))))) (V_mov rfl (ev_step (ev_step (ev_step (ev_step (ev_step (ev_step (ev_step (ev_step (ev_step (ev_step l12_40 rfl) rfl) rfl) rfl) rfl) rfl) rfl) rfl) rfl) rfl)) ?_
      refine W_v rfl (wanted_t rfl rfl (ev_step (ev_step (ev_top (lt_put (lt_put (lt_put (lt_put (lt_put (lt_put (lt_put (lt_put (lt_sz hsz40 rfl)))))))))) rfl) rfl) (lt_put (lt_put (lt_put (lt_put (lt_put (lt_put (lt_put (lt_put (lt_put (lt_put (lt_put (lt_sz hsz40 rfl))))))))))))) (V_neq rfl (ev_step (ev_top (lt_put (lt_put (lt_put (lt_put (lt_put (lt_put (lt_put (lt_put (lt_put (lt_sz hsz40 rfl))))))))))) rfl) (ev_top (lt_put (lt_put (lt_put (lt_put (lt_put (lt_put (lt_put (lt_put (lt_put (lt_put (lt_sz hsz40 rfl))))))))))))) ?_
      refine W_v rfl rfl (V_pickF rfl (ev_step (ev_step (ev_step (ev_top (lt_put (lt_put (lt_put (lt_put (lt_put (lt_put (lt_put (lt_put (lt_sz hsz40 rfl)))))))))) rfl) rfl) rfl) (ev_top (lt_put (lt_put (lt_put (lt_put (lt_put (lt_put (lt_put (lt_put (lt_put (lt_put (lt_put (lt_sz hsz40 rfl)))))))))))))) ?_
      refine W_end ?_
      refine gen_Q (fun A43 hA43 => ?_)
      have hsz43 : A43.tmps.size = 119 := by rw [hA43]; simp only [sz_put]; exact hsz40
      have hdf43 : A43.defers = [] := by rw [hA43]; simp only [df_put]; exact hdf40
      have l3_43 := lookE hA43 3 (ev_step (ev_step (ev_step (ev_step (ev_step (ev_step (ev_step (ev_step (ev_step (ev_step (ev_step (ev_step (ev_step l3_40 rfl) rfl) rfl) rfl) rfl) rfl) rfl) rfl) rfl) rfl) rfl) rfl) rfl)
      have l4_43 := lookE hA43 4 (ev_step (ev_step (ev_step (ev_step (ev_step (ev_step (ev_step (ev_step (ev_step (ev_step (ev_step (ev_step (ev_step l4_40 rfl) rfl) rfl) rfl) rfl) rfl) rfl) rfl) rfl) rfl) rfl) rfl) rfl)
      have l5_43 := lookE hA43 5 (ev_step (ev_step (ev_step (ev_step (ev_step (ev_step (ev_step (ev_step (ev_step (ev_step (ev_step (ev_step (ev_step l5_40 rfl) rfl) rfl) rfl) rfl) rfl) rfl) rfl) rfl) rfl) rfl) rfl) rfl)
      have l48_43 := lookE hA43 48 (ev_top (lt_put (lt_put (lt_put (lt_put (lt_put (lt_put (lt_put (lt_put (lt_put (lt_put (lt_put (lt_put (lt_sz hsz40 rfl))))))))))))))
      clear hA43 hsz40 hdf40 l3_40 l4_40 l5_40 l7_40 l8_40 l9_40 l10_40 l11_40 l12_40
      refine then_n (hK42 _ _ ?_)
      clear hK42
      refine cond_not l48_43 (by simp) ?_
      refine wp_skip ?_
      refine then_n (hK41 _ _ ?_)
      clear hK41
      refine wp_seq_k (fun K44 hK44 => ?_)
      -- region 7
      refine region_in ?_
      refine W_r rfl rfl (VR_ldA rfl l3_43 b2 Try.underlying24 rfl (by kernel_rfl)) ?_
      refine W_v rfl rfl (V_ixA (sz := 1) (off' := 0) 0 rfl (ev_step l5_43 rfl) rfl (by rfl) Try.underlying63 (by decide) (by kernel_rfl) rfl) ?_
      refine W_r rfl rfl (VR_ldC rfl (ev_top (lt_put (lt_sz hsz43 rfl))) (cell_box (v := .int .i64 (x0)) b6 rfl) Try.underlying3 rfl) ?_
      refine W_call rfl rfl rfl Try.func22 (by kernel_rfl) rfl (args2 (ev_step (ev_step (ev_top (lt_sz hsz43 rfl)) rfl) rfl) (ev_top (lt_put (lt_put (lt_sz hsz43 rfl))))) (Find_c (c := x0) (h_lv.ext hE39) (h_yv.ext hE39) ) ?_
      rintro _ w45 ⟨rfl, hx45⟩
      refine ⟨_, rfl, ?_⟩
      have hb46 := hE39.size
      have hE47 := Ext.tr hE39 hx45
      replace b2 := heap_ext hx45 b2
      replace b4 := heap_ext hx45 b4
      replace b6 := heap_ext hx45 b6
      refine W_v rfl rfl (V_mov rfl (ev_top (lt_put (lt_put (lt_put (lt_sz hsz43 rfl)))))) ?_
      refine W_v rfl rfl (V_ext rfl (ev_top (lt_put (lt_put (lt_put (lt_put (lt_sz hsz43 rfl)))))) rfl) ?_
      refine W_v rfl rfl (V_ext rfl (ev_step (ev_top (lt_put (lt_put (lt_put (lt_put (lt_sz hsz43 rfl)))))) rfl) rfl) ?_
      refine W_v rfl rfl (V_ext rfl (ev_step (ev_step (ev_top (lt_put (lt_put (lt_put (lt_put (lt_sz hsz43 rfl)))))) rfl) rfl) rfl) ?_
      refine W_v rfl rfl (V_asg rfl (ev_step (ev_step (ev_top (lt_put (lt_put (lt_put (lt_put (lt_put (lt_sz hsz43 rfl))))))) rfl) rfl)) ?_
      refine W_v rfl rfl (V_asg rfl (ev_step (ev_step (ev_top (lt_put (lt_put (lt_put (lt_put (lt_put (lt_put (lt_sz hsz43 rfl)))))))) rfl) rfl)) ?_
      refine W_v rfl rfl (V_asg rfl (ev_step (ev_step (ev_top (lt_put (lt_put (lt_put (lt_put (lt_put (lt_put (lt_put (lt_sz hsz43 rfl))))))))) rfl) rfl)) ?_
      refine W_end ?_
      refine gen_Q (fun A48 hA48 => ?_)
      have hsz48 : A48.tmps.size = 119 := by rw [hA48]; simp only [sz_put]; exact hsz43
      have hdf48 : A48.defers = [] := by rw [hA48]; simp only [df_put]; exact hdf43
      have l3_48 := lookE hA48 3 (ev_step (ev_step (ev_step (ev_step (ev_step (ev_step (ev_step (ev_step (ev_step (ev_step (ev_step l3_43 rfl) rfl) rfl) rfl) rfl) rfl) rfl) rfl) rfl) rfl) rfl)
      have l4_48 := lookE hA48 4 (ev_step (ev_step (ev_step (ev_step (ev_step (ev_step (ev_step (ev_step (ev_step (ev_step (ev_step l4_43 rfl) rfl) rfl) rfl) rfl) rfl) rfl) rfl) rfl) rfl) rfl)
      have l5_48 := lookE hA48 5 (ev_step (ev_step (ev_step (ev_step (ev_step (ev_step (ev_step (ev_step (ev_step (ev_step (ev_step l5_43 rfl) rfl) rfl) rfl) rfl) rfl) rfl) rfl) rfl) rfl) rfl)
      have l7_48 := lookE hA48 7 (ev_step (ev_step (ev_top (lt_put (lt_put (lt_put (lt_put (lt_put (lt_put (lt_put (lt_put (lt_sz hsz43 rfl)))))))))) rfl) rfl)
      have l8_48 := lookE hA48 8 (ev_step (ev_top (lt_put (lt_put (lt_put (lt_put (lt_put (lt_put (lt_put (lt_put (lt_put (lt_sz hsz43 rfl))))))))))) rfl)
      have l9_48 := lookE hA48 9 (ev_top (lt_put (lt_put (lt_put (lt_put (lt_put (lt_put (lt_put (lt_put (lt_put (lt_put (lt_sz hsz43 rfl))))))))))))
      clear hA48 hsz43 hdf43 l3_43 l4_43 l5_43 l48_43
      refine then_n (hK44 _ _ ?_)
      clear hK44
      refine wp_seq_k (fun K49 hK49 => ?_)
      -- region 8
      refine region_in ?_
      refine W_r rfl rfl (VR_ldA rfl l3_48 b2 Try.underlying24 rfl (by kernel_rfl)) ?_
      refine W_v rfl rfl (V_ixA (sz := 1) (off' := 0) 0 rfl (ev_step l5_48 rfl) rfl (by rfl) Try.underlying63 (by decide) (by kernel_rfl) rfl) ?_
      refine W_r rfl rfl (VR_ldC rfl (ev_top (lt_put (lt_sz hsz48 rfl))) (cell_box (v := .int .i64 (x0)) b6 rfl) Try.underlying3 rfl) ?_
      refine W_call rfl rfl rfl Try.func40 (by kernel_rfl) rfl (args2 (ev_step (ev_step (ev_top (lt_sz hsz48 rfl)) rfl) rfl) (ev_top (lt_put (lt_put (lt_sz hsz48 rfl))))) (rFind_c (c := x0) (h_lv.ext hE47) (h_yv.ext hE47) (by omega) (by omega)) ?_
      rintro _ w50 ⟨rfl, hx50⟩
      refine ⟨_, rfl, ?_⟩
      have hb51 := hE47.size
      have hE52 := Ext.tr hE47 hx50
      replace b2 := heap_ext hx50 b2
      replace b4 := heap_ext hx50 b4
      replace b6 := heap_ext hx50 b6
      refine W_v rfl rfl (V_mov rfl (ev_top (lt_put (lt_put (lt_put (lt_sz hsz48 rfl)))))) ?_
      refine W_v rfl rfl (V_ext rfl (ev_top (lt_put (lt_put (lt_put (lt_put (lt_sz hsz48 rfl)))))) rfl) ?_
      refine W_v rfl rfl (V_ext rfl (ev_step (ev_top (lt_put (lt_put (lt_put (lt_put (lt_sz hsz48 rfl)))))) rfl) rfl) ?_
      refine W_v rfl rfl (V_ext rfl (ev_step (ev_step (ev_top (lt_put (lt_put (lt_put (lt_put (lt_sz hsz48 rfl)))))) rfl) rfl) rfl) ?_
      refine W_v rfl rfl (V_asg rfl (ev_step (ev_step (ev_top (lt_put (lt_put (lt_put (lt_put (lt_put (lt_sz hsz48 rfl))))))) rfl) rfl)) ?_
      refine W_v rfl rfl (V_asg rfl (ev_step (ev_step (ev_top (lt_put (lt_put (lt_put (lt_put (lt_put (lt_put (lt_sz hsz48 rfl)))))))) rfl) rfl)) ?_
      refine W_v rfl rfl (V_asg rfl (ev_step (ev_step (ev_top (lt_put (lt_put (lt_put (lt_put (lt_put (lt_put (lt_put (lt_sz hsz48 rfl))))))))) rfl) rfl)) ?_
      refine W_end ?_
      refine gen_Q (fun A53 hA53 => ?_)
      have hsz53 : A53.tmps.size = 119 := by rw [hA53]; simp only [sz_put]; exact hsz48
      have hdf53 : A53.defers = [] := by rw [hA53]; simp only [df_put]; exact hdf48
      have l3_53 := lookE hA53 3 (ev_step (ev_step (ev_step (ev_step (ev_step (ev_step (ev_step (ev_step (ev_step (ev_step (ev_step l3_48 rfl) rfl) rfl) rfl) rfl) rfl) rfl) rfl) rfl) rfl) rfl)
      have l4_53 := lookE hA53 4 (ev_step (ev_step (ev_step (ev_step (ev_step (ev_step (ev_step (ev_step (ev_step (ev_step (ev_step l4_48 rfl) rfl) rfl) rfl) rfl) rfl) rfl) rfl) rfl) rfl) rfl)
      have l5_53 := lookE hA53 5 (ev_step (ev_step (ev_step (ev_step (ev_step (ev_step (ev_step (ev_step (ev_step (ev_step (ev_step l5_48 rfl) rfl) rfl) rfl) rfl) rfl) rfl) rfl) rfl) rfl) rfl)
      have l7_53 := lookE hA53 7 (ev_step (ev_step (ev_step (ev_step (ev_step (ev_step (ev_step (ev_step (ev_step (ev_step (ev_step l7_48 rfl) rfl) rfl) rfl) rfl) rfl) rfl) rfl) rfl) rfl) rfl)
      have l8_53 := lookE hA53 8 (ev_step (ev_step (ev_step (ev_step (ev_step (ev_step (ev_step (ev_step (ev_step (ev_step (ev_step l8_48 rfl) rfl) rfl) rfl) rfl) rfl) rfl) rfl) rfl) rfl) rfl)
      have l9_53 := lookE hA53 9 (ev_step (ev_step (ev_step (ev_step (ev_step (ev_step (ev_step (ev_step (ev_step (ev_step (ev_step l9_48 rfl) rfl) rfl) rfl) rfl) rfl) rfl) rfl) rfl) rfl) rfl)
      have l10_53 := lookE hA53 10 (ev_step (ev_step (ev_top (lt_put (lt_put (lt_put (lt_put (lt_put (lt_put (lt_put (lt_put (lt_sz hsz48 rfl)))))))))) rfl) rfl)
      have l11_53 := lookE hA53 11 (ev_step (ev_top (lt_put (lt_put (lt_put (lt_put (lt_put (lt_put (lt_put (lt_put (lt_put (lt_sz hsz48 rfl))))))))))) rfl)
      have l12_53 := lookE hA53 12 (ev_top (lt_put (lt_put (lt_put (lt_put (lt_put (lt_put (lt_put (lt_put (lt_put (lt_put (lt_sz hsz48 rfl))))))))))))
      clear hA53 hsz48 hdf48 l3_48 l4_48 l5_48 l7_48 l8_48 l9_48
      refine then_n (hK49 _ _ ?_)
      clear hK49
      refine wp_seq_k (fun K54 hK54 => ?_)
      -- region 9
      refine region_in ?_
      refine W_r rfl rfl (VR_ldA rfl l3_53 b2 Try.underlying24 rfl (by kernel_rfl)) ?_
      refine W_v rfl rfl (V_ixA (sz := 1) (off' := 1) 1 rfl (ev_step l5_53 rfl) rfl (by rfl) Try.underlying63 (by decide) (by kernel_rfl) rfl) ?_
      refine W_r rfl rfl (VR_ldC rfl (ev_top (lt_put (lt_sz hsz53 rfl))) (cell_box (v := .int .i64 (x1)) b6 rfl) Try.underlying3 rfl) ?_
      refine W_call rfl rfl rfl Try.func23 (by kernel_rfl) rfl (args2 (ev_step (ev_step (ev_top (lt_sz hsz53 rfl)) rfl) rfl) (ev_top (lt_put (lt_put (lt_sz hsz53 rfl))))) (Cars_c (tr := x1) (h_lv.ext hE52) (h_yv.ext hE52) ) ?_
      rintro _ w55 ⟨v_55, rfl, f_55, hx55⟩
      refine ⟨_, rfl, ?_⟩
      have hb56 := hE52.size
      have hE57 := Ext.tr hE52 hx55
      replace b2 := heap_ext hx55 b2
      replace b4 := heap_ext hx55 b4
      replace b6 := heap_ext hx55 b6
      replace f_55 := f_55.base hb56
      refine W_v rfl rfl (V_mov rfl (ev_top (lt_put (lt_put (lt_put (lt_sz hsz53 rfl)))))) ?_
      refine W_v rfl rfl (V_ext rfl (ev_top (lt_put (lt_put (lt_put (lt_put (lt_sz hsz53 rfl)))))) rfl) ?_
      refine W_v rfl rfl (V_ext rfl (ev_step (ev_top (lt_put (lt_put (lt_put (lt_put (lt_sz hsz53 rfl)))))) rfl) rfl) ?_
      refine W_v rfl rfl (V_asg rfl (ev_step (ev_top (lt_put (lt_put (lt_put (lt_put (lt_put (lt_sz hsz53 rfl))))))) rfl)) ?_
      refine W_v rfl rfl (V_asg rfl (ev_step (ev_top (lt_put (lt_put (lt_put (lt_put (lt_put (lt_put (lt_sz hsz53 rfl)))))))) rfl)) ?_
      refine W_end ?_
      refine gen_Q (fun A58 hA58 => ?_)
      have hsz58 : A58.tmps.size = 119 := by rw [hA58]; simp only [sz_put]; exact hsz53
      have hdf58 : A58.defers = [] := by rw [hA58]; simp only [df_put]; exact hdf53
      have l3_58 := lookE hA58 3 (ev_step (ev_step (ev_step (ev_step (ev_step (ev_step (ev_step (ev_step (ev_step l3_53 rfl) rfl) rfl) rfl) rfl) rfl) rfl) rfl) rfl)
      have l4_58 := lookE hA58 4 (ev_step (ev_step (ev_step (ev_step (ev_step (ev_step (ev_step (ev_step (ev_step l4_53 rfl) rfl) rfl) rfl) rfl) rfl) rfl) rfl) rfl)
      have l5_58 := lookE hA58 5 (ev_step (ev_step (ev_step (ev_step (ev_step (ev_step (ev_step (ev_step (ev_step l5_53 rfl) rfl) rfl) rfl) rfl) rfl) rfl) rfl) rfl)
      have l7_58 := lookE hA58 7 (ev_step (ev_step (ev_step (ev_step (ev_step (ev_step (ev_step (ev_step (ev_step l7_53 rfl) rfl) rfl) rfl) rfl) rfl) rfl) rfl) rfl)
      have l8_58 := lookE hA58 8 (ev_step (ev_step (ev_step (ev_step (ev_step (ev_step (ev_step (ev_step (ev_step l8_53 rfl) rfl) rfl) rfl) rfl) rfl) rfl) rfl) rfl)
      have l9_58 := lookE hA58 9 (ev_step (ev_step (ev_step (ev_step (ev_step (ev_step (ev_step (ev_step (ev_step l9_53 rfl) rfl) rfl) rfl) rfl) rfl) rfl) rfl) rfl)
      have l10_58 := lookE hA58 10 (ev_step (ev_step (ev_step (ev_step (ev_step (ev_step (ev_step (ev_step (ev_step l10_53 rfl) rfl) rfl) rfl) rfl) rfl) rfl) rfl) rfl)
      have l11_58 := lookE hA58 11 (ev_step (ev_step (ev_step (ev_step (ev_step (ev_step (ev_step (ev_step (ev_step l11_53 rfl) rfl) rfl) rfl) rfl) rfl) rfl) rfl) rfl)
      have l12_58 := lookE hA58 12 (ev_step (ev_step (ev_step (ev_step (ev_step (ev_step (ev_step (ev_step (ev_step l12_53 rfl) rfl) rfl) rfl) rfl) rfl) rfl) rfl) rfl)
      have l13_58 := lookE hA58 13 (ev_step (ev_top (lt_put (lt_put (lt_put (lt_put (lt_put (lt_put (lt_put (lt_sz hsz53 rfl))))))))) rfl)
      have l14_58 := lookE hA58 14 (ev_top (lt_put (lt_put (lt_put (lt_put (lt_put (lt_put (lt_put (lt_put (lt_sz hsz53 rfl))))))))))
      clear hA58 hsz53 hdf53 l3_53 l4_53 l5_53 l7_53 l8_53 l9_53 l10_53 l11_53 l12_53
      refine then_n (hK54 _ _ ?_)
      clear hK54
      refine wp_seq_k (fun K59 hK59 => ?_)
      -- region 10
      refine region_in ?_
      refine W_r rfl rfl (VR_ldA rfl l3_58 b2 Try.underlying24 rfl (by kernel_rfl)) ?_
      refine W_v rfl rfl (V_ixA (sz := 1) (off' := 1) 1 rfl (ev_step l5_58 rfl) rfl (by rfl) Try.underlying63 (by decide) (by kernel_rfl) rfl) ?_
      refine W_r rfl rfl (VR_ldC rfl (ev_top (lt_put (lt_sz hsz58 rfl))) (cell_box (v := .int .i64 (x1)) b6 rfl) Try.underlying3 rfl) ?_
      refine W_call rfl rfl rfl Try.func41 (by kernel_rfl) rfl (args2 (ev_step (ev_step (ev_top (lt_sz hsz58 rfl)) rfl) rfl) (ev_top (lt_put (lt_put (lt_sz hsz58 rfl))))) (rCars_c (tr := x1) (h_lv.ext hE57) (h_yv.ext hE57) (by omega) (by omega)) ?_
      rintro _ w60 ⟨v_60, rfl, f_60, hx60⟩
      refine ⟨_, rfl, ?_⟩
      have hb61 := hE57.size
      have hE62 := Ext.tr hE57 hx60
      replace b2 := heap_ext hx60 b2
      replace b4 := heap_ext hx60 b4
      replace b6 := heap_ext hx60 b6
      replace f_55 := f_55.ext hx60
      replace f_60 := f_60.base hb61
      refine W_v rfl rfl (V_mov rfl (ev_top (lt_put (lt_put (lt_put (lt_sz hsz58 rfl)))))) ?_
      refine W_v rfl rfl (V_ext rfl (ev_top (lt_put (lt_put (lt_put (lt_put (lt_sz hsz58 rfl)))))) rfl) ?_
      refine W_v rfl rfl (V_ext rfl (ev_step (ev_top (lt_put (lt_put (lt_put (lt_put (lt_sz hsz58 rfl)))))) rfl) rfl) ?_
      refine W_v rfl rfl (V_asg rfl (ev_step (ev_top (lt_put (lt_put (lt_put (lt_put (lt_put (lt_sz hsz58 rfl))))))) rfl)) ?_
      refine W_v rfl rfl (V_asg rfl (ev_step (ev_top (lt_put (lt_put (lt_put (lt_put (lt_put (lt_put (lt_sz hsz58 rfl)))))))) rfl)) ?_
      refine W_end ?_
      refine gen_Q (fun A63 hA63 => ?_)
      have hsz63 : A63.tmps.size = 119 := by rw [hA63]; simp only [sz_put]; exact hsz58
      have hdf63 : A63.defers = [] := by rw [hA63]; simp only [df_put]; exact hdf58
      have l3_63 := lookE hA63 3 (ev_step (ev_step (ev_step (ev_step (ev_step (ev_step (ev_step (ev_step (ev_step l3_58 rfl) rfl) rfl) rfl) rfl) rfl) rfl) rfl) rfl)
      have l4_63 := lookE hA63 4 (ev_step (ev_step (ev_step (ev_step (ev_step (ev_step (ev_step (ev_step (ev_step l4_58 rfl) rfl) rfl) rfl) rfl) rfl) rfl) rfl) rfl)
      have l7_63 := lookE hA63 7 (ev_step (ev_step (ev_step (ev_step (ev_step (ev_step (ev_step (ev_step (ev_step l7_58 rfl) rfl) rfl) rfl) rfl) rfl) rfl) rfl) rfl)
      have l8_63 := lookE hA63 8 (ev_step (ev_step (ev_step (ev_step (ev_step (ev_step (ev_step (ev_step (ev_step l8_58 rfl) rfl) rfl) rfl) rfl) rfl) rfl) rfl) rfl)
      have l9_63 := lookE hA63 9 (ev_step (ev_step (ev_step (ev_step (ev_step (ev_step (ev_step (ev_step (ev_step l9_58 rfl) rfl) rfl) rfl) rfl) rfl) rfl) rfl) rfl)
      have l10_63 := lookE hA63 10 (ev_step (ev_step (ev_step (ev_step (ev_step (ev_step (ev_step (ev_step (ev_step l10_58 rfl) rfl) rfl) rfl) rfl) rfl) rfl) rfl) rfl)
      have l11_63 := lookE hA63 11 (ev_step (ev_step (ev_step (ev_step (ev_step (ev_step (ev_step (ev_step (ev_step l11_58 rfl) rfl) rfl) rfl) rfl) rfl) rfl) rfl) rfl)
      have l12_63 := lookE hA63 12 (ev_step (ev_step (ev_step (ev_step (ev_step (ev_step (ev_step (ev_step (ev_step l12_58 rfl) rfl) rfl) rfl) rfl) rfl) rfl) rfl) rfl)
      have l13_63 := lookE hA63 13 (ev_step (ev_step (ev_step (ev_step (ev_step (ev_step (ev_step (ev_step (ev_step l13_58 rfl) rfl) rfl) rfl) rfl) rfl) rfl) rfl) rfl)
      have l14_63 := lookE hA63 14 (ev_step (ev_step (ev_step (ev_step (ev_step (ev_step (ev_step (ev_step (ev_step l14_58 rfl) rfl) rfl) rfl) rfl) rfl) rfl) rfl) rfl)
      have l15_63 := lookE hA63 15 (ev_step (ev_top (lt_put (lt_put (lt_put (lt_put (lt_put (lt_put (lt_put (lt_sz hsz58 rfl))))))))) rfl)
      have l16_63 := lookE hA63 16 (ev_top (lt_put (lt_put (lt_put (lt_put (lt_put (lt_put (lt_put (lt_put (lt_sz hsz58 rfl))))))))))
      clear hA63 hsz58 hdf58 l3_58 l4_58 l5_58 l7_58 l8_58 l9_58 l10_58 l11_58 l12_58 l13_58 l14_58
      refine then_n (hK59 _ _ ?_)
      clear hK59
      refine wp_seq_k (fun K64 hK64 => ?_)
      -- region 11
      refine region_mono 41 41 [none, none, none, none, none, none, none, none, none, none, none, none, none, none, none, none, some (⟨fun w v => v = .bool (decide (((carsS lo yo x1).1) = ((carsS lo yo x1).1))), fun _ _ _ he h => h⟩), none, none, none, none, none, none, none, none, none, some (⟨fun w v => v = .bool (decide (lo = lo2 ∧ yo = yo2)), fun _ _ _ he h => h⟩), none, none, some (⟨fun w v => v = .bool (decide (lo = lo2 ∧ yo = yo2)), fun _ _ _ he h => h⟩), none, none, none, none, none, some (⟨fun w v => v = .bool (decide (lo = lo ∧ yo = yo)), fun _ _ _ he h => h⟩), none, none, some (⟨fun w v => v = .bool true, fun _ _ _ he h => h⟩)] (by kernel_rfl) (by kernel_rfl) ?_
      refine C_v rfl rfl (V_mov rfl l7_63) rfl rfl ?_
      refine C_v rfl rfl (V_mov rfl (ev_step l10_63 rfl)) rfl rfl ?_
      refine C_v rfl rfl (V_eql rfl (ev_step (ev_top (lt_sz hsz63 rfl)) rfl) (ev_top (lt_put (lt_sz hsz63 rfl)))) rfl rfl ?_
      refine C_sure (c' := true) rfl rfl (V_mov rfl (ev_top (lt_put (lt_put (lt_sz hsz63 rfl))))) (by simp) rfl rfl ?_
      refine C_v rfl (wanted_t rfl rfl (ev_top (lt_put (lt_put (lt_put (lt_sz hsz63 rfl))))) (lt_put (lt_put (lt_put (lt_put (lt_sz hsz63 rfl)))))) (V_mov rfl (ev_step (ev_step (ev_step (ev_step l8_63 rfl) rfl) rfl) rfl)) rfl rfl ?_
      refine C_v rfl (wanted_t rfl rfl (ev_step (ev_top (lt_put (lt_put (lt_put (lt_sz hsz63 rfl))))) rfl) (lt_put (lt_put (lt_put (lt_put (lt_put (lt_sz hsz63 rfl))))))) (V_mov rfl (ev_step (ev_step (ev_step (ev_step (ev_step l11_63 rfl) rfl) rfl) rfl) rfl)) rfl rfl ?_
      refine C_v rfl (wanted_t rfl rfl (ev_step (ev_step (ev_top (lt_put (lt_put (lt_put (lt_sz hsz63 rfl))))) rfl) rfl) (lt_put (lt_put (lt_put (lt_put (lt_put (lt_put (lt_sz hsz63 rfl)))))))) (V_eql rfl (ev_step (ev_top (lt_put (lt_put (lt_put (lt_put (lt_sz hsz63 rfl)))))) rfl) (ev_top (lt_put (lt_put (lt_put (lt_put (lt_put (lt_sz hsz63 rfl)))))))) rfl rfl ?_
      refine C_v rfl rfl (V_pickT rfl (ev_step (ev_step (ev_step (ev_top (lt_put (lt_put (lt_put (lt_sz hsz63 rfl))))) rfl) rfl) rfl) (ev_top (lt_put (lt_put (lt_put (lt_put (lt_put (lt_put (lt_sz hsz63 rfl))))))))) rfl rfl ?_
      refine C_sure (c' := true) rfl rfl (V_mov rfl (ev_top (lt_put (lt_put (lt_put (lt_put (lt_put (lt_put (lt_put (lt_sz hsz63 rfl)))))))))) (by simp) rfl rfl ?_
      refine C_v rfl (wanted_t rfl rfl (ev_top (lt_put (lt_put (lt_put (lt_put (lt_put (lt_put (lt_put (lt_put (lt_sz hsz63 rfl)))))))))) (lt_put (lt_put (lt_put (lt_put (lt_put (lt_put (lt_put (lt_put (lt_put (lt_sz hsz63 rfl))))))))))) (V_mov rfl (ev_step (ev_step (ev_step (ev_step (ev_step (ev_step (ev_step (ev_step (ev_step l9_63 rfl) rfl) rfl) rfl) rfl) rfl) rfl) rfl) rfl)) rfl rfl ?_
      refine C_v rfl (wanted_t rfl rfl (ev_step (ev_top (lt_put (lt_put (lt_put (lt_put (lt_put (lt_put (lt_put (lt_put (lt_sz hsz63 rfl)))))))))) rfl) (lt_put (lt_put (lt_put (lt_put (lt_put (lt_put (lt_put (lt_put (lt_put (lt_put (lt_sz hsz63 rfl)))))))))))) (V_mov rfl (ev_step (ev_step (ev_step (ev_step (ev_step (ev_step (ev_step (ev_step (ev_step (ev_step l12_63 rfl) rfl) rfl) rfl) rfl) rfl) rfl) rfl) rfl) rfl)) rfl rfl ?_
      refine C_v rfl (wanted_t rfl rfl (ev_step (ev_step (ev_top (lt_put (lt_put (lt_put (lt_put (lt_put (lt_put (lt_put (lt_put (lt_sz hsz63 rfl)))))))))) rfl) rfl) (lt_put (lt_put (lt_put (lt_put (lt_put (lt_put (lt_put (lt_put (lt_put (lt_put (lt_put (lt_sz hsz63 rfl))))))))))))) (V_eql rfl (ev_step (ev_top (lt_put (lt_put (lt_put (lt_put (lt_put (lt_put (lt_put (lt_put (lt_put (lt_sz hsz63 rfl))))))))))) rfl) (ev_top (lt_put (lt_put (lt_put (lt_put (lt_put (lt_put (lt_put (lt_put (lt_put (lt_put (lt_sz hsz63 rfl))))))))))))) rfl rfl ?_
      refine C_v rfl rfl (V_pickT rfl (ev_step (ev_step (ev_step (ev_top (lt_put (lt_put (lt_put (lt_put (lt_put (lt_put (lt_put (lt_put (lt_sz hsz63 rfl)))))))))) rfl) rfl) rfl) (ev_top (lt_put (lt_put (lt_put (lt_put (lt_put (lt_put (lt_put (lt_put (lt_put (lt_put (lt_put (lt_sz hsz63 rfl)))))))))))))) rfl rfl ?_
      refine C_sure (c' := true) rfl rfl (V_mov rfl (ev_top (lt_put (lt_put (lt_put (lt_put (lt_put (lt_put (lt_put (lt_put (lt_put (lt_put (lt_put (lt_put (lt_sz hsz63 rfl))))))))))))))) (by simp) rfl rfl ?_
      refine C_v rfl (wanted_t rfl rfl (ev_top (lt_put (lt_put (lt_put (lt_put (lt_put (lt_put (lt_put (lt_put (lt_put (lt_put (lt_put (lt_put (lt_put (lt_sz hsz63 rfl))))))))))))))) (lt_put (lt_put (lt_put (lt_put (lt_put (lt_put (lt_put (lt_put (lt_put (lt_put (lt_put (lt_put (lt_put (lt_put (lt_sz hsz63 rfl)))))))))))))))) (V_mov rfl (ev_step (ev_step (ev_step (ev_step (ev_step (ev_step (ev_step (ev_step (ev_step (ev_step (ev_step (ev_step (ev_step (ev_step l13_63 rfl) rfl) rfl) rfl) rfl) rfl) rfl) rfl) rfl) rfl) rfl) rfl) rfl) rfl)) rfl rfl ?_
      refine C_v rfl (wanted_t rfl rfl (ev_step (ev_top (lt_put (lt_put (lt_put (lt_put (lt_put (lt_put (lt_put (lt_put (lt_put (lt_put (lt_put (lt_put (lt_put (lt_sz hsz63 rfl))))))))))))))) rfl) (lt_put (lt_put (lt_put (lt_put (lt_put (lt_put (lt_put (lt_put (lt_put (lt_put (lt_put (lt_put (lt_put (lt_put (lt_put (lt_sz hsz63 rfl))))))))))))))))) (V_mov rfl (ev_step (ev_step (ev_step (ev_step (ev_step (ev_step (ev_step (ev_step (ev_step (ev_step (ev_step (ev_step (ev_step (ev_step (ev_step l15_63 rfl) rfl) rfl) rfl) rfl) rfl) rfl) rfl) rfl) rfl) rfl) rfl) rfl) rfl) rfl)) rfl rfl ?_
      refine C_call rfl (wanted_t rfl rfl (ev_step (ev_step (ev_top (lt_put (lt_put (lt_put (lt_put (lt_put (lt_put (lt_put (lt_put (lt_put (lt_put (lt_put (lt_put (lt_put (lt_sz hsz63 rfl))))))))))))))) rfl) rfl) (lt_put (lt_put (lt_put (lt_put (lt_put (lt_put (lt_put (lt_put (lt_put (lt_put (lt_put (lt_put (lt_put (lt_put (lt_put (lt_put (lt_sz hsz63 rfl)))))))))))))))))) rfl Try.func37 (by kernel_rfl) rfl (args2 (ev_step (ev_top (lt_put (lt_put (lt_put (lt_put (lt_put (lt_put (lt_put (lt_put (lt_put (lt_put (lt_put (lt_put (lt_put (lt_put (lt_sz hsz63 rfl)))))))))))))))) rfl) (ev_top (lt_put (lt_put (lt_put (lt_put (lt_put (lt_put (lt_put (lt_put (lt_put (lt_put (lt_put (lt_put (lt_put (lt_put (lt_put (lt_sz hsz63 rfl)))))))))))))))))) rfl rfl (fun wx hx hF => ?_) (fun u65 hu65 => ?_)
      · refine (Ints_c (f_55.1.ext hx) (f_60.1.ext hx) ).mono ?_
        rintro _ w65 ⟨rfl, hz⟩
        exact ⟨_, rfl, hz, rfl⟩
      obtain ⟨_, _, rfl⟩ := hu65
      refine C_v rfl rfl (V_pickT rfl (ev_step (ev_step (ev_step (ev_top (lt_put (lt_put (lt_put (lt_put (lt_put (lt_put (lt_put (lt_put (lt_put (lt_put (lt_put (lt_put (lt_put (lt_sz hsz63 rfl))))))))))))))) rfl) rfl) rfl) (ev_top (lt_put (lt_put (lt_put (lt_put (lt_put (lt_put (lt_put (lt_put (lt_put (lt_put (lt_put (lt_put (lt_put (lt_put (lt_put (lt_put (lt_sz hsz63 rfl))))))))))))))))))) rfl rfl ?_
      refine C_sure (c' := true) rfl rfl (V_mov rfl (ev_top (lt_put (lt_put (lt_put (lt_put (lt_put (lt_put (lt_put (lt_put (lt_put (lt_put (lt_put (lt_put (lt_put (lt_put (lt_put (lt_put (lt_put (lt_sz hsz63 rfl)))))))))))))))))))) (by simp) rfl rfl ?_
      refine C_v rfl (wanted_t rfl rfl (ev_top (lt_put (lt_put (lt_put (lt_put (lt_put (lt_put (lt_put (lt_put (lt_put (lt_put (lt_put (lt_put (lt_put (lt_put (lt_put (lt_put (lt_put (lt_put (lt_sz hsz63 rfl)))))))))))))))))))) (lt_put (lt_put (lt_put (lt_put (lt_put (lt_put (lt_put (lt_put (lt_put (lt_put (lt_put (lt_put (lt_put (lt_put (lt_put (lt_put (lt_put (lt_put (lt_put (lt_sz hsz63 rfl))))))))))))))))))))) (V_mov rfl (ev_step (ev_step (ev_step (ev_step (ev_step (ev_step (ev_step (ev_step (ev_step (ev_step (ev_step (ev_step (ev_step (ev_step (ev_step (ev_step (ev_step (ev_step (ev_step l14_63 rfl) rfl) rfl) rfl) rfl) rfl) rfl) rfl) rfl) rfl) rfl) rfl) rfl) rfl) rfl) rfl) rfl) rfl) rfl)) rfl rfl ?_
      refine C_v rfl (wanted_t rfl rfl (ev_step (ev_top (lt_put (lt_put (lt_put (lt_put (lt_put (lt_put (lt_put (lt_put (lt_put (lt_put (lt_put (lt_put (lt_put (lt_put (lt_put (lt_put (lt_put (lt_put (lt_sz hsz63 rfl)))))))))))))))))))) rfl) (lt_put (lt_put (lt_put (lt_put (lt_put (lt_put (lt_put (lt_put (lt_put (lt_put (lt_put (lt_put (lt_put (lt_put (lt_put (lt_put (lt_put (lt_put (lt_put (lt_put (lt_sz hsz63 rfl)))))))))))))))))))))) (V_mov rfl (ev_step (ev_step (ev_step (ev_step (ev_step (ev_step (ev_step (ev_step (ev_step (ev_step (ev_step (ev_step (ev_step (ev_step (ev_step (ev_step (ev_step (ev_step (ev_step (ev_step l16_63 rfl) rfl) rfl) rfl) rfl) rfl) rfl) rfl) rfl) rfl) rfl) rfl) rfl) rfl) rfl) rfl) rfl) rfl) rfl) rfl)) rfl rfl ?_
      refine C_v rfl (wanted_t rfl rfl (ev_step (ev_step (ev_top (lt_put (lt_put (lt_put (lt_put (lt_put (lt_put (lt_put (lt_put (lt_put (lt_put (lt_put (lt_put (lt_put (lt_put (lt_put (lt_put (lt_put (lt_put (lt_sz hsz63 rfl)))))))))))))))))))) rfl) rfl) (lt_put (lt_put (lt_put (lt_put (lt_put (lt_put (lt_put (lt_put (lt_put (lt_put (lt_put (lt_put (lt_put (lt_put (lt_put (lt_put (lt_put (lt_put (lt_put (lt_put (lt_put (lt_sz hsz63 rfl))))))))))))))))))))))) (V_eql rfl (ev_step (ev_top (lt_put (lt_put (lt_put (lt_put (lt_put (lt_put (lt_put (lt_put (lt_put (lt_put (lt_put (lt_put (lt_put (lt_put (lt_put (lt_put (lt_put (lt_put (lt_put (lt_sz hsz63 rfl))))))))))))))))))))) rfl) (ev_top (lt_put (lt_put (lt_put (lt_put (lt_put (lt_put (lt_put (lt_put (lt_put (lt_put (lt_put (lt_put (lt_put (lt_put (lt_put (lt_put (lt_put (lt_put (lt_put (lt_put (lt_sz hsz63 rfl))))))))))))))))))))))) rfl rfl ?_
      refine C_v rfl rfl (V_pickT rfl (ev_step (ev_step (ev_step (ev_top (lt_put (lt_put (lt_put (lt_put (lt_put (lt_put (lt_put (lt_put (lt_put (lt_put (lt_put (lt_put (lt_put (lt_put (lt_put (lt_put (lt_put (lt_put (lt_sz hsz63 rfl)))))))))))))))))))) rfl) rfl) rfl) (ev_top (lt_put (lt_put (lt_put (lt_put (lt_put (lt_put (lt_put (lt_put (lt_put (lt_put (lt_put (lt_put (lt_put (lt_put (lt_put (lt_put (lt_put (lt_put (lt_put (lt_put (lt_put (lt_sz hsz63 rfl)))))))))))))))))))))))) rfl rfl ?_
      refine C_sure (c' := true) rfl rfl (V_mov rfl (ev_top (lt_put (lt_put (lt_put (lt_put (lt_put (lt_put (lt_put (lt_put (lt_put (lt_put (lt_put (lt_put (lt_put (lt_put (lt_put (lt_put (lt_put (lt_put (lt_put (lt_put (lt_put (lt_put (lt_sz hsz63 rfl))))))))))))))))))))))))) (by simp) rfl rfl ?_
      refine C_r rfl (wanted_t rfl rfl (ev_top (lt_put (lt_put (lt_put (lt_put (lt_put (lt_put (lt_put (lt_put (lt_put (lt_put (lt_put (lt_put (lt_put (lt_put (lt_put (lt_put (lt_put (lt_put (lt_put (lt_put (lt_put (lt_put (lt_put (lt_sz hsz63 rfl))))))))))))))))))))))))) (lt_put (lt_put (lt_put (lt_put (lt_put (lt_put (lt_put (lt_put (lt_put (lt_put (lt_put (lt_put (lt_put (lt_put (lt_put (lt_put (lt_put (lt_put (lt_put (lt_put (lt_put (lt_put (lt_put (lt_put (lt_sz hsz63 rfl)))))))))))))))))))))))))) (by kernel_rfl) (fun wx hx hF => (VR_ldA rfl (ev_step (ev_step (ev_step (ev_step (ev_step (ev_step (ev_step (ev_step (ev_step (ev_step (ev_step (ev_step (ev_step (ev_step (ev_step (ev_step (ev_step (ev_step (ev_step (ev_step (ev_step (ev_step (ev_step (ev_step l3_63 rfl) rfl) rfl) rfl) rfl) rfl) rfl) rfl) rfl) rfl) rfl) rfl) rfl) rfl) rfl) rfl) rfl) rfl) rfl) rfl) rfl) rfl) rfl) rfl) (heap_ext hx b2) Try.underlying24 rfl (by kernel_rfl))) rfl rfl ?_
      refine C_r rfl (wanted_t rfl rfl (ev_step (ev_top (lt_put (lt_put (lt_put (lt_put (lt_put (lt_put (lt_put (lt_put (lt_put (lt_put (lt_put (lt_put (lt_put (lt_put (lt_put (lt_put (lt_put (lt_put (lt_put (lt_put (lt_put (lt_put (lt_put (lt_sz hsz63 rfl))))))))))))))))))))))))) rfl) (lt_put (lt_put (lt_put (lt_put (lt_put (lt_put (lt_put (lt_put (lt_put (lt_put (lt_put (lt_put (lt_put (lt_put (lt_put (lt_put (lt_put (lt_put (lt_put (lt_put (lt_put (lt_put (lt_put (lt_put (lt_put (lt_sz hsz63 rfl))))))))))))))))))))))))))) (by kernel_rfl) (fun wx hx hF => (VR_ldA rfl (ev_step (ev_step (ev_step (ev_step (ev_step (ev_step (ev_step (ev_step (ev_step (ev_step (ev_step (ev_step (ev_step (ev_step (ev_step (ev_step (ev_step (ev_step (ev_step (ev_step (ev_step (ev_step (ev_step (ev_step (ev_step l4_63 rfl) rfl) rfl) rfl) rfl) rfl) rfl) rfl) rfl) rfl) rfl) rfl) rfl) rfl) rfl) rfl) rfl) rfl) rfl) rfl) rfl) rfl) rfl) rfl) rfl) (heap_ext hx b4) Try.underlying24 rfl (by kernel_rfl))) rfl rfl ?_
      refine C_call rfl (wanted_t rfl rfl (ev_step (ev_step (ev_top (lt_put (lt_put (lt_put (lt_put (lt_put (lt_put (lt_put (lt_put (lt_put (lt_put (lt_put (lt_put (lt_put (lt_put (lt_put (lt_put (lt_put (lt_put (lt_put (lt_put (lt_put (lt_put (lt_put (lt_sz hsz63 rfl))))))))))))))))))))))))) rfl) rfl) (lt_put (lt_put (lt_put (lt_put (lt_put (lt_put (lt_put (lt_put (lt_put (lt_put (lt_put (lt_put (lt_put (lt_put (lt_put (lt_put (lt_put (lt_put (lt_put (lt_put (lt_put (lt_put (lt_put (lt_put (lt_put (lt_put (lt_sz hsz63 rfl)))))))))))))))))))))))))))) rfl Try.func28 (by kernel_rfl) rfl (args2 (ev_step (ev_top (lt_put (lt_put (lt_put (lt_put (lt_put (lt_put (lt_put (lt_put (lt_put (lt_put (lt_put (lt_put (lt_put (lt_put (lt_put (lt_put (lt_put (lt_put (lt_put (lt_put (lt_put (lt_put (lt_put (lt_put (lt_sz hsz63 rfl)))))))))))))))))))))))))) rfl) (ev_top (lt_put (lt_put (lt_put (lt_put (lt_put (lt_put (lt_put (lt_put (lt_put (lt_put (lt_put (lt_put (lt_put (lt_put (lt_put (lt_put (lt_put (lt_put (lt_put (lt_put (lt_put (lt_put (lt_put (lt_put (lt_put (lt_sz hsz63 rfl)))))))))))))))))))))))))))) rfl rfl (fun wx hx hF => ?_) (fun u66 hu66 => ?_)
      · refine (Same_c (h_lv.ext (Ext.tr hE62 hx)) (h_yv.ext (Ext.tr hE62 hx)) (h_lv2.ext (Ext.tr hE62 hx)) (h_yv2.ext (Ext.tr hE62 hx)) ).mono ?_
        rintro _ w66 ⟨rfl, hz⟩
        exact ⟨_, rfl, hz, rfl⟩
      obtain ⟨_, _, rfl⟩ := hu66
      refine C_r rfl (wanted_t rfl rfl (ev_step (ev_step (ev_step (ev_top (lt_put (lt_put (lt_put (lt_put (lt_put (lt_put (lt_put (lt_put (lt_put (lt_put (lt_put (lt_put (lt_put (lt_put (lt_put (lt_put (lt_put (lt_put (lt_put (lt_put (lt_put (lt_put (lt_put (lt_sz hsz63 rfl))))))))))))))))))))))))) rfl) rfl) rfl) (lt_put (lt_put (lt_put (lt_put (lt_put (lt_put (lt_put (lt_put (lt_put (lt_put (lt_put (lt_put (lt_put (lt_put (lt_put (lt_put (lt_put (lt_put (lt_put (lt_put (lt_put (lt_put (lt_put (lt_put (lt_put (lt_put (lt_put (lt_sz hsz63 rfl))))))))))))))))))))))))))))) (by kernel_rfl) (fun wx hx hF => (VR_ldA rfl (ev_step (ev_step (ev_step (ev_step (ev_step (ev_step (ev_step (ev_step (ev_step (ev_step (ev_step (ev_step (ev_step (ev_step (ev_step (ev_step (ev_step (ev_step (ev_step (ev_step (ev_step (ev_step (ev_step (ev_step (ev_step (ev_step (ev_step l3_63 rfl) rfl) rfl) rfl) rfl) rfl) rfl) rfl) rfl) rfl) rfl) rfl) rfl) rfl) rfl) rfl) rfl) rfl) rfl) rfl) rfl) rfl) rfl) rfl) rfl) rfl) rfl) (heap_ext hx b2) Try.underlying24 rfl (by kernel_rfl))) rfl rfl ?_
      refine C_r rfl (wanted_t rfl rfl (ev_step (ev_step (ev_step (ev_step (ev_top (lt_put (lt_put (lt_put (lt_put (lt_put (lt_put (lt_put (lt_put (lt_put (lt_put (lt_put (lt_put (lt_put (lt_put (lt_put (lt_put (lt_put (lt_put (lt_put (lt_put (lt_put (lt_put (lt_put (lt_sz hsz63 rfl))))))))))))))))))))))))) rfl) rfl) rfl) rfl) (lt_put (lt_put (lt_put (lt_put (lt_put (lt_put (lt_put (lt_put (lt_put (lt_put (lt_put (lt_put (lt_put (lt_put (lt_put (lt_put (lt_put (lt_put (lt_put (lt_put (lt_put (lt_put (lt_put (lt_put (lt_put (lt_put (lt_put (lt_put (lt_sz hsz63 rfl)))))))))))))))))))))))))))))) (by kernel_rfl) (fun wx hx hF => (VR_ldA rfl (ev_step (ev_step (ev_step (ev_step (ev_step (ev_step (ev_step (ev_step (ev_step (ev_step (ev_step (ev_step (ev_step (ev_step (ev_step (ev_step (ev_step (ev_step (ev_step (ev_step (ev_step (ev_step (ev_step (ev_step (ev_step (ev_step (ev_step (ev_step l4_63 rfl) rfl) rfl) rfl) rfl) rfl) rfl) rfl) rfl) rfl) rfl) rfl) rfl) rfl) rfl) rfl) rfl) rfl) rfl) rfl) rfl) rfl) rfl) rfl) rfl) rfl) rfl) rfl) (heap_ext hx b4) Try.underlying24 rfl (by kernel_rfl))) rfl rfl ?_
      refine C_call rfl (wanted_t rfl rfl (ev_step (ev_step (ev_step (ev_step (ev_step (ev_top (lt_put (lt_put (lt_put (lt_put (lt_put (lt_put (lt_put (lt_put (lt_put (lt_put (lt_put (lt_put (lt_put (lt_put (lt_put (lt_put (lt_put (lt_put (lt_put (lt_put (lt_put (lt_put (lt_put (lt_sz hsz63 rfl))))))))))))))))))))))))) rfl) rfl) rfl) rfl) rfl) (lt_put (lt_put (lt_put (lt_put (lt_put (lt_put (lt_put (lt_put (lt_put (lt_put (lt_put (lt_put (lt_put (lt_put (lt_put (lt_put (lt_put (lt_put (lt_put (lt_put (lt_put (lt_put (lt_put (lt_put (lt_put (lt_put (lt_put (lt_put (lt_put (lt_sz hsz63 rfl))))))))))))))))))))))))))))))) rfl Try.func17 (by kernel_rfl) rfl (args2 (ev_step (ev_top (lt_put (lt_put (lt_put (lt_put (lt_put (lt_put (lt_put (lt_put (lt_put (lt_put (lt_put (lt_put (lt_put (lt_put (lt_put (lt_put (lt_put (lt_put (lt_put (lt_put (lt_put (lt_put (lt_put (lt_put (lt_put (lt_put (lt_put (lt_sz hsz63 rfl))))))))))))))))))))))))))))) rfl) (ev_top (lt_put (lt_put (lt_put (lt_put (lt_put (lt_put (lt_put (lt_put (lt_put (lt_put (lt_put (lt_put (lt_put (lt_put (lt_put (lt_put (lt_put (lt_put (lt_put (lt_put (lt_put (lt_put (lt_put (lt_put (lt_put (lt_put (lt_put (lt_put (lt_sz hsz63 rfl))))))))))))))))))))))))))))))) rfl rfl (fun wx hx hF => ?_) (fun u67 hu67 => ?_)
      · refine (rSame_c (h_lv.ext (Ext.tr hE62 hx)) (h_yv.ext (Ext.tr hE62 hx)) (h_lv2.ext (Ext.tr hE62 hx)) (h_yv2.ext (Ext.tr hE62 hx)) ).mono ?_
        rintro _ w67 ⟨rfl, hz⟩
        exact ⟨_, rfl, hz, rfl⟩
      obtain ⟨_, _, rfl⟩ := hu67
      refine C_v rfl (wanted_t rfl rfl (ev_step (ev_step (ev_step (ev_step (ev_step (ev_step (ev_top (lt_put (lt_put (lt_put (lt_put (lt_put (lt_put (lt_put (lt_put (lt_put (lt_put (lt_put (lt_put (lt_put (lt_put (lt_put (lt_put (lt_put (lt_put (lt_put (lt_put (lt_put (lt_put (lt_put (lt_sz hsz63 rfl))))))))))))))))))))))))) rfl) rfl) rfl) rfl) rfl) rfl) (lt_put (lt_put (lt_put (lt_put (lt_put (lt_put (lt_put (lt_put (lt_put (lt_put (lt_put (lt_put (lt_put (lt_put (lt_put (lt_put (lt_put (lt_put (lt_put (lt_put (lt_put (lt_put (lt_put (lt_put (lt_put (lt_put (lt_put (lt_put (lt_put (lt_put (lt_sz hsz63 rfl)))))))))))))))))))))))))))))))) (V_eqB rfl (ev_step (ev_step (ev_step (ev_top (lt_put (lt_put (lt_put (lt_put (lt_put (lt_put (lt_put (lt_put (lt_put (lt_put (lt_put (lt_put (lt_put (lt_put (lt_put (lt_put (lt_put (lt_put (lt_put (lt_put (lt_put (lt_put (lt_put (lt_put (lt_put (lt_put (lt_sz hsz63 rfl)))))))))))))))))))))))))))) rfl) rfl) rfl) (ev_top (lt_put (lt_put (lt_put (lt_put (lt_put (lt_put (lt_put (lt_put (lt_put (lt_put (lt_put (lt_put (lt_put (lt_put (lt_put (lt_put (lt_put (lt_put (lt_put (lt_put (lt_put (lt_put (lt_put (lt_put (lt_put (lt_put (lt_put (lt_put (lt_put (lt_sz hsz63 rfl))))))))))))))))))))))))))))))) Try.underlying4) rfl rfl ?_
      refine C_v rfl rfl (V_pickT rfl (ev_step (ev_step (ev_step (ev_step (ev_step (ev_step (ev_step (ev_top (lt_put (lt_put (lt_put (lt_put (lt_put (lt_put (lt_put (lt_put (lt_put (lt_put (lt_put (lt_put (lt_put (lt_put (lt_put (lt_put (lt_put (lt_put (lt_put (lt_put (lt_put (lt_put (lt_put (lt_sz hsz63 rfl))))))))))))))))))))))))) rfl) rfl) rfl) rfl) rfl) rfl) rfl) (ev_top (lt_put (lt_put (lt_put (lt_put (lt_put (lt_put (lt_put (lt_put (lt_put (lt_put (lt_put (lt_put (lt_put (lt_put (lt_put (lt_put (lt_put (lt_put (lt_put (lt_put (lt_put (lt_put (lt_put (lt_put (lt_put (lt_put (lt_put (lt_put (lt_put (lt_put (lt_sz hsz63 rfl))))))))))))))))))))))))))))))))) rfl rfl ?_
      refine C_sure (c' := true) rfl rfl (V_mov rfl (ev_top (lt_put (lt_put (lt_put (lt_put (lt_put (lt_put (lt_put (lt_put (lt_put (lt_put (lt_put (lt_put (lt_put (lt_put (lt_put (lt_put (lt_put (lt_put (lt_put (lt_put (lt_put (lt_put (lt_put (lt_put (lt_put (lt_put (lt_put (lt_put (lt_put (lt_put (lt_put (lt_sz hsz63 rfl)))))))))))))))))))))))))))))))))) (by simp) rfl rfl ?_
      refine C_r rfl (wanted_t rfl rfl (ev_top (lt_put (lt_put (lt_put (lt_put (lt_put (lt_put (lt_put (lt_put (lt_put (lt_put (lt_put (lt_put (lt_put (lt_put (lt_put (lt_put (lt_put (lt_put (lt_put (lt_put (lt_put (lt_put (lt_put (lt_put (lt_put (lt_put (lt_put (lt_put (lt_put (lt_put (lt_put (lt_put (lt_sz hsz63 rfl)))))))))))))))))))))))))))))))))) (lt_put (lt_put (lt_put (lt_put (lt_put (lt_put (lt_put (lt_put (lt_put (lt_put (lt_put (lt_put (lt_put (lt_put (lt_put (lt_put (lt_put (lt_put (lt_put (lt_put (lt_put (lt_put (lt_put (lt_put (lt_put (lt_put (lt_put (lt_put (lt_put (lt_put (lt_put (lt_put (lt_put (lt_sz hsz63 rfl))))))))))))))))))))))))))))))))))) (by kernel_rfl) (fun wx hx hF => (VR_ldA rfl (ev_step (ev_step (ev_step (ev_step (ev_step (ev_step (ev_step (ev_step (ev_step (ev_step (ev_step (ev_step (ev_step (ev_step (ev_step (ev_step (ev_step (ev_step (ev_step (ev_step (ev_step (ev_step (ev_step (ev_step (ev_step (ev_step (ev_step (ev_step (ev_step (ev_step (ev_step (ev_step (ev_step l3_63 rfl) rfl) rfl) rfl) rfl) rfl) rfl) rfl) rfl) rfl) rfl) rfl) rfl) rfl) rfl) rfl) rfl) rfl) rfl) rfl) rfl) rfl) rfl) rfl) rfl) rfl) rfl) rfl) rfl) rfl) rfl) rfl) rfl) (heap_ext hx b2) Try.underlying24 rfl (by kernel_rfl))) rfl rfl ?_
      refine C_r rfl (wanted_t rfl rfl (ev_step (ev_top (lt_put (lt_put (lt_put (lt_put (lt_put (lt_put (lt_put (lt_put (lt_put (lt_put (lt_put (lt_put (lt_put (lt_put (lt_put (lt_put (lt_put (lt_put (lt_put (lt_put (lt_put (lt_put (lt_put (lt_put (lt_put (lt_put (lt_put (lt_put (lt_put (lt_put (lt_put (lt_put (lt_sz hsz63 rfl)))))))))))))))))))))))))))))))))) rfl) (lt_put (lt_put (lt_put (lt_put (lt_put (lt_put (lt_put (lt_put (lt_put (lt_put (lt_put (lt_put (lt_put (lt_put (lt_put (lt_put (lt_put (lt_put (lt_put (lt_put (lt_put (lt_put (lt_put (lt_put (lt_put (lt_put (lt_put (lt_put (lt_put (lt_put (lt_put (lt_put (lt_put (lt_put (lt_sz hsz63 rfl)))))))))))))))))))))))))))))))))))) (by kernel_rfl) (fun wx hx hF => (VR_ldA rfl (ev_step (ev_step (ev_step (ev_step (ev_step (ev_step (ev_step (ev_step (ev_step (ev_step (ev_step (ev_step (ev_step (ev_step (ev_step (ev_step (ev_step (ev_step (ev_step (ev_step (ev_step (ev_step (ev_step (ev_step (ev_step (ev_step (ev_step (ev_step (ev_step (ev_step (ev_step (ev_step (ev_step (ev_step l3_63 rfl) rfl) rfl) rfl) rfl) rfl) rfl) rfl) rfl) rfl) rfl) rfl) rfl) rfl) rfl) rfl) rfl) rfl) rfl) rfl) rfl) rfl) rfl) rfl) rfl) rfl) rfl) rfl) rfl) rfl) rfl) rfl) rfl) rfl) (heap_ext hx b2) Try.underlying24 rfl (by kernel_rfl))) rfl rfl ?_
      refine C_call rfl (wanted_t rfl rfl (ev_step (ev_step (ev_top (lt_put (lt_put (lt_put (lt_put (lt_put (lt_put (lt_put (lt_put (lt_put (lt_put (lt_put (lt_put (lt_put (lt_put (lt_put (lt_put (lt_put (lt_put (lt_put (lt_put (lt_put (lt_put (lt_put (lt_put (lt_put (lt_put (lt_put (lt_put (lt_put (lt_put (lt_put (lt_put (lt_sz hsz63 rfl)))))))))))))))))))))))))))))))))) rfl) rfl) (lt_put (lt_put (lt_put (lt_put (lt_put (lt_put (lt_put (lt_put (lt_put (lt_put (lt_put (lt_put (lt_put (lt_put (lt_put (lt_put (lt_put (lt_put (lt_put (lt_put (lt_put (lt_put (lt_put (lt_put (lt_put (lt_put (lt_put (lt_put (lt_put (lt_put (lt_put (lt_put (lt_put (lt_put (lt_put (lt_sz hsz63 rfl))))))))))))))))))))))))))))))))))))) rfl Try.func28 (by kernel_rfl) rfl (args2 (ev_step (ev_top (lt_put (lt_put (lt_put (lt_put (lt_put (lt_put (lt_put (lt_put (lt_put (lt_put (lt_put (lt_put (lt_put (lt_put (lt_put (lt_put (lt_put (lt_put (lt_put (lt_put (lt_put (lt_put (lt_put (lt_put (lt_put (lt_put (lt_put (lt_put (lt_put (lt_put (lt_put (lt_put (lt_put (lt_sz hsz63 rfl))))))))))))))))))))))))))))))))))) rfl) (ev_top (lt_put (lt_put (lt_put (lt_put (lt_put (lt_put (lt_put (lt_put (lt_put (lt_put (lt_put (lt_put (lt_put (lt_put (lt_put (lt_put (lt_put (lt_put (lt_put (lt_put (lt_put (lt_put (lt_put (lt_put (lt_put (lt_put (lt_put (lt_put (lt_put (lt_put (lt_put (lt_put (lt_put (lt_put (lt_sz hsz63 rfl))))))))))))))))))))))))))))))))))))) rfl rfl (fun wx hx hF => ?_) (fun u68 hu68 => ?_)
      · refine (Same_c (h_lv.ext (Ext.tr hE62 hx)) (h_yv.ext (Ext.tr hE62 hx)) (h_lv.ext (Ext.tr hE62 hx)) (h_yv.ext (Ext.tr hE62 hx)) ).mono ?_
        rintro _ w68 ⟨rfl, hz⟩
        exact ⟨_, rfl, hz, rfl⟩
      obtain ⟨_, _, rfl⟩ := hu68
      refine C_v rfl rfl (V_pickT rfl (ev_step (ev_step (ev_step (ev_top (lt_put (lt_put (lt_put (lt_put (lt_put (lt_put (lt_put (lt_put (lt_put (lt_put (lt_put (lt_put (lt_put (lt_put (lt_put (lt_put (lt_put (lt_put (lt_put (lt_put (lt_put (lt_put (lt_put (lt_put (lt_put (lt_put (lt_put (lt_put (lt_put (lt_put (lt_put (lt_put (lt_sz hsz63 rfl)))))))))))))))))))))))))))))))))) rfl) rfl) rfl) (ev_top (lt_put (lt_put (lt_put (lt_put (lt_put (lt_put (lt_put (lt_put (lt_put (lt_put (lt_put (lt_put (lt_put (lt_put (lt_put (lt_put (lt_put (lt_put (lt_put (lt_put (lt_put (lt_put (lt_put (lt_put (lt_put (lt_put (lt_put (lt_put (lt_put (lt_put (lt_put (lt_put (lt_put (lt_put (lt_put (lt_sz hsz63 rfl)))))))))))))))))))))))))))))))))))))) rfl rfl ?_
      refine C_sure (c' := true) rfl rfl (V_mov rfl (ev_top (lt_put (lt_put (lt_put (lt_put (lt_put (lt_put (lt_put (lt_put (lt_put (lt_put (lt_put (lt_put (lt_put (lt_put (lt_put (lt_put (lt_put (lt_put (lt_put (lt_put (lt_put (lt_put (lt_put (lt_put (lt_put (lt_put (lt_put (lt_put (lt_put (lt_put (lt_put (lt_put (lt_put (lt_put (lt_put (lt_put (lt_sz hsz63 rfl))))))))))))))))))))))))))))))))))))))) (by simp) rfl rfl ?_
      refine C_call rfl (wanted_t rfl rfl (ev_top (lt_put (lt_put (lt_put (lt_put (lt_put (lt_put (lt_put (lt_put (lt_put (lt_put (lt_put (lt_put (lt_put (lt_put (lt_put (lt_put (lt_put (lt_put (lt_put (lt_put (lt_put (lt_put (lt_put (lt_put (lt_put (lt_put (lt_put (lt_put (lt_put (lt_put (lt_put (lt_put (lt_put (lt_put (lt_put (lt_put (lt_put (lt_sz hsz63 rfl))))))))))))))))))))))))))))))))))))))) (lt_put (lt_put (lt_put (lt_put (lt_put (lt_put (lt_put (lt_put (lt_put (lt_put (lt_put (lt_put (lt_put (lt_put (lt_put (lt_put (lt_put (lt_put (lt_put (lt_put (lt_put (lt_put (lt_put (lt_put (lt_put (lt_put (lt_put (lt_put (lt_put (lt_put (lt_put (lt_put (lt_put (lt_put (lt_put (lt_put (lt_put (lt_put (lt_sz hsz63 rfl)))))))))))))))))))))))))))))))))))))))) rfl Try.func12 (by kernel_rfl) rfl (args0) rfl rfl (fun wx hx hF => ?_) (fun u69 hu69 => ?_)
      · refine (awake_c  ).mono ?_
        rintro _ w69 ⟨rfl, hz⟩
        exact ⟨_, rfl, hz, rfl⟩
      obtain ⟨_, _, rfl⟩ := hu69
      refine C_v rfl rfl (V_pickT rfl (ev_step (ev_top (lt_put (lt_put (lt_put (lt_put (lt_put (lt_put (lt_put (lt_put (lt_put (lt_put (lt_put (lt_put (lt_put (lt_put (lt_put (lt_put (lt_put (lt_put (lt_put (lt_put (lt_put (lt_put (lt_put (lt_put (lt_put (lt_put (lt_put (lt_put (lt_put (lt_put (lt_put (lt_put (lt_put (lt_put (lt_put (lt_put (lt_put (lt_sz hsz63 rfl))))))))))))))))))))))))))))))))))))))) rfl) (ev_top (lt_put (lt_put (lt_put (lt_put (lt_put (lt_put (lt_put (lt_put (lt_put (lt_put (lt_put (lt_put (lt_put (lt_put (lt_put (lt_put (lt_put (lt_put (lt_put (lt_put (lt_put (lt_put (lt_put (lt_put (lt_put (lt_put (lt_put (lt_put (lt_put (lt_put (lt_put (lt_put (lt_put (lt_put (lt_put (lt_put (lt_put (lt_put (lt_sz hsz63 rfl))))))))))))))))))))))))))))))))))))))))) rfl rfl ?_
      refine C_v rfl rfl (V_asg rfl (ev_top (lt_put (lt_put (lt_put (lt_put (lt_put (lt_put (lt_put (lt_put (lt_put (lt_put (lt_put (lt_put (lt_put (lt_put (lt_put (lt_put (lt_put (lt_put (lt_put (lt_put (lt_put (lt_put (lt_put (lt_put (lt_put (lt_put (lt_put (lt_put (lt_put (lt_put (lt_put (lt_put (lt_put (lt_put (lt_put (lt_put (lt_put (lt_put (lt_put (lt_sz hsz63 rfl)))))))))))))))))))))))))))))))))))))))))) rfl rfl ?_
      refine Z_none (Nat.le_refl _) (Nat.le_refl _) (fun w70 hz70 hF70 => ?_)
      obtain hq65 := all_get (all_rest (all_rest (all_rest (all_rest hF70)))); cases hq65
      obtain hq66 := all_get (all_rest (all_rest (all_rest hF70))); cases hq66
      obtain hq67 := all_get (all_rest (all_rest hF70)); cases hq67
      obtain hq68 := all_get (all_rest hF70); cases hq68
      obtain hq69 := all_get hF70; cases hq69
      clear hF70
      have hR70 := hE62.size
      have hE71 := Ext.tr hE62 hz70
      replace b2 := heap_ext hz70 b2
      replace b4 := heap_ext hz70 b4
      replace f_55 := f_55.ext hz70
      replace f_60 := f_60.ext hz70
      refine gen_Q (fun A72 hA72 => ?_)
      have hsz72 : A72.tmps.size = 119 := by rw [hA72]; simp only [sz_put]; exact hsz63
      have hdf72 : A72.defers = [] := by rw [hA72]; simp only [df_put]; exact hdf63
      have l6_72 := lookE hA72 6 (ev_top (lt_put (lt_put (lt_put (lt_put (lt_put (lt_put (lt_put (lt_put (lt_put (lt_put (lt_put (lt_put (lt_put (lt_put (lt_put (lt_put (lt_put (lt_put (lt_put (lt_put (lt_put (lt_put (lt_put (lt_put (lt_put (lt_put (lt_put (lt_put (lt_put (lt_put (lt_put (lt_put (lt_put (lt_put (lt_put (lt_put (lt_put (lt_put (lt_put (lt_put (lt_sz hsz63 rfl))))))))))))))))))))))))))))))))))))))))))
      clear hA72 hsz63 hdf63 l3_63 l4_63 l7_63 l8_63 l9_63 l10_63 l11_63 l12_63 l13_63 l14_63 l15_63 l16_63
      refine then_n (hK64 _ _ ?_)
      clear hK64
      refine wp_ret ?_
      refine ret_in (results_1 Try.results10 (rv_tmp l6_72)) hdf72 ?_
      -- leaf FF
      exact ⟨rfl, hE71⟩

end Go.Proofs.Ytfnbfmlnageflaa