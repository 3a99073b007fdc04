import Derived.Test.YtfnbfmlnageflaaRg1
namespace Go.Proofs.Ytfnbfmlnageflaa
open Go.RowKit Go.Own


set_option maxHeartbeats 4000000 in
theorem TrainsTakes_c {lv : Value} {lo : List Int} {yv : Value} {yo : List Int} {tr : Int} {bf : Bool} {w : World} (h_lv : Ints w lv lo) (h_yv : Ints w yv yo)  :
    Calls Try.prog 8 #[.agg #[lv, yv], .int .i64 tr, .bool bf] w fun e w' => e = .returned (.bool true) ∧ Ext w w' := by
  refine calls_in 163 Try.func8 rfl rfl (by simp) (fun A0 hsz0 hdf0 hargs => ?_)
  have l0_0 := hargs 0 (.agg #[lv, yv]) rfl
  have l1_0 := hargs 1 (.int .i64 tr) rfl
  have l2_0 := hargs 2 (.bool bf) rfl
  clear hargs
  have hE0 := Ext.rfl' w
  refine wp_seq_k (fun K1 hK1 => ?_)
  -- region 0
  refine region_in ?_
  refine W_box (cs := #[lv, yv]) rfl rfl rfl l0_0 rfl (fun g2 w2 hg2 hx2 b2 => ?_)
  have oB_2 : w.heap.size ≤ g2 := hg2 ▸ hE0.size
  have hE3 := Ext.tr hE0 hx2
  refine W_v rfl rfl (V_asg rfl rfl) ?_
  refine W_end ?_
  refine gen_Q (fun A4 hA4 => ?_)
  have hsz4 : A4.tmps.size = 163 := by rw [hA4]; simp only [sz_put]; exact hsz0
  have hdf4 : A4.defers = [] := by rw [hA4]; simp only [df_put]; exact hdf0
  have l1_4 := lookE hA4 1 (ev_step (ev_step l1_0 rfl) rfl)
  have l2_4 := lookE hA4 2 (ev_step (ev_step l2_0 rfl) rfl)
  have l3_4 := lookE hA4 3 (ev_step (ev_top (lt_sz hsz0 rfl)) rfl)
  clear hA4 hsz0 hdf0 l0_0 l1_0 l2_0
  refine then_n (hK1 _ _ ?_)
  clear hK1
  refine wp_seq_k (fun K5 hK5 => ?_)
  refine wp_seq_k (fun K6 hK6 => ?_)
  -- region 1
  refine region_in ?_
  refine W_r rfl rfl (VR_ldA rfl l3_4 b2 Try.underlying24 rfl (by kernel_rfl)) ?_
  refine W_call rfl rfl rfl Try.func11 (by kernel_rfl) rfl (args1 (ev_top (lt_sz hsz4 rfl))) (Far_c (h_lv.ext hE3) (h_yv.ext hE3) ) ?_
  rintro _ w7 ⟨rfl, hx7⟩
  refine ⟨_, rfl, ?_⟩
  have hb8 := hE3.size
  have hE9 := Ext.tr hE3 hx7
  replace b2 := heap_ext hx7 b2
  refine W_end ?_
  refine gen_Q (fun A10 hA10 => ?_)
  have hsz10 : A10.tmps.size = 163 := by rw [hA10]; simp only [sz_put]; exact hsz4
  have hdf10 : A10.defers = [] := by rw [hA10]; simp only [df_put]; exact hdf4
  have l1_10 := lookE hA10 1 (ev_step (ev_step l1_4 rfl) rfl)
  have l2_10 := lookE hA10 2 (ev_step (ev_step l2_4 rfl) rfl)
  have l3_10 := lookE hA10 3 (ev_step (ev_step l3_4 rfl) rfl)
  have l20_10 := lookE hA10 20 (ev_top (lt_put (lt_sz hsz4 rfl)))
  clear hA10 hsz4 hdf4 l1_4 l2_4 l3_4
  refine then_n (hK6 _ _ ?_)
  clear hK6
  refine cond_dec l20_10 (fun c11 => ?_) (fun c11 => ?_)
  · skip
    refine wp_seq_k (fun K12 hK12 => ?_)
    -- region 2
    refine region_in ?_
    refine W_call rfl rfl rfl Try.func12 (by kernel_rfl) rfl (args0) (awake_c  ) ?_
    rintro _ w13 ⟨rfl, hx13⟩
    refine ⟨_, rfl, ?_⟩
    have hb14 := hE9.size
    have hE15 := Ext.tr hE9 hx13
    replace b2 := heap_ext hx13 b2
    refine W_v rfl rfl (V_asg rfl (ev_top (lt_sz hsz10 rfl))) ?_
    refine W_end ?_
    refine gen_Q (fun A16 hA16 => ?_)
    have hsz16 : A16.tmps.size = 163 := by rw [hA16]; simp only [sz_put]; exact hsz10
    have hdf16 : A16.defers = [] := by rw [hA16]; simp only [df_put]; exact hdf10
    have l6_16 := lookE hA16 6 (ev_top (lt_put (lt_sz hsz10 rfl)))
    clear hA16 hsz10 hdf10 l1_10 l2_10 l3_10 l20_10
    refine then_n (hK12 _ _ ?_)
    clear hK12
    refine wp_ret ?_
    refine then_ret ?_
    refine ret_in (results_1 Try.results8 (rv_tmp l6_16)) hdf16 ?_
    -- leaf T
    exact ⟨rfl, hE15⟩
  · skip
    refine wp_skip ?_
    refine then_n (hK5 _ _ ?_)
    clear hK5
    refine wp_seq_k (fun K17 hK17 => ?_)
    -- region 3
    refine region_in ?_
    refine W_r rfl rfl (VR_ldA rfl l3_10 b2 Try.underlying24 rfl (by kernel_rfl)) ?_
    refine W_call rfl rfl rfl Try.func18 (by kernel_rfl) rfl (args1 (ev_top (lt_sz hsz10 rfl))) (First_c (h_lv.ext hE9) (h_yv.ext hE9) (by omega) (by omega)) ?_
    rintro _ w18 ⟨rfl, hx18⟩
    refine ⟨_, rfl, ?_⟩
    have hb19 := hE9.size
    have hE20 := Ext.tr hE9 hx18
    replace b2 := heap_ext hx18 b2
    refine W_v rfl rfl (V_mov rfl (ev_top (lt_put (lt_sz hsz10 rfl)))) ?_
    refine W_v rfl rfl (V_ext rfl (ev_top (lt_put (lt_put (lt_sz hsz10 rfl)))) rfl) ?_
    refine W_v rfl rfl (V_ext rfl (ev_step (ev_top (lt_put (lt_put (lt_sz hsz10 rfl)))) rfl) rfl) ?_
    refine W_v rfl rfl (V_asg rfl (ev_step (ev_top (lt_put (lt_put (lt_put (lt_sz hsz10 rfl))))) rfl)) ?_
    refine W_v rfl rfl (V_asg rfl (ev_step (ev_top (lt_put (lt_put (lt_put (lt_put (lt_sz hsz10 rfl)))))) rfl)) ?_
    refine W_end ?_
    refine gen_Q (fun A21 hA21 => ?_)
    have hsz21 : A21.tmps.size = 163 := by rw [hA21]; simp only [sz_put]; exact hsz10
    have hdf21 : A21.defers = [] := by rw [hA21]; simp only [df_put]; exact hdf10
    have l1_21 := lookE hA21 1 (ev_step (ev_step (ev_step (ev_step (ev_step (ev_step (ev_step l1_10 rfl) rfl) rfl) rfl) rfl) rfl) rfl)
    have l2_21 := lookE hA21 2 (ev_step (ev_step (ev_step (ev_step (ev_step (ev_step (ev_step l2_10 rfl) rfl) rfl) rfl) rfl) rfl) rfl)
    have l3_21 := lookE hA21 3 (ev_step (ev_step (ev_step (ev_step (ev_step (ev_step (ev_step l3_10 rfl) rfl) rfl) rfl) rfl) rfl) rfl)
    have l7_21 := lookE hA21 7 (ev_step (ev_top (lt_put (lt_put (lt_put (lt_put (lt_put (lt_sz hsz10 rfl))))))) rfl)
    have l8_21 := lookE hA21 8 (ev_top (lt_put (lt_put (lt_put (lt_put (lt_put (lt_put (lt_sz hsz10 rfl))))))))
    clear hA21 hsz10 hdf10 l1_10 l2_10 l3_10 l20_10
    refine then_n (hK17 _ _ ?_)
    clear hK17
    refine wp_seq_k (fun K22 hK22 => ?_)
    -- region 4
    refine region_in ?_
    refine W_r rfl rfl (VR_ldA rfl l3_21 b2 Try.underlying24 rfl (by kernel_rfl)) ?_
    refine W_call rfl rfl rfl Try.func29 (by kernel_rfl) rfl (args1 (ev_top (lt_sz hsz21 rfl))) (rFirst_c (h_lv.ext hE20) (h_yv.ext hE20) (by omega) (by omega)) ?_
    rintro _ w23 ⟨rfl, hx23⟩
    refine ⟨_, rfl, ?_⟩
    have hb24 := hE20.size
    have hE25 := Ext.tr hE20 hx23
    replace b2 := heap_ext hx23 b2
    refine W_v rfl rfl (V_mov rfl (ev_top (lt_put (lt_sz hsz21 rfl)))) ?_
    refine W_v rfl rfl (V_ext rfl (ev_top (lt_put (lt_put (lt_sz hsz21 rfl)))) rfl) ?_
    refine W_v rfl rfl (V_ext rfl (ev_step (ev_top (lt_put (lt_put (lt_sz hsz21 rfl)))) rfl) rfl) ?_
    refine W_v rfl rfl (V_asg rfl (ev_step (ev_top (lt_put (lt_put (lt_put (lt_sz hsz21 rfl))))) rfl)) ?_
    refine W_v rfl rfl (V_asg rfl (ev_step (ev_top (lt_put (lt_put (lt_put (lt_put (lt_sz hsz21 rfl)))))) rfl)) ?_
    refine W_end ?_
    refine gen_Q (fun A26 hA26 => ?_)
    have hsz26 : A26.tmps.size = 163 := by rw [hA26]; simp only [sz_put]; exact hsz21
    have hdf26 : A26.defers = [] := by rw [hA26]; simp only [df_put]; exact hdf21
    have l1_26 := lookE hA26 1 (ev_step (ev_step (ev_step (ev_step (ev_step (ev_step (ev_step l1_21 rfl) rfl) rfl) rfl) rfl) rfl) rfl)
    have l2_26 := lookE hA26 2 (ev_step (ev_step (ev_step (ev_step (ev_step (ev_step (ev_step l2_21 rfl) rfl) rfl) rfl) rfl) rfl) rfl)
    have l3_26 := lookE hA26 3 (ev_step (ev_step (ev_step (ev_step (ev_step (ev_step (ev_step l3_21 rfl) rfl) rfl) rfl) rfl) rfl) rfl)
    have l7_26 := lookE hA26 7 (ev_step (ev_step (ev_step (ev_step (ev_step (ev_step (ev_step l7_21 rfl) rfl) rfl) rfl) rfl) rfl) rfl)
    have l8_26 := lookE hA26 8 (ev_step (ev_step (ev_step (ev_step (ev_step (ev_step (ev_step l8_21 rfl) rfl) rfl) rfl) rfl) rfl) rfl)
    have l9_26 := lookE hA26 9 (ev_step (ev_top (lt_put (lt_put (lt_put (lt_put (lt_put (lt_sz hsz21 rfl))))))) rfl)
    have l10_26 := lookE hA26 10 (ev_top (lt_put (lt_put (lt_put (lt_put (lt_put (lt_put (lt_sz hsz21 rfl))))))))
    clear hA26 hsz21 hdf21 l1_21 l2_21 l3_21 l7_21 l8_21
    refine then_n (hK22 _ _ ?_)
    clear hK22
    refine wp_seq_k (fun K27 hK27 => ?_)
    -- region 5
    refine region_in ?_
    refine W_r rfl rfl (VR_ldA rfl l3_26 b2 Try.underlying24 rfl (by kernel_rfl)) ?_
    refine W_v rfl rfl (V_mov rfl (ev_step l1_26 rfl)) ?_
    refine W_call rfl rfl rfl Try.func30 (by kernel_rfl) rfl (args2 (ev_step (ev_top (lt_sz hsz26 rfl)) rfl) (ev_top (lt_put (lt_sz hsz26 rfl)))) (Last_c (tr := tr) (h_lv.ext hE25) (h_yv.ext hE25) ) ?_
    rintro _ w28 ⟨rfl, hx28⟩
    refine ⟨_, rfl, ?_⟩
    have hb29 := hE25.size
    have hE30 := Ext.tr hE25 hx28
    replace b2 := heap_ext hx28 b2
    refine W_v rfl rfl (V_mov rfl (ev_top (lt_put (lt_put (lt_sz hsz26 rfl))))) ?_
    refine W_v rfl rfl (V_ext rfl (ev_top (lt_put (lt_put (lt_put (lt_sz hsz26 rfl))))) rfl) ?_
    refine W_v rfl rfl (V_ext rfl (ev_step (ev_top (lt_put (lt_put (lt_put (lt_sz hsz26 rfl))))) rfl) rfl) ?_
    refine W_v rfl rfl (V_asg rfl (ev_step (ev_top (lt_put (lt_put (lt_put (lt_put (lt_sz hsz26 rfl)))))) rfl)) ?_
    refine W_v rfl rfl (V_asg rfl (ev_step (ev_top (lt_put (lt_put (lt_put (lt_put (lt_put (lt_sz hsz26 rfl))))))) rfl)) ?_
    refine W_end ?_
    refine gen_Q (fun A31 hA31 => ?_)
    have hsz31 : A31.tmps.size = 163 := by rw [hA31]; simp only [sz_put]; exact hsz26
    have hdf31 : A31.defers = [] := by rw [hA31]; simp only [df_put]; exact hdf26
    have l1_31 := lookE hA31 1 (ev_step (ev_step (ev_step (ev_step (ev_step (ev_step (ev_step (ev_step l1_26 rfl) rfl) rfl) rfl) rfl) rfl) rfl) rfl)
    have l2_31 := lookE hA31 2 (ev_step (ev_step (ev_step (ev_step (ev_step (ev_step (ev_step (ev_step l2_26 rfl) rfl) rfl) rfl) rfl) rfl) rfl) rfl)
    have l3_31 := lookE hA31 3 (ev_step (ev_step (ev_step (ev_step (ev_step (ev_step (ev_step (ev_step l3_26 rfl) rfl) rfl) rfl) rfl) rfl) rfl) rfl)
    have l7_31 := lookE hA31 7 (ev_step (ev_step (ev_step (ev_step (ev_step (ev_step (ev_step (ev_step l7_26 rfl) rfl) rfl) rfl) rfl) rfl) rfl) rfl)
    have l8_31 := lookE hA31 8 (ev_step (ev_step (ev_step (ev_step (ev_step (ev_step (ev_step (ev_step l8_26 rfl) rfl) rfl) rfl) rfl) rfl) rfl) rfl)
    have l9_31 := lookE hA31 9 (ev_step (ev_step (ev_step (ev_step (ev_step (ev_step (ev_step (ev_step l9_26 rfl) rfl) rfl) rfl) rfl) rfl) rfl) rfl)
    have l10_31 := lookE hA31 10 (ev_step (ev_step (ev_step (ev_step (ev_step (ev_step (ev_step (ev_step l10_26 rfl) rfl) rfl) rfl) rfl) rfl) rfl) rfl)
    have l11_31 := lookE hA31 11 (ev_step (ev_top (lt_put (lt_put (lt_put (lt_put (lt_put (lt_put (lt_sz hsz26 rfl)))))))) rfl)
    have l12_31 := lookE hA31 12 (ev_top (lt_put (lt_put (lt_put (lt_put (lt_put (lt_put (lt_put (lt_sz hsz26 rfl)))))))))
    clear hA31 hsz26 hdf26 l1_26 l2_26 l3_26 l7_26 l8_26 l9_26 l10_26
    refine then_n (hK27 _ _ ?_)
    clear hK27
    refine wp_seq_k (fun K32 hK32 => ?_)
    -- region 6
    refine region_in ?_
    refine W_r rfl rfl (VR_ldA rfl l3_31 b2 Try.underlying24 rfl (by kernel_rfl)) ?_
    refine W_v rfl rfl (V_mov rfl (ev_step l1_31 rfl)) ?_
    refine W_call rfl rfl rfl Try.func31 (by kernel_rfl) rfl (args2 (ev_step (ev_top (lt_sz hsz31 rfl)) rfl) (ev_top (lt_put (lt_sz hsz31 rfl)))) (rLast_c (tr := tr) (h_lv.ext hE30) (h_yv.ext hE30) (by omega) (by omega)) ?_
    rintro _ w33 ⟨rfl, hx33⟩
    refine ⟨_, rfl, ?_⟩
    have hb34 := hE30.size
    have hE35 := Ext.tr hE30 hx33
    replace b2 := heap_ext hx33 b2
    refine W_v rfl rfl (V_mov rfl (ev_top (lt_put (lt_put (lt_sz hsz31 rfl))))) ?_
    refine W_v rfl rfl (V_ext rfl (ev_top (lt_put (lt_put (lt_put (lt_sz hsz31 rfl))))) rfl) ?_
    refine W_v rfl rfl (V_ext rfl (ev_step (ev_top (lt_put (lt_put (lt_put (lt_sz hsz31 rfl))))) rfl) rfl) ?_
    refine W_v rfl rfl (V_asg rfl (ev_step (ev_top (lt_put (lt_put (lt_put (lt_put (lt_sz hsz31 rfl)))))) rfl)) ?_
    refine W_v rfl rfl (V_asg rfl (ev_step (ev_top (lt_put (lt_put (lt_put (lt_put (lt_put (lt_sz hsz31 rfl))))))) rfl)) ?_
    refine W_end ?_
    refine gen_Q (fun A36 hA36 => ?_)
    have hsz36 : A36.tmps.size = 163 := by rw [hA36]; simp only [sz_put]; exact hsz31
    have hdf36 : A36.defers = [] := by rw [hA36]; simp only [df_put]; exact hdf31
    have l2_36 := lookE hA36 2 (ev_step (ev_step (ev_step (ev_step (ev_step (ev_step (ev_step (ev_step l2_31 rfl) rfl) rfl) rfl) rfl) rfl) rfl) rfl)
    have l3_36 := lookE hA36 3 (ev_step (ev_step (ev_step (ev_step (ev_step (ev_step (ev_step (ev_step l3_31 rfl) rfl) rfl) rfl) rfl) rfl) rfl) rfl)
    have l7_36 := lookE hA36 7 (ev_step (ev_step (ev_step (ev_step (ev_step (ev_step (ev_step (ev_step l7_31 rfl) rfl) rfl) rfl) rfl) rfl) rfl) rfl)
    have l8_36 := lookE hA36 8 (ev_step (ev_step (ev_step (ev_step (ev_step (ev_step (ev_step (ev_step l8_31 rfl) rfl) rfl) rfl) rfl) rfl) rfl) rfl)
    have l9_36 := lookE hA36 9 (ev_step (ev_step (ev_step (ev_step (ev_step (ev_step (ev_step (ev_step l9_31 rfl) rfl) rfl) rfl) rfl) rfl) rfl) rfl)
    have l10_36 := lookE hA36 10 (ev_step (ev_step (ev_step (ev_step (ev_step (ev_step (ev_step (ev_step l10_31 rfl) rfl) rfl) rfl) rfl) rfl) rfl) rfl)
    have l11_36 := lookE hA36 11 (ev_step (ev_step (ev_step (ev_step (ev_step (ev_step (ev_step (ev_step l11_31 rfl) rfl) rfl) rfl) rfl) rfl) rfl) rfl)
    have l12_36 := lookE hA36 12 (ev_step (ev_step (ev_step (ev_step (ev_step (ev_step (ev_step (ev_step l12_31 rfl) rfl) rfl) rfl) rfl) rfl) rfl) rfl)
    have l13_36 := lookE hA36 13 (ev_step (ev_top (lt_put (lt_put (lt_put (lt_put (lt_put (lt_put (lt_sz hsz31 rfl)))))))) rfl)
    have l14_36 := lookE hA36 14 (ev_top (lt_put (lt_put (lt_put (lt_put (lt_put (lt_put (lt_put (lt_sz hsz31 rfl)))))))))
    clear hA36 hsz31 hdf31 l1_31 l2_31 l3_31 l7_31 l8_31 l9_31 l10_31 l11_31 l12_31
    refine then_n (hK32 _ _ ?_)
    clear hK32
    refine wp_seq_k (fun K37 hK37 => ?_)
    refine wp_seq_k (fun K38 hK38 => ?_)
    -- region 7
    refine region_in ?_
    refine W_v rfl rfl (V_mov rfl l7_36) ?_
    refine W_v rfl rfl (V_mov rfl (ev_step l9_36 rfl)) ?_
    refine W_v rfl rfl (V_neq rfl (ev_step (ev_top (lt_sz hsz36 rfl)) rfl) (ev_top (lt_put (lt_sz hsz36 rfl)))) ?_
    refine W_sure (c' := false) rfl rfl (V_mov rfl (ev_top (lt_put (lt_put (lt_sz hsz36 rfl))))) (by simp) ?_
    refine W_v rfl (wanted_t rfl rfl (ev_top (lt_put (lt_put (lt_put (lt_sz hsz36 rfl))))) (lt_put (lt_put (lt_put (lt_put (lt_sz hsz36 rfl)))))) (V_mov rfl (ev_step (ev_step (ev_step (ev_step l8_36 rfl) rfl) rfl) rfl)) ?_
    refine W_v rfl (wanted_t rfl rfl (ev_step (ev_top (lt_put (lt_put (lt_put (lt_sz hsz36 rfl))))) rfl) (lt_put (lt_put (lt_put (lt_put (lt_put (lt_sz hsz36 rfl))))))) (V_mov rfl (ev_step (ev_step (ev_step (ev_step (ev_step l10_36 rfl) rfl) rfl) rfl) rfl)) ?_
    refine W_v rfl (wanted_t rfl rfl (ev_step (ev_step (ev_top (lt_put (lt_put (lt_put (lt_sz hsz36 rfl))))) rfl) rfl) (lt_put (lt_put (lt_put (lt_put (lt_put (lt_put (lt_sz hsz36 rfl)))))))) (V_neq rfl (ev_step (ev_top (lt_put (lt_put (lt_put (lt_put (lt_sz hsz36 rfl)))))) rfl) (ev_top (lt_put (lt_put (lt_put (lt_put (lt_put (lt_sz hsz36 rfl)))))))) ?_
    refine W_v rfl rfl (V_pickF rfl (ev_step (ev_step (ev_step (ev_top (lt_put (lt_put (lt_put (lt_sz hsz36 rfl))))) rfl) rfl) rfl) (ev_top (lt_put (lt_put (lt_put (lt_put (lt_put (lt_put (lt_sz hsz36 rfl))))))))) ?_
    refine W_sure (c' := false) rfl rfl (V_mov rfl (ev_top (lt_put (lt_put (lt_put (lt_put (lt_put (lt_put (lt_put (lt_sz hsz36 rfl)))))))))) (by simp) ?_
    refine W_v rfl (wanted_t rfl rfl (ev_top (lt_put (lt_put (lt_put (lt_put (lt_put (lt_put (lt_put (lt_put (lt_sz hsz36 rfl)))))))))) (lt_put (lt_put (lt_put (lt_put (lt_put (lt_put (lt_put (lt_put (lt_put (lt_sz hsz36 rfl))))))))))) (V_mov rfl (ev_step (ev_step (ev_step (ev_step (ev_step (ev_step (ev_step (ev_step (ev_step l11_36 rfl) rfl) rfl) rfl) rfl) rfl) rfl) rfl) rfl)) ?_
    refine W_v rfl (wanted_t rfl rfl (ev_step (ev_top (lt_put (lt_put (lt_put (lt_put (lt_put (lt_put (lt_put (lt_put (lt_sz hsz36 rfl)))))))))) rfl) (lt_put (lt_put (lt_put (lt_put (lt_put (lt_put (lt_put (lt_put (lt_put (lt_put (lt_sz hsz36 rfl)))))))))))) (V_mov rfl (ev_step (ev_step (ev_step (ev_step (ev_step (ev_step (ev_step (ev_step (ev_step (ev_step l13_36 rfl) rfl) rfl) rfl) rfl) rfl) rfl) rfl) rfl) rfl)) ?_
    refine W_v rfl (wanted_t rfl rfl (ev_step (ev_step (ev_top (lt_put (lt_put (lt_put (lt_put (lt_put (lt_put (lt_put (lt_put (lt_sz hsz36 rfl)))))))))) rfl) rfl) (lt_put (lt_put (lt_put (lt_put (lt_put (lt_put (lt_put (lt_put (lt_put (lt_put (lt_put (lt_sz hsz36 rfl))))))))))))) (V_neq rfl (ev_step (ev_top (lt_put (lt_put (lt_put (lt_put (lt_put (lt_put (lt_put (lt_put (lt_put (lt_sz hsz36 rfl))))))))))) rfl) (ev_top (lt_put (lt_put (lt_put (lt_put (lt_put (lt_put (lt_put (lt_put (lt_put (lt_put (lt_sz hsz36 rfl))))))))))))) ?_
    refine W_v rfl rfl (V_pickF rfl (ev_step (ev_step (ev_step (ev_top (lt_put (lt_put (lt_put (lt_put (lt_put (lt_put (lt_put (lt_put (lt_sz hsz36 rfl)))))))))) rfl) rfl) rfl) (ev_top (lt_put (lt_put (lt_put (lt_put (lt_put (lt_put (lt_put (lt_put (lt_put (lt_put (lt_put (lt_sz hsz36 rfl)))))))))))))) ?_
    refine W_sure (c' := false) rfl rfl (V_mov rfl (ev_top (lt_put (lt_put (lt_put (lt_put (lt_put (lt_put (lt_put (lt_put (lt_put (lt_put (lt_put (lt_put (lt_sz hsz36 rfl))))))))))))))) (by simp) ?_
    refine W_v rfl (wanted_t rfl rfl (ev_top (lt_put (lt_put (lt_put (lt_put (lt_put (lt_put (lt_put (lt_put (lt_put (lt_put (lt_put (lt_put (lt_put (lt_sz hsz36 rfl))))))))))))))) (lt_put (lt_put (lt_put (lt_put (lt_put (lt_put (lt_put (lt_put (lt_put (lt_put (lt_put (lt_put (lt_put (lt_put (lt_sz hsz36 rfl)))))))))))))))) (V_mov rfl (ev_step (ev_step (ev_step (ev_step (ev_step (ev_step (ev_step (ev_step (ev_step (ev_step (ev_step (ev_step (ev_step (ev_step l12_36 rfl) rfl) rfl) rfl) rfl) rfl) rfl) rfl) rfl) rfl) rfl) rfl) rfl) rfl)) ?_
    refine W_v rfl (wanted_t rfl rfl (ev_step (ev_top (lt_put (lt_put (lt_put (lt_put (lt_put (lt_put (lt_put (lt_put (lt_put (lt_put (lt_put (lt_put (lt_put (lt_sz hsz36 rfl))))))))))))))) rfl) (lt_put (lt_put (lt_put (lt_put (lt_put (lt_put (lt_put (lt_put (lt_put (lt_put (lt_put (lt_put (lt_put (lt_put (lt_put (lt_sz hsz36 rfl))))))))))))))))) (V_mov rfl (ev_step (ev_step (ev_step (ev_step (ev_step (ev_step (ev_step (ev_step (ev_step (ev_step (ev_step (ev_step (ev_step (ev_step (ev_step l14_36 rfl) rfl) rfl) rfl) rfl) rfl) rfl) rfl) rfl) rfl) rfl) rfl) rfl) rfl) rfl)) ?_
    refine W_v rfl (wanted_t rfl rfl (ev_step (ev_step (ev_top (lt_put (lt_put (lt_put (lt_put (lt_put (lt_put (lt_put (lt_put (lt_put (lt_put (lt_put (lt_put (lt_put (lt_sz hsz36 rfl))))))))))))))) rfl) rfl) (lt_put (lt_put (lt_put (lt_put (lt_put (lt_put (lt_put (lt_put (lt_put (lt_put (lt_put (lt_put (lt_put (lt_put (lt_put (lt_put (lt_sz hsz36 rfl)))))))))))))))))) (V_neq rfl (ev_step (ev_top (lt_put (lt_put (lt_put (lt_put (lt_put (lt_put (lt_put (lt_put (lt_put (lt_put (lt_put (lt_put (lt_put (lt_put (lt_sz hsz36 rfl)))))))))))))))) rfl) (ev_top (lt_put (lt_put (lt_put (lt_put (lt_put (lt_put (lt_put (lt_put (lt_put (lt_put (lt_put (lt_put (lt_put (lt_put (lt_put (lt_sz hsz36 rfl)))))))))))))))))) ?_
    refine W_v rfl rfl (V_pickF rfl (ev_step (ev_step (ev_step (ev_top (lt_put (lt_put (lt_put (lt_put (lt_put (lt_put (lt_put (lt_put (lt_put (lt_put (lt_put (lt_put (lt_put (lt_sz hsz36 rfl))))))))))))))) rfl) rfl) rfl) (ev_top (lt_put (lt_put (lt_put (lt_put (lt_put (lt_put (lt_put (lt_put (lt_put (lt_put (lt_put (lt_put (lt_put (lt_put (lt_put (lt_put (lt_sz hsz36 rfl))))))))))))))))))) ?_
    refine W_end ?_
    refine gen_Q (fun A39 hA39 => ?_)
    have hsz39 : A39.tmps.size = 163 := by rw [hA39]; simp only [sz_put]; exact hsz36
    have hdf39 : A39.defers = [] := by rw [hA39]; simp only [df_put]; exact hdf36
    have l2_39 := lookE hA39 2 (ev_step (ev_step (ev_step (ev_step (ev_step (ev_step (ev_step (ev_step (ev_step (ev_step (ev_step (ev_step (ev_step (ev_step (ev_step (ev_step (ev_step (ev_step l2_36 rfl) rfl) rfl) rfl) rfl) rfl) rfl) rfl) rfl) rfl) rfl) rfl) rfl) rfl) rfl) rfl) rfl) rfl)
    have l3_39 := lookE hA39 3 (ev_step (ev_step (ev_step (ev_step (ev_step (ev_step (ev_step (ev_step (ev_step (ev_step (ev_step (ev_step (ev_step (ev_step (ev_step (ev_step (ev_step (ev_step l3_36 rfl) rfl) rfl) rfl) rfl) rfl) rfl) rfl) rfl) rfl) rfl) rfl) rfl) rfl) rfl) rfl) rfl) rfl)
    have l61_39 := lookE hA39 61 (ev_top (lt_put (lt_put (lt_put (lt_put (lt_put (lt_put (lt_put (lt_put (lt_put (lt_put (lt_put (lt_put (lt_put (lt_put (lt_put (lt_put (lt_put (lt_sz hsz36 rfl)))))))))))))))))))
    clear hA39 hsz36 hdf36 l2_36 l3_36 l7_36 l8_36 l9_36 l10_36 l11_36 l12_36 l13_36 l14_36
    refine then_n (hK38 _ _ ?_)
    clear hK38
    refine cond_not l61_39 (by simp) ?_
    refine wp_skip ?_
    refine then_n (hK37 _ _ ?_)
    clear hK37
    refine wp_seq_k (fun K40 hK40 => ?_)
    -- region 9
    refine region_in ?_
    refine W_r rfl rfl (VR_ldA rfl l3_39 b2 Try.underlying24 rfl (by kernel_rfl)) ?_
    refine W_call rfl rfl rfl Try.func19 (by kernel_rfl) rfl (args1 (ev_top (lt_sz hsz39 rfl))) (Take_c (h_lv.ext hE35) (h_yv.ext hE35) (by omega) (by omega)) ?_
    rintro _ w41 ⟨v1_41, v2_41, rfl, f1_41, f2_41, hx41⟩
    refine ⟨_, rfl, ?_⟩
    have hb42 := hE35.size
    have hE43 := Ext.tr hE35 hx41
    replace b2 := heap_ext hx41 b2
    replace f1_41 := f1_41.base hb42
    replace f2_41 := f2_41.base hb42
    refine W_v rfl rfl (V_mov rfl (ev_top (lt_put (lt_sz hsz39 rfl)))) ?_
    refine W_v rfl rfl (V_ext rfl (ev_top (lt_put (lt_put (lt_sz hsz39 rfl)))) rfl) ?_
    refine W_v rfl rfl (V_ext rfl (ev_step (ev_top (lt_put (lt_put (lt_sz hsz39 rfl)))) rfl) rfl) ?_
    refine W_v rfl rfl (V_ext rfl (ev_step (ev_step (ev_top (lt_put (lt_put (lt_sz hsz39 rfl)))) rfl) rfl) rfl) ?_
    refine W_alloc (z := .agg #[.slice none 0 0, .slice none 0 0]) (cs := #[.slice none 0 0, .slice none 0 0]) rfl rfl rfl (by kernel_rfl) rfl (fun g44 w44 hg44 hx44 b44 => ?_)
    have o2_44 : g2 < g44 := hg44 ▸ lt_size b2
    have oB_44 : w.heap.size ≤ g44 := hg44 ▸ hE43.size
    have hE45 := Ext.tr hE43 hx44
    replace b2 := heap_ext hx44 b2
    replace f1_41 := f1_41.ext hx44
    replace f2_41 := f2_41.ext hx44
    refine W_stA rfl rfl rfl (ev_top (lt_put (lt_put (lt_put (lt_put (lt_put (lt_put (lt_sz hsz39 rfl)))))))) (ev_step (ev_step (ev_step (ev_top (lt_put (lt_put (lt_put (lt_sz hsz39 rfl))))) rfl) rfl) rfl) (by simp only [List.all_toArray, List.all_cons, List.all_nil, one_ints f1_41.1, one_ints f2_41.1] <;> rfl) b44 (by rfl) (by kernel_rfl) (fun w46 ht46 hb46 => ?_)
    have hE47 := ext_tch hE45 ht46 oB_44
    replace f1_41 := f1_41.tch ht46 b44 rfl
    replace f2_41 := f2_41.tch ht46 b44 rfl
    replace b2 := box_tch b2 ht46 (Nat.ne_of_lt o2_44)
    replace b44 := hb46
    refine W_v rfl rfl (V_asg rfl (ev_step (ev_step (ev_top (lt_put (lt_put (lt_put (lt_put (lt_sz hsz39 rfl)))))) rfl) rfl)) ?_
    refine W_v rfl rfl (V_asg rfl (ev_step (ev_step (ev_top (lt_put (lt_put (lt_put (lt_put (lt_put (lt_sz hsz39 rfl))))))) rfl) rfl)) ?_
    refine W_end ?_
    refine gen_Q (fun A48 hA48 => ?_)
    have hsz48 : A48.tmps.size = 163 := by rw [hA48]; simp only [sz_put]; exact hsz39
    have hdf48 : A48.defers = [] := by rw [hA48]; simp only [df_put]; exact hdf39
    have l2_48 := lookE hA48 2 (ev_step (ev_step (ev_step (ev_step (ev_step (ev_step (ev_step (ev_step (ev_step l2_39 rfl) rfl) rfl) rfl) rfl) rfl) rfl) rfl) rfl)
    have l3_48 := lookE hA48 3 (ev_step (ev_step (ev_step (ev_step (ev_step (ev_step (ev_step (ev_step (ev_step l3_39 rfl) rfl) rfl) rfl) rfl) rfl) rfl) rfl) rfl)
    have l7_48 := lookE hA48 7 (ev_step (ev_top (lt_put (lt_put (lt_put (lt_put (lt_put (lt_put (lt_put (lt_sz hsz39 rfl))))))))) rfl)
    have l8_48 := lookE hA48 8 (ev_top (lt_put (lt_put (lt_put (lt_put (lt_put (lt_put (lt_put (lt_put (lt_sz hsz39 rfl))))))))))
    have l15_48 := lookE hA48 15 (ev_step (ev_step (ev_top (lt_put (lt_put (lt_put (lt_put (lt_put (lt_put (lt_sz hsz39 rfl)))))))) rfl) rfl)
    clear hA48 hsz39 hdf39 l2_39 l3_39 l61_39
    refine then_n (hK40 _ _ ?_)
    clear hK40
    refine wp_seq_k (fun K49 hK49 => ?_)
    -- region 10
    refine region_in ?_
    refine W_r rfl rfl (VR_ldA rfl l3_48 b2 Try.underlying24 rfl (by kernel_rfl)) ?_
    refine W_call rfl rfl rfl Try.func32 (by kernel_rfl) rfl (args1 (ev_top (lt_sz hsz48 rfl))) (rTake_c (h_lv.ext hE47) (h_yv.ext hE47) (by omega) (by omega)) ?_
    rintro _ w50 ⟨v1_50, v2_50, rfl, f1_50, f2_50, hx50⟩
    refine ⟨_, rfl, ?_⟩
    have hb51 := hE47.size
    have hE52 := Ext.tr hE47 hx50
    replace b2 := heap_ext hx50 b2
    replace b44 := heap_ext hx50 b44
    replace f1_41 := f1_41.ext hx50
    replace f2_41 := f2_41.ext hx50
    replace f1_50 := f1_50.base hb51
    replace f2_50 := f2_50.base hb51
    refine W_v rfl rfl (V_mov rfl (ev_top (lt_put (lt_sz hsz48 rfl)))) ?_
    refine W_v rfl rfl (V_ext rfl (ev_top (lt_put (lt_put (lt_sz hsz48 rfl)))) rfl) ?_
    refine W_v rfl rfl (V_ext rfl (ev_step (ev_top (lt_put (lt_put (lt_sz hsz48 rfl)))) rfl) rfl) ?_
    refine W_v rfl rfl (V_ext rfl (ev_step (ev_step (ev_top (lt_put (lt_put (lt_sz hsz48 rfl)))) rfl) rfl) rfl) ?_
    refine W_alloc (z := .agg #[.slice none 0 0, .slice none 0 0]) (cs := #[.slice none 0 0, .slice none 0 0]) rfl rfl rfl (by kernel_rfl) rfl (fun g53 w53 hg53 hx53 b53 => ?_)
    have o2_53 : g2 < g53 := hg53 ▸ lt_size b2
    have o44_53 : g44 < g53 := hg53 ▸ lt_size b44
    have oB_53 : w.heap.size ≤ g53 := hg53 ▸ hE52.size
    have hE54 := Ext.tr hE52 hx53
    replace b2 := heap_ext hx53 b2
    replace b44 := heap_ext hx53 b44
    replace f1_41 := f1_41.ext hx53
    replace f2_41 := f2_41.ext hx53
    replace f1_50 := f1_50.ext hx53
    replace f2_50 := f2_50.ext hx53
    refine W_stA rfl rfl rfl (ev_top (lt_put (lt_put (lt_put (lt_put (lt_put (lt_put (lt_sz hsz48 rfl)))))))) (ev_step (ev_step (ev_step (ev_top (lt_put (lt_put (lt_put (lt_sz hsz48 rfl))))) rfl) rfl) rfl) (by simp only [List.all_toArray, List.all_cons, List.all_nil, one_ints f1_50.1, one_ints f2_50.1] <;> rfl) b53 (by rfl) (by kernel_rfl) (fun w55 ht55 hb55 => ?_)
    have hE56 := ext_tch hE54 ht55 oB_53
    replace f1_41 := f1_41.tch ht55 b53 rfl
    replace f2_41 := f2_41.tch ht55 b53 rfl
    replace f1_50 := f1_50.tch ht55 b53 rfl
    replace f2_50 := f2_50.tch ht55 b53 rfl
    replace b2 := box_tch b2 ht55 (Nat.ne_of_lt o2_53)
    replace b44 := box_tch b44 ht55 (Nat.ne_of_lt o44_53)
    replace b53 := hb55
    refine W_v rfl rfl (V_asg rfl (ev_step (ev_step (ev_top (lt_put (lt_put (lt_put (lt_put (lt_sz hsz48 rfl)))))) rfl) rfl)) ?_
    refine W_v rfl rfl (V_asg rfl (ev_step (ev_step (ev_top (lt_put (lt_put (lt_put (lt_put (lt_put (lt_sz hsz48 rfl))))))) rfl) rfl)) ?_
    refine W_end ?_
    refine gen_Q (fun A57 hA57 => ?_)
    have hsz57 : A57.tmps.size = 163 := by rw [hA57]; simp only [sz_put]; exact hsz48
    have hdf57 : A57.defers = [] := by rw [hA57]; simp only [df_put]; exact hdf48
    have l2_57 := lookE hA57 2 (ev_step (ev_step (ev_step (ev_step (ev_step (ev_step (ev_step (ev_step (ev_step l2_48 rfl) rfl) rfl) rfl) rfl) rfl) rfl) rfl) rfl)
    have l3_57 := lookE hA57 3 (ev_step (ev_step (ev_step (ev_step (ev_step (ev_step (ev_step (ev_step (ev_step l3_48 rfl) rfl) rfl) rfl) rfl) rfl) rfl) rfl) rfl)
    have l7_57 := lookE hA57 7 (ev_step (ev_step (ev_step (ev_step (ev_step (ev_step (ev_step (ev_step (ev_step l7_48 rfl) rfl) rfl) rfl) rfl) rfl) rfl) rfl) rfl)
    have l8_57 := lookE hA57 8 (ev_step (ev_step (ev_step (ev_step (ev_step (ev_step (ev_step (ev_step (ev_step l8_48 rfl) rfl) rfl) rfl) rfl) rfl) rfl) rfl) rfl)
    have l9_57 := lookE hA57 9 (ev_step (ev_top (lt_put (lt_put (lt_put (lt_put (lt_put (lt_put (lt_put (lt_sz hsz48 rfl))))))))) rfl)
    have l10_57 := lookE hA57 10 (ev_top (lt_put (lt_put (lt_put (lt_put (lt_put (lt_put (lt_put (lt_put (lt_sz hsz48 rfl))))))))))
    have l15_57 := lookE hA57 15 (ev_step (ev_step (ev_step (ev_step (ev_step (ev_step (ev_step (ev_step (ev_step l15_48 rfl) rfl) rfl) rfl) rfl) rfl) rfl) rfl) rfl)
    have l16_57 := lookE hA57 16 (ev_step (ev_step (ev_top (lt_put (lt_put (lt_put (lt_put (lt_put (lt_put (lt_sz hsz48 rfl)))))))) rfl) rfl)
    clear hA57 hsz48 hdf48 l2_48 l3_48 l7_48 l8_48 l15_48
    refine then_n (hK49 _ _ ?_)
    clear hK49
    refine wp_seq_k (fun K58 hK58 => ?_)
    refine wp_seq_k (fun K59 hK59 => ?_)
    -- region 11
    refine region_in ?_
    refine W_r rfl rfl (VR_ldA rfl l15_57 b44 Try.underlying24 rfl (by kernel_rfl)) ?_
    refine W_r rfl rfl (VR_ldA rfl (ev_step l16_57 rfl) b53 Try.underlying24 rfl (by kernel_rfl)) ?_
    refine W_call rfl rfl rfl Try.func17 (by kernel_rfl) rfl (args2 (ev_step (ev_top (lt_sz hsz57 rfl)) rfl) (ev_top (lt_put (lt_sz hsz57 rfl)))) (rSame_c f1_41.1 f2_41.1 f1_50.1 f2_50.1 ) ?_
    rintro _ w60 ⟨rfl, hx60⟩
    refine ⟨_, rfl, ?_⟩
    have hb61 := hE56.size
    have hE62 := Ext.tr hE56 hx60
    replace b2 := heap_ext hx60 b2
    replace b44 := heap_ext hx60 b44
    replace b53 := heap_ext hx60 b53
    replace f1_41 := f1_41.ext hx60
    replace f2_41 := f2_41.ext hx60
    replace f1_50 := f1_50.ext hx60
    replace f2_50 := f2_50.ext hx60
    refine W_v rfl rfl (V_notd rfl (ev_top (lt_put (lt_put (lt_sz hsz57 rfl))))) ?_
    refine W_sure (c' := false) rfl rfl (V_mov rfl (ev_top (lt_put (lt_put (lt_put (lt_sz hsz57 rfl)))))) (by simp) ?_
    refine W_v rfl (wanted_t rfl rfl (ev_top (lt_put (lt_put (lt_put (lt_put (lt_sz hsz57 rfl)))))) (lt_put (lt_put (lt_put (lt_put (lt_put (lt_sz hsz57 rfl))))))) (V_mov rfl (ev_step (ev_step (ev_step (ev_step (ev_step l7_57 rfl) rfl) rfl) rfl) rfl)) ?_
    refine W_v rfl (wanted_t rfl rfl (ev_step (ev_top (lt_put (lt_put (lt_put (lt_put (lt_sz hsz57 rfl)))))) rfl) (lt_put (lt_put (lt_put (lt_put (lt_put (lt_put (lt_sz hsz57 rfl)))))))) (V_mov rfl (ev_step (ev_step (ev_step (ev_step (ev_step (ev_step l9_57 rfl) rfl) rfl) rfl) rfl) rfl)) ?_
    refine W_v rfl (wanted_t rfl rfl (ev_step (ev_step (ev_top (lt_put (lt_put (lt_put (lt_put (lt_sz hsz57 rfl)))))) rfl) rfl) (lt_put (lt_put (lt_put (lt_put (lt_put (lt_put (lt_put (lt_sz hsz57 rfl))))))))) (V_neq rfl (ev_step (ev_top (lt_put (lt_put (lt_put (lt_put (lt_put (lt_sz hsz57 rfl))))))) rfl) (ev_top (lt_put (lt_put (lt_put (lt_put (lt_put (lt_put (lt_sz hsz57 rfl))))))))) ?_
    refine W_v rfl rfl (V_pickF rfl (ev_step (ev_step (ev_step (ev_top (lt_put (lt_put (lt_put (lt_put (lt_sz hsz57 rfl)))))) rfl) rfl) rfl) (ev_top (lt_put (lt_put (lt_put (lt_put (lt_put (lt_put (lt_put (lt_sz hsz57 rfl)))))))))) ?_
    refine W_sure (c' := false) rfl rfl (V_mov rfl (ev_top (lt_put (lt_put (lt_put (lt_put (lt_put (lt_put (lt_put (lt_put (lt_sz hsz57 rfl))))))))))) (by simp) ?_
    refine W_v rfl (wanted_t rfl rfl (ev_top (lt_put (lt_put (lt_put (lt_put (lt_put (lt_put (lt_put (lt_put (lt_put (lt_sz hsz57 rfl))))))))))) (lt_put (lt_put (lt_put (lt_put (lt_put (lt_put (lt_put (lt_put (lt_put (lt_put (lt_sz hsz57 rfl)))))))))))) (V_mov rfl (ev_step (ev_step (ev_step (ev_step (ev_step (ev_step (ev_step (ev_step (ev_step (ev_step l8_57 rfl) rfl) rfl) rfl) rfl) rfl) rfl) rfl) rfl) rfl)) ?_
    refine W_v rfl (wanted_t rfl rfl (ev_step (ev_top (lt_put (lt_put (lt_put (lt_put (lt_put (lt_put (lt_put (lt_put (lt_put (lt_sz hsz57 rfl))))))))))) rfl) (lt_put (lt_put (lt_put (lt_put (lt_put (lt_put (lt_put (lt_put (lt_put (lt_put (lt_put (lt_sz hsz57 rfl))))))))))))) (V_mov rfl (ev_step (ev_step (ev_step (ev_step (ev_step (ev_step (ev_step (ev_step (ev_step (ev_step (ev_step l10_57 rfl) rfl) rfl) rfl) rfl) rfl) rfl) rfl) rfl) rfl) rfl)) ?_
    refine W_v rfl (wanted_t rfl rfl (ev_step (ev_step (ev_top (lt_put (lt_put (lt_put (lt_put (lt_put (lt_put (lt_put (lt_put (lt_put (lt_sz hsz57 rfl))))))))))) rfl) rfl) (lt_put (lt_put (lt_put (lt_put (lt_put (lt_put (lt_put (lt_put (lt_put (lt_put (lt_put (lt_put (lt_sz hsz57 rfl)))))))))))))) (V_neq rfl (ev_step (ev_top (lt_put (lt_put (lt_put (lt_put (lt_put (lt_put (lt_put (lt_put (lt_put (lt_put (lt_sz hsz57 rfl)))))))))))) rfl) (ev_top (lt_put (lt_put (lt_put (lt_put (lt_put (lt_put (lt_put (lt_put (lt_put (lt_put (lt_put (lt_sz hsz57 rfl)))))))))))))) ?_
    refine W_v rfl rfl (V_pickF rfl (ev_step (ev_step (ev_step (ev_top (lt_put (lt_put (lt_put (lt_put (lt_put (lt_put (lt_put (lt_put (lt_put (lt_sz hsz57 rfl))))))))))) rfl) rfl) rfl) (ev_top (lt_put (lt_put (lt_put (lt_put (lt_put (lt_put (lt_put (lt_put (lt_put (lt_put (lt_put (lt_put (lt_sz hsz57 rfl))))))))))))))) ?_
    refine W_end ?_
    refine gen_Q (fun A63 hA63 => ?_)
    have hsz63 : A63.tmps.size = 163 := by rw [hA63]; simp only [sz_put]; exact hsz57
    have hdf63 : A63.defers = [] := by rw [hA63]; simp only [df_put]; exact hdf57
    have l2_63 := lookE hA63 2 (ev_step (ev_step (ev_step (ev_step (ev_step (ev_step (ev_step (ev_step (ev_step (ev_step (ev_step (ev_step (ev_step (ev_step l2_57 rfl) rfl) rfl) rfl) rfl) rfl) rfl) rfl) rfl) rfl) rfl) rfl) rfl) rfl)
    have l3_63 := lookE hA63 3 (ev_step (ev_step (ev_step (ev_step (ev_step (ev_step (ev_step (ev_step (ev_step (ev_step (ev_step (ev_step (ev_step (ev_step l3_57 rfl) rfl) rfl) rfl) rfl) rfl) rfl) rfl) rfl) rfl) rfl) rfl) rfl) rfl)
    have l15_63 := lookE hA63 15 (ev_step (ev_step (ev_step (ev_step (ev_step (ev_step (ev_step (ev_step (ev_step (ev_step (ev_step (ev_step (ev_step (ev_step l15_57 rfl) rfl) rfl) rfl) rfl) rfl) rfl) rfl) rfl) rfl) rfl) rfl) rfl) rfl)
    have l16_63 := lookE hA63 16 (ev_step (ev_step (ev_step (ev_step (ev_step (ev_step (ev_step (ev_step (ev_step (ev_step (ev_step (ev_step (ev_step (ev_step l16_57 rfl) rfl) rfl) rfl) rfl) rfl) rfl) rfl) rfl) rfl) rfl) rfl) rfl) rfl)
    have l87_63 := lookE hA63 87 (ev_top (lt_put (lt_put (lt_put (lt_put (lt_put (lt_put (lt_put (lt_put (lt_put (lt_put (lt_put (lt_put (lt_put (lt_sz hsz57 rfl)))))))))))))))
    clear hA63 hsz57 hdf57 l2_57 l3_57 l7_57 l8_57 l9_57 l10_57 l15_57 l16_57
    refine then_n (hK59 _ _ ?_)
    clear hK59
    refine cond_not l87_63 (by simp) ?_
    refine wp_skip ?_
    refine then_n (hK58 _ _ ?_)
    clear hK58
    refine wp_seq_k (fun K64 hK64 => ?_)
    -- region 13
    refine region_in ?_
    refine W_r rfl rfl (VR_ldA rfl l3_63 b2 Try.underlying24 rfl (by kernel_rfl)) ?_
    refine W_v rfl rfl (V_mov rfl (ev_step l2_63 rfl)) ?_
    refine W_call rfl rfl rfl Try.func26 (by kernel_rfl) rfl (args2 (ev_step (ev_top (lt_sz hsz63 rfl)) rfl) (ev_top (lt_put (lt_sz hsz63 rfl)))) (Relink_c (bf := bf) (h_lv.ext hE62) (h_yv.ext hE62) (by omega) (by omega)) ?_
    rintro _ w65 ⟨v1_65, v2_65, rfl, f1_65, f2_65, hx65⟩
    refine ⟨_, rfl, ?_⟩
    have hb66 := hE62.size
    have hE67 := Ext.tr hE62 hx65
    replace b2 := heap_ext hx65 b2
    replace b44 := heap_ext hx65 b44
    replace b53 := heap_ext hx65 b53
    replace f1_41 := f1_41.ext hx65
    replace f2_41 := f2_41.ext hx65
    replace f1_50 := f1_50.ext hx65
    replace f2_50 := f2_50.ext hx65
    replace f1_65 := f1_65.base hb66
    replace f2_65 := f2_65.base hb66
    refine W_v rfl rfl (V_mov rfl (ev_top (lt_put (lt_put (lt_sz hsz63 rfl))))) ?_
    refine W_v rfl rfl (V_ext rfl (ev_top (lt_put (lt_put (lt_put (lt_sz hsz63 rfl))))) rfl) ?_
    refine W_v rfl rfl (V_ext rfl (ev_step (ev_top (lt_put (lt_put (lt_put (lt_sz hsz63 rfl))))) rfl) rfl) ?_
    refine W_v rfl rfl (V_ext rfl (ev_step (ev_step (ev_top (lt_put (lt_put (lt_put (lt_sz hsz63 rfl))))) rfl) rfl) rfl) ?_
    refine W_stA rfl rfl rfl (ev_step (ev_step (ev_step (ev_step (ev_step (ev_step (ev_step l15_63 rfl) rfl) rfl) rfl) rfl) rfl) rfl) (ev_step (ev_step (ev_top (lt_put (lt_put (lt_put (lt_put (lt_sz hsz63 rfl)))))) rfl) rfl) (by simp only [List.all_toArray, List.all_cons, List.all_nil, one_ints f1_65.1, one_ints f2_65.1] <;> rfl) b44 (by rfl) (by kernel_rfl) (fun w68 ht68 hb68 => ?_)
    have hE69 := ext_tch hE67 ht68 oB_44
    replace f1_41 := f1_41.tch ht68 b44 rfl
    replace f2_41 := f2_41.tch ht68 b44 rfl
    replace f1_50 := f1_50.tch ht68 b44 rfl
    replace f2_50 := f2_50.tch ht68 b44 rfl
    replace f1_65 := f1_65.tch ht68 b44 rfl
    replace f2_65 := f2_65.tch ht68 b44 rfl
    replace b2 := box_tch b2 ht68 (Nat.ne_of_lt o2_44)
    replace b53 := box_tch b53 ht68 (Nat.ne_of_gt o44_53)
    replace b44 := hb68
    refine W_v rfl rfl (V_asg rfl (ev_step (ev_top (lt_put (lt_put (lt_put (lt_put (lt_put (lt_sz hsz63 rfl))))))) rfl)) ?_
    refine W_v rfl rfl (V_asg rfl (ev_step (ev_top (lt_put (lt_put (lt_put (lt_put (lt_put (lt_put (lt_sz hsz63 rfl)))))))) rfl)) ?_
    refine W_end ?_
    refine gen_Q (fun A70 hA70 => ?_)
    have hsz70 : A70.tmps.size = 163 := by rw [hA70]; simp only [sz_put]; exact hsz63
    have hdf70 : A70.defers = [] := by rw [hA70]; simp only [df_put]; exact hdf63
    have l2_70 := lookE hA70 2 (ev_step (ev_step (ev_step (ev_step (ev_step (ev_step (ev_step (ev_step (ev_step l2_63 rfl) rfl) rfl) rfl) rfl) rfl) rfl) rfl) rfl)
    have l3_70 := lookE hA70 3 (ev_step (ev_step (ev_step (ev_step (ev_step (ev_step (ev_step (ev_step (ev_step l3_63 rfl) rfl) rfl) rfl) rfl) rfl) rfl) rfl) rfl)
    have l7_70 := lookE hA70 7 (ev_step (ev_top (lt_put (lt_put (lt_put (lt_put (lt_put (lt_put (lt_put (lt_sz hsz63 rfl))))))))) rfl)
    have l8_70 := lookE hA70 8 (ev_top (lt_put (lt_put (lt_put (lt_put (lt_put (lt_put (lt_put (lt_put (lt_sz hsz63 rfl))))))))))
    have l15_70 := lookE hA70 15 (ev_step (ev_step (ev_step (ev_step (ev_step (ev_step (ev_step (ev_step (ev_step l15_63 rfl) rfl) rfl) rfl) rfl) rfl) rfl) rfl) rfl)
    have l16_70 := lookE hA70 16 (ev_step (ev_step (ev_step (ev_step (ev_step (ev_step (ev_step (ev_step (ev_step l16_63 rfl) rfl) rfl) rfl) rfl) rfl) rfl) rfl) rfl)
    clear hA70 hsz63 hdf63 l2_63 l3_63 l15_63 l16_63 l87_63
    refine then_n (hK64 _ _ ?_)
    clear hK64
    refine wp_seq_k (fun K71 hK71 => ?_)
    -- region 14
    refine region_in ?_
    refine W_r rfl rfl (VR_ldA rfl l3_70 b2 Try.underlying24 rfl (by kernel_rfl)) ?_
    refine W_v rfl rfl (V_mov rfl (ev_step l2_70 rfl)) ?_
    refine W_call rfl rfl rfl Try.func33 (by kernel_rfl) rfl (args2 (ev_step (ev_top (lt_sz hsz70 rfl)) rfl) (ev_top (lt_put (lt_sz hsz70 rfl)))) (rRelink_c (b := bf) (h_lv.ext hE69) (h_yv.ext hE69) (by omega) (by omega)) ?_
    rintro _ w72 ⟨v1_72, v2_72, rfl, f1_72, f2_72, hx72⟩
    refine ⟨_, rfl, ?_⟩
    have hb73 := hE69.size
    have hE74 := Ext.tr hE69 hx72
    replace b2 := heap_ext hx72 b2
    replace b44 := heap_ext hx72 b44
    replace b53 := heap_ext hx72 b53
    replace f1_50 := f1_50.ext hx72
    replace f2_50 := f2_50.ext hx72
    replace f1_65 := f1_65.ext hx72
    replace f2_65 := f2_65.ext hx72
    replace f1_72 := f1_72.base hb73
    replace f2_72 := f2_72.base hb73
    refine W_v rfl rfl (V_mov rfl (ev_top (lt_put (lt_put (lt_sz hsz70 rfl))))) ?_
    refine W_v rfl rfl (V_ext rfl (ev_top (lt_put (lt_put (lt_put (lt_sz hsz70 rfl))))) rfl) ?_
    refine W_v rfl rfl (V_ext rfl (ev_step (ev_top (lt_put (lt_put (lt_put (lt_sz hsz70 rfl))))) rfl) rfl) ?_
    refine W_v rfl rfl (V_ext rfl (ev_step (ev_step (ev_top (lt_put (lt_put (lt_put (lt_sz hsz70 rfl))))) rfl) rfl) rfl) ?_
    refine W_stA rfl rfl rfl (ev_step (ev_step (ev_step (ev_step (ev_step (ev_step (ev_step l16_70 rfl) rfl) rfl) rfl) rfl) rfl) rfl) (ev_step (ev_step (ev_top (lt_put (lt_put (lt_put (lt_put (lt_sz hsz70 rfl)))))) rfl) rfl) (by simp only [List.all_toArray, List.all_cons, List.all_nil, one_ints f1_72.1, one_ints f2_72.1] <;> rfl) b53 (by rfl) (by kernel_rfl) (fun w75 ht75 hb75 => ?_)
    have hE76 := ext_tch hE74 ht75 oB_53
    replace f1_50 := f1_50.tch ht75 b53 rfl
    replace f2_50 := f2_50.tch ht75 b53 rfl
    replace f1_65 := f1_65.tch ht75 b53 rfl
    replace f2_65 := f2_65.tch ht75 b53 rfl
    replace f1_72 := f1_72.tch ht75 b53 rfl
    replace f2_72 := f2_72.tch ht75 b53 rfl
    replace b2 := box_tch b2 ht75 (Nat.ne_of_lt o2_53)
    replace b44 := box_tch b44 ht75 (Nat.ne_of_lt o44_53)
    replace b53 := hb75
    refine W_v rfl rfl (V_asg rfl (ev_step (ev_top (lt_put (lt_put (lt_put (lt_put (lt_put (lt_sz hsz70 rfl))))))) rfl)) ?_
    refine W_v rfl rfl (V_asg rfl (ev_step (ev_top (lt_put (lt_put (lt_put (lt_put (lt_put (lt_put (lt_sz hsz70 rfl)))))))) rfl)) ?_
    refine W_end ?_
    refine gen_Q (fun A77 hA77 => ?_)
    have hsz77 : A77.tmps.size = 163 := by rw [hA77]; simp only [sz_put]; exact hsz70
    have hdf77 : A77.defers = [] := by rw [hA77]; simp only [df_put]; exact hdf70
    have l3_77 := lookE hA77 3 (ev_step (ev_step (ev_step (ev_step (ev_step (ev_step (ev_step (ev_step (ev_step l3_70 rfl) rfl) rfl) rfl) rfl) rfl) rfl) rfl) rfl)
    have l7_77 := lookE hA77 7 (ev_step (ev_step (ev_step (ev_step (ev_step (ev_step (ev_step (ev_step (ev_step l7_70 rfl) rfl) rfl) rfl) rfl) rfl) rfl) rfl) rfl)
    have l8_77 := lookE hA77 8 (ev_step (ev_step (ev_step (ev_step (ev_step (ev_step (ev_step (ev_step (ev_step l8_70 rfl) rfl) rfl) rfl) rfl) rfl) rfl) rfl) rfl)
    have l9_77 := lookE hA77 9 (ev_step (ev_top (lt_put (lt_put (lt_put (lt_put (lt_put (lt_put (lt_put (lt_sz hsz70 rfl))))))))) rfl)
    have l10_77 := lookE hA77 10 (ev_top (lt_put (lt_put (lt_put (lt_put (lt_put (lt_put (lt_put (lt_put (lt_sz hsz70 rfl))))))))))
    have l15_77 := lookE hA77 15 (ev_step (ev_step (ev_step (ev_step (ev_step (ev_step (ev_step (ev_step (ev_step l15_70 rfl) rfl) rfl) rfl) rfl) rfl) rfl) rfl) rfl)
    have l16_77 := lookE hA77 16 (ev_step (ev_step (ev_step (ev_step (ev_step (ev_step (ev_step (ev_step (ev_step l16_70 rfl) rfl) rfl) rfl) rfl) rfl) rfl) rfl) rfl)
    clear hA77 hsz70 hdf70 l2_70 l3_70 l7_70 l8_70 l15_70 l16_70
    refine then_n (hK71 _ _ ?_)
    clear hK71
    refine wp_seq_k (fun K78 hK78 => ?_)
    refine wp_seq_k (fun K79 hK79 => ?_)
    -- region 15
    refine region_in ?_
    refine W_r rfl rfl (VR_ldA rfl l15_77 b44 Try.underlying24 rfl (by kernel_rfl)) ?_
    refine W_r rfl rfl (VR_ldA rfl (ev_step l16_77 rfl) b53 Try.underlying24 rfl (by kernel_rfl)) ?_
    refine W_call rfl rfl rfl Try.func17 (by kernel_rfl) rfl (args2 (ev_step (ev_top (lt_sz hsz77 rfl)) rfl) (ev_top (lt_put (lt_sz hsz77 rfl)))) (rSame_c f1_65.1 f2_65.1 f1_72.1 f2_72.1 ) ?_
    rintro _ w80 ⟨rfl, hx80⟩
    refine ⟨_, rfl, ?_⟩
    have hb81 := hE76.size
    have hE82 := Ext.tr hE76 hx80
    replace b2 := heap_ext hx80 b2
    replace b44 := heap_ext hx80 b44
    replace b53 := heap_ext hx80 b53
    replace f1_65 := f1_65.ext hx80
    replace f2_65 := f2_65.ext hx80
    replace f1_72 := f1_72.ext hx80
    replace f2_72 := f2_72.ext hx80
    refine W_v rfl rfl (V_notd rfl (ev_top (lt_put (lt_put (lt_sz hsz77 rfl))))) ?_
    refine W_sure (c' := false) rfl rfl (V_mov rfl (ev_top (lt_put (lt_put (lt_put (lt_sz hsz77 rfl)))))) (by simp) ?_
    refine W_v rfl (wanted_t rfl rfl (ev_top (lt_put (lt_put (lt_put (lt_put (lt_sz hsz77 rfl)))))) (lt_put (lt_put (lt_put (lt_put (lt_put (lt_sz hsz77 rfl))))))) (V_mov rfl (ev_step (ev_step (ev_step (ev_step (ev_step l7_77 rfl) rfl) rfl) rfl) rfl)) ?_
    refine W_v rfl (wanted_t rfl rfl (ev_step (ev_top (lt_put (lt_put (lt_put (lt_put (lt_sz hsz77 rfl)))))) rfl) (lt_put (lt_put (lt_put (lt_put (lt_put (lt_put (lt_sz hsz77 rfl)))))))) (V_mov rfl (ev_step (ev_step (ev_step (ev_step (ev_step (ev_step l9_77 rfl) rfl) rfl) rfl) rfl) rfl)) ?_
    refine W_v rfl (wanted_t rfl rfl (ev_step (ev_step (ev_top (lt_put (lt_put (lt_put (lt_put (lt_sz hsz77 rfl)))))) rfl) rfl) (lt_put (lt_put (lt_put (lt_put (lt_put (lt_put (lt_put (lt_sz hsz77 rfl))))))))) (V_neq rfl (ev_step (ev_top (lt_put (lt_put (lt_put (lt_put (lt_put (lt_sz hsz77 rfl))))))) rfl) (ev_top (lt_put (lt_put (lt_put (lt_put (lt_put (lt_put (lt_sz hsz77 rfl))))))))) ?_
    refine W_v rfl rfl (V_pickF rfl (ev_step (ev_step (ev_step (ev_top (lt_put (lt_put (lt_put (lt_put (lt_sz hsz77 rfl)))))) rfl) rfl) rfl) (ev_top (lt_put (lt_put (lt_put (lt_put (lt_put (lt_put (lt_put (lt_sz hsz77 rfl)))))))))) ?_
    refine W_sure (c' := false) rfl rfl (V_mov rfl (ev_top (lt_put (lt_put (lt_put (lt_put (lt_put (lt_put (lt_put (lt_put (lt_sz hsz77 rfl))))))))))) (by simp) ?_
    refine W_v rfl (wanted_t rfl rfl (ev_top (lt_put (lt_put (lt_put (lt_put (lt_put (lt_put (lt_put (lt_put (lt_put (lt_sz hsz77 rfl))))))))))) (lt_put (lt_put (lt_put (lt_put (lt_put (lt_put (lt_put (lt_put (lt_put (lt_put (lt_sz hsz77 rfl)))))))))))) (V_mov rfl (ev_step (ev_step (ev_step (ev_step (ev_step (ev_step (ev_step (ev_step (ev_step (ev_step l8_77 rfl) rfl) rfl) rfl) rfl) rfl) rfl) rfl) rfl) rfl)) ?_
    refine W_v rfl (wanted_t rfl rfl (ev_step (ev_top (lt_put (lt_put (lt_put (lt_put (lt_put (lt_put (lt_put (lt_put (lt_put (lt_sz hsz77 rfl))))))))))) rfl) (lt_put (lt_put (lt_put (lt_put (lt_put (lt_put (lt_put (lt_put (lt_put (lt_put (lt_put (lt_sz hsz77 rfl))))))))))))) (V_mov rfl (ev_step (ev_step (ev_step (ev_step (ev_step (ev_step (ev_step (ev_step (ev_step (ev_step (ev_step l10_77 rfl) rfl) rfl) rfl) rfl) rfl) rfl) rfl) rfl) rfl) rfl)) ?_
    refine W_v rfl (wanted_t rfl rfl (ev_step (ev_step (ev_top (lt_put (lt_put (lt_put (lt_put (lt_put (lt_put (lt_put (lt_put (lt_put (lt_sz hsz77 rfl))))))))))) rfl) rfl) (lt_put (lt_put (lt_put (lt_put (lt_put (lt_put (lt_put (lt_put (lt_put (lt_put (lt_put (lt_put (lt_sz hsz77 rfl)))))))))))))) (V_neq rfl (ev_step (ev_top (lt_put (lt_put (lt_put (lt_put (lt_put (lt_put (lt_put (lt_put (lt_put (lt_put (lt_sz hsz77 rfl)))))))))))) rfl) (ev_top (lt_put (lt_put (lt_put (lt_put (lt_put (lt_put (lt_put (lt_put (lt_put (lt_put (lt_put (lt_sz hsz77 rfl)))))))))))))) ?_
    refine W_v rfl rfl (V_pickF rfl (ev_step (ev_step (ev_step (ev_top (lt_put (lt_put (lt_put (lt_put (lt_put (lt_put (lt_put (lt_put (lt_put (lt_sz hsz77 rfl))))))))))) rfl) rfl) rfl) (ev_top (lt_put (lt_put (lt_put (lt_put (lt_put (lt_put (lt_put (lt_put (lt_put (lt_put (lt_put (lt_put (lt_sz hsz77 rfl))))))))))))))) ?_
    refine W_end ?_
    refine gen_Q (fun A83 hA83 => ?_)
    have hsz83 : A83.tmps.size = 163 := by rw [hA83]; simp only [sz_put]; exact hsz77
    have hdf83 : A83.defers = [] := by rw [hA83]; simp only [df_put]; exact hdf77
    have l3_83 := lookE hA83 3 (ev_step (ev_step (ev_step (ev_step (ev_step (ev_step (ev_step (ev_step (ev_step (ev_step (ev_step (ev_step (ev_step (ev_step l3_77 rfl) rfl) rfl) rfl) rfl) rfl) rfl) rfl) rfl) rfl) rfl) rfl) rfl) rfl)
    have l15_83 := lookE hA83 15 (ev_step (ev_step (ev_step (ev_step (ev_step (ev_step (ev_step (ev_step (ev_step (ev_step (ev_step (ev_step (ev_step (ev_step l15_77 rfl) rfl) rfl) rfl) rfl) rfl) rfl) rfl) rfl) rfl) rfl) rfl) rfl) rfl)
    have l16_83 := lookE hA83 16 (ev_step (ev_step (ev_step (ev_step (ev_step (ev_step (ev_step (ev_step (ev_step (ev_step (ev_step (ev_step (ev_step (ev_step l16_77 rfl) rfl) rfl) rfl) rfl) rfl) rfl) rfl) rfl) rfl) rfl) rfl) rfl) rfl)
    have l115_83 := lookE hA83 115 (ev_top (lt_put (lt_put (lt_put (lt_put (lt_put (lt_put (lt_put (lt_put (lt_put (lt_put (lt_put (lt_put (lt_put (lt_sz hsz77 rfl)))))))))))))))
    clear hA83 hsz77 hdf77 l3_77 l7_77 l8_77 l9_77 l10_77 l15_77 l16_77
    refine then_n (hK79 _ _ ?_)
    clear hK79
    refine cond_not l115_83 (by simp) ?_
    refine wp_skip ?_
    refine then_n (hK78 _ _ ?_)
    clear hK78
    refine wp_seq_k (fun K84 hK84 => ?_)
    -- region 17
    refine region_in ?_
    refine W_r rfl rfl (VR_ldA rfl l3_83 b2 Try.underlying24 rfl (by kernel_rfl)) ?_
    refine W_call rfl rfl rfl Try.func34 (by kernel_rfl) rfl (args1 (ev_top (lt_sz hsz83 rfl))) (Turn_c (h_lv.ext hE82) (h_yv.ext hE82) ) ?_
    rintro _ w85 ⟨v1_85, v2_85, rfl, f1_85, f2_85, hx85⟩
    refine ⟨_, rfl, ?_⟩
    have hb86 := hE82.size
    have hE87 := Ext.tr hE82 hx85
    replace b2 := heap_ext hx85 b2
    replace b44 := heap_ext hx85 b44
    replace b53 := heap_ext hx85 b53
    replace f1_65 := f1_65.ext hx85
    replace f2_65 := f2_65.ext hx85
    replace f1_72 := f1_72.ext hx85
    replace f2_72 := f2_72.ext hx85
    replace f1_85 := f1_85.base hb86
    replace f2_85 := f2_85.base hb86
    refine W_v rfl rfl (V_mov rfl (ev_top (lt_put (lt_sz hsz83 rfl)))) ?_
    refine W_v rfl rfl (V_ext rfl (ev_top (lt_put (lt_put (lt_sz hsz83 rfl)))) rfl) ?_
    refine W_v rfl rfl (V_ext rfl (ev_step (ev_top (lt_put (lt_put (lt_sz hsz83 rfl)))) rfl) rfl) ?_
    refine W_stA rfl rfl rfl (ev_step (ev_step (ev_step (ev_step (ev_step l15_83 rfl) rfl) rfl) rfl) rfl) (ev_step (ev_top (lt_put (lt_put (lt_put (lt_sz hsz83 rfl))))) rfl) (by simp only [List.all_toArray, List.all_cons, List.all_nil, one_ints f1_85.1, one_ints f2_85.1] <;> rfl) b44 (by rfl) (by kernel_rfl) (fun w88 ht88 hb88 => ?_)
    have hE89 := ext_tch hE87 ht88 oB_44
    replace f1_65 := f1_65.tch ht88 b44 rfl
    replace f2_65 := f2_65.tch ht88 b44 rfl
    replace f1_72 := f1_72.tch ht88 b44 rfl
    replace f2_72 := f2_72.tch ht88 b44 rfl
    replace f1_85 := f1_85.tch ht88 b44 rfl
    replace f2_85 := f2_85.tch ht88 b44 rfl
    replace b2 := box_tch b2 ht88 (Nat.ne_of_lt o2_44)
    replace b53 := box_tch b53 ht88 (Nat.ne_of_gt o44_53)
    replace b44 := hb88
    refine W_v rfl rfl (V_asg rfl (ev_top (lt_put (lt_put (lt_put (lt_put (lt_sz hsz83 rfl))))))) ?_
    refine W_end ?_
    refine gen_Q (fun A90 hA90 => ?_)
    have hsz90 : A90.tmps.size = 163 := by rw [hA90]; simp only [sz_put]; exact hsz83
    have hdf90 : A90.defers = [] := by rw [hA90]; simp only [df_put]; exact hdf83
    have l3_90 := lookE hA90 3 (ev_step (ev_step (ev_step (ev_step (ev_step (ev_step l3_83 rfl) rfl) rfl) rfl) rfl) rfl)
    have l8_90 := lookE hA90 8 (ev_top (lt_put (lt_put (lt_put (lt_put (lt_put (lt_sz hsz83 rfl)))))))
    have l15_90 := lookE hA90 15 (ev_step (ev_step (ev_step (ev_step (ev_step (ev_step l15_83 rfl) rfl) rfl) rfl) rfl) rfl)
    have l16_90 := lookE hA90 16 (ev_step (ev_step (ev_step (ev_step (ev_step (ev_step l16_83 rfl) rfl) rfl) rfl) rfl) rfl)
    clear hA90 hsz83 hdf83 l3_83 l15_83 l16_83 l115_83
    refine then_n (hK84 _ _ ?_)
    clear hK84
    refine wp_seq_k (fun K91 hK91 => ?_)
    -- region 18
    refine region_in ?_
    refine W_r rfl rfl (VR_ldA rfl l3_90 b2 Try.underlying24 rfl (by kernel_rfl)) ?_
    refine W_call rfl rfl rfl Try.func35 (by kernel_rfl) rfl (args1 (ev_top (lt_sz hsz90 rfl))) (rTurn_c (h_lv.ext hE89) (h_yv.ext hE89) (by omega) (by omega)) ?_
    rintro _ w92 ⟨v1_92, v2_92, rfl, f1_92, f2_92, hx92⟩
    refine ⟨_, rfl, ?_⟩
    have hb93 := hE89.size
    have hE94 := Ext.tr hE89 hx92
    replace b2 := heap_ext hx92 b2
    replace b44 := heap_ext hx92 b44
    replace b53 := heap_ext hx92 b53
    replace f1_72 := f1_72.ext hx92
    replace f2_72 := f2_72.ext hx92
    replace f1_85 := f1_85.ext hx92
    replace f2_85 := f2_85.ext hx92
    replace f1_92 := f1_92.base hb93
    replace f2_92 := f2_92.base hb93
    refine W_v rfl rfl (V_mov rfl (ev_top (lt_put (lt_sz hsz90 rfl)))) ?_
    refine W_v rfl rfl (V_ext rfl (ev_top (lt_put (lt_put (lt_sz hsz90 rfl)))) rfl) ?_
    refine W_v rfl rfl (V_ext rfl (ev_step (ev_top (lt_put (lt_put (lt_sz hsz90 rfl)))) rfl) rfl) ?_
    refine W_stA rfl rfl rfl (ev_step (ev_step (ev_step (ev_step (ev_step l16_90 rfl) rfl) rfl) rfl) rfl) (ev_step (ev_top (lt_put (lt_put (lt_put (lt_sz hsz90 rfl))))) rfl) (by simp only [List.all_toArray, List.all_cons, List.all_nil, one_ints f1_92.1, one_ints f2_92.1] <;> rfl) b53 (by rfl) (by kernel_rfl) (fun w95 ht95 hb95 => ?_)
    have hE96 := ext_tch hE94 ht95 oB_53
    replace f1_72 := f1_72.tch ht95 b53 rfl
    replace f2_72 := f2_72.tch ht95 b53 rfl
    replace f1_85 := f1_85.tch ht95 b53 rfl
    replace f2_85 := f2_85.tch ht95 b53 rfl
    replace f1_92 := f1_92.tch ht95 b53 rfl
    replace f2_92 := f2_92.tch ht95 b53 rfl
    replace b2 := box_tch b2 ht95 (Nat.ne_of_lt o2_53)
    replace b44 := box_tch b44 ht95 (Nat.ne_of_lt o44_53)
    replace b53 := hb95
    refine W_v rfl rfl (V_asg rfl (ev_top (lt_put (lt_put (lt_put (lt_put (lt_sz hsz90 rfl))))))) ?_
    refine W_end ?_
    refine gen_Q (fun A97 hA97 => ?_)
    have hsz97 : A97.tmps.size = 163 := by rw [hA97]; simp only [sz_put]; exact hsz90
    have hdf97 : A97.defers = [] := by rw [hA97]; simp only [df_put]; exact hdf90
    have l3_97 := lookE hA97 3 (ev_step (ev_step (ev_step (ev_step (ev_step (ev_step l3_90 rfl) rfl) rfl) rfl) rfl) rfl)
    have l8_97 := lookE hA97 8 (ev_step (ev_step (ev_step (ev_step (ev_step (ev_step l8_90 rfl) rfl) rfl) rfl) rfl) rfl)
    have l10_97 := lookE hA97 10 (ev_top (lt_put (lt_put (lt_put (lt_put (lt_put (lt_sz hsz90 rfl)))))))
    have l15_97 := lookE hA97 15 (ev_step (ev_step (ev_step (ev_step (ev_step (ev_step l15_90 rfl) rfl) rfl) rfl) rfl) rfl)
    have l16_97 := lookE hA97 16 (ev_step (ev_step (ev_step (ev_step (ev_step (ev_step l16_90 rfl) rfl) rfl) rfl) rfl) rfl)
    clear hA97 hsz90 hdf90 l3_90 l8_90 l15_90 l16_90
    refine then_n (hK91 _ _ ?_)
    clear hK91
    refine wp_seq_k (fun K98 hK98 => ?_)
    refine wp_seq_k (fun K99 hK99 => ?_)
    -- region 19
    refine region_in ?_
    refine W_r rfl rfl (VR_ldA rfl l15_97 b44 Try.underlying24 rfl (by kernel_rfl)) ?_
    refine W_r rfl rfl (VR_ldA rfl (ev_step l16_97 rfl) b53 Try.underlying24 rfl (by kernel_rfl)) ?_
    refine W_call rfl rfl rfl Try.func17 (by kernel_rfl) rfl (args2 (ev_step (ev_top (lt_sz hsz97 rfl)) rfl) (ev_top (lt_put (lt_sz hsz97 rfl)))) (rSame_c f1_85.1 f2_85.1 f1_92.1 f2_92.1 ) ?_
    rintro _ w100 ⟨rfl, hx100⟩
    refine ⟨_, rfl, ?_⟩
    have hb101 := hE96.size
    have hE102 := Ext.tr hE96 hx100
    replace b2 := heap_ext hx100 b2
    replace b44 := heap_ext hx100 b44
    replace b53 := heap_ext hx100 b53
    replace f1_85 := f1_85.ext hx100
    replace f2_85 := f2_85.ext hx100
    replace f1_92 := f1_92.ext hx100
    replace f2_92 := f2_92.ext hx100
    refine W_v rfl rfl (V_notd rfl (ev_top (lt_put (lt_put (lt_sz hsz97 rfl))))) ?_
    refine W_sure (c' := false) rfl rfl (V_mov rfl (ev_top (lt_put (lt_put (lt_put (lt_sz hsz97 rfl)))))) (by simp) ?_
    refine W_v rfl (wanted_t rfl rfl (ev_top (lt_put (lt_put (lt_put (lt_put (lt_sz hsz97 rfl)))))) (lt_put (lt_put (lt_put (lt_put (lt_put (lt_sz hsz97 rfl))))))) (V_mov rfl (ev_step (ev_step (ev_step (ev_step (ev_step l8_97 rfl) rfl) rfl) rfl) rfl)) ?_
    refine W_v rfl (wanted_t rfl rfl (ev_step (ev_top (lt_put (lt_put (lt_put (lt_put (lt_sz hsz97 rfl)))))) rfl) (lt_put (lt_put (lt_put (lt_put (lt_put (lt_put (lt_sz hsz97 rfl)))))))) (V_mov rfl (ev_step (ev_step (ev_step (ev_step (ev_step (ev_step l10_97 rfl) rfl) rfl) rfl) rfl) rfl)) ?_
    refine W_v rfl (wanted_t rfl rfl (ev_step (ev_step (ev_top (lt_put (lt_put (lt_put (lt_put (lt_sz hsz97 rfl)))))) rfl) rfl) (lt_put (lt_put (lt_put (lt_put (lt_put (lt_put (lt_put (lt_sz hsz97 rfl))))))))) (V_neq rfl (ev_step (ev_top (lt_put (lt_put (lt_put (lt_put (lt_put (lt_sz hsz97 rfl))))))) rfl) (ev_top (lt_put (lt_put (lt_put (lt_put (lt_put (lt_put (lt_sz hsz97 rfl))))))))) ?_
    refine W_v rfl rfl (V_pickF rfl (ev_step (ev_step (ev_step (ev_top (lt_put (lt_put (lt_put (lt_put (lt_sz hsz97 rfl)))))) rfl) rfl) rfl) (ev_top (lt_put (lt_put (lt_put (lt_put (lt_put (lt_put (lt_put (lt_sz hsz97 rfl)))))))))) ?_
    refine W_end ?_
    refine gen_Q (fun A103 hA103 => ?_)
    have hsz103 : A103.tmps.size = 163 := by rw [hA103]; simp only [sz_put]; exact hsz97
    have hdf103 : A103.defers = [] := by rw [hA103]; simp only [df_put]; exact hdf97
    have l3_103 := lookE hA103 3 (ev_step (ev_step (ev_step (ev_step (ev_step (ev_step (ev_step (ev_step (ev_step l3_97 rfl) rfl) rfl) rfl) rfl) rfl) rfl) rfl) rfl)
    have l15_103 := lookE hA103 15 (ev_step (ev_step (ev_step (ev_step (ev_step (ev_step (ev_step (ev_step (ev_step l15_97 rfl) rfl) rfl) rfl) rfl) rfl) rfl) rfl) rfl)
    have l16_103 := lookE hA103 16 (ev_step (ev_step (ev_step (ev_step (ev_step (ev_step (ev_step (ev_step (ev_step l16_97 rfl) rfl) rfl) rfl) rfl) rfl) rfl) rfl) rfl)
    have l134_103 := lookE hA103 134 (ev_top (lt_put (lt_put (lt_put (lt_put (lt_put (lt_put (lt_put (lt_put (lt_sz hsz97 rfl))))))))))
    clear hA103 hsz97 hdf97 l3_97 l8_97 l10_97 l15_97 l16_97
    refine then_n (hK99 _ _ ?_)
    clear hK99
    refine cond_not l134_103 (by simp) ?_
    refine wp_skip ?_
    refine then_n (hK98 _ _ ?_)
    clear hK98
    refine wp_seq_k (fun K104 hK104 => ?_)
    -- region 21
    refine region_in ?_
    refine W_r rfl rfl (VR_ldA rfl l3_103 b2 Try.underlying24 rfl (by kernel_rfl)) ?_
    refine W_call rfl rfl rfl Try.func27 (by kernel_rfl) rfl (args1 (ev_top (lt_sz hsz103 rfl))) (Clear_c (h_lv.ext hE102) (h_yv.ext hE102) ) ?_
    rintro _ w105 ⟨v1_105, v2_105, u_105, rfl, f1_105, f2_105, f3_105, hx105⟩
    refine ⟨_, rfl, ?_⟩
    have hb106 := hE102.size
    have hE107 := Ext.tr hE102 hx105
    replace b2 := heap_ext hx105 b2
    replace b44 := heap_ext hx105 b44
    replace b53 := heap_ext hx105 b53
    replace f1_85 := f1_85.ext hx105
    replace f2_85 := f2_85.ext hx105
    replace f1_92 := f1_92.ext hx105
    replace f2_92 := f2_92.ext hx105
    replace f1_105 := f1_105.base hb106
    replace f2_105 := f2_105.base hb106
    replace f3_105 := f3_105.base hb106
    refine W_v rfl rfl (V_mov rfl (ev_top (lt_put (lt_sz hsz103 rfl)))) ?_
    refine W_v rfl rfl (V_ext rfl (ev_top (lt_put (lt_put (lt_sz hsz103 rfl)))) rfl) ?_
    refine W_v rfl rfl (V_ext rfl (ev_step (ev_top (lt_put (lt_put (lt_sz hsz103 rfl)))) rfl) rfl) ?_
    refine W_v rfl rfl (V_ext rfl (ev_step (ev_step (ev_top (lt_put (lt_put (lt_sz hsz103 rfl)))) rfl) rfl) rfl) ?_
    refine W_stA rfl rfl rfl (ev_step (ev_step (ev_step (ev_step (ev_step (ev_step l15_103 rfl) rfl) rfl) rfl) rfl) rfl) (ev_step (ev_step (ev_top (lt_put (lt_put (lt_put (lt_sz hsz103 rfl))))) rfl) rfl) (by simp only [List.all_toArray, List.all_cons, List.all_nil, one_ints f1_105.1, one_ints f2_105.1] <;> rfl) b44 (by rfl) (by kernel_rfl) (fun w108 ht108 hb108 => ?_)
    have hE109 := ext_tch hE107 ht108 oB_44
    replace f1_85 := f1_85.tch ht108 b44 rfl
    replace f2_85 := f2_85.tch ht108 b44 rfl
    replace f1_92 := f1_92.tch ht108 b44 rfl
    replace f2_92 := f2_92.tch ht108 b44 rfl
    replace f1_105 := f1_105.tch ht108 b44 rfl
    replace f2_105 := f2_105.tch ht108 b44 rfl
    replace f3_105 := f3_105.tch ht108 b44 rfl
    replace b2 := box_tch b2 ht108 (Nat.ne_of_lt o2_44)
    replace b53 := box_tch b53 ht108 (Nat.ne_of_gt o44_53)
    replace b44 := hb108
    refine W_v rfl rfl (V_asg rfl (ev_step (ev_top (lt_put (lt_put (lt_put (lt_put (lt_sz hsz103 rfl)))))) rfl)) ?_
    refine W_v rfl rfl (V_asg rfl (ev_step (ev_top (lt_put (lt_put (lt_put (lt_put (lt_put (lt_sz hsz103 rfl))))))) rfl)) ?_
    refine W_end ?_
    refine gen_Q (fun A110 hA110 => ?_)
    have hsz110 : A110.tmps.size = 163 := by rw [hA110]; simp only [sz_put]; exact hsz103
    have hdf110 : A110.defers = [] := by rw [hA110]; simp only [df_put]; exact hdf103
    have l3_110 := lookE hA110 3 (ev_step (ev_step (ev_step (ev_step (ev_step (ev_step (ev_step (ev_step l3_103 rfl) rfl) rfl) rfl) rfl) rfl) rfl) rfl)
    have l8_110 := lookE hA110 8 (ev_top (lt_put (lt_put (lt_put (lt_put (lt_put (lt_put (lt_put (lt_sz hsz103 rfl)))))))))
    have l15_110 := lookE hA110 15 (ev_step (ev_step (ev_step (ev_step (ev_step (ev_step (ev_step (ev_step l15_103 rfl) rfl) rfl) rfl) rfl) rfl) rfl) rfl)
    have l16_110 := lookE hA110 16 (ev_step (ev_step (ev_step (ev_step (ev_step (ev_step (ev_step (ev_step l16_103 rfl) rfl) rfl) rfl) rfl) rfl) rfl) rfl)
    have l17_110 := lookE hA110 17 (ev_step (ev_top (lt_put (lt_put (lt_put (lt_put (lt_put (lt_put (lt_sz hsz103 rfl)))))))) rfl)
    clear hA110 hsz103 hdf103 l3_103 l15_103 l16_103 l134_103
    refine then_n (hK104 _ _ ?_)
    clear hK104
    refine wp_seq_k (fun K111 hK111 => ?_)
    -- region 22
    refine region_in ?_
    refine W_r rfl rfl (VR_ldA rfl l3_110 b2 Try.underlying24 rfl (by kernel_rfl)) ?_
    refine W_call rfl rfl rfl Try.func36 (by kernel_rfl) rfl (args1 (ev_top (lt_sz hsz110 rfl))) (rClear_c (h_lv.ext hE109) (h_yv.ext hE109) (by omega) (by omega)) ?_
    rintro _ w112 ⟨v1_112, v2_112, u_112, rfl, f1_112, f2_112, f3_112, hx112⟩
    refine ⟨_, rfl, ?_⟩
    have hb113 := hE109.size
    have hE114 := Ext.tr hE109 hx112
    replace b2 := heap_ext hx112 b2
    replace b44 := heap_ext hx112 b44
    replace b53 := heap_ext hx112 b53
    replace f1_92 := f1_92.ext hx112
    replace f2_92 := f2_92.ext hx112
    replace f1_105 := f1_105.ext hx112
    replace f2_105 := f2_105.ext hx112
    replace f3_105 := f3_105.ext hx112
    replace f1_112 := f1_112.base hb113
    replace f2_112 := f2_112.base hb113
    replace f3_112 := f3_112.base hb113
    refine W_v rfl rfl (V_mov rfl (ev_top (lt_put (lt_sz hsz110 rfl)))) ?_
    refine W_v rfl rfl (V_ext rfl (ev_top (lt_put (lt_put (lt_sz hsz110 rfl)))) rfl) ?_
    refine W_v rfl rfl (V_ext rfl (ev_step (ev_top (lt_put (lt_put (lt_sz hsz110 rfl)))) rfl) rfl) ?_
    refine W_v rfl rfl (V_ext rfl (ev_step (ev_step (ev_top (lt_put (lt_put (lt_sz hsz110 rfl)))) rfl) rfl) rfl) ?_
    refine W_stA rfl rfl rfl (ev_step (ev_step (ev_step (ev_step (ev_step (ev_step l16_110 rfl) rfl) rfl) rfl) rfl) rfl) (ev_step (ev_step (ev_top (lt_put (lt_put (lt_put (lt_sz hsz110 rfl))))) rfl) rfl) (by simp only [List.all_toArray, List.all_cons, List.all_nil, one_ints f1_112.1, one_ints f2_112.1] <;> rfl) b53 (by rfl) (by kernel_rfl) (fun w115 ht115 hb115 => ?_)
    have hE116 := ext_tch hE114 ht115 oB_53
    replace f1_92 := f1_92.tch ht115 b53 rfl
    replace f2_92 := f2_92.tch ht115 b53 rfl
    replace f1_105 := f1_105.tch ht115 b53 rfl
    replace f2_105 := f2_105.tch ht115 b53 rfl
    replace f3_105 := f3_105.tch ht115 b53 rfl
    replace f1_112 := f1_112.tch ht115 b53 rfl
    replace f2_112 := f2_112.tch ht115 b53 rfl
    replace f3_112 := f3_112.tch ht115 b53 rfl
    replace b2 := box_tch b2 ht115 (Nat.ne_of_lt o2_53)
    replace b44 := box_tch b44 ht115 (Nat.ne_of_lt o44_53)
    replace b53 := hb115
    refine W_v rfl rfl (V_asg rfl (ev_step (ev_top (lt_put (lt_put (lt_put (lt_put (lt_sz hsz110 rfl)))))) rfl)) ?_
    refine W_v rfl rfl (V_asg rfl (ev_step (ev_top (lt_put (lt_put (lt_put (lt_put (lt_put (lt_sz hsz110 rfl))))))) rfl)) ?_
    refine W_end ?_
    refine gen_Q (fun A117 hA117 => ?_)
    have hsz117 : A117.tmps.size = 163 := by rw [hA117]; simp only [sz_put]; exact hsz110
    have hdf117 : A117.defers = [] := by rw [hA117]; simp only [df_put]; exact hdf110
    have l8_117 := lookE hA117 8 (ev_step (ev_step (ev_step (ev_step (ev_step (ev_step (ev_step (ev_step l8_110 rfl) rfl) rfl) rfl) rfl) rfl) rfl) rfl)
    have l10_117 := lookE hA117 10 (ev_top (lt_put (lt_put (lt_put (lt_put (lt_put (lt_put (lt_put (lt_sz hsz110 rfl)))))))))
    have l15_117 := lookE hA117 15 (ev_step (ev_step (ev_step (ev_step (ev_step (ev_step (ev_step (ev_step l15_110 rfl) rfl) rfl) rfl) rfl) rfl) rfl) rfl)
    have l16_117 := lookE hA117 16 (ev_step (ev_step (ev_step (ev_step (ev_step (ev_step (ev_step (ev_step l16_110 rfl) rfl) rfl) rfl) rfl) rfl) rfl) rfl)
    have l17_117 := lookE hA117 17 (ev_step (ev_step (ev_step (ev_step (ev_step (ev_step (ev_step (ev_step l17_110 rfl) rfl) rfl) rfl) rfl) rfl) rfl) rfl)
    have l18_117 := lookE hA117 18 (ev_step (ev_top (lt_put (lt_put (lt_put (lt_put (lt_put (lt_put (lt_sz hsz110 rfl)))))))) rfl)
    clear hA117 hsz110 hdf110 l3_110 l8_110 l15_110 l16_110 l17_110
    refine then_n (hK111 _ _ ?_)
    clear hK111
    refine wp_seq_k (fun K118 hK118 => ?_)
    -- region 23
    refine region_in ?_
    refine W_r rfl rfl (VR_ldA rfl l15_117 b44 Try.underlying24 rfl (by kernel_rfl)) ?_
    refine W_r rfl rfl (VR_ldA rfl (ev_step l16_117 rfl) b53 Try.underlying24 rfl (by kernel_rfl)) ?_
    refine W_call rfl rfl rfl Try.func17 (by kernel_rfl) rfl (args2 (ev_step (ev_top (lt_sz hsz117 rfl)) rfl) (ev_top (lt_put (lt_sz hsz117 rfl)))) (rSame_c f1_105.1 f2_105.1 f1_112.1 f2_112.1 ) ?_
    rintro _ w119 ⟨rfl, hx119⟩
    refine ⟨_, rfl, ?_⟩
    have hb120 := hE116.size
    have hE121 := Ext.tr hE116 hx119
    replace b44 := heap_ext hx119 b44
    replace b53 := heap_ext hx119 b53
    replace f1_105 := f1_105.ext hx119
    replace f2_105 := f2_105.ext hx119
    replace f3_105 := f3_105.ext hx119
    replace f1_112 := f1_112.ext hx119
    replace f2_112 := f2_112.ext hx119
    replace f3_112 := f3_112.ext hx119
    refine W_sure (c' := true) rfl rfl (V_mov rfl (ev_top (lt_put (lt_put (lt_sz hsz117 rfl))))) (by simp) ?_
    refine W_v rfl (wanted_t rfl rfl (ev_top (lt_put (lt_put (lt_put (lt_sz hsz117 rfl))))) (lt_put (lt_put (lt_put (lt_put (lt_sz hsz117 rfl)))))) (V_mov rfl (ev_step (ev_step (ev_step (ev_step l17_117 rfl) rfl) rfl) rfl)) ?_
    refine W_v rfl (wanted_t rfl rfl (ev_step (ev_top (lt_put (lt_put (lt_put (lt_sz hsz117 rfl))))) rfl) (lt_put (lt_put (lt_put (lt_put (lt_put (lt_sz hsz117 rfl))))))) (V_mov rfl (ev_step (ev_step (ev_step (ev_step (ev_step l18_117 rfl) rfl) rfl) rfl) rfl)) ?_
    refine W_call rfl (wanted_t rfl rfl (ev_step (ev_step (ev_top (lt_put (lt_put (lt_put (lt_sz hsz117 rfl))))) rfl) rfl) (lt_put (lt_put (lt_put (lt_put (lt_put (lt_put (lt_sz hsz117 rfl)))))))) rfl Try.func37 (by kernel_rfl) rfl (args2 (ev_step (ev_top (lt_put (lt_put (lt_put (lt_put (lt_sz hsz117 rfl)))))) rfl) (ev_top (lt_put (lt_put (lt_put (lt_put (lt_put (lt_sz hsz117 rfl)))))))) (Ints_c f3_105.1 f3_112.1 ) ?_
    rintro _ w122 ⟨rfl, hx122⟩
    refine ⟨_, rfl, ?_⟩
    have hb123 := hE121.size
    have hE124 := Ext.tr hE121 hx122
    replace b44 := heap_ext hx122 b44
    replace b53 := heap_ext hx122 b53
    replace f1_105 := f1_105.ext hx122
    replace f2_105 := f2_105.ext hx122
    replace f3_105 := f3_105.ext hx122
    replace f1_112 := f1_112.ext hx122
    replace f2_112 := f2_112.ext hx122
    replace f3_112 := f3_112.ext hx122
    refine W_v rfl rfl (V_pickT rfl (ev_step (ev_step (ev_step (ev_top (lt_put (lt_put (lt_put (lt_sz hsz117 rfl))))) rfl) rfl) rfl) (ev_top (lt_put (lt_put (lt_put (lt_put (lt_put (lt_put (lt_sz hsz117 rfl))))))))) ?_
    refine W_sure (c' := true) rfl rfl (V_mov rfl (ev_top (lt_put (lt_put (lt_put (lt_put (lt_put (lt_put (lt_put (lt_sz hsz117 rfl)))))))))) (by simp) ?_
    refine W_v rfl (wanted_t rfl rfl (ev_top (lt_put (lt_put (lt_put (lt_put (lt_put (lt_put (lt_put (lt_put (lt_sz hsz117 rfl)))))))))) (lt_put (lt_put (lt_put (lt_put (lt_put (lt_put (lt_put (lt_put (lt_put (lt_sz hsz117 rfl))))))))))) (V_mov rfl (ev_step (ev_step (ev_step (ev_step (ev_step (ev_step (ev_step (ev_step (ev_step l8_117 rfl) rfl) rfl) rfl) rfl) rfl) rfl) rfl) rfl)) ?_
    refine W_v rfl (wanted_t rfl rfl (ev_step (ev_top (lt_put (lt_put (lt_put (lt_put (lt_put (lt_put (lt_put (lt_put (lt_sz hsz117 rfl)))))))))) rfl) (lt_put (lt_put (lt_put (lt_put (lt_put (lt_put (lt_put (lt_put (lt_put (lt_put (lt_sz hsz117 rfl)))))))))))) (V_mov rfl (ev_step (ev_step (ev_step (ev_step (ev_step (ev_step (ev_step (ev_step (ev_step (ev_step l10_117 rfl) rfl) rfl) rfl) rfl) rfl) rfl) rfl) rfl) rfl)) ?_
    refine W_v rfl (wanted_t rfl rfl (ev_step (ev_step (ev_top (lt_put (lt_put (lt_put (lt_put (lt_put (lt_put (lt_put (lt_put (lt_sz hsz117 rfl)))))))))) rfl) rfl) (lt_put (lt_put (lt_put (lt_put (lt_put (lt_put (lt_put (lt_put (lt_put (lt_put (lt_put (lt_sz hsz117 rfl))))))))))))) (V_eql rfl (ev_step (ev_top (lt_put (lt_put (lt_put (lt_put (lt_put (lt_put (lt_put (lt_put (lt_put (lt_sz hsz117 rfl))))))))))) rfl) (ev_top (lt_put (lt_put (lt_put (lt_put (lt_put (lt_put (lt_put (lt_put (lt_put (lt_put (lt_sz hsz117 rfl))))))))))))) ?_
    refine W_v rfl rfl (V_pickT rfl (ev_step (ev_step (ev_step (ev_top (lt_put (lt_put (lt_put (lt_put (lt_put (lt_put (lt_put (lt_put (lt_sz hsz117 rfl)))))))))) rfl) rfl) rfl) (ev_top (lt_put (lt_put (lt_put (lt_put (lt_put (lt_put (lt_put (lt_put (lt_put (lt_put (lt_put (lt_sz hsz117 rfl)))))))))))))) ?_
    refine W_sure (c' := true) rfl rfl (V_mov rfl (ev_top (lt_put (lt_put (lt_put (lt_put (lt_put (lt_put (lt_put (lt_put (lt_put (lt_put (lt_put (lt_put (lt_sz hsz117 rfl))))))))))))))) (by simp) ?_
    refine W_call rfl (wanted_t rfl rfl (ev_top (lt_put (lt_put (lt_put (lt_put (lt_put (lt_put (lt_put (lt_put (lt_put (lt_put (lt_put (lt_put (lt_put (lt_sz hsz117 rfl))))))))))))))) (lt_put (lt_put (lt_put (lt_put (lt_put (lt_put (lt_put (lt_put (lt_put (lt_put (lt_put (lt_put (lt_put (lt_put (lt_sz hsz117 rfl)))))))))))))))) rfl Try.func12 (by kernel_rfl) rfl (args0) (awake_c  ) ?_
    rintro _ w125 ⟨rfl, hx125⟩
    refine ⟨_, rfl, ?_⟩
    have hb126 := hE124.size
    have hE127 := Ext.tr hE124 hx125
    replace b44 := heap_ext hx125 b44
    replace b53 := heap_ext hx125 b53
    replace f1_105 := f1_105.ext hx125
    replace f2_105 := f2_105.ext hx125
    replace f3_105 := f3_105.ext hx125
    replace f1_112 := f1_112.ext hx125
    replace f2_112 := f2_112.ext hx125
    replace f3_112 := f3_112.ext hx125
    refine W_v rfl rfl (V_pickT rfl (ev_step (ev_top (lt_put (lt_put (lt_put (lt_put (lt_put (lt_put (lt_put (lt_put (lt_put (lt_put (lt_put (lt_put (lt_put (lt_sz hsz117 rfl))))))))))))))) rfl) (ev_top (lt_put (lt_put (lt_put (lt_put (lt_put (lt_put (lt_put (lt_put (lt_put (lt_put (lt_put (lt_put (lt_put (lt_put (lt_sz hsz117 rfl))))))))))))))))) ?_
    refine W_v rfl rfl (V_asg rfl (ev_top (lt_put (lt_put (lt_put (lt_put (lt_put (lt_put (lt_put (lt_put (lt_put (lt_put (lt_put (lt_put (lt_put (lt_put (lt_put (lt_sz hsz117 rfl)))))))))))))))))) ?_
    refine W_end ?_
    refine gen_Q (fun A128 hA128 => ?_)
    have hsz128 : A128.tmps.size = 163 := by rw [hA128]; simp only [sz_put]; exact hsz117
    have hdf128 : A128.defers = [] := by rw [hA128]; simp only [df_put]; exact hdf117
    have l6_128 := lookE hA128 6 (ev_top (lt_put (lt_put (lt_put (lt_put (lt_put (lt_put (lt_put (lt_put (lt_put (lt_put (lt_put (lt_put (lt_put (lt_put (lt_put (lt_put (lt_sz hsz117 rfl))))))))))))))))))
    clear hA128 hsz117 hdf117 l8_117 l10_117 l15_117 l16_117 l17_117 l18_117
    refine then_n (hK118 _ _ ?_)
    clear hK118
    refine wp_ret ?_
    refine ret_in (results_1 Try.results8 (rv_tmp l6_128)) hdf128 ?_
    -- leaf F
    exact ⟨rfl, hE127⟩

end Go.Proofs.Ytfnbfmlnageflaa