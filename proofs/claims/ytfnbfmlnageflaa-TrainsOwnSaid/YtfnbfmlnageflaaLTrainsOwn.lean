import Derived.Test.YtfnbfmlnageflaaRg3
import Derived.Test.YtfnbfmlnageflaaRg4
namespace Go.Proofs.Ytfnbfmlnageflaa
open Go.RowKit Go.Own


set_option maxHeartbeats 4000000 in
theorem TrainsOwn_c {lv : Value} {lo : List Int} {yv : Value} {yo : List Int} {bf : Bool} {w : World} (h_lv : Ints w lv lo) (h_yv : Ints w yv yo)  :
    Calls Try.prog 6 #[.agg #[lv, yv], .bool bf] w fun e w' => e = .returned (.bool true) ∧ Ext w w' := by
  refine calls_in 105 Try.func6 rfl rfl (by simp) (fun A0 hsz0 hdf0 hargs => ?_)
  have l0_0 := hargs 0 (.agg #[lv, yv]) rfl
  have l1_0 := hargs 1 (.bool bf) rfl
  clear hargs; replace hsz0 : SzN A0 105 := ⟨hsz0⟩
  have hE0 := Ext.rfl' w
  refine wp_seq_k (fun K1 hK1 => ?_)
  -- region 0
  refine region_in ?_
  refine W_box (cs := #[lv, yv]) rfl rfl rfl l0_0 rfl (fun g2 w2 hg2 hx2 b2 => ?_)
  have oB_2 : w.heap.size ≤ g2 := hg2 ▸ hE0.size
  have hE3 := Ext.tr hE0 hx2
  refine W_v rfl rfl (V_asg rfl rfl) ?_
  refine W_end ?_
  refine gen_Q (fun A4 hA4 => ?_)
  have hsz4 : SzN A4 105 := by rw [hA4]; infer_instance
  have hdf4 : A4.defers = [] := by rw [hA4]; simp only [df_put]; exact hdf0
  have l1_4 := lookE hA4 1 (es rfl (es rfl l1_0))
  have l2_4 := lookE hA4 2 (es rfl (et rfl))
  clear hA4 hsz0 hdf0 l0_0 l1_0
  refine then_n (hK1 _ _ ?_)
  clear hK1
  refine wp_seq_k (fun K5 hK5 => ?_)
  -- region 1
  refine region_in ?_
  refine W_r rfl rfl (VR_ldA rfl l2_4 b2 Try.underlying24 rfl (by kernel_rfl)) ?_
  refine W_call rfl rfl rfl Try.func24 (by kernel_rfl) rfl (args1 (et rfl)) (Check_c (h_lv.ext hE3) (h_yv.ext hE3) ) ?_
  rintro _ w6 ⟨rfl, hx6⟩
  refine ⟨_, rfl, ?_⟩
  have hb7 := hE3.size
  have hE8 := Ext.tr hE3 hx6
  replace b2 := heap_ext hx6 b2
  refine W_v rfl rfl (V_mov rfl (et rfl)) ?_
  refine W_v rfl rfl (V_ext (v := .int .i64 ((chk lo yo).1)) rfl (et rfl) rfl) ?_
  refine W_v rfl rfl (V_ext (v := .int .i64 ((chk lo yo).2.1)) rfl (es rfl (et rfl)) rfl) ?_
  refine W_v rfl rfl (V_ext (v := .int .i64 ((chk lo yo).2.2)) rfl (es rfl (es rfl (et rfl))) rfl) ?_
  refine W_v rfl rfl (V_asg rfl (es rfl (es rfl (et rfl)))) ?_
  refine W_v rfl rfl (V_asg rfl (es rfl (es rfl (et rfl)))) ?_
  refine W_v rfl rfl (V_asg rfl (es rfl (es rfl (et rfl)))) ?_
  refine W_end ?_
  refine gen_Q (fun A9 hA9 => ?_)
  have hsz9 : SzN A9 105 := by rw [hA9]; infer_instance
  have hdf9 : A9.defers = [] := by rw [hA9]; simp only [df_put]; exact hdf4
  have l1_9 := lookE hA9 1 (es rfl (es rfl (es rfl (es rfl (es rfl (es rfl (es rfl (es rfl (es rfl l1_4)))))))))
  have l2_9 := lookE hA9 2 (es rfl (es rfl (es rfl (es rfl (es rfl (es rfl (es rfl (es rfl (es rfl l2_4)))))))))
  have l7_9 := lookE hA9 7 (et rfl)
  clear hA9 hsz4 hdf4 l1_4 l2_4
  refine then_n (hK5 _ _ ?_)
  clear hK5
  refine wp_seq_k (fun K10 hK10 => ?_)
  refine wp_seq_k (fun K11 hK11 => ?_)
  -- region 2
  refine region_in ?_
  refine W_r rfl rfl (VR_ldA rfl l2_9 b2 Try.underlying24 rfl (by kernel_rfl)) ?_
  refine W_call rfl rfl rfl Try.func11 (by kernel_rfl) rfl (args1 (et rfl)) (Far_c (h_lv.ext hE8) (h_yv.ext hE8) ) ?_
  rintro _ w12 ⟨rfl, hx12⟩
  refine ⟨_, rfl, ?_⟩
  have hb13 := hE8.size
  have hE14 := Ext.tr hE8 hx12
  replace b2 := heap_ext hx12 b2
  refine W_split rfl rfl (V_mov rfl (et rfl)) (fun c15 => ?_) (fun c15 => ?_)
  · skip
    refine W_off rfl (wanted_f rfl rfl (et rfl) (ez rfl) rfl) ?_
    refine W_off rfl (wanted_f rfl rfl (es rfl (et rfl)) (ez rfl) rfl) ?_
    refine W_v rfl rfl (V_pickT rfl (es rfl (es rfl (et rfl))) rfl) ?_
    refine W_end ?_
    refine gen_Q (fun A16 hA16 => ?_)
    have hsz16 : SzN A16 105 := by rw [hA16]; infer_instance
    have hdf16 : A16.defers = [] := by rw [hA16]; simp only [df_put]; exact hdf9
    have l1_16 := lookE hA16 1 (es rfl (es rfl (es rfl (es rfl (es rfl (es rfl l1_9))))))
    have l2_16 := lookE hA16 2 (es rfl (es rfl (es rfl (es rfl (es rfl (es rfl l2_9))))))
    have l30_16 := lookE hA16 30 (et rfl)
    clear hA16 hsz9 hdf9 l1_9 l2_9 l7_9
    refine then_n (hK11 _ _ ?_)
    clear hK11
    refine cond_t l30_16 ?_
    refine wp_seq_k (fun K17 hK17 => ?_)
    -- region 3
    refine region_in ?_
    refine W_call rfl rfl rfl Try.func12 (by kernel_rfl) rfl (args0) (awake_c  ) ?_
    rintro _ w18 ⟨rfl, hx18⟩
    refine ⟨_, rfl, ?_⟩
    have hb19 := hE14.size
    have hE20 := Ext.tr hE14 hx18
    replace b2 := heap_ext hx18 b2
    refine W_v rfl rfl (V_asg rfl (et rfl)) ?_
    refine W_end ?_
    refine gen_Q (fun A21 hA21 => ?_)
    have hsz21 : SzN A21 105 := by rw [hA21]; infer_instance
    have hdf21 : A21.defers = [] := by rw [hA21]; simp only [df_put]; exact hdf16
    have l4_21 := lookE hA21 4 (et rfl)
    clear hA21 hsz16 hdf16 l1_16 l2_16 l30_16
    refine then_n (hK17 _ _ ?_)
    clear hK17
    refine wp_ret ?_
    refine then_ret ?_
    refine ret_in (results_1 Try.results6 (rv_tmp l4_21)) hdf21 ?_
    -- leaf T
    exact ⟨rfl, hE20⟩
  · skip
    refine W_v rfl (wanted_t rfl rfl (et rfl) (ez rfl)) (V_mov rfl (es rfl (es rfl (es rfl l7_9)))) ?_
    refine W_v rfl (wanted_t rfl rfl (es rfl (et rfl)) (ez rfl)) (V_neq rfl (et rfl) rfl) ?_
    refine W_v rfl rfl (V_pickF rfl (es rfl (es rfl (et rfl))) (et rfl)) ?_
    refine W_end ?_
    refine gen_Q (fun A22 hA22 => ?_)
    have hsz22 : SzN A22 105 := by rw [hA22]; infer_instance
    have hdf22 : A22.defers = [] := by rw [hA22]; simp only [df_put]; exact hdf9
    have l1_22 := lookE hA22 1 (es rfl (es rfl (es rfl (es rfl (es rfl (es rfl l1_9))))))
    have l2_22 := lookE hA22 2 (es rfl (es rfl (es rfl (es rfl (es rfl (es rfl l2_9))))))
    have l30_22 := lookE hA22 30 (et rfl)
    clear hA22 hsz9 hdf9 l1_9 l2_9 l7_9
    refine then_n (hK11 _ _ ?_)
    clear hK11
    refine cond_dec l30_22 (fun c23 => ?_) (fun c23 => ?_)
    · skip
      refine wp_seq_k (fun K24 hK24 => ?_)
      -- region 3
      refine region_in ?_
      refine W_call rfl rfl rfl Try.func12 (by kernel_rfl) rfl (args0) (awake_c  ) ?_
      rintro _ w25 ⟨rfl, hx25⟩
      refine ⟨_, rfl, ?_⟩
      have hb26 := hE14.size
      have hE27 := Ext.tr hE14 hx25
      replace b2 := heap_ext hx25 b2
      refine W_v rfl rfl (V_asg rfl (et rfl)) ?_
      refine W_end ?_
      refine gen_Q (fun A28 hA28 => ?_)
      have hsz28 : SzN A28 105 := by rw [hA28]; infer_instance
      have hdf28 : A28.defers = [] := by rw [hA28]; simp only [df_put]; exact hdf22
      have l4_28 := lookE hA28 4 (et rfl)
      clear hA28 hsz22 hdf22 l1_22 l2_22 l30_22
      refine then_n (hK24 _ _ ?_)
      clear hK24
      refine wp_ret ?_
      refine then_ret ?_
      refine ret_in (results_1 Try.results6 (rv_tmp l4_28)) hdf28 ?_
      -- leaf FT
      exact ⟨rfl, hE27⟩
    · skip
      have hgood : (chk lo yo).2.2 = 0 := by simpa using c23
      have hC := clearS_ok hgood
      have hcars := carsS_ok (tr := 1) (chkE_of (c := 0) ((chk_iff lo yo).1 hgood) (.inr rfl) (by omega) (by omega))
      refine wp_skip ?_
      refine then_n (hK10 _ _ ?_)
      clear hK10
      refine wp_seq_k (fun K29 hK29 => ?_)
      -- region 4
      refine region_mono 10 11 [some (.emp w12 3), none, none, some (.own w12 3 (lo)), some (.emp w12 3), none, none, some (.own w12 3 (yo)), some (⟨fun w v => ∃ ra0_s ra1_s, v = .agg #[(ra0_s), (ra1_s)] ∧ FreI w w12.heap.size 3 (ra0_s) (lo) ∧ FreI w w12.heap.size 3 (ra1_s) (yo), fun _ _ _ he ⟨ra0_s, ra1_s, h, fa0_s, fa1_s⟩ => ⟨ra0_s, ra1_s, h, fa0_s.ext he, fa1_s.ext he⟩⟩), some (.blk w12 24 #[.slice none 0 0, .slice none 0 0])] (by kernel_rfl) (by kernel_rfl) ?_
      refine C_emp rfl rfl rfl Try.underlying22 (by kernel_rfl) rfl rfl (fun g30 => ?_)
      refine C_v rfl rfl (V_fa (off' := 0) rfl (es rfl l2_22) Try.underlying24 rfl (by decide) rfl) rfl rfl ?_
      refine C_r rfl rfl (by kernel_rfl) (fun wx hx hF => (VR_ldC rfl (et rfl) (cell_box (v := lv) (heap_ext hx b2) rfl) Try.underlying22 rfl)) rfl rfl ?_
      refine C_appE (zs := lo) rfl rfl rfl (es rfl (es rfl (et rfl))) (et rfl) Try.underlying22 Try.underlying22 (by kernel_rfl) rfl rfl (fun wx hx hF => by obtain ⟨gq0, hq0, ge0, he0⟩ := ancF_get hF (by kernel_rfl); cases hq0; exact ⟨⟨_, rfl, ge0, he0⟩, (h_lv.ext (Ext.tr hE14 hx))⟩) (by first | omega | (simp; done) | (simp; omega)) (fun v31 hu31 => ?_)
      obtain ⟨a31, c31, rfl⟩ : ∃ a c, v31 = .slice a (lo).length c := by obtain ⟨_, _, hu31⟩ := hu31; exact hu31.form
      clear hu31
      refine C_emp rfl rfl rfl Try.underlying22 (by kernel_rfl) rfl rfl (fun g32 => ?_)
      refine C_v rfl rfl (V_fa (off' := 1) rfl (es rfl (es rfl (es rfl (es rfl (es rfl l2_22))))) Try.underlying24 rfl (by decide) rfl) rfl rfl ?_
      refine C_r rfl rfl (by kernel_rfl) (fun wx hx hF => (VR_ldC rfl (et rfl) (cell_box (v := yv) (heap_ext hx b2) rfl) Try.underlying22 rfl)) rfl rfl ?_
      refine C_appE (zs := yo) rfl rfl rfl (es rfl (es rfl (et rfl))) (et rfl) Try.underlying22 Try.underlying22 (by kernel_rfl) rfl rfl (fun wx hx hF => by obtain ⟨gq4, hq4, ge4, he4⟩ := ancF_get hF (by kernel_rfl); cases hq4; exact ⟨⟨_, rfl, ge4, he4⟩, (h_yv.ext (Ext.tr hE14 hx))⟩) (by first | omega | (simp; done) | (simp; omega)) (fun v33 hu33 => ?_)
      obtain ⟨a33, c33, rfl⟩ : ∃ a c, v33 = .slice a (yo).length c := by obtain ⟨_, _, hu33⟩ := hu33; exact hu33.form
      clear hu33
      refine C_call rfl rfl rfl Try.func25 (by kernel_rfl) rfl (args2 (es rfl (es rfl (es rfl (es rfl (et rfl))))) (et rfl)) rfl rfl (fun wx hx hF => ?_) (fun u34 hu34 => ?_)
      · obtain f31 := ancF_get (ancF_rest (ancF_rest hF)) (by kernel_rfl); skip; obtain f33 := ancF_get hF (by kernel_rfl); skip; refine (trained_c f31.ints f33.ints ).mono ?_
        rintro _ w34 ⟨rfl, hz⟩
        exact ⟨_, rfl, hz, _, _, rfl, (f31.fre).ext hz, (f33.fre).ext hz⟩
      obtain ⟨_, _, ra0_34, ra1_34, rfl, _, _⟩ := hu34
      refine C_alloc (z := .agg #[.slice none 0 0, .slice none 0 0]) rfl rfl rfl (by kernel_rfl) rfl rfl rfl (fun g35 or35 => ?_)
      refine C_eff rfl ?_
      refine Z_eff rfl rfl (fun w36 hz36 hF36 => ?_)
      obtain ⟨gq0, hq0, ge0, he0⟩ := all_get (all_rest (all_rest (all_rest (all_rest (all_rest hF36))))); cases hq0
      obtain f31 := all_get (all_rest (all_rest (all_rest (all_rest hF36)))); skip
      obtain ⟨gq4, hq4, ge4, he4⟩ := all_get (all_rest (all_rest (all_rest hF36))); cases hq4
      obtain f33 := all_get (all_rest (all_rest hF36)); skip
      obtain ⟨ra0_34q, ra1_34q, hq34, fa0_34, fa1_34⟩ := all_get (all_rest hF36); cases hq34
      obtain ⟨g35q, hq35, or35q, b35⟩ := all_get hF36; cases hq35
      clear hF36
      have o2_35 := Nat.lt_of_lt_of_le (lt_size b2) or35
      have oB_35 := Nat.le_trans hE14.size or35
      have hR36 := hE14.size
      have hE37 := Ext.tr hE14 hz36
      replace b2 := heap_ext hz36 b2
      have ul_f31 := fre_lo f31.fre
      replace f31 := f31.base hR36
      have ul_f33 := fre_lo f33.fre
      replace f33 := f33.base hR36
      have ul_fa0_34 := fre_lo fa0_34
      replace fa0_34 := fa0_34.base hR36
      have ul_fa1_34 := fre_lo fa1_34
      replace fa1_34 := fa1_34.base hR36
      refine W_stA rfl rfl rfl (et rfl) (es rfl (et rfl)) (by simp only [List.all_toArray, List.all_cons, List.all_nil, one_ints fa0_34.1, one_ints fa1_34.1] <;> rfl) b35 (by rfl) (by kernel_rfl) (fun w38 ht38 hb38 => ?_)
      have hE39 := ext_tch hE37 ht38 oB_35
      replace f31 := f31.tch ht38 b35 rfl
      replace f33 := f33.tch ht38 b35 rfl
      replace fa0_34 := fa0_34.tch ht38 b35 rfl
      replace fa1_34 := fa1_34.tch ht38 b35 rfl
      replace b2 := box_tch b2 ht38 (Nat.ne_of_lt o2_35)
      replace b35 := hb38
      refine W_end ?_
      refine Qo_normal ?_
      have hEO0 := Ext.rfl' w38
      have hmk := hE39.size
      replace fa0_34 := fa0_34.1
      replace fa1_34 := fa1_34.1
      refine gen_Q (fun A40 hA40 => ?_)
      have hsz40 : SzN A40 105 := by rw [hA40]; infer_instance
      have hdf40 : A40.defers = [] := by rw [hA40]; simp only [df_put]; exact hdf22
      have l1_40 := lookE hA40 1 (es rfl (es rfl (es rfl (es rfl (es rfl (es rfl (es rfl (es rfl (es rfl (es rfl l1_22))))))))))
      have l2_40 := lookE hA40 2 (es rfl (es rfl (es rfl (es rfl (es rfl (es rfl (es rfl (es rfl (es rfl (es rfl l2_22))))))))))
      have l8_40 := lookE hA40 8 (et rfl)
      clear hA40 hsz22 hdf22 l1_22 l2_22 l30_22
      refine then_n (hK29 _ _ ?_)
      clear hK29
      refine wp_seq_k (fun K41 hK41 => ?_)
      -- region 5
      refine region_in ?_
      refine W_r rfl rfl (VR_ldA rfl l2_40 b2 Try.underlying24 rfl (by kernel_rfl)) ?_
      refine W_v rfl rfl (V_mov rfl (es rfl l1_40)) ?_
      refine W_call rfl rfl rfl Try.func26 (by kernel_rfl) rfl (args2 (es rfl (et rfl)) (et rfl)) (Relink_c (bf := bf) (h_lv.ext hE39) (h_yv.ext hE39) (by first | omega | (simp; done) | (simp; omega)) (by first | omega | (simp; done) | (simp; omega))) ?_
      rintro _ w42 ⟨v1_42, v2_42, rfl, f1_42, f2_42, hx42⟩
      refine ⟨_, rfl, ?_⟩
      have hb43 := hEO0.size
      have hE44 := Ext.tr hE39 hx42
      have hE44o := Ext.tr hEO0 hx42
      replace b2 := heap_ext hx42 b2
      replace b35 := heap_ext hx42 b35
      have ul_f1_42 := fre_lo f1_42
      replace f1_42 := f1_42.base hb43
      have ul_f2_42 := fre_lo f2_42
      replace f2_42 := f2_42.base hb43
      refine W_v rfl rfl (V_mov rfl (et rfl)) ?_
      refine W_v rfl rfl (V_ext (v := .agg #[v1_42, v2_42]) rfl (et rfl) rfl) ?_
      refine W_v rfl rfl (V_ext (v := .int .i64 ((relinkS lo yo bf).car)) rfl (es rfl (et rfl)) rfl) ?_
      refine W_v rfl rfl (V_ext (v := .int .i64 ((relinkS lo yo bf).e)) rfl (es rfl (es rfl (et rfl))) rfl) ?_
      refine W_alloc (z := .agg #[.slice none 0 0, .slice none 0 0]) (cs := #[.slice none 0 0, .slice none 0 0]) rfl rfl rfl (by kernel_rfl) rfl (fun g45 w45 hg45 hx45 b45 => ?_)
      have o2_45 : g2 < g45 := hg45 ▸ lt_size b2
      have o35_45 : g35 < g45 := hg45 ▸ lt_size b35
      have oB_45 : w.heap.size ≤ g45 := hg45 ▸ hE44.size
      have oO_45 : w38.heap.size ≤ g45 := hg45 ▸ hE44o.size
      have hE46 := Ext.tr hE44 hx45
      have hE46o := Ext.tr hE44o hx45
      replace b2 := heap_ext hx45 b2
      replace b35 := heap_ext hx45 b35
      replace f1_42 := f1_42.ext hx45
      replace f2_42 := f2_42.ext hx45
      refine W_stA rfl rfl rfl (et rfl) (es rfl (es rfl (es rfl (et rfl)))) (by simp only [List.all_toArray, List.all_cons, List.all_nil, one_ints f1_42.1, one_ints f2_42.1] <;> rfl) b45 (by rfl) (by kernel_rfl) (fun w47 ht47 hb47 => ?_)
      have hE48 := ext_tch hE46 ht47 oB_45
      have hE48o := ext_tch hE46o ht47 oO_45
      replace f1_42 := f1_42.tch ht47 b45 rfl
      replace f2_42 := f2_42.tch ht47 b45 rfl
      replace b2 := box_tch b2 ht47 (Nat.ne_of_lt o2_45)
      replace b35 := box_tch b35 ht47 (Nat.ne_of_lt o35_45)
      replace b45 := hb47
      refine W_v rfl rfl (V_asg rfl (es rfl (es rfl (et rfl)))) ?_
      refine W_v rfl rfl (V_asg rfl (es rfl (es rfl (et rfl)))) ?_
      refine W_end ?_
      refine gen_Q (fun A49 hA49 => ?_)
      have hsz49 : SzN A49 105 := by rw [hA49]; infer_instance
      have hdf49 : A49.defers = [] := by rw [hA49]; simp only [df_put]; exact hdf40
      have l2_49 := lookE hA49 2 (es rfl (es rfl (es rfl (es rfl (es rfl (es rfl (es rfl (es rfl (es rfl (es rfl l2_40))))))))))
      have l7_49 := lookE hA49 7 (et rfl)
      have l8_49 := lookE hA49 8 (es rfl (es rfl (es rfl (es rfl (es rfl (es rfl (es rfl (es rfl (es rfl (es rfl l8_40))))))))))
      have l9_49 := lookE hA49 9 (es rfl (es rfl (et rfl)))
      clear hA49 hsz40 hdf40 l1_40 l2_40 l8_40
      refine then_n (hK41 _ _ ?_)
      clear hK41
      refine wp_seq_k (fun K50 hK50 => ?_)
      -- region 6
      refine region_in ?_
      refine W_r rfl rfl (VR_ldA rfl l2_49 b2 Try.underlying24 rfl (by kernel_rfl)) ?_
      refine W_call rfl rfl rfl Try.func27 (by kernel_rfl) rfl (args1 (et rfl)) (Clear_c (h_lv.ext hE48) (h_yv.ext hE48) ) ?_
      rintro _ w51 ⟨v1_51, v2_51, u_51, rfl, f1_51, f2_51, f3_51, hx51⟩
      refine ⟨_, rfl, ?_⟩
      have hb52 := hE48o.size
      have hE53 := Ext.tr hE48 hx51
      have hE53o := Ext.tr hE48o hx51
      replace b2 := heap_ext hx51 b2
      replace b35 := heap_ext hx51 b35
      replace b45 := heap_ext hx51 b45
      replace f1_42 := f1_42.ext hx51
      replace f2_42 := f2_42.ext hx51
      have ul_f1_51 := fre_lo f1_51
      replace f1_51 := f1_51.base hb52
      have ul_f2_51 := fre_lo f2_51
      replace f2_51 := f2_51.base hb52
      have ul_f3_51 := fre_lo f3_51
      replace f3_51 := f3_51.base hb52
      refine W_v rfl rfl (V_mov rfl (et rfl)) ?_
      refine W_v rfl rfl (V_ext (v := .agg #[v1_51, v2_51]) rfl (et rfl) rfl) ?_
      refine W_v rfl rfl (V_ext (v := u_51) rfl (es rfl (et rfl)) rfl) ?_
      refine W_v rfl rfl (V_ext (v := .int .i64 ((clearS lo yo).e)) rfl (es rfl (es rfl (et rfl))) rfl) ?_
      refine W_alloc (z := .agg #[.slice none 0 0, .slice none 0 0]) (cs := #[.slice none 0 0, .slice none 0 0]) rfl rfl rfl (by kernel_rfl) rfl (fun g54 w54 hg54 hx54 b54 => ?_)
      have o2_54 : g2 < g54 := hg54 ▸ lt_size b2
      have o35_54 : g35 < g54 := hg54 ▸ lt_size b35
      have o45_54 : g45 < g54 := hg54 ▸ lt_size b45
      have oB_54 : w.heap.size ≤ g54 := hg54 ▸ hE53.size
      have oO_54 : w38.heap.size ≤ g54 := hg54 ▸ hE53o.size
      have hE55 := Ext.tr hE53 hx54
      have hE55o := Ext.tr hE53o hx54
      replace b2 := heap_ext hx54 b2
      replace b35 := heap_ext hx54 b35
      replace b45 := heap_ext hx54 b45
      replace f1_42 := f1_42.ext hx54
      replace f2_42 := f2_42.ext hx54
      replace f1_51 := f1_51.ext hx54
      replace f2_51 := f2_51.ext hx54
      replace f3_51 := f3_51.ext hx54
      refine W_stA rfl rfl rfl (et rfl) (es rfl (es rfl (es rfl (et rfl)))) (by simp only [List.all_toArray, List.all_cons, List.all_nil, one_ints f1_51.1, one_ints f2_51.1] <;> rfl) b54 (by rfl) (by kernel_rfl) (fun w56 ht56 hb56 => ?_)
      have hE57 := ext_tch hE55 ht56 oB_54
      have hE57o := ext_tch hE55o ht56 oO_54
      replace f1_42 := f1_42.tch ht56 b54 rfl
      replace f2_42 := f2_42.tch ht56 b54 rfl
      replace f1_51 := f1_51.tch ht56 b54 rfl
      replace f2_51 := f2_51.tch ht56 b54 rfl
      replace f3_51 := f3_51.tch ht56 b54 rfl
      replace b2 := box_tch b2 ht56 (Nat.ne_of_lt o2_54)
      replace b35 := box_tch b35 ht56 (Nat.ne_of_lt o35_54)
      replace b45 := box_tch b45 ht56 (Nat.ne_of_lt o45_54)
      replace b54 := hb56
      refine W_v rfl rfl (V_asg rfl (es rfl (es rfl (et rfl)))) ?_
      refine W_v rfl rfl (V_asg rfl (es rfl (es rfl (et rfl)))) ?_
      refine W_end ?_
      refine gen_Q (fun A58 hA58 => ?_)
      have hsz58 : SzN A58 105 := by rw [hA58]; infer_instance
      have hdf58 : A58.defers = [] := by rw [hA58]; simp only [df_put]; exact hdf49
      have l2_58 := lookE hA58 2 (es rfl (es rfl (es rfl (es rfl (es rfl (es rfl (es rfl (es rfl (es rfl l2_49)))))))))
      have l7_58 := lookE hA58 7 (es rfl (es rfl (es rfl (es rfl (es rfl (es rfl (es rfl (es rfl (es rfl l7_49)))))))))
      have l8_58 := lookE hA58 8 (es rfl (es rfl (es rfl (es rfl (es rfl (es rfl (es rfl (es rfl (es rfl l8_49)))))))))
      have l9_58 := lookE hA58 9 (es rfl (es rfl (es rfl (es rfl (es rfl (es rfl (es rfl (es rfl (es rfl l9_49)))))))))
      have l11_58 := lookE hA58 11 (es rfl (es rfl (et rfl)))
      have l13_58 := lookE hA58 13 (et rfl)
      clear hA58 hsz49 hdf49 l2_49 l7_49 l8_49 l9_49
      refine then_n (hK50 _ _ ?_)
      clear hK50
      refine wp_seq_k (fun K59 hK59 => ?_)
      -- region 7
      refine region_in ?_
      refine W_r rfl rfl (VR_ldA rfl l2_58 b2 Try.underlying24 rfl (by kernel_rfl)) ?_
      refine W_call rfl rfl rfl Try.func23 (by kernel_rfl) rfl (args2 (et rfl) rfl) (Cars_c (tr := 1) (h_lv.ext hE57) (h_yv.ext hE57) ) ?_
      rintro _ w60 ⟨v_60, rfl, f_60, hx60⟩
      refine ⟨_, rfl, ?_⟩
      have hb61 := hE57o.size
      have hE62 := Ext.tr hE57 hx60
      have hE62o := Ext.tr hE57o hx60
      replace b2 := heap_ext hx60 b2
      replace b35 := heap_ext hx60 b35
      replace b45 := heap_ext hx60 b45
      replace b54 := heap_ext hx60 b54
      replace f1_42 := f1_42.ext hx60
      replace f2_42 := f2_42.ext hx60
      replace f1_51 := f1_51.ext hx60
      replace f2_51 := f2_51.ext hx60
      have ul_f_60 := fre_lo f_60
      replace f_60 := f_60.base hb61
      refine W_v rfl rfl (V_mov rfl (et rfl)) ?_
      refine W_v rfl rfl (V_ext (v := v_60) rfl (et rfl) rfl) ?_
      refine W_v rfl rfl (V_ext (v := .int .i64 ((carsS lo yo 1).2)) rfl (es rfl (et rfl)) rfl) ?_
      refine W_v rfl rfl (V_asg rfl (es rfl (et rfl))) ?_
      refine W_v rfl rfl (V_asg rfl (es rfl (et rfl))) ?_
      refine W_end ?_
      refine gen_Q (fun A63 hA63 => ?_)
      have hsz63 : SzN A63 105 := by rw [hA63]; infer_instance
      have hdf63 : A63.defers = [] := by rw [hA63]; simp only [df_put]; exact hdf58
      have l2_63 := lookE hA63 2 (es rfl (es rfl (es rfl (es rfl (es rfl (es rfl (es rfl l2_58)))))))
      have l7_63 := lookE hA63 7 (es rfl (es rfl (es rfl (es rfl (es rfl (es rfl (es rfl l7_58)))))))
      have l8_63 := lookE hA63 8 (es rfl (es rfl (es rfl (es rfl (es rfl (es rfl (es rfl l8_58)))))))
      have l9_63 := lookE hA63 9 (es rfl (es rfl (es rfl (es rfl (es rfl (es rfl (es rfl l9_58)))))))
      have l11_63 := lookE hA63 11 (es rfl (es rfl (es rfl (es rfl (es rfl (es rfl (es rfl l11_58)))))))
      have l13_63 := lookE hA63 13 (es rfl (es rfl (es rfl (es rfl (es rfl (es rfl (es rfl l13_58)))))))
      have l14_63 := lookE hA63 14 (es rfl (et rfl))
      have l15_63 := lookE hA63 15 (et rfl)
      clear hA63 hsz58 hdf58 l2_58 l7_58 l8_58 l9_58 l11_58 l13_58
      refine then_n (hK59 _ _ ?_)
      clear hK59
      refine wp_seq_k (fun K64 hK64 => ?_)
      refine wp_seq_k (fun K65 hK65 => ?_)
      -- region 8
      refine region_in ?_
      refine W_v rfl rfl (V_mov rfl l13_63) ?_
      refine W_v rfl rfl (V_neq rfl (et rfl) rfl) ?_
      refine W_sure (c' := false) rfl rfl (V_mov rfl (et rfl)) (by simp [hC]) ?_
      refine W_v rfl (wanted_t rfl rfl (et rfl) (ez rfl)) (V_mov rfl (es rfl (es rfl (es rfl l15_63)))) ?_
      refine W_v rfl (wanted_t rfl rfl (es rfl (et rfl)) (ez rfl)) (V_neq rfl (et rfl) rfl) ?_
      refine W_v rfl rfl (V_pickF rfl (es rfl (es rfl (et rfl))) (et rfl)) ?_
      refine W_end ?_
      refine gen_Q (fun A66 hA66 => ?_)
      have hsz66 : SzN A66 105 := by rw [hA66]; infer_instance
      have hdf66 : A66.defers = [] := by rw [hA66]; simp only [df_put]; exact hdf63
      have l2_66 := lookE hA66 2 (es rfl (es rfl (es rfl (es rfl (es rfl (es rfl l2_63))))))
      have l7_66 := lookE hA66 7 (es rfl (es rfl (es rfl (es rfl (es rfl (es rfl l7_63))))))
      have l8_66 := lookE hA66 8 (es rfl (es rfl (es rfl (es rfl (es rfl (es rfl l8_63))))))
      have l9_66 := lookE hA66 9 (es rfl (es rfl (es rfl (es rfl (es rfl (es rfl l9_63))))))
      have l11_66 := lookE hA66 11 (es rfl (es rfl (es rfl (es rfl (es rfl (es rfl l11_63))))))
      have l14_66 := lookE hA66 14 (es rfl (es rfl (es rfl (es rfl (es rfl (es rfl l14_63))))))
      have l64_66 := lookE hA66 64 (et rfl)
      clear hA66 hsz63 hdf63 l2_63 l7_63 l8_63 l9_63 l11_63 l13_63 l14_63 l15_63
      refine then_n (hK65 _ _ ?_)
      clear hK65
      refine cond_not l64_66 (by simp [hcars]) ?_
      refine wp_skip ?_
      refine then_n (hK64 _ _ ?_)
      clear hK64
      refine wp_seq_k (fun K67 hK67 => ?_)
      -- region 10
      refine region_in ?_
      refine W_v rfl rfl (V_fa (off' := 0) rfl l9_66 Try.underlying24 rfl (by decide) rfl) ?_
      refine W_r rfl rfl (VR_ldC rfl (et rfl) (cell_box (v := v1_42) b45 rfl) Try.underlying22 rfl) ?_
      refine W_v rfl rfl (V_fa (off' := 1) rfl (es rfl (es rfl l9_66)) Try.underlying24 rfl (by decide) rfl) ?_
      refine W_r rfl rfl (VR_ldC rfl (et rfl) (cell_box (v := v2_42) b45 rfl) Try.underlying22 rfl) ?_
      refine W_v rfl rfl (V_fa (off' := 1) rfl (es rfl (es rfl (es rfl (es rfl l11_66)))) Try.underlying24 rfl (by decide) rfl) ?_
      refine W_r rfl rfl (VR_ldC rfl (et rfl) (cell_box (v := v2_51) b54 rfl) Try.underlying22 rfl) ?_
      refine W_v rfl rfl (V_mov rfl (es rfl (es rfl (es rfl (es rfl (es rfl (es rfl l14_66))))))) ?_
      refine W_v rfl rfl (V_bldA (n := 4) (z := .agg #[.slice none 0 0, .slice none 0 0, .slice none 0 0, .slice none 0 0]) rfl (parts4 (es rfl (es rfl (es rfl (es rfl (es rfl (et rfl)))))) (es rfl (es rfl (es rfl (et rfl)))) (es rfl (et rfl)) (et rfl)) (by kernel_rfl) (by simp only [List.all_cons, List.all_nil, one_ints f1_42.1, one_ints f2_42.1, one_ints f2_51.1, one_ints f_60.1, Bool.and_true] <;> rfl) (by kernel_rfl) (by simp only [List.foldl_cons, List.foldl_nil, Value.cells, List.setIfInBounds_toArray, List.set_cons_succ, List.set_cons_zero] <;> rfl)) ?_
      refine W_alloc (z := .agg #[.slice none 0 0, .slice none 0 0, .slice none 0 0, .slice none 0 0]) (cs := #[.slice none 0 0, .slice none 0 0, .slice none 0 0, .slice none 0 0]) rfl rfl rfl (by kernel_rfl) rfl (fun g68 w68 hg68 hx68 b68 => ?_)
      have o2_68 : g2 < g68 := hg68 ▸ lt_size b2
      have o35_68 : g35 < g68 := hg68 ▸ lt_size b35
      have o45_68 : g45 < g68 := hg68 ▸ lt_size b45
      have o54_68 : g54 < g68 := hg68 ▸ lt_size b54
      have oB_68 : w.heap.size ≤ g68 := hg68 ▸ hE62.size
      have oO_68 : w38.heap.size ≤ g68 := hg68 ▸ hE62o.size
      have hE69 := Ext.tr hE62 hx68
      have hE69o := Ext.tr hE62o hx68
      replace b2 := heap_ext hx68 b2
      replace b35 := heap_ext hx68 b35
      replace b45 := heap_ext hx68 b45
      replace b54 := heap_ext hx68 b54
      replace f1_42 := f1_42.ext hx68
      replace f2_42 := f2_42.ext hx68
      replace f1_51 := f1_51.ext hx68
      replace f2_51 := f2_51.ext hx68
      replace f_60 := f_60.ext hx68
      refine W_stA rfl rfl rfl (et rfl) (es rfl (et rfl)) (by simp only [List.all_toArray, List.all_cons, List.all_nil, one_ints f1_42.1, one_ints f2_42.1, one_ints f2_51.1, one_ints f_60.1] <;> rfl) b68 (by rfl) (by kernel_rfl) (fun w70 ht70 hb70 => ?_)
      have hE71 := ext_tch hE69 ht70 oB_68
      have hE71o := ext_tch hE69o ht70 oO_68
      replace f1_42 := f1_42.tch ht70 b68 rfl
      replace f2_42 := f2_42.tch ht70 b68 rfl
      replace f1_51 := f1_51.tch ht70 b68 rfl
      replace f2_51 := f2_51.tch ht70 b68 rfl
      replace f_60 := f_60.tch ht70 b68 rfl
      replace b2 := box_tch b2 ht70 (Nat.ne_of_lt o2_68)
      replace b35 := box_tch b35 ht70 (Nat.ne_of_lt o35_68)
      replace b45 := box_tch b45 ht70 (Nat.ne_of_lt o45_68)
      replace b54 := box_tch b54 ht70 (Nat.ne_of_lt o54_68)
      replace b68 := hb70
      refine W_end ?_
      refine gen_Q (fun A72 hA72 => ?_)
      have hsz72 : SzN A72 105 := by rw [hA72]; infer_instance
      have hdf72 : A72.defers = [] := by rw [hA72]; simp only [df_put]; exact hdf66
      have l2_72 := lookE hA72 2 (es rfl (es rfl (es rfl (es rfl (es rfl (es rfl (es rfl (es rfl (es rfl l2_66)))))))))
      have l7_72 := lookE hA72 7 (es rfl (es rfl (es rfl (es rfl (es rfl (es rfl (es rfl (es rfl (es rfl l7_66)))))))))
      have l8_72 := lookE hA72 8 (es rfl (es rfl (es rfl (es rfl (es rfl (es rfl (es rfl (es rfl (es rfl l8_66)))))))))
      have l16_72 := lookE hA72 16 (et rfl)
      clear hA72 hsz66 hdf66 l2_66 l7_66 l8_66 l9_66 l11_66 l14_66 l64_66
      refine then_n (hK67 _ _ ?_)
      clear hK67
      refine wp_seq_k (fun K73 hK73 => ?_)
      refine wp_seq_k (fun K74 hK74 => ?_)
      -- region 11
      refine region_in ?_
      refine W_v rfl rfl (V_asg rfl rfl) ?_
      refine W_end ?_
      refine gen_Q (fun A75 hA75 => ?_)
      have hsz75 : SzN A75 105 := by rw [hA75]; infer_instance
      have hdf75 : A75.defers = [] := by rw [hA75]; simp only [df_put]; exact hdf72
      have l2_75 := lookE hA75 2 (es rfl l2_72)
      have l7_75 := lookE hA75 7 (es rfl l7_72)
      have l8_75 := lookE hA75 8 (es rfl l8_72)
      have l16_75 := lookE hA75 16 (es rfl l16_72)
      have l17_75 := lookE hA75 17 (et rfl)
      clear hA75 hsz72 hdf72 l2_72 l7_72 l8_72 l16_72
      refine then_n (hK74 _ _ ?_)
      clear hK74
      refine wp_block ?_
      -- loop 12
      refine loopX (fun mz A' w' => SzN A' 105 ∧ A'.defers = [] ∧ Ext w w' ∧ (∃ (i : Nat), (mz = 4 - i) ∧ (i ≤ 4) ∧ (EV A' (.tmp 17) = .int .i64 (i : Int)) ∧ (EV A' (.tmp 2) = EV A75 (.tmp 2)) ∧ (EV A' (.tmp 7) = EV A75 (.tmp 7)) ∧ (EV A' (.tmp 8) = EV A75 (.tmp 8)) ∧ (EV A' (.tmp 16) = EV A75 (.tmp 16)) ∧ (w'.heap[g2]? = some (.cells #[lv, yv] 24 (0, 0))) ∧ (w'.heap[g35]? = some (.cells #[ra0_34, ra1_34] 24 (0, 0))) ∧ (w'.heap[g68]? = some (.cells #[v1_42, v2_42, v2_51, v_60] 55 (0, 0))) ∧ (Ext w38 w') ∧ (∀ v ∈ [v1_42, v2_42, v2_51, v_60], ∃ zs, FreI w' w38.heap.size 3 v zs))) (4 - (0)) ⟨hsz75, hdf75, hE71, 0, rfl, (Nat.zero_le _), ((l17_75).trans (by first | rfl | (simp; done) | (congr 1; omega))), rfl, rfl, rfl, rfl, b2, b35, b68, hE71o, (all4 ⟨_, f1_42⟩ ⟨_, f2_42⟩ ⟨_, f2_51⟩ ⟨_, f_60⟩)⟩ ?_
      clear b68 b35 b2 f1_42 f2_42 f2_51 f_60
      rintro n76 A76 w76 ⟨hsz76, hdf76, hE76, i, hm76, hi, l17_76, u2_76, u7_76, u8_76, u16_76, b2, b35, b68, hEO, hall⟩
      have l2_76 := u2_76.trans l2_75
      have l7_76 := u7_76.trans l7_75
      have l8_76 := u8_76.trans l8_75
      have l16_76 := u16_76.trans l16_75
      refine wp_seq_k (fun K77 hK77 => ?_)
      refine wp_seq_k (fun K78 hK78 => ?_)
      -- region 12
      refine region_in ?_
      refine W_v rfl rfl (V_mov rfl l17_76) ?_
      refine W_v rfl rfl (V_lss rfl (et rfl) rfl) ?_
      refine W_end ?_
      refine gen_Q (fun A79 hA79 => ?_)
      have hsz79 : SzN A79 105 := by rw [hA79]; infer_instance
      have hdf79 : A79.defers = [] := by rw [hA79]; simp only [df_put]; exact hdf76
      have l2_79 := lookE hA79 2 (es rfl (es rfl l2_76))
      have l7_79 := lookE hA79 7 (es rfl (es rfl l7_76))
      have l8_79 := lookE hA79 8 (es rfl (es rfl l8_76))
      have l16_79 := lookE hA79 16 (es rfl (es rfl l16_76))
      have l17_79 := lookE hA79 17 (es rfl (es rfl l17_76))
      have l74_79 := lookE hA79 74 (et rfl)
      clear hA79 hsz76 hdf76 l17_76 l2_76 l7_76 l8_76 l16_76
      refine then_n (hK78 _ _ ?_)
      clear hK78
      refine cond_dec l74_79 (fun c80 => ?_) (fun c80 => ?_)
      · skip
        obtain ⟨vI, hvI, hmI⟩ := get4 (l := [v1_42, v2_42, v2_51, v_60]) (i := i) (n := 4) rfl (by omega)
        obtain ⟨zI, hzI⟩ := hall vI hmI
        obtain ⟨aI, cI, hform⟩ := hzI.1.form
        have hzl := ints_le hzI.1
        clear hzI
        refine wp_skip ?_
        refine then_n (hK77 _ _ ?_)
        clear hK77
        refine wp_seq_k (fun K81 hK81 => ?_)
        refine wp_block ?_
        refine wp_seq_k (fun K82 hK82 => ?_)
        -- region 14
        refine region_in ?_
        refine W_v rfl rfl (V_asg rfl rfl) ?_
        refine W_end ?_
        refine gen_Q (fun A83 hA83 => ?_)
        have hsz83 : SzN A83 105 := by rw [hA83]; infer_instance
        have hdf83 : A83.defers = [] := by rw [hA83]; simp only [df_put]; exact hdf79
        have l2_83 := lookE hA83 2 (es rfl l2_79)
        have l7_83 := lookE hA83 7 (es rfl l7_79)
        have l8_83 := lookE hA83 8 (es rfl l8_79)
        have l16_83 := lookE hA83 16 (es rfl l16_79)
        have l17_83 := lookE hA83 17 (es rfl l17_79)
        have l18_83 := lookE hA83 18 (et rfl)
        clear hA83 hsz79 hdf79 l2_79 l7_79 l8_79 l16_79 l17_79 l74_79
        refine then_n (hK82 _ _ ?_)
        clear hK82
        refine wp_block ?_
        -- loop 15
        refine loopX (fun mz A' w' => SzN A' 105 ∧ A'.defers = [] ∧ Ext w w' ∧ (∃ (k : Nat), (mz = zI.length - k) ∧ (k ≤ zI.length) ∧ (EV A' (.tmp 18) = .int .i64 (k : Int)) ∧ (EV A' (.tmp 2) = EV A83 (.tmp 2)) ∧ (EV A' (.tmp 7) = EV A83 (.tmp 7)) ∧ (EV A' (.tmp 8) = EV A83 (.tmp 8)) ∧ (EV A' (.tmp 16) = EV A83 (.tmp 16)) ∧ (EV A' (.tmp 17) = EV A83 (.tmp 17)) ∧ (w'.heap[g2]? = some (.cells #[lv, yv] 24 (0, 0))) ∧ (w'.heap[g35]? = some (.cells #[ra0_34, ra1_34] 24 (0, 0))) ∧ (w'.heap[g68]? = some (.cells #[v1_42, v2_42, v2_51, v_60] 55 (0, 0))) ∧ (Ext w38 w') ∧ (∀ v ∈ [v1_42, v2_42, v2_51, v_60], ∃ zs, FreI w' w38.heap.size 3 v zs))) (zI.length - (0)) ⟨hsz83, hdf83, hE76, 0, rfl, (Nat.zero_le _), ((l18_83).trans (by first | rfl | (simp; done) | (congr 1; omega))), rfl, rfl, rfl, rfl, rfl, b2, b35, b68, hEO, hall⟩ ?_
        clear b68 b35 b2
        rintro n84 A84 w84 ⟨hsz84, hdf84, hE84, k, hm84, hk, l18_84, u2_84, u7_84, u8_84, u16_84, u17_84, b2, b35, b68, hEO, hall⟩
        have l2_84 := u2_84.trans l2_83
        have l7_84 := u7_84.trans l7_83
        have l8_84 := u8_84.trans l8_83
        have l16_84 := u16_84.trans l16_83
        have l17_84 := u17_84.trans l17_83
        refine wp_seq_k (fun K85 hK85 => ?_)
        refine wp_seq_k (fun K86 hK86 => ?_)
        -- region 15
        refine region_in ?_
        refine W_v rfl rfl (V_mov rfl l18_84) ?_
        refine W_v rfl rfl (V_mov rfl (es rfl l17_84)) ?_
        have k87 : i < 4 := by omega
        refine W_v rfl rfl (V_ixA (sz := 1) (off' := i) (i) rfl (es rfl (es rfl l16_84)) (et rfl) (by omega) Try.underlying55 k87 (by kernel_rfl) (by omega)) ?_
        refine W_r rfl rfl (VR_ldC rfl (et rfl) (cell_box b68 hvI) Try.underlying22 rfl) ?_
        refine W_v rfl rfl (V_len rfl (et rfl) hform Try.underlying22) ?_
        refine W_v rfl rfl (V_lss rfl (es rfl (es rfl (es rfl (es rfl (et rfl))))) (et rfl)) ?_
        refine W_end ?_
        refine gen_Q (fun A88 hA88 => ?_)
        have hsz88 : SzN A88 105 := by rw [hA88]; infer_instance
        have hdf88 : A88.defers = [] := by rw [hA88]; simp only [df_put]; exact hdf84
        have l2_88 := lookE hA88 2 (es rfl (es rfl (es rfl (es rfl (es rfl (es rfl l2_84))))))
        have l7_88 := lookE hA88 7 (es rfl (es rfl (es rfl (es rfl (es rfl (es rfl l7_84))))))
        have l8_88 := lookE hA88 8 (es rfl (es rfl (es rfl (es rfl (es rfl (es rfl l8_84))))))
        have l16_88 := lookE hA88 16 (es rfl (es rfl (es rfl (es rfl (es rfl (es rfl l16_84))))))
        have l17_88 := lookE hA88 17 (es rfl (es rfl (es rfl (es rfl (es rfl (es rfl l17_84))))))
        have l18_88 := lookE hA88 18 (es rfl (es rfl (es rfl (es rfl (es rfl (es rfl l18_84))))))
        have l82_88 := lookE hA88 82 (et rfl)
        clear hA88 hsz84 hdf84 l18_84 l2_84 l7_84 l8_84 l16_84 l17_84
        refine then_n (hK86 _ _ ?_)
        clear hK86
        refine cond_dec l82_88 (fun c89 => ?_) (fun c89 => ?_)
        · skip
          refine wp_skip ?_
          refine then_n (hK85 _ _ ?_)
          clear hK85
          refine wp_seq_k (fun K90 hK90 => ?_)
          refine wp_block ?_
          -- region 17
          refine region_in ?_
          refine W_v rfl rfl (V_mov rfl l17_88) ?_
          have k91 : i < 4 := by omega
          refine W_v rfl rfl (V_ixA (sz := 1) (off' := i) (i) rfl (es rfl l16_88) (et rfl) (by omega) Try.underlying55 k91 (by kernel_rfl) (by omega)) ?_
          refine W_r rfl rfl (VR_ldC rfl (et rfl) (cell_box b68 hvI) Try.underlying22 rfl) ?_
          refine W_v rfl rfl (V_mov rfl (es rfl (es rfl (es rfl l18_88)))) ?_
          obtain ⟨zs92, hf92⟩ := hall vI hmI
          have hl92 := fre_len hf92 hform
          obtain ⟨B92, O92, C92, cs92, hv92, hB92, hh92, hlt92⟩ := fre_idx hf92 k (by omega)
          refine W_v rfl rfl (V_idx (k) rfl (es rfl (et rfl)) (et rfl) hv92 (by omega) (by omega) Try.underlying22 (by kernel_rfl)) ?_
          refine W_stC rfl rfl rfl (et rfl) rfl (by rfl) hh92 hlt92 (by kernel_rfl) rfl (fun w93 ht93 hb93 => ?_)
          have hE94 := ext_tch hE84 ht93 (Nat.le_trans hmk hB92)
          have hE94o := ext_tch hEO ht93 hB92
          replace b2 := box_tchT b2 ht93 hh92 rfl
          replace b35 := box_tchT b35 ht93 hh92 rfl
          replace b68 := box_tchT b68 ht93 hh92 rfl
          replace hall := fre_all hall ht93 hh92 hb93
          refine W_end ?_
          refine gen_Q (fun A95 hA95 => ?_)
          have hsz95 : SzN A95 105 := by rw [hA95]; infer_instance
          have hdf95 : A95.defers = [] := by rw [hA95]; simp only [df_put]; exact hdf88
          have l2_95 := lookE hA95 2 (es rfl (es rfl (es rfl (es rfl (es rfl l2_88)))))
          have l7_95 := lookE hA95 7 (es rfl (es rfl (es rfl (es rfl (es rfl l7_88)))))
          have l8_95 := lookE hA95 8 (es rfl (es rfl (es rfl (es rfl (es rfl l8_88)))))
          have l16_95 := lookE hA95 16 (es rfl (es rfl (es rfl (es rfl (es rfl l16_88)))))
          have l17_95 := lookE hA95 17 (es rfl (es rfl (es rfl (es rfl (es rfl l17_88)))))
          have l18_95 := lookE hA95 18 (es rfl (es rfl (es rfl (es rfl (es rfl l18_88)))))
          clear hA95 hsz88 hdf88 l2_88 l7_88 l8_88 l16_88 l17_88 l18_88 l82_88
          refine inb_n ?_
          refine then_n (hK90 _ _ ?_)
          clear hK90
          -- region 16
          refine region_in ?_
          refine W_v rfl rfl (V_mov rfl l18_95) ?_
          refine W_v rfl rfl (V_add rfl (et rfl) rfl (by omega) (by omega)) ?_
          refine W_v rfl rfl (V_asg rfl (et rfl)) ?_
          refine W_end ?_
          refine gen_Q (fun A96 hA96 => ?_)
          have hsz96 : SzN A96 105 := by rw [hA96]; infer_instance
          have hdf96 : A96.defers = [] := by rw [hA96]; simp only [df_put]; exact hdf95
          have l2_96 := lookE hA96 2 (es rfl (es rfl (es rfl l2_95)))
          have l7_96 := lookE hA96 7 (es rfl (es rfl (es rfl l7_95)))
          have l8_96 := lookE hA96 8 (es rfl (es rfl (es rfl l8_95)))
          have l16_96 := lookE hA96 16 (es rfl (es rfl (es rfl l16_95)))
          have l17_96 := lookE hA96 17 (es rfl (es rfl (es rfl l17_95)))
          have l18_96 := lookE hA96 18 (et rfl)
          clear hA96 hsz95 hdf95 l2_95 l7_95 l8_95 l16_95 l17_95 l18_95
          refine then_n ⟨zI.length - ((k + 1)), by simp only [hm84]; omega, hsz96, hdf96, hE94, (k + 1), rfl, (by omega), ((l18_96).trans (by first | rfl | (simp; done) | (congr 1; omega))), ((l2_96).trans l2_83.symm), ((l7_96).trans l7_83.symm), ((l8_96).trans l8_83.symm), ((l16_96).trans l16_83.symm), ((l17_96).trans l17_83.symm), b2, b35, b68, hE94o, hall⟩
        · skip
          refine wp_exit ?_
          refine then_exit ?_
          refine then_exit ?_
          refine inb_hit ?_
          refine inb_n ?_
          refine then_n (hK81 _ _ ?_)
          clear hK81
          -- region 13
          refine region_in ?_
          refine W_v rfl rfl (V_mov rfl l17_88) ?_
          refine W_v rfl rfl (V_add rfl (et rfl) rfl (by omega) (by omega)) ?_
          refine W_v rfl rfl (V_asg rfl (et rfl)) ?_
          refine W_end ?_
          refine gen_Q (fun A97 hA97 => ?_)
          have hsz97 : SzN A97 105 := by rw [hA97]; infer_instance
          have hdf97 : A97.defers = [] := by rw [hA97]; simp only [df_put]; exact hdf88
          have l2_97 := lookE hA97 2 (es rfl (es rfl (es rfl l2_88)))
          have l7_97 := lookE hA97 7 (es rfl (es rfl (es rfl l7_88)))
          have l8_97 := lookE hA97 8 (es rfl (es rfl (es rfl l8_88)))
          have l16_97 := lookE hA97 16 (es rfl (es rfl (es rfl l16_88)))
          have l17_97 := lookE hA97 17 (et rfl)
          clear hA97 hsz88 hdf88 l2_88 l7_88 l8_88 l16_88 l17_88 l18_88 l82_88
          refine then_n ⟨4 - ((i + 1)), by simp only [hm76]; omega, hsz97, hdf97, hE84, (i + 1), rfl, (by omega), ((l17_97).trans (by first | rfl | (simp; done) | (congr 1; omega))), ((l2_97).trans l2_75.symm), ((l7_97).trans l7_75.symm), ((l8_97).trans l8_75.symm), ((l16_97).trans l16_75.symm), b2, b35, b68, hEO, hall⟩
      · skip
        refine wp_exit ?_
        refine then_exit ?_
        refine then_exit ?_
        refine inb_hit ?_
        refine then_n (hK73 _ _ ?_)
        clear hK73
        refine wp_seq_k (fun K98 hK98 => ?_)
        -- region 18
        refine region_in ?_
        refine W_v rfl rfl (V_mov rfl l7_79) ?_
        refine W_v rfl rfl (V_eql rfl (et rfl) rfl) ?_
        refine W_v rfl rfl (V_fa (off' := 0) rfl (es rfl (es rfl l8_79)) Try.underlying24 rfl (by decide) rfl) ?_
        refine W_r rfl rfl (VR_ldC rfl (et rfl) (cell_box (v := ra0_34) b35 rfl) Try.underlying22 rfl) ?_
        refine W_v rfl rfl (V_lenI rfl (et rfl) fa0_34 Try.underlying22) ?_
        refine W_v rfl rfl (V_gtr rfl (et rfl) rfl) ?_
        refine W_v rfl rfl (V_eqB rfl (es rfl (es rfl (es rfl (es rfl (et rfl))))) (et rfl) Try.underlying4) ?_
        refine W_sure (c' := true) rfl rfl (V_mov rfl (et rfl)) (by rw [decide_eq_true_eq]; exact own_e hgood) ?_
        refine W_r rfl (wanted_t rfl rfl (et rfl) (ez rfl)) (VR_ldA rfl (es rfl (es rfl (es rfl (es rfl (es rfl (es rfl (es rfl (es rfl l2_79)))))))) b2 Try.underlying24 rfl (by kernel_rfl)) ?_
        refine W_r rfl (wanted_t rfl rfl (es rfl (et rfl)) (ez rfl)) (VR_ldA rfl (es rfl (es rfl (es rfl (es rfl (es rfl (es rfl (es rfl (es rfl (es rfl l8_79))))))))) b35 Try.underlying24 rfl (by kernel_rfl)) ?_
        refine W_call rfl (wanted_t rfl rfl (es rfl (es rfl (et rfl))) (ez rfl)) rfl Try.func17 (by kernel_rfl) rfl (args2 (es rfl (et rfl)) (et rfl)) (rSame_c (h_lv.ext hE76) (h_yv.ext hE76) (fa0_34.ext hEO) (fa1_34.ext hEO) ) ?_
        rintro _ w99 ⟨rfl, hx99⟩
        refine ⟨_, rfl, ?_⟩
        have hb100 := hEO.size
        have hE101 := Ext.tr hE76 hx99
        have hE101o := Ext.tr hEO hx99
        replace b2 := heap_ext hx99 b2
        replace b35 := heap_ext hx99 b35
        replace b68 := heap_ext hx99 b68
        refine W_v rfl rfl (V_pickT rfl (es rfl (es rfl (es rfl (et rfl)))) (et rfl)) ?_
        refine W_sure (c' := true) rfl rfl (V_mov rfl (et rfl)) (by simp) ?_
        refine W_call rfl (wanted_t rfl rfl (et rfl) (ez rfl)) rfl Try.func12 (by kernel_rfl) rfl (args0) (awake_c  ) ?_
        rintro _ w102 ⟨rfl, hx102⟩
        refine ⟨_, rfl, ?_⟩
        have hb103 := hE101o.size
        have hE104 := Ext.tr hE101 hx102
        have hE104o := Ext.tr hE101o hx102
        replace b2 := heap_ext hx102 b2
        replace b35 := heap_ext hx102 b35
        replace b68 := heap_ext hx102 b68
        refine W_v rfl rfl (V_pickT rfl (es rfl (et rfl)) (et rfl)) ?_
        refine W_v rfl rfl (V_asg rfl (et rfl)) ?_
        refine W_end ?_
        refine gen_Q (fun A105 hA105 => ?_)
        have hsz105 : SzN A105 105 := by rw [hA105]; infer_instance
        have hdf105 : A105.defers = [] := by rw [hA105]; simp only [df_put]; exact hdf79
        have l4_105 := lookE hA105 4 (et rfl)
        clear hA105 hsz79 hdf79 l2_79 l7_79 l8_79 l16_79 l17_79 l74_79
        refine then_n (hK98 _ _ ?_)
        clear hK98
        refine wp_ret ?_
        refine ret_in (results_1 Try.results6 (rv_tmp l4_105)) hdf105 ?_
        -- leaf FFF
        exact ⟨rfl, hE104⟩

end Go.Proofs.Ytfnbfmlnageflaa