import Derived.Test.YtfnbfmlnageflaaRg3
namespace Go.Proofs.Ytfnbfmlnageflaa
open Go.RowKit Go.Own


set_option maxHeartbeats 4000000 in
theorem TrainsOrders_c {lv : Value} {lo : List Int} {yv : Value} {yo : List Int} {tr : Int} {c : Int} {w : World} (h_lv : Ints w lv lo) (h_yv : Ints w yv yo) (ht0 : 0 ≤ tr) (ht1 : tr ≤ 255) (hc0 : 0 ≤ c) (hc1 : c ≤ 255) :
    Calls Try.prog 9 #[.agg #[lv, yv], .int .u8 tr, .int .u8 c] w fun e w' => e = .returned (.bool true) ∧ Ext w w' := by
  refine calls_in 218 Try.func9 rfl rfl (by simp) (fun A0 hsz0 hdf0 hargs => ?_)
  have l0_0 := hargs 0 (.agg #[lv, yv]) rfl
  have l1_0 := hargs 1 (.int .u8 tr) rfl
  have l2_0 := hargs 2 (.int .u8 c) rfl
  clear hargs; replace hsz0 : SzN A0 218 := ⟨hsz0⟩
  have hE0 := Ext.rfl' w
  refine wp_seq_k (fun K1 hK1 => ?_)
  -- region 0
  refine region_in ?_
  refine W_box (cs := #[lv, yv]) rfl rfl rfl l0_0 rfl (fun g2 w2 hg2 hx2 b2 => ?_)
  have oB_2 : w.heap.size ≤ g2 := hg2 ▸ hE0.size
  have hE3 := Ext.tr hE0 hx2
  refine W_v rfl rfl (V_asg rfl rfl) ?_
  refine W_end ?_
  refine gen_Q (fun A4 hA4 => ?_)
  have hsz4 : SzN A4 218 := by rw [hA4]; infer_instance
  have hdf4 : A4.defers = [] := by rw [hA4]; simp only [df_put]; exact hdf0
  have l1_4 := lookE hA4 1 (es rfl (es rfl l1_0))
  have l2_4 := lookE hA4 2 (es rfl (es rfl l2_0))
  have l3_4 := lookE hA4 3 (es rfl (et rfl))
  clear hA4 hsz0 hdf0 l0_0 l1_0 l2_0
  refine then_n (hK1 _ _ ?_)
  clear hK1
  refine wp_seq_k (fun K5 hK5 => ?_)
  -- region 1
  refine region_in ?_
  refine W_r rfl rfl (VR_ldA rfl l3_4 b2 Try.underlying24 rfl (by kernel_rfl)) ?_
  refine W_call rfl rfl rfl Try.func24 (by kernel_rfl) rfl (args1 (et rfl)) (Check_c (h_lv.ext hE3) (h_yv.ext hE3) ) ?_
  rintro _ w6 ⟨rfl, hx6⟩
  refine ⟨_, rfl, ?_⟩
  have hb7 := hE3.size
  have hE8 := Ext.tr hE3 hx6
  replace b2 := heap_ext hx6 b2
  refine W_v rfl rfl (V_mov rfl (et rfl)) ?_
  refine W_v rfl rfl (V_ext rfl (et rfl) rfl) ?_
  refine W_v rfl rfl (V_ext rfl (es rfl (et rfl)) rfl) ?_
  refine W_v rfl rfl (V_ext rfl (es rfl (es rfl (et rfl))) rfl) ?_
  refine W_v rfl rfl (V_asg rfl (es rfl (es rfl (et rfl)))) ?_
  refine W_v rfl rfl (V_asg rfl (es rfl (es rfl (et rfl)))) ?_
  refine W_v rfl rfl (V_asg rfl (es rfl (es rfl (et rfl)))) ?_
  refine W_end ?_
  refine gen_Q (fun A9 hA9 => ?_)
  have hsz9 : SzN A9 218 := by rw [hA9]; infer_instance
  have hdf9 : A9.defers = [] := by rw [hA9]; simp only [df_put]; exact hdf4
  have l1_9 := lookE hA9 1 (es rfl (es rfl (es rfl (es rfl (es rfl (es rfl (es rfl (es rfl (es rfl l1_4)))))))))
  have l2_9 := lookE hA9 2 (es rfl (es rfl (es rfl (es rfl (es rfl (es rfl (es rfl (es rfl (es rfl l2_4)))))))))
  have l3_9 := lookE hA9 3 (es rfl (es rfl (es rfl (es rfl (es rfl (es rfl (es rfl (es rfl (es rfl l3_4)))))))))
  have l9_9 := lookE hA9 9 (et rfl)
  clear hA9 hsz4 hdf4 l1_4 l2_4 l3_4
  refine then_n (hK5 _ _ ?_)
  clear hK5
  refine wp_seq_k (fun K10 hK10 => ?_)
  refine wp_seq_k (fun K11 hK11 => ?_)
  -- region 2
  refine region_in ?_
  refine W_r rfl rfl (VR_ldA rfl l3_9 b2 Try.underlying24 rfl (by kernel_rfl)) ?_
  refine W_call rfl rfl rfl Try.func11 (by kernel_rfl) rfl (args1 (et rfl)) (Far_c (h_lv.ext hE8) (h_yv.ext hE8) ) ?_
  rintro _ w12 ⟨rfl, hx12⟩
  refine ⟨_, rfl, ?_⟩
  have hb13 := hE8.size
  have hE14 := Ext.tr hE8 hx12
  replace b2 := heap_ext hx12 b2
  refine W_split rfl rfl (V_mov rfl (et rfl)) (fun c15 => ?_) (fun c15 => ?_)
  · skip
    refine W_off rfl (wanted_f rfl rfl (et rfl) (ez rfl) rfl) ?_
    refine W_off rfl (wanted_f rfl rfl (es rfl (et rfl)) (ez rfl) rfl) ?_
    refine W_v rfl rfl (V_pickT rfl (es rfl (es rfl (et rfl))) rfl) ?_
    refine W_end ?_
    refine gen_Q (fun A16 hA16 => ?_)
    have hsz16 : SzN A16 218 := by rw [hA16]; infer_instance
    have hdf16 : A16.defers = [] := by rw [hA16]; simp only [df_put]; exact hdf9
    have l1_16 := lookE hA16 1 (es rfl (es rfl (es rfl (es rfl (es rfl (es rfl l1_9))))))
    have l2_16 := lookE hA16 2 (es rfl (es rfl (es rfl (es rfl (es rfl (es rfl l2_9))))))
    have l3_16 := lookE hA16 3 (es rfl (es rfl (es rfl (es rfl (es rfl (es rfl l3_9))))))
    have l45_16 := lookE hA16 45 (et rfl)
    clear hA16 hsz9 hdf9 l1_9 l2_9 l3_9 l9_9
    refine then_n (hK11 _ _ ?_)
    clear hK11
    refine cond_t l45_16 ?_
    refine wp_seq_k (fun K17 hK17 => ?_)
    -- region 3
    refine region_in ?_
    refine W_call rfl rfl rfl Try.func12 (by kernel_rfl) rfl (args0) (awake_c  ) ?_
    rintro _ w18 ⟨rfl, hx18⟩
    refine ⟨_, rfl, ?_⟩
    have hb19 := hE14.size
    have hE20 := Ext.tr hE14 hx18
    replace b2 := heap_ext hx18 b2
    refine W_v rfl rfl (V_asg rfl (et rfl)) ?_
    refine W_end ?_
    refine gen_Q (fun A21 hA21 => ?_)
    have hsz21 : SzN A21 218 := by rw [hA21]; infer_instance
    have hdf21 : A21.defers = [] := by rw [hA21]; simp only [df_put]; exact hdf16
    have l6_21 := lookE hA21 6 (et rfl)
    clear hA21 hsz16 hdf16 l1_16 l2_16 l3_16 l45_16
    refine then_n (hK17 _ _ ?_)
    clear hK17
    refine wp_ret ?_
    refine then_ret ?_
    refine ret_in (results_1 Try.results9 (rv_tmp l6_21)) hdf21 ?_
    -- leaf T
    exact ⟨rfl, hE20⟩
  · skip
    refine W_v rfl (wanted_t rfl rfl (et rfl) (ez rfl)) (V_mov rfl (es rfl (es rfl (es rfl l9_9)))) ?_
    refine W_v rfl (wanted_t rfl rfl (es rfl (et rfl)) (ez rfl)) (V_neq rfl (et rfl) rfl) ?_
    refine W_v rfl rfl (V_pickF rfl (es rfl (es rfl (et rfl))) (et rfl)) ?_
    refine W_end ?_
    refine gen_Q (fun A22 hA22 => ?_)
    have hsz22 : SzN A22 218 := by rw [hA22]; infer_instance
    have hdf22 : A22.defers = [] := by rw [hA22]; simp only [df_put]; exact hdf9
    have l1_22 := lookE hA22 1 (es rfl (es rfl (es rfl (es rfl (es rfl (es rfl l1_9))))))
    have l2_22 := lookE hA22 2 (es rfl (es rfl (es rfl (es rfl (es rfl (es rfl l2_9))))))
    have l3_22 := lookE hA22 3 (es rfl (es rfl (es rfl (es rfl (es rfl (es rfl l3_9))))))
    have l45_22 := lookE hA22 45 (et rfl)
    clear hA22 hsz9 hdf9 l1_9 l2_9 l3_9 l9_9
    refine then_n (hK11 _ _ ?_)
    clear hK11
    refine cond_dec l45_22 (fun c23 => ?_) (fun c23 => ?_)
    · skip
      refine wp_seq_k (fun K24 hK24 => ?_)
      -- region 3
      refine region_in ?_
      refine W_call rfl rfl rfl Try.func12 (by kernel_rfl) rfl (args0) (awake_c  ) ?_
      rintro _ w25 ⟨rfl, hx25⟩
      refine ⟨_, rfl, ?_⟩
      have hb26 := hE14.size
      have hE27 := Ext.tr hE14 hx25
      replace b2 := heap_ext hx25 b2
      refine W_v rfl rfl (V_asg rfl (et rfl)) ?_
      refine W_end ?_
      refine gen_Q (fun A28 hA28 => ?_)
      have hsz28 : SzN A28 218 := by rw [hA28]; infer_instance
      have hdf28 : A28.defers = [] := by rw [hA28]; simp only [df_put]; exact hdf22
      have l6_28 := lookE hA28 6 (et rfl)
      clear hA28 hsz22 hdf22 l1_22 l2_22 l3_22 l45_22
      refine then_n (hK24 _ _ ?_)
      clear hK24
      refine wp_ret ?_
      refine then_ret ?_
      refine ret_in (results_1 Try.results9 (rv_tmp l6_28)) hdf28 ?_
      -- leaf FT
      exact ⟨rfl, hE27⟩
    · skip
      have hgood : (chk lo yo).2.2 = 0 := by simpa using c23
      have hn01 : tr % 2 = 0 ∨ tr % 2 = 1 := by omega
      have hcars := carsS_ok (tr := tr % 2) ((chkE_iff lo yo (tr % 2) 0).2 ⟨(chk_iff lo yo).1 hgood, hn01, by omega, by omega⟩)
      have hcl : (carsS lo yo (tr % 2)).1.length = (if tr % 2 = 0 then lo else yo).length := by rw [hcars]
      have hcl2 : (if tr % 2 = 0 then lo else yo).length ≤ 1000 := by split <;> omega
      have hC := clearS_ok hgood
      have hTn := turnS_nil (good_yo hgood)
      have hpl := fun b => placeS_len (lo := lo) (yo := yo) (tr := tr % 2) (c := c % 24) (b := b) (n := 30) (by omega) (by omega)
      have hpl1 := hpl false
      have hpl2 := hpl true
      have hrl := fun b => relinkS_len (lo := lo) (yo := yo) (b := b) (n := 30) (by omega) (by omega)
      have hrl1 := hrl (decide (tr % 2 = 0))
      refine wp_skip ?_
      refine then_n (hK10 _ _ ?_)
      clear hK10
      refine wp_seq_k (fun K29 hK29 => ?_)
      -- region 4
      refine region_in ?_
      refine W_v rfl rfl (V_mov rfl l1_22) ?_
      refine W_v rfl rfl (V_cvt rfl (et rfl) Try.underlying5 Try.underlying3 (wrap_i64 (by omega) (by omega))) ?_
      refine W_v rfl rfl (V_rem rfl (et rfl) rfl (by omega) (by omega) (wrap_i64 (by omega) (by omega))) ?_
      refine W_v rfl rfl (V_mov rfl (es rfl (es rfl (es rfl l2_22)))) ?_
      refine W_v rfl rfl (V_cvt rfl (et rfl) Try.underlying5 Try.underlying3 (wrap_i64 (by omega) (by omega))) ?_
      refine W_v rfl rfl (V_rem rfl (et rfl) rfl (by omega) (by omega) (wrap_i64 (by omega) (by omega))) ?_
      refine W_v rfl rfl (V_asg rfl (es rfl (es rfl (es rfl (et rfl))))) ?_
      refine W_v rfl rfl (V_asg rfl (es rfl (et rfl))) ?_
      refine W_end ?_
      refine gen_Q (fun A30 hA30 => ?_)
      have hsz30 : SzN A30 218 := by rw [hA30]; infer_instance
      have hdf30 : A30.defers = [] := by rw [hA30]; simp only [df_put]; exact hdf22
      have l1_30 := lookE hA30 1 (es rfl (es rfl (es rfl (es rfl (es rfl (es rfl (es rfl (es rfl l1_22))))))))
      have l3_30 := lookE hA30 3 (es rfl (es rfl (es rfl (es rfl (es rfl (es rfl (es rfl (es rfl l3_22))))))))
      have l10_30 := lookE hA30 10 (es rfl (et rfl))
      have l11_30 := lookE hA30 11 (et rfl)
      clear hA30 hsz22 hdf22 l1_22 l2_22 l3_22 l45_22
      refine then_n (hK29 _ _ ?_)
      clear hK29
      refine wp_seq_k (fun K31 hK31 => ?_)
      -- region 5
      refine region_in ?_
      refine W_r rfl rfl (VR_ldA rfl l3_30 b2 Try.underlying24 rfl (by kernel_rfl)) ?_
      refine W_v rfl rfl (V_mov rfl (es rfl l10_30)) ?_
      refine W_call rfl rfl rfl Try.func23 (by kernel_rfl) rfl (args2 (es rfl (et rfl)) (et rfl)) (Cars_c (tr := (tr % 2)) (h_lv.ext hE14) (h_yv.ext hE14) ) ?_
      rintro _ w32 ⟨v_32, rfl, f_32, hx32⟩
      refine ⟨_, rfl, ?_⟩
      have hb33 := hE14.size
      have hE34 := Ext.tr hE14 hx32
      replace b2 := heap_ext hx32 b2
      have ul_f_32 := fre_lo f_32
      replace f_32 := f_32.base hb33
      refine W_v rfl rfl (V_mov rfl (et rfl)) ?_
      refine W_v rfl rfl (V_ext rfl (et rfl) rfl) ?_
      refine W_v rfl rfl (V_ext rfl (es rfl (et rfl)) rfl) ?_
      refine W_v rfl rfl (V_asg rfl (es rfl (et rfl))) ?_
      refine W_v rfl rfl (V_asg rfl (es rfl (et rfl))) ?_
      refine W_end ?_
      refine gen_Q (fun A35 hA35 => ?_)
      have hsz35 : SzN A35 218 := by rw [hA35]; infer_instance
      have hdf35 : A35.defers = [] := by rw [hA35]; simp only [df_put]; exact hdf30
      have l1_35 := lookE hA35 1 (es rfl (es rfl (es rfl (es rfl (es rfl (es rfl (es rfl (es rfl l1_30))))))))
      have l3_35 := lookE hA35 3 (es rfl (es rfl (es rfl (es rfl (es rfl (es rfl (es rfl (es rfl l3_30))))))))
      have l10_35 := lookE hA35 10 (es rfl (es rfl (es rfl (es rfl (es rfl (es rfl (es rfl (es rfl l10_30))))))))
      have l11_35 := lookE hA35 11 (es rfl (es rfl (es rfl (es rfl (es rfl (es rfl (es rfl (es rfl l11_30))))))))
      have l12_35 := lookE hA35 12 (es rfl (et rfl))
      have l13_35 := lookE hA35 13 (et rfl)
      clear hA35 hsz30 hdf30 l1_30 l3_30 l10_30 l11_30
      refine then_n (hK31 _ _ ?_)
      clear hK31
      refine wp_seq_k (fun K36 hK36 => ?_)
      -- region 6
      refine region_in ?_
      refine W_r rfl rfl (VR_ldA rfl l3_35 b2 Try.underlying24 rfl (by kernel_rfl)) ?_
      refine W_v rfl rfl (V_mov rfl (es rfl l10_35)) ?_
      refine W_v rfl rfl (V_mov rfl (es rfl (es rfl l11_35))) ?_
      refine W_call rfl rfl rfl Try.func13 (by kernel_rfl) rfl (args3 (es rfl (es rfl (et rfl))) (es rfl (et rfl)) (et rfl)) (Append_c (tr := (tr % 2)) (c := (c % 24)) (h_lv.ext hE34) (h_yv.ext hE34) ) ?_
      rintro _ w37 ⟨v1_37, v2_37, rfl, f1_37, f2_37, hx37⟩
      refine ⟨_, rfl, ?_⟩
      have hb38 := hE34.size
      have hE39 := Ext.tr hE34 hx37
      replace b2 := heap_ext hx37 b2
      replace f_32 := f_32.ext hx37
      have ul_f1_37 := fre_lo f1_37
      replace f1_37 := f1_37.base hb38
      have ul_f2_37 := fre_lo f2_37
      replace f2_37 := f2_37.base hb38
      refine W_v rfl rfl (V_mov rfl (et rfl)) ?_
      refine W_v rfl rfl (V_ext rfl (et rfl) rfl) ?_
      refine W_v rfl rfl (V_ext rfl (es rfl (et rfl)) rfl) ?_
      refine W_alloc (z := .agg #[.slice none 0 0, .slice none 0 0]) (cs := #[.slice none 0 0, .slice none 0 0]) rfl rfl rfl (by kernel_rfl) rfl (fun g40 w40 hg40 hx40 b40 => ?_)
      have o2_40 : g2 < g40 := hg40 ▸ lt_size b2
      have oB_40 : w.heap.size ≤ g40 := hg40 ▸ hE39.size
      have hE41 := Ext.tr hE39 hx40
      replace b2 := heap_ext hx40 b2
      replace f_32 := f_32.ext hx40
      replace f1_37 := f1_37.ext hx40
      replace f2_37 := f2_37.ext hx40
      refine W_stA rfl rfl rfl (et rfl) (es rfl (es rfl (et rfl))) (by simp only [List.all_toArray, List.all_cons, List.all_nil, one_ints f1_37.1, one_ints f2_37.1] <;> rfl) b40 (by rfl) (by kernel_rfl) (fun w42 ht42 hb42 => ?_)
      have hE43 := ext_tch hE41 ht42 oB_40
      replace f_32 := f_32.tch ht42 b40 rfl
      replace f1_37 := f1_37.tch ht42 b40 rfl
      replace f2_37 := f2_37.tch ht42 b40 rfl
      replace b2 := box_tch b2 ht42 (Nat.ne_of_lt o2_40)
      replace b40 := hb42
      refine W_v rfl rfl (V_asg rfl (es rfl (et rfl))) ?_
      refine W_end ?_
      refine gen_Q (fun A44 hA44 => ?_)
      have hsz44 : SzN A44 218 := by rw [hA44]; infer_instance
      have hdf44 : A44.defers = [] := by rw [hA44]; simp only [df_put]; exact hdf35
      have l1_44 := lookE hA44 1 (es rfl (es rfl (es rfl (es rfl (es rfl (es rfl (es rfl (es rfl (es rfl l1_35)))))))))
      have l3_44 := lookE hA44 3 (es rfl (es rfl (es rfl (es rfl (es rfl (es rfl (es rfl (es rfl (es rfl l3_35)))))))))
      have l10_44 := lookE hA44 10 (es rfl (es rfl (es rfl (es rfl (es rfl (es rfl (es rfl (es rfl (es rfl l10_35)))))))))
      have l11_44 := lookE hA44 11 (es rfl (es rfl (es rfl (es rfl (es rfl (es rfl (es rfl (es rfl (es rfl l11_35)))))))))
      have l12_44 := lookE hA44 12 (es rfl (es rfl (es rfl (es rfl (es rfl (es rfl (es rfl (es rfl (es rfl l12_35)))))))))
      have l13_44 := lookE hA44 13 (es rfl (es rfl (es rfl (es rfl (es rfl (es rfl (es rfl (es rfl (es rfl l13_35)))))))))
      have l14_44 := lookE hA44 14 (es rfl (et rfl))
      have l15_44 := lookE hA44 15 (et rfl)
      clear hA44 hsz35 hdf35 l1_35 l3_35 l10_35 l11_35 l12_35 l13_35
      refine then_n (hK36 _ _ ?_)
      clear hK36
      refine wp_seq_k (fun K45 hK45 => ?_)
      -- region 7
      refine region_in ?_
      refine W_r rfl rfl (VR_ldA rfl l3_44 b2 Try.underlying24 rfl (by kernel_rfl)) ?_
      refine W_v rfl rfl (V_mov rfl (es rfl l10_44)) ?_
      refine W_v rfl rfl (V_mov rfl (es rfl (es rfl l11_44))) ?_
      refine W_call rfl rfl rfl Try.func15 (by kernel_rfl) rfl (args3 (es rfl (es rfl (et rfl))) (es rfl (et rfl)) (et rfl)) (Insert_c (tr := (tr % 2)) (c := (c % 24)) (h_lv.ext hE43) (h_yv.ext hE43) ) ?_
      rintro _ w46 ⟨v1_46, v2_46, rfl, f1_46, f2_46, hx46⟩
      refine ⟨_, rfl, ?_⟩
      have hb47 := hE43.size
      have hE48 := Ext.tr hE43 hx46
      replace b2 := heap_ext hx46 b2
      replace b40 := heap_ext hx46 b40
      replace f_32 := f_32.ext hx46
      replace f1_37 := f1_37.ext hx46
      replace f2_37 := f2_37.ext hx46
      have ul_f1_46 := fre_lo f1_46
      replace f1_46 := f1_46.base hb47
      have ul_f2_46 := fre_lo f2_46
      replace f2_46 := f2_46.base hb47
      refine W_v rfl rfl (V_mov rfl (et rfl)) ?_
      refine W_v rfl rfl (V_ext rfl (et rfl) rfl) ?_
      refine W_v rfl rfl (V_ext rfl (es rfl (et rfl)) rfl) ?_
      refine W_alloc (z := .agg #[.slice none 0 0, .slice none 0 0]) (cs := #[.slice none 0 0, .slice none 0 0]) rfl rfl rfl (by kernel_rfl) rfl (fun g49 w49 hg49 hx49 b49 => ?_)
      have o2_49 : g2 < g49 := hg49 ▸ lt_size b2
      have o40_49 : g40 < g49 := hg49 ▸ lt_size b40
      have oB_49 : w.heap.size ≤ g49 := hg49 ▸ hE48.size
      have hE50 := Ext.tr hE48 hx49
      replace b2 := heap_ext hx49 b2
      replace b40 := heap_ext hx49 b40
      replace f_32 := f_32.ext hx49
      replace f1_37 := f1_37.ext hx49
      replace f2_37 := f2_37.ext hx49
      replace f1_46 := f1_46.ext hx49
      replace f2_46 := f2_46.ext hx49
      refine W_stA rfl rfl rfl (et rfl) (es rfl (es rfl (et rfl))) (by simp only [List.all_toArray, List.all_cons, List.all_nil, one_ints f1_46.1, one_ints f2_46.1] <;> rfl) b49 (by rfl) (by kernel_rfl) (fun w51 ht51 hb51 => ?_)
      have hE52 := ext_tch hE50 ht51 oB_49
      replace f_32 := f_32.tch ht51 b49 rfl
      replace f1_37 := f1_37.tch ht51 b49 rfl
      replace f2_37 := f2_37.tch ht51 b49 rfl
      replace f1_46 := f1_46.tch ht51 b49 rfl
      replace f2_46 := f2_46.tch ht51 b49 rfl
      replace b2 := box_tch b2 ht51 (Nat.ne_of_lt o2_49)
      replace b40 := box_tch b40 ht51 (Nat.ne_of_lt o40_49)
      replace b49 := hb51
      refine W_v rfl rfl (V_asg rfl (es rfl (et rfl))) ?_
      refine W_end ?_
      refine gen_Q (fun A53 hA53 => ?_)
      have hsz53 : SzN A53 218 := by rw [hA53]; infer_instance
      have hdf53 : A53.defers = [] := by rw [hA53]; simp only [df_put]; exact hdf44
      have l1_53 := lookE hA53 1 (es rfl (es rfl (es rfl (es rfl (es rfl (es rfl (es rfl (es rfl (es rfl l1_44)))))))))
      have l3_53 := lookE hA53 3 (es rfl (es rfl (es rfl (es rfl (es rfl (es rfl (es rfl (es rfl (es rfl l3_44)))))))))
      have l10_53 := lookE hA53 10 (es rfl (es rfl (es rfl (es rfl (es rfl (es rfl (es rfl (es rfl (es rfl l10_44)))))))))
      have l11_53 := lookE hA53 11 (es rfl (es rfl (es rfl (es rfl (es rfl (es rfl (es rfl (es rfl (es rfl l11_44)))))))))
      have l12_53 := lookE hA53 12 (es rfl (es rfl (es rfl (es rfl (es rfl (es rfl (es rfl (es rfl (es rfl l12_44)))))))))
      have l13_53 := lookE hA53 13 (es rfl (es rfl (es rfl (es rfl (es rfl (es rfl (es rfl (es rfl (es rfl l13_44)))))))))
      have l14_53 := lookE hA53 14 (es rfl (es rfl (es rfl (es rfl (es rfl (es rfl (es rfl (es rfl (es rfl l14_44)))))))))
      have l15_53 := lookE hA53 15 (es rfl (es rfl (es rfl (es rfl (es rfl (es rfl (es rfl (es rfl (es rfl l15_44)))))))))
      have l16_53 := lookE hA53 16 (es rfl (et rfl))
      have l17_53 := lookE hA53 17 (et rfl)
      clear hA53 hsz44 hdf44 l1_44 l3_44 l10_44 l11_44 l12_44 l13_44 l14_44 l15_44
      refine then_n (hK45 _ _ ?_)
      clear hK45
      refine wp_seq_k (fun K54 hK54 => ?_)
      refine wp_seq_k (fun K55 hK55 => ?_)
      -- region 8
      refine region_in ?_
      refine W_v rfl rfl (V_mov rfl l13_53) ?_
      refine W_v rfl rfl (V_neq rfl (et rfl) rfl) ?_
      refine W_sure (c' := false) rfl rfl (V_mov rfl (et rfl)) (by simp [hcars]) ?_
      refine W_v rfl (wanted_t rfl rfl (et rfl) (ez rfl)) (V_mov rfl (es rfl (es rfl (es rfl l15_53)))) ?_
      refine W_v rfl (wanted_t rfl rfl (es rfl (et rfl)) (ez rfl)) (V_mov rfl (es rfl (es rfl (es rfl (es rfl l17_53))))) ?_
      refine W_v rfl (wanted_t rfl rfl (es rfl (es rfl (et rfl))) (ez rfl)) (V_neq rfl (es rfl (et rfl)) (et rfl)) ?_
      refine W_v rfl rfl (V_pickF rfl (es rfl (es rfl (es rfl (et rfl)))) (et rfl)) ?_
      refine W_end ?_
      refine gen_Q (fun A56 hA56 => ?_)
      have hsz56 : SzN A56 218 := by rw [hA56]; infer_instance
      have hdf56 : A56.defers = [] := by rw [hA56]; simp only [df_put]; exact hdf53
      have l1_56 := lookE hA56 1 (es rfl (es rfl (es rfl (es rfl (es rfl (es rfl (es rfl l1_53)))))))
      have l3_56 := lookE hA56 3 (es rfl (es rfl (es rfl (es rfl (es rfl (es rfl (es rfl l3_53)))))))
      have l10_56 := lookE hA56 10 (es rfl (es rfl (es rfl (es rfl (es rfl (es rfl (es rfl l10_53)))))))
      have l11_56 := lookE hA56 11 (es rfl (es rfl (es rfl (es rfl (es rfl (es rfl (es rfl l11_53)))))))
      have l12_56 := lookE hA56 12 (es rfl (es rfl (es rfl (es rfl (es rfl (es rfl (es rfl l12_53)))))))
      have l14_56 := lookE hA56 14 (es rfl (es rfl (es rfl (es rfl (es rfl (es rfl (es rfl l14_53)))))))
      have l15_56 := lookE hA56 15 (es rfl (es rfl (es rfl (es rfl (es rfl (es rfl (es rfl l15_53)))))))
      have l16_56 := lookE hA56 16 (es rfl (es rfl (es rfl (es rfl (es rfl (es rfl (es rfl l16_53)))))))
      have l79_56 := lookE hA56 79 (et rfl)
      clear hA56 hsz53 hdf53 l1_53 l3_53 l10_53 l11_53 l12_53 l13_53 l14_53 l15_53 l16_53 l17_53
      refine then_n (hK55 _ _ ?_)
      clear hK55
      refine cond_not l79_56 (by simp [placeS_e _ _ _ _ false true]) ?_
      refine wp_skip ?_
      refine then_n (hK54 _ _ ?_)
      clear hK54
      refine wp_seq_k (fun K57 hK57 => ?_)
      refine wp_seq_k (fun K58 hK58 => ?_)
      -- region 10
      refine region_in ?_
      refine W_v rfl rfl (V_mov rfl l15_56) ?_
      refine W_v rfl rfl (V_eql rfl (et rfl) rfl) ?_
      refine W_end ?_
      refine gen_Q (fun A59 hA59 => ?_)
      have hsz59 : SzN A59 218 := by rw [hA59]; infer_instance
      have hdf59 : A59.defers = [] := by rw [hA59]; simp only [df_put]; exact hdf56
      have l1_59 := lookE hA59 1 (es rfl (es rfl l1_56))
      have l3_59 := lookE hA59 3 (es rfl (es rfl l3_56))
      have l10_59 := lookE hA59 10 (es rfl (es rfl l10_56))
      have l11_59 := lookE hA59 11 (es rfl (es rfl l11_56))
      have l12_59 := lookE hA59 12 (es rfl (es rfl l12_56))
      have l14_59 := lookE hA59 14 (es rfl (es rfl l14_56))
      have l16_59 := lookE hA59 16 (es rfl (es rfl l16_56))
      have l81_59 := lookE hA59 81 (et rfl)
      clear hA59 hsz56 hdf56 l1_56 l3_56 l10_56 l11_56 l12_56 l14_56 l15_56 l16_56 l79_56
      refine then_n (hK58 _ _ ?_)
      clear hK58
      refine cond_dec l81_59 (fun c60 => ?_) (fun c60 => ?_)
      · skip
        have hPa := orders_P hgood hn01 c60 false
        have hPb := orders_P hgood hn01 c60 true
        have hLa := orders_L hgood hn01 c60
        have hLb := orders_E hgood hn01 c60
        have hxa : (carsS (placeS lo yo (tr % 2) (c % 24) false).lo (placeS lo yo (tr % 2) (c % 24) false).yo (tr % 2)).1.length ≤ 1000 := by rw [hPa.2]; simp [putL_len]; split <;> omega
        have hxb : (carsS (placeS lo yo (tr % 2) (c % 24) true).lo (placeS lo yo (tr % 2) (c % 24) true).yo (tr % 2)).1.length ≤ 1000 := by rw [hPb.2]; simp [putL_len]; split <;> omega
        refine wp_seq_k (fun K61 hK61 => ?_)
        -- region 11
        refine region_in ?_
        refine W_r rfl rfl (VR_ldA rfl l14_59 b40 Try.underlying24 rfl (by kernel_rfl)) ?_
        refine W_v rfl rfl (V_mov rfl (es rfl l10_59)) ?_
        refine W_call rfl rfl rfl Try.func23 (by kernel_rfl) rfl (args2 (es rfl (et rfl)) (et rfl)) (Cars_c (tr := (tr % 2)) f1_37.1 f2_37.1 ) ?_
        rintro _ w62 ⟨v_62, rfl, f_62, hx62⟩
        refine ⟨_, rfl, ?_⟩
        have hb63 := hE52.size
        have hE64 := Ext.tr hE52 hx62
        replace b2 := heap_ext hx62 b2
        replace b40 := heap_ext hx62 b40
        replace b49 := heap_ext hx62 b49
        replace f_32 := f_32.ext hx62
        replace f1_37 := f1_37.ext hx62
        replace f2_37 := f2_37.ext hx62
        replace f1_46 := f1_46.ext hx62
        replace f2_46 := f2_46.ext hx62
        have ul_f_62 := fre_lo f_62
        replace f_62 := f_62.base hb63
        refine W_v rfl rfl (V_mov rfl (et rfl)) ?_
        refine W_v rfl rfl (V_ext rfl (et rfl) rfl) ?_
        refine W_v rfl rfl (V_ext rfl (es rfl (et rfl)) rfl) ?_
        refine W_v rfl rfl (V_asg rfl (es rfl (et rfl))) ?_
        refine W_v rfl rfl (V_asg rfl (es rfl (et rfl))) ?_
        refine W_end ?_
        refine gen_Q (fun A65 hA65 => ?_)
        have hsz65 : SzN A65 218 := by rw [hA65]; infer_instance
        have hdf65 : A65.defers = [] := by rw [hA65]; simp only [df_put]; exact hdf59
        have l1_65 := lookE hA65 1 (es rfl (es rfl (es rfl (es rfl (es rfl (es rfl (es rfl (es rfl l1_59))))))))
        have l3_65 := lookE hA65 3 (es rfl (es rfl (es rfl (es rfl (es rfl (es rfl (es rfl (es rfl l3_59))))))))
        have l10_65 := lookE hA65 10 (es rfl (es rfl (es rfl (es rfl (es rfl (es rfl (es rfl (es rfl l10_59))))))))
        have l11_65 := lookE hA65 11 (es rfl (es rfl (es rfl (es rfl (es rfl (es rfl (es rfl (es rfl l11_59))))))))
        have l12_65 := lookE hA65 12 (es rfl (es rfl (es rfl (es rfl (es rfl (es rfl (es rfl (es rfl l12_59))))))))
        have l14_65 := lookE hA65 14 (es rfl (es rfl (es rfl (es rfl (es rfl (es rfl (es rfl (es rfl l14_59))))))))
        have l16_65 := lookE hA65 16 (es rfl (es rfl (es rfl (es rfl (es rfl (es rfl (es rfl (es rfl l16_59))))))))
        have l18_65 := lookE hA65 18 (es rfl (et rfl))
        clear hA65 hsz59 hdf59 l1_59 l3_59 l10_59 l11_59 l12_59 l14_59 l16_59 l81_59
        refine then_n (hK61 _ _ ?_)
        clear hK61
        refine wp_seq_k (fun K66 hK66 => ?_)
        -- region 12
        refine region_in ?_
        refine W_r rfl rfl (VR_ldA rfl l16_65 b49 Try.underlying24 rfl (by kernel_rfl)) ?_
        refine W_v rfl rfl (V_mov rfl (es rfl l10_65)) ?_
        refine W_call rfl rfl rfl Try.func23 (by kernel_rfl) rfl (args2 (es rfl (et rfl)) (et rfl)) (Cars_c (tr := (tr % 2)) f1_46.1 f2_46.1 ) ?_
        rintro _ w67 ⟨v_67, rfl, f_67, hx67⟩
        refine ⟨_, rfl, ?_⟩
        have hb68 := hE64.size
        have hE69 := Ext.tr hE64 hx67
        replace b2 := heap_ext hx67 b2
        replace b40 := heap_ext hx67 b40
        replace b49 := heap_ext hx67 b49
        replace f_32 := f_32.ext hx67
        replace f1_37 := f1_37.ext hx67
        replace f2_37 := f2_37.ext hx67
        replace f1_46 := f1_46.ext hx67
        replace f2_46 := f2_46.ext hx67
        replace f_62 := f_62.ext hx67
        have ul_f_67 := fre_lo f_67
        replace f_67 := f_67.base hb68
        refine W_v rfl rfl (V_mov rfl (et rfl)) ?_
        refine W_v rfl rfl (V_ext rfl (et rfl) rfl) ?_
        refine W_v rfl rfl (V_ext rfl (es rfl (et rfl)) rfl) ?_
        refine W_v rfl rfl (V_asg rfl (es rfl (et rfl))) ?_
        refine W_v rfl rfl (V_asg rfl (es rfl (et rfl))) ?_
        refine W_end ?_
        refine gen_Q (fun A70 hA70 => ?_)
        have hsz70 : SzN A70 218 := by rw [hA70]; infer_instance
        have hdf70 : A70.defers = [] := by rw [hA70]; simp only [df_put]; exact hdf65
        have l1_70 := lookE hA70 1 (es rfl (es rfl (es rfl (es rfl (es rfl (es rfl (es rfl (es rfl l1_65))))))))
        have l3_70 := lookE hA70 3 (es rfl (es rfl (es rfl (es rfl (es rfl (es rfl (es rfl (es rfl l3_65))))))))
        have l10_70 := lookE hA70 10 (es rfl (es rfl (es rfl (es rfl (es rfl (es rfl (es rfl (es rfl l10_65))))))))
        have l11_70 := lookE hA70 11 (es rfl (es rfl (es rfl (es rfl (es rfl (es rfl (es rfl (es rfl l11_65))))))))
        have l12_70 := lookE hA70 12 (es rfl (es rfl (es rfl (es rfl (es rfl (es rfl (es rfl (es rfl l12_65))))))))
        have l14_70 := lookE hA70 14 (es rfl (es rfl (es rfl (es rfl (es rfl (es rfl (es rfl (es rfl l14_65))))))))
        have l16_70 := lookE hA70 16 (es rfl (es rfl (es rfl (es rfl (es rfl (es rfl (es rfl (es rfl l16_65))))))))
        have l18_70 := lookE hA70 18 (es rfl (es rfl (es rfl (es rfl (es rfl (es rfl (es rfl (es rfl l18_65))))))))
        have l20_70 := lookE hA70 20 (es rfl (et rfl))
        clear hA70 hsz65 hdf65 l1_65 l3_65 l10_65 l11_65 l12_65 l14_65 l16_65 l18_65
        refine then_n (hK66 _ _ ?_)
        clear hK66
        refine wp_seq_k (fun K71 hK71 => ?_)
        -- region 13
        refine region_in ?_
        refine W_r rfl rfl (VR_ldA rfl l14_70 b40 Try.underlying24 rfl (by kernel_rfl)) ?_
        refine W_v rfl rfl (V_mov rfl (es rfl l10_70)) ?_
        refine W_call rfl rfl rfl Try.func30 (by kernel_rfl) rfl (args2 (es rfl (et rfl)) (et rfl)) (Last_c (tr := (tr % 2)) f1_37.1 f2_37.1 ) ?_
        rintro _ w72 ⟨rfl, hx72⟩
        refine ⟨_, rfl, ?_⟩
        have hb73 := hE69.size
        have hE74 := Ext.tr hE69 hx72
        replace b2 := heap_ext hx72 b2
        replace b40 := heap_ext hx72 b40
        replace b49 := heap_ext hx72 b49
        replace f_32 := f_32.ext hx72
        replace f1_37 := f1_37.ext hx72
        replace f2_37 := f2_37.ext hx72
        replace f1_46 := f1_46.ext hx72
        replace f2_46 := f2_46.ext hx72
        replace f_62 := f_62.ext hx72
        replace f_67 := f_67.ext hx72
        refine W_v rfl rfl (V_mov rfl (et rfl)) ?_
        refine W_v rfl rfl (V_ext rfl (et rfl) rfl) ?_
        refine W_v rfl rfl (V_ext rfl (es rfl (et rfl)) rfl) ?_
        refine W_v rfl rfl (V_asg rfl (es rfl (et rfl))) ?_
        refine W_v rfl rfl (V_asg rfl (es rfl (et rfl))) ?_
        refine W_end ?_
        refine gen_Q (fun A75 hA75 => ?_)
        have hsz75 : SzN A75 218 := by rw [hA75]; infer_instance
        have hdf75 : A75.defers = [] := by rw [hA75]; simp only [df_put]; exact hdf70
        have l1_75 := lookE hA75 1 (es rfl (es rfl (es rfl (es rfl (es rfl (es rfl (es rfl (es rfl l1_70))))))))
        have l3_75 := lookE hA75 3 (es rfl (es rfl (es rfl (es rfl (es rfl (es rfl (es rfl (es rfl l3_70))))))))
        have l10_75 := lookE hA75 10 (es rfl (es rfl (es rfl (es rfl (es rfl (es rfl (es rfl (es rfl l10_70))))))))
        have l11_75 := lookE hA75 11 (es rfl (es rfl (es rfl (es rfl (es rfl (es rfl (es rfl (es rfl l11_70))))))))
        have l12_75 := lookE hA75 12 (es rfl (es rfl (es rfl (es rfl (es rfl (es rfl (es rfl (es rfl l12_70))))))))
        have l16_75 := lookE hA75 16 (es rfl (es rfl (es rfl (es rfl (es rfl (es rfl (es rfl (es rfl l16_70))))))))
        have l18_75 := lookE hA75 18 (es rfl (es rfl (es rfl (es rfl (es rfl (es rfl (es rfl (es rfl l18_70))))))))
        have l20_75 := lookE hA75 20 (es rfl (es rfl (es rfl (es rfl (es rfl (es rfl (es rfl (es rfl l20_70))))))))
        have l22_75 := lookE hA75 22 (es rfl (et rfl))
        have l23_75 := lookE hA75 23 (et rfl)
        clear hA75 hsz70 hdf70 l1_70 l3_70 l10_70 l11_70 l12_70 l14_70 l16_70 l18_70 l20_70
        refine then_n (hK71 _ _ ?_)
        clear hK71
        refine wp_seq_k (fun K76 hK76 => ?_)
        -- region 14
        refine region_in ?_
        refine W_r rfl rfl (VR_ldA rfl l16_75 b49 Try.underlying24 rfl (by kernel_rfl)) ?_
        refine W_v rfl rfl (V_mov rfl (es rfl l10_75)) ?_
        refine W_call rfl rfl rfl Try.func30 (by kernel_rfl) rfl (args2 (es rfl (et rfl)) (et rfl)) (Last_c (tr := (tr % 2)) f1_46.1 f2_46.1 ) ?_
        rintro _ w77 ⟨rfl, hx77⟩
        refine ⟨_, rfl, ?_⟩
        have hb78 := hE74.size
        have hE79 := Ext.tr hE74 hx77
        replace b2 := heap_ext hx77 b2
        replace b49 := heap_ext hx77 b49
        replace f_32 := f_32.ext hx77
        replace f1_46 := f1_46.ext hx77
        replace f2_46 := f2_46.ext hx77
        replace f_62 := f_62.ext hx77
        replace f_67 := f_67.ext hx77
        refine W_v rfl rfl (V_mov rfl (et rfl)) ?_
        refine W_v rfl rfl (V_ext rfl (et rfl) rfl) ?_
        refine W_v rfl rfl (V_ext rfl (es rfl (et rfl)) rfl) ?_
        refine W_v rfl rfl (V_asg rfl (es rfl (et rfl))) ?_
        refine W_v rfl rfl (V_asg rfl (es rfl (et rfl))) ?_
        refine W_end ?_
        refine gen_Q (fun A80 hA80 => ?_)
        have hsz80 : SzN A80 218 := by rw [hA80]; infer_instance
        have hdf80 : A80.defers = [] := by rw [hA80]; simp only [df_put]; exact hdf75
        have l1_80 := lookE hA80 1 (es rfl (es rfl (es rfl (es rfl (es rfl (es rfl (es rfl (es rfl l1_75))))))))
        have l3_80 := lookE hA80 3 (es rfl (es rfl (es rfl (es rfl (es rfl (es rfl (es rfl (es rfl l3_75))))))))
        have l11_80 := lookE hA80 11 (es rfl (es rfl (es rfl (es rfl (es rfl (es rfl (es rfl (es rfl l11_75))))))))
        have l12_80 := lookE hA80 12 (es rfl (es rfl (es rfl (es rfl (es rfl (es rfl (es rfl (es rfl l12_75))))))))
        have l18_80 := lookE hA80 18 (es rfl (es rfl (es rfl (es rfl (es rfl (es rfl (es rfl (es rfl l18_75))))))))
        have l20_80 := lookE hA80 20 (es rfl (es rfl (es rfl (es rfl (es rfl (es rfl (es rfl (es rfl l20_75))))))))
        have l22_80 := lookE hA80 22 (es rfl (es rfl (es rfl (es rfl (es rfl (es rfl (es rfl (es rfl l22_75))))))))
        have l23_80 := lookE hA80 23 (es rfl (es rfl (es rfl (es rfl (es rfl (es rfl (es rfl (es rfl l23_75))))))))
        have l24_80 := lookE hA80 24 (es rfl (et rfl))
        have l25_80 := lookE hA80 25 (et rfl)
        clear hA80 hsz75 hdf75 l1_75 l3_75 l10_75 l11_75 l12_75 l16_75 l18_75 l20_75 l22_75 l23_75
        refine then_n (hK76 _ _ ?_)
        clear hK76
        refine wp_seq_k (fun K81 hK81 => ?_)
        -- region 15
        refine region_in ?_
        refine W_v rfl rfl (V_mov rfl l23_80) ?_
        refine W_v rfl rfl (V_neq rfl (et rfl) rfl) ?_
        refine W_sure (c' := false) rfl rfl (V_mov rfl (et rfl)) (by simp [hLa]) ?_
        refine W_v rfl (wanted_t rfl rfl (et rfl) (ez rfl)) (V_mov rfl (es rfl (es rfl (es rfl l25_80)))) ?_
        refine W_v rfl (wanted_t rfl rfl (es rfl (et rfl)) (ez rfl)) (V_neq rfl (et rfl) rfl) ?_
        refine W_v rfl rfl (V_pickF rfl (es rfl (es rfl (et rfl))) (et rfl)) ?_
        refine W_sure (c' := false) rfl rfl (V_mov rfl (et rfl)) (by simp [hLb.1]) ?_
        refine W_v rfl (wanted_t rfl rfl (et rfl) (ez rfl)) (V_mov rfl (es rfl (es rfl (es rfl (es rfl (es rfl (es rfl (es rfl l22_80)))))))) ?_
        refine W_v rfl (wanted_t rfl rfl (es rfl (et rfl)) (ez rfl)) (V_mov rfl (es rfl (es rfl (es rfl (es rfl (es rfl (es rfl (es rfl (es rfl l11_80))))))))) ?_
        refine W_v rfl (wanted_t rfl rfl (es rfl (es rfl (et rfl))) (ez rfl)) (V_neq rfl (es rfl (et rfl)) (et rfl)) ?_
        refine W_v rfl rfl (V_pickF rfl (es rfl (es rfl (es rfl (et rfl)))) (et rfl)) ?_
        refine W_sure (c' := false) rfl rfl (V_mov rfl (et rfl)) (by simp [hLa]) ?_
        refine W_v rfl (wanted_t rfl rfl (et rfl) (ez rfl)) (V_mov rfl (es rfl (es rfl (es rfl (es rfl (es rfl (es rfl (es rfl (es rfl (es rfl (es rfl (es rfl (es rfl l12_80))))))))))))) ?_
        refine W_v rfl (wanted_t rfl rfl (es rfl (et rfl)) (ez rfl)) (V_lenI rfl (et rfl) f_32.1 Try.underlying22) ?_
        refine W_v rfl (wanted_t rfl rfl (es rfl (es rfl (et rfl))) (ez rfl)) (V_gtr rfl (et rfl) rfl) ?_
        refine W_split rfl (wanted_t rfl rfl (es rfl (es rfl (es rfl (et rfl)))) (ez rfl)) (V_mov rfl (et rfl)) (fun c82 => ?_) (fun c82 => ?_)
        · skip
          refine W_v rfl (wanted_t rfl rfl (et rfl) (ez rfl)) (V_mov rfl (es rfl (es rfl (es rfl (es rfl (es rfl (es rfl (es rfl (es rfl (es rfl (es rfl (es rfl (es rfl (es rfl (es rfl (es rfl (es rfl l24_80))))))))))))))))) ?_
          refine W_v rfl (wanted_t rfl rfl (es rfl (et rfl)) (ez rfl)) (V_mov rfl (es rfl (es rfl (es rfl (es rfl (es rfl (es rfl (es rfl (es rfl (es rfl (es rfl (es rfl (es rfl (es rfl (es rfl (es rfl (es rfl (es rfl l12_80)))))))))))))))))) ?_
          refine W_v rfl (wanted_t rfl rfl (es rfl (es rfl (et rfl))) (ez rfl)) (V_mov rfl (es rfl (es rfl (es rfl (es rfl (es rfl (es rfl (es rfl (es rfl (es rfl (es rfl (es rfl (es rfl (es rfl (es rfl (es rfl (es rfl (es rfl (es rfl l12_80))))))))))))))))))) ?_
          refine W_v rfl (wanted_t rfl rfl (es rfl (es rfl (es rfl (et rfl)))) (ez rfl)) (V_lenI rfl (et rfl) f_32.1 Try.underlying22) ?_
          refine W_v rfl (wanted_t rfl rfl (es rfl (es rfl (es rfl (es rfl (et rfl))))) (ez rfl)) (V_sb rfl (et rfl) rfl (by omega) (by omega)) ?_
          have k83 : (((((carsS lo yo (tr % 2)).1).length : Int) - 1)).toNat < ((carsS lo yo (tr % 2)).1).length := by omega
          obtain ⟨B83, O83, C83, y83, hv83, hy83, hc83⟩ := at_ints f_32.1 ((((((carsS lo yo (tr % 2)).1).length : Int) - 1)).toNat) k83
          refine W_v rfl (wanted_t rfl rfl (es rfl (es rfl (es rfl (es rfl (es rfl (et rfl)))))) (ez rfl)) (V_idx ((((((carsS lo yo (tr % 2)).1).length : Int) - 1)).toNat) rfl (es rfl (es rfl (es rfl (et rfl)))) (et rfl) hv83 (by omega) k83 Try.underlying22 (by kernel_rfl)) ?_
          refine W_r rfl (wanted_t rfl rfl (es rfl (es rfl (es rfl (es rfl (es rfl (es rfl (et rfl))))))) (ez rfl)) (VR_ldC rfl (et rfl) hc83 Try.underlying3 rfl) ?_
          refine W_v rfl (wanted_t rfl rfl (es rfl (es rfl (es rfl (es rfl (es rfl (es rfl (es rfl (et rfl)))))))) (ez rfl)) (V_neq rfl (es rfl (es rfl (es rfl (es rfl (es rfl (es rfl (et rfl))))))) (et rfl)) ?_
          refine W_v rfl (wanted_t rfl rfl (es rfl (es rfl (es rfl (es rfl (es rfl (es rfl (es rfl (es rfl (es rfl (es rfl (es rfl (es rfl (et rfl))))))))))))) (ez rfl)) (V_pickT rfl (es rfl (es rfl (es rfl (es rfl (es rfl (es rfl (es rfl (es rfl (et rfl))))))))) (et rfl)) ?_
          refine W_v rfl rfl (V_pickF rfl (es rfl (es rfl (es rfl (es rfl (es rfl (es rfl (es rfl (es rfl (es rfl (es rfl (es rfl (es rfl (es rfl (et rfl)))))))))))))) (et rfl)) ?_
          refine W_sure (c' := false) rfl rfl (V_mov rfl (et rfl)) (by rw [decide_eq_false_iff_not]; simp only [ne_eq, Classical.not_not]; refine hLb.2 _ _ ?_ (orders_ix hcars (by assumption)); rw [← hcl]; omega) ?_
          refine W_v rfl (wanted_t rfl rfl (et rfl) (ez rfl)) (V_mov rfl (es rfl (es rfl (es rfl (es rfl (es rfl (es rfl (es rfl (es rfl (es rfl (es rfl (es rfl (es rfl (es rfl (es rfl (es rfl (es rfl (es rfl (es rfl (es rfl (es rfl (es rfl (es rfl (es rfl (es rfl (es rfl (es rfl (es rfl l18_80)))))))))))))))))))))))))))) ?_
          refine W_v rfl (wanted_t rfl rfl (es rfl (et rfl)) (ez rfl)) (V_mov rfl (es rfl (es rfl (es rfl (es rfl (es rfl (es rfl (es rfl (es rfl (es rfl (es rfl (es rfl (es rfl (es rfl (es rfl (es rfl (es rfl (es rfl (es rfl (es rfl (es rfl (es rfl (es rfl (es rfl (es rfl (es rfl (es rfl (es rfl (es rfl l11_80))))))))))))))))))))))))))))) ?_
          refine W_call rfl (wanted_t rfl rfl (es rfl (es rfl (et rfl))) (ez rfl)) rfl Try.func38 (by kernel_rfl) rfl (args2 (es rfl (et rfl)) (et rfl)) (without_c (n := (c % 24)) f_62.1 (by first | omega | (simp; omega) | (split <;> omega))) ?_
          rintro _ w84 ⟨r_84, rfl, f_84, hx84⟩
          refine ⟨_, rfl, ?_⟩
          have hb85 := hE79.size
          have hE86 := Ext.tr hE79 hx84
          replace b2 := heap_ext hx84 b2
          replace f_32 := f_32.ext hx84
          replace f_62 := f_62.ext hx84
          replace f_67 := f_67.ext hx84
          have ul_f_84 := fre_lo f_84.fre
          replace f_84 := f_84.base hb85
          refine W_v rfl (wanted_t rfl rfl (es rfl (es rfl (es rfl (et rfl)))) (ez rfl)) (V_mov rfl (es rfl (es rfl (es rfl (es rfl (es rfl (es rfl (es rfl (es rfl (es rfl (es rfl (es rfl (es rfl (es rfl (es rfl (es rfl (es rfl (es rfl (es rfl (es rfl (es rfl (es rfl (es rfl (es rfl (es rfl (es rfl (es rfl (es rfl (es rfl (es rfl (es rfl l12_80))))))))))))))))))))))))))))))) ?_
          refine W_call rfl (wanted_t rfl rfl (es rfl (es rfl (es rfl (es rfl (et rfl))))) (ez rfl)) rfl Try.func37 (by kernel_rfl) rfl (args2 (es rfl (et rfl)) (et rfl)) (Ints_c f_84.ints f_32.1 ) ?_
          rintro _ w87 ⟨rfl, hx87⟩
          refine ⟨_, rfl, ?_⟩
          have hb88 := hE86.size
          have ob_f_84_w84 := own_lt f_84
          have hE89 := Ext.tr hE86 hx87
          replace b2 := heap_ext hx87 b2
          replace f_32 := f_32.ext hx87
          replace f_62 := f_62.ext hx87
          replace f_67 := f_67.ext hx87
          replace f_84 := f_84.ext hx87
          refine W_v rfl (wanted_t rfl rfl (es rfl (es rfl (es rfl (es rfl (es rfl (et rfl)))))) (ez rfl)) (V_notd rfl (et rfl)) ?_
          refine W_v rfl rfl (V_pickF rfl (es rfl (es rfl (es rfl (es rfl (es rfl (es rfl (et rfl))))))) (et rfl)) ?_
          refine W_sure (c' := false) rfl rfl (V_mov rfl (et rfl)) (by simp [(hPa).2, (hPb).2, hcars, putF, wout_app hPa.1, wout_put hPa.1]) ?_
          refine W_v rfl (wanted_t rfl rfl (et rfl) (ez rfl)) (V_mov rfl (es rfl (es rfl (es rfl (es rfl (es rfl (es rfl (es rfl (es rfl (es rfl (es rfl (es rfl (es rfl (es rfl (es rfl (es rfl (es rfl (es rfl (es rfl (es rfl (es rfl (es rfl (es rfl (es rfl (es rfl (es rfl (es rfl (es rfl (es rfl (es rfl (es rfl (es rfl (es rfl (es rfl (es rfl (es rfl l20_80)))))))))))))))))))))))))))))))))))) ?_
          refine W_v rfl (wanted_t rfl rfl (es rfl (et rfl)) (ez rfl)) (V_mov rfl (es rfl (es rfl (es rfl (es rfl (es rfl (es rfl (es rfl (es rfl (es rfl (es rfl (es rfl (es rfl (es rfl (es rfl (es rfl (es rfl (es rfl (es rfl (es rfl (es rfl (es rfl (es rfl (es rfl (es rfl (es rfl (es rfl (es rfl (es rfl (es rfl (es rfl (es rfl (es rfl (es rfl (es rfl (es rfl (es rfl l11_80))))))))))))))))))))))))))))))))))))) ?_
          refine W_call rfl (wanted_t rfl rfl (es rfl (es rfl (et rfl))) (ez rfl)) rfl Try.func38 (by kernel_rfl) rfl (args2 (es rfl (et rfl)) (et rfl)) (without_c (n := (c % 24)) f_67.1 (by first | omega | (simp; omega) | (split <;> omega))) ?_
          rintro _ w90 ⟨r_90, rfl, f_90, hx90⟩
          refine ⟨_, rfl, ?_⟩
          have hb91 := hE89.size
          have ob_f_84_w87 := own_lt f_84
          have hE92 := Ext.tr hE89 hx90
          replace b2 := heap_ext hx90 b2
          replace f_32 := f_32.ext hx90
          replace f_62 := f_62.ext hx90
          replace f_67 := f_67.ext hx90
          replace f_84 := f_84.ext hx90
          have ul_f_90 := fre_lo f_90.fre
          replace f_90 := f_90.base hb91
          refine W_v rfl (wanted_t rfl rfl (es rfl (es rfl (es rfl (et rfl)))) (ez rfl)) (V_mov rfl (es rfl (es rfl (es rfl (es rfl (es rfl (es rfl (es rfl (es rfl (es rfl (es rfl (es rfl (es rfl (es rfl (es rfl (es rfl (es rfl (es rfl (es rfl (es rfl (es rfl (es rfl (es rfl (es rfl (es rfl (es rfl (es rfl (es rfl (es rfl (es rfl (es rfl (es rfl (es rfl (es rfl (es rfl (es rfl (es rfl (es rfl (es rfl l12_80))))))))))))))))))))))))))))))))))))))) ?_
          refine W_call rfl (wanted_t rfl rfl (es rfl (es rfl (es rfl (es rfl (et rfl))))) (ez rfl)) rfl Try.func37 (by kernel_rfl) rfl (args2 (es rfl (et rfl)) (et rfl)) (Ints_c f_90.ints f_32.1 ) ?_
          rintro _ w93 ⟨rfl, hx93⟩
          refine ⟨_, rfl, ?_⟩
          have hb94 := hE92.size
          have ob_f_84_w90 := own_lt f_84
          have ob_f_90_w90 := own_lt f_90
          have hE95 := Ext.tr hE92 hx93
          replace b2 := heap_ext hx93 b2
          replace f_32 := f_32.ext hx93
          replace f_62 := f_62.ext hx93
          replace f_67 := f_67.ext hx93
          replace f_84 := f_84.ext hx93
          replace f_90 := f_90.ext hx93
          refine W_v rfl (wanted_t rfl rfl (es rfl (es rfl (es rfl (es rfl (es rfl (et rfl)))))) (ez rfl)) (V_notd rfl (et rfl)) ?_
          refine W_v rfl rfl (V_pickF rfl (es rfl (es rfl (es rfl (es rfl (es rfl (es rfl (et rfl))))))) (et rfl)) ?_
          refine W_end ?_
          refine gen_Q (fun A96 hA96 => ?_)
          have hsz96 : SzN A96 218 := by rw [hA96]; infer_instance
          have hdf96 : A96.defers = [] := by rw [hA96]; simp only [df_put]; exact hdf80
          have l1_96 := lookE hA96 1 (es rfl (es rfl (es rfl (es rfl (es rfl (es rfl (es rfl (es rfl (es rfl (es rfl (es rfl (es rfl (es rfl (es rfl (es rfl (es rfl (es rfl (es rfl (es rfl (es rfl (es rfl (es rfl (es rfl (es rfl (es rfl (es rfl (es rfl (es rfl (es rfl (es rfl (es rfl (es rfl (es rfl (es rfl (es rfl (es rfl (es rfl (es rfl (es rfl (es rfl (es rfl (es rfl l1_80))))))))))))))))))))))))))))))))))))))))))
          have l3_96 := lookE hA96 3 (es rfl (es rfl (es rfl (es rfl (es rfl (es rfl (es rfl (es rfl (es rfl (es rfl (es rfl (es rfl (es rfl (es rfl (es rfl (es rfl (es rfl (es rfl (es rfl (es rfl (es rfl (es rfl (es rfl (es rfl (es rfl (es rfl (es rfl (es rfl (es rfl (es rfl (es rfl (es rfl (es rfl (es rfl (es rfl (es rfl (es rfl (es rfl (es rfl (es rfl (es rfl (es rfl l3_80))))))))))))))))))))))))))))))))))))))))))
          have l147_96 := lookE hA96 147 (et rfl)
          clear hA96 hsz80 hdf80 l1_80 l3_80 l11_80 l12_80 l18_80 l20_80 l22_80 l23_80 l24_80 l25_80
          refine then_n (hK81 _ _ ?_)
          clear hK81
          refine cond_not l147_96 (by simp [(hPa).2, (hPb).2, hcars, putF, wout_app hPa.1, wout_put hPa.1]) ?_
          refine wp_skip ?_
          refine then_n (hK57 _ _ ?_)
          clear hK57
          refine wp_seq_k (fun K97 hK97 => ?_)
          -- region 17
          refine region_in ?_
          refine W_r rfl rfl (VR_ldA rfl l3_96 b2 Try.underlying24 rfl (by kernel_rfl)) ?_
          refine W_v rfl rfl (V_mov rfl (es rfl l1_96)) ?_
          refine W_v rfl rfl (V_rem rfl (et rfl) rfl (by omega) (by omega) (wrap_u8 (by omega) (by omega))) ?_
          refine W_v rfl rfl (V_eql rfl (et rfl) rfl) ?_
          refine W_call rfl rfl rfl Try.func26 (by kernel_rfl) rfl (args2 (es rfl (es rfl (es rfl (et rfl)))) (et rfl)) (Relink_c (bf := decide ((tr % 2) = 0)) (h_lv.ext hE95) (h_yv.ext hE95) (by first | omega | (simp; done) | (simp; omega)) (by first | omega | (simp; done) | (simp; omega))) ?_
          rintro _ w98 ⟨v1_98, v2_98, rfl, f1_98, f2_98, hx98⟩
          refine ⟨_, rfl, ?_⟩
          have hb99 := hE95.size
          have hE100 := Ext.tr hE95 hx98
          replace b2 := heap_ext hx98 b2
          have ul_f1_98 := fre_lo f1_98
          replace f1_98 := f1_98.base hb99
          have ul_f2_98 := fre_lo f2_98
          replace f2_98 := f2_98.base hb99
          refine W_v rfl rfl (V_mov rfl (et rfl)) ?_
          refine W_v rfl rfl (V_ext rfl (et rfl) rfl) ?_
          refine W_v rfl rfl (V_ext rfl (es rfl (et rfl)) rfl) ?_
          refine W_v rfl rfl (V_ext rfl (es rfl (es rfl (et rfl))) rfl) ?_
          refine W_alloc (z := .agg #[.slice none 0 0, .slice none 0 0]) (cs := #[.slice none 0 0, .slice none 0 0]) rfl rfl rfl (by kernel_rfl) rfl (fun g101 w101 hg101 hx101 b101 => ?_)
          have o2_101 : g2 < g101 := hg101 ▸ lt_size b2
          have oB_101 : w.heap.size ≤ g101 := hg101 ▸ hE100.size
          have hE102 := Ext.tr hE100 hx101
          replace b2 := heap_ext hx101 b2
          replace f1_98 := f1_98.ext hx101
          replace f2_98 := f2_98.ext hx101
          refine W_stA rfl rfl rfl (et rfl) (es rfl (es rfl (es rfl (et rfl)))) (by simp only [List.all_toArray, List.all_cons, List.all_nil, one_ints f1_98.1, one_ints f2_98.1] <;> rfl) b101 (by rfl) (by kernel_rfl) (fun w103 ht103 hb103 => ?_)
          have hE104 := ext_tch hE102 ht103 oB_101
          replace f1_98 := f1_98.tch ht103 b101 rfl
          replace f2_98 := f2_98.tch ht103 b101 rfl
          replace b2 := box_tch b2 ht103 (Nat.ne_of_lt o2_101)
          replace b101 := hb103
          refine W_v rfl rfl (V_asg rfl (es rfl (es rfl (et rfl)))) ?_
          refine W_v rfl rfl (V_asg rfl (es rfl (es rfl (et rfl)))) ?_
          refine W_end ?_
          refine gen_Q (fun A105 hA105 => ?_)
          have hsz105 : SzN A105 218 := by rw [hA105]; infer_instance
          have hdf105 : A105.defers = [] := by rw [hA105]; simp only [df_put]; exact hdf96
          have l3_105 := lookE hA105 3 (es rfl (es rfl (es rfl (es rfl (es rfl (es rfl (es rfl (es rfl (es rfl (es rfl (es rfl (es rfl l3_96))))))))))))
          have l26_105 := lookE hA105 26 (es rfl (es rfl (et rfl)))
          have l27_105 := lookE hA105 27 (es rfl (et rfl))
          have l28_105 := lookE hA105 28 (et rfl)
          clear hA105 hsz96 hdf96 l1_96 l3_96 l147_96
          refine then_n (hK97 _ _ ?_)
          clear hK97
          refine wp_seq_k (fun K106 hK106 => ?_)
          refine wp_seq_k (fun K107 hK107 => ?_)
          -- region 18
          refine region_mono 22 22 [none, none, none, none, none, none, none, none, some (⟨fun w v => ∃ r_s, v = r_s ∧ OwnI w w103.heap.size 3 (r_s) (wout lo (relinkS lo yo (decide ((tr % 2) = 0))).car), fun _ _ _ he ⟨r_s, h, f_s⟩ => ⟨r_s, h, f_s.ext he⟩⟩), some (⟨fun w v => v = .bool (decide (((relinkS lo yo (decide ((tr % 2) = 0))).lo) = (wout lo (relinkS lo yo (decide ((tr % 2) = 0))).car))), fun _ _ _ he h => h⟩), none, none, none, none, none, some (⟨fun w v => ∃ r_s, v = r_s ∧ OwnI w w103.heap.size 3 (r_s) (wout ((relinkS lo yo (decide ((tr % 2) = 0))).yo) (relinkS lo yo (decide ((tr % 2) = 0))).car), fun _ _ _ he ⟨r_s, h, f_s⟩ => ⟨r_s, h, f_s.ext he⟩⟩), none, none, some (⟨fun w v => v = .bool (decide ((wout ((relinkS lo yo (decide ((tr % 2) = 0))).yo) (relinkS lo yo (decide ((tr % 2) = 0))).car) = yo)), fun _ _ _ he h => h⟩)] (by kernel_rfl) (by kernel_rfl) ?_
          refine C_v rfl rfl (V_mov rfl l28_105) rfl rfl ?_
          refine C_v rfl rfl (V_eql rfl (et rfl) rfl) rfl rfl ?_
          refine C_split rfl rfl (V_mov rfl (et rfl)) rfl rfl (fun c108 => ?_) (fun c108 => ?_)
          · skip
            refine C_v rfl (wanted_t rfl rfl (et rfl) (ez rfl)) (V_fa (off' := 0) rfl (es rfl (es rfl (es rfl l26_105))) Try.underlying24 rfl (by decide) rfl) rfl rfl ?_
            refine C_r rfl (wanted_t rfl rfl (es rfl (et rfl)) (ez rfl)) (by kernel_rfl) (fun wx hx hF => (VR_ldC rfl (et rfl) (cell_box (v := v1_98) (heap_ext hx b101) rfl) Try.underlying22 rfl)) rfl rfl ?_
            refine C_v rfl (wanted_t rfl rfl (es rfl (es rfl (et rfl))) (ez rfl)) (V_fa (off' := 0) rfl (es rfl (es rfl (es rfl (es rfl (es rfl l3_105))))) Try.underlying24 rfl (by decide) rfl) rfl rfl ?_
            refine C_r rfl (wanted_t rfl rfl (es rfl (es rfl (es rfl (et rfl)))) (ez rfl)) (by kernel_rfl) (fun wx hx hF => (VR_ldC rfl (et rfl) (cell_box (v := lv) (heap_ext hx b2) rfl) Try.underlying22 rfl)) rfl rfl ?_
            refine C_v rfl (wanted_t rfl rfl (es rfl (es rfl (es rfl (es rfl (et rfl))))) (ez rfl)) (V_mov rfl (es rfl (es rfl (es rfl (es rfl (es rfl (es rfl (es rfl l27_105)))))))) rfl rfl ?_
            refine C_call rfl (wanted_t rfl rfl (es rfl (es rfl (es rfl (es rfl (es rfl (et rfl)))))) (ez rfl)) rfl Try.func38 (by kernel_rfl) rfl (args2 (es rfl (et rfl)) (et rfl)) rfl rfl (fun wx hx hF => ?_) (fun u109 hu109 => ?_)
            · refine (without_c (n := (relinkS lo yo (decide ((tr % 2) = 0))).car) (h_lv.ext (Ext.tr hE104 hx)) (by first | omega | (simp; omega) | (split <;> omega))).mono ?_
              rintro _ w109 ⟨r_109, rfl, f_109, hz⟩
              exact ⟨_, rfl, hz, _, rfl, f_109.base hx.size⟩
            obtain ⟨_, _, r_109, rfl, _⟩ := hu109
            refine C_call rfl (wanted_t rfl rfl (es rfl (es rfl (es rfl (es rfl (es rfl (es rfl (et rfl))))))) (ez rfl)) rfl Try.func37 (by kernel_rfl) rfl (args2 (es rfl (es rfl (es rfl (es rfl (et rfl))))) (et rfl)) rfl rfl (fun wx hx hF => ?_) (fun u110 hu110 => ?_)
            · obtain ⟨r_109q, hq109, f_109⟩ := ancF_get hF (by kernel_rfl); cases hq109; refine (Ints_c (f1_98.1.ext hx) f_109.ints ).mono ?_
              rintro _ w110 ⟨rfl, hz⟩
              exact ⟨_, rfl, hz, rfl⟩
            obtain ⟨_, _, rfl⟩ := hu110
            refine C_v rfl (wanted_t rfl rfl (es rfl (es rfl (es rfl (es rfl (es rfl (es rfl (es rfl (et rfl)))))))) (ez rfl)) (V_notd rfl (et rfl)) rfl rfl ?_
            refine C_sure (c' := false) rfl (wanted_t rfl rfl (es rfl (es rfl (es rfl (es rfl (es rfl (es rfl (es rfl (es rfl (et rfl))))))))) (ez rfl)) (V_mov rfl (et rfl)) (by simp [(orders_R hgood c108 true).1, (orders_R hgood c108 true).2]) rfl rfl ?_
            refine C_v rfl (wanted_t rfl rfl (et rfl) (ez rfl)) (V_fa (off' := 1) rfl (es rfl (es rfl (es rfl (es rfl (es rfl (es rfl (es rfl (es rfl (es rfl (es rfl (es rfl (es rfl l26_105)))))))))))) Try.underlying24 rfl (by decide) rfl) rfl rfl ?_
            refine C_r rfl (wanted_t rfl rfl (es rfl (et rfl)) (ez rfl)) (by kernel_rfl) (fun wx hx hF => (VR_ldC rfl (et rfl) (cell_box (v := v2_98) (heap_ext hx b101) rfl) Try.underlying22 rfl)) rfl rfl ?_
            refine C_v rfl (wanted_t rfl rfl (es rfl (es rfl (et rfl))) (ez rfl)) (V_mov rfl (es rfl (es rfl (es rfl (es rfl (es rfl (es rfl (es rfl (es rfl (es rfl (es rfl (es rfl (es rfl (es rfl (es rfl l27_105))))))))))))))) rfl rfl ?_
            refine C_call rfl (wanted_t rfl rfl (es rfl (es rfl (es rfl (et rfl)))) (ez rfl)) rfl Try.func38 (by kernel_rfl) rfl (args2 (es rfl (et rfl)) (et rfl)) rfl rfl (fun wx hx hF => ?_) (fun u111 hu111 => ?_)
            · refine (without_c (n := (relinkS lo yo (decide ((tr % 2) = 0))).car) (f2_98.1.ext hx) (by first | omega | (simp; omega) | (split <;> omega))).mono ?_
              rintro _ w111 ⟨r_111, rfl, f_111, hz⟩
              exact ⟨_, rfl, hz, _, rfl, f_111.base hx.size⟩
            obtain ⟨_, _, r_111, rfl, _⟩ := hu111
            refine C_v rfl (wanted_t rfl rfl (es rfl (es rfl (es rfl (es rfl (et rfl))))) (ez rfl)) (V_fa (off' := 1) rfl (es rfl (es rfl (es rfl (es rfl (es rfl (es rfl (es rfl (es rfl (es rfl (es rfl (es rfl (es rfl (es rfl (es rfl (es rfl (es rfl l3_105)))))))))))))))) Try.underlying24 rfl (by decide) rfl) rfl rfl ?_
            refine C_r rfl (wanted_t rfl rfl (es rfl (es rfl (es rfl (es rfl (es rfl (et rfl)))))) (ez rfl)) (by kernel_rfl) (fun wx hx hF => (VR_ldC rfl (et rfl) (cell_box (v := yv) (heap_ext hx b2) rfl) Try.underlying22 rfl)) rfl rfl ?_
            refine C_call rfl (wanted_t rfl rfl (es rfl (es rfl (es rfl (es rfl (es rfl (es rfl (et rfl))))))) (ez rfl)) rfl Try.func37 (by kernel_rfl) rfl (args2 (es rfl (es rfl (et rfl))) (et rfl)) rfl rfl (fun wx hx hF => ?_) (fun u112 hu112 => ?_)
            · obtain ⟨r_111q, hq111, f_111⟩ := ancF_get hF (by kernel_rfl); cases hq111; refine (Ints_c f_111.ints (h_yv.ext (Ext.tr hE104 hx)) ).mono ?_
              rintro _ w112 ⟨rfl, hz⟩
              exact ⟨_, rfl, hz, rfl⟩
            obtain ⟨_, _, rfl⟩ := hu112
            refine C_v rfl (wanted_t rfl rfl (es rfl (es rfl (es rfl (es rfl (es rfl (es rfl (es rfl (et rfl)))))))) (ez rfl)) (V_notd rfl (et rfl)) rfl rfl ?_
            refine C_v rfl (wanted_t rfl rfl (es rfl (es rfl (es rfl (es rfl (es rfl (es rfl (es rfl (es rfl (es rfl (es rfl (es rfl (es rfl (es rfl (es rfl (es rfl (es rfl (es rfl (et rfl)))))))))))))))))) (ez rfl)) (V_pickF rfl (es rfl (es rfl (es rfl (es rfl (es rfl (es rfl (es rfl (es rfl (et rfl))))))))) (et rfl)) rfl rfl ?_
            refine C_v rfl rfl (V_pickT rfl (es rfl (es rfl (es rfl (es rfl (es rfl (es rfl (es rfl (es rfl (es rfl (es rfl (es rfl (es rfl (es rfl (es rfl (es rfl (es rfl (es rfl (es rfl (et rfl))))))))))))))))))) (et rfl)) rfl rfl ?_
            refine Z_none (Nat.le_refl _) (Nat.le_refl _) (fun w113 hz113 hF113 => ?_)
            obtain ⟨r_109q, hq109, f_109⟩ := all_get (all_rest (all_rest (all_rest hF113))); cases hq109
            obtain hq110 := all_get (all_rest (all_rest hF113)); cases hq110
            obtain ⟨r_111q, hq111, f_111⟩ := all_get (all_rest hF113); cases hq111
            obtain hq112 := all_get hF113; cases hq112
            clear hF113
            have hR113 := hE104.size
            have hE114 := Ext.tr hE104 hz113
            replace b2 := heap_ext hz113 b2
            replace b101 := heap_ext hz113 b101
            replace f1_98 := f1_98.ext hz113
            replace f2_98 := f2_98.ext hz113
            have ul_f_109 := fre_lo f_109.fre
            replace f_109 := f_109.base hR113
            have ul_f_111 := fre_lo f_111.fre
            replace f_111 := f_111.base hR113
            refine gen_Q (fun A115 hA115 => ?_)
            have hsz115 : SzN A115 218 := by rw [hA115]; infer_instance
            have hdf115 : A115.defers = [] := by rw [hA115]; simp only [df_put]; exact hdf105
            have l3_115 := lookE hA115 3 (es rfl (es rfl (es rfl (es rfl (es rfl (es rfl (es rfl (es rfl (es rfl (es rfl (es rfl (es rfl (es rfl (es rfl (es rfl (es rfl (es rfl (es rfl (es rfl (es rfl (es rfl (es rfl l3_105))))))))))))))))))))))
            have l178_115 := lookE hA115 178 (et rfl)
            clear hA115 hsz105 hdf105 l3_105 l26_105 l27_105 l28_105
            refine then_n (hK107 _ _ ?_)
            clear hK107
            refine cond_not l178_115 (by simp [(orders_R hgood c108 true).1, (orders_R hgood c108 true).2]) ?_
            refine wp_skip ?_
            refine then_n (hK106 _ _ ?_)
            clear hK106
            refine wp_seq_k (fun K116 hK116 => ?_)
            -- region 20
            refine region_in ?_
            refine W_r rfl rfl (VR_ldA rfl l3_115 b2 Try.underlying24 rfl (by kernel_rfl)) ?_
            refine W_call rfl rfl rfl Try.func27 (by kernel_rfl) rfl (args1 (et rfl)) (Clear_c (h_lv.ext hE114) (h_yv.ext hE114) ) ?_
            rintro _ w117 ⟨v1_117, v2_117, u_117, rfl, f1_117, f2_117, f3_117, hx117⟩
            refine ⟨_, rfl, ?_⟩
            have hb118 := hE114.size
            have hE119 := Ext.tr hE114 hx117
            replace b2 := heap_ext hx117 b2
            have ul_f1_117 := fre_lo f1_117
            replace f1_117 := f1_117.base hb118
            have ul_f2_117 := fre_lo f2_117
            replace f2_117 := f2_117.base hb118
            have ul_f3_117 := fre_lo f3_117
            replace f3_117 := f3_117.base hb118
            refine W_v rfl rfl (V_mov rfl (et rfl)) ?_
            refine W_v rfl rfl (V_ext rfl (et rfl) rfl) ?_
            refine W_v rfl rfl (V_ext rfl (es rfl (et rfl)) rfl) ?_
            refine W_v rfl rfl (V_ext rfl (es rfl (es rfl (et rfl))) rfl) ?_
            refine W_alloc (z := .agg #[.slice none 0 0, .slice none 0 0]) (cs := #[.slice none 0 0, .slice none 0 0]) rfl rfl rfl (by kernel_rfl) rfl (fun g120 w120 hg120 hx120 b120 => ?_)
            have o2_120 : g2 < g120 := hg120 ▸ lt_size b2
            have oB_120 : w.heap.size ≤ g120 := hg120 ▸ hE119.size
            have hE121 := Ext.tr hE119 hx120
            replace b2 := heap_ext hx120 b2
            replace f1_117 := f1_117.ext hx120
            replace f2_117 := f2_117.ext hx120
            replace f3_117 := f3_117.ext hx120
            refine W_stA rfl rfl rfl (et rfl) (es rfl (es rfl (es rfl (et rfl)))) (by simp only [List.all_toArray, List.all_cons, List.all_nil, one_ints f1_117.1, one_ints f2_117.1] <;> rfl) b120 (by rfl) (by kernel_rfl) (fun w122 ht122 hb122 => ?_)
            have hE123 := ext_tch hE121 ht122 oB_120
            replace f1_117 := f1_117.tch ht122 b120 rfl
            replace f2_117 := f2_117.tch ht122 b120 rfl
            replace f3_117 := f3_117.tch ht122 b120 rfl
            replace b2 := box_tch b2 ht122 (Nat.ne_of_lt o2_120)
            replace b120 := hb122
            refine W_v rfl rfl (V_asg rfl (es rfl (es rfl (et rfl)))) ?_
            refine W_v rfl rfl (V_asg rfl (es rfl (es rfl (et rfl)))) ?_
            refine W_end ?_
            refine gen_Q (fun A124 hA124 => ?_)
            have hsz124 : SzN A124 218 := by rw [hA124]; infer_instance
            have hdf124 : A124.defers = [] := by rw [hA124]; simp only [df_put]; exact hdf115
            have l3_124 := lookE hA124 3 (es rfl (es rfl (es rfl (es rfl (es rfl (es rfl (es rfl (es rfl (es rfl l3_115)))))))))
            have l29_124 := lookE hA124 29 (es rfl (es rfl (et rfl)))
            have l30_124 := lookE hA124 30 (es rfl (et rfl))
            have l31_124 := lookE hA124 31 (et rfl)
            clear hA124 hsz115 hdf115 l3_115 l178_115
            refine then_n (hK116 _ _ ?_)
            clear hK116
            refine wp_seq_k (fun K125 hK125 => ?_)
            -- region 21
            refine region_in ?_
            refine W_r rfl rfl (VR_ldA rfl l29_124 b120 Try.underlying24 rfl (by kernel_rfl)) ?_
            refine W_call rfl rfl rfl Try.func34 (by kernel_rfl) rfl (args1 (et rfl)) (Turn_c f1_117.1 f2_117.1 ) ?_
            rintro _ w126 ⟨v1_126, v2_126, rfl, f1_126, f2_126, hx126⟩
            refine ⟨_, rfl, ?_⟩
            have hb127 := hE123.size
            have hE128 := Ext.tr hE123 hx126
            replace b2 := heap_ext hx126 b2
            replace b120 := heap_ext hx126 b120
            replace f1_117 := f1_117.ext hx126
            replace f2_117 := f2_117.ext hx126
            replace f3_117 := f3_117.ext hx126
            have ul_f1_126 := fre_lo f1_126
            replace f1_126 := f1_126.base hb127
            have ul_f2_126 := fre_lo f2_126
            replace f2_126 := f2_126.base hb127
            refine W_v rfl rfl (V_mov rfl (et rfl)) ?_
            refine W_v rfl rfl (V_ext rfl (et rfl) rfl) ?_
            refine W_v rfl rfl (V_ext rfl (es rfl (et rfl)) rfl) ?_
            refine W_alloc (z := .agg #[.slice none 0 0, .slice none 0 0]) (cs := #[.slice none 0 0, .slice none 0 0]) rfl rfl rfl (by kernel_rfl) rfl (fun g129 w129 hg129 hx129 b129 => ?_)
            have o2_129 : g2 < g129 := hg129 ▸ lt_size b2
            have o120_129 : g120 < g129 := hg129 ▸ lt_size b120
            have oB_129 : w.heap.size ≤ g129 := hg129 ▸ hE128.size
            have hE130 := Ext.tr hE128 hx129
            replace b2 := heap_ext hx129 b2
            replace b120 := heap_ext hx129 b120
            replace f1_117 := f1_117.ext hx129
            replace f2_117 := f2_117.ext hx129
            replace f3_117 := f3_117.ext hx129
            replace f1_126 := f1_126.ext hx129
            replace f2_126 := f2_126.ext hx129
            refine W_stA rfl rfl rfl (et rfl) (es rfl (es rfl (et rfl))) (by simp only [List.all_toArray, List.all_cons, List.all_nil, one_ints f1_126.1, one_ints f2_126.1] <;> rfl) b129 (by rfl) (by kernel_rfl) (fun w131 ht131 hb131 => ?_)
            have hE132 := ext_tch hE130 ht131 oB_129
            replace f1_117 := f1_117.tch ht131 b129 rfl
            replace f2_117 := f2_117.tch ht131 b129 rfl
            replace f3_117 := f3_117.tch ht131 b129 rfl
            replace f1_126 := f1_126.tch ht131 b129 rfl
            replace f2_126 := f2_126.tch ht131 b129 rfl
            replace b2 := box_tch b2 ht131 (Nat.ne_of_lt o2_129)
            replace b120 := box_tch b120 ht131 (Nat.ne_of_lt o120_129)
            replace b129 := hb131
            refine W_v rfl rfl (V_asg rfl (es rfl (et rfl))) ?_
            refine W_end ?_
            refine gen_Q (fun A133 hA133 => ?_)
            have hsz133 : SzN A133 218 := by rw [hA133]; infer_instance
            have hdf133 : A133.defers = [] := by rw [hA133]; simp only [df_put]; exact hdf124
            have l3_133 := lookE hA133 3 (es rfl (es rfl (es rfl (es rfl (es rfl (es rfl (es rfl l3_124)))))))
            have l30_133 := lookE hA133 30 (es rfl (es rfl (es rfl (es rfl (es rfl (es rfl (es rfl l30_124)))))))
            have l31_133 := lookE hA133 31 (es rfl (es rfl (es rfl (es rfl (es rfl (es rfl (es rfl l31_124)))))))
            have l32_133 := lookE hA133 32 (es rfl (et rfl))
            have l33_133 := lookE hA133 33 (et rfl)
            clear hA133 hsz124 hdf124 l3_124 l29_124 l30_124 l31_124
            refine then_n (hK125 _ _ ?_)
            clear hK125
            refine wp_seq_k (fun K134 hK134 => ?_)
            -- region 22
            refine region_in ?_
            refine W_v rfl rfl (V_mov rfl l31_133) ?_
            refine W_v rfl rfl (V_eql rfl (et rfl) rfl) ?_
            refine W_sure (c' := true) rfl rfl (V_mov rfl (et rfl)) (by simp [hC]) ?_
            refine W_v rfl (wanted_t rfl rfl (et rfl) (ez rfl)) (V_mov rfl (es rfl (es rfl (es rfl l33_133)))) ?_
            refine W_v rfl (wanted_t rfl rfl (es rfl (et rfl)) (ez rfl)) (V_eql rfl (et rfl) rfl) ?_
            refine W_v rfl rfl (V_pickT rfl (es rfl (es rfl (et rfl))) (et rfl)) ?_
            refine W_sure (c' := true) rfl rfl (V_mov rfl (et rfl)) (by simp [hC, hTn]) ?_
            refine W_v rfl (wanted_t rfl rfl (et rfl) (ez rfl)) (V_mov rfl (es rfl (es rfl (es rfl (es rfl (es rfl (es rfl (es rfl l30_133)))))))) ?_
            refine W_v rfl (wanted_t rfl rfl (es rfl (et rfl)) (ez rfl)) (V_fa (off' := 0) rfl (es rfl (es rfl (es rfl (es rfl (es rfl (es rfl (es rfl (es rfl l3_133)))))))) Try.underlying24 rfl (by decide) rfl) ?_
            refine W_r rfl (wanted_t rfl rfl (es rfl (es rfl (et rfl))) (ez rfl)) (VR_ldC rfl (et rfl) (cell_box (v := lv) b2 rfl) Try.underlying22 rfl) ?_
            refine W_call rfl (wanted_t rfl rfl (es rfl (es rfl (es rfl (et rfl)))) (ez rfl)) rfl Try.func37 (by kernel_rfl) rfl (args2 (es rfl (es rfl (et rfl))) (et rfl)) (Ints_c f3_117.1 (h_lv.ext hE132) ) ?_
            rintro _ w135 ⟨rfl, hx135⟩
            refine ⟨_, rfl, ?_⟩
            have hb136 := hE132.size
            have hE137 := Ext.tr hE132 hx135
            replace b2 := heap_ext hx135 b2
            replace b129 := heap_ext hx135 b129
            replace f3_117 := f3_117.ext hx135
            replace f1_126 := f1_126.ext hx135
            replace f2_126 := f2_126.ext hx135
            refine W_v rfl rfl (V_pickT rfl (es rfl (es rfl (es rfl (es rfl (et rfl))))) (et rfl)) ?_
            refine W_sure (c' := true) rfl rfl (V_mov rfl (et rfl)) (by simp [hC]) ?_
            refine W_v rfl (wanted_t rfl rfl (et rfl) (ez rfl)) (V_fa (off' := 0) rfl (es rfl (es rfl (es rfl (es rfl (es rfl (es rfl (es rfl (es rfl (es rfl (es rfl (es rfl (es rfl (es rfl l32_133))))))))))))) Try.underlying24 rfl (by decide) rfl) ?_
            refine W_r rfl (wanted_t rfl rfl (es rfl (et rfl)) (ez rfl)) (VR_ldC rfl (et rfl) (cell_box (v := v1_126) b129 rfl) Try.underlying22 rfl) ?_
            refine W_v rfl (wanted_t rfl rfl (es rfl (es rfl (et rfl))) (ez rfl)) (V_fa (off' := 1) rfl (es rfl (es rfl (es rfl (es rfl (es rfl (es rfl (es rfl (es rfl (es rfl (es rfl (es rfl (es rfl (es rfl (es rfl (es rfl l3_133))))))))))))))) Try.underlying24 rfl (by decide) rfl) ?_
            refine W_r rfl (wanted_t rfl rfl (es rfl (es rfl (es rfl (et rfl)))) (ez rfl)) (VR_ldC rfl (et rfl) (cell_box (v := yv) b2 rfl) Try.underlying22 rfl) ?_
            refine W_call rfl (wanted_t rfl rfl (es rfl (es rfl (es rfl (es rfl (et rfl))))) (ez rfl)) rfl Try.func37 (by kernel_rfl) rfl (args2 (es rfl (es rfl (et rfl))) (et rfl)) (Ints_c f1_126.1 (h_yv.ext hE137) ) ?_
            rintro _ w138 ⟨rfl, hx138⟩
            refine ⟨_, rfl, ?_⟩
            have hb139 := hE137.size
            have hE140 := Ext.tr hE137 hx138
            replace b2 := heap_ext hx138 b2
            replace b129 := heap_ext hx138 b129
            replace f3_117 := f3_117.ext hx138
            replace f1_126 := f1_126.ext hx138
            replace f2_126 := f2_126.ext hx138
            refine W_v rfl rfl (V_pickT rfl (es rfl (es rfl (es rfl (es rfl (es rfl (et rfl)))))) (et rfl)) ?_
            refine W_sure (c' := true) rfl rfl (V_mov rfl (et rfl)) (by simp [hC, hTn]) ?_
            refine W_v rfl (wanted_t rfl rfl (et rfl) (ez rfl)) (V_fa (off' := 1) rfl (es rfl (es rfl (es rfl (es rfl (es rfl (es rfl (es rfl (es rfl (es rfl (es rfl (es rfl (es rfl (es rfl (es rfl (es rfl (es rfl (es rfl (es rfl (es rfl (es rfl l32_133)))))))))))))))))))) Try.underlying24 rfl (by decide) rfl) ?_
            refine W_r rfl (wanted_t rfl rfl (es rfl (et rfl)) (ez rfl)) (VR_ldC rfl (et rfl) (cell_box (v := v2_126) b129 rfl) Try.underlying22 rfl) ?_
            refine W_v rfl (wanted_t rfl rfl (es rfl (es rfl (et rfl))) (ez rfl)) (V_lenI rfl (et rfl) f2_126.1 Try.underlying22) ?_
            refine W_v rfl (wanted_t rfl rfl (es rfl (es rfl (es rfl (et rfl)))) (ez rfl)) (V_eql rfl (et rfl) rfl) ?_
            refine W_v rfl rfl (V_pickT rfl (es rfl (es rfl (es rfl (es rfl (et rfl))))) (et rfl)) ?_
            refine W_sure (c' := true) rfl rfl (V_mov rfl (et rfl)) (by simp [hC, hTn]) ?_
            refine W_call rfl (wanted_t rfl rfl (et rfl) (ez rfl)) rfl Try.func12 (by kernel_rfl) rfl (args0) (awake_c  ) ?_
            rintro _ w141 ⟨rfl, hx141⟩
            refine ⟨_, rfl, ?_⟩
            have hb142 := hE140.size
            have hE143 := Ext.tr hE140 hx141
            replace b2 := heap_ext hx141 b2
            replace b129 := heap_ext hx141 b129
            replace f3_117 := f3_117.ext hx141
            replace f1_126 := f1_126.ext hx141
            replace f2_126 := f2_126.ext hx141
            refine W_v rfl rfl (V_pickT rfl (es rfl (et rfl)) (et rfl)) ?_
            refine W_v rfl rfl (V_asg rfl (et rfl)) ?_
            refine W_end ?_
            refine gen_Q (fun A144 hA144 => ?_)
            have hsz144 : SzN A144 218 := by rw [hA144]; infer_instance
            have hdf144 : A144.defers = [] := by rw [hA144]; simp only [df_put]; exact hdf133
            have l6_144 := lookE hA144 6 (et rfl)
            clear hA144 hsz133 hdf133 l3_133 l30_133 l31_133 l32_133 l33_133
            refine then_n (hK134 _ _ ?_)
            clear hK134
            refine wp_ret ?_
            refine ret_in (results_1 Try.results9 (rv_tmp l6_144)) hdf144 ?_
            -- leaf FFTTT
            exact ⟨rfl, hE143⟩
          · skip
            refine C_off rfl (wanted_f rfl rfl (et rfl) (ez rfl) rfl) rfl ?_
            refine C_off rfl (wanted_f rfl rfl (es rfl (et rfl)) (ez rfl) rfl) rfl ?_
            refine C_off rfl (wanted_f rfl rfl (es rfl (es rfl (et rfl))) (ez rfl) rfl) rfl ?_
            refine C_off rfl (wanted_f rfl rfl (es rfl (es rfl (es rfl (et rfl)))) (ez rfl) rfl) rfl ?_
            refine C_off rfl (wanted_f rfl rfl (es rfl (es rfl (es rfl (es rfl (et rfl))))) (ez rfl) rfl) rfl ?_
            refine C_off rfl (wanted_f rfl rfl (es rfl (es rfl (es rfl (es rfl (es rfl (et rfl)))))) (ez rfl) rfl) rfl ?_
            refine C_off rfl (wanted_f rfl rfl (es rfl (es rfl (es rfl (es rfl (es rfl (es rfl (et rfl))))))) (ez rfl) rfl) rfl ?_
            refine C_off rfl (wanted_f rfl rfl (es rfl (es rfl (es rfl (es rfl (es rfl (es rfl (es rfl (et rfl)))))))) (ez rfl) rfl) rfl ?_
            refine C_off rfl (wanted_f rfl rfl (es rfl (es rfl (es rfl (es rfl (es rfl (es rfl (es rfl (es rfl (et rfl))))))))) (ez rfl) rfl) rfl ?_
            refine C_off rfl (wanted_u rfl rfl (et rfl) (ez rfl)) rfl ?_
            refine C_off rfl (wanted_u rfl rfl (es rfl (et rfl)) (ez rfl)) rfl ?_
            refine C_off rfl (wanted_u rfl rfl (es rfl (es rfl (et rfl))) (ez rfl)) rfl ?_
            refine C_off rfl (wanted_u rfl rfl (es rfl (es rfl (es rfl (et rfl)))) (ez rfl)) rfl ?_
            refine C_off rfl (wanted_u rfl rfl (es rfl (es rfl (es rfl (es rfl (et rfl))))) (ez rfl)) rfl ?_
            refine C_off rfl (wanted_u rfl rfl (es rfl (es rfl (es rfl (es rfl (es rfl (et rfl)))))) (ez rfl)) rfl ?_
            refine C_off rfl (wanted_u rfl rfl (es rfl (es rfl (es rfl (es rfl (es rfl (es rfl (et rfl))))))) (ez rfl)) rfl ?_
            refine C_off rfl (wanted_u rfl rfl (es rfl (es rfl (es rfl (es rfl (es rfl (es rfl (es rfl (et rfl)))))))) (ez rfl)) rfl ?_
            refine C_off rfl (wanted_f rfl rfl (es rfl (es rfl (es rfl (es rfl (es rfl (es rfl (es rfl (es rfl (es rfl (es rfl (es rfl (es rfl (es rfl (es rfl (es rfl (es rfl (es rfl (et rfl)))))))))))))))))) (ez rfl) rfl) rfl ?_
            refine C_v rfl rfl (V_pickF rfl (es rfl (es rfl (es rfl (es rfl (es rfl (es rfl (es rfl (es rfl (es rfl (es rfl (es rfl (es rfl (es rfl (es rfl (es rfl (es rfl (es rfl (es rfl (et rfl))))))))))))))))))) rfl) rfl rfl ?_
            refine Z_none (Nat.le_refl _) (Nat.le_refl _) (fun w145 hz145 hF145 => ?_)
            clear hF145
            have hR145 := hE104.size
            have hE146 := Ext.tr hE104 hz145
            replace b2 := heap_ext hz145 b2
            replace b101 := heap_ext hz145 b101
            replace f1_98 := f1_98.ext hz145
            replace f2_98 := f2_98.ext hz145
            refine gen_Q (fun A147 hA147 => ?_)
            have hsz147 : SzN A147 218 := by rw [hA147]; infer_instance
            have hdf147 : A147.defers = [] := by rw [hA147]; simp only [df_put]; exact hdf105
            have l3_147 := lookE hA147 3 (es rfl (es rfl (es rfl (es rfl (es rfl (es rfl (es rfl (es rfl (es rfl (es rfl (es rfl (es rfl (es rfl (es rfl (es rfl (es rfl (es rfl (es rfl (es rfl (es rfl (es rfl (es rfl l3_105))))))))))))))))))))))
            have l178_147 := lookE hA147 178 (et rfl)
            clear hA147 hsz105 hdf105 l3_105 l26_105 l27_105 l28_105
            refine then_n (hK107 _ _ ?_)
            clear hK107
            refine cond_f l178_147 ?_
            refine wp_skip ?_
            refine then_n (hK106 _ _ ?_)
            clear hK106
            refine wp_seq_k (fun K148 hK148 => ?_)
            -- region 20
            refine region_in ?_
            refine W_r rfl rfl (VR_ldA rfl l3_147 b2 Try.underlying24 rfl (by kernel_rfl)) ?_
            refine W_call rfl rfl rfl Try.func27 (by kernel_rfl) rfl (args1 (et rfl)) (Clear_c (h_lv.ext hE146) (h_yv.ext hE146) ) ?_
            rintro _ w149 ⟨v1_149, v2_149, u_149, rfl, f1_149, f2_149, f3_149, hx149⟩
            refine ⟨_, rfl, ?_⟩
            have hb150 := hE146.size
            have hE151 := Ext.tr hE146 hx149
            replace b2 := heap_ext hx149 b2
            have ul_f1_149 := fre_lo f1_149
            replace f1_149 := f1_149.base hb150
            have ul_f2_149 := fre_lo f2_149
            replace f2_149 := f2_149.base hb150
            have ul_f3_149 := fre_lo f3_149
            replace f3_149 := f3_149.base hb150
            refine W_v rfl rfl (V_mov rfl (et rfl)) ?_
            refine W_v rfl rfl (V_ext rfl (et rfl) rfl) ?_
            refine W_v rfl rfl (V_ext rfl (es rfl (et rfl)) rfl) ?_
            refine W_v rfl rfl (V_ext rfl (es rfl (es rfl (et rfl))) rfl) ?_
            refine W_alloc (z := .agg #[.slice none 0 0, .slice none 0 0]) (cs := #[.slice none 0 0, .slice none 0 0]) rfl rfl rfl (by kernel_rfl) rfl (fun g152 w152 hg152 hx152 b152 => ?_)
            have o2_152 : g2 < g152 := hg152 ▸ lt_size b2
            have oB_152 : w.heap.size ≤ g152 := hg152 ▸ hE151.size
            have hE153 := Ext.tr hE151 hx152
            replace b2 := heap_ext hx152 b2
            replace f1_149 := f1_149.ext hx152
            replace f2_149 := f2_149.ext hx152
            replace f3_149 := f3_149.ext hx152
            refine W_stA rfl rfl rfl (et rfl) (es rfl (es rfl (es rfl (et rfl)))) (by simp only [List.all_toArray, List.all_cons, List.all_nil, one_ints f1_149.1, one_ints f2_149.1] <;> rfl) b152 (by rfl) (by kernel_rfl) (fun w154 ht154 hb154 => ?_)
            have hE155 := ext_tch hE153 ht154 oB_152
            replace f1_149 := f1_149.tch ht154 b152 rfl
            replace f2_149 := f2_149.tch ht154 b152 rfl
            replace f3_149 := f3_149.tch ht154 b152 rfl
            replace b2 := box_tch b2 ht154 (Nat.ne_of_lt o2_152)
            replace b152 := hb154
            refine W_v rfl rfl (V_asg rfl (es rfl (es rfl (et rfl)))) ?_
            refine W_v rfl rfl (V_asg rfl (es rfl (es rfl (et rfl)))) ?_
            refine W_end ?_
            refine gen_Q (fun A156 hA156 => ?_)
            have hsz156 : SzN A156 218 := by rw [hA156]; infer_instance
            have hdf156 : A156.defers = [] := by rw [hA156]; simp only [df_put]; exact hdf147
            have l3_156 := lookE hA156 3 (es rfl (es rfl (es rfl (es rfl (es rfl (es rfl (es rfl (es rfl (es rfl l3_147)))))))))
            have l29_156 := lookE hA156 29 (es rfl (es rfl (et rfl)))
            have l30_156 := lookE hA156 30 (es rfl (et rfl))
            have l31_156 := lookE hA156 31 (et rfl)
            clear hA156 hsz147 hdf147 l3_147 l178_147
            refine then_n (hK148 _ _ ?_)
            clear hK148
            refine wp_seq_k (fun K157 hK157 => ?_)
            -- region 21
            refine region_in ?_
            refine W_r rfl rfl (VR_ldA rfl l29_156 b152 Try.underlying24 rfl (by kernel_rfl)) ?_
            refine W_call rfl rfl rfl Try.func34 (by kernel_rfl) rfl (args1 (et rfl)) (Turn_c f1_149.1 f2_149.1 ) ?_
            rintro _ w158 ⟨v1_158, v2_158, rfl, f1_158, f2_158, hx158⟩
            refine ⟨_, rfl, ?_⟩
            have hb159 := hE155.size
            have hE160 := Ext.tr hE155 hx158
            replace b2 := heap_ext hx158 b2
            replace b152 := heap_ext hx158 b152
            replace f1_149 := f1_149.ext hx158
            replace f2_149 := f2_149.ext hx158
            replace f3_149 := f3_149.ext hx158
            have ul_f1_158 := fre_lo f1_158
            replace f1_158 := f1_158.base hb159
            have ul_f2_158 := fre_lo f2_158
            replace f2_158 := f2_158.base hb159
            refine W_v rfl rfl (V_mov rfl (et rfl)) ?_
            refine W_v rfl rfl (V_ext rfl (et rfl) rfl) ?_
            refine W_v rfl rfl (V_ext rfl (es rfl (et rfl)) rfl) ?_
            refine W_alloc (z := .agg #[.slice none 0 0, .slice none 0 0]) (cs := #[.slice none 0 0, .slice none 0 0]) rfl rfl rfl (by kernel_rfl) rfl (fun g161 w161 hg161 hx161 b161 => ?_)
            have o2_161 : g2 < g161 := hg161 ▸ lt_size b2
            have o152_161 : g152 < g161 := hg161 ▸ lt_size b152
            have oB_161 : w.heap.size ≤ g161 := hg161 ▸ hE160.size
            have hE162 := Ext.tr hE160 hx161
            replace b2 := heap_ext hx161 b2
            replace b152 := heap_ext hx161 b152
            replace f1_149 := f1_149.ext hx161
            replace f2_149 := f2_149.ext hx161
            replace f3_149 := f3_149.ext hx161
            replace f1_158 := f1_158.ext hx161
            replace f2_158 := f2_158.ext hx161
            refine W_stA rfl rfl rfl (et rfl) (es rfl (es rfl (et rfl))) (by simp only [List.all_toArray, List.all_cons, List.all_nil, one_ints f1_158.1, one_ints f2_158.1] <;> rfl) b161 (by rfl) (by kernel_rfl) (fun w163 ht163 hb163 => ?_)
            have hE164 := ext_tch hE162 ht163 oB_161
            replace f1_149 := f1_149.tch ht163 b161 rfl
            replace f2_149 := f2_149.tch ht163 b161 rfl
            replace f3_149 := f3_149.tch ht163 b161 rfl
            replace f1_158 := f1_158.tch ht163 b161 rfl
            replace f2_158 := f2_158.tch ht163 b161 rfl
            replace b2 := box_tch b2 ht163 (Nat.ne_of_lt o2_161)
            replace b152 := box_tch b152 ht163 (Nat.ne_of_lt o152_161)
            replace b161 := hb163
            refine W_v rfl rfl (V_asg rfl (es rfl (et rfl))) ?_
            refine W_end ?_
            refine gen_Q (fun A165 hA165 => ?_)
            have hsz165 : SzN A165 218 := by rw [hA165]; infer_instance
            have hdf165 : A165.defers = [] := by rw [hA165]; simp only [df_put]; exact hdf156
            have l3_165 := lookE hA165 3 (es rfl (es rfl (es rfl (es rfl (es rfl (es rfl (es rfl l3_156)))))))
            have l30_165 := lookE hA165 30 (es rfl (es rfl (es rfl (es rfl (es rfl (es rfl (es rfl l30_156)))))))
            have l31_165 := lookE hA165 31 (es rfl (es rfl (es rfl (es rfl (es rfl (es rfl (es rfl l31_156)))))))
            have l32_165 := lookE hA165 32 (es rfl (et rfl))
            have l33_165 := lookE hA165 33 (et rfl)
            clear hA165 hsz156 hdf156 l3_156 l29_156 l30_156 l31_156
            refine then_n (hK157 _ _ ?_)
            clear hK157
            refine wp_seq_k (fun K166 hK166 => ?_)
            -- region 22
            refine region_in ?_
            refine W_v rfl rfl (V_mov rfl l31_165) ?_
            refine W_v rfl rfl (V_eql rfl (et rfl) rfl) ?_
            refine W_sure (c' := true) rfl rfl (V_mov rfl (et rfl)) (by simp [hC]) ?_
            refine W_v rfl (wanted_t rfl rfl (et rfl) (ez rfl)) (V_mov rfl (es rfl (es rfl (es rfl l33_165)))) ?_
            refine W_v rfl (wanted_t rfl rfl (es rfl (et rfl)) (ez rfl)) (V_eql rfl (et rfl) rfl) ?_
            refine W_v rfl rfl (V_pickT rfl (es rfl (es rfl (et rfl))) (et rfl)) ?_
            refine W_sure (c' := true) rfl rfl (V_mov rfl (et rfl)) (by simp [hC, hTn]) ?_
            refine W_v rfl (wanted_t rfl rfl (et rfl) (ez rfl)) (V_mov rfl (es rfl (es rfl (es rfl (es rfl (es rfl (es rfl (es rfl l30_165)))))))) ?_
            refine W_v rfl (wanted_t rfl rfl (es rfl (et rfl)) (ez rfl)) (V_fa (off' := 0) rfl (es rfl (es rfl (es rfl (es rfl (es rfl (es rfl (es rfl (es rfl l3_165)))))))) Try.underlying24 rfl (by decide) rfl) ?_
            refine W_r rfl (wanted_t rfl rfl (es rfl (es rfl (et rfl))) (ez rfl)) (VR_ldC rfl (et rfl) (cell_box (v := lv) b2 rfl) Try.underlying22 rfl) ?_
            refine W_call rfl (wanted_t rfl rfl (es rfl (es rfl (es rfl (et rfl)))) (ez rfl)) rfl Try.func37 (by kernel_rfl) rfl (args2 (es rfl (es rfl (et rfl))) (et rfl)) (Ints_c f3_149.1 (h_lv.ext hE164) ) ?_
            rintro _ w167 ⟨rfl, hx167⟩
            refine ⟨_, rfl, ?_⟩
            have hb168 := hE164.size
            have hE169 := Ext.tr hE164 hx167
            replace b2 := heap_ext hx167 b2
            replace b161 := heap_ext hx167 b161
            replace f3_149 := f3_149.ext hx167
            replace f1_158 := f1_158.ext hx167
            replace f2_158 := f2_158.ext hx167
            refine W_v rfl rfl (V_pickT rfl (es rfl (es rfl (es rfl (es rfl (et rfl))))) (et rfl)) ?_
            refine W_sure (c' := true) rfl rfl (V_mov rfl (et rfl)) (by simp [hC]) ?_
            refine W_v rfl (wanted_t rfl rfl (et rfl) (ez rfl)) (V_fa (off' := 0) rfl (es rfl (es rfl (es rfl (es rfl (es rfl (es rfl (es rfl (es rfl (es rfl (es rfl (es rfl (es rfl (es rfl l32_165))))))))))))) Try.underlying24 rfl (by decide) rfl) ?_
            refine W_r rfl (wanted_t rfl rfl (es rfl (et rfl)) (ez rfl)) (VR_ldC rfl (et rfl) (cell_box (v := v1_158) b161 rfl) Try.underlying22 rfl) ?_
            refine W_v rfl (wanted_t rfl rfl (es rfl (es rfl (et rfl))) (ez rfl)) (V_fa (off' := 1) rfl (es rfl (es rfl (es rfl (es rfl (es rfl (es rfl (es rfl (es rfl (es rfl (es rfl (es rfl (es rfl (es rfl (es rfl (es rfl l3_165))))))))))))))) Try.underlying24 rfl (by decide) rfl) ?_
            refine W_r rfl (wanted_t rfl rfl (es rfl (es rfl (es rfl (et rfl)))) (ez rfl)) (VR_ldC rfl (et rfl) (cell_box (v := yv) b2 rfl) Try.underlying22 rfl) ?_
            refine W_call rfl (wanted_t rfl rfl (es rfl (es rfl (es rfl (es rfl (et rfl))))) (ez rfl)) rfl Try.func37 (by kernel_rfl) rfl (args2 (es rfl (es rfl (et rfl))) (et rfl)) (Ints_c f1_158.1 (h_yv.ext hE169) ) ?_
            rintro _ w170 ⟨rfl, hx170⟩
            refine ⟨_, rfl, ?_⟩
            have hb171 := hE169.size
            have hE172 := Ext.tr hE169 hx170
            replace b2 := heap_ext hx170 b2
            replace b161 := heap_ext hx170 b161
            replace f3_149 := f3_149.ext hx170
            replace f1_158 := f1_158.ext hx170
            replace f2_158 := f2_158.ext hx170
            refine W_v rfl rfl (V_pickT rfl (es rfl (es rfl (es rfl (es rfl (es rfl (et rfl)))))) (et rfl)) ?_
            refine W_sure (c' := true) rfl rfl (V_mov rfl (et rfl)) (by simp [hC, hTn]) ?_
            refine W_v rfl (wanted_t rfl rfl (et rfl) (ez rfl)) (V_fa (off' := 1) rfl (es rfl (es rfl (es rfl (es rfl (es rfl (es rfl (es rfl (es rfl (es rfl (es rfl (es rfl (es rfl (es rfl (es rfl (es rfl (es rfl (es rfl (es rfl (es rfl (es rfl l32_165)))))))))))))))))))) Try.underlying24 rfl (by decide) rfl) ?_
            refine W_r rfl (wanted_t rfl rfl (es rfl (et rfl)) (ez rfl)) (VR_ldC rfl (et rfl) (cell_box (v := v2_158) b161 rfl) Try.underlying22 rfl) ?_
            refine W_v rfl (wanted_t rfl rfl (es rfl (es rfl (et rfl))) (ez rfl)) (V_lenI rfl (et rfl) f2_158.1 Try.underlying22) ?_
            refine W_v rfl (wanted_t rfl rfl (es rfl (es rfl (es rfl (et rfl)))) (ez rfl)) (V_eql rfl (et rfl) rfl) ?_
            refine W_v rfl rfl (V_pickT rfl (es rfl (es rfl (es rfl (es rfl (et rfl))))) (et rfl)) ?_
            refine W_sure (c' := true) rfl rfl (V_mov rfl (et rfl)) (by simp [hC, hTn]) ?_
            refine W_call rfl (wanted_t rfl rfl (et rfl) (ez rfl)) rfl Try.func12 (by kernel_rfl) rfl (args0) (awake_c  ) ?_
            rintro _ w173 ⟨rfl, hx173⟩
            refine ⟨_, rfl, ?_⟩
            have hb174 := hE172.size
            have hE175 := Ext.tr hE172 hx173
            replace b2 := heap_ext hx173 b2
            replace b161 := heap_ext hx173 b161
            replace f3_149 := f3_149.ext hx173
            replace f1_158 := f1_158.ext hx173
            replace f2_158 := f2_158.ext hx173
            refine W_v rfl rfl (V_pickT rfl (es rfl (et rfl)) (et rfl)) ?_
            refine W_v rfl rfl (V_asg rfl (et rfl)) ?_
            refine W_end ?_
            refine gen_Q (fun A176 hA176 => ?_)
            have hsz176 : SzN A176 218 := by rw [hA176]; infer_instance
            have hdf176 : A176.defers = [] := by rw [hA176]; simp only [df_put]; exact hdf165
            have l6_176 := lookE hA176 6 (et rfl)
            clear hA176 hsz165 hdf165 l3_165 l30_165 l31_165 l32_165 l33_165
            refine then_n (hK166 _ _ ?_)
            clear hK166
            refine wp_ret ?_
            refine ret_in (results_1 Try.results9 (rv_tmp l6_176)) hdf176 ?_
            -- leaf FFTTF
            exact ⟨rfl, hE175⟩
        · skip
          refine W_off rfl (wanted_f rfl rfl (et rfl) (ez rfl) rfl) ?_
          refine W_off rfl (wanted_f rfl rfl (es rfl (et rfl)) (ez rfl) rfl) ?_
          refine W_off rfl (wanted_f rfl rfl (es rfl (es rfl (et rfl))) (ez rfl) rfl) ?_
          refine W_off rfl (wanted_f rfl rfl (es rfl (es rfl (es rfl (et rfl)))) (ez rfl) rfl) ?_
          refine W_off rfl (wanted_f rfl rfl (es rfl (es rfl (es rfl (es rfl (et rfl))))) (ez rfl) rfl) ?_
          refine W_off rfl (wanted_f rfl rfl (es rfl (es rfl (es rfl (es rfl (es rfl (et rfl)))))) (ez rfl) rfl) ?_
          refine W_off rfl (wanted_f rfl rfl (es rfl (es rfl (es rfl (es rfl (es rfl (es rfl (et rfl))))))) (ez rfl) rfl) ?_
          refine W_off rfl (wanted_f rfl rfl (es rfl (es rfl (es rfl (es rfl (es rfl (es rfl (es rfl (et rfl)))))))) (ez rfl) rfl) ?_
          refine W_v rfl (wanted_t rfl rfl (es rfl (es rfl (es rfl (es rfl (es rfl (es rfl (es rfl (es rfl (es rfl (es rfl (es rfl (es rfl (et rfl))))))))))))) (ez rfl)) (V_pickF rfl (es rfl (es rfl (es rfl (es rfl (es rfl (es rfl (es rfl (es rfl (et rfl))))))))) rfl) ?_
          refine W_v rfl rfl (V_pickF rfl (es rfl (es rfl (es rfl (es rfl (es rfl (es rfl (es rfl (es rfl (es rfl (es rfl (es rfl (es rfl (es rfl (et rfl)))))))))))))) (et rfl)) ?_
          refine W_v rfl rfl (V_mov rfl (et rfl)) ?_
          refine W_v rfl (wanted_t rfl rfl (et rfl) (ez rfl)) (V_mov rfl (es rfl (es rfl (es rfl (es rfl (es rfl (es rfl (es rfl (es rfl (es rfl (es rfl (es rfl (es rfl (es rfl (es rfl (es rfl (es rfl (es rfl (es rfl (es rfl (es rfl (es rfl (es rfl (es rfl (es rfl (es rfl (es rfl (es rfl l18_80)))))))))))))))))))))))))))) ?_
          refine W_v rfl (wanted_t rfl rfl (es rfl (et rfl)) (ez rfl)) (V_mov rfl (es rfl (es rfl (es rfl (es rfl (es rfl (es rfl (es rfl (es rfl (es rfl (es rfl (es rfl (es rfl (es rfl (es rfl (es rfl (es rfl (es rfl (es rfl (es rfl (es rfl (es rfl (es rfl (es rfl (es rfl (es rfl (es rfl (es rfl (es rfl l11_80))))))))))))))))))))))))))))) ?_
          refine W_call rfl (wanted_t rfl rfl (es rfl (es rfl (et rfl))) (ez rfl)) rfl Try.func38 (by kernel_rfl) rfl (args2 (es rfl (et rfl)) (et rfl)) (without_c (n := (c % 24)) f_62.1 (by first | omega | (simp; omega) | (split <;> omega))) ?_
          rintro _ w177 ⟨r_177, rfl, f_177, hx177⟩
          refine ⟨_, rfl, ?_⟩
          have hb178 := hE79.size
          have hE179 := Ext.tr hE79 hx177
          replace b2 := heap_ext hx177 b2
          replace f_32 := f_32.ext hx177
          replace f_62 := f_62.ext hx177
          replace f_67 := f_67.ext hx177
          have ul_f_177 := fre_lo f_177.fre
          replace f_177 := f_177.base hb178
          refine W_v rfl (wanted_t rfl rfl (es rfl (es rfl (es rfl (et rfl)))) (ez rfl)) (V_mov rfl (es rfl (es rfl (es rfl (es rfl (es rfl (es rfl (es rfl (es rfl (es rfl (es rfl (es rfl (es rfl (es rfl (es rfl (es rfl (es rfl (es rfl (es rfl (es rfl (es rfl (es rfl (es rfl (es rfl (es rfl (es rfl (es rfl (es rfl (es rfl (es rfl (es rfl l12_80))))))))))))))))))))))))))))))) ?_
          refine W_call rfl (wanted_t rfl rfl (es rfl (es rfl (es rfl (es rfl (et rfl))))) (ez rfl)) rfl Try.func37 (by kernel_rfl) rfl (args2 (es rfl (et rfl)) (et rfl)) (Ints_c f_177.ints f_32.1 ) ?_
          rintro _ w180 ⟨rfl, hx180⟩
          refine ⟨_, rfl, ?_⟩
          have hb181 := hE179.size
          have ob_f_177_w177 := own_lt f_177
          have hE182 := Ext.tr hE179 hx180
          replace b2 := heap_ext hx180 b2
          replace f_32 := f_32.ext hx180
          replace f_62 := f_62.ext hx180
          replace f_67 := f_67.ext hx180
          replace f_177 := f_177.ext hx180
          refine W_v rfl (wanted_t rfl rfl (es rfl (es rfl (es rfl (es rfl (es rfl (et rfl)))))) (ez rfl)) (V_notd rfl (et rfl)) ?_
          refine W_v rfl rfl (V_pickF rfl (es rfl (es rfl (es rfl (es rfl (es rfl (es rfl (et rfl))))))) (et rfl)) ?_
          refine W_sure (c' := false) rfl rfl (V_mov rfl (et rfl)) (by simp [(hPa).2, (hPb).2, hcars, putF, wout_app hPa.1, wout_put hPa.1]) ?_
          refine W_v rfl (wanted_t rfl rfl (et rfl) (ez rfl)) (V_mov rfl (es rfl (es rfl (es rfl (es rfl (es rfl (es rfl (es rfl (es rfl (es rfl (es rfl (es rfl (es rfl (es rfl (es rfl (es rfl (es rfl (es rfl (es rfl (es rfl (es rfl (es rfl (es rfl (es rfl (es rfl (es rfl (es rfl (es rfl (es rfl (es rfl (es rfl (es rfl (es rfl (es rfl (es rfl (es rfl l20_80)))))))))))))))))))))))))))))))))))) ?_
          refine W_v rfl (wanted_t rfl rfl (es rfl (et rfl)) (ez rfl)) (V_mov rfl (es rfl (es rfl (es rfl (es rfl (es rfl (es rfl (es rfl (es rfl (es rfl (es rfl (es rfl (es rfl (es rfl (es rfl (es rfl (es rfl (es rfl (es rfl (es rfl (es rfl (es rfl (es rfl (es rfl (es rfl (es rfl (es rfl (es rfl (es rfl (es rfl (es rfl (es rfl (es rfl (es rfl (es rfl (es rfl (es rfl l11_80))))))))))))))))))))))))))))))))))))) ?_
          refine W_call rfl (wanted_t rfl rfl (es rfl (es rfl (et rfl))) (ez rfl)) rfl Try.func38 (by kernel_rfl) rfl (args2 (es rfl (et rfl)) (et rfl)) (without_c (n := (c % 24)) f_67.1 (by first | omega | (simp; omega) | (split <;> omega))) ?_
          rintro _ w183 ⟨r_183, rfl, f_183, hx183⟩
          refine ⟨_, rfl, ?_⟩
          have hb184 := hE182.size
          have ob_f_177_w180 := own_lt f_177
          have hE185 := Ext.tr hE182 hx183
          replace b2 := heap_ext hx183 b2
          replace f_32 := f_32.ext hx183
          replace f_62 := f_62.ext hx183
          replace f_67 := f_67.ext hx183
          replace f_177 := f_177.ext hx183
          have ul_f_183 := fre_lo f_183.fre
          replace f_183 := f_183.base hb184
          refine W_v rfl (wanted_t rfl rfl (es rfl (es rfl (es rfl (et rfl)))) (ez rfl)) (V_mov rfl (es rfl (es rfl (es rfl (es rfl (es rfl (es rfl (es rfl (es rfl (es rfl (es rfl (es rfl (es rfl (es rfl (es rfl (es rfl (es rfl (es rfl (es rfl (es rfl (es rfl (es rfl (es rfl (es rfl (es rfl (es rfl (es rfl (es rfl (es rfl (es rfl (es rfl (es rfl (es rfl (es rfl (es rfl (es rfl (es rfl (es rfl (es rfl l12_80))))))))))))))))))))))))))))))))))))))) ?_
          refine W_call rfl (wanted_t rfl rfl (es rfl (es rfl (es rfl (es rfl (et rfl))))) (ez rfl)) rfl Try.func37 (by kernel_rfl) rfl (args2 (es rfl (et rfl)) (et rfl)) (Ints_c f_183.ints f_32.1 ) ?_
          rintro _ w186 ⟨rfl, hx186⟩
          refine ⟨_, rfl, ?_⟩
          have hb187 := hE185.size
          have ob_f_177_w183 := own_lt f_177
          have ob_f_183_w183 := own_lt f_183
          have hE188 := Ext.tr hE185 hx186
          replace b2 := heap_ext hx186 b2
          replace f_32 := f_32.ext hx186
          replace f_62 := f_62.ext hx186
          replace f_67 := f_67.ext hx186
          replace f_177 := f_177.ext hx186
          replace f_183 := f_183.ext hx186
          refine W_v rfl (wanted_t rfl rfl (es rfl (es rfl (es rfl (es rfl (es rfl (et rfl)))))) (ez rfl)) (V_notd rfl (et rfl)) ?_
          refine W_v rfl rfl (V_pickF rfl (es rfl (es rfl (es rfl (es rfl (es rfl (es rfl (et rfl))))))) (et rfl)) ?_
          refine W_end ?_
          refine gen_Q (fun A189 hA189 => ?_)
          have hsz189 : SzN A189 218 := by rw [hA189]; infer_instance
          have hdf189 : A189.defers = [] := by rw [hA189]; simp only [df_put]; exact hdf80
          have l1_189 := lookE hA189 1 (es rfl (es rfl (es rfl (es rfl (es rfl (es rfl (es rfl (es rfl (es rfl (es rfl (es rfl (es rfl (es rfl (es rfl (es rfl (es rfl (es rfl (es rfl (es rfl (es rfl (es rfl (es rfl (es rfl (es rfl (es rfl (es rfl (es rfl (es rfl (es rfl (es rfl (es rfl (es rfl (es rfl (es rfl (es rfl (es rfl (es rfl (es rfl (es rfl (es rfl (es rfl (es rfl l1_80))))))))))))))))))))))))))))))))))))))))))
          have l3_189 := lookE hA189 3 (es rfl (es rfl (es rfl (es rfl (es rfl (es rfl (es rfl (es rfl (es rfl (es rfl (es rfl (es rfl (es rfl (es rfl (es rfl (es rfl (es rfl (es rfl (es rfl (es rfl (es rfl (es rfl (es rfl (es rfl (es rfl (es rfl (es rfl (es rfl (es rfl (es rfl (es rfl (es rfl (es rfl (es rfl (es rfl (es rfl (es rfl (es rfl (es rfl (es rfl (es rfl (es rfl l3_80))))))))))))))))))))))))))))))))))))))))))
          have l147_189 := lookE hA189 147 (et rfl)
          clear hA189 hsz80 hdf80 l1_80 l3_80 l11_80 l12_80 l18_80 l20_80 l22_80 l23_80 l24_80 l25_80
          refine then_n (hK81 _ _ ?_)
          clear hK81
          refine cond_not l147_189 (by simp [(hPa).2, (hPb).2, hcars, putF, wout_app hPa.1, wout_put hPa.1]) ?_
          refine wp_skip ?_
          refine then_n (hK57 _ _ ?_)
          clear hK57
          refine wp_seq_k (fun K190 hK190 => ?_)
          -- region 17
          refine region_in ?_
          refine W_r rfl rfl (VR_ldA rfl l3_189 b2 Try.underlying24 rfl (by kernel_rfl)) ?_
          refine W_v rfl rfl (V_mov rfl (es rfl l1_189)) ?_
          refine W_v rfl rfl (V_rem rfl (et rfl) rfl (by omega) (by omega) (wrap_u8 (by omega) (by omega))) ?_
          refine W_v rfl rfl (V_eql rfl (et rfl) rfl) ?_
          refine W_call rfl rfl rfl Try.func26 (by kernel_rfl) rfl (args2 (es rfl (es rfl (es rfl (et rfl)))) (et rfl)) (Relink_c (bf := decide ((tr % 2) = 0)) (h_lv.ext hE188) (h_yv.ext hE188) (by first | omega | (simp; done) | (simp; omega)) (by first | omega | (simp; done) | (simp; omega))) ?_
          rintro _ w191 ⟨v1_191, v2_191, rfl, f1_191, f2_191, hx191⟩
          refine ⟨_, rfl, ?_⟩
          have hb192 := hE188.size
          have hE193 := Ext.tr hE188 hx191
          replace b2 := heap_ext hx191 b2
          have ul_f1_191 := fre_lo f1_191
          replace f1_191 := f1_191.base hb192
          have ul_f2_191 := fre_lo f2_191
          replace f2_191 := f2_191.base hb192
          refine W_v rfl rfl (V_mov rfl (et rfl)) ?_
          refine W_v rfl rfl (V_ext rfl (et rfl) rfl) ?_
          refine W_v rfl rfl (V_ext rfl (es rfl (et rfl)) rfl) ?_
          refine W_v rfl rfl (V_ext rfl (es rfl (es rfl (et rfl))) rfl) ?_
          refine W_alloc (z := .agg #[.slice none 0 0, .slice none 0 0]) (cs := #[.slice none 0 0, .slice none 0 0]) rfl rfl rfl (by kernel_rfl) rfl (fun g194 w194 hg194 hx194 b194 => ?_)
          have o2_194 : g2 < g194 := hg194 ▸ lt_size b2
          have oB_194 : w.heap.size ≤ g194 := hg194 ▸ hE193.size
          have hE195 := Ext.tr hE193 hx194
          replace b2 := heap_ext hx194 b2
          replace f1_191 := f1_191.ext hx194
          replace f2_191 := f2_191.ext hx194
          refine W_stA rfl rfl rfl (et rfl) (es rfl (es rfl (es rfl (et rfl)))) (by simp only [List.all_toArray, List.all_cons, List.all_nil, one_ints f1_191.1, one_ints f2_191.1] <;> rfl) b194 (by rfl) (by kernel_rfl) (fun w196 ht196 hb196 => ?_)
          have hE197 := ext_tch hE195 ht196 oB_194
          replace f1_191 := f1_191.tch ht196 b194 rfl
          replace f2_191 := f2_191.tch ht196 b194 rfl
          replace b2 := box_tch b2 ht196 (Nat.ne_of_lt o2_194)
          replace b194 := hb196
          refine W_v rfl rfl (V_asg rfl (es rfl (es rfl (et rfl)))) ?_
          refine W_v rfl rfl (V_asg rfl (es rfl (es rfl (et rfl)))) ?_
          refine W_end ?_
          refine gen_Q (fun A198 hA198 => ?_)
          have hsz198 : SzN A198 218 := by rw [hA198]; infer_instance
          have hdf198 : A198.defers = [] := by rw [hA198]; simp only [df_put]; exact hdf189
          have l3_198 := lookE hA198 3 (es rfl (es rfl (es rfl (es rfl (es rfl (es rfl (es rfl (es rfl (es rfl (es rfl (es rfl (es rfl l3_189))))))))))))
          have l26_198 := lookE hA198 26 (es rfl (es rfl (et rfl)))
          have l27_198 := lookE hA198 27 (es rfl (et rfl))
          have l28_198 := lookE hA198 28 (et rfl)
          clear hA198 hsz189 hdf189 l1_189 l3_189 l147_189
          refine then_n (hK190 _ _ ?_)
          clear hK190
          refine wp_seq_k (fun K199 hK199 => ?_)
          refine wp_seq_k (fun K200 hK200 => ?_)
          -- region 18
          refine region_mono 22 22 [none, none, none, none, none, none, none, none, some (⟨fun w v => ∃ r_s, v = r_s ∧ OwnI w w196.heap.size 3 (r_s) (wout lo (relinkS lo yo (decide ((tr % 2) = 0))).car), fun _ _ _ he ⟨r_s, h, f_s⟩ => ⟨r_s, h, f_s.ext he⟩⟩), some (⟨fun w v => v = .bool (decide (((relinkS lo yo (decide ((tr % 2) = 0))).lo) = (wout lo (relinkS lo yo (decide ((tr % 2) = 0))).car))), fun _ _ _ he h => h⟩), none, none, none, none, none, some (⟨fun w v => ∃ r_s, v = r_s ∧ OwnI w w196.heap.size 3 (r_s) (wout ((relinkS lo yo (decide ((tr % 2) = 0))).yo) (relinkS lo yo (decide ((tr % 2) = 0))).car), fun _ _ _ he ⟨r_s, h, f_s⟩ => ⟨r_s, h, f_s.ext he⟩⟩), none, none, some (⟨fun w v => v = .bool (decide ((wout ((relinkS lo yo (decide ((tr % 2) = 0))).yo) (relinkS lo yo (decide ((tr % 2) = 0))).car) = yo)), fun _ _ _ he h => h⟩)] (by kernel_rfl) (by kernel_rfl) ?_
          refine C_v rfl rfl (V_mov rfl l28_198) rfl rfl ?_
          refine C_v rfl rfl (V_eql rfl (et rfl) rfl) rfl rfl ?_
          refine C_split rfl rfl (V_mov rfl (et rfl)) rfl rfl (fun c201 => ?_) (fun c201 => ?_)
          · skip
            refine C_v rfl (wanted_t rfl rfl (et rfl) (ez rfl)) (V_fa (off' := 0) rfl (es rfl (es rfl (es rfl l26_198))) Try.underlying24 rfl (by decide) rfl) rfl rfl ?_
            refine C_r rfl (wanted_t rfl rfl (es rfl (et rfl)) (ez rfl)) (by kernel_rfl) (fun wx hx hF => (VR_ldC rfl (et rfl) (cell_box (v := v1_191) (heap_ext hx b194) rfl) Try.underlying22 rfl)) rfl rfl ?_
            refine C_v rfl (wanted_t rfl rfl (es rfl (es rfl (et rfl))) (ez rfl)) (V_fa (off' := 0) rfl (es rfl (es rfl (es rfl (es rfl (es rfl l3_198))))) Try.underlying24 rfl (by decide) rfl) rfl rfl ?_
            refine C_r rfl (wanted_t rfl rfl (es rfl (es rfl (es rfl (et rfl)))) (ez rfl)) (by kernel_rfl) (fun wx hx hF => (VR_ldC rfl (et rfl) (cell_box (v := lv) (heap_ext hx b2) rfl) Try.underlying22 rfl)) rfl rfl ?_
            refine C_v rfl (wanted_t rfl rfl (es rfl (es rfl (es rfl (es rfl (et rfl))))) (ez rfl)) (V_mov rfl (es rfl (es rfl (es rfl (es rfl (es rfl (es rfl (es rfl l27_198)))))))) rfl rfl ?_
            refine C_call rfl (wanted_t rfl rfl (es rfl (es rfl (es rfl (es rfl (es rfl (et rfl)))))) (ez rfl)) rfl Try.func38 (by kernel_rfl) rfl (args2 (es rfl (et rfl)) (et rfl)) rfl rfl (fun wx hx hF => ?_) (fun u202 hu202 => ?_)
            · refine (without_c (n := (relinkS lo yo (decide ((tr % 2) = 0))).car) (h_lv.ext (Ext.tr hE197 hx)) (by first | omega | (simp; omega) | (split <;> omega))).mono ?_
              rintro _ w202 ⟨r_202, rfl, f_202, hz⟩
              exact ⟨_, rfl, hz, _, rfl, f_202.base hx.size⟩
            obtain ⟨_, _, r_202, rfl, _⟩ := hu202
            refine C_call rfl (wanted_t rfl rfl (es rfl (es rfl (es rfl (es rfl (es rfl (es rfl (et rfl))))))) (ez rfl)) rfl Try.func37 (by kernel_rfl) rfl (args2 (es rfl (es rfl (es rfl (es rfl (et rfl))))) (et rfl)) rfl rfl (fun wx hx hF => ?_) (fun u203 hu203 => ?_)
            · obtain ⟨r_202q, hq202, f_202⟩ := ancF_get hF (by kernel_rfl); cases hq202; refine (Ints_c (f1_191.1.ext hx) f_202.ints ).mono ?_
              rintro _ w203 ⟨rfl, hz⟩
              exact ⟨_, rfl, hz, rfl⟩
            obtain ⟨_, _, rfl⟩ := hu203
            refine C_v rfl (wanted_t rfl rfl (es rfl (es rfl (es rfl (es rfl (es rfl (es rfl (es rfl (et rfl)))))))) (ez rfl)) (V_notd rfl (et rfl)) rfl rfl ?_
            refine C_sure (c' := false) rfl (wanted_t rfl rfl (es rfl (es rfl (es rfl (es rfl (es rfl (es rfl (es rfl (es rfl (et rfl))))))))) (ez rfl)) (V_mov rfl (et rfl)) (by simp [(orders_R hgood c201 true).1, (orders_R hgood c201 true).2]) rfl rfl ?_
            refine C_v rfl (wanted_t rfl rfl (et rfl) (ez rfl)) (V_fa (off' := 1) rfl (es rfl (es rfl (es rfl (es rfl (es rfl (es rfl (es rfl (es rfl (es rfl (es rfl (es rfl (es rfl l26_198)))))))))))) Try.underlying24 rfl (by decide) rfl) rfl rfl ?_
            refine C_r rfl (wanted_t rfl rfl (es rfl (et rfl)) (ez rfl)) (by kernel_rfl) (fun wx hx hF => (VR_ldC rfl (et rfl) (cell_box (v := v2_191) (heap_ext hx b194) rfl) Try.underlying22 rfl)) rfl rfl ?_
            refine C_v rfl (wanted_t rfl rfl (es rfl (es rfl (et rfl))) (ez rfl)) (V_mov rfl (es rfl (es rfl (es rfl (es rfl (es rfl (es rfl (es rfl (es rfl (es rfl (es rfl (es rfl (es rfl (es rfl (es rfl l27_198))))))))))))))) rfl rfl ?_
            refine C_call rfl (wanted_t rfl rfl (es rfl (es rfl (es rfl (et rfl)))) (ez rfl)) rfl Try.func38 (by kernel_rfl) rfl (args2 (es rfl (et rfl)) (et rfl)) rfl rfl (fun wx hx hF => ?_) (fun u204 hu204 => ?_)
            · refine (without_c (n := (relinkS lo yo (decide ((tr % 2) = 0))).car) (f2_191.1.ext hx) (by first | omega | (simp; omega) | (split <;> omega))).mono ?_
              rintro _ w204 ⟨r_204, rfl, f_204, hz⟩
              exact ⟨_, rfl, hz, _, rfl, f_204.base hx.size⟩
            obtain ⟨_, _, r_204, rfl, _⟩ := hu204
            refine C_v rfl (wanted_t rfl rfl (es rfl (es rfl (es rfl (es rfl (et rfl))))) (ez rfl)) (V_fa (off' := 1) rfl (es rfl (es rfl (es rfl (es rfl (es rfl (es rfl (es rfl (es rfl (es rfl (es rfl (es rfl (es rfl (es rfl (es rfl (es rfl (es rfl l3_198)))))))))))))))) Try.underlying24 rfl (by decide) rfl) rfl rfl ?_
            refine C_r rfl (wanted_t rfl rfl (es rfl (es rfl (es rfl (es rfl (es rfl (et rfl)))))) (ez rfl)) (by kernel_rfl) (fun wx hx hF => (VR_ldC rfl (et rfl) (cell_box (v := yv) (heap_ext hx b2) rfl) Try.underlying22 rfl)) rfl rfl ?_
            refine C_call rfl (wanted_t rfl rfl (es rfl (es rfl (es rfl (es rfl (es rfl (es rfl (et rfl))))))) (ez rfl)) rfl Try.func37 (by kernel_rfl) rfl (args2 (es rfl (es rfl (et rfl))) (et rfl)) rfl rfl (fun wx hx hF => ?_) (fun u205 hu205 => ?_)
            · obtain ⟨r_204q, hq204, f_204⟩ := ancF_get hF (by kernel_rfl); cases hq204; refine (Ints_c f_204.ints (h_yv.ext (Ext.tr hE197 hx)) ).mono ?_
              rintro _ w205 ⟨rfl, hz⟩
              exact ⟨_, rfl, hz, rfl⟩
            obtain ⟨_, _, rfl⟩ := hu205
            refine C_v rfl (wanted_t rfl rfl (es rfl (es rfl (es rfl (es rfl (es rfl (es rfl (es rfl (et rfl)))))))) (ez rfl)) (V_notd rfl (et rfl)) rfl rfl ?_
            refine C_v rfl (wanted_t rfl rfl (es rfl (es rfl (es rfl (es rfl (es rfl (es rfl (es rfl (es rfl (es rfl (es rfl (es rfl (es rfl (es rfl (es rfl (es rfl (es rfl (es rfl (et rfl)))))))))))))))))) (ez rfl)) (V_pickF rfl (es rfl (es rfl (es rfl (es rfl (es rfl (es rfl (es rfl (es rfl (et rfl))))))))) (et rfl)) rfl rfl ?_
            refine C_v rfl rfl (V_pickT rfl (es rfl (es rfl (es rfl (es rfl (es rfl (es rfl (es rfl (es rfl (es rfl (es rfl (es rfl (es rfl (es rfl (es rfl (es rfl (es rfl (es rfl (es rfl (et rfl))))))))))))))))))) (et rfl)) rfl rfl ?_
            refine Z_none (Nat.le_refl _) (Nat.le_refl _) (fun w206 hz206 hF206 => ?_)
            obtain ⟨r_202q, hq202, f_202⟩ := all_get (all_rest (all_rest (all_rest hF206))); cases hq202
            obtain hq203 := all_get (all_rest (all_rest hF206)); cases hq203
            obtain ⟨r_204q, hq204, f_204⟩ := all_get (all_rest hF206); cases hq204
            obtain hq205 := all_get hF206; cases hq205
            clear hF206
            have hR206 := hE197.size
            have hE207 := Ext.tr hE197 hz206
            replace b2 := heap_ext hz206 b2
            replace b194 := heap_ext hz206 b194
            replace f1_191 := f1_191.ext hz206
            replace f2_191 := f2_191.ext hz206
            have ul_f_202 := fre_lo f_202.fre
            replace f_202 := f_202.base hR206
            have ul_f_204 := fre_lo f_204.fre
            replace f_204 := f_204.base hR206
            refine gen_Q (fun A208 hA208 => ?_)
            have hsz208 : SzN A208 218 := by rw [hA208]; infer_instance
            have hdf208 : A208.defers = [] := by rw [hA208]; simp only [df_put]; exact hdf198
            have l3_208 := lookE hA208 3 (es rfl (es rfl (es rfl (es rfl (es rfl (es rfl (es rfl (es rfl (es rfl (es rfl (es rfl (es rfl (es rfl (es rfl (es rfl (es rfl (es rfl (es rfl (es rfl (es rfl (es rfl (es rfl l3_198))))))))))))))))))))))
            have l178_208 := lookE hA208 178 (et rfl)
            clear hA208 hsz198 hdf198 l3_198 l26_198 l27_198 l28_198
            refine then_n (hK200 _ _ ?_)
            clear hK200
            refine cond_not l178_208 (by simp [(orders_R hgood c201 true).1, (orders_R hgood c201 true).2]) ?_
            refine wp_skip ?_
            refine then_n (hK199 _ _ ?_)
            clear hK199
            refine wp_seq_k (fun K209 hK209 => ?_)
            -- region 20
            refine region_in ?_
            refine W_r rfl rfl (VR_ldA rfl l3_208 b2 Try.underlying24 rfl (by kernel_rfl)) ?_
            refine W_call rfl rfl rfl Try.func27 (by kernel_rfl) rfl (args1 (et rfl)) (Clear_c (h_lv.ext hE207) (h_yv.ext hE207) ) ?_
            rintro _ w210 ⟨v1_210, v2_210, u_210, rfl, f1_210, f2_210, f3_210, hx210⟩
            refine ⟨_, rfl, ?_⟩
            have hb211 := hE207.size
            have hE212 := Ext.tr hE207 hx210
            replace b2 := heap_ext hx210 b2
            have ul_f1_210 := fre_lo f1_210
            replace f1_210 := f1_210.base hb211
            have ul_f2_210 := fre_lo f2_210
            replace f2_210 := f2_210.base hb211
            have ul_f3_210 := fre_lo f3_210
            replace f3_210 := f3_210.base hb211
            refine W_v rfl rfl (V_mov rfl (et rfl)) ?_
            refine W_v rfl rfl (V_ext rfl (et rfl) rfl) ?_
            refine W_v rfl rfl (V_ext rfl (es rfl (et rfl)) rfl) ?_
            refine W_v rfl rfl (V_ext rfl (es rfl (es rfl (et rfl))) rfl) ?_
            refine W_alloc (z := .agg #[.slice none 0 0, .slice none 0 0]) (cs := #[.slice none 0 0, .slice none 0 0]) rfl rfl rfl (by kernel_rfl) rfl (fun g213 w213 hg213 hx213 b213 => ?_)
            have o2_213 : g2 < g213 := hg213 ▸ lt_size b2
            have oB_213 : w.heap.size ≤ g213 := hg213 ▸ hE212.size
            have hE214 := Ext.tr hE212 hx213
            replace b2 := heap_ext hx213 b2
            replace f1_210 := f1_210.ext hx213
            replace f2_210 := f2_210.ext hx213
            replace f3_210 := f3_210.ext hx213
            refine W_stA rfl rfl rfl (et rfl) (es rfl (es rfl (es rfl (et rfl)))) (by simp only [List.all_toArray, List.all_cons, List.all_nil, one_ints f1_210.1, one_ints f2_210.1] <;> rfl) b213 (by rfl) (by kernel_rfl) (fun w215 ht215 hb215 => ?_)
            have hE216 := ext_tch hE214 ht215 oB_213
            replace f1_210 := f1_210.tch ht215 b213 rfl
            replace f2_210 := f2_210.tch ht215 b213 rfl
            replace f3_210 := f3_210.tch ht215 b213 rfl
            replace b2 := box_tch b2 ht215 (Nat.ne_of_lt o2_213)
            replace b213 := hb215
            refine W_v rfl rfl (V_asg rfl (es rfl (es rfl (et rfl)))) ?_
            refine W_v rfl rfl (V_asg rfl (es rfl (es rfl (et rfl)))) ?_
            refine W_end ?_
            refine gen_Q (fun A217 hA217 => ?_)
            have hsz217 : SzN A217 218 := by rw [hA217]; infer_instance
            have hdf217 : A217.defers = [] := by rw [hA217]; simp only [df_put]; exact hdf208
            have l3_217 := lookE hA217 3 (es rfl (es rfl (es rfl (es rfl (es rfl (es rfl (es rfl (es rfl (es rfl l3_208)))))))))
            have l29_217 := lookE hA217 29 (es rfl (es rfl (et rfl)))
            have l30_217 := lookE hA217 30 (es rfl (et rfl))
            have l31_217 := lookE hA217 31 (et rfl)
            clear hA217 hsz208 hdf208 l3_208 l178_208
            refine then_n (hK209 _ _ ?_)
            clear hK209
            refine wp_seq_k (fun K218 hK218 => ?_)
            -- region 21
            refine region_in ?_
            refine W_r rfl rfl (VR_ldA rfl l29_217 b213 Try.underlying24 rfl (by kernel_rfl)) ?_
            refine W_call rfl rfl rfl Try.func34 (by kernel_rfl) rfl (args1 (et rfl)) (Turn_c f1_210.1 f2_210.1 ) ?_
            rintro _ w219 ⟨v1_219, v2_219, rfl, f1_219, f2_219, hx219⟩
            refine ⟨_, rfl, ?_⟩
            have hb220 := hE216.size
            have hE221 := Ext.tr hE216 hx219
            replace b2 := heap_ext hx219 b2
            replace b213 := heap_ext hx219 b213
            replace f1_210 := f1_210.ext hx219
            replace f2_210 := f2_210.ext hx219
            replace f3_210 := f3_210.ext hx219
            have ul_f1_219 := fre_lo f1_219
            replace f1_219 := f1_219.base hb220
            have ul_f2_219 := fre_lo f2_219
            replace f2_219 := f2_219.base hb220
            refine W_v rfl rfl (V_mov rfl (et rfl)) ?_
            refine W_v rfl rfl (V_ext rfl (et rfl) rfl) ?_
            refine W_v rfl rfl (V_ext rfl (es rfl (et rfl)) rfl) ?_
            refine W_alloc (z := .agg #[.slice none 0 0, .slice none 0 0]) (cs := #[.slice none 0 0, .slice none 0 0]) rfl rfl rfl (by kernel_rfl) rfl (fun g222 w222 hg222 hx222 b222 => ?_)
            have o2_222 : g2 < g222 := hg222 ▸ lt_size b2
            have o213_222 : g213 < g222 := hg222 ▸ lt_size b213
            have oB_222 : w.heap.size ≤ g222 := hg222 ▸ hE221.size
            have hE223 := Ext.tr hE221 hx222
            replace b2 := heap_ext hx222 b2
            replace b213 := heap_ext hx222 b213
            replace f1_210 := f1_210.ext hx222
            replace f2_210 := f2_210.ext hx222
            replace f3_210 := f3_210.ext hx222
            replace f1_219 := f1_219.ext hx222
            replace f2_219 := f2_219.ext hx222
            refine W_stA rfl rfl rfl (et rfl) (es rfl (es rfl (et rfl))) (by simp only [List.all_toArray, List.all_cons, List.all_nil, one_ints f1_219.1, one_ints f2_219.1] <;> rfl) b222 (by rfl) (by kernel_rfl) (fun w224 ht224 hb224 => ?_)
            have hE225 := ext_tch hE223 ht224 oB_222
            replace f1_210 := f1_210.tch ht224 b222 rfl
            replace f2_210 := f2_210.tch ht224 b222 rfl
            replace f3_210 := f3_210.tch ht224 b222 rfl
            replace f1_219 := f1_219.tch ht224 b222 rfl
            replace f2_219 := f2_219.tch ht224 b222 rfl
            replace b2 := box_tch b2 ht224 (Nat.ne_of_lt o2_222)
            replace b213 := box_tch b213 ht224 (Nat.ne_of_lt o213_222)
            replace b222 := hb224
            refine W_v rfl rfl (V_asg rfl (es rfl (et rfl))) ?_
            refine W_end ?_
            refine gen_Q (fun A226 hA226 => ?_)
            have hsz226 : SzN A226 218 := by rw [hA226]; infer_instance
            have hdf226 : A226.defers = [] := by rw [hA226]; simp only [df_put]; exact hdf217
            have l3_226 := lookE hA226 3 (es rfl (es rfl (es rfl (es rfl (es rfl (es rfl (es rfl l3_217)))))))
            have l30_226 := lookE hA226 30 (es rfl (es rfl (es rfl (es rfl (es rfl (es rfl (es rfl l30_217)))))))
            have l31_226 := lookE hA226 31 (es rfl (es rfl (es rfl (es rfl (es rfl (es rfl (es rfl l31_217)))))))
            have l32_226 := lookE hA226 32 (es rfl (et rfl))
            have l33_226 := lookE hA226 33 (et rfl)
            clear hA226 hsz217 hdf217 l3_217 l29_217 l30_217 l31_217
            refine then_n (hK218 _ _ ?_)
            clear hK218
            refine wp_seq_k (fun K227 hK227 => ?_)
            -- region 22
            refine region_in ?_
            refine W_v rfl rfl (V_mov rfl l31_226) ?_
            refine W_v rfl rfl (V_eql rfl (et rfl) rfl) ?_
            refine W_sure (c' := true) rfl rfl (V_mov rfl (et rfl)) (by simp [hC]) ?_
            refine W_v rfl (wanted_t rfl rfl (et rfl) (ez rfl)) (V_mov rfl (es rfl (es rfl (es rfl l33_226)))) ?_
            refine W_v rfl (wanted_t rfl rfl (es rfl (et rfl)) (ez rfl)) (V_eql rfl (et rfl) rfl) ?_
            refine W_v rfl rfl (V_pickT rfl (es rfl (es rfl (et rfl))) (et rfl)) ?_
            refine W_sure (c' := true) rfl rfl (V_mov rfl (et rfl)) (by simp [hC, hTn]) ?_
            refine W_v rfl (wanted_t rfl rfl (et rfl) (ez rfl)) (V_mov rfl (es rfl (es rfl (es rfl (es rfl (es rfl (es rfl (es rfl l30_226)))))))) ?_
            refine W_v rfl (wanted_t rfl rfl (es rfl (et rfl)) (ez rfl)) (V_fa (off' := 0) rfl (es rfl (es rfl (es rfl (es rfl (es rfl (es rfl (es rfl (es rfl l3_226)))))))) Try.underlying24 rfl (by decide) rfl) ?_
            refine W_r rfl (wanted_t rfl rfl (es rfl (es rfl (et rfl))) (ez rfl)) (VR_ldC rfl (et rfl) (cell_box (v := lv) b2 rfl) Try.underlying22 rfl) ?_
            refine W_call rfl (wanted_t rfl rfl (es rfl (es rfl (es rfl (et rfl)))) (ez rfl)) rfl Try.func37 (by kernel_rfl) rfl (args2 (es rfl (es rfl (et rfl))) (et rfl)) (Ints_c f3_210.1 (h_lv.ext hE225) ) ?_
            rintro _ w228 ⟨rfl, hx228⟩
            refine ⟨_, rfl, ?_⟩
            have hb229 := hE225.size
            have hE230 := Ext.tr hE225 hx228
            replace b2 := heap_ext hx228 b2
            replace b222 := heap_ext hx228 b222
            replace f3_210 := f3_210.ext hx228
            replace f1_219 := f1_219.ext hx228
            replace f2_219 := f2_219.ext hx228
            refine W_v rfl rfl (V_pickT rfl (es rfl (es rfl (es rfl (es rfl (et rfl))))) (et rfl)) ?_
            refine W_sure (c' := true) rfl rfl (V_mov rfl (et rfl)) (by simp [hC]) ?_
            refine W_v rfl (wanted_t rfl rfl (et rfl) (ez rfl)) (V_fa (off' := 0) rfl (es rfl (es rfl (es rfl (es rfl (es rfl (es rfl (es rfl (es rfl (es rfl (es rfl (es rfl (es rfl (es rfl l32_226))))))))))))) Try.underlying24 rfl (by decide) rfl) ?_
            refine W_r rfl (wanted_t rfl rfl (es rfl (et rfl)) (ez rfl)) (VR_ldC rfl (et rfl) (cell_box (v := v1_219) b222 rfl) Try.underlying22 rfl) ?_
            refine W_v rfl (wanted_t rfl rfl (es rfl (es rfl (et rfl))) (ez rfl)) (V_fa (off' := 1) rfl (es rfl (es rfl (es rfl (es rfl (es rfl (es rfl (es rfl (es rfl (es rfl (es rfl (es rfl (es rfl (es rfl (es rfl (es rfl l3_226))))))))))))))) Try.underlying24 rfl (by decide) rfl) ?_
            refine W_r rfl (wanted_t rfl rfl (es rfl (es rfl (es rfl (et rfl)))) (ez rfl)) (VR_ldC rfl (et rfl) (cell_box (v := yv) b2 rfl) Try.underlying22 rfl) ?_
            refine W_call rfl (wanted_t rfl rfl (es rfl (es rfl (es rfl (es rfl (et rfl))))) (ez rfl)) rfl Try.func37 (by kernel_rfl) rfl (args2 (es rfl (es rfl (et rfl))) (et rfl)) (Ints_c f1_219.1 (h_yv.ext hE230) ) ?_
            rintro _ w231 ⟨rfl, hx231⟩
            refine ⟨_, rfl, ?_⟩
            have hb232 := hE230.size
            have hE233 := Ext.tr hE230 hx231
            replace b2 := heap_ext hx231 b2
            replace b222 := heap_ext hx231 b222
            replace f3_210 := f3_210.ext hx231
            replace f1_219 := f1_219.ext hx231
            replace f2_219 := f2_219.ext hx231
            refine W_v rfl rfl (V_pickT rfl (es rfl (es rfl (es rfl (es rfl (es rfl (et rfl)))))) (et rfl)) ?_
            refine W_sure (c' := true) rfl rfl (V_mov rfl (et rfl)) (by simp [hC, hTn]) ?_
            refine W_v rfl (wanted_t rfl rfl (et rfl) (ez rfl)) (V_fa (off' := 1) rfl (es rfl (es rfl (es rfl (es rfl (es rfl (es rfl (es rfl (es rfl (es rfl (es rfl (es rfl (es rfl (es rfl (es rfl (es rfl (es rfl (es rfl (es rfl (es rfl (es rfl l32_226)))))))))))))))))))) Try.underlying24 rfl (by decide) rfl) ?_
            refine W_r rfl (wanted_t rfl rfl (es rfl (et rfl)) (ez rfl)) (VR_ldC rfl (et rfl) (cell_box (v := v2_219) b222 rfl) Try.underlying22 rfl) ?_
            refine W_v rfl (wanted_t rfl rfl (es rfl (es rfl (et rfl))) (ez rfl)) (V_lenI rfl (et rfl) f2_219.1 Try.underlying22) ?_
            refine W_v rfl (wanted_t rfl rfl (es rfl (es rfl (es rfl (et rfl)))) (ez rfl)) (V_eql rfl (et rfl) rfl) ?_
            refine W_v rfl rfl (V_pickT rfl (es rfl (es rfl (es rfl (es rfl (et rfl))))) (et rfl)) ?_
            refine W_sure (c' := true) rfl rfl (V_mov rfl (et rfl)) (by simp [hC, hTn]) ?_
            refine W_call rfl (wanted_t rfl rfl (et rfl) (ez rfl)) rfl Try.func12 (by kernel_rfl) rfl (args0) (awake_c  ) ?_
            rintro _ w234 ⟨rfl, hx234⟩
            refine ⟨_, rfl, ?_⟩
            have hb235 := hE233.size
            have hE236 := Ext.tr hE233 hx234
            replace b2 := heap_ext hx234 b2
            replace b222 := heap_ext hx234 b222
            replace f3_210 := f3_210.ext hx234
            replace f1_219 := f1_219.ext hx234
            replace f2_219 := f2_219.ext hx234
            refine W_v rfl rfl (V_pickT rfl (es rfl (et rfl)) (et rfl)) ?_
            refine W_v rfl rfl (V_asg rfl (et rfl)) ?_
            refine W_end ?_
            refine gen_Q (fun A237 hA237 => ?_)
            have hsz237 : SzN A237 218 := by rw [hA237]; infer_instance
            have hdf237 : A237.defers = [] := by rw [hA237]; simp only [df_put]; exact hdf226
            have l6_237 := lookE hA237 6 (et rfl)
            clear hA237 hsz226 hdf226 l3_226 l30_226 l31_226 l32_226 l33_226
            refine then_n (hK227 _ _ ?_)
            clear hK227
            refine wp_ret ?_
            refine ret_in (results_1 Try.results9 (rv_tmp l6_237)) hdf237 ?_
            -- leaf FFTFT
            exact ⟨rfl, hE236⟩
          · skip
            refine C_off rfl (wanted_f rfl rfl (et rfl) (ez rfl) rfl) rfl ?_
            refine C_off rfl (wanted_f rfl rfl (es rfl (et rfl)) (ez rfl) rfl) rfl ?_
            refine C_off rfl (wanted_f rfl rfl (es rfl (es rfl (et rfl))) (ez rfl) rfl) rfl ?_
            refine C_off rfl (wanted_f rfl rfl (es rfl (es rfl (es rfl (et rfl)))) (ez rfl) rfl) rfl ?_
            refine C_off rfl (wanted_f rfl rfl (es rfl (es rfl (es rfl (es rfl (et rfl))))) (ez rfl) rfl) rfl ?_
            refine C_off rfl (wanted_f rfl rfl (es rfl (es rfl (es rfl (es rfl (es rfl (et rfl)))))) (ez rfl) rfl) rfl ?_
            refine C_off rfl (wanted_f rfl rfl (es rfl (es rfl (es rfl (es rfl (es rfl (es rfl (et rfl))))))) (ez rfl) rfl) rfl ?_
            refine C_off rfl (wanted_f rfl rfl (es rfl (es rfl (es rfl (es rfl (es rfl (es rfl (es rfl (et rfl)))))))) (ez rfl) rfl) rfl ?_
            refine C_off rfl (wanted_f rfl rfl (es rfl (es rfl (es rfl (es rfl (es rfl (es rfl (es rfl (es rfl (et rfl))))))))) (ez rfl) rfl) rfl ?_
            refine C_off rfl (wanted_u rfl rfl (et rfl) (ez rfl)) rfl ?_
            refine C_off rfl (wanted_u rfl rfl (es rfl (et rfl)) (ez rfl)) rfl ?_
            refine C_off rfl (wanted_u rfl rfl (es rfl (es rfl (et rfl))) (ez rfl)) rfl ?_
            refine C_off rfl (wanted_u rfl rfl (es rfl (es rfl (es rfl (et rfl)))) (ez rfl)) rfl ?_
            refine C_off rfl (wanted_u rfl rfl (es rfl (es rfl (es rfl (es rfl (et rfl))))) (ez rfl)) rfl ?_
            refine C_off rfl (wanted_u rfl rfl (es rfl (es rfl (es rfl (es rfl (es rfl (et rfl)))))) (ez rfl)) rfl ?_
            refine C_off rfl (wanted_u rfl rfl (es rfl (es rfl (es rfl (es rfl (es rfl (es rfl (et rfl))))))) (ez rfl)) rfl ?_
            refine C_off rfl (wanted_u rfl rfl (es rfl (es rfl (es rfl (es rfl (es rfl (es rfl (es rfl (et rfl)))))))) (ez rfl)) rfl ?_
            refine C_off rfl (wanted_f rfl rfl (es rfl (es rfl (es rfl (es rfl (es rfl (es rfl (es rfl (es rfl (es rfl (es rfl (es rfl (es rfl (es rfl (es rfl (es rfl (es rfl (es rfl (et rfl)))))))))))))))))) (ez rfl) rfl) rfl ?_
            refine C_v rfl rfl (V_pickF rfl (es rfl (es rfl (es rfl (es rfl (es rfl (es rfl (es rfl (es rfl (es rfl (es rfl (es rfl (es rfl (es rfl (es rfl (es rfl (es rfl (es rfl (es rfl (et rfl))))))))))))))))))) rfl) rfl rfl ?_
            refine Z_none (Nat.le_refl _) (Nat.le_refl _) (fun w238 hz238 hF238 => ?_)
            clear hF238
            have hR238 := hE197.size
            have hE239 := Ext.tr hE197 hz238
            replace b2 := heap_ext hz238 b2
            replace b194 := heap_ext hz238 b194
            replace f1_191 := f1_191.ext hz238
            replace f2_191 := f2_191.ext hz238
            refine gen_Q (fun A240 hA240 => ?_)
            have hsz240 : SzN A240 218 := by rw [hA240]; infer_instance
            have hdf240 : A240.defers = [] := by rw [hA240]; simp only [df_put]; exact hdf198
            have l3_240 := lookE hA240 3 (es rfl (es rfl (es rfl (es rfl (es rfl (es rfl (es rfl (es rfl (es rfl (es rfl (es rfl (es rfl (es rfl (es rfl (es rfl (es rfl (es rfl (es rfl (es rfl (es rfl (es rfl (es rfl l3_198))))))))))))))))))))))
            have l178_240 := lookE hA240 178 (et rfl)
            clear hA240 hsz198 hdf198 l3_198 l26_198 l27_198 l28_198
            refine then_n (hK200 _ _ ?_)
            clear hK200
            refine cond_f l178_240 ?_
            refine wp_skip ?_
            refine then_n (hK199 _ _ ?_)
            clear hK199
            refine wp_seq_k (fun K241 hK241 => ?_)
            -- region 20
            refine region_in ?_
            refine W_r rfl rfl (VR_ldA rfl l3_240 b2 Try.underlying24 rfl (by kernel_rfl)) ?_
            refine W_call rfl rfl rfl Try.func27 (by kernel_rfl) rfl (args1 (et rfl)) (Clear_c (h_lv.ext hE239) (h_yv.ext hE239) ) ?_
            rintro _ w242 ⟨v1_242, v2_242, u_242, rfl, f1_242, f2_242, f3_242, hx242⟩
            refine ⟨_, rfl, ?_⟩
            have hb243 := hE239.size
            have hE244 := Ext.tr hE239 hx242
            replace b2 := heap_ext hx242 b2
            have ul_f1_242 := fre_lo f1_242
            replace f1_242 := f1_242.base hb243
            have ul_f2_242 := fre_lo f2_242
            replace f2_242 := f2_242.base hb243
            have ul_f3_242 := fre_lo f3_242
            replace f3_242 := f3_242.base hb243
            refine W_v rfl rfl (V_mov rfl (et rfl)) ?_
            refine W_v rfl rfl (V_ext rfl (et rfl) rfl) ?_
            refine W_v rfl rfl (V_ext rfl (es rfl (et rfl)) rfl) ?_
            refine W_v rfl rfl (V_ext rfl (es rfl (es rfl (et rfl))) rfl) ?_
            refine W_alloc (z := .agg #[.slice none 0 0, .slice none 0 0]) (cs := #[.slice none 0 0, .slice none 0 0]) rfl rfl rfl (by kernel_rfl) rfl (fun g245 w245 hg245 hx245 b245 => ?_)
            have o2_245 : g2 < g245 := hg245 ▸ lt_size b2
            have oB_245 : w.heap.size ≤ g245 := hg245 ▸ hE244.size
            have hE246 := Ext.tr hE244 hx245
            replace b2 := heap_ext hx245 b2
            replace f1_242 := f1_242.ext hx245
            replace f2_242 := f2_242.ext hx245
            replace f3_242 := f3_242.ext hx245
            refine W_stA rfl rfl rfl (et rfl) (es rfl (es rfl (es rfl (et rfl)))) (by simp only [List.all_toArray, List.all_cons, List.all_nil, one_ints f1_242.1, one_ints f2_242.1] <;> rfl) b245 (by rfl) (by kernel_rfl) (fun w247 ht247 hb247 => ?_)
            have hE248 := ext_tch hE246 ht247 oB_245
            replace f1_242 := f1_242.tch ht247 b245 rfl
            replace f2_242 := f2_242.tch ht247 b245 rfl
            replace f3_242 := f3_242.tch ht247 b245 rfl
            replace b2 := box_tch b2 ht247 (Nat.ne_of_lt o2_245)
            replace b245 := hb247
            refine W_v rfl rfl (V_asg rfl (es rfl (es rfl (et rfl)))) ?_
            refine W_v rfl rfl (V_asg rfl (es rfl (es rfl (et rfl)))) ?_
            refine W_end ?_
            refine gen_Q (fun A249 hA249 => ?_)
            have hsz249 : SzN A249 218 := by rw [hA249]; infer_instance
            have hdf249 : A249.defers = [] := by rw [hA249]; simp only [df_put]; exact hdf240
            have l3_249 := lookE hA249 3 (es rfl (es rfl (es rfl (es rfl (es rfl (es rfl (es rfl (es rfl (es rfl l3_240)))))))))
            have l29_249 := lookE hA249 29 (es rfl (es rfl (et rfl)))
            have l30_249 := lookE hA249 30 (es rfl (et rfl))
            have l31_249 := lookE hA249 31 (et rfl)
            clear hA249 hsz240 hdf240 l3_240 l178_240
            refine then_n (hK241 _ _ ?_)
            clear hK241
            refine wp_seq_k (fun K250 hK250 => ?_)
            -- region 21
            refine region_in ?_
            refine W_r rfl rfl (VR_ldA rfl l29_249 b245 Try.underlying24 rfl (by kernel_rfl)) ?_
            refine W_call rfl rfl rfl Try.func34 (by kernel_rfl) rfl (args1 (et rfl)) (Turn_c f1_242.1 f2_242.1 ) ?_
            rintro _ w251 ⟨v1_251, v2_251, rfl, f1_251, f2_251, hx251⟩
            refine ⟨_, rfl, ?_⟩
            have hb252 := hE248.size
            have hE253 := Ext.tr hE248 hx251
            replace b2 := heap_ext hx251 b2
            replace b245 := heap_ext hx251 b245
            replace f1_242 := f1_242.ext hx251
            replace f2_242 := f2_242.ext hx251
            replace f3_242 := f3_242.ext hx251
            have ul_f1_251 := fre_lo f1_251
            replace f1_251 := f1_251.base hb252
            have ul_f2_251 := fre_lo f2_251
            replace f2_251 := f2_251.base hb252
            refine W_v rfl rfl (V_mov rfl (et rfl)) ?_
            refine W_v rfl rfl (V_ext rfl (et rfl) rfl) ?_
            refine W_v rfl rfl (V_ext rfl (es rfl (et rfl)) rfl) ?_
            refine W_alloc (z := .agg #[.slice none 0 0, .slice none 0 0]) (cs := #[.slice none 0 0, .slice none 0 0]) rfl rfl rfl (by kernel_rfl) rfl (fun g254 w254 hg254 hx254 b254 => ?_)
            have o2_254 : g2 < g254 := hg254 ▸ lt_size b2
            have o245_254 : g245 < g254 := hg254 ▸ lt_size b245
            have oB_254 : w.heap.size ≤ g254 := hg254 ▸ hE253.size
            have hE255 := Ext.tr hE253 hx254
            replace b2 := heap_ext hx254 b2
            replace b245 := heap_ext hx254 b245
            replace f1_242 := f1_242.ext hx254
            replace f2_242 := f2_242.ext hx254
            replace f3_242 := f3_242.ext hx254
            replace f1_251 := f1_251.ext hx254
            replace f2_251 := f2_251.ext hx254
            refine W_stA rfl rfl rfl (et rfl) (es rfl (es rfl (et rfl))) (by simp only [List.all_toArray, List.all_cons, List.all_nil, one_ints f1_251.1, one_ints f2_251.1] <;> rfl) b254 (by rfl) (by kernel_rfl) (fun w256 ht256 hb256 => ?_)
            have hE257 := ext_tch hE255 ht256 oB_254
            replace f1_242 := f1_242.tch ht256 b254 rfl
            replace f2_242 := f2_242.tch ht256 b254 rfl
            replace f3_242 := f3_242.tch ht256 b254 rfl
            replace f1_251 := f1_251.tch ht256 b254 rfl
            replace f2_251 := f2_251.tch ht256 b254 rfl
            replace b2 := box_tch b2 ht256 (Nat.ne_of_lt o2_254)
            replace b245 := box_tch b245 ht256 (Nat.ne_of_lt o245_254)
            replace b254 := hb256
            refine W_v rfl rfl (V_asg rfl (es rfl (et rfl))) ?_
            refine W_end ?_
            refine gen_Q (fun A258 hA258 => ?_)
            have hsz258 : SzN A258 218 := by rw [hA258]; infer_instance
            have hdf258 : A258.defers = [] := by rw [hA258]; simp only [df_put]; exact hdf249
            have l3_258 := lookE hA258 3 (es rfl (es rfl (es rfl (es rfl (es rfl (es rfl (es rfl l3_249)))))))
            have l30_258 := lookE hA258 30 (es rfl (es rfl (es rfl (es rfl (es rfl (es rfl (es rfl l30_249)))))))
            have l31_258 := lookE hA258 31 (es rfl (es rfl (es rfl (es rfl (es rfl (es rfl (es rfl l31_249)))))))
            have l32_258 := lookE hA258 32 (es rfl (et rfl))
            have l33_258 := lookE hA258 33 (et rfl)
            clear hA258 hsz249 hdf249 l3_249 l29_249 l30_249 l31_249
            refine then_n (hK250 _ _ ?_)
            clear hK250
            refine wp_seq_k (fun K259 hK259 => ?_)
            -- region 22
            refine region_in ?_
            refine W_v rfl rfl (V_mov rfl l31_258) ?_
            refine W_v rfl rfl (V_eql rfl (et rfl) rfl) ?_
            refine W_sure (c' := true) rfl rfl (V_mov rfl (et rfl)) (by simp [hC]) ?_
            refine W_v rfl (wanted_t rfl rfl (et rfl) (ez rfl)) (V_mov rfl (es rfl (es rfl (es rfl l33_258)))) ?_
            refine W_v rfl (wanted_t rfl rfl (es rfl (et rfl)) (ez rfl)) (V_eql rfl (et rfl) rfl) ?_
            refine W_v rfl rfl (V_pickT rfl (es rfl (es rfl (et rfl))) (et rfl)) ?_
            refine W_sure (c' := true) rfl rfl (V_mov rfl (et rfl)) (by simp [hC, hTn]) ?_
            refine W_v rfl (wanted_t rfl rfl (et rfl) (ez rfl)) (V_mov rfl (es rfl (es rfl (es rfl (es rfl (es rfl (es rfl (es rfl l30_258)))))))) ?_
            refine W_v rfl (wanted_t rfl rfl (es rfl (et rfl)) (ez rfl)) (V_fa (off' := 0) rfl (es rfl (es rfl (es rfl (es rfl (es rfl (es rfl (es rfl (es rfl l3_258)))))))) Try.underlying24 rfl (by decide) rfl) ?_
            refine W_r rfl (wanted_t rfl rfl (es rfl (es rfl (et rfl))) (ez rfl)) (VR_ldC rfl (et rfl) (cell_box (v := lv) b2 rfl) Try.underlying22 rfl) ?_
            refine W_call rfl (wanted_t rfl rfl (es rfl (es rfl (es rfl (et rfl)))) (ez rfl)) rfl Try.func37 (by kernel_rfl) rfl (args2 (es rfl (es rfl (et rfl))) (et rfl)) (Ints_c f3_242.1 (h_lv.ext hE257) ) ?_
            rintro _ w260 ⟨rfl, hx260⟩
            refine ⟨_, rfl, ?_⟩
            have hb261 := hE257.size
            have hE262 := Ext.tr hE257 hx260
            replace b2 := heap_ext hx260 b2
            replace b254 := heap_ext hx260 b254
            replace f3_242 := f3_242.ext hx260
            replace f1_251 := f1_251.ext hx260
            replace f2_251 := f2_251.ext hx260
            refine W_v rfl rfl (V_pickT rfl (es rfl (es rfl (es rfl (es rfl (et rfl))))) (et rfl)) ?_
            refine W_sure (c' := true) rfl rfl (V_mov rfl (et rfl)) (by simp [hC]) ?_
            refine W_v rfl (wanted_t rfl rfl (et rfl) (ez rfl)) (V_fa (off' := 0) rfl (es rfl (es rfl (es rfl (es rfl (es rfl (es rfl (es rfl (es rfl (es rfl (es rfl (es rfl (es rfl (es rfl l32_258))))))))))))) Try.underlying24 rfl (by decide) rfl) ?_
            refine W_r rfl (wanted_t rfl rfl (es rfl (et rfl)) (ez rfl)) (VR_ldC rfl (et rfl) (cell_box (v := v1_251) b254 rfl) Try.underlying22 rfl) ?_
            refine W_v rfl (wanted_t rfl rfl (es rfl (es rfl (et rfl))) (ez rfl)) (V_fa (off' := 1) rfl (es rfl (es rfl (es rfl (es rfl (es rfl (es rfl (es rfl (es rfl (es rfl (es rfl (es rfl (es rfl (es rfl (es rfl (es rfl l3_258))))))))))))))) Try.underlying24 rfl (by decide) rfl) ?_
            refine W_r rfl (wanted_t rfl rfl (es rfl (es rfl (es rfl (et rfl)))) (ez rfl)) (VR_ldC rfl (et rfl) (cell_box (v := yv) b2 rfl) Try.underlying22 rfl) ?_
            refine W_call rfl (wanted_t rfl rfl (es rfl (es rfl (es rfl (es rfl (et rfl))))) (ez rfl)) rfl Try.func37 (by kernel_rfl) rfl (args2 (es rfl (es rfl (et rfl))) (et rfl)) (Ints_c f1_251.1 (h_yv.ext hE262) ) ?_
            rintro _ w263 ⟨rfl, hx263⟩
            refine ⟨_, rfl, ?_⟩
            have hb264 := hE262.size
            have hE265 := Ext.tr hE262 hx263
            replace b2 := heap_ext hx263 b2
            replace b254 := heap_ext hx263 b254
            replace f3_242 := f3_242.ext hx263
            replace f1_251 := f1_251.ext hx263
            replace f2_251 := f2_251.ext hx263
            refine W_v rfl rfl (V_pickT rfl (es rfl (es rfl (es rfl (es rfl (es rfl (et rfl)))))) (et rfl)) ?_
            refine W_sure (c' := true) rfl rfl (V_mov rfl (et rfl)) (by simp [hC, hTn]) ?_
            refine W_v rfl (wanted_t rfl rfl (et rfl) (ez rfl)) (V_fa (off' := 1) rfl (es rfl (es rfl (es rfl (es rfl (es rfl (es rfl (es rfl (es rfl (es rfl (es rfl (es rfl (es rfl (es rfl (es rfl (es rfl (es rfl (es rfl (es rfl (es rfl (es rfl l32_258)))))))))))))))))))) Try.underlying24 rfl (by decide) rfl) ?_
            refine W_r rfl (wanted_t rfl rfl (es rfl (et rfl)) (ez rfl)) (VR_ldC rfl (et rfl) (cell_box (v := v2_251) b254 rfl) Try.underlying22 rfl) ?_
            refine W_v rfl (wanted_t rfl rfl (es rfl (es rfl (et rfl))) (ez rfl)) (V_lenI rfl (et rfl) f2_251.1 Try.underlying22) ?_
            refine W_v rfl (wanted_t rfl rfl (es rfl (es rfl (es rfl (et rfl)))) (ez rfl)) (V_eql rfl (et rfl) rfl) ?_
            refine W_v rfl rfl (V_pickT rfl (es rfl (es rfl (es rfl (es rfl (et rfl))))) (et rfl)) ?_
            refine W_sure (c' := true) rfl rfl (V_mov rfl (et rfl)) (by simp [hC, hTn]) ?_
            refine W_call rfl (wanted_t rfl rfl (et rfl) (ez rfl)) rfl Try.func12 (by kernel_rfl) rfl (args0) (awake_c  ) ?_
            rintro _ w266 ⟨rfl, hx266⟩
            refine ⟨_, rfl, ?_⟩
            have hb267 := hE265.size
            have hE268 := Ext.tr hE265 hx266
            replace b2 := heap_ext hx266 b2
            replace b254 := heap_ext hx266 b254
            replace f3_242 := f3_242.ext hx266
            replace f1_251 := f1_251.ext hx266
            replace f2_251 := f2_251.ext hx266
            refine W_v rfl rfl (V_pickT rfl (es rfl (et rfl)) (et rfl)) ?_
            refine W_v rfl rfl (V_asg rfl (et rfl)) ?_
            refine W_end ?_
            refine gen_Q (fun A269 hA269 => ?_)
            have hsz269 : SzN A269 218 := by rw [hA269]; infer_instance
            have hdf269 : A269.defers = [] := by rw [hA269]; simp only [df_put]; exact hdf258
            have l6_269 := lookE hA269 6 (et rfl)
            clear hA269 hsz258 hdf258 l3_258 l30_258 l31_258 l32_258 l33_258
            refine then_n (hK259 _ _ ?_)
            clear hK259
            refine wp_ret ?_
            refine ret_in (results_1 Try.results9 (rv_tmp l6_269)) hdf269 ?_
            -- leaf FFTFF
            exact ⟨rfl, hE268⟩
      · skip
        refine wp_skip ?_
        refine then_n (hK57 _ _ ?_)
        clear hK57
        refine wp_seq_k (fun K270 hK270 => ?_)
        -- region 17
        refine region_in ?_
        refine W_r rfl rfl (VR_ldA rfl l3_59 b2 Try.underlying24 rfl (by kernel_rfl)) ?_
        refine W_v rfl rfl (V_mov rfl (es rfl l1_59)) ?_
        refine W_v rfl rfl (V_rem rfl (et rfl) rfl (by omega) (by omega) (wrap_u8 (by omega) (by omega))) ?_
        refine W_v rfl rfl (V_eql rfl (et rfl) rfl) ?_
        refine W_call rfl rfl rfl Try.func26 (by kernel_rfl) rfl (args2 (es rfl (es rfl (es rfl (et rfl)))) (et rfl)) (Relink_c (bf := decide ((tr % 2) = 0)) (h_lv.ext hE52) (h_yv.ext hE52) (by first | omega | (simp; done) | (simp; omega)) (by first | omega | (simp; done) | (simp; omega))) ?_
        rintro _ w271 ⟨v1_271, v2_271, rfl, f1_271, f2_271, hx271⟩
        refine ⟨_, rfl, ?_⟩
        have hb272 := hE52.size
        have hE273 := Ext.tr hE52 hx271
        replace b2 := heap_ext hx271 b2
        replace b40 := heap_ext hx271 b40
        replace b49 := heap_ext hx271 b49
        replace f_32 := f_32.ext hx271
        replace f1_37 := f1_37.ext hx271
        replace f2_37 := f2_37.ext hx271
        replace f1_46 := f1_46.ext hx271
        replace f2_46 := f2_46.ext hx271
        have ul_f1_271 := fre_lo f1_271
        replace f1_271 := f1_271.base hb272
        have ul_f2_271 := fre_lo f2_271
        replace f2_271 := f2_271.base hb272
        refine W_v rfl rfl (V_mov rfl (et rfl)) ?_
        refine W_v rfl rfl (V_ext rfl (et rfl) rfl) ?_
        refine W_v rfl rfl (V_ext rfl (es rfl (et rfl)) rfl) ?_
        refine W_v rfl rfl (V_ext rfl (es rfl (es rfl (et rfl))) rfl) ?_
        refine W_alloc (z := .agg #[.slice none 0 0, .slice none 0 0]) (cs := #[.slice none 0 0, .slice none 0 0]) rfl rfl rfl (by kernel_rfl) rfl (fun g274 w274 hg274 hx274 b274 => ?_)
        have o2_274 : g2 < g274 := hg274 ▸ lt_size b2
        have o40_274 : g40 < g274 := hg274 ▸ lt_size b40
        have o49_274 : g49 < g274 := hg274 ▸ lt_size b49
        have oB_274 : w.heap.size ≤ g274 := hg274 ▸ hE273.size
        have hE275 := Ext.tr hE273 hx274
        replace b2 := heap_ext hx274 b2
        replace b40 := heap_ext hx274 b40
        replace b49 := heap_ext hx274 b49
        replace f_32 := f_32.ext hx274
        replace f1_37 := f1_37.ext hx274
        replace f2_37 := f2_37.ext hx274
        replace f1_46 := f1_46.ext hx274
        replace f2_46 := f2_46.ext hx274
        replace f1_271 := f1_271.ext hx274
        replace f2_271 := f2_271.ext hx274
        refine W_stA rfl rfl rfl (et rfl) (es rfl (es rfl (es rfl (et rfl)))) (by simp only [List.all_toArray, List.all_cons, List.all_nil, one_ints f1_271.1, one_ints f2_271.1] <;> rfl) b274 (by rfl) (by kernel_rfl) (fun w276 ht276 hb276 => ?_)
        have hE277 := ext_tch hE275 ht276 oB_274
        replace f_32 := f_32.tch ht276 b274 rfl
        replace f1_37 := f1_37.tch ht276 b274 rfl
        replace f2_37 := f2_37.tch ht276 b274 rfl
        replace f1_46 := f1_46.tch ht276 b274 rfl
        replace f2_46 := f2_46.tch ht276 b274 rfl
        replace f1_271 := f1_271.tch ht276 b274 rfl
        replace f2_271 := f2_271.tch ht276 b274 rfl
        replace b2 := box_tch b2 ht276 (Nat.ne_of_lt o2_274)
        replace b40 := box_tch b40 ht276 (Nat.ne_of_lt o40_274)
        replace b49 := box_tch b49 ht276 (Nat.ne_of_lt o49_274)
        replace b274 := hb276
        refine W_v rfl rfl (V_asg rfl (es rfl (es rfl (et rfl)))) ?_
        refine W_v rfl rfl (V_asg rfl (es rfl (es rfl (et rfl)))) ?_
        refine W_end ?_
        refine gen_Q (fun A278 hA278 => ?_)
        have hsz278 : SzN A278 218 := by rw [hA278]; infer_instance
        have hdf278 : A278.defers = [] := by rw [hA278]; simp only [df_put]; exact hdf59
        have l3_278 := lookE hA278 3 (es rfl (es rfl (es rfl (es rfl (es rfl (es rfl (es rfl (es rfl (es rfl (es rfl (es rfl (es rfl l3_59))))))))))))
        have l26_278 := lookE hA278 26 (es rfl (es rfl (et rfl)))
        have l27_278 := lookE hA278 27 (es rfl (et rfl))
        have l28_278 := lookE hA278 28 (et rfl)
        clear hA278 hsz59 hdf59 l1_59 l3_59 l10_59 l11_59 l12_59 l14_59 l16_59 l81_59
        refine then_n (hK270 _ _ ?_)
        clear hK270
        refine wp_seq_k (fun K279 hK279 => ?_)
        refine wp_seq_k (fun K280 hK280 => ?_)
        -- region 18
        refine region_mono 22 22 [none, none, none, none, none, none, none, none, some (⟨fun w v => ∃ r_s, v = r_s ∧ OwnI w w276.heap.size 3 (r_s) (wout lo (relinkS lo yo (decide ((tr % 2) = 0))).car), fun _ _ _ he ⟨r_s, h, f_s⟩ => ⟨r_s, h, f_s.ext he⟩⟩), some (⟨fun w v => v = .bool (decide (((relinkS lo yo (decide ((tr % 2) = 0))).lo) = (wout lo (relinkS lo yo (decide ((tr % 2) = 0))).car))), fun _ _ _ he h => h⟩), none, none, none, none, none, some (⟨fun w v => ∃ r_s, v = r_s ∧ OwnI w w276.heap.size 3 (r_s) (wout ((relinkS lo yo (decide ((tr % 2) = 0))).yo) (relinkS lo yo (decide ((tr % 2) = 0))).car), fun _ _ _ he ⟨r_s, h, f_s⟩ => ⟨r_s, h, f_s.ext he⟩⟩), none, none, some (⟨fun w v => v = .bool (decide ((wout ((relinkS lo yo (decide ((tr % 2) = 0))).yo) (relinkS lo yo (decide ((tr % 2) = 0))).car) = yo)), fun _ _ _ he h => h⟩)] (by kernel_rfl) (by kernel_rfl) ?_
        refine C_v rfl rfl (V_mov rfl l28_278) rfl rfl ?_
        refine C_v rfl rfl (V_eql rfl (et rfl) rfl) rfl rfl ?_
        refine C_split rfl rfl (V_mov rfl (et rfl)) rfl rfl (fun c281 => ?_) (fun c281 => ?_)
        · skip
          refine C_v rfl (wanted_t rfl rfl (et rfl) (ez rfl)) (V_fa (off' := 0) rfl (es rfl (es rfl (es rfl l26_278))) Try.underlying24 rfl (by decide) rfl) rfl rfl ?_
          refine C_r rfl (wanted_t rfl rfl (es rfl (et rfl)) (ez rfl)) (by kernel_rfl) (fun wx hx hF => (VR_ldC rfl (et rfl) (cell_box (v := v1_271) (heap_ext hx b274) rfl) Try.underlying22 rfl)) rfl rfl ?_
          refine C_v rfl (wanted_t rfl rfl (es rfl (es rfl (et rfl))) (ez rfl)) (V_fa (off' := 0) rfl (es rfl (es rfl (es rfl (es rfl (es rfl l3_278))))) Try.underlying24 rfl (by decide) rfl) rfl rfl ?_
          refine C_r rfl (wanted_t rfl rfl (es rfl (es rfl (es rfl (et rfl)))) (ez rfl)) (by kernel_rfl) (fun wx hx hF => (VR_ldC rfl (et rfl) (cell_box (v := lv) (heap_ext hx b2) rfl) Try.underlying22 rfl)) rfl rfl ?_
          refine C_v rfl (wanted_t rfl rfl (es rfl (es rfl (es rfl (es rfl (et rfl))))) (ez rfl)) (V_mov rfl (es rfl (es rfl (es rfl (es rfl (es rfl (es rfl (es rfl l27_278)))))))) rfl rfl ?_
          refine C_call rfl (wanted_t rfl rfl (es rfl (es rfl (es rfl (es rfl (es rfl (et rfl)))))) (ez rfl)) rfl Try.func38 (by kernel_rfl) rfl (args2 (es rfl (et rfl)) (et rfl)) rfl rfl (fun wx hx hF => ?_) (fun u282 hu282 => ?_)
          · refine (without_c (n := (relinkS lo yo (decide ((tr % 2) = 0))).car) (h_lv.ext (Ext.tr hE277 hx)) (by first | omega | (simp; omega) | (split <;> omega))).mono ?_
            rintro _ w282 ⟨r_282, rfl, f_282, hz⟩
            exact ⟨_, rfl, hz, _, rfl, f_282.base hx.size⟩
          obtain ⟨_, _, r_282, rfl, _⟩ := hu282
          refine C_call rfl (wanted_t rfl rfl (es rfl (es rfl (es rfl (es rfl (es rfl (es rfl (et rfl))))))) (ez rfl)) rfl Try.func37 (by kernel_rfl) rfl (args2 (es rfl (es rfl (es rfl (es rfl (et rfl))))) (et rfl)) rfl rfl (fun wx hx hF => ?_) (fun u283 hu283 => ?_)
          · obtain ⟨r_282q, hq282, f_282⟩ := ancF_get hF (by kernel_rfl); cases hq282; refine (Ints_c (f1_271.1.ext hx) f_282.ints ).mono ?_
            rintro _ w283 ⟨rfl, hz⟩
            exact ⟨_, rfl, hz, rfl⟩
          obtain ⟨_, _, rfl⟩ := hu283
          refine C_v rfl (wanted_t rfl rfl (es rfl (es rfl (es rfl (es rfl (es rfl (es rfl (es rfl (et rfl)))))))) (ez rfl)) (V_notd rfl (et rfl)) rfl rfl ?_
          refine C_sure (c' := false) rfl (wanted_t rfl rfl (es rfl (es rfl (es rfl (es rfl (es rfl (es rfl (es rfl (es rfl (et rfl))))))))) (ez rfl)) (V_mov rfl (et rfl)) (by simp [(orders_R hgood c281 true).1, (orders_R hgood c281 true).2]) rfl rfl ?_
          refine C_v rfl (wanted_t rfl rfl (et rfl) (ez rfl)) (V_fa (off' := 1) rfl (es rfl (es rfl (es rfl (es rfl (es rfl (es rfl (es rfl (es rfl (es rfl (es rfl (es rfl (es rfl l26_278)))))))))))) Try.underlying24 rfl (by decide) rfl) rfl rfl ?_
          refine C_r rfl (wanted_t rfl rfl (es rfl (et rfl)) (ez rfl)) (by kernel_rfl) (fun wx hx hF => (VR_ldC rfl (et rfl) (cell_box (v := v2_271) (heap_ext hx b274) rfl) Try.underlying22 rfl)) rfl rfl ?_
          refine C_v rfl (wanted_t rfl rfl (es rfl (es rfl (et rfl))) (ez rfl)) (V_mov rfl (es rfl (es rfl (es rfl (es rfl (es rfl (es rfl (es rfl (es rfl (es rfl (es rfl (es rfl (es rfl (es rfl (es rfl l27_278))))))))))))))) rfl rfl ?_
          refine C_call rfl (wanted_t rfl rfl (es rfl (es rfl (es rfl (et rfl)))) (ez rfl)) rfl Try.func38 (by kernel_rfl) rfl (args2 (es rfl (et rfl)) (et rfl)) rfl rfl (fun wx hx hF => ?_) (fun u284 hu284 => ?_)
          · refine (without_c (n := (relinkS lo yo (decide ((tr % 2) = 0))).car) (f2_271.1.ext hx) (by first | omega | (simp; omega) | (split <;> omega))).mono ?_
            rintro _ w284 ⟨r_284, rfl, f_284, hz⟩
            exact ⟨_, rfl, hz, _, rfl, f_284.base hx.size⟩
          obtain ⟨_, _, r_284, rfl, _⟩ := hu284
          refine C_v rfl (wanted_t rfl rfl (es rfl (es rfl (es rfl (es rfl (et rfl))))) (ez rfl)) (V_fa (off' := 1) rfl (es rfl (es rfl (es rfl (es rfl (es rfl (es rfl (es rfl (es rfl (es rfl (es rfl (es rfl (es rfl (es rfl (es rfl (es rfl (es rfl l3_278)))))))))))))))) Try.underlying24 rfl (by decide) rfl) rfl rfl ?_
          refine C_r rfl (wanted_t rfl rfl (es rfl (es rfl (es rfl (es rfl (es rfl (et rfl)))))) (ez rfl)) (by kernel_rfl) (fun wx hx hF => (VR_ldC rfl (et rfl) (cell_box (v := yv) (heap_ext hx b2) rfl) Try.underlying22 rfl)) rfl rfl ?_
          refine C_call rfl (wanted_t rfl rfl (es rfl (es rfl (es rfl (es rfl (es rfl (es rfl (et rfl))))))) (ez rfl)) rfl Try.func37 (by kernel_rfl) rfl (args2 (es rfl (es rfl (et rfl))) (et rfl)) rfl rfl (fun wx hx hF => ?_) (fun u285 hu285 => ?_)
          · obtain ⟨r_284q, hq284, f_284⟩ := ancF_get hF (by kernel_rfl); cases hq284; refine (Ints_c f_284.ints (h_yv.ext (Ext.tr hE277 hx)) ).mono ?_
            rintro _ w285 ⟨rfl, hz⟩
            exact ⟨_, rfl, hz, rfl⟩
          obtain ⟨_, _, rfl⟩ := hu285
          refine C_v rfl (wanted_t rfl rfl (es rfl (es rfl (es rfl (es rfl (es rfl (es rfl (es rfl (et rfl)))))))) (ez rfl)) (V_notd rfl (et rfl)) rfl rfl ?_
          refine C_v rfl (wanted_t rfl rfl (es rfl (es rfl (es rfl (es rfl (es rfl (es rfl (es rfl (es rfl (es rfl (es rfl (es rfl (es rfl (es rfl (es rfl (es rfl (es rfl (es rfl (et rfl)))))))))))))))))) (ez rfl)) (V_pickF rfl (es rfl (es rfl (es rfl (es rfl (es rfl (es rfl (es rfl (es rfl (et rfl))))))))) (et rfl)) rfl rfl ?_
          refine C_v rfl rfl (V_pickT rfl (es rfl (es rfl (es rfl (es rfl (es rfl (es rfl (es rfl (es rfl (es rfl (es rfl (es rfl (es rfl (es rfl (es rfl (es rfl (es rfl (es rfl (es rfl (et rfl))))))))))))))))))) (et rfl)) rfl rfl ?_
          refine Z_none (Nat.le_refl _) (Nat.le_refl _) (fun w286 hz286 hF286 => ?_)
          obtain ⟨r_282q, hq282, f_282⟩ := all_get (all_rest (all_rest (all_rest hF286))); cases hq282
          obtain hq283 := all_get (all_rest (all_rest hF286)); cases hq283
          obtain ⟨r_284q, hq284, f_284⟩ := all_get (all_rest hF286); cases hq284
          obtain hq285 := all_get hF286; cases hq285
          clear hF286
          have hR286 := hE277.size
          have hE287 := Ext.tr hE277 hz286
          replace b2 := heap_ext hz286 b2
          replace b274 := heap_ext hz286 b274
          replace f1_271 := f1_271.ext hz286
          replace f2_271 := f2_271.ext hz286
          have ul_f_282 := fre_lo f_282.fre
          replace f_282 := f_282.base hR286
          have ul_f_284 := fre_lo f_284.fre
          replace f_284 := f_284.base hR286
          refine gen_Q (fun A288 hA288 => ?_)
          have hsz288 : SzN A288 218 := by rw [hA288]; infer_instance
          have hdf288 : A288.defers = [] := by rw [hA288]; simp only [df_put]; exact hdf278
          have l3_288 := lookE hA288 3 (es rfl (es rfl (es rfl (es rfl (es rfl (es rfl (es rfl (es rfl (es rfl (es rfl (es rfl (es rfl (es rfl (es rfl (es rfl (es rfl (es rfl (es rfl (es rfl (es rfl (es rfl (es rfl l3_278))))))))))))))))))))))
          have l178_288 := lookE hA288 178 (et rfl)
          clear hA288 hsz278 hdf278 l3_278 l26_278 l27_278 l28_278
          refine then_n (hK280 _ _ ?_)
          clear hK280
          refine cond_not l178_288 (by simp [(orders_R hgood c281 true).1, (orders_R hgood c281 true).2]) ?_
          refine wp_skip ?_
          refine then_n (hK279 _ _ ?_)
          clear hK279
          refine wp_seq_k (fun K289 hK289 => ?_)
          -- region 20
          refine region_in ?_
          refine W_r rfl rfl (VR_ldA rfl l3_288 b2 Try.underlying24 rfl (by kernel_rfl)) ?_
          refine W_call rfl rfl rfl Try.func27 (by kernel_rfl) rfl (args1 (et rfl)) (Clear_c (h_lv.ext hE287) (h_yv.ext hE287) ) ?_
          rintro _ w290 ⟨v1_290, v2_290, u_290, rfl, f1_290, f2_290, f3_290, hx290⟩
          refine ⟨_, rfl, ?_⟩
          have hb291 := hE287.size
          have hE292 := Ext.tr hE287 hx290
          replace b2 := heap_ext hx290 b2
          have ul_f1_290 := fre_lo f1_290
          replace f1_290 := f1_290.base hb291
          have ul_f2_290 := fre_lo f2_290
          replace f2_290 := f2_290.base hb291
          have ul_f3_290 := fre_lo f3_290
          replace f3_290 := f3_290.base hb291
          refine W_v rfl rfl (V_mov rfl (et rfl)) ?_
          refine W_v rfl rfl (V_ext rfl (et rfl) rfl) ?_
          refine W_v rfl rfl (V_ext rfl (es rfl (et rfl)) rfl) ?_
          refine W_v rfl rfl (V_ext rfl (es rfl (es rfl (et rfl))) rfl) ?_
          refine W_alloc (z := .agg #[.slice none 0 0, .slice none 0 0]) (cs := #[.slice none 0 0, .slice none 0 0]) rfl rfl rfl (by kernel_rfl) rfl (fun g293 w293 hg293 hx293 b293 => ?_)
          have o2_293 : g2 < g293 := hg293 ▸ lt_size b2
          have oB_293 : w.heap.size ≤ g293 := hg293 ▸ hE292.size
          have hE294 := Ext.tr hE292 hx293
          replace b2 := heap_ext hx293 b2
          replace f1_290 := f1_290.ext hx293
          replace f2_290 := f2_290.ext hx293
          replace f3_290 := f3_290.ext hx293
          refine W_stA rfl rfl rfl (et rfl) (es rfl (es rfl (es rfl (et rfl)))) (by simp only [List.all_toArray, List.all_cons, List.all_nil, one_ints f1_290.1, one_ints f2_290.1] <;> rfl) b293 (by rfl) (by kernel_rfl) (fun w295 ht295 hb295 => ?_)
          have hE296 := ext_tch hE294 ht295 oB_293
          replace f1_290 := f1_290.tch ht295 b293 rfl
          replace f2_290 := f2_290.tch ht295 b293 rfl
          replace f3_290 := f3_290.tch ht295 b293 rfl
          replace b2 := box_tch b2 ht295 (Nat.ne_of_lt o2_293)
          replace b293 := hb295
          refine W_v rfl rfl (V_asg rfl (es rfl (es rfl (et rfl)))) ?_
          refine W_v rfl rfl (V_asg rfl (es rfl (es rfl (et rfl)))) ?_
          refine W_end ?_
          refine gen_Q (fun A297 hA297 => ?_)
          have hsz297 : SzN A297 218 := by rw [hA297]; infer_instance
          have hdf297 : A297.defers = [] := by rw [hA297]; simp only [df_put]; exact hdf288
          have l3_297 := lookE hA297 3 (es rfl (es rfl (es rfl (es rfl (es rfl (es rfl (es rfl (es rfl (es rfl l3_288)))))))))
          have l29_297 := lookE hA297 29 (es rfl (es rfl (et rfl)))
          have l30_297 := lookE hA297 30 (es rfl (et rfl))
          have l31_297 := lookE hA297 31 (et rfl)
          clear hA297 hsz288 hdf288 l3_288 l178_288
          refine then_n (hK289 _ _ ?_)
          clear hK289
          refine wp_seq_k (fun K298 hK298 => ?_)
          -- region 21
          refine region_in ?_
          refine W_r rfl rfl (VR_ldA rfl l29_297 b293 Try.underlying24 rfl (by kernel_rfl)) ?_
          refine W_call rfl rfl rfl Try.func34 (by kernel_rfl) rfl (args1 (et rfl)) (Turn_c f1_290.1 f2_290.1 ) ?_
          rintro _ w299 ⟨v1_299, v2_299, rfl, f1_299, f2_299, hx299⟩
          refine ⟨_, rfl, ?_⟩
          have hb300 := hE296.size
          have hE301 := Ext.tr hE296 hx299
          replace b2 := heap_ext hx299 b2
          replace b293 := heap_ext hx299 b293
          replace f1_290 := f1_290.ext hx299
          replace f2_290 := f2_290.ext hx299
          replace f3_290 := f3_290.ext hx299
          have ul_f1_299 := fre_lo f1_299
          replace f1_299 := f1_299.base hb300
          have ul_f2_299 := fre_lo f2_299
          replace f2_299 := f2_299.base hb300
          refine W_v rfl rfl (V_mov rfl (et rfl)) ?_
          refine W_v rfl rfl (V_ext rfl (et rfl) rfl) ?_
          refine W_v rfl rfl (V_ext rfl (es rfl (et rfl)) rfl) ?_
          refine W_alloc (z := .agg #[.slice none 0 0, .slice none 0 0]) (cs := #[.slice none 0 0, .slice none 0 0]) rfl rfl rfl (by kernel_rfl) rfl (fun g302 w302 hg302 hx302 b302 => ?_)
          have o2_302 : g2 < g302 := hg302 ▸ lt_size b2
          have o293_302 : g293 < g302 := hg302 ▸ lt_size b293
          have oB_302 : w.heap.size ≤ g302 := hg302 ▸ hE301.size
          have hE303 := Ext.tr hE301 hx302
          replace b2 := heap_ext hx302 b2
          replace b293 := heap_ext hx302 b293
          replace f1_290 := f1_290.ext hx302
          replace f2_290 := f2_290.ext hx302
          replace f3_290 := f3_290.ext hx302
          replace f1_299 := f1_299.ext hx302
          replace f2_299 := f2_299.ext hx302
          refine W_stA rfl rfl rfl (et rfl) (es rfl (es rfl (et rfl))) (by simp only [List.all_toArray, List.all_cons, List.all_nil, one_ints f1_299.1, one_ints f2_299.1] <;> rfl) b302 (by rfl) (by kernel_rfl) (fun w304 ht304 hb304 => ?_)
          have hE305 := ext_tch hE303 ht304 oB_302
          replace f1_290 := f1_290.tch ht304 b302 rfl
          replace f2_290 := f2_290.tch ht304 b302 rfl
          replace f3_290 := f3_290.tch ht304 b302 rfl
          replace f1_299 := f1_299.tch ht304 b302 rfl
          replace f2_299 := f2_299.tch ht304 b302 rfl
          replace b2 := box_tch b2 ht304 (Nat.ne_of_lt o2_302)
          replace b293 := box_tch b293 ht304 (Nat.ne_of_lt o293_302)
          replace b302 := hb304
          refine W_v rfl rfl (V_asg rfl (es rfl (et rfl))) ?_
          refine W_end ?_
          refine gen_Q (fun A306 hA306 => ?_)
          have hsz306 : SzN A306 218 := by rw [hA306]; infer_instance
          have hdf306 : A306.defers = [] := by rw [hA306]; simp only [df_put]; exact hdf297
          have l3_306 := lookE hA306 3 (es rfl (es rfl (es rfl (es rfl (es rfl (es rfl (es rfl l3_297)))))))
          have l30_306 := lookE hA306 30 (es rfl (es rfl (es rfl (es rfl (es rfl (es rfl (es rfl l30_297)))))))
          have l31_306 := lookE hA306 31 (es rfl (es rfl (es rfl (es rfl (es rfl (es rfl (es rfl l31_297)))))))
          have l32_306 := lookE hA306 32 (es rfl (et rfl))
          have l33_306 := lookE hA306 33 (et rfl)
          clear hA306 hsz297 hdf297 l3_297 l29_297 l30_297 l31_297
          refine then_n (hK298 _ _ ?_)
          clear hK298
          refine wp_seq_k (fun K307 hK307 => ?_)
          -- region 22
          refine region_in ?_
          refine W_v rfl rfl (V_mov rfl l31_306) ?_
          refine W_v rfl rfl (V_eql rfl (et rfl) rfl) ?_
          refine W_sure (c' := true) rfl rfl (V_mov rfl (et rfl)) (by simp [hC]) ?_
          refine W_v rfl (wanted_t rfl rfl (et rfl) (ez rfl)) (V_mov rfl (es rfl (es rfl (es rfl l33_306)))) ?_
          refine W_v rfl (wanted_t rfl rfl (es rfl (et rfl)) (ez rfl)) (V_eql rfl (et rfl) rfl) ?_
          refine W_v rfl rfl (V_pickT rfl (es rfl (es rfl (et rfl))) (et rfl)) ?_
          refine W_sure (c' := true) rfl rfl (V_mov rfl (et rfl)) (by simp [hC, hTn]) ?_
          refine W_v rfl (wanted_t rfl rfl (et rfl) (ez rfl)) (V_mov rfl (es rfl (es rfl (es rfl (es rfl (es rfl (es rfl (es rfl l30_306)))))))) ?_
          refine W_v rfl (wanted_t rfl rfl (es rfl (et rfl)) (ez rfl)) (V_fa (off' := 0) rfl (es rfl (es rfl (es rfl (es rfl (es rfl (es rfl (es rfl (es rfl l3_306)))))))) Try.underlying24 rfl (by decide) rfl) ?_
          refine W_r rfl (wanted_t rfl rfl (es rfl (es rfl (et rfl))) (ez rfl)) (VR_ldC rfl (et rfl) (cell_box (v := lv) b2 rfl) Try.underlying22 rfl) ?_
          refine W_call rfl (wanted_t rfl rfl (es rfl (es rfl (es rfl (et rfl)))) (ez rfl)) rfl Try.func37 (by kernel_rfl) rfl (args2 (es rfl (es rfl (et rfl))) (et rfl)) (Ints_c f3_290.1 (h_lv.ext hE305) ) ?_
          rintro _ w308 ⟨rfl, hx308⟩
          refine ⟨_, rfl, ?_⟩
          have hb309 := hE305.size
          have hE310 := Ext.tr hE305 hx308
          replace b2 := heap_ext hx308 b2
          replace b302 := heap_ext hx308 b302
          replace f3_290 := f3_290.ext hx308
          replace f1_299 := f1_299.ext hx308
          replace f2_299 := f2_299.ext hx308
          refine W_v rfl rfl (V_pickT rfl (es rfl (es rfl (es rfl (es rfl (et rfl))))) (et rfl)) ?_
          refine W_sure (c' := true) rfl rfl (V_mov rfl (et rfl)) (by simp [hC]) ?_
          refine W_v rfl (wanted_t rfl rfl (et rfl) (ez rfl)) (V_fa (off' := 0) rfl (es rfl (es rfl (es rfl (es rfl (es rfl (es rfl (es rfl (es rfl (es rfl (es rfl (es rfl (es rfl (es rfl l32_306))))))))))))) Try.underlying24 rfl (by decide) rfl) ?_
          refine W_r rfl (wanted_t rfl rfl (es rfl (et rfl)) (ez rfl)) (VR_ldC rfl (et rfl) (cell_box (v := v1_299) b302 rfl) Try.underlying22 rfl) ?_
          refine W_v rfl (wanted_t rfl rfl (es rfl (es rfl (et rfl))) (ez rfl)) (V_fa (off' := 1) rfl (es rfl (es rfl (es rfl (es rfl (es rfl (es rfl (es rfl (es rfl (es rfl (es rfl (es rfl (es rfl (es rfl (es rfl (es rfl l3_306))))))))))))))) Try.underlying24 rfl (by decide) rfl) ?_
          refine W_r rfl (wanted_t rfl rfl (es rfl (es rfl (es rfl (et rfl)))) (ez rfl)) (VR_ldC rfl (et rfl) (cell_box (v := yv) b2 rfl) Try.underlying22 rfl) ?_
          refine W_call rfl (wanted_t rfl rfl (es rfl (es rfl (es rfl (es rfl (et rfl))))) (ez rfl)) rfl Try.func37 (by kernel_rfl) rfl (args2 (es rfl (es rfl (et rfl))) (et rfl)) (Ints_c f1_299.1 (h_yv.ext hE310) ) ?_
          rintro _ w311 ⟨rfl, hx311⟩
          refine ⟨_, rfl, ?_⟩
          have hb312 := hE310.size
          have hE313 := Ext.tr hE310 hx311
          replace b2 := heap_ext hx311 b2
          replace b302 := heap_ext hx311 b302
          replace f3_290 := f3_290.ext hx311
          replace f1_299 := f1_299.ext hx311
          replace f2_299 := f2_299.ext hx311
          refine W_v rfl rfl (V_pickT rfl (es rfl (es rfl (es rfl (es rfl (es rfl (et rfl)))))) (et rfl)) ?_
          refine W_sure (c' := true) rfl rfl (V_mov rfl (et rfl)) (by simp [hC, hTn]) ?_
          refine W_v rfl (wanted_t rfl rfl (et rfl) (ez rfl)) (V_fa (off' := 1) rfl (es rfl (es rfl (es rfl (es rfl (es rfl (es rfl (es rfl (es rfl (es rfl (es rfl (es rfl (es rfl (es rfl (es rfl (es rfl (es rfl (es rfl (es rfl (es rfl (es rfl l32_306)))))))))))))))))))) Try.underlying24 rfl (by decide) rfl) ?_
          refine W_r rfl (wanted_t rfl rfl (es rfl (et rfl)) (ez rfl)) (VR_ldC rfl (et rfl) (cell_box (v := v2_299) b302 rfl) Try.underlying22 rfl) ?_
          refine W_v rfl (wanted_t rfl rfl (es rfl (es rfl (et rfl))) (ez rfl)) (V_lenI rfl (et rfl) f2_299.1 Try.underlying22) ?_
          refine W_v rfl (wanted_t rfl rfl (es rfl (es rfl (es rfl (et rfl)))) (ez rfl)) (V_eql rfl (et rfl) rfl) ?_
          refine W_v rfl rfl (V_pickT rfl (es rfl (es rfl (es rfl (es rfl (et rfl))))) (et rfl)) ?_
          refine W_sure (c' := true) rfl rfl (V_mov rfl (et rfl)) (by simp [hC, hTn]) ?_
          refine W_call rfl (wanted_t rfl rfl (et rfl) (ez rfl)) rfl Try.func12 (by kernel_rfl) rfl (args0) (awake_c  ) ?_
          rintro _ w314 ⟨rfl, hx314⟩
          refine ⟨_, rfl, ?_⟩
          have hb315 := hE313.size
          have hE316 := Ext.tr hE313 hx314
          replace b2 := heap_ext hx314 b2
          replace b302 := heap_ext hx314 b302
          replace f3_290 := f3_290.ext hx314
          replace f1_299 := f1_299.ext hx314
          replace f2_299 := f2_299.ext hx314
          refine W_v rfl rfl (V_pickT rfl (es rfl (et rfl)) (et rfl)) ?_
          refine W_v rfl rfl (V_asg rfl (et rfl)) ?_
          refine W_end ?_
          refine gen_Q (fun A317 hA317 => ?_)
          have hsz317 : SzN A317 218 := by rw [hA317]; infer_instance
          have hdf317 : A317.defers = [] := by rw [hA317]; simp only [df_put]; exact hdf306
          have l6_317 := lookE hA317 6 (et rfl)
          clear hA317 hsz306 hdf306 l3_306 l30_306 l31_306 l32_306 l33_306
          refine then_n (hK307 _ _ ?_)
          clear hK307
          refine wp_ret ?_
          refine ret_in (results_1 Try.results9 (rv_tmp l6_317)) hdf317 ?_
          -- leaf FFFT
          exact ⟨rfl, hE316⟩
        · skip
          refine C_off rfl (wanted_f rfl rfl (et rfl) (ez rfl) rfl) rfl ?_
          refine C_off rfl (wanted_f rfl rfl (es rfl (et rfl)) (ez rfl) rfl) rfl ?_
          refine C_off rfl (wanted_f rfl rfl (es rfl (es rfl (et rfl))) (ez rfl) rfl) rfl ?_
          refine C_off rfl (wanted_f rfl rfl (es rfl (es rfl (es rfl (et rfl)))) (ez rfl) rfl) rfl ?_
          refine C_off rfl (wanted_f rfl rfl (es rfl (es rfl (es rfl (es rfl (et rfl))))) (ez rfl) rfl) rfl ?_
          refine C_off rfl (wanted_f rfl rfl (es rfl (es rfl (es rfl (es rfl (es rfl (et rfl)))))) (ez rfl) rfl) rfl ?_
          refine C_off rfl (wanted_f rfl rfl (es rfl (es rfl (es rfl (es rfl (es rfl (es rfl (et rfl))))))) (ez rfl) rfl) rfl ?_
          refine C_off rfl (wanted_f rfl rfl (es rfl (es rfl (es rfl (es rfl (es rfl (es rfl (es rfl (et rfl)))))))) (ez rfl) rfl) rfl ?_
          refine C_off rfl (wanted_f rfl rfl (es rfl (es rfl (es rfl (es rfl (es rfl (es rfl (es rfl (es rfl (et rfl))))))))) (ez rfl) rfl) rfl ?_
          refine C_off rfl (wanted_u rfl rfl (et rfl) (ez rfl)) rfl ?_
          refine C_off rfl (wanted_u rfl rfl (es rfl (et rfl)) (ez rfl)) rfl ?_
          refine C_off rfl (wanted_u rfl rfl (es rfl (es rfl (et rfl))) (ez rfl)) rfl ?_
          refine C_off rfl (wanted_u rfl rfl (es rfl (es rfl (es rfl (et rfl)))) (ez rfl)) rfl ?_
          refine C_off rfl (wanted_u rfl rfl (es rfl (es rfl (es rfl (es rfl (et rfl))))) (ez rfl)) rfl ?_
          refine C_off rfl (wanted_u rfl rfl (es rfl (es rfl (es rfl (es rfl (es rfl (et rfl)))))) (ez rfl)) rfl ?_
          refine C_off rfl (wanted_u rfl rfl (es rfl (es rfl (es rfl (es rfl (es rfl (es rfl (et rfl))))))) (ez rfl)) rfl ?_
          refine C_off rfl (wanted_u rfl rfl (es rfl (es rfl (es rfl (es rfl (es rfl (es rfl (es rfl (et rfl)))))))) (ez rfl)) rfl ?_
          refine C_off rfl (wanted_f rfl rfl (es rfl (es rfl (es rfl (es rfl (es rfl (es rfl (es rfl (es rfl (es rfl (es rfl (es rfl (es rfl (es rfl (es rfl (es rfl (es rfl (es rfl (et rfl)))))))))))))))))) (ez rfl) rfl) rfl ?_
          refine C_v rfl rfl (V_pickF rfl (es rfl (es rfl (es rfl (es rfl (es rfl (es rfl (es rfl (es rfl (es rfl (es rfl (es rfl (es rfl (es rfl (es rfl (es rfl (es rfl (es rfl (es rfl (et rfl))))))))))))))))))) rfl) rfl rfl ?_
          refine Z_none (Nat.le_refl _) (Nat.le_refl _) (fun w318 hz318 hF318 => ?_)
          clear hF318
          have hR318 := hE277.size
          have hE319 := Ext.tr hE277 hz318
          replace b2 := heap_ext hz318 b2
          replace b274 := heap_ext hz318 b274
          replace f1_271 := f1_271.ext hz318
          replace f2_271 := f2_271.ext hz318
          refine gen_Q (fun A320 hA320 => ?_)
          have hsz320 : SzN A320 218 := by rw [hA320]; infer_instance
          have hdf320 : A320.defers = [] := by rw [hA320]; simp only [df_put]; exact hdf278
          have l3_320 := lookE hA320 3 (es rfl (es rfl (es rfl (es rfl (es rfl (es rfl (es rfl (es rfl (es rfl (es rfl (es rfl (es rfl (es rfl (es rfl (es rfl (es rfl (es rfl (es rfl (es rfl (es rfl (es rfl (es rfl l3_278))))))))))))))))))))))
          have l178_320 := lookE hA320 178 (et rfl)
          clear hA320 hsz278 hdf278 l3_278 l26_278 l27_278 l28_278
          refine then_n (hK280 _ _ ?_)
          clear hK280
          refine cond_f l178_320 ?_
          refine wp_skip ?_
          refine then_n (hK279 _ _ ?_)
          clear hK279
          refine wp_seq_k (fun K321 hK321 => ?_)
          -- region 20
          refine region_in ?_
          refine W_r rfl rfl (VR_ldA rfl l3_320 b2 Try.underlying24 rfl (by kernel_rfl)) ?_
          refine W_call rfl rfl rfl Try.func27 (by kernel_rfl) rfl (args1 (et rfl)) (Clear_c (h_lv.ext hE319) (h_yv.ext hE319) ) ?_
          rintro _ w322 ⟨v1_322, v2_322, u_322, rfl, f1_322, f2_322, f3_322, hx322⟩
          refine ⟨_, rfl, ?_⟩
          have hb323 := hE319.size
          have hE324 := Ext.tr hE319 hx322
          replace b2 := heap_ext hx322 b2
          have ul_f1_322 := fre_lo f1_322
          replace f1_322 := f1_322.base hb323
          have ul_f2_322 := fre_lo f2_322
          replace f2_322 := f2_322.base hb323
          have ul_f3_322 := fre_lo f3_322
          replace f3_322 := f3_322.base hb323
          refine W_v rfl rfl (V_mov rfl (et rfl)) ?_
          refine W_v rfl rfl (V_ext rfl (et rfl) rfl) ?_
          refine W_v rfl rfl (V_ext rfl (es rfl (et rfl)) rfl) ?_
          refine W_v rfl rfl (V_ext rfl (es rfl (es rfl (et rfl))) rfl) ?_
          refine W_alloc (z := .agg #[.slice none 0 0, .slice none 0 0]) (cs := #[.slice none 0 0, .slice none 0 0]) rfl rfl rfl (by kernel_rfl) rfl (fun g325 w325 hg325 hx325 b325 => ?_)
          have o2_325 : g2 < g325 := hg325 ▸ lt_size b2
          have oB_325 : w.heap.size ≤ g325 := hg325 ▸ hE324.size
          have hE326 := Ext.tr hE324 hx325
          replace b2 := heap_ext hx325 b2
          replace f1_322 := f1_322.ext hx325
          replace f2_322 := f2_322.ext hx325
          replace f3_322 := f3_322.ext hx325
          refine W_stA rfl rfl rfl (et rfl) (es rfl (es rfl (es rfl (et rfl)))) (by simp only [List.all_toArray, List.all_cons, List.all_nil, one_ints f1_322.1, one_ints f2_322.1] <;> rfl) b325 (by rfl) (by kernel_rfl) (fun w327 ht327 hb327 => ?_)
          have hE328 := ext_tch hE326 ht327 oB_325
          replace f1_322 := f1_322.tch ht327 b325 rfl
          replace f2_322 := f2_322.tch ht327 b325 rfl
          replace f3_322 := f3_322.tch ht327 b325 rfl
          replace b2 := box_tch b2 ht327 (Nat.ne_of_lt o2_325)
          replace b325 := hb327
          refine W_v rfl rfl (V_asg rfl (es rfl (es rfl (et rfl)))) ?_
          refine W_v rfl rfl (V_asg rfl (es rfl (es rfl (et rfl)))) ?_
          refine W_end ?_
          refine gen_Q (fun A329 hA329 => ?_)
          have hsz329 : SzN A329 218 := by rw [hA329]; infer_instance
          have hdf329 : A329.defers = [] := by rw [hA329]; simp only [df_put]; exact hdf320
          have l3_329 := lookE hA329 3 (es rfl (es rfl (es rfl (es rfl (es rfl (es rfl (es rfl (es rfl (es rfl l3_320)))))))))
          have l29_329 := lookE hA329 29 (es rfl (es rfl (et rfl)))
          have l30_329 := lookE hA329 30 (es rfl (et rfl))
          have l31_329 := lookE hA329 31 (et rfl)
          clear hA329 hsz320 hdf320 l3_320 l178_320
          refine then_n (hK321 _ _ ?_)
          clear hK321
          refine wp_seq_k (fun K330 hK330 => ?_)
          -- region 21
          refine region_in ?_
          refine W_r rfl rfl (VR_ldA rfl l29_329 b325 Try.underlying24 rfl (by kernel_rfl)) ?_
          refine W_call rfl rfl rfl Try.func34 (by kernel_rfl) rfl (args1 (et rfl)) (Turn_c f1_322.1 f2_322.1 ) ?_
          rintro _ w331 ⟨v1_331, v2_331, rfl, f1_331, f2_331, hx331⟩
          refine ⟨_, rfl, ?_⟩
          have hb332 := hE328.size
          have hE333 := Ext.tr hE328 hx331
          replace b2 := heap_ext hx331 b2
          replace b325 := heap_ext hx331 b325
          replace f1_322 := f1_322.ext hx331
          replace f2_322 := f2_322.ext hx331
          replace f3_322 := f3_322.ext hx331
          have ul_f1_331 := fre_lo f1_331
          replace f1_331 := f1_331.base hb332
          have ul_f2_331 := fre_lo f2_331
          replace f2_331 := f2_331.base hb332
          refine W_v rfl rfl (V_mov rfl (et rfl)) ?_
          refine W_v rfl rfl (V_ext rfl (et rfl) rfl) ?_
          refine W_v rfl rfl (V_ext rfl (es rfl (et rfl)) rfl) ?_
          refine W_alloc (z := .agg #[.slice none 0 0, .slice none 0 0]) (cs := #[.slice none 0 0, .slice none 0 0]) rfl rfl rfl (by kernel_rfl) rfl (fun g334 w334 hg334 hx334 b334 => ?_)
          have o2_334 : g2 < g334 := hg334 ▸ lt_size b2
          have o325_334 : g325 < g334 := hg334 ▸ lt_size b325
          have oB_334 : w.heap.size ≤ g334 := hg334 ▸ hE333.size
          have hE335 := Ext.tr hE333 hx334
          replace b2 := heap_ext hx334 b2
          replace b325 := heap_ext hx334 b325
          replace f1_322 := f1_322.ext hx334
          replace f2_322 := f2_322.ext hx334
          replace f3_322 := f3_322.ext hx334
          replace f1_331 := f1_331.ext hx334
          replace f2_331 := f2_331.ext hx334
          refine W_stA rfl rfl rfl (et rfl) (es rfl (es rfl (et rfl))) (by simp only [List.all_toArray, List.all_cons, List.all_nil, one_ints f1_331.1, one_ints f2_331.1] <;> rfl) b334 (by rfl) (by kernel_rfl) (fun w336 ht336 hb336 => ?_)
          have hE337 := ext_tch hE335 ht336 oB_334
          replace f1_322 := f1_322.tch ht336 b334 rfl
          replace f2_322 := f2_322.tch ht336 b334 rfl
          replace f3_322 := f3_322.tch ht336 b334 rfl
          replace f1_331 := f1_331.tch ht336 b334 rfl
          replace f2_331 := f2_331.tch ht336 b334 rfl
          replace b2 := box_tch b2 ht336 (Nat.ne_of_lt o2_334)
          replace b325 := box_tch b325 ht336 (Nat.ne_of_lt o325_334)
          replace b334 := hb336
          refine W_v rfl rfl (V_asg rfl (es rfl (et rfl))) ?_
          refine W_end ?_
          refine gen_Q (fun A338 hA338 => ?_)
          have hsz338 : SzN A338 218 := by rw [hA338]; infer_instance
          have hdf338 : A338.defers = [] := by rw [hA338]; simp only [df_put]; exact hdf329
          have l3_338 := lookE hA338 3 (es rfl (es rfl (es rfl (es rfl (es rfl (es rfl (es rfl l3_329)))))))
          have l30_338 := lookE hA338 30 (es rfl (es rfl (es rfl (es rfl (es rfl (es rfl (es rfl l30_329)))))))
          have l31_338 := lookE hA338 31 (es rfl (es rfl (es rfl (es rfl (es rfl (es rfl (es rfl l31_329)))))))
          have l32_338 := lookE hA338 32 (es rfl (et rfl))
          have l33_338 := lookE hA338 33 (et rfl)
          clear hA338 hsz329 hdf329 l3_329 l29_329 l30_329 l31_329
          refine then_n (hK330 _ _ ?_)
          clear hK330
          refine wp_seq_k (fun K339 hK339 => ?_)
          -- region 22
          refine region_in ?_
          refine W_v rfl rfl (V_mov rfl l31_338) ?_
          refine W_v rfl rfl (V_eql rfl (et rfl) rfl) ?_
          refine W_sure (c' := true) rfl rfl (V_mov rfl (et rfl)) (by simp [hC]) ?_
          refine W_v rfl (wanted_t rfl rfl (et rfl) (ez rfl)) (V_mov rfl (es rfl (es rfl (es rfl l33_338)))) ?_
          refine W_v rfl (wanted_t rfl rfl (es rfl (et rfl)) (ez rfl)) (V_eql rfl (et rfl) rfl) ?_
          refine W_v rfl rfl (V_pickT rfl (es rfl (es rfl (et rfl))) (et rfl)) ?_
          refine W_sure (c' := true) rfl rfl (V_mov rfl (et rfl)) (by simp [hC, hTn]) ?_
          refine W_v rfl (wanted_t rfl rfl (et rfl) (ez rfl)) (V_mov rfl (es rfl (es rfl (es rfl (es rfl (es rfl (es rfl (es rfl l30_338)))))))) ?_
          refine W_v rfl (wanted_t rfl rfl (es rfl (et rfl)) (ez rfl)) (V_fa (off' := 0) rfl (es rfl (es rfl (es rfl (es rfl (es rfl (es rfl (es rfl (es rfl l3_338)))))))) Try.underlying24 rfl (by decide) rfl) ?_
          refine W_r rfl (wanted_t rfl rfl (es rfl (es rfl (et rfl))) (ez rfl)) (VR_ldC rfl (et rfl) (cell_box (v := lv) b2 rfl) Try.underlying22 rfl) ?_
          refine W_call rfl (wanted_t rfl rfl (es rfl (es rfl (es rfl (et rfl)))) (ez rfl)) rfl Try.func37 (by kernel_rfl) rfl (args2 (es rfl (es rfl (et rfl))) (et rfl)) (Ints_c f3_322.1 (h_lv.ext hE337) ) ?_
          rintro _ w340 ⟨rfl, hx340⟩
          refine ⟨_, rfl, ?_⟩
          have hb341 := hE337.size
          have hE342 := Ext.tr hE337 hx340
          replace b2 := heap_ext hx340 b2
          replace b334 := heap_ext hx340 b334
          replace f3_322 := f3_322.ext hx340
          replace f1_331 := f1_331.ext hx340
          replace f2_331 := f2_331.ext hx340
          refine W_v rfl rfl (V_pickT rfl (es rfl (es rfl (es rfl (es rfl (et rfl))))) (et rfl)) ?_
          refine W_sure (c' := true) rfl rfl (V_mov rfl (et rfl)) (by simp [hC]) ?_
          refine W_v rfl (wanted_t rfl rfl (et rfl) (ez rfl)) (V_fa (off' := 0) rfl (es rfl (es rfl (es rfl (es rfl (es rfl (es rfl (es rfl (es rfl (es rfl (es rfl (es rfl (es rfl (es rfl l32_338))))))))))))) Try.underlying24 rfl (by decide) rfl) ?_
          refine W_r rfl (wanted_t rfl rfl (es rfl (et rfl)) (ez rfl)) (VR_ldC rfl (et rfl) (cell_box (v := v1_331) b334 rfl) Try.underlying22 rfl) ?_
          refine W_v rfl (wanted_t rfl rfl (es rfl (es rfl (et rfl))) (ez rfl)) (V_fa (off' := 1) rfl (es rfl (es rfl (es rfl (es rfl (es rfl (es rfl (es rfl (es rfl (es rfl (es rfl (es rfl (es rfl (es rfl (es rfl (es rfl l3_338))))))))))))))) Try.underlying24 rfl (by decide) rfl) ?_
          refine W_r rfl (wanted_t rfl rfl (es rfl (es rfl (es rfl (et rfl)))) (ez rfl)) (VR_ldC rfl (et rfl) (cell_box (v := yv) b2 rfl) Try.underlying22 rfl) ?_
          refine W_call rfl (wanted_t rfl rfl (es rfl (es rfl (es rfl (es rfl (et rfl))))) (ez rfl)) rfl Try.func37 (by kernel_rfl) rfl (args2 (es rfl (es rfl (et rfl))) (et rfl)) (Ints_c f1_331.1 (h_yv.ext hE342) ) ?_
          rintro _ w343 ⟨rfl, hx343⟩
          refine ⟨_, rfl, ?_⟩
          have hb344 := hE342.size
          have hE345 := Ext.tr hE342 hx343
          replace b2 := heap_ext hx343 b2
          replace b334 := heap_ext hx343 b334
          replace f3_322 := f3_322.ext hx343
          replace f1_331 := f1_331.ext hx343
          replace f2_331 := f2_331.ext hx343
          refine W_v rfl rfl (V_pickT rfl (es rfl (es rfl (es rfl (es rfl (es rfl (et rfl)))))) (et rfl)) ?_
          refine W_sure (c' := true) rfl rfl (V_mov rfl (et rfl)) (by simp [hC, hTn]) ?_
          refine W_v rfl (wanted_t rfl rfl (et rfl) (ez rfl)) (V_fa (off' := 1) rfl (es rfl (es rfl (es rfl (es rfl (es rfl (es rfl (es rfl (es rfl (es rfl (es rfl (es rfl (es rfl (es rfl (es rfl (es rfl (es rfl (es rfl (es rfl (es rfl (es rfl l32_338)))))))))))))))))))) Try.underlying24 rfl (by decide) rfl) ?_
          refine W_r rfl (wanted_t rfl rfl (es rfl (et rfl)) (ez rfl)) (VR_ldC rfl (et rfl) (cell_box (v := v2_331) b334 rfl) Try.underlying22 rfl) ?_
          refine W_v rfl (wanted_t rfl rfl (es rfl (es rfl (et rfl))) (ez rfl)) (V_lenI rfl (et rfl) f2_331.1 Try.underlying22) ?_
          refine W_v rfl (wanted_t rfl rfl (es rfl (es rfl (es rfl (et rfl)))) (ez rfl)) (V_eql rfl (et rfl) rfl) ?_
          refine W_v rfl rfl (V_pickT rfl (es rfl (es rfl (es rfl (es rfl (et rfl))))) (et rfl)) ?_
          refine W_sure (c' := true) rfl rfl (V_mov rfl (et rfl)) (by simp [hC, hTn]) ?_
          refine W_call rfl (wanted_t rfl rfl (et rfl) (ez rfl)) rfl Try.func12 (by kernel_rfl) rfl (args0) (awake_c  ) ?_
          rintro _ w346 ⟨rfl, hx346⟩
          refine ⟨_, rfl, ?_⟩
          have hb347 := hE345.size
          have hE348 := Ext.tr hE345 hx346
          replace b2 := heap_ext hx346 b2
          replace b334 := heap_ext hx346 b334
          replace f3_322 := f3_322.ext hx346
          replace f1_331 := f1_331.ext hx346
          replace f2_331 := f2_331.ext hx346
          refine W_v rfl rfl (V_pickT rfl (es rfl (et rfl)) (et rfl)) ?_
          refine W_v rfl rfl (V_asg rfl (et rfl)) ?_
          refine W_end ?_
          refine gen_Q (fun A349 hA349 => ?_)
          have hsz349 : SzN A349 218 := by rw [hA349]; infer_instance
          have hdf349 : A349.defers = [] := by rw [hA349]; simp only [df_put]; exact hdf338
          have l6_349 := lookE hA349 6 (et rfl)
          clear hA349 hsz338 hdf338 l3_338 l30_338 l31_338 l32_338 l33_338
          refine then_n (hK339 _ _ ?_)
          clear hK339
          refine wp_ret ?_
          refine ret_in (results_1 Try.results9 (rv_tmp l6_349)) hdf349 ?_
          -- leaf FFFF
          exact ⟨rfl, hE348⟩

end Go.Proofs.Ytfnbfmlnageflaa