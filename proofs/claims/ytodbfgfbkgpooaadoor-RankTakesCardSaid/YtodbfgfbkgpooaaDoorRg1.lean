import Derived.Test.YtodbfgfbkgpooaaDoorUc
namespace Go.Proofs.YtodbfgfbkgpooaaDoor
open Go.RowKit Go.Own


set_option maxHeartbeats 4000000 in
theorem rown_c {lv : Value} {lo : List Int} {yv : Value} {yo : List Int} {w : World} (h_lv : Ints w lv lo) (h_yv : Ints w yv yo) (h1 : lo.length ≤ 1000) (h2 : yo.length ≤ 1000) :
    Calls Tryd.prog 44 #[.agg #[lv, yv]] w fun e w' => ∃ v1 v2, e = .returned (.agg #[v1, v2]) ∧ OwnI w' w.heap.size 3 (v1) (lo) ∧ OwnI w' w.heap.size 3 (v2) (yo) ∧ Ext w w' := by
  refine calls_in 12 Tryd.func44 rfl rfl (by simp) (fun A0 hsz0 hdf0 hargs => ?_)
  have l0_0 := hargs 0 (.agg #[lv, yv]) rfl
  clear hargs; replace hsz0 : SzN A0 12 := ⟨hsz0⟩
  have hE0 := Ext.rfl' w
  refine wp_seq_k (fun K1 hK1 => ?_)
  -- region 0
  refine region_in ?_
  refine W_box (cs := #[lv, yv]) rfl rfl rfl l0_0 rfl (fun g2 w2 hg2 hx2 b2 => ?_)
  have oB_2 : w.heap.size ≤ g2 := hg2 ▸ hE0.size
  have hE3 := Ext.tr hE0 hx2
  refine W_alloc (z := .agg #[.slice none 0 0, .slice none 0 0]) (cs := #[.slice none 0 0, .slice none 0 0]) rfl rfl rfl (by kernel_rfl) rfl (fun g4 w4 hg4 hx4 b4 => ?_)
  have o2_4 : g2 < g4 := hg4 ▸ lt_size b2
  have oB_4 : w.heap.size ≤ g4 := hg4 ▸ hE3.size
  have hE5 := Ext.tr hE3 hx4
  replace b2 := heap_ext hx4 b2
  refine W_end ?_
  refine gen_Q (fun A6 hA6 => ?_)
  have hsz6 : SzN A6 12 := by rw [hA6]; infer_instance
  have hdf6 : A6.defers = [] := by rw [hA6]; simp only [df_put]; exact hdf0
  have l1_6 := lookE hA6 1 (es rfl (et rfl))
  have l2_6 := lookE hA6 2 (et rfl)
  clear hA6 hsz0 hdf0 l0_0
  refine then_n (hK1 _ _ ?_)
  clear hK1
  refine wp_seq_k (fun K7 hK7 => ?_)
  -- region 1
  refine region_mono 9 10 [some (.emp w4 3), none, none, some (.own w4 3 (lo)), some (.emp w4 3), none, none, some (.own w4 3 (yo))] (by kernel_rfl) (by kernel_rfl) ?_
  refine C_emp rfl rfl rfl Tryd.underlying22 (by kernel_rfl) rfl rfl (fun g8 => ?_)
  refine C_v rfl rfl (V_fa (off' := 0) rfl (es rfl l1_6) Tryd.underlying24 rfl (by decide) rfl) rfl rfl ?_
  refine C_r rfl rfl (by kernel_rfl) (fun wx hx hF => (VR_ldC rfl (et rfl) (cell_box (v := lv) (heap_ext hx b2) rfl) Tryd.underlying22 rfl)) rfl rfl ?_
  refine C_appE (zs := lo) rfl rfl rfl (es rfl (es rfl (et rfl))) (et rfl) Tryd.underlying22 Tryd.underlying22 (by kernel_rfl) rfl rfl (fun wx hx hF => by obtain ⟨gq0, hq0, ge0, he0⟩ := ancF_get hF (by kernel_rfl); cases hq0; exact ⟨⟨_, rfl, ge0, he0⟩, (h_lv.ext (Ext.tr hE5 hx))⟩) (by first | omega | (simp; done) | (simp; omega)) (fun v9 hu9 => ?_)
  obtain ⟨a9, c9, rfl⟩ : ∃ a c, v9 = .slice a (lo).length c := by obtain ⟨_, _, hu9⟩ := hu9; exact hu9.form
  clear hu9
  refine C_emp rfl rfl rfl Tryd.underlying22 (by kernel_rfl) rfl rfl (fun g10 => ?_)
  refine C_v rfl rfl (V_fa (off' := 1) rfl (es rfl (es rfl (es rfl (es rfl (es rfl l1_6))))) Tryd.underlying24 rfl (by decide) rfl) rfl rfl ?_
  refine C_r rfl rfl (by kernel_rfl) (fun wx hx hF => (VR_ldC rfl (et rfl) (cell_box (v := yv) (heap_ext hx b2) rfl) Tryd.underlying22 rfl)) rfl rfl ?_
  refine C_appE (zs := yo) rfl rfl rfl (es rfl (es rfl (et rfl))) (et rfl) Tryd.underlying22 Tryd.underlying22 (by kernel_rfl) rfl rfl (fun wx hx hF => by obtain ⟨gq4, hq4, ge4, he4⟩ := ancF_get hF (by kernel_rfl); cases hq4; exact ⟨⟨_, rfl, ge4, he4⟩, (h_yv.ext (Ext.tr hE5 hx))⟩) (by first | omega | (simp; done) | (simp; omega)) (fun v11 hu11 => ?_)
  obtain ⟨a11, c11, rfl⟩ : ∃ a c, v11 = .slice a (yo).length c := by obtain ⟨_, _, hu11⟩ := hu11; exact hu11.form
  clear hu11
  refine C_v rfl rfl (V_bldS (n := 2) (z := .agg #[.slice none 0 0, .slice none 0 0]) rfl (parts2 (es rfl (es rfl (es rfl (es rfl (et rfl))))) (et rfl)) (by kernel_rfl) (by simp only [List.all_cons, List.all_nil, one_ints (Ints.nil _), one_ints (Ints.nil _), Bool.and_true] <;> rfl) (by kernel_rfl) (by simp only [List.foldl_cons, List.foldl_nil, Value.cells, List.setIfInBounds_toArray, List.set_cons_succ, List.set_cons_zero] <;> rfl)) rfl rfl ?_
  refine C_eff rfl ?_
  refine Z_eff rfl rfl (fun w12 hz12 hF12 => ?_)
  obtain ⟨gq0, hq0, ge0, he0⟩ := all_get (all_rest (all_rest (all_rest hF12))); cases hq0
  obtain f9 := all_get (all_rest (all_rest hF12)); skip
  obtain ⟨gq4, hq4, ge4, he4⟩ := all_get (all_rest hF12); cases hq4
  obtain f11 := all_get hF12; skip
  clear hF12
  have hR12 := hE5.size
  have hE13 := Ext.tr hE5 hz12
  replace b2 := heap_ext hz12 b2
  replace b4 := heap_ext hz12 b4
  have ul_f9 := fre_lo f9.fre
  replace f9 := f9.base hR12
  have ul_f11 := fre_lo f11.fre
  replace f11 := f11.base hR12
  refine W_stA rfl rfl rfl (es rfl (es rfl (es rfl (es rfl (es rfl (es rfl (es rfl (es rfl (es rfl l2_6))))))))) (et rfl) (by simp only [List.all_toArray, List.all_cons, List.all_nil, one_ints f9.ints, one_ints f11.ints] <;> rfl) b4 (by rfl) (by kernel_rfl) (fun w14 ht14 hb14 => ?_)
  have hE15 := ext_tch hE13 ht14 oB_4
  replace f9 := f9.tch ht14 b4 rfl
  replace f11 := f11.tch ht14 b4 rfl
  replace b2 := box_tch b2 ht14 (Nat.ne_of_lt o2_4)
  replace b4 := hb14
  refine W_end ?_
  refine Qo_normal ?_
  refine gen_Q (fun A16 hA16 => ?_)
  have hsz16 : SzN A16 12 := by rw [hA16]; infer_instance
  have hdf16 : A16.defers = [] := by rw [hA16]; simp only [df_put]; exact hdf6
  have l2_16 := lookE hA16 2 (es rfl (es rfl (es rfl (es rfl (es rfl (es rfl (es rfl (es rfl (es rfl l2_6)))))))))
  clear hA16 hsz6 hdf6 l1_6 l2_6
  refine then_n (hK7 _ _ ?_)
  clear hK7
  refine wp_ret ?_
  refine ret_in (results_1 Tryd.results44 (rv_cellA l2_16 b4 Tryd.underlying24 rfl (by kernel_rfl))) hdf16 ?_
  -- leaf 
  exact ⟨_, _, rfl, f9, f11, hE15⟩

set_option maxHeartbeats 4000000 in
theorem rwith0_c {lv : Value} {lo : List Int} {yv : Value} {yo : List Int} {u : Value} {zs : List Int} {w : World} (h_lv : Ints w lv lo) (h_yv : Ints w yv yo) (h_u : Ints w u zs) (h1 : lo.length ≤ 1000) (h2 : yo.length ≤ 1000) :
    Calls Tryd.prog 53 #[.agg #[lv, yv], .int .i64 0, u] w fun e w' => ∃ v2, e = .returned (.agg #[u, v2]) ∧ OwnI w' w.heap.size 3 (v2) (yo) ∧ Ext w w' := by
  refine calls_in 17 Tryd.func53 rfl rfl (by simp) (fun A0 hsz0 hdf0 hargs => ?_)
  have l0_0 := hargs 0 (.agg #[lv, yv]) rfl
  have l1_0 := hargs 1 (.int .i64 0) rfl
  have l2_0 := hargs 2 (u) rfl
  clear hargs; replace hsz0 : SzN A0 17 := ⟨hsz0⟩
  have hE0 := Ext.rfl' w
  refine wp_seq_k (fun K1 hK1 => ?_)
  -- region 0
  refine region_in ?_
  refine W_box (cs := #[lv, yv]) rfl rfl rfl l0_0 rfl (fun g2 w2 hg2 hx2 b2 => ?_)
  have oB_2 : w.heap.size ≤ g2 := hg2 ▸ hE0.size
  have hE3 := Ext.tr hE0 hx2
  refine W_alloc (z := .agg #[.slice none 0 0, .slice none 0 0]) (cs := #[.slice none 0 0, .slice none 0 0]) rfl rfl rfl (by kernel_rfl) rfl (fun g4 w4 hg4 hx4 b4 => ?_)
  have o2_4 : g2 < g4 := hg4 ▸ lt_size b2
  have oB_4 : w.heap.size ≤ g4 := hg4 ▸ hE3.size
  have hE5 := Ext.tr hE3 hx4
  replace b2 := heap_ext hx4 b2
  refine W_end ?_
  refine gen_Q (fun A6 hA6 => ?_)
  have hsz6 : SzN A6 17 := by rw [hA6]; infer_instance
  have hdf6 : A6.defers = [] := by rw [hA6]; simp only [df_put]; exact hdf0
  have l1_6 := lookE hA6 1 (es rfl (es rfl l1_0))
  have l2_6 := lookE hA6 2 (es rfl (es rfl l2_0))
  have l3_6 := lookE hA6 3 (es rfl (et rfl))
  have l6_6 := lookE hA6 6 (et rfl)
  clear hA6 hsz0 hdf0 l0_0 l1_0 l2_0
  refine then_n (hK1 _ _ ?_)
  clear hK1
  refine wp_seq_k (fun K7 hK7 => ?_)
  -- region 1
  refine region_in ?_
  refine W_r rfl rfl (VR_ldA rfl l3_6 b2 Tryd.underlying24 rfl (by kernel_rfl)) ?_
  refine W_call rfl rfl rfl Tryd.func44 (by kernel_rfl) rfl (args1 (et rfl)) (rown_c (h_lv.ext hE5) (h_yv.ext hE5) (by first | omega | (simp; done) | (simp; omega)) (by first | omega | (simp; done) | (simp; omega))) ?_
  rintro _ w8 ⟨v1_8, v2_8, rfl, f1_8, f2_8, hx8⟩
  refine ⟨_, rfl, ?_⟩
  have hb9 := hE5.size
  have hE10 := Ext.tr hE5 hx8
  replace b2 := heap_ext hx8 b2
  replace b4 := heap_ext hx8 b4
  have ul_f1_8 := fre_lo f1_8.fre
  replace f1_8 := f1_8.base hb9
  have ul_f2_8 := fre_lo f2_8.fre
  replace f2_8 := f2_8.base hb9
  refine W_alloc (z := .agg #[.slice none 0 0, .slice none 0 0]) (cs := #[.slice none 0 0, .slice none 0 0]) rfl rfl rfl (by kernel_rfl) rfl (fun g11 w11 hg11 hx11 b11 => ?_)
  have o2_11 : g2 < g11 := hg11 ▸ lt_size b2
  have o4_11 : g4 < g11 := hg11 ▸ lt_size b4
  have oB_11 : w.heap.size ≤ g11 := hg11 ▸ hE10.size
  have hE12 := Ext.tr hE10 hx11
  replace b2 := heap_ext hx11 b2
  replace b4 := heap_ext hx11 b4
  replace f1_8 := f1_8.ext hx11
  replace f2_8 := f2_8.ext hx11
  refine W_stA rfl rfl rfl (et rfl) (es rfl (et rfl)) (by simp only [List.all_toArray, List.all_cons, List.all_nil, one_ints f1_8.ints, one_ints f2_8.ints] <;> rfl) b11 (by rfl) (by kernel_rfl) (fun w13 ht13 hb13 => ?_)
  have hE14 := ext_tch hE12 ht13 oB_11
  replace f1_8 := f1_8.tch ht13 b11 rfl
  replace f2_8 := f2_8.tch ht13 b11 rfl
  replace b2 := box_tch b2 ht13 (Nat.ne_of_lt o2_11)
  replace b4 := box_tch b4 ht13 (Nat.ne_of_lt o4_11)
  replace b11 := hb13
  refine W_end ?_
  refine gen_Q (fun A15 hA15 => ?_)
  have hsz15 : SzN A15 17 := by rw [hA15]; infer_instance
  have hdf15 : A15.defers = [] := by rw [hA15]; simp only [df_put]; exact hdf6
  have l1_15 := lookE hA15 1 (es rfl (es rfl (es rfl l1_6)))
  have l2_15 := lookE hA15 2 (es rfl (es rfl (es rfl l2_6)))
  have l6_15 := lookE hA15 6 (es rfl (es rfl (es rfl l6_6)))
  have l7_15 := lookE hA15 7 (et rfl)
  clear hA15 hsz6 hdf6 l1_6 l2_6 l3_6 l6_6
  refine then_n (hK7 _ _ ?_)
  clear hK7
  refine wp_seq_k (fun K16 hK16 => ?_)
  refine wp_seq_k (fun K17 hK17 => ?_)
  -- region 2
  refine region_in ?_
  refine W_v rfl rfl (V_mov rfl l1_15) ?_
  refine W_v rfl rfl (V_eql rfl (et rfl) rfl) ?_
  refine W_end ?_
  refine gen_Q (fun A18 hA18 => ?_)
  have hsz18 : SzN A18 17 := by rw [hA18]; infer_instance
  have hdf18 : A18.defers = [] := by rw [hA18]; simp only [df_put]; exact hdf15
  have l2_18 := lookE hA18 2 (es rfl (es rfl l2_15))
  have l6_18 := lookE hA18 6 (es rfl (es rfl l6_15))
  have l7_18 := lookE hA18 7 (es rfl (es rfl l7_15))
  have l11_18 := lookE hA18 11 (et rfl)
  clear hA18 hsz15 hdf15 l1_15 l2_15 l6_15 l7_15
  refine then_n (hK17 _ _ ?_)
  clear hK17
  refine cond_sure l11_18 (by simp) ?_
  -- region 3
  refine region_in ?_
  refine W_v rfl rfl (V_mov rfl l2_18) ?_
  refine W_v rfl rfl (V_fa (off' := 0) rfl (es rfl l7_18) Tryd.underlying24 rfl (by decide) rfl) ?_
  refine W_stC rfl rfl rfl (et rfl) (es rfl (et rfl)) (one_ints (h_u.ext hE14)) b11 (by rfl) (by kernel_rfl) (by simp only [List.setIfInBounds_toArray, List.set_cons_succ, List.set_cons_zero] <;> rfl) (fun w19 ht19 hb19 => ?_)
  have hE20 := ext_tch hE14 ht19 oB_11
  replace f1_8 := f1_8.tch ht19 b11 rfl
  replace f2_8 := f2_8.tch ht19 b11 rfl
  replace b4 := box_tch b4 ht19 (Nat.ne_of_lt o4_11)
  replace b11 := hb19
  refine W_end ?_
  refine gen_Q (fun A21 hA21 => ?_)
  have hsz21 : SzN A21 17 := by rw [hA21]; infer_instance
  have hdf21 : A21.defers = [] := by rw [hA21]; simp only [df_put]; exact hdf18
  have l6_21 := lookE hA21 6 (es rfl (es rfl l6_18))
  have l7_21 := lookE hA21 7 (es rfl (es rfl l7_18))
  clear hA21 hsz18 hdf18 l2_18 l6_18 l7_18 l11_18
  refine then_n (hK16 _ _ ?_)
  clear hK16
  refine wp_seq_k (fun K22 hK22 => ?_)
  -- region 5
  refine region_in ?_
  refine W_r rfl rfl (VR_ldA rfl l7_21 b11 Tryd.underlying24 rfl (by kernel_rfl)) ?_
  refine W_stA rfl rfl rfl (es rfl l6_21) (et rfl) (by simp only [List.all_toArray, List.all_cons, List.all_nil, one_ints (h_u.ext hE20), one_ints f2_8.ints] <;> rfl) b4 (by rfl) (by kernel_rfl) (fun w23 ht23 hb23 => ?_)
  have hE24 := ext_tch hE20 ht23 oB_4
  replace f2_8 := f2_8.tch ht23 b4 rfl
  replace b11 := box_tch b11 ht23 (Nat.ne_of_gt o4_11)
  replace b4 := hb23
  refine W_end ?_
  refine gen_Q (fun A25 hA25 => ?_)
  have hsz25 : SzN A25 17 := by rw [hA25]; infer_instance
  have hdf25 : A25.defers = [] := by rw [hA25]; simp only [df_put]; exact hdf21
  have l6_25 := lookE hA25 6 (es rfl l6_21)
  clear hA25 hsz21 hdf21 l6_21 l7_21
  refine then_n (hK22 _ _ ?_)
  clear hK22
  refine wp_ret ?_
  refine ret_in (results_1 Tryd.results53 (rv_cellA l6_25 b4 Tryd.underlying24 rfl (by kernel_rfl))) hdf25 ?_
  -- leaf 
  exact ⟨_, rfl, f2_8, hE24⟩

set_option maxHeartbeats 4000000 in
theorem rwith1_c {lv : Value} {lo : List Int} {yv : Value} {yo : List Int} {n : Int} {u : Value} {zs : List Int} {w : World} (h_lv : Ints w lv lo) (h_yv : Ints w yv yo) (h_u : Ints w u zs) (h1 : lo.length ≤ 1000) (h2 : yo.length ≤ 1000) (hn : n ≠ 0) :
    Calls Tryd.prog 53 #[.agg #[lv, yv], .int .i64 n, u] w fun e w' => ∃ v1, e = .returned (.agg #[v1, u]) ∧ OwnI w' w.heap.size 3 (v1) (lo) ∧ Ext w w' := by
  refine calls_in 17 Tryd.func53 rfl rfl (by simp) (fun A0 hsz0 hdf0 hargs => ?_)
  have l0_0 := hargs 0 (.agg #[lv, yv]) rfl
  have l1_0 := hargs 1 (.int .i64 n) rfl
  have l2_0 := hargs 2 (u) rfl
  clear hargs; replace hsz0 : SzN A0 17 := ⟨hsz0⟩
  have hE0 := Ext.rfl' w
  refine wp_seq_k (fun K1 hK1 => ?_)
  -- region 0
  refine region_in ?_
  refine W_box (cs := #[lv, yv]) rfl rfl rfl l0_0 rfl (fun g2 w2 hg2 hx2 b2 => ?_)
  have oB_2 : w.heap.size ≤ g2 := hg2 ▸ hE0.size
  have hE3 := Ext.tr hE0 hx2
  refine W_alloc (z := .agg #[.slice none 0 0, .slice none 0 0]) (cs := #[.slice none 0 0, .slice none 0 0]) rfl rfl rfl (by kernel_rfl) rfl (fun g4 w4 hg4 hx4 b4 => ?_)
  have o2_4 : g2 < g4 := hg4 ▸ lt_size b2
  have oB_4 : w.heap.size ≤ g4 := hg4 ▸ hE3.size
  have hE5 := Ext.tr hE3 hx4
  replace b2 := heap_ext hx4 b2
  refine W_end ?_
  refine gen_Q (fun A6 hA6 => ?_)
  have hsz6 : SzN A6 17 := by rw [hA6]; infer_instance
  have hdf6 : A6.defers = [] := by rw [hA6]; simp only [df_put]; exact hdf0
  have l1_6 := lookE hA6 1 (es rfl (es rfl l1_0))
  have l2_6 := lookE hA6 2 (es rfl (es rfl l2_0))
  have l3_6 := lookE hA6 3 (es rfl (et rfl))
  have l6_6 := lookE hA6 6 (et rfl)
  clear hA6 hsz0 hdf0 l0_0 l1_0 l2_0
  refine then_n (hK1 _ _ ?_)
  clear hK1
  refine wp_seq_k (fun K7 hK7 => ?_)
  -- region 1
  refine region_in ?_
  refine W_r rfl rfl (VR_ldA rfl l3_6 b2 Tryd.underlying24 rfl (by kernel_rfl)) ?_
  refine W_call rfl rfl rfl Tryd.func44 (by kernel_rfl) rfl (args1 (et rfl)) (rown_c (h_lv.ext hE5) (h_yv.ext hE5) (by first | omega | (simp; done) | (simp; omega)) (by first | omega | (simp; done) | (simp; omega))) ?_
  rintro _ w8 ⟨v1_8, v2_8, rfl, f1_8, f2_8, hx8⟩
  refine ⟨_, rfl, ?_⟩
  have hb9 := hE5.size
  have hE10 := Ext.tr hE5 hx8
  replace b2 := heap_ext hx8 b2
  replace b4 := heap_ext hx8 b4
  have ul_f1_8 := fre_lo f1_8.fre
  replace f1_8 := f1_8.base hb9
  have ul_f2_8 := fre_lo f2_8.fre
  replace f2_8 := f2_8.base hb9
  refine W_alloc (z := .agg #[.slice none 0 0, .slice none 0 0]) (cs := #[.slice none 0 0, .slice none 0 0]) rfl rfl rfl (by kernel_rfl) rfl (fun g11 w11 hg11 hx11 b11 => ?_)
  have o2_11 : g2 < g11 := hg11 ▸ lt_size b2
  have o4_11 : g4 < g11 := hg11 ▸ lt_size b4
  have oB_11 : w.heap.size ≤ g11 := hg11 ▸ hE10.size
  have hE12 := Ext.tr hE10 hx11
  replace b2 := heap_ext hx11 b2
  replace b4 := heap_ext hx11 b4
  replace f1_8 := f1_8.ext hx11
  replace f2_8 := f2_8.ext hx11
  refine W_stA rfl rfl rfl (et rfl) (es rfl (et rfl)) (by simp only [List.all_toArray, List.all_cons, List.all_nil, one_ints f1_8.ints, one_ints f2_8.ints] <;> rfl) b11 (by rfl) (by kernel_rfl) (fun w13 ht13 hb13 => ?_)
  have hE14 := ext_tch hE12 ht13 oB_11
  replace f1_8 := f1_8.tch ht13 b11 rfl
  replace f2_8 := f2_8.tch ht13 b11 rfl
  replace b2 := box_tch b2 ht13 (Nat.ne_of_lt o2_11)
  replace b4 := box_tch b4 ht13 (Nat.ne_of_lt o4_11)
  replace b11 := hb13
  refine W_end ?_
  refine gen_Q (fun A15 hA15 => ?_)
  have hsz15 : SzN A15 17 := by rw [hA15]; infer_instance
  have hdf15 : A15.defers = [] := by rw [hA15]; simp only [df_put]; exact hdf6
  have l1_15 := lookE hA15 1 (es rfl (es rfl (es rfl l1_6)))
  have l2_15 := lookE hA15 2 (es rfl (es rfl (es rfl l2_6)))
  have l6_15 := lookE hA15 6 (es rfl (es rfl (es rfl l6_6)))
  have l7_15 := lookE hA15 7 (et rfl)
  clear hA15 hsz6 hdf6 l1_6 l2_6 l3_6 l6_6
  refine then_n (hK7 _ _ ?_)
  clear hK7
  refine wp_seq_k (fun K16 hK16 => ?_)
  refine wp_seq_k (fun K17 hK17 => ?_)
  -- region 2
  refine region_in ?_
  refine W_v rfl rfl (V_mov rfl l1_15) ?_
  refine W_v rfl rfl (V_eql rfl (et rfl) rfl) ?_
  refine W_end ?_
  refine gen_Q (fun A18 hA18 => ?_)
  have hsz18 : SzN A18 17 := by rw [hA18]; infer_instance
  have hdf18 : A18.defers = [] := by rw [hA18]; simp only [df_put]; exact hdf15
  have l2_18 := lookE hA18 2 (es rfl (es rfl l2_15))
  have l6_18 := lookE hA18 6 (es rfl (es rfl l6_15))
  have l7_18 := lookE hA18 7 (es rfl (es rfl l7_15))
  have l11_18 := lookE hA18 11 (et rfl)
  clear hA18 hsz15 hdf15 l1_15 l2_15 l6_15 l7_15
  refine then_n (hK17 _ _ ?_)
  clear hK17
  refine cond_dec l11_18 (fun c19 => ?_) (fun c19 => ?_)
  · exact absurd c19 hn
  · skip
    -- region 4
    refine region_in ?_
    refine W_v rfl rfl (V_mov rfl l2_18) ?_
    refine W_v rfl rfl (V_fa (off' := 1) rfl (es rfl l7_18) Tryd.underlying24 rfl (by decide) rfl) ?_
    refine W_stC rfl rfl rfl (et rfl) (es rfl (et rfl)) (one_ints (h_u.ext hE14)) b11 (by rfl) (by kernel_rfl) (by simp only [List.setIfInBounds_toArray, List.set_cons_succ, List.set_cons_zero] <;> rfl) (fun w20 ht20 hb20 => ?_)
    have hE21 := ext_tch hE14 ht20 oB_11
    replace f1_8 := f1_8.tch ht20 b11 rfl
    replace f2_8 := f2_8.tch ht20 b11 rfl
    replace b4 := box_tch b4 ht20 (Nat.ne_of_lt o4_11)
    replace b11 := hb20
    refine W_end ?_
    refine gen_Q (fun A22 hA22 => ?_)
    have hsz22 : SzN A22 17 := by rw [hA22]; infer_instance
    have hdf22 : A22.defers = [] := by rw [hA22]; simp only [df_put]; exact hdf18
    have l6_22 := lookE hA22 6 (es rfl (es rfl l6_18))
    have l7_22 := lookE hA22 7 (es rfl (es rfl l7_18))
    clear hA22 hsz18 hdf18 l2_18 l6_18 l7_18 l11_18
    refine then_n (hK16 _ _ ?_)
    clear hK16
    refine wp_seq_k (fun K23 hK23 => ?_)
    -- region 5
    refine region_in ?_
    refine W_r rfl rfl (VR_ldA rfl l7_22 b11 Tryd.underlying24 rfl (by kernel_rfl)) ?_
    refine W_stA rfl rfl rfl (es rfl l6_22) (et rfl) (by simp only [List.all_toArray, List.all_cons, List.all_nil, one_ints f1_8.ints, one_ints (h_u.ext hE21)] <;> rfl) b4 (by rfl) (by kernel_rfl) (fun w24 ht24 hb24 => ?_)
    have hE25 := ext_tch hE21 ht24 oB_4
    replace f1_8 := f1_8.tch ht24 b4 rfl
    replace b11 := box_tch b11 ht24 (Nat.ne_of_gt o4_11)
    replace b4 := hb24
    refine W_end ?_
    refine gen_Q (fun A26 hA26 => ?_)
    have hsz26 : SzN A26 17 := by rw [hA26]; infer_instance
    have hdf26 : A26.defers = [] := by rw [hA26]; simp only [df_put]; exact hdf22
    have l6_26 := lookE hA26 6 (es rfl l6_22)
    clear hA26 hsz22 hdf22 l6_22 l7_22
    refine then_n (hK23 _ _ ?_)
    clear hK23
    refine wp_ret ?_
    refine ret_in (results_1 Tryd.results53 (rv_cellA l6_26 b4 Tryd.underlying24 rfl (by kernel_rfl))) hdf26 ?_
    -- leaf F
    exact ⟨_, rfl, f1_8, hE25⟩

set_option maxHeartbeats 4000000 in
theorem rof_c {lv : Value} {lo : List Int} {yv : Value} {yo : List Int} {n : Int} {w : World} (h_lv : Ints w lv lo) (h_yv : Ints w yv yo) (h1 : lo.length ≤ 1000) (h2 : yo.length ≤ 1000) :
    Calls Tryd.prog 55 #[.agg #[lv, yv], .int .i64 n] w fun e w' => ∃ v, e = .returned (v) ∧ OwnI w' w.heap.size 3 (v) (if n = 0 then lo else yo) ∧ Ext w w' := by
  refine calls_in 15 Tryd.func55 rfl rfl (by simp) (fun A0 hsz0 hdf0 hargs => ?_)
  have l0_0 := hargs 0 (.agg #[lv, yv]) rfl
  have l1_0 := hargs 1 (.int .i64 n) rfl
  clear hargs; replace hsz0 : SzN A0 15 := ⟨hsz0⟩
  have hE0 := Ext.rfl' w
  refine wp_seq_k (fun K1 hK1 => ?_)
  -- region 0
  refine region_in ?_
  refine W_box (cs := #[lv, yv]) rfl rfl rfl l0_0 rfl (fun g2 w2 hg2 hx2 b2 => ?_)
  have oB_2 : w.heap.size ≤ g2 := hg2 ▸ hE0.size
  have hE3 := Ext.tr hE0 hx2
  refine W_v rfl rfl (V_asg rfl rfl) ?_
  refine W_end ?_
  refine gen_Q (fun A4 hA4 => ?_)
  have hsz4 : SzN A4 15 := by rw [hA4]; infer_instance
  have hdf4 : A4.defers = [] := by rw [hA4]; simp only [df_put]; exact hdf0
  have l1_4 := lookE hA4 1 (es rfl (es rfl l1_0))
  have l2_4 := lookE hA4 2 (es rfl (et rfl))
  clear hA4 hsz0 hdf0 l0_0 l1_0
  refine then_n (hK1 _ _ ?_)
  clear hK1
  refine wp_seq_k (fun K5 hK5 => ?_)
  refine wp_seq_k (fun K6 hK6 => ?_)
  -- region 1
  refine region_in ?_
  refine W_v rfl rfl (V_mov rfl l1_4) ?_
  refine W_v rfl rfl (V_eql rfl (et rfl) rfl) ?_
  refine W_end ?_
  refine gen_Q (fun A7 hA7 => ?_)
  have hsz7 : SzN A7 15 := by rw [hA7]; infer_instance
  have hdf7 : A7.defers = [] := by rw [hA7]; simp only [df_put]; exact hdf4
  have l2_7 := lookE hA7 2 (es rfl (es rfl l2_4))
  have l6_7 := lookE hA7 6 (et rfl)
  clear hA7 hsz4 hdf4 l1_4 l2_4
  refine then_n (hK6 _ _ ?_)
  clear hK6
  refine cond_dec l6_7 (fun c8 => ?_) (fun c8 => ?_)
  · skip
    refine wp_seq_k (fun K9 hK9 => ?_)
    -- region 2
    refine region_in ?_
    refine W_emp0 rfl rfl rfl Tryd.underlying22 (by kernel_rfl) (fun g10 w10 hg10 hx10 b10 => ?_)
    have o2_10 : g2 < g10 := hg10 ▸ lt_size b2
    have oB_10 : w.heap.size ≤ g10 := hg10 ▸ hE3.size
    have hE11 := Ext.tr hE3 hx10
    replace b2 := heap_ext hx10 b2
    refine W_v rfl rfl (V_fa (off' := 0) rfl (es rfl l2_7) Tryd.underlying24 rfl (by decide) rfl) ?_
    refine W_r rfl rfl (VR_ldC rfl (et rfl) (cell_box (v := lv) b2 rfl) Tryd.underlying22 rfl) ?_
    refine W_appE rfl rfl rfl (es rfl (es rfl (et rfl))) (et rfl) Tryd.underlying22 Tryd.underlying22 (by kernel_rfl) b10 oB_10 (h_lv.ext hE11) (by first | omega | (simp; done) | (simp; omega)) (fun v12 w12 f12 hx12 => ?_)
    obtain ⟨a12, c12, rfl⟩ := f12.form
    have hE13 := Ext.tr hE11 hx12
    replace b2 := heap_ext hx12 b2
    replace b10 := heap_ext hx12 b10
    refine W_v rfl rfl (V_asg rfl (et rfl)) ?_
    refine W_end ?_
    refine gen_Q (fun A14 hA14 => ?_)
    have hsz14 : SzN A14 15 := by rw [hA14]; infer_instance
    have hdf14 : A14.defers = [] := by rw [hA14]; simp only [df_put]; exact hdf7
    have l4_14 := lookE hA14 4 (et rfl)
    clear hA14 hsz7 hdf7 l2_7 l6_7
    refine then_n (hK9 _ _ ?_)
    clear hK9
    refine wp_ret ?_
    refine then_ret ?_
    refine ret_in (results_1 Tryd.results55 (rv_tmp l4_14)) hdf14 ?_
    -- leaf T
    exact ⟨_, rfl, by rw [if_pos c8]; exact f12, hE13⟩
  · skip
    refine wp_skip ?_
    refine then_n (hK5 _ _ ?_)
    clear hK5
    refine wp_seq_k (fun K15 hK15 => ?_)
    -- region 3
    refine region_in ?_
    refine W_emp0 rfl rfl rfl Tryd.underlying22 (by kernel_rfl) (fun g16 w16 hg16 hx16 b16 => ?_)
    have o2_16 : g2 < g16 := hg16 ▸ lt_size b2
    have oB_16 : w.heap.size ≤ g16 := hg16 ▸ hE3.size
    have hE17 := Ext.tr hE3 hx16
    replace b2 := heap_ext hx16 b2
    refine W_v rfl rfl (V_fa (off' := 1) rfl (es rfl l2_7) Tryd.underlying24 rfl (by decide) rfl) ?_
    refine W_r rfl rfl (VR_ldC rfl (et rfl) (cell_box (v := yv) b2 rfl) Tryd.underlying22 rfl) ?_
    refine W_appE rfl rfl rfl (es rfl (es rfl (et rfl))) (et rfl) Tryd.underlying22 Tryd.underlying22 (by kernel_rfl) b16 oB_16 (h_yv.ext hE17) (by first | omega | (simp; done) | (simp; omega)) (fun v18 w18 f18 hx18 => ?_)
    obtain ⟨a18, c18, rfl⟩ := f18.form
    have hE19 := Ext.tr hE17 hx18
    replace b2 := heap_ext hx18 b2
    replace b16 := heap_ext hx18 b16
    refine W_v rfl rfl (V_asg rfl (et rfl)) ?_
    refine W_end ?_
    refine gen_Q (fun A20 hA20 => ?_)
    have hsz20 : SzN A20 15 := by rw [hA20]; infer_instance
    have hdf20 : A20.defers = [] := by rw [hA20]; simp only [df_put]; exact hdf7
    have l4_20 := lookE hA20 4 (et rfl)
    clear hA20 hsz7 hdf7 l2_7 l6_7
    refine then_n (hK15 _ _ ?_)
    clear hK15
    refine wp_ret ?_
    refine ret_in (results_1 Tryd.results55 (rv_tmp l4_20)) hdf20 ?_
    -- leaf F
    exact ⟨_, rfl, by rw [if_neg c8]; exact f18, hE19⟩

set_option maxHeartbeats 4000000 in
theorem rput_c {v : Value} {zs : List Int} {c : Int} {b : Bool} {w : World} (h_v : Ints w v zs) (h1 : zs.length ≤ 1000) :
    Calls Tryd.prog 54 #[v, .int .i64 c, .bool b] w fun e w' => ∃ r, e = .returned (r) ∧ OwnI w' w.heap.size 3 (r) (putL zs c b) ∧ Ext w w' := by
  refine calls_in 39 Tryd.func54 rfl rfl (by simp) (fun A0 hsz0 hdf0 hargs => ?_)
  have l0_0 := hargs 0 (v) rfl
  have l1_0 := hargs 1 (.int .i64 c) rfl
  have l2_0 := hargs 2 (.bool b) rfl
  clear hargs; replace hsz0 : SzN A0 39 := ⟨hsz0⟩
  have hE0 := Ext.rfl' w
  refine wp_seq_k (fun K1 hK1 => ?_)
  -- region 0
  refine region_in ?_
  refine W_v rfl rfl (V_asg rfl rfl) ?_
  refine W_end ?_
  refine gen_Q (fun A2 hA2 => ?_)
  have hsz2 : SzN A2 39 := by rw [hA2]; infer_instance
  have hdf2 : A2.defers = [] := by rw [hA2]; simp only [df_put]; exact hdf0
  have l0_2 := lookE hA2 0 (es rfl l0_0)
  have l1_2 := lookE hA2 1 (es rfl l1_0)
  have l2_2 := lookE hA2 2 (es rfl l2_0)
  clear hA2 hsz0 hdf0 l0_0 l1_0 l2_0
  refine then_n (hK1 _ _ ?_)
  clear hK1
  refine wp_seq_k (fun K3 hK3 => ?_)
  refine wp_seq_k (fun K4 hK4 => ?_)
  -- region 1
  refine region_in ?_
  refine W_v rfl rfl (V_mov rfl l2_2) ?_
  refine W_splitB rfl rfl (V_mov rfl (et rfl)) (fun c5 => ?_) (fun c5 => ?_)
  · skip
    refine W_v rfl (wanted_t rfl rfl (et rfl) (ez rfl)) (V_mov rfl (es rfl (es rfl l0_2))) ?_
    refine W_v rfl (wanted_t rfl rfl (es rfl (et rfl)) (ez rfl)) (V_lenI rfl (et rfl) h_v Tryd.underlying22) ?_
    refine W_v rfl (wanted_t rfl rfl (es rfl (es rfl (et rfl))) (ez rfl)) (V_gtr rfl (et rfl) rfl) ?_
    refine W_v rfl rfl (V_pickT rfl (es rfl (es rfl (es rfl (et rfl)))) (et rfl)) ?_
    refine W_end ?_
    refine gen_Q (fun A6 hA6 => ?_)
    have hsz6 : SzN A6 39 := by rw [hA6]; infer_instance
    have hdf6 : A6.defers = [] := by rw [hA6]; simp only [df_put]; exact hdf2
    have l0_6 := lookE hA6 0 (es rfl (es rfl (es rfl (es rfl (es rfl (es rfl l0_2))))))
    have l1_6 := lookE hA6 1 (es rfl (es rfl (es rfl (es rfl (es rfl (es rfl l1_2))))))
    have l13_6 := lookE hA6 13 (et rfl)
    clear hA6 hsz2 hdf2 l0_2 l1_2 l2_2
    refine then_n (hK4 _ _ ?_)
    clear hK4
    refine cond_dec l13_6 (fun c7 => ?_) (fun c7 => ?_)
    · skip
      refine wp_seq_k (fun K8 hK8 => ?_)
      -- region 2
      refine region_in ?_
      refine W_v rfl rfl (V_mov rfl l0_6) ?_
      refine W_v rfl rfl (V_mov rfl (es rfl l0_6)) ?_
      refine W_v rfl rfl (V_lenI rfl (et rfl) h_v Tryd.underlying22) ?_
      refine W_v rfl rfl (V_sb rfl (et rfl) rfl (by omega) (by omega)) ?_
      have k9 : (((zs.length : Int) - 1)).toNat < zs.length := by omega
      obtain ⟨B9, O9, C9, y9, hv9, hy9, hc9⟩ := at_ints h_v ((((zs.length : Int) - 1)).toNat) k9
      refine W_v rfl rfl (V_idx ((((zs.length : Int) - 1)).toNat) rfl (es rfl (es rfl (es rfl (et rfl)))) (et rfl) hv9 (by omega) k9 Tryd.underlying22 (by kernel_rfl)) ?_
      refine W_r rfl rfl (VR_ldC rfl (et rfl) (cell_ext hE0 hc9) Tryd.underlying3 rfl) ?_
      refine W_v rfl rfl (V_asg rfl (et rfl)) ?_
      refine W_end ?_
      refine gen_Q (fun A10 hA10 => ?_)
      have hsz10 : SzN A10 39 := by rw [hA10]; infer_instance
      have hdf10 : A10.defers = [] := by rw [hA10]; simp only [df_put]; exact hdf6
      have l0_10 := lookE hA10 0 (es rfl (es rfl (es rfl (es rfl (es rfl (es rfl (es rfl l0_6)))))))
      have l1_10 := lookE hA10 1 (es rfl (es rfl (es rfl (es rfl (es rfl (es rfl (es rfl l1_6)))))))
      have l7_10 := lookE hA10 7 (et rfl)
      clear hA10 hsz6 hdf6 l0_6 l1_6 l13_6
      refine then_n (hK8 _ _ ?_)
      clear hK8
      refine wp_seq_k (fun K11 hK11 => ?_)
      -- region 3
      refine region_in ?_
      refine W_emp0 rfl rfl rfl Tryd.underlying22 (by kernel_rfl) (fun g12 w12 hg12 hx12 b12 => ?_)
      have oB_12 : w.heap.size ≤ g12 := hg12 ▸ hE0.size
      have hE13 := Ext.tr hE0 hx12
      refine W_v rfl rfl (V_mov rfl (es rfl l0_10)) ?_
      refine W_v rfl rfl (V_mov rfl (es rfl (es rfl l0_10))) ?_
      refine W_v rfl rfl (V_lenI rfl (et rfl) h_v Tryd.underlying22) ?_
      refine W_v rfl rfl (V_sb rfl (et rfl) rfl (by omega) (by omega)) ?_
      have k14 : 0 ≤ (((zs.length : Int) - 1)).toNat := by omega
      have m14 : (((zs.length : Int) - 1)).toNat ≤ zs.length := by omega
      have f14 := sub_ints h_v (0) ((((zs.length : Int) - 1)).toNat) k14 m14
      refine W_v rfl rfl (V_sub (0) ((((zs.length : Int) - 1)).toNat) rfl (es rfl (es rfl (es rfl (et rfl)))) (.inl ⟨rfl, rfl⟩) (.inr ⟨_, _, rfl, (et rfl), by omega⟩) Tryd.underlying22 (by kernel_rfl) h_v k14 m14) ?_
      refine W_appE rfl rfl rfl (es rfl (es rfl (es rfl (es rfl (es rfl (et rfl)))))) (et rfl) Tryd.underlying22 Tryd.underlying22 (by kernel_rfl) b12 oB_12 (f14.ext hE13) (by first | omega | (simp; done) | (simp; omega)) (fun v15 w15 f15 hx15 => ?_)
      obtain ⟨a15, c15, rfl⟩ := f15.form
      have hE16 := Ext.tr hE13 hx15
      replace b12 := heap_ext hx15 b12
      refine W_v rfl rfl (V_mov rfl (es rfl (es rfl (es rfl (es rfl (es rfl (es rfl (es rfl l1_10)))))))) ?_
      refine W_lit1 rfl rfl rfl (et rfl) Tryd.underlying22 (by kernel_rfl) (fun g17 w17 hg17 hx17 f17 => ?_)
      replace f17 := f17.base hE16.size
      have hE18 := Ext.tr hE16 hx17
      replace b12 := heap_ext hx17 b12
      replace f15 := f15.ext hx17
      refine W_app rfl rfl rfl (es rfl (es rfl (et rfl))) (et rfl) Tryd.underlying22 Tryd.underlying22 (by kernel_rfl) f15 hE18 f17.1 (by first | omega | (simp; done) | (simp; omega)) (fun v19 w19 f19 hgr19 hy19 => ?_)
      obtain ⟨a19, c19, rfl⟩ := f19.form
      refine W_v rfl rfl (V_mov rfl (es rfl (es rfl (es rfl (es rfl (es rfl (es rfl (es rfl (es rfl (es rfl (es rfl l7_10))))))))))) ?_
      refine W_lit1 rfl rfl rfl (et rfl) Tryd.underlying22 (by kernel_rfl) (fun g20 w20 hg20 hx20 f20 => ?_)
      replace f20 := f20.base hy19.size
      have hE21 := Ext.tr hy19 hx20
      replace f19 := f19.ext hx20
      refine W_app rfl rfl rfl (es rfl (es rfl (et rfl))) (et rfl) Tryd.underlying22 Tryd.underlying22 (by kernel_rfl) f19 hE21 f20.1 (by first | omega | (simp; done) | (simp; omega)) (fun v22 w22 f22 hgr22 hy22 => ?_)
      obtain ⟨a22, c22, rfl⟩ := f22.form
      refine W_v rfl rfl (V_asg rfl (et rfl)) ?_
      refine W_end ?_
      refine gen_Q (fun A23 hA23 => ?_)
      have hsz23 : SzN A23 39 := by rw [hA23]; infer_instance
      have hdf23 : A23.defers = [] := by rw [hA23]; simp only [df_put]; exact hdf10
      have l6_23 := lookE hA23 6 (et rfl)
      clear hA23 hsz10 hdf10 l0_10 l1_10 l7_10
      refine then_n (hK11 _ _ ?_)
      clear hK11
      refine wp_ret ?_
      refine then_ret ?_
      refine ret_in (results_1 Tryd.results54 (rv_tmp l6_23)) hdf23 ?_
      -- leaf TT
      exact ⟨_, rfl, own_eq f22 (by simp only [List.drop_zero, Nat.sub_zero, c5]; exact putL_last (zs := zs) (k := ((zs.length : Int) - 1).toNat) (by omega) (by assumption)), hy22⟩
    · skip
      refine wp_skip ?_
      refine then_n (hK3 _ _ ?_)
      clear hK3
      refine wp_seq_k (fun K24 hK24 => ?_)
      -- region 4
      refine region_in ?_
      refine W_emp0 rfl rfl rfl Tryd.underlying22 (by kernel_rfl) (fun g25 w25 hg25 hx25 b25 => ?_)
      have oB_25 : w.heap.size ≤ g25 := hg25 ▸ hE0.size
      have hE26 := Ext.tr hE0 hx25
      refine W_v rfl rfl (V_mov rfl (es rfl l0_6)) ?_
      refine W_appE rfl rfl rfl (es rfl (et rfl)) (et rfl) Tryd.underlying22 Tryd.underlying22 (by kernel_rfl) b25 oB_25 (h_v.ext hE26) (by first | omega | (simp; done) | (simp; omega)) (fun v27 w27 f27 hx27 => ?_)
      obtain ⟨a27, c27, rfl⟩ := f27.form
      have hE28 := Ext.tr hE26 hx27
      replace b25 := heap_ext hx27 b25
      refine W_v rfl rfl (V_mov rfl (es rfl (es rfl (es rfl l1_6)))) ?_
      refine W_lit1 rfl rfl rfl (et rfl) Tryd.underlying22 (by kernel_rfl) (fun g29 w29 hg29 hx29 f29 => ?_)
      replace f29 := f29.base hE28.size
      have hE30 := Ext.tr hE28 hx29
      replace b25 := heap_ext hx29 b25
      replace f27 := f27.ext hx29
      refine W_app rfl rfl rfl (es rfl (es rfl (et rfl))) (et rfl) Tryd.underlying22 Tryd.underlying22 (by kernel_rfl) f27 hE30 f29.1 (by first | omega | (simp; done) | (simp; omega)) (fun v31 w31 f31 hgr31 hy31 => ?_)
      obtain ⟨a31, c31, rfl⟩ := f31.form
      refine W_v rfl rfl (V_asg rfl (et rfl)) ?_
      refine W_end ?_
      refine gen_Q (fun A32 hA32 => ?_)
      have hsz32 : SzN A32 39 := by rw [hA32]; infer_instance
      have hdf32 : A32.defers = [] := by rw [hA32]; simp only [df_put]; exact hdf6
      have l6_32 := lookE hA32 6 (et rfl)
      clear hA32 hsz6 hdf6 l0_6 l1_6 l13_6
      refine then_n (hK24 _ _ ?_)
      clear hK24
      refine wp_ret ?_
      refine ret_in (results_1 Tryd.results54 (rv_tmp l6_32)) hdf32 ?_
      -- leaf TF
      exact ⟨_, rfl, own_eq f31 (by exact putL_end (by first | exact .inl rfl | exact .inr (by omega) | (simp at *; done) | (left; simp_all))), hy31⟩
  · skip
    refine W_off rfl (wanted_f rfl rfl (et rfl) (ez rfl) rfl) ?_
    refine W_off rfl (wanted_f rfl rfl (es rfl (et rfl)) (ez rfl) rfl) ?_
    refine W_off rfl (wanted_f rfl rfl (es rfl (es rfl (et rfl))) (ez rfl) rfl) ?_
    refine W_v rfl rfl (V_pickF rfl (es rfl (es rfl (es rfl (et rfl)))) rfl) ?_
    refine W_end ?_
    refine gen_Q (fun A33 hA33 => ?_)
    have hsz33 : SzN A33 39 := by rw [hA33]; infer_instance
    have hdf33 : A33.defers = [] := by rw [hA33]; simp only [df_put]; exact hdf2
    have l0_33 := lookE hA33 0 (es rfl (es rfl (es rfl (es rfl (es rfl (es rfl l0_2))))))
    have l1_33 := lookE hA33 1 (es rfl (es rfl (es rfl (es rfl (es rfl (es rfl l1_2))))))
    have l13_33 := lookE hA33 13 (et rfl)
    clear hA33 hsz2 hdf2 l0_2 l1_2 l2_2
    refine then_n (hK4 _ _ ?_)
    clear hK4
    refine cond_f l13_33 ?_
    refine wp_skip ?_
    refine then_n (hK3 _ _ ?_)
    clear hK3
    refine wp_seq_k (fun K34 hK34 => ?_)
    -- region 4
    refine region_in ?_
    refine W_emp0 rfl rfl rfl Tryd.underlying22 (by kernel_rfl) (fun g35 w35 hg35 hx35 b35 => ?_)
    have oB_35 : w.heap.size ≤ g35 := hg35 ▸ hE0.size
    have hE36 := Ext.tr hE0 hx35
    refine W_v rfl rfl (V_mov rfl (es rfl l0_33)) ?_
    refine W_appE rfl rfl rfl (es rfl (et rfl)) (et rfl) Tryd.underlying22 Tryd.underlying22 (by kernel_rfl) b35 oB_35 (h_v.ext hE36) (by first | omega | (simp; done) | (simp; omega)) (fun v37 w37 f37 hx37 => ?_)
    obtain ⟨a37, c37, rfl⟩ := f37.form
    have hE38 := Ext.tr hE36 hx37
    replace b35 := heap_ext hx37 b35
    refine W_v rfl rfl (V_mov rfl (es rfl (es rfl (es rfl l1_33)))) ?_
    refine W_lit1 rfl rfl rfl (et rfl) Tryd.underlying22 (by kernel_rfl) (fun g39 w39 hg39 hx39 f39 => ?_)
    replace f39 := f39.base hE38.size
    have hE40 := Ext.tr hE38 hx39
    replace b35 := heap_ext hx39 b35
    replace f37 := f37.ext hx39
    refine W_app rfl rfl rfl (es rfl (es rfl (et rfl))) (et rfl) Tryd.underlying22 Tryd.underlying22 (by kernel_rfl) f37 hE40 f39.1 (by first | omega | (simp; done) | (simp; omega)) (fun v41 w41 f41 hgr41 hy41 => ?_)
    obtain ⟨a41, c41, rfl⟩ := f41.form
    refine W_v rfl rfl (V_asg rfl (et rfl)) ?_
    refine W_end ?_
    refine gen_Q (fun A42 hA42 => ?_)
    have hsz42 : SzN A42 39 := by rw [hA42]; infer_instance
    have hdf42 : A42.defers = [] := by rw [hA42]; simp only [df_put]; exact hdf33
    have l6_42 := lookE hA42 6 (et rfl)
    clear hA42 hsz33 hdf33 l0_33 l1_33 l13_33
    refine then_n (hK34 _ _ ?_)
    clear hK34
    refine wp_ret ?_
    refine ret_in (results_1 Tryd.results54 (rv_tmp l6_42)) hdf42 ?_
    -- leaf F
    exact ⟨_, rfl, own_eq f41 (by exact putL_end (by first | exact .inl rfl | exact .inr (by omega) | (simp at *; done) | (left; simp_all))), hy41⟩

set_option maxHeartbeats 4000000 in
theorem rasked_c {lv : Value} {lo : List Int} {yv : Value} {yo : List Int} {tr : Int} {c : Int} {w : World} (h_lv : Ints w lv lo) (h_yv : Ints w yv yo)  :
    Calls Tryd.prog 52 #[.agg #[lv, yv], .int .i64 tr, .int .i64 c] w fun e w' => e = .returned (.int .i64 (chkE lo yo tr c)) ∧ Ext w w' := by
  refine calls_in 29 Tryd.func52 rfl rfl (by simp) (fun A0 hsz0 hdf0 hargs => ?_)
  have l0_0 := hargs 0 (.agg #[lv, yv]) rfl
  have l1_0 := hargs 1 (.int .i64 tr) rfl
  have l2_0 := hargs 2 (.int .i64 c) rfl
  clear hargs; replace hsz0 : SzN A0 29 := ⟨hsz0⟩
  have hE0 := Ext.rfl' w
  refine wp_seq_k (fun K1 hK1 => ?_)
  -- region 0
  refine region_in ?_
  refine W_box (cs := #[lv, yv]) rfl rfl rfl l0_0 rfl (fun g2 w2 hg2 hx2 b2 => ?_)
  have oB_2 : w.heap.size ≤ g2 := hg2 ▸ hE0.size
  have hE3 := Ext.tr hE0 hx2
  refine W_v rfl rfl (V_asg rfl rfl) ?_
  refine W_end ?_
  refine gen_Q (fun A4 hA4 => ?_)
  have hsz4 : SzN A4 29 := by rw [hA4]; infer_instance
  have hdf4 : A4.defers = [] := by rw [hA4]; simp only [df_put]; exact hdf0
  have l1_4 := lookE hA4 1 (es rfl (es rfl l1_0))
  have l2_4 := lookE hA4 2 (es rfl (es rfl l2_0))
  have l3_4 := lookE hA4 3 (es rfl (et rfl))
  clear hA4 hsz0 hdf0 l0_0 l1_0 l2_0
  refine then_n (hK1 _ _ ?_)
  clear hK1
  refine wp_seq_k (fun K5 hK5 => ?_)
  -- region 1
  refine region_in ?_
  refine W_r rfl rfl (VR_ldA rfl l3_4 b2 Tryd.underlying24 rfl (by kernel_rfl)) ?_
  refine W_call rfl rfl rfl Tryd.func43 (by kernel_rfl) rfl (args1 (et rfl)) (rCheck_c (h_lv.ext hE3) (h_yv.ext hE3) ) ?_
  rintro _ w6 ⟨rfl, hx6⟩
  refine ⟨_, rfl, ?_⟩
  have hb7 := hE3.size
  have hE8 := Ext.tr hE3 hx6
  replace b2 := heap_ext hx6 b2
  refine W_v rfl rfl (V_mov rfl (et rfl)) ?_
  refine W_v rfl rfl (V_ext rfl (et rfl) rfl) ?_
  refine W_v rfl rfl (V_ext rfl (es rfl (et rfl)) rfl) ?_
  refine W_v rfl rfl (V_ext rfl (es rfl (es rfl (et rfl))) rfl) ?_
  refine W_v rfl rfl (V_asg rfl (es rfl (es rfl (et rfl)))) ?_
  refine W_v rfl rfl (V_asg rfl (es rfl (es rfl (et rfl)))) ?_
  refine W_v rfl rfl (V_asg rfl (es rfl (es rfl (et rfl)))) ?_
  refine W_end ?_
  refine gen_Q (fun A9 hA9 => ?_)
  have hsz9 : SzN A9 29 := by rw [hA9]; infer_instance
  have hdf9 : A9.defers = [] := by rw [hA9]; simp only [df_put]; exact hdf4
  have l1_9 := lookE hA9 1 (es rfl (es rfl (es rfl (es rfl (es rfl (es rfl (es rfl (es rfl (es rfl l1_4)))))))))
  have l2_9 := lookE hA9 2 (es rfl (es rfl (es rfl (es rfl (es rfl (es rfl (es rfl (es rfl (es rfl l2_4)))))))))
  have l9_9 := lookE hA9 9 (et rfl)
  clear hA9 hsz4 hdf4 l1_4 l2_4 l3_4
  refine then_n (hK5 _ _ ?_)
  clear hK5
  refine wp_seq_k (fun K10 hK10 => ?_)
  refine wp_seq_k (fun K11 hK11 => ?_)
  -- region 2
  refine region_in ?_
  refine W_v rfl rfl (V_mov rfl l9_9) ?_
  refine W_v rfl rfl (V_eql rfl (et rfl) rfl) ?_
  refine W_split rfl rfl (V_mov rfl (et rfl)) (fun c12 => ?_) (fun c12 => ?_)
  · skip
    refine W_v rfl (wanted_t rfl rfl (et rfl) (ez rfl)) (V_mov rfl (es rfl (es rfl (es rfl l1_9)))) ?_
    refine W_call rfl (wanted_t rfl rfl (es rfl (et rfl)) (ez rfl)) rfl Tryd.func56 (by kernel_rfl) rfl (args1 (et rfl)) (rtrain_c (x := tr)  ) ?_
    rintro _ w13 ⟨rfl, hx13⟩
    refine ⟨_, rfl, ?_⟩
    have hb14 := hE8.size
    have hE15 := Ext.tr hE8 hx13
    refine W_v rfl (wanted_t rfl rfl (es rfl (es rfl (et rfl))) (ez rfl)) (V_notd rfl (et rfl)) ?_
    refine W_split rfl (wanted_t rfl rfl (es rfl (es rfl (es rfl (et rfl)))) (ez rfl)) (V_mov rfl (et rfl)) (fun c16 => ?_) (fun c16 => ?_)
    · skip
      refine W_off rfl (wanted_f rfl rfl (et rfl) (ez rfl) rfl) ?_
      refine W_off rfl (wanted_f rfl rfl (es rfl (et rfl)) (ez rfl) rfl) ?_
      refine W_off rfl (wanted_f rfl rfl (es rfl (es rfl (et rfl))) (ez rfl) rfl) ?_
      refine W_v rfl (wanted_t rfl rfl (es rfl (es rfl (es rfl (es rfl (es rfl (es rfl (es rfl (et rfl)))))))) (ez rfl)) (V_pickT rfl (es rfl (es rfl (es rfl (et rfl)))) rfl) ?_
      refine W_v rfl rfl (V_pickT rfl (es rfl (es rfl (es rfl (es rfl (es rfl (es rfl (es rfl (es rfl (et rfl))))))))) (et rfl)) ?_
      refine W_end ?_
      refine gen_Q (fun A17 hA17 => ?_)
      have hsz17 : SzN A17 29 := by rw [hA17]; infer_instance
      have hdf17 : A17.defers = [] := by rw [hA17]; simp only [df_put]; exact hdf9
      have l9_17 := lookE hA17 9 (es rfl (es rfl (es rfl (es rfl (es rfl (es rfl (es rfl (es rfl (es rfl (es rfl (es rfl (es rfl l9_9))))))))))))
      have l27_17 := lookE hA17 27 (et rfl)
      clear hA17 hsz9 hdf9 l1_9 l2_9 l9_9
      refine then_n (hK11 _ _ ?_)
      clear hK11
      refine cond_t l27_17 ?_
      -- region 3
      refine region_in ?_
      refine W_v rfl rfl (V_asg rfl rfl) ?_
      refine W_end ?_
      refine gen_Q (fun A18 hA18 => ?_)
      have hsz18 : SzN A18 29 := by rw [hA18]; infer_instance
      have hdf18 : A18.defers = [] := by rw [hA18]; simp only [df_put]; exact hdf17
      have l9_18 := lookE hA18 9 (et rfl)
      clear hA18 hsz17 hdf17 l9_17 l27_17
      refine then_n (hK10 _ _ ?_)
      clear hK10
      refine wp_seq_k (fun K19 hK19 => ?_)
      -- region 4
      refine region_in ?_
      refine W_v rfl rfl (V_mov rfl l9_18) ?_
      refine W_v rfl rfl (V_asg rfl (et rfl)) ?_
      refine W_end ?_
      refine gen_Q (fun A20 hA20 => ?_)
      have hsz20 : SzN A20 29 := by rw [hA20]; infer_instance
      have hdf20 : A20.defers = [] := by rw [hA20]; simp only [df_put]; exact hdf18
      have l6_20 := lookE hA20 6 (et rfl)
      clear hA20 hsz18 hdf18 l9_18
      refine then_n (hK19 _ _ ?_)
      clear hK19
      refine wp_ret ?_
      refine ret_in (results_1 Tryd.results52 (rv_tmp l6_20)) hdf20 ?_
      -- leaf TT
      exact ⟨retI (by rw [chkE_cases]; split <;> first | omega | (split <;> omega)), hE15⟩
    · skip
      refine W_v rfl (wanted_t rfl rfl (et rfl) (ez rfl)) (V_mov rfl (es rfl (es rfl (es rfl (es rfl (es rfl (es rfl (es rfl l2_9)))))))) ?_
      refine W_call rfl (wanted_t rfl rfl (es rfl (et rfl)) (ez rfl)) rfl Tryd.func50 (by kernel_rfl) rfl (args1 (et rfl)) (rcar_c (x := c)  ) ?_
      rintro _ w21 ⟨rfl, hx21⟩
      refine ⟨_, rfl, ?_⟩
      have hb22 := hE15.size
      have hE23 := Ext.tr hE15 hx21
      refine W_v rfl (wanted_t rfl rfl (es rfl (es rfl (et rfl))) (ez rfl)) (V_notd rfl (et rfl)) ?_
      refine W_v rfl (wanted_t rfl rfl (es rfl (es rfl (es rfl (es rfl (es rfl (es rfl (es rfl (et rfl)))))))) (ez rfl)) (V_pickF rfl (es rfl (es rfl (es rfl (et rfl)))) (et rfl)) ?_
      refine W_v rfl rfl (V_pickT rfl (es rfl (es rfl (es rfl (es rfl (es rfl (es rfl (es rfl (es rfl (et rfl))))))))) (et rfl)) ?_
      refine W_end ?_
      refine gen_Q (fun A24 hA24 => ?_)
      have hsz24 : SzN A24 29 := by rw [hA24]; infer_instance
      have hdf24 : A24.defers = [] := by rw [hA24]; simp only [df_put]; exact hdf9
      have l9_24 := lookE hA24 9 (es rfl (es rfl (es rfl (es rfl (es rfl (es rfl (es rfl (es rfl (es rfl (es rfl (es rfl (es rfl l9_9))))))))))))
      have l27_24 := lookE hA24 27 (et rfl)
      clear hA24 hsz9 hdf9 l1_9 l2_9 l9_9
      refine then_n (hK11 _ _ ?_)
      clear hK11
      refine cond_dec l27_24 (fun c25 => ?_) (fun c25 => ?_)
      · skip
        -- region 3
        refine region_in ?_
        refine W_v rfl rfl (V_asg rfl rfl) ?_
        refine W_end ?_
        refine gen_Q (fun A26 hA26 => ?_)
        have hsz26 : SzN A26 29 := by rw [hA26]; infer_instance
        have hdf26 : A26.defers = [] := by rw [hA26]; simp only [df_put]; exact hdf24
        have l9_26 := lookE hA26 9 (et rfl)
        clear hA26 hsz24 hdf24 l9_24 l27_24
        refine then_n (hK10 _ _ ?_)
        clear hK10
        refine wp_seq_k (fun K27 hK27 => ?_)
        -- region 4
        refine region_in ?_
        refine W_v rfl rfl (V_mov rfl l9_26) ?_
        refine W_v rfl rfl (V_asg rfl (et rfl)) ?_
        refine W_end ?_
        refine gen_Q (fun A28 hA28 => ?_)
        have hsz28 : SzN A28 29 := by rw [hA28]; infer_instance
        have hdf28 : A28.defers = [] := by rw [hA28]; simp only [df_put]; exact hdf26
        have l6_28 := lookE hA28 6 (et rfl)
        clear hA28 hsz26 hdf26 l9_26
        refine then_n (hK27 _ _ ?_)
        clear hK27
        refine wp_ret ?_
        refine ret_in (results_1 Tryd.results52 (rv_tmp l6_28)) hdf28 ?_
        -- leaf TFT
        exact ⟨retI (by rw [chkE_cases]; split <;> first | omega | (split <;> omega)), hE23⟩
      · skip
        refine wp_skip ?_
        refine then_n (hK10 _ _ ?_)
        clear hK10
        refine wp_seq_k (fun K29 hK29 => ?_)
        -- region 4
        refine region_in ?_
        refine W_v rfl rfl (V_mov rfl l9_24) ?_
        refine W_v rfl rfl (V_asg rfl (et rfl)) ?_
        refine W_end ?_
        refine gen_Q (fun A30 hA30 => ?_)
        have hsz30 : SzN A30 29 := by rw [hA30]; infer_instance
        have hdf30 : A30.defers = [] := by rw [hA30]; simp only [df_put]; exact hdf24
        have l6_30 := lookE hA30 6 (et rfl)
        clear hA30 hsz24 hdf24 l9_24 l27_24
        refine then_n (hK29 _ _ ?_)
        clear hK29
        refine wp_ret ?_
        refine ret_in (results_1 Tryd.results52 (rv_tmp l6_30)) hdf30 ?_
        -- leaf TFF
        exact ⟨retI (by rw [chkE_cases]; split <;> first | omega | (split <;> omega)), hE23⟩
  · skip
    refine W_off rfl (wanted_f rfl rfl (et rfl) (ez rfl) rfl) ?_
    refine W_off rfl (wanted_f rfl rfl (es rfl (et rfl)) (ez rfl) rfl) ?_
    refine W_off rfl (wanted_f rfl rfl (es rfl (es rfl (et rfl))) (ez rfl) rfl) ?_
    refine W_off rfl (wanted_f rfl rfl (es rfl (es rfl (es rfl (et rfl)))) (ez rfl) rfl) ?_
    refine W_off rfl (wanted_u rfl rfl (et rfl) (ez rfl)) ?_
    refine W_off rfl (wanted_u rfl rfl (es rfl (et rfl)) (ez rfl)) ?_
    refine W_off rfl (wanted_u rfl rfl (es rfl (es rfl (et rfl))) (ez rfl)) ?_
    refine W_off rfl (wanted_f rfl rfl (es rfl (es rfl (es rfl (es rfl (es rfl (es rfl (es rfl (et rfl)))))))) (ez rfl) rfl) ?_
    refine W_v rfl rfl (V_pickF rfl (es rfl (es rfl (es rfl (es rfl (es rfl (es rfl (es rfl (es rfl (et rfl))))))))) rfl) ?_
    refine W_end ?_
    refine gen_Q (fun A31 hA31 => ?_)
    have hsz31 : SzN A31 29 := by rw [hA31]; infer_instance
    have hdf31 : A31.defers = [] := by rw [hA31]; simp only [df_put]; exact hdf9
    have l9_31 := lookE hA31 9 (es rfl (es rfl (es rfl (es rfl (es rfl (es rfl (es rfl (es rfl (es rfl (es rfl (es rfl (es rfl l9_9))))))))))))
    have l27_31 := lookE hA31 27 (et rfl)
    clear hA31 hsz9 hdf9 l1_9 l2_9 l9_9
    refine then_n (hK11 _ _ ?_)
    clear hK11
    refine cond_f l27_31 ?_
    refine wp_skip ?_
    refine then_n (hK10 _ _ ?_)
    clear hK10
    refine wp_seq_k (fun K32 hK32 => ?_)
    -- region 4
    refine region_in ?_
    refine W_v rfl rfl (V_mov rfl l9_31) ?_
    refine W_v rfl rfl (V_asg rfl (et rfl)) ?_
    refine W_end ?_
    refine gen_Q (fun A33 hA33 => ?_)
    have hsz33 : SzN A33 29 := by rw [hA33]; infer_instance
    have hdf33 : A33.defers = [] := by rw [hA33]; simp only [df_put]; exact hdf31
    have l6_33 := lookE hA33 6 (et rfl)
    clear hA33 hsz31 hdf31 l9_31 l27_31
    refine then_n (hK32 _ _ ?_)
    clear hK32
    refine wp_ret ?_
    refine ret_in (results_1 Tryd.results52 (rv_tmp l6_33)) hdf33 ?_
    -- leaf F
    exact ⟨retI (by rw [chkE_cases]; split <;> first | omega | (split <;> omega)), hE8⟩

set_option maxHeartbeats 4000000 in
theorem rplaced0_c {lv : Value} {lo : List Int} {yv : Value} {yo : List Int} {c : Int} {b : Bool} {w : World} (h_lv : Ints w lv lo) (h_yv : Ints w yv yo) (h1 : lo.length ≤ 1000) (h2 : yo.length ≤ 1000) :
    Calls Tryd.prog 45 #[.agg #[lv, yv], .int .i64 0, .int .i64 c, .bool b] w fun e w' => ∃ v1 v2, e = .returned (.tuple #[.agg #[v1, v2], .int .i64 (placeS lo yo 0 c b).e]) ∧ FreI w' w.heap.size 3 (v1) ((placeS lo yo 0 c b).lo) ∧ FreI w' w.heap.size 3 (v2) ((placeS lo yo 0 c b).yo) ∧ Ext w w' := by
  refine calls_in 42 Tryd.func45 rfl rfl (by simp) (fun A0 hsz0 hdf0 hargs => ?_)
  have l0_0 := hargs 0 (.agg #[lv, yv]) rfl
  have l1_0 := hargs 1 (.int .i64 0) rfl
  have l2_0 := hargs 2 (.int .i64 c) rfl
  have l3_0 := hargs 3 (.bool b) rfl
  clear hargs; replace hsz0 : SzN A0 42 := ⟨hsz0⟩
  have hE0 := Ext.rfl' w
  refine wp_seq_k (fun K1 hK1 => ?_)
  -- region 0
  refine region_in ?_
  refine W_box (cs := #[lv, yv]) rfl rfl rfl l0_0 rfl (fun g2 w2 hg2 hx2 b2 => ?_)
  have oB_2 : w.heap.size ≤ g2 := hg2 ▸ hE0.size
  have hE3 := Ext.tr hE0 hx2
  refine W_alloc (z := .agg #[.slice none 0 0, .slice none 0 0]) (cs := #[.slice none 0 0, .slice none 0 0]) rfl rfl rfl (by kernel_rfl) rfl (fun g4 w4 hg4 hx4 b4 => ?_)
  have o2_4 : g2 < g4 := hg4 ▸ lt_size b2
  have oB_4 : w.heap.size ≤ g4 := hg4 ▸ hE3.size
  have hE5 := Ext.tr hE3 hx4
  replace b2 := heap_ext hx4 b2
  refine W_v rfl rfl (V_asg rfl rfl) ?_
  refine W_end ?_
  refine gen_Q (fun A6 hA6 => ?_)
  have hsz6 : SzN A6 42 := by rw [hA6]; infer_instance
  have hdf6 : A6.defers = [] := by rw [hA6]; simp only [df_put]; exact hdf0
  have l1_6 := lookE hA6 1 (es rfl (es rfl (es rfl l1_0)))
  have l2_6 := lookE hA6 2 (es rfl (es rfl (es rfl l2_0)))
  have l3_6 := lookE hA6 3 (es rfl (es rfl (es rfl l3_0)))
  have l4_6 := lookE hA6 4 (es rfl (es rfl (et rfl)))
  have l8_6 := lookE hA6 8 (es rfl (et rfl))
  clear hA6 hsz0 hdf0 l0_0 l1_0 l2_0 l3_0
  refine then_n (hK1 _ _ ?_)
  clear hK1
  refine wp_seq_k (fun K7 hK7 => ?_)
  -- region 1
  refine region_in ?_
  refine W_r rfl rfl (VR_ldA rfl l4_6 b2 Tryd.underlying24 rfl (by kernel_rfl)) ?_
  refine W_v rfl rfl (V_mov rfl (es rfl l1_6)) ?_
  refine W_v rfl rfl (V_mov rfl (es rfl (es rfl l2_6))) ?_
  refine W_call rfl rfl rfl Tryd.func52 (by kernel_rfl) rfl (args3 (es rfl (es rfl (et rfl))) (es rfl (et rfl)) (et rfl)) (rasked_c (tr := 0) (c := c) (h_lv.ext hE5) (h_yv.ext hE5) ) ?_
  rintro _ w8 ⟨rfl, hx8⟩
  refine ⟨_, rfl, ?_⟩
  have hb9 := hE5.size
  have hE10 := Ext.tr hE5 hx8
  replace b2 := heap_ext hx8 b2
  replace b4 := heap_ext hx8 b4
  refine W_v rfl rfl (V_asg rfl (et rfl)) ?_
  refine W_end ?_
  refine gen_Q (fun A11 hA11 => ?_)
  have hsz11 : SzN A11 42 := by rw [hA11]; infer_instance
  have hdf11 : A11.defers = [] := by rw [hA11]; simp only [df_put]; exact hdf6
  have l1_11 := lookE hA11 1 (es rfl (es rfl (es rfl (es rfl (es rfl l1_6)))))
  have l2_11 := lookE hA11 2 (es rfl (es rfl (es rfl (es rfl (es rfl l2_6)))))
  have l3_11 := lookE hA11 3 (es rfl (es rfl (es rfl (es rfl (es rfl l3_6)))))
  have l4_11 := lookE hA11 4 (es rfl (es rfl (es rfl (es rfl (es rfl l4_6)))))
  have l8_11 := lookE hA11 8 (es rfl (es rfl (es rfl (es rfl (es rfl l8_6)))))
  have l10_11 := lookE hA11 10 (et rfl)
  clear hA11 hsz6 hdf6 l1_6 l2_6 l3_6 l4_6 l8_6
  refine then_n (hK7 _ _ ?_)
  clear hK7
  refine wp_seq_k (fun K12 hK12 => ?_)
  refine wp_seq_k (fun K13 hK13 => ?_)
  -- region 2
  refine region_in ?_
  refine W_v rfl rfl (V_mov rfl l10_11) ?_
  refine W_v rfl rfl (V_eql rfl (et rfl) rfl) ?_
  refine W_split rfl rfl (V_mov rfl (et rfl)) (fun c14 => ?_) (fun c14 => ?_)
  · skip
    refine W_v rfl (wanted_t rfl rfl (et rfl) (ez rfl)) (V_fa (off' := 0) rfl (es rfl (es rfl (es rfl l4_11))) Tryd.underlying24 rfl (by decide) rfl) ?_
    refine W_r rfl (wanted_t rfl rfl (es rfl (et rfl)) (ez rfl)) (VR_ldC rfl (et rfl) (cell_box (v := lv) b2 rfl) Tryd.underlying22 rfl) ?_
    refine W_v rfl (wanted_t rfl rfl (es rfl (es rfl (et rfl))) (ez rfl)) (V_mov rfl (es rfl (es rfl (es rfl (es rfl (es rfl l2_11)))))) ?_
    refine W_call rfl (wanted_t rfl rfl (es rfl (es rfl (es rfl (et rfl)))) (ez rfl)) rfl Tryd.func51 (by kernel_rfl) rfl (args2 (es rfl (et rfl)) (et rfl)) (rin_c (x := c) (h_lv.ext hE10) ) ?_
    rintro _ w15 ⟨rfl, hx15⟩
    refine ⟨_, rfl, ?_⟩
    have hb16 := hE10.size
    have hE17 := Ext.tr hE10 hx15
    replace b2 := heap_ext hx15 b2
    replace b4 := heap_ext hx15 b4
    refine W_split rfl (wanted_t rfl rfl (es rfl (es rfl (es rfl (es rfl (et rfl))))) (ez rfl)) (V_mov rfl (et rfl)) (fun c18 => ?_) (fun c18 => ?_)
    · skip
      refine W_off rfl (wanted_f rfl rfl (et rfl) (ez rfl) rfl) ?_
      refine W_off rfl (wanted_f rfl rfl (es rfl (et rfl)) (ez rfl) rfl) ?_
      refine W_off rfl (wanted_f rfl rfl (es rfl (es rfl (et rfl))) (ez rfl) rfl) ?_
      refine W_off rfl (wanted_f rfl rfl (es rfl (es rfl (es rfl (et rfl)))) (ez rfl) rfl) ?_
      refine W_v rfl (wanted_t rfl rfl (es rfl (es rfl (es rfl (es rfl (es rfl (es rfl (es rfl (es rfl (es rfl (et rfl)))))))))) (ez rfl)) (V_pickT rfl (es rfl (es rfl (es rfl (es rfl (et rfl))))) rfl) ?_
      refine W_v rfl rfl (V_pickT rfl (es rfl (es rfl (es rfl (es rfl (es rfl (es rfl (es rfl (es rfl (es rfl (es rfl (et rfl))))))))))) (et rfl)) ?_
      refine W_end ?_
      refine gen_Q (fun A19 hA19 => ?_)
      have hsz19 : SzN A19 42 := by rw [hA19]; infer_instance
      have hdf19 : A19.defers = [] := by rw [hA19]; simp only [df_put]; exact hdf11
      have l1_19 := lookE hA19 1 (es rfl (es rfl (es rfl (es rfl (es rfl (es rfl (es rfl (es rfl (es rfl (es rfl (es rfl (es rfl (es rfl (es rfl l1_11))))))))))))))
      have l2_19 := lookE hA19 2 (es rfl (es rfl (es rfl (es rfl (es rfl (es rfl (es rfl (es rfl (es rfl (es rfl (es rfl (es rfl (es rfl (es rfl l2_11))))))))))))))
      have l3_19 := lookE hA19 3 (es rfl (es rfl (es rfl (es rfl (es rfl (es rfl (es rfl (es rfl (es rfl (es rfl (es rfl (es rfl (es rfl (es rfl l3_11))))))))))))))
      have l4_19 := lookE hA19 4 (es rfl (es rfl (es rfl (es rfl (es rfl (es rfl (es rfl (es rfl (es rfl (es rfl (es rfl (es rfl (es rfl (es rfl l4_11))))))))))))))
      have l8_19 := lookE hA19 8 (es rfl (es rfl (es rfl (es rfl (es rfl (es rfl (es rfl (es rfl (es rfl (es rfl (es rfl (es rfl (es rfl (es rfl l8_11))))))))))))))
      have l10_19 := lookE hA19 10 (es rfl (es rfl (es rfl (es rfl (es rfl (es rfl (es rfl (es rfl (es rfl (es rfl (es rfl (es rfl (es rfl (es rfl l10_11))))))))))))))
      have l28_19 := lookE hA19 28 (et rfl)
      clear hA19 hsz11 hdf11 l1_11 l2_11 l3_11 l4_11 l8_11 l10_11
      refine then_n (hK13 _ _ ?_)
      clear hK13
      refine cond_t l28_19 ?_
      -- region 3
      refine region_in ?_
      refine W_v rfl rfl (V_asg rfl rfl) ?_
      refine W_end ?_
      refine gen_Q (fun A20 hA20 => ?_)
      have hsz20 : SzN A20 42 := by rw [hA20]; infer_instance
      have hdf20 : A20.defers = [] := by rw [hA20]; simp only [df_put]; exact hdf19
      have l1_20 := lookE hA20 1 (es rfl l1_19)
      have l2_20 := lookE hA20 2 (es rfl l2_19)
      have l3_20 := lookE hA20 3 (es rfl l3_19)
      have l4_20 := lookE hA20 4 (es rfl l4_19)
      have l8_20 := lookE hA20 8 (es rfl l8_19)
      have l10_20 := lookE hA20 10 (et rfl)
      clear hA20 hsz19 hdf19 l1_19 l2_19 l3_19 l4_19 l8_19 l10_19 l28_19
      refine then_n (hK12 _ _ ?_)
      clear hK12
      refine wp_seq_k (fun K21 hK21 => ?_)
      refine wp_seq_k (fun K22 hK22 => ?_)
      -- region 4
      refine region_in ?_
      refine W_v rfl rfl (V_mov rfl l10_20) ?_
      refine W_v rfl rfl (V_neq rfl (et rfl) rfl) ?_
      refine W_end ?_
      refine gen_Q (fun A23 hA23 => ?_)
      have hsz23 : SzN A23 42 := by rw [hA23]; infer_instance
      have hdf23 : A23.defers = [] := by rw [hA23]; simp only [df_put]; exact hdf20
      have l1_23 := lookE hA23 1 (es rfl (es rfl l1_20))
      have l2_23 := lookE hA23 2 (es rfl (es rfl l2_20))
      have l3_23 := lookE hA23 3 (es rfl (es rfl l3_20))
      have l4_23 := lookE hA23 4 (es rfl (es rfl l4_20))
      have l8_23 := lookE hA23 8 (es rfl (es rfl l8_20))
      have l10_23 := lookE hA23 10 (es rfl (es rfl l10_20))
      have l30_23 := lookE hA23 30 (et rfl)
      clear hA23 hsz20 hdf20 l1_20 l2_20 l3_20 l4_20 l8_20 l10_20
      refine then_n (hK22 _ _ ?_)
      clear hK22
      refine cond_sure l30_23 (by decide) ?_
      refine wp_seq_k (fun K24 hK24 => ?_)
      -- region 5
      refine region_in ?_
      refine W_v rfl rfl (V_bldS (n := 2) (z := .agg #[.slice none 0 0, .slice none 0 0]) rfl (parts0) (by kernel_rfl) (by simp only [List.all_cons, List.all_nil, Bool.and_true] <;> rfl) (by kernel_rfl) (by simp only [List.foldl_cons, List.foldl_nil, Value.cells, List.setIfInBounds_toArray, List.set_cons_succ, List.set_cons_zero] <;> rfl)) ?_
      refine W_v rfl rfl (V_mov rfl (es rfl l10_23)) ?_
      refine W_stA rfl rfl rfl (es rfl (es rfl l8_23)) (es rfl (et rfl)) (by simp only [List.all_toArray, List.all_cons, List.all_nil] <;> rfl) b4 (by rfl) (by kernel_rfl) (fun w25 ht25 hb25 => ?_)
      have hE26 := ext_tch hE17 ht25 oB_4
      replace b2 := box_tch b2 ht25 (Nat.ne_of_lt o2_4)
      replace b4 := hb25
      refine W_v rfl rfl (V_asg rfl (et rfl)) ?_
      refine W_end ?_
      refine gen_Q (fun A27 hA27 => ?_)
      have hsz27 : SzN A27 42 := by rw [hA27]; infer_instance
      have hdf27 : A27.defers = [] := by rw [hA27]; simp only [df_put]; exact hdf23
      have l8_27 := lookE hA27 8 (es rfl (es rfl (es rfl l8_23)))
      have l9_27 := lookE hA27 9 (et rfl)
      clear hA27 hsz23 hdf23 l1_23 l2_23 l3_23 l4_23 l8_23 l10_23 l30_23
      refine then_n (hK24 _ _ ?_)
      clear hK24
      refine wp_ret ?_
      refine then_ret ?_
      refine ret_in (results_2 Tryd.results45 (rv_cellA l8_27 b4 Tryd.underlying24 rfl (by kernel_rfl)) (rv_tmp l9_27)) hdf27 ?_
      -- leaf TT
      have hs : placeS lo yo 0 c b = ⟨[], [], 0, 8⟩ := by
        rw [placeS_cases]; simp [c14, c18]
      rw [hs]
      exact ⟨_, _, rfl, FreI.nil _ _ _, FreI.nil _ _ _, hE26⟩
    · skip
      refine W_v rfl (wanted_t rfl rfl (et rfl) (ez rfl)) (V_fa (off' := 1) rfl (es rfl (es rfl (es rfl (es rfl (es rfl (es rfl (es rfl (es rfl l4_11)))))))) Tryd.underlying24 rfl (by decide) rfl) ?_
      refine W_r rfl (wanted_t rfl rfl (es rfl (et rfl)) (ez rfl)) (VR_ldC rfl (et rfl) (cell_box (v := yv) b2 rfl) Tryd.underlying22 rfl) ?_
      refine W_v rfl (wanted_t rfl rfl (es rfl (es rfl (et rfl))) (ez rfl)) (V_mov rfl (es rfl (es rfl (es rfl (es rfl (es rfl (es rfl (es rfl (es rfl (es rfl (es rfl l2_11))))))))))) ?_
      refine W_call rfl (wanted_t rfl rfl (es rfl (es rfl (es rfl (et rfl)))) (ez rfl)) rfl Tryd.func51 (by kernel_rfl) rfl (args2 (es rfl (et rfl)) (et rfl)) (rin_c (x := c) (h_yv.ext hE17) ) ?_
      rintro _ w28 ⟨rfl, hx28⟩
      refine ⟨_, rfl, ?_⟩
      have hb29 := hE17.size
      have hE30 := Ext.tr hE17 hx28
      replace b2 := heap_ext hx28 b2
      replace b4 := heap_ext hx28 b4
      refine W_v rfl (wanted_t rfl rfl (es rfl (es rfl (es rfl (es rfl (es rfl (es rfl (es rfl (es rfl (es rfl (et rfl)))))))))) (ez rfl)) (V_pickF rfl (es rfl (es rfl (es rfl (es rfl (et rfl))))) (et rfl)) ?_
      refine W_v rfl rfl (V_pickT rfl (es rfl (es rfl (es rfl (es rfl (es rfl (es rfl (es rfl (es rfl (es rfl (es rfl (et rfl))))))))))) (et rfl)) ?_
      refine W_end ?_
      refine gen_Q (fun A31 hA31 => ?_)
      have hsz31 : SzN A31 42 := by rw [hA31]; infer_instance
      have hdf31 : A31.defers = [] := by rw [hA31]; simp only [df_put]; exact hdf11
      have l1_31 := lookE hA31 1 (es rfl (es rfl (es rfl (es rfl (es rfl (es rfl (es rfl (es rfl (es rfl (es rfl (es rfl (es rfl (es rfl (es rfl l1_11))))))))))))))
      have l2_31 := lookE hA31 2 (es rfl (es rfl (es rfl (es rfl (es rfl (es rfl (es rfl (es rfl (es rfl (es rfl (es rfl (es rfl (es rfl (es rfl l2_11))))))))))))))
      have l3_31 := lookE hA31 3 (es rfl (es rfl (es rfl (es rfl (es rfl (es rfl (es rfl (es rfl (es rfl (es rfl (es rfl (es rfl (es rfl (es rfl l3_11))))))))))))))
      have l4_31 := lookE hA31 4 (es rfl (es rfl (es rfl (es rfl (es rfl (es rfl (es rfl (es rfl (es rfl (es rfl (es rfl (es rfl (es rfl (es rfl l4_11))))))))))))))
      have l8_31 := lookE hA31 8 (es rfl (es rfl (es rfl (es rfl (es rfl (es rfl (es rfl (es rfl (es rfl (es rfl (es rfl (es rfl (es rfl (es rfl l8_11))))))))))))))
      have l10_31 := lookE hA31 10 (es rfl (es rfl (es rfl (es rfl (es rfl (es rfl (es rfl (es rfl (es rfl (es rfl (es rfl (es rfl (es rfl (es rfl l10_11))))))))))))))
      have l28_31 := lookE hA31 28 (et rfl)
      clear hA31 hsz11 hdf11 l1_11 l2_11 l3_11 l4_11 l8_11 l10_11
      refine then_n (hK13 _ _ ?_)
      clear hK13
      refine cond_dec l28_31 (fun c32 => ?_) (fun c32 => ?_)
      · skip
        -- region 3
        refine region_in ?_
        refine W_v rfl rfl (V_asg rfl rfl) ?_
        refine W_end ?_
        refine gen_Q (fun A33 hA33 => ?_)
        have hsz33 : SzN A33 42 := by rw [hA33]; infer_instance
        have hdf33 : A33.defers = [] := by rw [hA33]; simp only [df_put]; exact hdf31
        have l1_33 := lookE hA33 1 (es rfl l1_31)
        have l2_33 := lookE hA33 2 (es rfl l2_31)
        have l3_33 := lookE hA33 3 (es rfl l3_31)
        have l4_33 := lookE hA33 4 (es rfl l4_31)
        have l8_33 := lookE hA33 8 (es rfl l8_31)
        have l10_33 := lookE hA33 10 (et rfl)
        clear hA33 hsz31 hdf31 l1_31 l2_31 l3_31 l4_31 l8_31 l10_31 l28_31
        refine then_n (hK12 _ _ ?_)
        clear hK12
        refine wp_seq_k (fun K34 hK34 => ?_)
        refine wp_seq_k (fun K35 hK35 => ?_)
        -- region 4
        refine region_in ?_
        refine W_v rfl rfl (V_mov rfl l10_33) ?_
        refine W_v rfl rfl (V_neq rfl (et rfl) rfl) ?_
        refine W_end ?_
        refine gen_Q (fun A36 hA36 => ?_)
        have hsz36 : SzN A36 42 := by rw [hA36]; infer_instance
        have hdf36 : A36.defers = [] := by rw [hA36]; simp only [df_put]; exact hdf33
        have l1_36 := lookE hA36 1 (es rfl (es rfl l1_33))
        have l2_36 := lookE hA36 2 (es rfl (es rfl l2_33))
        have l3_36 := lookE hA36 3 (es rfl (es rfl l3_33))
        have l4_36 := lookE hA36 4 (es rfl (es rfl l4_33))
        have l8_36 := lookE hA36 8 (es rfl (es rfl l8_33))
        have l10_36 := lookE hA36 10 (es rfl (es rfl l10_33))
        have l30_36 := lookE hA36 30 (et rfl)
        clear hA36 hsz33 hdf33 l1_33 l2_33 l3_33 l4_33 l8_33 l10_33
        refine then_n (hK35 _ _ ?_)
        clear hK35
        refine cond_sure l30_36 (by decide) ?_
        refine wp_seq_k (fun K37 hK37 => ?_)
        -- region 5
        refine region_in ?_
        refine W_v rfl rfl (V_bldS (n := 2) (z := .agg #[.slice none 0 0, .slice none 0 0]) rfl (parts0) (by kernel_rfl) (by simp only [List.all_cons, List.all_nil, Bool.and_true] <;> rfl) (by kernel_rfl) (by simp only [List.foldl_cons, List.foldl_nil, Value.cells, List.setIfInBounds_toArray, List.set_cons_succ, List.set_cons_zero] <;> rfl)) ?_
        refine W_v rfl rfl (V_mov rfl (es rfl l10_36)) ?_
        refine W_stA rfl rfl rfl (es rfl (es rfl l8_36)) (es rfl (et rfl)) (by simp only [List.all_toArray, List.all_cons, List.all_nil] <;> rfl) b4 (by rfl) (by kernel_rfl) (fun w38 ht38 hb38 => ?_)
        have hE39 := ext_tch hE30 ht38 oB_4
        replace b2 := box_tch b2 ht38 (Nat.ne_of_lt o2_4)
        replace b4 := hb38
        refine W_v rfl rfl (V_asg rfl (et rfl)) ?_
        refine W_end ?_
        refine gen_Q (fun A40 hA40 => ?_)
        have hsz40 : SzN A40 42 := by rw [hA40]; infer_instance
        have hdf40 : A40.defers = [] := by rw [hA40]; simp only [df_put]; exact hdf36
        have l8_40 := lookE hA40 8 (es rfl (es rfl (es rfl l8_36)))
        have l9_40 := lookE hA40 9 (et rfl)
        clear hA40 hsz36 hdf36 l1_36 l2_36 l3_36 l4_36 l8_36 l10_36 l30_36
        refine then_n (hK37 _ _ ?_)
        clear hK37
        refine wp_ret ?_
        refine then_ret ?_
        refine ret_in (results_2 Tryd.results45 (rv_cellA l8_40 b4 Tryd.underlying24 rfl (by kernel_rfl)) (rv_tmp l9_40)) hdf40 ?_
        -- leaf TFT
        have hs : placeS lo yo 0 c b = ⟨[], [], 0, 8⟩ := by
          rw [placeS_cases]; simp [c14, c18, c32]
        rw [hs]
        exact ⟨_, _, rfl, FreI.nil _ _ _, FreI.nil _ _ _, hE39⟩
      · skip
        refine wp_skip ?_
        refine then_n (hK12 _ _ ?_)
        clear hK12
        refine wp_seq_k (fun K41 hK41 => ?_)
        refine wp_seq_k (fun K42 hK42 => ?_)
        -- region 4
        refine region_in ?_
        refine W_v rfl rfl (V_mov rfl l10_31) ?_
        refine W_v rfl rfl (V_neq rfl (et rfl) rfl) ?_
        refine W_end ?_
        refine gen_Q (fun A43 hA43 => ?_)
        have hsz43 : SzN A43 42 := by rw [hA43]; infer_instance
        have hdf43 : A43.defers = [] := by rw [hA43]; simp only [df_put]; exact hdf31
        have l1_43 := lookE hA43 1 (es rfl (es rfl l1_31))
        have l2_43 := lookE hA43 2 (es rfl (es rfl l2_31))
        have l3_43 := lookE hA43 3 (es rfl (es rfl l3_31))
        have l4_43 := lookE hA43 4 (es rfl (es rfl l4_31))
        have l8_43 := lookE hA43 8 (es rfl (es rfl l8_31))
        have l10_43 := lookE hA43 10 (es rfl (es rfl l10_31))
        have l30_43 := lookE hA43 30 (et rfl)
        clear hA43 hsz31 hdf31 l1_31 l2_31 l3_31 l4_31 l8_31 l10_31 l28_31
        refine then_n (hK42 _ _ ?_)
        clear hK42
        refine cond_not l30_43 (by simp [c14]) ?_
        refine wp_skip ?_
        refine then_n (hK41 _ _ ?_)
        clear hK41
        refine wp_seq_k (fun K44 hK44 => ?_)
        -- region 6
        refine region_mono 9 10 [none, none, none, none, some (⟨fun w v => ∃ v_s, v = v_s ∧ OwnI w w28.heap.size 3 (v_s) (if 0 = 0 then lo else yo), fun _ _ _ he ⟨v_s, h, f_s⟩ => ⟨v_s, h, f_s.ext he⟩⟩), none, none, some (⟨fun w v => ∃ r_s, v = r_s ∧ OwnI w w28.heap.size 3 (r_s) (putL (if 0 = 0 then lo else yo) c b), fun _ _ _ he ⟨r_s, h, f_s⟩ => ⟨r_s, h, f_s.ext he⟩⟩), some (⟨fun w v => ∃ ra0_s v2_s, v = .agg #[ra0_s, v2_s] ∧ FreI w w28.heap.size 3 (ra0_s) (putL (if 0 = 0 then lo else yo) c b) ∧ OwnI w w28.heap.size 3 (v2_s) (yo), fun _ _ _ he ⟨ra0_s, v2_s, h, fa0_s, f2_s⟩ => ⟨ra0_s, v2_s, h, fa0_s.ext he, f2_s.ext he⟩⟩)] (by kernel_rfl) (by kernel_rfl) ?_
        refine C_r rfl rfl (by kernel_rfl) (fun wx hx hF => (VR_ldA rfl l4_43 (heap_ext hx b2) Tryd.underlying24 rfl (by kernel_rfl))) rfl rfl ?_
        refine C_v rfl rfl (V_mov rfl (es rfl l1_43)) rfl rfl ?_
        refine C_r rfl rfl (by kernel_rfl) (fun wx hx hF => (VR_ldA rfl (es rfl (es rfl l4_43)) (heap_ext hx b2) Tryd.underlying24 rfl (by kernel_rfl))) rfl rfl ?_
        refine C_v rfl rfl (V_mov rfl (es rfl (es rfl (es rfl l1_43)))) rfl rfl ?_
        refine C_call rfl rfl rfl Tryd.func55 (by kernel_rfl) rfl (args2 (es rfl (et rfl)) (et rfl)) rfl rfl (fun wx hx hF => ?_) (fun u45 hu45 => ?_)
        · refine (rof_c (n := 0) (h_lv.ext (Ext.tr hE30 hx)) (h_yv.ext (Ext.tr hE30 hx)) (by first | omega | (simp; done) | (simp; omega)) (by first | omega | (simp; done) | (simp; omega))).mono ?_
          rintro _ w45 ⟨v_45, rfl, f_45, hz⟩
          exact ⟨_, rfl, hz, _, rfl, f_45.base hx.size⟩
        obtain ⟨_, _, v_45, rfl, _⟩ := hu45
        refine C_v rfl rfl (V_mov rfl (es rfl (es rfl (es rfl (es rfl (es rfl l2_43)))))) rfl rfl ?_
        refine C_v rfl rfl (V_mov rfl (es rfl (es rfl (es rfl (es rfl (es rfl (es rfl l3_43))))))) rfl rfl ?_
        refine C_call rfl rfl rfl Tryd.func54 (by kernel_rfl) rfl (args3 (es rfl (es rfl (et rfl))) (es rfl (et rfl)) (et rfl)) rfl rfl (fun wx hx hF => ?_) (fun u46 hu46 => ?_)
        · obtain ⟨v_45q, hq45, f_45⟩ := ancF_get hF (by kernel_rfl); cases hq45; refine (rput_c (c := c) (b := b) f_45.ints (by first | omega | (split <;> omega))).mono ?_
          rintro _ w46 ⟨r_46, rfl, f_46, hz⟩
          exact ⟨_, rfl, hz, _, rfl, f_46.base hx.size⟩
        obtain ⟨_, _, r_46, rfl, _⟩ := hu46
        refine C_call rfl rfl rfl Tryd.func53 (by kernel_rfl) rfl (args3 (es rfl (es rfl (es rfl (es rfl (es rfl (es rfl (es rfl (et rfl)))))))) (es rfl (es rfl (es rfl (es rfl (es rfl (es rfl (et rfl))))))) (et rfl)) rfl rfl (fun wx hx hF => ?_) (fun u47 hu47 => ?_)
        · obtain ⟨r_46q, hq46, f_46⟩ := ancF_get hF (by kernel_rfl); cases hq46; refine (rwith0_c (h_lv.ext (Ext.tr hE30 hx)) (h_yv.ext (Ext.tr hE30 hx)) f_46.ints (by first | omega | (simp; done) | (simp; omega)) (by first | omega | (simp; done) | (simp; omega))).mono ?_
          rintro _ w47 ⟨v2_47, rfl, f2_47, hz⟩
          exact ⟨_, rfl, hz, _, _, rfl, (f_46.fre).ext hz, f2_47.base hx.size⟩
        obtain ⟨_, _, ra0_47, v2_47, rfl, _, _⟩ := hu47
        refine C_eff rfl ?_
        refine Z_eff rfl rfl (fun w48 hz48 hF48 => ?_)
        obtain ⟨v_45q, hq45, f_45⟩ := all_get (all_rest (all_rest hF48)); cases hq45
        obtain ⟨r_46q, hq46, f_46⟩ := all_get (all_rest hF48); cases hq46
        obtain ⟨ra0_47q, v2_47q, hq47, fa0_47, f2_47⟩ := all_get hF48; cases hq47
        clear hF48
        have hR48 := hE30.size
        have hE49 := Ext.tr hE30 hz48
        replace b2 := heap_ext hz48 b2
        replace b4 := heap_ext hz48 b4
        have ul_f_45 := fre_lo f_45.fre
        replace f_45 := f_45.base hR48
        have ul_f_46 := fre_lo f_46.fre
        replace f_46 := f_46.base hR48
        have ul_fa0_47 := fre_lo fa0_47
        replace fa0_47 := fa0_47.base hR48
        have ul_f2_47 := fre_lo f2_47.fre
        replace f2_47 := f2_47.base hR48
        refine W_stA rfl rfl rfl (es rfl (es rfl (es rfl (es rfl (es rfl (es rfl (es rfl (es rfl (es rfl l8_43))))))))) (et rfl) (by simp only [List.all_toArray, List.all_cons, List.all_nil, one_ints fa0_47.1, one_ints f2_47.ints] <;> rfl) b4 (by rfl) (by kernel_rfl) (fun w50 ht50 hb50 => ?_)
        have hE51 := ext_tch hE49 ht50 oB_4
        replace f_45 := f_45.tch ht50 b4 rfl
        replace f_46 := f_46.tch ht50 b4 rfl
        replace fa0_47 := fa0_47.tch ht50 b4 rfl
        replace f2_47 := f2_47.tch ht50 b4 rfl
        replace b2 := box_tch b2 ht50 (Nat.ne_of_lt o2_4)
        replace b4 := hb50
        refine W_v rfl rfl (V_asg rfl rfl) ?_
        refine W_end ?_
        refine Qo_normal ?_
        refine gen_Q (fun A52 hA52 => ?_)
        have hsz52 : SzN A52 42 := by rw [hA52]; infer_instance
        have hdf52 : A52.defers = [] := by rw [hA52]; simp only [df_put]; exact hdf43
        have l8_52 := lookE hA52 8 (es rfl (es rfl (es rfl (es rfl (es rfl (es rfl (es rfl (es rfl (es rfl (es rfl l8_43))))))))))
        have l9_52 := lookE hA52 9 (et rfl)
        clear hA52 hsz43 hdf43 l1_43 l2_43 l3_43 l4_43 l8_43 l10_43 l30_43
        refine then_n (hK44 _ _ ?_)
        clear hK44
        refine wp_ret ?_
        refine ret_in (results_2 Tryd.results45 (rv_cellA l8_52 b4 Tryd.underlying24 rfl (by kernel_rfl)) (rv_tmp l9_52)) hdf52 ?_
        -- leaf TFF
        have hs : placeS lo yo 0 c b = ⟨(putL (if 0 = 0 then lo else yo) c b), yo, 0, 0⟩ := by
          rw [placeS_cases]; simp [c14, c18, c32]
        rw [hs]
        exact ⟨_, _, rfl, fa0_47, f2_47.fre, hE51⟩
  · skip
    refine W_off rfl (wanted_f rfl rfl (et rfl) (ez rfl) rfl) ?_
    refine W_off rfl (wanted_f rfl rfl (es rfl (et rfl)) (ez rfl) rfl) ?_
    refine W_off rfl (wanted_f rfl rfl (es rfl (es rfl (et rfl))) (ez rfl) rfl) ?_
    refine W_off rfl (wanted_f rfl rfl (es rfl (es rfl (es rfl (et rfl)))) (ez rfl) rfl) ?_
    refine W_off rfl (wanted_f rfl rfl (es rfl (es rfl (es rfl (es rfl (et rfl))))) (ez rfl) rfl) ?_
    refine W_off rfl (wanted_u rfl rfl (et rfl) (ez rfl)) ?_
    refine W_off rfl (wanted_u rfl rfl (es rfl (et rfl)) (ez rfl)) ?_
    refine W_off rfl (wanted_u rfl rfl (es rfl (es rfl (et rfl))) (ez rfl)) ?_
    refine W_off rfl (wanted_u rfl rfl (es rfl (es rfl (es rfl (et rfl)))) (ez rfl)) ?_
    refine W_off rfl (wanted_f rfl rfl (es rfl (es rfl (es rfl (es rfl (es rfl (es rfl (es rfl (es rfl (es rfl (et rfl)))))))))) (ez rfl) rfl) ?_
    refine W_v rfl rfl (V_pickF rfl (es rfl (es rfl (es rfl (es rfl (es rfl (es rfl (es rfl (es rfl (es rfl (es rfl (et rfl))))))))))) rfl) ?_
    refine W_end ?_
    refine gen_Q (fun A53 hA53 => ?_)
    have hsz53 : SzN A53 42 := by rw [hA53]; infer_instance
    have hdf53 : A53.defers = [] := by rw [hA53]; simp only [df_put]; exact hdf11
    have l1_53 := lookE hA53 1 (es rfl (es rfl (es rfl (es rfl (es rfl (es rfl (es rfl (es rfl (es rfl (es rfl (es rfl (es rfl (es rfl (es rfl l1_11))))))))))))))
    have l2_53 := lookE hA53 2 (es rfl (es rfl (es rfl (es rfl (es rfl (es rfl (es rfl (es rfl (es rfl (es rfl (es rfl (es rfl (es rfl (es rfl l2_11))))))))))))))
    have l3_53 := lookE hA53 3 (es rfl (es rfl (es rfl (es rfl (es rfl (es rfl (es rfl (es rfl (es rfl (es rfl (es rfl (es rfl (es rfl (es rfl l3_11))))))))))))))
    have l4_53 := lookE hA53 4 (es rfl (es rfl (es rfl (es rfl (es rfl (es rfl (es rfl (es rfl (es rfl (es rfl (es rfl (es rfl (es rfl (es rfl l4_11))))))))))))))
    have l8_53 := lookE hA53 8 (es rfl (es rfl (es rfl (es rfl (es rfl (es rfl (es rfl (es rfl (es rfl (es rfl (es rfl (es rfl (es rfl (es rfl l8_11))))))))))))))
    have l10_53 := lookE hA53 10 (es rfl (es rfl (es rfl (es rfl (es rfl (es rfl (es rfl (es rfl (es rfl (es rfl (es rfl (es rfl (es rfl (es rfl l10_11))))))))))))))
    have l28_53 := lookE hA53 28 (et rfl)
    clear hA53 hsz11 hdf11 l1_11 l2_11 l3_11 l4_11 l8_11 l10_11
    refine then_n (hK13 _ _ ?_)
    clear hK13
    refine cond_f l28_53 ?_
    refine wp_skip ?_
    refine then_n (hK12 _ _ ?_)
    clear hK12
    refine wp_seq_k (fun K54 hK54 => ?_)
    refine wp_seq_k (fun K55 hK55 => ?_)
    -- region 4
    refine region_in ?_
    refine W_v rfl rfl (V_mov rfl l10_53) ?_
    refine W_v rfl rfl (V_neq rfl (et rfl) rfl) ?_
    refine W_end ?_
    refine gen_Q (fun A56 hA56 => ?_)
    have hsz56 : SzN A56 42 := by rw [hA56]; infer_instance
    have hdf56 : A56.defers = [] := by rw [hA56]; simp only [df_put]; exact hdf53
    have l1_56 := lookE hA56 1 (es rfl (es rfl l1_53))
    have l2_56 := lookE hA56 2 (es rfl (es rfl l2_53))
    have l3_56 := lookE hA56 3 (es rfl (es rfl l3_53))
    have l4_56 := lookE hA56 4 (es rfl (es rfl l4_53))
    have l8_56 := lookE hA56 8 (es rfl (es rfl l8_53))
    have l10_56 := lookE hA56 10 (es rfl (es rfl l10_53))
    have l30_56 := lookE hA56 30 (et rfl)
    clear hA56 hsz53 hdf53 l1_53 l2_53 l3_53 l4_53 l8_53 l10_53 l28_53
    refine then_n (hK55 _ _ ?_)
    clear hK55
    refine cond_sure l30_56 (by simp [c14]) ?_
    refine wp_seq_k (fun K57 hK57 => ?_)
    -- region 5
    refine region_in ?_
    refine W_v rfl rfl (V_bldS (n := 2) (z := .agg #[.slice none 0 0, .slice none 0 0]) rfl (parts0) (by kernel_rfl) (by simp only [List.all_cons, List.all_nil, Bool.and_true] <;> rfl) (by kernel_rfl) (by simp only [List.foldl_cons, List.foldl_nil, Value.cells, List.setIfInBounds_toArray, List.set_cons_succ, List.set_cons_zero] <;> rfl)) ?_
    refine W_v rfl rfl (V_mov rfl (es rfl l10_56)) ?_
    refine W_stA rfl rfl rfl (es rfl (es rfl l8_56)) (es rfl (et rfl)) (by simp only [List.all_toArray, List.all_cons, List.all_nil] <;> rfl) b4 (by rfl) (by kernel_rfl) (fun w58 ht58 hb58 => ?_)
    have hE59 := ext_tch hE10 ht58 oB_4
    replace b2 := box_tch b2 ht58 (Nat.ne_of_lt o2_4)
    replace b4 := hb58
    refine W_v rfl rfl (V_asg rfl (et rfl)) ?_
    refine W_end ?_
    refine gen_Q (fun A60 hA60 => ?_)
    have hsz60 : SzN A60 42 := by rw [hA60]; infer_instance
    have hdf60 : A60.defers = [] := by rw [hA60]; simp only [df_put]; exact hdf56
    have l8_60 := lookE hA60 8 (es rfl (es rfl (es rfl l8_56)))
    have l9_60 := lookE hA60 9 (et rfl)
    clear hA60 hsz56 hdf56 l1_56 l2_56 l3_56 l4_56 l8_56 l10_56 l30_56
    refine then_n (hK57 _ _ ?_)
    clear hK57
    refine wp_ret ?_
    refine then_ret ?_
    refine ret_in (results_2 Tryd.results45 (rv_cellA l8_60 b4 Tryd.underlying24 rfl (by kernel_rfl)) (rv_tmp l9_60)) hdf60 ?_
    -- leaf F
    have hs : placeS lo yo 0 c b = ⟨[], [], 0, chkE lo yo 0 c⟩ := by
      rw [placeS_cases]; simp [c14]
    rw [hs]
    exact ⟨_, _, rfl, FreI.nil _ _ _, FreI.nil _ _ _, hE59⟩

set_option maxHeartbeats 4000000 in
theorem rplaced1_c {lv : Value} {lo : List Int} {yv : Value} {yo : List Int} {n : Int} {c : Int} {b : Bool} {w : World} (h_lv : Ints w lv lo) (h_yv : Ints w yv yo) (h1 : lo.length ≤ 1000) (h2 : yo.length ≤ 1000) (hn0 : n ≠ 0) :
    Calls Tryd.prog 45 #[.agg #[lv, yv], .int .i64 n, .int .i64 c, .bool b] w fun e w' => ∃ v1 v2, e = .returned (.tuple #[.agg #[v1, v2], .int .i64 (placeS lo yo n c b).e]) ∧ FreI w' w.heap.size 3 (v1) ((placeS lo yo n c b).lo) ∧ FreI w' w.heap.size 3 (v2) ((placeS lo yo n c b).yo) ∧ Ext w w' := by
  refine calls_in 42 Tryd.func45 rfl rfl (by simp) (fun A0 hsz0 hdf0 hargs => ?_)
  have l0_0 := hargs 0 (.agg #[lv, yv]) rfl
  have l1_0 := hargs 1 (.int .i64 n) rfl
  have l2_0 := hargs 2 (.int .i64 c) rfl
  have l3_0 := hargs 3 (.bool b) rfl
  clear hargs; replace hsz0 : SzN A0 42 := ⟨hsz0⟩
  have hE0 := Ext.rfl' w
  refine wp_seq_k (fun K1 hK1 => ?_)
  -- region 0
  refine region_in ?_
  refine W_box (cs := #[lv, yv]) rfl rfl rfl l0_0 rfl (fun g2 w2 hg2 hx2 b2 => ?_)
  have oB_2 : w.heap.size ≤ g2 := hg2 ▸ hE0.size
  have hE3 := Ext.tr hE0 hx2
  refine W_alloc (z := .agg #[.slice none 0 0, .slice none 0 0]) (cs := #[.slice none 0 0, .slice none 0 0]) rfl rfl rfl (by kernel_rfl) rfl (fun g4 w4 hg4 hx4 b4 => ?_)
  have o2_4 : g2 < g4 := hg4 ▸ lt_size b2
  have oB_4 : w.heap.size ≤ g4 := hg4 ▸ hE3.size
  have hE5 := Ext.tr hE3 hx4
  replace b2 := heap_ext hx4 b2
  refine W_v rfl rfl (V_asg rfl rfl) ?_
  refine W_end ?_
  refine gen_Q (fun A6 hA6 => ?_)
  have hsz6 : SzN A6 42 := by rw [hA6]; infer_instance
  have hdf6 : A6.defers = [] := by rw [hA6]; simp only [df_put]; exact hdf0
  have l1_6 := lookE hA6 1 (es rfl (es rfl (es rfl l1_0)))
  have l2_6 := lookE hA6 2 (es rfl (es rfl (es rfl l2_0)))
  have l3_6 := lookE hA6 3 (es rfl (es rfl (es rfl l3_0)))
  have l4_6 := lookE hA6 4 (es rfl (es rfl (et rfl)))
  have l8_6 := lookE hA6 8 (es rfl (et rfl))
  clear hA6 hsz0 hdf0 l0_0 l1_0 l2_0 l3_0
  refine then_n (hK1 _ _ ?_)
  clear hK1
  refine wp_seq_k (fun K7 hK7 => ?_)
  -- region 1
  refine region_in ?_
  refine W_r rfl rfl (VR_ldA rfl l4_6 b2 Tryd.underlying24 rfl (by kernel_rfl)) ?_
  refine W_v rfl rfl (V_mov rfl (es rfl l1_6)) ?_
  refine W_v rfl rfl (V_mov rfl (es rfl (es rfl l2_6))) ?_
  refine W_call rfl rfl rfl Tryd.func52 (by kernel_rfl) rfl (args3 (es rfl (es rfl (et rfl))) (es rfl (et rfl)) (et rfl)) (rasked_c (tr := n) (c := c) (h_lv.ext hE5) (h_yv.ext hE5) ) ?_
  rintro _ w8 ⟨rfl, hx8⟩
  refine ⟨_, rfl, ?_⟩
  have hb9 := hE5.size
  have hE10 := Ext.tr hE5 hx8
  replace b2 := heap_ext hx8 b2
  replace b4 := heap_ext hx8 b4
  refine W_v rfl rfl (V_asg rfl (et rfl)) ?_
  refine W_end ?_
  refine gen_Q (fun A11 hA11 => ?_)
  have hsz11 : SzN A11 42 := by rw [hA11]; infer_instance
  have hdf11 : A11.defers = [] := by rw [hA11]; simp only [df_put]; exact hdf6
  have l1_11 := lookE hA11 1 (es rfl (es rfl (es rfl (es rfl (es rfl l1_6)))))
  have l2_11 := lookE hA11 2 (es rfl (es rfl (es rfl (es rfl (es rfl l2_6)))))
  have l3_11 := lookE hA11 3 (es rfl (es rfl (es rfl (es rfl (es rfl l3_6)))))
  have l4_11 := lookE hA11 4 (es rfl (es rfl (es rfl (es rfl (es rfl l4_6)))))
  have l8_11 := lookE hA11 8 (es rfl (es rfl (es rfl (es rfl (es rfl l8_6)))))
  have l10_11 := lookE hA11 10 (et rfl)
  clear hA11 hsz6 hdf6 l1_6 l2_6 l3_6 l4_6 l8_6
  refine then_n (hK7 _ _ ?_)
  clear hK7
  refine wp_seq_k (fun K12 hK12 => ?_)
  refine wp_seq_k (fun K13 hK13 => ?_)
  -- region 2
  refine region_in ?_
  refine W_v rfl rfl (V_mov rfl l10_11) ?_
  refine W_v rfl rfl (V_eql rfl (et rfl) rfl) ?_
  refine W_split rfl rfl (V_mov rfl (et rfl)) (fun c14 => ?_) (fun c14 => ?_)
  · skip
    refine W_v rfl (wanted_t rfl rfl (et rfl) (ez rfl)) (V_fa (off' := 0) rfl (es rfl (es rfl (es rfl l4_11))) Tryd.underlying24 rfl (by decide) rfl) ?_
    refine W_r rfl (wanted_t rfl rfl (es rfl (et rfl)) (ez rfl)) (VR_ldC rfl (et rfl) (cell_box (v := lv) b2 rfl) Tryd.underlying22 rfl) ?_
    refine W_v rfl (wanted_t rfl rfl (es rfl (es rfl (et rfl))) (ez rfl)) (V_mov rfl (es rfl (es rfl (es rfl (es rfl (es rfl l2_11)))))) ?_
    refine W_call rfl (wanted_t rfl rfl (es rfl (es rfl (es rfl (et rfl)))) (ez rfl)) rfl Tryd.func51 (by kernel_rfl) rfl (args2 (es rfl (et rfl)) (et rfl)) (rin_c (x := c) (h_lv.ext hE10) ) ?_
    rintro _ w15 ⟨rfl, hx15⟩
    refine ⟨_, rfl, ?_⟩
    have hb16 := hE10.size
    have hE17 := Ext.tr hE10 hx15
    replace b2 := heap_ext hx15 b2
    replace b4 := heap_ext hx15 b4
    refine W_split rfl (wanted_t rfl rfl (es rfl (es rfl (es rfl (es rfl (et rfl))))) (ez rfl)) (V_mov rfl (et rfl)) (fun c18 => ?_) (fun c18 => ?_)
    · skip
      refine W_off rfl (wanted_f rfl rfl (et rfl) (ez rfl) rfl) ?_
      refine W_off rfl (wanted_f rfl rfl (es rfl (et rfl)) (ez rfl) rfl) ?_
      refine W_off rfl (wanted_f rfl rfl (es rfl (es rfl (et rfl))) (ez rfl) rfl) ?_
      refine W_off rfl (wanted_f rfl rfl (es rfl (es rfl (es rfl (et rfl)))) (ez rfl) rfl) ?_
      refine W_v rfl (wanted_t rfl rfl (es rfl (es rfl (es rfl (es rfl (es rfl (es rfl (es rfl (es rfl (es rfl (et rfl)))))))))) (ez rfl)) (V_pickT rfl (es rfl (es rfl (es rfl (es rfl (et rfl))))) rfl) ?_
      refine W_v rfl rfl (V_pickT rfl (es rfl (es rfl (es rfl (es rfl (es rfl (es rfl (es rfl (es rfl (es rfl (es rfl (et rfl))))))))))) (et rfl)) ?_
      refine W_end ?_
      refine gen_Q (fun A19 hA19 => ?_)
      have hsz19 : SzN A19 42 := by rw [hA19]; infer_instance
      have hdf19 : A19.defers = [] := by rw [hA19]; simp only [df_put]; exact hdf11
      have l1_19 := lookE hA19 1 (es rfl (es rfl (es rfl (es rfl (es rfl (es rfl (es rfl (es rfl (es rfl (es rfl (es rfl (es rfl (es rfl (es rfl l1_11))))))))))))))
      have l2_19 := lookE hA19 2 (es rfl (es rfl (es rfl (es rfl (es rfl (es rfl (es rfl (es rfl (es rfl (es rfl (es rfl (es rfl (es rfl (es rfl l2_11))))))))))))))
      have l3_19 := lookE hA19 3 (es rfl (es rfl (es rfl (es rfl (es rfl (es rfl (es rfl (es rfl (es rfl (es rfl (es rfl (es rfl (es rfl (es rfl l3_11))))))))))))))
      have l4_19 := lookE hA19 4 (es rfl (es rfl (es rfl (es rfl (es rfl (es rfl (es rfl (es rfl (es rfl (es rfl (es rfl (es rfl (es rfl (es rfl l4_11))))))))))))))
      have l8_19 := lookE hA19 8 (es rfl (es rfl (es rfl (es rfl (es rfl (es rfl (es rfl (es rfl (es rfl (es rfl (es rfl (es rfl (es rfl (es rfl l8_11))))))))))))))
      have l10_19 := lookE hA19 10 (es rfl (es rfl (es rfl (es rfl (es rfl (es rfl (es rfl (es rfl (es rfl (es rfl (es rfl (es rfl (es rfl (es rfl l10_11))))))))))))))
      have l28_19 := lookE hA19 28 (et rfl)
      clear hA19 hsz11 hdf11 l1_11 l2_11 l3_11 l4_11 l8_11 l10_11
      refine then_n (hK13 _ _ ?_)
      clear hK13
      refine cond_t l28_19 ?_
      -- region 3
      refine region_in ?_
      refine W_v rfl rfl (V_asg rfl rfl) ?_
      refine W_end ?_
      refine gen_Q (fun A20 hA20 => ?_)
      have hsz20 : SzN A20 42 := by rw [hA20]; infer_instance
      have hdf20 : A20.defers = [] := by rw [hA20]; simp only [df_put]; exact hdf19
      have l1_20 := lookE hA20 1 (es rfl l1_19)
      have l2_20 := lookE hA20 2 (es rfl l2_19)
      have l3_20 := lookE hA20 3 (es rfl l3_19)
      have l4_20 := lookE hA20 4 (es rfl l4_19)
      have l8_20 := lookE hA20 8 (es rfl l8_19)
      have l10_20 := lookE hA20 10 (et rfl)
      clear hA20 hsz19 hdf19 l1_19 l2_19 l3_19 l4_19 l8_19 l10_19 l28_19
      refine then_n (hK12 _ _ ?_)
      clear hK12
      refine wp_seq_k (fun K21 hK21 => ?_)
      refine wp_seq_k (fun K22 hK22 => ?_)
      -- region 4
      refine region_in ?_
      refine W_v rfl rfl (V_mov rfl l10_20) ?_
      refine W_v rfl rfl (V_neq rfl (et rfl) rfl) ?_
      refine W_end ?_
      refine gen_Q (fun A23 hA23 => ?_)
      have hsz23 : SzN A23 42 := by rw [hA23]; infer_instance
      have hdf23 : A23.defers = [] := by rw [hA23]; simp only [df_put]; exact hdf20
      have l1_23 := lookE hA23 1 (es rfl (es rfl l1_20))
      have l2_23 := lookE hA23 2 (es rfl (es rfl l2_20))
      have l3_23 := lookE hA23 3 (es rfl (es rfl l3_20))
      have l4_23 := lookE hA23 4 (es rfl (es rfl l4_20))
      have l8_23 := lookE hA23 8 (es rfl (es rfl l8_20))
      have l10_23 := lookE hA23 10 (es rfl (es rfl l10_20))
      have l30_23 := lookE hA23 30 (et rfl)
      clear hA23 hsz20 hdf20 l1_20 l2_20 l3_20 l4_20 l8_20 l10_20
      refine then_n (hK22 _ _ ?_)
      clear hK22
      refine cond_sure l30_23 (by decide) ?_
      refine wp_seq_k (fun K24 hK24 => ?_)
      -- region 5
      refine region_in ?_
      refine W_v rfl rfl (V_bldS (n := 2) (z := .agg #[.slice none 0 0, .slice none 0 0]) rfl (parts0) (by kernel_rfl) (by simp only [List.all_cons, List.all_nil, Bool.and_true] <;> rfl) (by kernel_rfl) (by simp only [List.foldl_cons, List.foldl_nil, Value.cells, List.setIfInBounds_toArray, List.set_cons_succ, List.set_cons_zero] <;> rfl)) ?_
      refine W_v rfl rfl (V_mov rfl (es rfl l10_23)) ?_
      refine W_stA rfl rfl rfl (es rfl (es rfl l8_23)) (es rfl (et rfl)) (by simp only [List.all_toArray, List.all_cons, List.all_nil] <;> rfl) b4 (by rfl) (by kernel_rfl) (fun w25 ht25 hb25 => ?_)
      have hE26 := ext_tch hE17 ht25 oB_4
      replace b2 := box_tch b2 ht25 (Nat.ne_of_lt o2_4)
      replace b4 := hb25
      refine W_v rfl rfl (V_asg rfl (et rfl)) ?_
      refine W_end ?_
      refine gen_Q (fun A27 hA27 => ?_)
      have hsz27 : SzN A27 42 := by rw [hA27]; infer_instance
      have hdf27 : A27.defers = [] := by rw [hA27]; simp only [df_put]; exact hdf23
      have l8_27 := lookE hA27 8 (es rfl (es rfl (es rfl l8_23)))
      have l9_27 := lookE hA27 9 (et rfl)
      clear hA27 hsz23 hdf23 l1_23 l2_23 l3_23 l4_23 l8_23 l10_23 l30_23
      refine then_n (hK24 _ _ ?_)
      clear hK24
      refine wp_ret ?_
      refine then_ret ?_
      refine ret_in (results_2 Tryd.results45 (rv_cellA l8_27 b4 Tryd.underlying24 rfl (by kernel_rfl)) (rv_tmp l9_27)) hdf27 ?_
      -- leaf TT
      have hs : placeS lo yo n c b = ⟨[], [], 0, 8⟩ := by
        rw [placeS_cases]; simp [c14, c18, hn0]
      rw [hs]
      exact ⟨_, _, rfl, FreI.nil _ _ _, FreI.nil _ _ _, hE26⟩
    · skip
      refine W_v rfl (wanted_t rfl rfl (et rfl) (ez rfl)) (V_fa (off' := 1) rfl (es rfl (es rfl (es rfl (es rfl (es rfl (es rfl (es rfl (es rfl l4_11)))))))) Tryd.underlying24 rfl (by decide) rfl) ?_
      refine W_r rfl (wanted_t rfl rfl (es rfl (et rfl)) (ez rfl)) (VR_ldC rfl (et rfl) (cell_box (v := yv) b2 rfl) Tryd.underlying22 rfl) ?_
      refine W_v rfl (wanted_t rfl rfl (es rfl (es rfl (et rfl))) (ez rfl)) (V_mov rfl (es rfl (es rfl (es rfl (es rfl (es rfl (es rfl (es rfl (es rfl (es rfl (es rfl l2_11))))))))))) ?_
      refine W_call rfl (wanted_t rfl rfl (es rfl (es rfl (es rfl (et rfl)))) (ez rfl)) rfl Tryd.func51 (by kernel_rfl) rfl (args2 (es rfl (et rfl)) (et rfl)) (rin_c (x := c) (h_yv.ext hE17) ) ?_
      rintro _ w28 ⟨rfl, hx28⟩
      refine ⟨_, rfl, ?_⟩
      have hb29 := hE17.size
      have hE30 := Ext.tr hE17 hx28
      replace b2 := heap_ext hx28 b2
      replace b4 := heap_ext hx28 b4
      refine W_v rfl (wanted_t rfl rfl (es rfl (es rfl (es rfl (es rfl (es rfl (es rfl (es rfl (es rfl (es rfl (et rfl)))))))))) (ez rfl)) (V_pickF rfl (es rfl (es rfl (es rfl (es rfl (et rfl))))) (et rfl)) ?_
      refine W_v rfl rfl (V_pickT rfl (es rfl (es rfl (es rfl (es rfl (es rfl (es rfl (es rfl (es rfl (es rfl (es rfl (et rfl))))))))))) (et rfl)) ?_
      refine W_end ?_
      refine gen_Q (fun A31 hA31 => ?_)
      have hsz31 : SzN A31 42 := by rw [hA31]; infer_instance
      have hdf31 : A31.defers = [] := by rw [hA31]; simp only [df_put]; exact hdf11
      have l1_31 := lookE hA31 1 (es rfl (es rfl (es rfl (es rfl (es rfl (es rfl (es rfl (es rfl (es rfl (es rfl (es rfl (es rfl (es rfl (es rfl l1_11))))))))))))))
      have l2_31 := lookE hA31 2 (es rfl (es rfl (es rfl (es rfl (es rfl (es rfl (es rfl (es rfl (es rfl (es rfl (es rfl (es rfl (es rfl (es rfl l2_11))))))))))))))
      have l3_31 := lookE hA31 3 (es rfl (es rfl (es rfl (es rfl (es rfl (es rfl (es rfl (es rfl (es rfl (es rfl (es rfl (es rfl (es rfl (es rfl l3_11))))))))))))))
      have l4_31 := lookE hA31 4 (es rfl (es rfl (es rfl (es rfl (es rfl (es rfl (es rfl (es rfl (es rfl (es rfl (es rfl (es rfl (es rfl (es rfl l4_11))))))))))))))
      have l8_31 := lookE hA31 8 (es rfl (es rfl (es rfl (es rfl (es rfl (es rfl (es rfl (es rfl (es rfl (es rfl (es rfl (es rfl (es rfl (es rfl l8_11))))))))))))))
      have l10_31 := lookE hA31 10 (es rfl (es rfl (es rfl (es rfl (es rfl (es rfl (es rfl (es rfl (es rfl (es rfl (es rfl (es rfl (es rfl (es rfl l10_11))))))))))))))
      have l28_31 := lookE hA31 28 (et rfl)
      clear hA31 hsz11 hdf11 l1_11 l2_11 l3_11 l4_11 l8_11 l10_11
      refine then_n (hK13 _ _ ?_)
      clear hK13
      refine cond_dec l28_31 (fun c32 => ?_) (fun c32 => ?_)
      · skip
        -- region 3
        refine region_in ?_
        refine W_v rfl rfl (V_asg rfl rfl) ?_
        refine W_end ?_
        refine gen_Q (fun A33 hA33 => ?_)
        have hsz33 : SzN A33 42 := by rw [hA33]; infer_instance
        have hdf33 : A33.defers = [] := by rw [hA33]; simp only [df_put]; exact hdf31
        have l1_33 := lookE hA33 1 (es rfl l1_31)
        have l2_33 := lookE hA33 2 (es rfl l2_31)
        have l3_33 := lookE hA33 3 (es rfl l3_31)
        have l4_33 := lookE hA33 4 (es rfl l4_31)
        have l8_33 := lookE hA33 8 (es rfl l8_31)
        have l10_33 := lookE hA33 10 (et rfl)
        clear hA33 hsz31 hdf31 l1_31 l2_31 l3_31 l4_31 l8_31 l10_31 l28_31
        refine then_n (hK12 _ _ ?_)
        clear hK12
        refine wp_seq_k (fun K34 hK34 => ?_)
        refine wp_seq_k (fun K35 hK35 => ?_)
        -- region 4
        refine region_in ?_
        refine W_v rfl rfl (V_mov rfl l10_33) ?_
        refine W_v rfl rfl (V_neq rfl (et rfl) rfl) ?_
        refine W_end ?_
        refine gen_Q (fun A36 hA36 => ?_)
        have hsz36 : SzN A36 42 := by rw [hA36]; infer_instance
        have hdf36 : A36.defers = [] := by rw [hA36]; simp only [df_put]; exact hdf33
        have l1_36 := lookE hA36 1 (es rfl (es rfl l1_33))
        have l2_36 := lookE hA36 2 (es rfl (es rfl l2_33))
        have l3_36 := lookE hA36 3 (es rfl (es rfl l3_33))
        have l4_36 := lookE hA36 4 (es rfl (es rfl l4_33))
        have l8_36 := lookE hA36 8 (es rfl (es rfl l8_33))
        have l10_36 := lookE hA36 10 (es rfl (es rfl l10_33))
        have l30_36 := lookE hA36 30 (et rfl)
        clear hA36 hsz33 hdf33 l1_33 l2_33 l3_33 l4_33 l8_33 l10_33
        refine then_n (hK35 _ _ ?_)
        clear hK35
        refine cond_sure l30_36 (by decide) ?_
        refine wp_seq_k (fun K37 hK37 => ?_)
        -- region 5
        refine region_in ?_
        refine W_v rfl rfl (V_bldS (n := 2) (z := .agg #[.slice none 0 0, .slice none 0 0]) rfl (parts0) (by kernel_rfl) (by simp only [List.all_cons, List.all_nil, Bool.and_true] <;> rfl) (by kernel_rfl) (by simp only [List.foldl_cons, List.foldl_nil, Value.cells, List.setIfInBounds_toArray, List.set_cons_succ, List.set_cons_zero] <;> rfl)) ?_
        refine W_v rfl rfl (V_mov rfl (es rfl l10_36)) ?_
        refine W_stA rfl rfl rfl (es rfl (es rfl l8_36)) (es rfl (et rfl)) (by simp only [List.all_toArray, List.all_cons, List.all_nil] <;> rfl) b4 (by rfl) (by kernel_rfl) (fun w38 ht38 hb38 => ?_)
        have hE39 := ext_tch hE30 ht38 oB_4
        replace b2 := box_tch b2 ht38 (Nat.ne_of_lt o2_4)
        replace b4 := hb38
        refine W_v rfl rfl (V_asg rfl (et rfl)) ?_
        refine W_end ?_
        refine gen_Q (fun A40 hA40 => ?_)
        have hsz40 : SzN A40 42 := by rw [hA40]; infer_instance
        have hdf40 : A40.defers = [] := by rw [hA40]; simp only [df_put]; exact hdf36
        have l8_40 := lookE hA40 8 (es rfl (es rfl (es rfl l8_36)))
        have l9_40 := lookE hA40 9 (et rfl)
        clear hA40 hsz36 hdf36 l1_36 l2_36 l3_36 l4_36 l8_36 l10_36 l30_36
        refine then_n (hK37 _ _ ?_)
        clear hK37
        refine wp_ret ?_
        refine then_ret ?_
        refine ret_in (results_2 Tryd.results45 (rv_cellA l8_40 b4 Tryd.underlying24 rfl (by kernel_rfl)) (rv_tmp l9_40)) hdf40 ?_
        -- leaf TFT
        have hs : placeS lo yo n c b = ⟨[], [], 0, 8⟩ := by
          rw [placeS_cases]; simp [c14, c18, c32, hn0]
        rw [hs]
        exact ⟨_, _, rfl, FreI.nil _ _ _, FreI.nil _ _ _, hE39⟩
      · skip
        refine wp_skip ?_
        refine then_n (hK12 _ _ ?_)
        clear hK12
        refine wp_seq_k (fun K41 hK41 => ?_)
        refine wp_seq_k (fun K42 hK42 => ?_)
        -- region 4
        refine region_in ?_
        refine W_v rfl rfl (V_mov rfl l10_31) ?_
        refine W_v rfl rfl (V_neq rfl (et rfl) rfl) ?_
        refine W_end ?_
        refine gen_Q (fun A43 hA43 => ?_)
        have hsz43 : SzN A43 42 := by rw [hA43]; infer_instance
        have hdf43 : A43.defers = [] := by rw [hA43]; simp only [df_put]; exact hdf31
        have l1_43 := lookE hA43 1 (es rfl (es rfl l1_31))
        have l2_43 := lookE hA43 2 (es rfl (es rfl l2_31))
        have l3_43 := lookE hA43 3 (es rfl (es rfl l3_31))
        have l4_43 := lookE hA43 4 (es rfl (es rfl l4_31))
        have l8_43 := lookE hA43 8 (es rfl (es rfl l8_31))
        have l10_43 := lookE hA43 10 (es rfl (es rfl l10_31))
        have l30_43 := lookE hA43 30 (et rfl)
        clear hA43 hsz31 hdf31 l1_31 l2_31 l3_31 l4_31 l8_31 l10_31 l28_31
        refine then_n (hK42 _ _ ?_)
        clear hK42
        refine cond_not l30_43 (by simp [c14]) ?_
        refine wp_skip ?_
        refine then_n (hK41 _ _ ?_)
        clear hK41
        refine wp_seq_k (fun K44 hK44 => ?_)
        -- region 6
        refine region_mono 9 10 [none, none, none, none, some (⟨fun w v => ∃ v_s, v = v_s ∧ OwnI w w28.heap.size 3 (v_s) (if n = 0 then lo else yo), fun _ _ _ he ⟨v_s, h, f_s⟩ => ⟨v_s, h, f_s.ext he⟩⟩), none, none, some (⟨fun w v => ∃ r_s, v = r_s ∧ OwnI w w28.heap.size 3 (r_s) (putL (if n = 0 then lo else yo) c b), fun _ _ _ he ⟨r_s, h, f_s⟩ => ⟨r_s, h, f_s.ext he⟩⟩), some (⟨fun w v => ∃ ra0_s v1_s, v = .agg #[v1_s, ra0_s] ∧ FreI w w28.heap.size 3 (ra0_s) (putL (if n = 0 then lo else yo) c b) ∧ OwnI w w28.heap.size 3 (v1_s) (lo), fun _ _ _ he ⟨ra0_s, v1_s, h, fa0_s, f1_s⟩ => ⟨ra0_s, v1_s, h, fa0_s.ext he, f1_s.ext he⟩⟩)] (by kernel_rfl) (by kernel_rfl) ?_
        refine C_r rfl rfl (by kernel_rfl) (fun wx hx hF => (VR_ldA rfl l4_43 (heap_ext hx b2) Tryd.underlying24 rfl (by kernel_rfl))) rfl rfl ?_
        refine C_v rfl rfl (V_mov rfl (es rfl l1_43)) rfl rfl ?_
        refine C_r rfl rfl (by kernel_rfl) (fun wx hx hF => (VR_ldA rfl (es rfl (es rfl l4_43)) (heap_ext hx b2) Tryd.underlying24 rfl (by kernel_rfl))) rfl rfl ?_
        refine C_v rfl rfl (V_mov rfl (es rfl (es rfl (es rfl l1_43)))) rfl rfl ?_
        refine C_call rfl rfl rfl Tryd.func55 (by kernel_rfl) rfl (args2 (es rfl (et rfl)) (et rfl)) rfl rfl (fun wx hx hF => ?_) (fun u45 hu45 => ?_)
        · refine (rof_c (n := n) (h_lv.ext (Ext.tr hE30 hx)) (h_yv.ext (Ext.tr hE30 hx)) (by first | omega | (simp; done) | (simp; omega)) (by first | omega | (simp; done) | (simp; omega))).mono ?_
          rintro _ w45 ⟨v_45, rfl, f_45, hz⟩
          exact ⟨_, rfl, hz, _, rfl, f_45.base hx.size⟩
        obtain ⟨_, _, v_45, rfl, _⟩ := hu45
        refine C_v rfl rfl (V_mov rfl (es rfl (es rfl (es rfl (es rfl (es rfl l2_43)))))) rfl rfl ?_
        refine C_v rfl rfl (V_mov rfl (es rfl (es rfl (es rfl (es rfl (es rfl (es rfl l3_43))))))) rfl rfl ?_
        refine C_call rfl rfl rfl Tryd.func54 (by kernel_rfl) rfl (args3 (es rfl (es rfl (et rfl))) (es rfl (et rfl)) (et rfl)) rfl rfl (fun wx hx hF => ?_) (fun u46 hu46 => ?_)
        · obtain ⟨v_45q, hq45, f_45⟩ := ancF_get hF (by kernel_rfl); cases hq45; refine (rput_c (c := c) (b := b) f_45.ints (by first | omega | (split <;> omega))).mono ?_
          rintro _ w46 ⟨r_46, rfl, f_46, hz⟩
          exact ⟨_, rfl, hz, _, rfl, f_46.base hx.size⟩
        obtain ⟨_, _, r_46, rfl, _⟩ := hu46
        refine C_call rfl rfl rfl Tryd.func53 (by kernel_rfl) rfl (args3 (es rfl (es rfl (es rfl (es rfl (es rfl (es rfl (es rfl (et rfl)))))))) (es rfl (es rfl (es rfl (es rfl (es rfl (es rfl (et rfl))))))) (et rfl)) rfl rfl (fun wx hx hF => ?_) (fun u47 hu47 => ?_)
        · obtain ⟨r_46q, hq46, f_46⟩ := ancF_get hF (by kernel_rfl); cases hq46; refine (rwith1_c (n := n) (h_lv.ext (Ext.tr hE30 hx)) (h_yv.ext (Ext.tr hE30 hx)) f_46.ints (by first | omega | (simp; done) | (simp; omega)) (by first | omega | (simp; done) | (simp; omega)) (by first | assumption | decide)).mono ?_
          rintro _ w47 ⟨v1_47, rfl, f1_47, hz⟩
          exact ⟨_, rfl, hz, _, _, rfl, (f_46.fre).ext hz, f1_47.base hx.size⟩
        obtain ⟨_, _, ra0_47, v1_47, rfl, _, _⟩ := hu47
        refine C_eff rfl ?_
        refine Z_eff rfl rfl (fun w48 hz48 hF48 => ?_)
        obtain ⟨v_45q, hq45, f_45⟩ := all_get (all_rest (all_rest hF48)); cases hq45
        obtain ⟨r_46q, hq46, f_46⟩ := all_get (all_rest hF48); cases hq46
        obtain ⟨ra0_47q, v1_47q, hq47, fa0_47, f1_47⟩ := all_get hF48; cases hq47
        clear hF48
        have hR48 := hE30.size
        have hE49 := Ext.tr hE30 hz48
        replace b2 := heap_ext hz48 b2
        replace b4 := heap_ext hz48 b4
        have ul_f_45 := fre_lo f_45.fre
        replace f_45 := f_45.base hR48
        have ul_f_46 := fre_lo f_46.fre
        replace f_46 := f_46.base hR48
        have ul_fa0_47 := fre_lo fa0_47
        replace fa0_47 := fa0_47.base hR48
        have ul_f1_47 := fre_lo f1_47.fre
        replace f1_47 := f1_47.base hR48
        refine W_stA rfl rfl rfl (es rfl (es rfl (es rfl (es rfl (es rfl (es rfl (es rfl (es rfl (es rfl l8_43))))))))) (et rfl) (by simp only [List.all_toArray, List.all_cons, List.all_nil, one_ints f1_47.ints, one_ints fa0_47.1] <;> rfl) b4 (by rfl) (by kernel_rfl) (fun w50 ht50 hb50 => ?_)
        have hE51 := ext_tch hE49 ht50 oB_4
        replace f_45 := f_45.tch ht50 b4 rfl
        replace f_46 := f_46.tch ht50 b4 rfl
        replace fa0_47 := fa0_47.tch ht50 b4 rfl
        replace f1_47 := f1_47.tch ht50 b4 rfl
        replace b2 := box_tch b2 ht50 (Nat.ne_of_lt o2_4)
        replace b4 := hb50
        refine W_v rfl rfl (V_asg rfl rfl) ?_
        refine W_end ?_
        refine Qo_normal ?_
        refine gen_Q (fun A52 hA52 => ?_)
        have hsz52 : SzN A52 42 := by rw [hA52]; infer_instance
        have hdf52 : A52.defers = [] := by rw [hA52]; simp only [df_put]; exact hdf43
        have l8_52 := lookE hA52 8 (es rfl (es rfl (es rfl (es rfl (es rfl (es rfl (es rfl (es rfl (es rfl (es rfl l8_43))))))))))
        have l9_52 := lookE hA52 9 (et rfl)
        clear hA52 hsz43 hdf43 l1_43 l2_43 l3_43 l4_43 l8_43 l10_43 l30_43
        refine then_n (hK44 _ _ ?_)
        clear hK44
        refine wp_ret ?_
        refine ret_in (results_2 Tryd.results45 (rv_cellA l8_52 b4 Tryd.underlying24 rfl (by kernel_rfl)) (rv_tmp l9_52)) hdf52 ?_
        -- leaf TFF
        have hs : placeS lo yo n c b = ⟨lo, (putL (if n = 0 then lo else yo) c b), 0, 0⟩ := by
          rw [placeS_cases]; simp [c14, c18, c32, hn0]
        rw [hs]
        exact ⟨_, _, rfl, f1_47.fre, fa0_47, hE51⟩
  · skip
    refine W_off rfl (wanted_f rfl rfl (et rfl) (ez rfl) rfl) ?_
    refine W_off rfl (wanted_f rfl rfl (es rfl (et rfl)) (ez rfl) rfl) ?_
    refine W_off rfl (wanted_f rfl rfl (es rfl (es rfl (et rfl))) (ez rfl) rfl) ?_
    refine W_off rfl (wanted_f rfl rfl (es rfl (es rfl (es rfl (et rfl)))) (ez rfl) rfl) ?_
    refine W_off rfl (wanted_f rfl rfl (es rfl (es rfl (es rfl (es rfl (et rfl))))) (ez rfl) rfl) ?_
    refine W_off rfl (wanted_u rfl rfl (et rfl) (ez rfl)) ?_
    refine W_off rfl (wanted_u rfl rfl (es rfl (et rfl)) (ez rfl)) ?_
    refine W_off rfl (wanted_u rfl rfl (es rfl (es rfl (et rfl))) (ez rfl)) ?_
    refine W_off rfl (wanted_u rfl rfl (es rfl (es rfl (es rfl (et rfl)))) (ez rfl)) ?_
    refine W_off rfl (wanted_f rfl rfl (es rfl (es rfl (es rfl (es rfl (es rfl (es rfl (es rfl (es rfl (es rfl (et rfl)))))))))) (ez rfl) rfl) ?_
    refine W_v rfl rfl (V_pickF rfl (es rfl (es rfl (es rfl (es rfl (es rfl (es rfl (es rfl (es rfl (es rfl (es rfl (et rfl))))))))))) rfl) ?_
    refine W_end ?_
    refine gen_Q (fun A53 hA53 => ?_)
    have hsz53 : SzN A53 42 := by rw [hA53]; infer_instance
    have hdf53 : A53.defers = [] := by rw [hA53]; simp only [df_put]; exact hdf11
    have l1_53 := lookE hA53 1 (es rfl (es rfl (es rfl (es rfl (es rfl (es rfl (es rfl (es rfl (es rfl (es rfl (es rfl (es rfl (es rfl (es rfl l1_11))))))))))))))
    have l2_53 := lookE hA53 2 (es rfl (es rfl (es rfl (es rfl (es rfl (es rfl (es rfl (es rfl (es rfl (es rfl (es rfl (es rfl (es rfl (es rfl l2_11))))))))))))))
    have l3_53 := lookE hA53 3 (es rfl (es rfl (es rfl (es rfl (es rfl (es rfl (es rfl (es rfl (es rfl (es rfl (es rfl (es rfl (es rfl (es rfl l3_11))))))))))))))
    have l4_53 := lookE hA53 4 (es rfl (es rfl (es rfl (es rfl (es rfl (es rfl (es rfl (es rfl (es rfl (es rfl (es rfl (es rfl (es rfl (es rfl l4_11))))))))))))))
    have l8_53 := lookE hA53 8 (es rfl (es rfl (es rfl (es rfl (es rfl (es rfl (es rfl (es rfl (es rfl (es rfl (es rfl (es rfl (es rfl (es rfl l8_11))))))))))))))
    have l10_53 := lookE hA53 10 (es rfl (es rfl (es rfl (es rfl (es rfl (es rfl (es rfl (es rfl (es rfl (es rfl (es rfl (es rfl (es rfl (es rfl l10_11))))))))))))))
    have l28_53 := lookE hA53 28 (et rfl)
    clear hA53 hsz11 hdf11 l1_11 l2_11 l3_11 l4_11 l8_11 l10_11
    refine then_n (hK13 _ _ ?_)
    clear hK13
    refine cond_f l28_53 ?_
    refine wp_skip ?_
    refine then_n (hK12 _ _ ?_)
    clear hK12
    refine wp_seq_k (fun K54 hK54 => ?_)
    refine wp_seq_k (fun K55 hK55 => ?_)
    -- region 4
    refine region_in ?_
    refine W_v rfl rfl (V_mov rfl l10_53) ?_
    refine W_v rfl rfl (V_neq rfl (et rfl) rfl) ?_
    refine W_end ?_
    refine gen_Q (fun A56 hA56 => ?_)
    have hsz56 : SzN A56 42 := by rw [hA56]; infer_instance
    have hdf56 : A56.defers = [] := by rw [hA56]; simp only [df_put]; exact hdf53
    have l1_56 := lookE hA56 1 (es rfl (es rfl l1_53))
    have l2_56 := lookE hA56 2 (es rfl (es rfl l2_53))
    have l3_56 := lookE hA56 3 (es rfl (es rfl l3_53))
    have l4_56 := lookE hA56 4 (es rfl (es rfl l4_53))
    have l8_56 := lookE hA56 8 (es rfl (es rfl l8_53))
    have l10_56 := lookE hA56 10 (es rfl (es rfl l10_53))
    have l30_56 := lookE hA56 30 (et rfl)
    clear hA56 hsz53 hdf53 l1_53 l2_53 l3_53 l4_53 l8_53 l10_53 l28_53
    refine then_n (hK55 _ _ ?_)
    clear hK55
    refine cond_sure l30_56 (by simp [c14]) ?_
    refine wp_seq_k (fun K57 hK57 => ?_)
    -- region 5
    refine region_in ?_
    refine W_v rfl rfl (V_bldS (n := 2) (z := .agg #[.slice none 0 0, .slice none 0 0]) rfl (parts0) (by kernel_rfl) (by simp only [List.all_cons, List.all_nil, Bool.and_true] <;> rfl) (by kernel_rfl) (by simp only [List.foldl_cons, List.foldl_nil, Value.cells, List.setIfInBounds_toArray, List.set_cons_succ, List.set_cons_zero] <;> rfl)) ?_
    refine W_v rfl rfl (V_mov rfl (es rfl l10_56)) ?_
    refine W_stA rfl rfl rfl (es rfl (es rfl l8_56)) (es rfl (et rfl)) (by simp only [List.all_toArray, List.all_cons, List.all_nil] <;> rfl) b4 (by rfl) (by kernel_rfl) (fun w58 ht58 hb58 => ?_)
    have hE59 := ext_tch hE10 ht58 oB_4
    replace b2 := box_tch b2 ht58 (Nat.ne_of_lt o2_4)
    replace b4 := hb58
    refine W_v rfl rfl (V_asg rfl (et rfl)) ?_
    refine W_end ?_
    refine gen_Q (fun A60 hA60 => ?_)
    have hsz60 : SzN A60 42 := by rw [hA60]; infer_instance
    have hdf60 : A60.defers = [] := by rw [hA60]; simp only [df_put]; exact hdf56
    have l8_60 := lookE hA60 8 (es rfl (es rfl (es rfl l8_56)))
    have l9_60 := lookE hA60 9 (et rfl)
    clear hA60 hsz56 hdf56 l1_56 l2_56 l3_56 l4_56 l8_56 l10_56 l30_56
    refine then_n (hK57 _ _ ?_)
    clear hK57
    refine wp_ret ?_
    refine then_ret ?_
    refine ret_in (results_2 Tryd.results45 (rv_cellA l8_60 b4 Tryd.underlying24 rfl (by kernel_rfl)) (rv_tmp l9_60)) hdf60 ?_
    -- leaf F
    have hs : placeS lo yo n c b = ⟨[], [], 0, chkE lo yo n c⟩ := by
      rw [placeS_cases]; simp [c14, hn0]
    rw [hs]
    exact ⟨_, _, rfl, FreI.nil _ _ _, FreI.nil _ _ _, hE59⟩

set_option maxHeartbeats 4000000 in
theorem rplaced_c {lv : Value} {lo : List Int} {yv : Value} {yo : List Int} {n : Int} {c : Int} {b : Bool} {w : World} (h_lv : Ints w lv lo) (h_yv : Ints w yv yo) (h1 : lo.length ≤ 1000) (h2 : yo.length ≤ 1000) :
    Calls Tryd.prog 45 #[.agg #[lv, yv], .int .i64 n, .int .i64 c, .bool b] w fun e w' => ∃ v1 v2, e = .returned (.tuple #[.agg #[v1, v2], .int .i64 (placeS lo yo n c b).e]) ∧ FreI w' w.heap.size 3 (v1) ((placeS lo yo n c b).lo) ∧ FreI w' w.heap.size 3 (v2) ((placeS lo yo n c b).yo) ∧ Ext w w' := by
  by_cases hn : n = 0
  · subst hn; exact rplaced0_c h_lv h_yv h1 h2
  · exact rplaced1_c h_lv h_yv h1 h2 hn

set_option maxHeartbeats 4000000 in
theorem rAppend_c {lv : Value} {lo : List Int} {yv : Value} {yo : List Int} {n : Int} {c : Int} {w : World} (h_lv : Ints w lv lo) (h_yv : Ints w yv yo) (h1 : lo.length ≤ 1000) (h2 : yo.length ≤ 1000) :
    Calls Tryd.prog 27 #[.agg #[lv, yv], .int .i64 n, .int .i64 c] w fun e w' => ∃ v1 v2, e = .returned (.tuple #[.agg #[v1, v2], .int .i64 (placeS lo yo n c false).e]) ∧ FreI w' w.heap.size 3 (v1) ((placeS lo yo n c false).lo) ∧ FreI w' w.heap.size 3 (v2) ((placeS lo yo n c false).yo) ∧ Ext w w' := by
  refine calls_in 14 Tryd.func27 rfl rfl (by simp) (fun A0 hsz0 hdf0 hargs => ?_)
  have l0_0 := hargs 0 (.agg #[lv, yv]) rfl
  have l1_0 := hargs 1 (.int .i64 n) rfl
  have l2_0 := hargs 2 (.int .i64 c) rfl
  clear hargs; replace hsz0 : SzN A0 14 := ⟨hsz0⟩
  have hE0 := Ext.rfl' w
  refine wp_seq_k (fun K1 hK1 => ?_)
  -- region 0
  refine region_in ?_
  refine W_box (cs := #[lv, yv]) rfl rfl rfl l0_0 rfl (fun g2 w2 hg2 hx2 b2 => ?_)
  have oB_2 : w.heap.size ≤ g2 := hg2 ▸ hE0.size
  have hE3 := Ext.tr hE0 hx2
  refine W_alloc (z := .agg #[.slice none 0 0, .slice none 0 0]) (cs := #[.slice none 0 0, .slice none 0 0]) rfl rfl rfl (by kernel_rfl) rfl (fun g4 w4 hg4 hx4 b4 => ?_)
  have o2_4 : g2 < g4 := hg4 ▸ lt_size b2
  have oB_4 : w.heap.size ≤ g4 := hg4 ▸ hE3.size
  have hE5 := Ext.tr hE3 hx4
  replace b2 := heap_ext hx4 b2
  refine W_v rfl rfl (V_asg rfl rfl) ?_
  refine W_end ?_
  refine gen_Q (fun A6 hA6 => ?_)
  have hsz6 : SzN A6 14 := by rw [hA6]; infer_instance
  have hdf6 : A6.defers = [] := by rw [hA6]; simp only [df_put]; exact hdf0
  have l1_6 := lookE hA6 1 (es rfl (es rfl (es rfl l1_0)))
  have l2_6 := lookE hA6 2 (es rfl (es rfl (es rfl l2_0)))
  have l3_6 := lookE hA6 3 (es rfl (es rfl (et rfl)))
  have l6_6 := lookE hA6 6 (es rfl (et rfl))
  clear hA6 hsz0 hdf0 l0_0 l1_0 l2_0
  refine then_n (hK1 _ _ ?_)
  clear hK1
  refine wp_seq_k (fun K7 hK7 => ?_)
  -- region 1
  refine region_in ?_
  refine W_r rfl rfl (VR_ldA rfl l3_6 b2 Tryd.underlying24 rfl (by kernel_rfl)) ?_
  refine W_v rfl rfl (V_mov rfl (es rfl l1_6)) ?_
  refine W_v rfl rfl (V_mov rfl (es rfl (es rfl l2_6))) ?_
  refine W_call rfl rfl rfl Tryd.func45 (by kernel_rfl) rfl (args4 (es rfl (es rfl (et rfl))) (es rfl (et rfl)) (et rfl) rfl) (rplaced_c (n := n) (c := c) (b := false) (h_lv.ext hE5) (h_yv.ext hE5) (by first | omega | (simp; done) | (simp; omega)) (by first | omega | (simp; done) | (simp; omega))) ?_
  rintro _ w8 ⟨v1_8, v2_8, rfl, f1_8, f2_8, hx8⟩
  refine ⟨_, rfl, ?_⟩
  have hb9 := hE5.size
  have hE10 := Ext.tr hE5 hx8
  replace b2 := heap_ext hx8 b2
  replace b4 := heap_ext hx8 b4
  have ul_f1_8 := fre_lo f1_8
  replace f1_8 := f1_8.base hb9
  have ul_f2_8 := fre_lo f2_8
  replace f2_8 := f2_8.base hb9
  refine W_v rfl rfl (V_ext rfl (et rfl) rfl) ?_
  refine W_v rfl rfl (V_ext rfl (es rfl (et rfl)) rfl) ?_
  refine W_stA rfl rfl rfl (es rfl (es rfl (es rfl (es rfl (es rfl (es rfl l6_6)))))) (es rfl (et rfl)) (by simp only [List.all_toArray, List.all_cons, List.all_nil, one_ints f1_8.1, one_ints f2_8.1] <;> rfl) b4 (by rfl) (by kernel_rfl) (fun w11 ht11 hb11 => ?_)
  have hE12 := ext_tch hE10 ht11 oB_4
  replace f1_8 := f1_8.tch ht11 b4 rfl
  replace f2_8 := f2_8.tch ht11 b4 rfl
  replace b2 := box_tch b2 ht11 (Nat.ne_of_lt o2_4)
  replace b4 := hb11
  refine W_v rfl rfl (V_asg rfl (et rfl)) ?_
  refine W_end ?_
  refine gen_Q (fun A13 hA13 => ?_)
  have hsz13 : SzN A13 14 := by rw [hA13]; infer_instance
  have hdf13 : A13.defers = [] := by rw [hA13]; simp only [df_put]; exact hdf6
  have l6_13 := lookE hA13 6 (es rfl (es rfl (es rfl (es rfl (es rfl (es rfl (es rfl l6_6)))))))
  have l7_13 := lookE hA13 7 (et rfl)
  clear hA13 hsz6 hdf6 l1_6 l2_6 l3_6 l6_6
  refine then_n (hK7 _ _ ?_)
  clear hK7
  refine wp_ret ?_
  refine ret_in (results_2 Tryd.results27 (rv_cellA l6_13 b4 Tryd.underlying24 rfl (by kernel_rfl)) (rv_tmp l7_13)) hdf13 ?_
  -- leaf 
  exact ⟨_, _, rfl, f1_8, f2_8, hE12⟩

set_option maxHeartbeats 4000000 in
theorem rTake_c {lv : Value} {lo : List Int} {yv : Value} {yo : List Int} {w : World} (h_lv : Ints w lv lo) (h_yv : Ints w yv yo) (h1 : lo.length ≤ 1000) (h2 : yo.length ≤ 1000) :
    Calls Tryd.prog 25 #[.agg #[lv, yv]] w fun e w' => ∃ v1 v2, e = .returned (.tuple #[.agg #[v1, v2], .int .i64 (takeS lo yo).car, .int .i64 (takeS lo yo).e]) ∧ FreI w' w.heap.size 3 (v1) ((takeS lo yo).lo) ∧ FreI w' w.heap.size 3 (v2) ((takeS lo yo).yo) ∧ Ext w w' := by
  refine calls_in 40 Tryd.func25 rfl rfl (by simp) (fun A0 hsz0 hdf0 hargs => ?_)
  have l0_0 := hargs 0 (.agg #[lv, yv]) rfl
  clear hargs; replace hsz0 : SzN A0 40 := ⟨hsz0⟩
  have hE0 := Ext.rfl' w
  refine wp_seq_k (fun K1 hK1 => ?_)
  -- region 0
  refine region_in ?_
  refine W_box (cs := #[lv, yv]) rfl rfl rfl l0_0 rfl (fun g2 w2 hg2 hx2 b2 => ?_)
  have oB_2 : w.heap.size ≤ g2 := hg2 ▸ hE0.size
  have hE3 := Ext.tr hE0 hx2
  refine W_alloc (z := .agg #[.slice none 0 0, .slice none 0 0]) (cs := #[.slice none 0 0, .slice none 0 0]) rfl rfl rfl (by kernel_rfl) rfl (fun g4 w4 hg4 hx4 b4 => ?_)
  have o2_4 : g2 < g4 := hg4 ▸ lt_size b2
  have oB_4 : w.heap.size ≤ g4 := hg4 ▸ hE3.size
  have hE5 := Ext.tr hE3 hx4
  replace b2 := heap_ext hx4 b2
  refine W_v rfl rfl (V_asg rfl rfl) ?_
  refine W_v rfl rfl (V_asg rfl rfl) ?_
  refine W_end ?_
  refine gen_Q (fun A6 hA6 => ?_)
  have hsz6 : SzN A6 40 := by rw [hA6]; infer_instance
  have hdf6 : A6.defers = [] := by rw [hA6]; simp only [df_put]; exact hdf0
  have l1_6 := lookE hA6 1 (es rfl (es rfl (es rfl (et rfl))))
  have l2_6 := lookE hA6 2 (es rfl (es rfl (et rfl)))
  clear hA6 hsz0 hdf0 l0_0
  refine then_n (hK1 _ _ ?_)
  clear hK1
  refine wp_seq_k (fun K7 hK7 => ?_)
  -- region 1
  refine region_in ?_
  refine W_r rfl rfl (VR_ldA rfl l1_6 b2 Tryd.underlying24 rfl (by kernel_rfl)) ?_
  refine W_call rfl rfl rfl Tryd.func43 (by kernel_rfl) rfl (args1 (et rfl)) (rCheck_c (h_lv.ext hE5) (h_yv.ext hE5) ) ?_
  rintro _ w8 ⟨rfl, hx8⟩
  refine ⟨_, rfl, ?_⟩
  have hb9 := hE5.size
  have hE10 := Ext.tr hE5 hx8
  replace b2 := heap_ext hx8 b2
  replace b4 := heap_ext hx8 b4
  refine W_v rfl rfl (V_mov rfl (et rfl)) ?_
  refine W_v rfl rfl (V_ext rfl (et rfl) rfl) ?_
  refine W_v rfl rfl (V_ext rfl (es rfl (et rfl)) rfl) ?_
  refine W_v rfl rfl (V_ext rfl (es rfl (es rfl (et rfl))) rfl) ?_
  refine W_v rfl rfl (V_asg rfl (es rfl (es rfl (et rfl)))) ?_
  refine W_v rfl rfl (V_asg rfl (es rfl (es rfl (et rfl)))) ?_
  refine W_v rfl rfl (V_asg rfl (es rfl (es rfl (et rfl)))) ?_
  refine W_end ?_
  refine gen_Q (fun A11 hA11 => ?_)
  have hsz11 : SzN A11 40 := by rw [hA11]; infer_instance
  have hdf11 : A11.defers = [] := by rw [hA11]; simp only [df_put]; exact hdf6
  have l1_11 := lookE hA11 1 (es rfl (es rfl (es rfl (es rfl (es rfl (es rfl (es rfl (es rfl (es rfl l1_6)))))))))
  have l2_11 := lookE hA11 2 (es rfl (es rfl (es rfl (es rfl (es rfl (es rfl (es rfl (es rfl (es rfl l2_6)))))))))
  have l7_11 := lookE hA11 7 (et rfl)
  clear hA11 hsz6 hdf6 l1_6 l2_6
  refine then_n (hK7 _ _ ?_)
  clear hK7
  refine wp_seq_k (fun K12 hK12 => ?_)
  refine wp_seq_k (fun K13 hK13 => ?_)
  -- region 2
  refine region_in ?_
  refine W_v rfl rfl (V_mov rfl l7_11) ?_
  refine W_v rfl rfl (V_eql rfl (et rfl) rfl) ?_
  refine W_split rfl rfl (V_mov rfl (et rfl)) (fun c14 => ?_) (fun c14 => ?_)
  · skip
    refine W_v rfl (wanted_t rfl rfl (et rfl) (ez rfl)) (V_fa (off' := 0) rfl (es rfl (es rfl (es rfl l1_11))) Tryd.underlying24 rfl (by decide) rfl) ?_
    refine W_r rfl (wanted_t rfl rfl (es rfl (et rfl)) (ez rfl)) (VR_ldC rfl (et rfl) (cell_box (v := lv) b2 rfl) Tryd.underlying22 rfl) ?_
    refine W_v rfl (wanted_t rfl rfl (es rfl (es rfl (et rfl))) (ez rfl)) (V_lenI rfl (et rfl) h_lv Tryd.underlying22) ?_
    refine W_v rfl (wanted_t rfl rfl (es rfl (es rfl (es rfl (et rfl)))) (ez rfl)) (V_eql rfl (et rfl) rfl) ?_
    refine W_v rfl rfl (V_pickT rfl (es rfl (es rfl (es rfl (es rfl (et rfl))))) (et rfl)) ?_
    refine W_end ?_
    refine gen_Q (fun A15 hA15 => ?_)
    have hsz15 : SzN A15 40 := by rw [hA15]; infer_instance
    have hdf15 : A15.defers = [] := by rw [hA15]; simp only [df_put]; exact hdf11
    have l1_15 := lookE hA15 1 (es rfl (es rfl (es rfl (es rfl (es rfl (es rfl (es rfl (es rfl l1_11))))))))
    have l2_15 := lookE hA15 2 (es rfl (es rfl (es rfl (es rfl (es rfl (es rfl (es rfl (es rfl l2_11))))))))
    have l7_15 := lookE hA15 7 (es rfl (es rfl (es rfl (es rfl (es rfl (es rfl (es rfl (es rfl l7_11))))))))
    have l22_15 := lookE hA15 22 (et rfl)
    clear hA15 hsz11 hdf11 l1_11 l2_11 l7_11
    refine then_n (hK13 _ _ ?_)
    clear hK13
    refine cond_dec l22_15 (fun c16 => ?_) (fun c16 => ?_)
    · skip
      -- region 3
      refine region_in ?_
      refine W_v rfl rfl (V_asg rfl rfl) ?_
      refine W_end ?_
      refine gen_Q (fun A17 hA17 => ?_)
      have hsz17 : SzN A17 40 := by rw [hA17]; infer_instance
      have hdf17 : A17.defers = [] := by rw [hA17]; simp only [df_put]; exact hdf15
      have l1_17 := lookE hA17 1 (es rfl l1_15)
      have l2_17 := lookE hA17 2 (es rfl l2_15)
      have l7_17 := lookE hA17 7 (et rfl)
      clear hA17 hsz15 hdf15 l1_15 l2_15 l7_15 l22_15
      refine then_n (hK12 _ _ ?_)
      clear hK12
      refine wp_seq_k (fun K18 hK18 => ?_)
      refine wp_seq_k (fun K19 hK19 => ?_)
      -- region 4
      refine region_in ?_
      refine W_v rfl rfl (V_mov rfl l7_17) ?_
      refine W_v rfl rfl (V_neq rfl (et rfl) rfl) ?_
      refine W_end ?_
      refine gen_Q (fun A20 hA20 => ?_)
      have hsz20 : SzN A20 40 := by rw [hA20]; infer_instance
      have hdf20 : A20.defers = [] := by rw [hA20]; simp only [df_put]; exact hdf17
      have l1_20 := lookE hA20 1 (es rfl (es rfl l1_17))
      have l2_20 := lookE hA20 2 (es rfl (es rfl l2_17))
      have l7_20 := lookE hA20 7 (es rfl (es rfl l7_17))
      have l24_20 := lookE hA20 24 (et rfl)
      clear hA20 hsz17 hdf17 l1_17 l2_17 l7_17
      refine then_n (hK19 _ _ ?_)
      clear hK19
      refine cond_sure l24_20 (by decide) ?_
      refine wp_seq_k (fun K21 hK21 => ?_)
      -- region 5
      refine region_in ?_
      refine W_v rfl rfl (V_bldS (n := 2) (z := .agg #[.slice none 0 0, .slice none 0 0]) rfl (parts0) (by kernel_rfl) (by simp only [List.all_cons, List.all_nil, Bool.and_true] <;> rfl) (by kernel_rfl) (by simp only [List.foldl_cons, List.foldl_nil, Value.cells, List.setIfInBounds_toArray, List.set_cons_succ, List.set_cons_zero] <;> rfl)) ?_
      refine W_v rfl rfl (V_mov rfl (es rfl l7_20)) ?_
      refine W_stA rfl rfl rfl (es rfl (es rfl l2_20)) (es rfl (et rfl)) (by simp only [List.all_toArray, List.all_cons, List.all_nil] <;> rfl) b4 (by rfl) (by kernel_rfl) (fun w22 ht22 hb22 => ?_)
      have hE23 := ext_tch hE10 ht22 oB_4
      replace b2 := box_tch b2 ht22 (Nat.ne_of_lt o2_4)
      replace b4 := hb22
      refine W_v rfl rfl (V_asg rfl rfl) ?_
      refine W_v rfl rfl (V_asg rfl (es rfl (et rfl))) ?_
      refine W_end ?_
      refine gen_Q (fun A24 hA24 => ?_)
      have hsz24 : SzN A24 40 := by rw [hA24]; infer_instance
      have hdf24 : A24.defers = [] := by rw [hA24]; simp only [df_put]; exact hdf20
      have l2_24 := lookE hA24 2 (es rfl (es rfl (es rfl (es rfl l2_20))))
      have l3_24 := lookE hA24 3 (es rfl (et rfl))
      have l4_24 := lookE hA24 4 (et rfl)
      clear hA24 hsz20 hdf20 l1_20 l2_20 l7_20 l24_20
      refine then_n (hK21 _ _ ?_)
      clear hK21
      refine wp_ret ?_
      refine then_ret ?_
      refine ret_in (results_3 Tryd.results25 (rv_cellA l2_24 b4 Tryd.underlying24 rfl (by kernel_rfl)) (rv_tmp l3_24) (rv_tmp l4_24)) hdf24 ?_
      -- leaf TT
      have hs : takeS lo yo = ⟨[], [], 0, 4⟩ := takeS_emp c14 c16
      rw [hs]
      exact ⟨_, _, rfl, FreI.nil _ _ _, FreI.nil _ _ _, hE23⟩
    · skip
      refine wp_skip ?_
      refine then_n (hK12 _ _ ?_)
      clear hK12
      refine wp_seq_k (fun K25 hK25 => ?_)
      refine wp_seq_k (fun K26 hK26 => ?_)
      -- region 4
      refine region_in ?_
      refine W_v rfl rfl (V_mov rfl l7_15) ?_
      refine W_v rfl rfl (V_neq rfl (et rfl) rfl) ?_
      refine W_end ?_
      refine gen_Q (fun A27 hA27 => ?_)
      have hsz27 : SzN A27 40 := by rw [hA27]; infer_instance
      have hdf27 : A27.defers = [] := by rw [hA27]; simp only [df_put]; exact hdf15
      have l1_27 := lookE hA27 1 (es rfl (es rfl l1_15))
      have l2_27 := lookE hA27 2 (es rfl (es rfl l2_15))
      have l7_27 := lookE hA27 7 (es rfl (es rfl l7_15))
      have l24_27 := lookE hA27 24 (et rfl)
      clear hA27 hsz15 hdf15 l1_15 l2_15 l7_15 l22_15
      refine then_n (hK26 _ _ ?_)
      clear hK26
      refine cond_not l24_27 (by simp [c14]) ?_
      refine wp_skip ?_
      refine then_n (hK25 _ _ ?_)
      clear hK25
      refine wp_seq_k (fun K28 hK28 => ?_)
      -- region 6
      refine region_in ?_
      refine W_r rfl rfl (VR_ldA rfl l1_27 b2 Tryd.underlying24 rfl (by kernel_rfl)) ?_
      refine W_call rfl rfl rfl Tryd.func44 (by kernel_rfl) rfl (args1 (et rfl)) (rown_c (h_lv.ext hE10) (h_yv.ext hE10) (by first | omega | (simp; done) | (simp; omega)) (by first | omega | (simp; done) | (simp; omega))) ?_
      rintro _ w29 ⟨v1_29, v2_29, rfl, f1_29, f2_29, hx29⟩
      refine ⟨_, rfl, ?_⟩
      have hb30 := hE10.size
      have hE31 := Ext.tr hE10 hx29
      replace b2 := heap_ext hx29 b2
      replace b4 := heap_ext hx29 b4
      have ul_f1_29 := fre_lo f1_29.fre
      replace f1_29 := f1_29.base hb30
      have ul_f2_29 := fre_lo f2_29.fre
      replace f2_29 := f2_29.base hb30
      refine W_alloc (z := .agg #[.slice none 0 0, .slice none 0 0]) (cs := #[.slice none 0 0, .slice none 0 0]) rfl rfl rfl (by kernel_rfl) rfl (fun g32 w32 hg32 hx32 b32 => ?_)
      have o2_32 : g2 < g32 := hg32 ▸ lt_size b2
      have o4_32 : g4 < g32 := hg32 ▸ lt_size b4
      have oB_32 : w.heap.size ≤ g32 := hg32 ▸ hE31.size
      have hE33 := Ext.tr hE31 hx32
      replace b2 := heap_ext hx32 b2
      replace b4 := heap_ext hx32 b4
      replace f1_29 := f1_29.ext hx32
      replace f2_29 := f2_29.ext hx32
      refine W_stA rfl rfl rfl (et rfl) (es rfl (et rfl)) (by simp only [List.all_toArray, List.all_cons, List.all_nil, one_ints f1_29.ints, one_ints f2_29.ints] <;> rfl) b32 (by rfl) (by kernel_rfl) (fun w34 ht34 hb34 => ?_)
      have hE35 := ext_tch hE33 ht34 oB_32
      replace f1_29 := f1_29.tch ht34 b32 rfl
      replace f2_29 := f2_29.tch ht34 b32 rfl
      replace b2 := box_tch b2 ht34 (Nat.ne_of_lt o2_32)
      replace b4 := box_tch b4 ht34 (Nat.ne_of_lt o4_32)
      replace b32 := hb34
      refine W_end ?_
      refine gen_Q (fun A36 hA36 => ?_)
      have hsz36 : SzN A36 40 := by rw [hA36]; infer_instance
      have hdf36 : A36.defers = [] := by rw [hA36]; simp only [df_put]; exact hdf27
      have l1_36 := lookE hA36 1 (es rfl (es rfl (es rfl l1_27)))
      have l2_36 := lookE hA36 2 (es rfl (es rfl (es rfl l2_27)))
      have l8_36 := lookE hA36 8 (et rfl)
      clear hA36 hsz27 hdf27 l1_27 l2_27 l7_27 l24_27
      refine then_n (hK28 _ _ ?_)
      clear hK28
      refine wp_seq_k (fun K37 hK37 => ?_)
      -- region 7
      refine region_in ?_
      refine W_emp0 rfl rfl rfl Tryd.underlying22 (by kernel_rfl) (fun g38 w38 hg38 hx38 b38 => ?_)
      have o2_38 : g2 < g38 := hg38 ▸ lt_size b2
      have o4_38 : g4 < g38 := hg38 ▸ lt_size b4
      have o32_38 : g32 < g38 := hg38 ▸ lt_size b32
      have oB_38 : w.heap.size ≤ g38 := hg38 ▸ hE35.size
      have hE39 := Ext.tr hE35 hx38
      replace b2 := heap_ext hx38 b2
      replace b4 := heap_ext hx38 b4
      replace b32 := heap_ext hx38 b32
      replace f1_29 := f1_29.ext hx38
      replace f2_29 := f2_29.ext hx38
      refine W_v rfl rfl (V_fa (off' := 0) rfl (es rfl l1_36) Tryd.underlying24 rfl (by decide) rfl) ?_
      refine W_r rfl rfl (VR_ldC rfl (et rfl) (cell_box (v := lv) b2 rfl) Tryd.underlying22 rfl) ?_
      have k40 : 1 ≤ lo.length := by omega
      have m40 : lo.length ≤ lo.length := by omega
      have f40 := sub_ints h_lv (1) (lo.length) k40 m40
      refine W_v rfl rfl (V_sub (1) (lo.length) rfl (et rfl) (.inr ⟨_, _, rfl, rfl, by omega⟩) (.inl ⟨rfl, rfl⟩) Tryd.underlying22 (by kernel_rfl) h_lv k40 m40) ?_
      refine W_appE rfl rfl rfl (es rfl (es rfl (es rfl (et rfl)))) (et rfl) Tryd.underlying22 Tryd.underlying22 (by kernel_rfl) b38 oB_38 (f40.ext hE39) (by first | omega | (simp; done) | (simp; omega)) (fun v41 w41 f41 hx41 => ?_)
      obtain ⟨a41, c41, rfl⟩ := f41.form
      have hE42 := Ext.tr hE39 hx41
      replace b2 := heap_ext hx41 b2
      replace b4 := heap_ext hx41 b4
      replace b32 := heap_ext hx41 b32
      replace b38 := heap_ext hx41 b38
      replace f1_29 := f1_29.ext hx41
      replace f2_29 := f2_29.ext hx41
      refine W_v rfl rfl (V_fa (off' := 0) rfl (es rfl (es rfl (es rfl (es rfl (es rfl l8_36))))) Tryd.underlying24 rfl (by decide) rfl) ?_
      refine W_stC rfl rfl rfl (et rfl) (es rfl (et rfl)) (one_ints f41.ints) b32 (by rfl) (by kernel_rfl) (by simp only [List.setIfInBounds_toArray, List.set_cons_succ, List.set_cons_zero] <;> rfl) (fun w43 ht43 hb43 => ?_)
      have hE44 := ext_tch hE42 ht43 oB_32
      replace f1_29 := f1_29.tch ht43 b32 rfl
      replace f2_29 := f2_29.tch ht43 b32 rfl
      replace f41 := f41.tch ht43 b32 rfl
      replace b2 := box_tch b2 ht43 (Nat.ne_of_lt o2_32)
      replace b4 := box_tch b4 ht43 (Nat.ne_of_lt o4_32)
      replace b38 := box_tch b38 ht43 (Nat.ne_of_gt o32_38)
      replace b32 := hb43
      refine W_end ?_
      refine gen_Q (fun A45 hA45 => ?_)
      have hsz45 : SzN A45 40 := by rw [hA45]; infer_instance
      have hdf45 : A45.defers = [] := by rw [hA45]; simp only [df_put]; exact hdf36
      have l1_45 := lookE hA45 1 (es rfl (es rfl (es rfl (es rfl (es rfl (es rfl l1_36))))))
      have l2_45 := lookE hA45 2 (es rfl (es rfl (es rfl (es rfl (es rfl (es rfl l2_36))))))
      have l8_45 := lookE hA45 8 (es rfl (es rfl (es rfl (es rfl (es rfl (es rfl l8_36))))))
      clear hA45 hsz36 hdf36 l1_36 l2_36 l8_36
      refine then_n (hK37 _ _ ?_)
      clear hK37
      refine wp_seq_k (fun K46 hK46 => ?_)
      -- region 8
      refine region_any (by kernel_rfl) 8 rfl (fun w47 hx47 => ?_)
      have hE48 := Ext.tr hE44 hx47
      replace b2 := heap_ext hx47 b2
      replace b4 := heap_ext hx47 b4
      replace b32 := heap_ext hx47 b32
      replace f2_29 := f2_29.ext hx47
      replace f41 := f41.ext hx47
      refine AX_2 (i := 0) (j := 1) (by kernel_rfl) rfl rfl ?_ ?_
      · skip
        refine W_r rfl rfl (VR_ldA rfl l8_45 b32 Tryd.underlying24 rfl (by kernel_rfl)) ?_
        refine W_end ?_
        refine kq _ ?_
        refine AX_cast (l2 := #[true, false, false, false, false, false, false, false]) ?_ (by kernel_rfl)
        refine AX_2 (i := 1) (j := 5) (by kernel_rfl) rfl rfl ?_ ?_
        · skip
          refine W_v rfl rfl (V_fa (off' := 0) rfl (es rfl l1_45) Tryd.underlying24 rfl (by decide) rfl) ?_
          refine W_end ?_
          refine kq _ ?_
          refine AX_cast (l2 := #[true, true, false, false, false, false, false, false]) ?_ (by kernel_rfl)
          refine AX_2 (i := 2) (j := 5) (by kernel_rfl) rfl rfl ?_ ?_
          · skip
            refine W_r rfl rfl (VR_ldC rfl (et rfl) (cell_box (v := lv) b2 rfl) Tryd.underlying22 rfl) ?_
            refine W_end ?_
            refine kq _ ?_
            refine AX_cast (l2 := #[true, true, true, false, false, false, false, false]) ?_ (by kernel_rfl)
            refine AX_2 (i := 3) (j := 5) (by kernel_rfl) rfl rfl ?_ ?_
            · skip
              have k49 : 0 < lo.length := by omega
              obtain ⟨B49, O49, C49, y49, hv49, hy49, hc49⟩ := at_ints h_lv (0) k49
              refine W_v rfl rfl (V_idx (0) rfl (et rfl) rfl hv49 (by omega) k49 Tryd.underlying22 (by kernel_rfl)) ?_
              refine W_end ?_
              refine kq _ ?_
              refine AX_cast (l2 := #[true, true, true, true, false, false, false, false]) ?_ (by kernel_rfl)
              refine AX_2 (i := 4) (j := 5) (by kernel_rfl) rfl rfl ?_ ?_
              · skip
                refine W_r rfl rfl (VR_ldC rfl (et rfl) (cell_ext hE48 hc49) Tryd.underlying3 rfl) ?_
                refine W_end ?_
                refine kq _ ?_
                refine AX_cast (l2 := #[true, true, true, true, true, false, false, false]) ?_ (by kernel_rfl)
                refine AX_1 (i := 5) (by kernel_rfl) rfl ?_
                refine W_stA rfl rfl rfl (es rfl (es rfl (es rfl (es rfl (es rfl l2_45))))) (es rfl (es rfl (es rfl (es rfl (et rfl))))) (by simp only [List.all_toArray, List.all_cons, List.all_nil, one_ints f41.ints, one_ints f2_29.ints] <;> rfl) b4 (by rfl) (by kernel_rfl) (fun w50 ht50 hb50 => ?_)
                have hE51 := ext_tch hE48 ht50 oB_4
                replace f2_29 := f2_29.tch ht50 b4 rfl
                replace f41 := f41.tch ht50 b4 rfl
                replace b2 := box_tch b2 ht50 (Nat.ne_of_lt o2_4)
                replace b32 := box_tch b32 ht50 (Nat.ne_of_gt o4_32)
                replace b4 := hb50
                refine W_end ?_
                refine kq _ ?_
                refine AX_cast (l2 := #[true, true, true, true, true, true, false, false]) ?_ (by kernel_rfl)
                refine AX_1 (i := 6) (by kernel_rfl) rfl ?_
                refine W_v rfl rfl (V_asg rfl (et rfl)) ?_
                refine W_end ?_
                refine kq _ ?_
                refine AX_cast (l2 := #[true, true, true, true, true, true, true, false]) ?_ (by kernel_rfl)
                refine AX_1 (i := 7) (by kernel_rfl) rfl ?_
                refine W_v rfl rfl (V_asg rfl rfl) ?_
                refine W_end ?_
                refine kq _ ?_
                refine AX_cast (l2 := #[true, true, true, true, true, true, true, true]) ?_ (by kernel_rfl)
                refine AX_end (by kernel_rfl) ?_
                refine gen_Q (fun A52 hA52 => ?_)
                have hsz52 : SzN A52 40 := by rw [hA52]; infer_instance
                have hdf52 : A52.defers = [] := by rw [hA52]; simp only [df_put]; exact hdf45
                have l2_52 := lookE hA52 2 (es rfl (es rfl (es rfl (es rfl (es rfl (es rfl (es rfl l2_45)))))))
                have l3_52 := lookE hA52 3 (es rfl (et rfl))
                have l4_52 := lookE hA52 4 (et rfl)
                clear hA52 hsz45 hdf45 l1_45 l2_45 l8_45
                refine then_n (hK46 _ _ ?_)
                clear hK46
                refine wp_ret ?_
                refine ret_in (results_3 Tryd.results25 (rv_cellA l2_52 b4 Tryd.underlying24 rfl (by kernel_rfl)) (rv_tmp l3_52) (rv_tmp l4_52)) hdf52 ?_
                -- leaf TF
                have hs : takeS lo yo = ⟨((lo.drop 1).take (lo.length - 1)), yo, y49, 0⟩ := takeS_ok c14 (by assumption)
                rw [hs]
                exact ⟨_, _, rfl, f41.fre, f2_29.fre, hE51⟩
              · skip
                refine W_stA rfl rfl rfl (es rfl (es rfl (es rfl (es rfl l2_45)))) (es rfl (es rfl (es rfl (et rfl)))) (by simp only [List.all_toArray, List.all_cons, List.all_nil, one_ints f41.ints, one_ints f2_29.ints] <;> rfl) b4 (by rfl) (by kernel_rfl) (fun w53 ht53 hb53 => ?_)
                have hE54 := ext_tch hE48 ht53 oB_4
                replace f2_29 := f2_29.tch ht53 b4 rfl
                replace f41 := f41.tch ht53 b4 rfl
                replace b2 := box_tch b2 ht53 (Nat.ne_of_lt o2_4)
                replace b32 := box_tch b32 ht53 (Nat.ne_of_gt o4_32)
                replace b4 := hb53
                refine W_end ?_
                refine kq _ ?_
                refine AX_cast (l2 := #[true, true, true, true, false, true, false, false]) ?_ (by kernel_rfl)
                refine AX_1 (i := 4) (by kernel_rfl) rfl ?_
                refine W_r rfl rfl (VR_ldC rfl (et rfl) (cell_ext hE54 hc49) Tryd.underlying3 rfl) ?_
                refine W_end ?_
                refine kq _ ?_
                refine AX_cast (l2 := #[true, true, true, true, true, true, false, false]) ?_ (by kernel_rfl)
                refine AX_1 (i := 6) (by kernel_rfl) rfl ?_
                refine W_v rfl rfl (V_asg rfl (et rfl)) ?_
                refine W_end ?_
                refine kq _ ?_
                refine AX_cast (l2 := #[true, true, true, true, true, true, true, false]) ?_ (by kernel_rfl)
                refine AX_1 (i := 7) (by kernel_rfl) rfl ?_
                refine W_v rfl rfl (V_asg rfl rfl) ?_
                refine W_end ?_
                refine kq _ ?_
                refine AX_cast (l2 := #[true, true, true, true, true, true, true, true]) ?_ (by kernel_rfl)
                refine AX_end (by kernel_rfl) ?_
                refine gen_Q (fun A55 hA55 => ?_)
                have hsz55 : SzN A55 40 := by rw [hA55]; infer_instance
                have hdf55 : A55.defers = [] := by rw [hA55]; simp only [df_put]; exact hdf45
                have l2_55 := lookE hA55 2 (es rfl (es rfl (es rfl (es rfl (es rfl (es rfl (es rfl l2_45)))))))
                have l3_55 := lookE hA55 3 (es rfl (et rfl))
                have l4_55 := lookE hA55 4 (et rfl)
                clear hA55 hsz45 hdf45 l1_45 l2_45 l8_45
                refine then_n (hK46 _ _ ?_)
                clear hK46
                refine wp_ret ?_
                refine ret_in (results_3 Tryd.results25 (rv_cellA l2_55 b4 Tryd.underlying24 rfl (by kernel_rfl)) (rv_tmp l3_55) (rv_tmp l4_55)) hdf55 ?_
                -- leaf TF
                have hs : takeS lo yo = ⟨((lo.drop 1).take (lo.length - 1)), yo, y49, 0⟩ := takeS_ok c14 (by assumption)
                rw [hs]
                exact ⟨_, _, rfl, f41.fre, f2_29.fre, hE54⟩
            · skip
              refine W_stA rfl rfl rfl (es rfl (es rfl (es rfl l2_45))) (es rfl (es rfl (et rfl))) (by simp only [List.all_toArray, List.all_cons, List.all_nil, one_ints f41.ints, one_ints f2_29.ints] <;> rfl) b4 (by rfl) (by kernel_rfl) (fun w56 ht56 hb56 => ?_)
              have hE57 := ext_tch hE48 ht56 oB_4
              replace f2_29 := f2_29.tch ht56 b4 rfl
              replace f41 := f41.tch ht56 b4 rfl
              replace b2 := box_tch b2 ht56 (Nat.ne_of_lt o2_4)
              replace b32 := box_tch b32 ht56 (Nat.ne_of_gt o4_32)
              replace b4 := hb56
              refine W_end ?_
              refine kq _ ?_
              refine AX_cast (l2 := #[true, true, true, false, false, true, false, false]) ?_ (by kernel_rfl)
              refine AX_1 (i := 3) (by kernel_rfl) rfl ?_
              have k58 : 0 < lo.length := by omega
              obtain ⟨B58, O58, C58, y58, hv58, hy58, hc58⟩ := at_ints h_lv (0) k58
              refine W_v rfl rfl (V_idx (0) rfl (et rfl) rfl hv58 (by omega) k58 Tryd.underlying22 (by kernel_rfl)) ?_
              refine W_end ?_
              refine kq _ ?_
              refine AX_cast (l2 := #[true, true, true, true, false, true, false, false]) ?_ (by kernel_rfl)
              refine AX_1 (i := 4) (by kernel_rfl) rfl ?_
              refine W_r rfl rfl (VR_ldC rfl (et rfl) (cell_ext hE57 hc58) Tryd.underlying3 rfl) ?_
              refine W_end ?_
              refine kq _ ?_
              refine AX_cast (l2 := #[true, true, true, true, true, true, false, false]) ?_ (by kernel_rfl)
              refine AX_1 (i := 6) (by kernel_rfl) rfl ?_
              refine W_v rfl rfl (V_asg rfl (et rfl)) ?_
              refine W_end ?_
              refine kq _ ?_
              refine AX_cast (l2 := #[true, true, true, true, true, true, true, false]) ?_ (by kernel_rfl)
              refine AX_1 (i := 7) (by kernel_rfl) rfl ?_
              refine W_v rfl rfl (V_asg rfl rfl) ?_
              refine W_end ?_
              refine kq _ ?_
              refine AX_cast (l2 := #[true, true, true, true, true, true, true, true]) ?_ (by kernel_rfl)
              refine AX_end (by kernel_rfl) ?_
              refine gen_Q (fun A59 hA59 => ?_)
              have hsz59 : SzN A59 40 := by rw [hA59]; infer_instance
              have hdf59 : A59.defers = [] := by rw [hA59]; simp only [df_put]; exact hdf45
              have l2_59 := lookE hA59 2 (es rfl (es rfl (es rfl (es rfl (es rfl (es rfl (es rfl l2_45)))))))
              have l3_59 := lookE hA59 3 (es rfl (et rfl))
              have l4_59 := lookE hA59 4 (et rfl)
              clear hA59 hsz45 hdf45 l1_45 l2_45 l8_45
              refine then_n (hK46 _ _ ?_)
              clear hK46
              refine wp_ret ?_
              refine ret_in (results_3 Tryd.results25 (rv_cellA l2_59 b4 Tryd.underlying24 rfl (by kernel_rfl)) (rv_tmp l3_59) (rv_tmp l4_59)) hdf59 ?_
              -- leaf TF
              have hs : takeS lo yo = ⟨((lo.drop 1).take (lo.length - 1)), yo, y58, 0⟩ := takeS_ok c14 (by assumption)
              rw [hs]
              exact ⟨_, _, rfl, f41.fre, f2_29.fre, hE57⟩
          · skip
            refine W_stA rfl rfl rfl (es rfl (es rfl l2_45)) (es rfl (et rfl)) (by simp only [List.all_toArray, List.all_cons, List.all_nil, one_ints f41.ints, one_ints f2_29.ints] <;> rfl) b4 (by rfl) (by kernel_rfl) (fun w60 ht60 hb60 => ?_)
            have hE61 := ext_tch hE48 ht60 oB_4
            replace f2_29 := f2_29.tch ht60 b4 rfl
            replace f41 := f41.tch ht60 b4 rfl
            replace b2 := box_tch b2 ht60 (Nat.ne_of_lt o2_4)
            replace b32 := box_tch b32 ht60 (Nat.ne_of_gt o4_32)
            replace b4 := hb60
            refine W_end ?_
            refine kq _ ?_
            refine AX_cast (l2 := #[true, true, false, false, false, true, false, false]) ?_ (by kernel_rfl)
            refine AX_1 (i := 2) (by kernel_rfl) rfl ?_
            refine W_r rfl rfl (VR_ldC rfl (et rfl) (cell_box (v := lv) b2 rfl) Tryd.underlying22 rfl) ?_
            refine W_end ?_
            refine kq _ ?_
            refine AX_cast (l2 := #[true, true, true, false, false, true, false, false]) ?_ (by kernel_rfl)
            refine AX_1 (i := 3) (by kernel_rfl) rfl ?_
            have k62 : 0 < lo.length := by omega
            obtain ⟨B62, O62, C62, y62, hv62, hy62, hc62⟩ := at_ints h_lv (0) k62
            refine W_v rfl rfl (V_idx (0) rfl (et rfl) rfl hv62 (by omega) k62 Tryd.underlying22 (by kernel_rfl)) ?_
            refine W_end ?_
            refine kq _ ?_
            refine AX_cast (l2 := #[true, true, true, true, false, true, false, false]) ?_ (by kernel_rfl)
            refine AX_1 (i := 4) (by kernel_rfl) rfl ?_
            refine W_r rfl rfl (VR_ldC rfl (et rfl) (cell_ext hE61 hc62) Tryd.underlying3 rfl) ?_
            refine W_end ?_
            refine kq _ ?_
            refine AX_cast (l2 := #[true, true, true, true, true, true, false, false]) ?_ (by kernel_rfl)
            refine AX_1 (i := 6) (by kernel_rfl) rfl ?_
            refine W_v rfl rfl (V_asg rfl (et rfl)) ?_
            refine W_end ?_
            refine kq _ ?_
            refine AX_cast (l2 := #[true, true, true, true, true, true, true, false]) ?_ (by kernel_rfl)
            refine AX_1 (i := 7) (by kernel_rfl) rfl ?_
            refine W_v rfl rfl (V_asg rfl rfl) ?_
            refine W_end ?_
            refine kq _ ?_
            refine AX_cast (l2 := #[true, true, true, true, true, true, true, true]) ?_ (by kernel_rfl)
            refine AX_end (by kernel_rfl) ?_
            refine gen_Q (fun A63 hA63 => ?_)
            have hsz63 : SzN A63 40 := by rw [hA63]; infer_instance
            have hdf63 : A63.defers = [] := by rw [hA63]; simp only [df_put]; exact hdf45
            have l2_63 := lookE hA63 2 (es rfl (es rfl (es rfl (es rfl (es rfl (es rfl (es rfl l2_45)))))))
            have l3_63 := lookE hA63 3 (es rfl (et rfl))
            have l4_63 := lookE hA63 4 (et rfl)
            clear hA63 hsz45 hdf45 l1_45 l2_45 l8_45
            refine then_n (hK46 _ _ ?_)
            clear hK46
            refine wp_ret ?_
            refine ret_in (results_3 Tryd.results25 (rv_cellA l2_63 b4 Tryd.underlying24 rfl (by kernel_rfl)) (rv_tmp l3_63) (rv_tmp l4_63)) hdf63 ?_
            -- leaf TF
            have hs : takeS lo yo = ⟨((lo.drop 1).take (lo.length - 1)), yo, y62, 0⟩ := takeS_ok c14 (by assumption)
            rw [hs]
            exact ⟨_, _, rfl, f41.fre, f2_29.fre, hE61⟩
        · skip
          refine W_stA rfl rfl rfl (es rfl l2_45) (et rfl) (by simp only [List.all_toArray, List.all_cons, List.all_nil, one_ints f41.ints, one_ints f2_29.ints] <;> rfl) b4 (by rfl) (by kernel_rfl) (fun w64 ht64 hb64 => ?_)
          have hE65 := ext_tch hE48 ht64 oB_4
          replace f2_29 := f2_29.tch ht64 b4 rfl
          replace f41 := f41.tch ht64 b4 rfl
          replace b2 := box_tch b2 ht64 (Nat.ne_of_lt o2_4)
          replace b32 := box_tch b32 ht64 (Nat.ne_of_gt o4_32)
          replace b4 := hb64
          refine W_end ?_
          refine kq _ ?_
          refine AX_cast (l2 := #[true, false, false, false, false, true, false, false]) ?_ (by kernel_rfl)
          refine AX_1 (i := 1) (by kernel_rfl) rfl ?_
          refine W_v rfl rfl (V_fa (off' := 0) rfl (es rfl l1_45) Tryd.underlying24 rfl (by decide) rfl) ?_
          refine W_end ?_
          refine kq _ ?_
          refine AX_cast (l2 := #[true, true, false, false, false, true, false, false]) ?_ (by kernel_rfl)
          refine AX_1 (i := 2) (by kernel_rfl) rfl ?_
          refine W_r rfl rfl (VR_ldC rfl (et rfl) (cell_box (v := lv) b2 rfl) Tryd.underlying22 rfl) ?_
          refine W_end ?_
          refine kq _ ?_
          refine AX_cast (l2 := #[true, true, true, false, false, true, false, false]) ?_ (by kernel_rfl)
          refine AX_1 (i := 3) (by kernel_rfl) rfl ?_
          have k66 : 0 < lo.length := by omega
          obtain ⟨B66, O66, C66, y66, hv66, hy66, hc66⟩ := at_ints h_lv (0) k66
          refine W_v rfl rfl (V_idx (0) rfl (et rfl) rfl hv66 (by omega) k66 Tryd.underlying22 (by kernel_rfl)) ?_
          refine W_end ?_
          refine kq _ ?_
          refine AX_cast (l2 := #[true, true, true, true, false, true, false, false]) ?_ (by kernel_rfl)
          refine AX_1 (i := 4) (by kernel_rfl) rfl ?_
          refine W_r rfl rfl (VR_ldC rfl (et rfl) (cell_ext hE65 hc66) Tryd.underlying3 rfl) ?_
          refine W_end ?_
          refine kq _ ?_
          refine AX_cast (l2 := #[true, true, true, true, true, true, false, false]) ?_ (by kernel_rfl)
          refine AX_1 (i := 6) (by kernel_rfl) rfl ?_
          refine W_v rfl rfl (V_asg rfl (et rfl)) ?_
          refine W_end ?_
          refine kq _ ?_
          refine AX_cast (l2 := #[true, true, true, true, true, true, true, false]) ?_ (by kernel_rfl)
          refine AX_1 (i := 7) (by kernel_rfl) rfl ?_
          refine W_v rfl rfl (V_asg rfl rfl) ?_
          refine W_end ?_
          refine kq _ ?_
          refine AX_cast (l2 := #[true, true, true, true, true, true, true, true]) ?_ (by kernel_rfl)
          refine AX_end (by kernel_rfl) ?_
          refine gen_Q (fun A67 hA67 => ?_)
          have hsz67 : SzN A67 40 := by rw [hA67]; infer_instance
          have hdf67 : A67.defers = [] := by rw [hA67]; simp only [df_put]; exact hdf45
          have l2_67 := lookE hA67 2 (es rfl (es rfl (es rfl (es rfl (es rfl (es rfl (es rfl l2_45)))))))
          have l3_67 := lookE hA67 3 (es rfl (et rfl))
          have l4_67 := lookE hA67 4 (et rfl)
          clear hA67 hsz45 hdf45 l1_45 l2_45 l8_45
          refine then_n (hK46 _ _ ?_)
          clear hK46
          refine wp_ret ?_
          refine ret_in (results_3 Tryd.results25 (rv_cellA l2_67 b4 Tryd.underlying24 rfl (by kernel_rfl)) (rv_tmp l3_67) (rv_tmp l4_67)) hdf67 ?_
          -- leaf TF
          have hs : takeS lo yo = ⟨((lo.drop 1).take (lo.length - 1)), yo, y66, 0⟩ := takeS_ok c14 (by assumption)
          rw [hs]
          exact ⟨_, _, rfl, f41.fre, f2_29.fre, hE65⟩
      · skip
        refine W_v rfl rfl (V_fa (off' := 0) rfl l1_45 Tryd.underlying24 rfl (by decide) rfl) ?_
        refine W_end ?_
        refine kq _ ?_
        refine AX_cast (l2 := #[false, true, false, false, false, false, false, false]) ?_ (by kernel_rfl)
        refine AX_2 (i := 0) (j := 2) (by kernel_rfl) rfl rfl ?_ ?_
        · skip
          refine W_r rfl rfl (VR_ldA rfl (es rfl l8_45) b32 Tryd.underlying24 rfl (by kernel_rfl)) ?_
          refine W_end ?_
          refine kq _ ?_
          refine AX_cast (l2 := #[true, true, false, false, false, false, false, false]) ?_ (by kernel_rfl)
          refine AX_2 (i := 2) (j := 5) (by kernel_rfl) rfl rfl ?_ ?_
          · skip
            refine W_r rfl rfl (VR_ldC rfl (es rfl (et rfl)) (cell_box (v := lv) b2 rfl) Tryd.underlying22 rfl) ?_
            refine W_end ?_
            refine kq _ ?_
            refine AX_cast (l2 := #[true, true, true, false, false, false, false, false]) ?_ (by kernel_rfl)
            refine AX_2 (i := 3) (j := 5) (by kernel_rfl) rfl rfl ?_ ?_
            · skip
              have k68 : 0 < lo.length := by omega
              obtain ⟨B68, O68, C68, y68, hv68, hy68, hc68⟩ := at_ints h_lv (0) k68
              refine W_v rfl rfl (V_idx (0) rfl (et rfl) rfl hv68 (by omega) k68 Tryd.underlying22 (by kernel_rfl)) ?_
              refine W_end ?_
              refine kq _ ?_
              refine AX_cast (l2 := #[true, true, true, true, false, false, false, false]) ?_ (by kernel_rfl)
              refine AX_2 (i := 4) (j := 5) (by kernel_rfl) rfl rfl ?_ ?_
              · skip
                refine W_r rfl rfl (VR_ldC rfl (et rfl) (cell_ext hE48 hc68) Tryd.underlying3 rfl) ?_
                refine W_end ?_
                refine kq _ ?_
                refine AX_cast (l2 := #[true, true, true, true, true, false, false, false]) ?_ (by kernel_rfl)
                refine AX_1 (i := 5) (by kernel_rfl) rfl ?_
                refine W_stA rfl rfl rfl (es rfl (es rfl (es rfl (es rfl (es rfl l2_45))))) (es rfl (es rfl (es rfl (et rfl)))) (by simp only [List.all_toArray, List.all_cons, List.all_nil, one_ints f41.ints, one_ints f2_29.ints] <;> rfl) b4 (by rfl) (by kernel_rfl) (fun w69 ht69 hb69 => ?_)
                have hE70 := ext_tch hE48 ht69 oB_4
                replace f2_29 := f2_29.tch ht69 b4 rfl
                replace f41 := f41.tch ht69 b4 rfl
                replace b2 := box_tch b2 ht69 (Nat.ne_of_lt o2_4)
                replace b32 := box_tch b32 ht69 (Nat.ne_of_gt o4_32)
                replace b4 := hb69
                refine W_end ?_
                refine kq _ ?_
                refine AX_cast (l2 := #[true, true, true, true, true, true, false, false]) ?_ (by kernel_rfl)
                refine AX_1 (i := 6) (by kernel_rfl) rfl ?_
                refine W_v rfl rfl (V_asg rfl (et rfl)) ?_
                refine W_end ?_
                refine kq _ ?_
                refine AX_cast (l2 := #[true, true, true, true, true, true, true, false]) ?_ (by kernel_rfl)
                refine AX_1 (i := 7) (by kernel_rfl) rfl ?_
                refine W_v rfl rfl (V_asg rfl rfl) ?_
                refine W_end ?_
                refine kq _ ?_
                refine AX_cast (l2 := #[true, true, true, true, true, true, true, true]) ?_ (by kernel_rfl)
                refine AX_end (by kernel_rfl) ?_
                refine gen_Q (fun A71 hA71 => ?_)
                have hsz71 : SzN A71 40 := by rw [hA71]; infer_instance
                have hdf71 : A71.defers = [] := by rw [hA71]; simp only [df_put]; exact hdf45
                have l2_71 := lookE hA71 2 (es rfl (es rfl (es rfl (es rfl (es rfl (es rfl (es rfl l2_45)))))))
                have l3_71 := lookE hA71 3 (es rfl (et rfl))
                have l4_71 := lookE hA71 4 (et rfl)
                clear hA71 hsz45 hdf45 l1_45 l2_45 l8_45
                refine then_n (hK46 _ _ ?_)
                clear hK46
                refine wp_ret ?_
                refine ret_in (results_3 Tryd.results25 (rv_cellA l2_71 b4 Tryd.underlying24 rfl (by kernel_rfl)) (rv_tmp l3_71) (rv_tmp l4_71)) hdf71 ?_
                -- leaf TF
                have hs : takeS lo yo = ⟨((lo.drop 1).take (lo.length - 1)), yo, y68, 0⟩ := takeS_ok c14 (by assumption)
                rw [hs]
                exact ⟨_, _, rfl, f41.fre, f2_29.fre, hE70⟩
              · skip
                refine W_stA rfl rfl rfl (es rfl (es rfl (es rfl (es rfl l2_45)))) (es rfl (es rfl (et rfl))) (by simp only [List.all_toArray, List.all_cons, List.all_nil, one_ints f41.ints, one_ints f2_29.ints] <;> rfl) b4 (by rfl) (by kernel_rfl) (fun w72 ht72 hb72 => ?_)
                have hE73 := ext_tch hE48 ht72 oB_4
                replace f2_29 := f2_29.tch ht72 b4 rfl
                replace f41 := f41.tch ht72 b4 rfl
                replace b2 := box_tch b2 ht72 (Nat.ne_of_lt o2_4)
                replace b32 := box_tch b32 ht72 (Nat.ne_of_gt o4_32)
                replace b4 := hb72
                refine W_end ?_
                refine kq _ ?_
                refine AX_cast (l2 := #[true, true, true, true, false, true, false, false]) ?_ (by kernel_rfl)
                refine AX_1 (i := 4) (by kernel_rfl) rfl ?_
                refine W_r rfl rfl (VR_ldC rfl (et rfl) (cell_ext hE73 hc68) Tryd.underlying3 rfl) ?_
                refine W_end ?_
                refine kq _ ?_
                refine AX_cast (l2 := #[true, true, true, true, true, true, false, false]) ?_ (by kernel_rfl)
                refine AX_1 (i := 6) (by kernel_rfl) rfl ?_
                refine W_v rfl rfl (V_asg rfl (et rfl)) ?_
                refine W_end ?_
                refine kq _ ?_
                refine AX_cast (l2 := #[true, true, true, true, true, true, true, false]) ?_ (by kernel_rfl)
                refine AX_1 (i := 7) (by kernel_rfl) rfl ?_
                refine W_v rfl rfl (V_asg rfl rfl) ?_
                refine W_end ?_
                refine kq _ ?_
                refine AX_cast (l2 := #[true, true, true, true, true, true, true, true]) ?_ (by kernel_rfl)
                refine AX_end (by kernel_rfl) ?_
                refine gen_Q (fun A74 hA74 => ?_)
                have hsz74 : SzN A74 40 := by rw [hA74]; infer_instance
                have hdf74 : A74.defers = [] := by rw [hA74]; simp only [df_put]; exact hdf45
                have l2_74 := lookE hA74 2 (es rfl (es rfl (es rfl (es rfl (es rfl (es rfl (es rfl l2_45)))))))
                have l3_74 := lookE hA74 3 (es rfl (et rfl))
                have l4_74 := lookE hA74 4 (et rfl)
                clear hA74 hsz45 hdf45 l1_45 l2_45 l8_45
                refine then_n (hK46 _ _ ?_)
                clear hK46
                refine wp_ret ?_
                refine ret_in (results_3 Tryd.results25 (rv_cellA l2_74 b4 Tryd.underlying24 rfl (by kernel_rfl)) (rv_tmp l3_74) (rv_tmp l4_74)) hdf74 ?_
                -- leaf TF
                have hs : takeS lo yo = ⟨((lo.drop 1).take (lo.length - 1)), yo, y68, 0⟩ := takeS_ok c14 (by assumption)
                rw [hs]
                exact ⟨_, _, rfl, f41.fre, f2_29.fre, hE73⟩
            · skip
              refine W_stA rfl rfl rfl (es rfl (es rfl (es rfl l2_45))) (es rfl (et rfl)) (by simp only [List.all_toArray, List.all_cons, List.all_nil, one_ints f41.ints, one_ints f2_29.ints] <;> rfl) b4 (by rfl) (by kernel_rfl) (fun w75 ht75 hb75 => ?_)
              have hE76 := ext_tch hE48 ht75 oB_4
              replace f2_29 := f2_29.tch ht75 b4 rfl
              replace f41 := f41.tch ht75 b4 rfl
              replace b2 := box_tch b2 ht75 (Nat.ne_of_lt o2_4)
              replace b32 := box_tch b32 ht75 (Nat.ne_of_gt o4_32)
              replace b4 := hb75
              refine W_end ?_
              refine kq _ ?_
              refine AX_cast (l2 := #[true, true, true, false, false, true, false, false]) ?_ (by kernel_rfl)
              refine AX_1 (i := 3) (by kernel_rfl) rfl ?_
              have k77 : 0 < lo.length := by omega
              obtain ⟨B77, O77, C77, y77, hv77, hy77, hc77⟩ := at_ints h_lv (0) k77
              refine W_v rfl rfl (V_idx (0) rfl (et rfl) rfl hv77 (by omega) k77 Tryd.underlying22 (by kernel_rfl)) ?_
              refine W_end ?_
              refine kq _ ?_
              refine AX_cast (l2 := #[true, true, true, true, false, true, false, false]) ?_ (by kernel_rfl)
              refine AX_1 (i := 4) (by kernel_rfl) rfl ?_
              refine W_r rfl rfl (VR_ldC rfl (et rfl) (cell_ext hE76 hc77) Tryd.underlying3 rfl) ?_
              refine W_end ?_
              refine kq _ ?_
              refine AX_cast (l2 := #[true, true, true, true, true, true, false, false]) ?_ (by kernel_rfl)
              refine AX_1 (i := 6) (by kernel_rfl) rfl ?_
              refine W_v rfl rfl (V_asg rfl (et rfl)) ?_
              refine W_end ?_
              refine kq _ ?_
              refine AX_cast (l2 := #[true, true, true, true, true, true, true, false]) ?_ (by kernel_rfl)
              refine AX_1 (i := 7) (by kernel_rfl) rfl ?_
              refine W_v rfl rfl (V_asg rfl rfl) ?_
              refine W_end ?_
              refine kq _ ?_
              refine AX_cast (l2 := #[true, true, true, true, true, true, true, true]) ?_ (by kernel_rfl)
              refine AX_end (by kernel_rfl) ?_
              refine gen_Q (fun A78 hA78 => ?_)
              have hsz78 : SzN A78 40 := by rw [hA78]; infer_instance
              have hdf78 : A78.defers = [] := by rw [hA78]; simp only [df_put]; exact hdf45
              have l2_78 := lookE hA78 2 (es rfl (es rfl (es rfl (es rfl (es rfl (es rfl (es rfl l2_45)))))))
              have l3_78 := lookE hA78 3 (es rfl (et rfl))
              have l4_78 := lookE hA78 4 (et rfl)
              clear hA78 hsz45 hdf45 l1_45 l2_45 l8_45
              refine then_n (hK46 _ _ ?_)
              clear hK46
              refine wp_ret ?_
              refine ret_in (results_3 Tryd.results25 (rv_cellA l2_78 b4 Tryd.underlying24 rfl (by kernel_rfl)) (rv_tmp l3_78) (rv_tmp l4_78)) hdf78 ?_
              -- leaf TF
              have hs : takeS lo yo = ⟨((lo.drop 1).take (lo.length - 1)), yo, y77, 0⟩ := takeS_ok c14 (by assumption)
              rw [hs]
              exact ⟨_, _, rfl, f41.fre, f2_29.fre, hE76⟩
          · skip
            refine W_stA rfl rfl rfl (es rfl (es rfl l2_45)) (et rfl) (by simp only [List.all_toArray, List.all_cons, List.all_nil, one_ints f41.ints, one_ints f2_29.ints] <;> rfl) b4 (by rfl) (by kernel_rfl) (fun w79 ht79 hb79 => ?_)
            have hE80 := ext_tch hE48 ht79 oB_4
            replace f2_29 := f2_29.tch ht79 b4 rfl
            replace f41 := f41.tch ht79 b4 rfl
            replace b2 := box_tch b2 ht79 (Nat.ne_of_lt o2_4)
            replace b32 := box_tch b32 ht79 (Nat.ne_of_gt o4_32)
            replace b4 := hb79
            refine W_end ?_
            refine kq _ ?_
            refine AX_cast (l2 := #[true, true, false, false, false, true, false, false]) ?_ (by kernel_rfl)
            refine AX_1 (i := 2) (by kernel_rfl) rfl ?_
            refine W_r rfl rfl (VR_ldC rfl (es rfl (et rfl)) (cell_box (v := lv) b2 rfl) Tryd.underlying22 rfl) ?_
            refine W_end ?_
            refine kq _ ?_
            refine AX_cast (l2 := #[true, true, true, false, false, true, false, false]) ?_ (by kernel_rfl)
            refine AX_1 (i := 3) (by kernel_rfl) rfl ?_
            have k81 : 0 < lo.length := by omega
            obtain ⟨B81, O81, C81, y81, hv81, hy81, hc81⟩ := at_ints h_lv (0) k81
            refine W_v rfl rfl (V_idx (0) rfl (et rfl) rfl hv81 (by omega) k81 Tryd.underlying22 (by kernel_rfl)) ?_
            refine W_end ?_
            refine kq _ ?_
            refine AX_cast (l2 := #[true, true, true, true, false, true, false, false]) ?_ (by kernel_rfl)
            refine AX_1 (i := 4) (by kernel_rfl) rfl ?_
            refine W_r rfl rfl (VR_ldC rfl (et rfl) (cell_ext hE80 hc81) Tryd.underlying3 rfl) ?_
            refine W_end ?_
            refine kq _ ?_
            refine AX_cast (l2 := #[true, true, true, true, true, true, false, false]) ?_ (by kernel_rfl)
            refine AX_1 (i := 6) (by kernel_rfl) rfl ?_
            refine W_v rfl rfl (V_asg rfl (et rfl)) ?_
            refine W_end ?_
            refine kq _ ?_
            refine AX_cast (l2 := #[true, true, true, true, true, true, true, false]) ?_ (by kernel_rfl)
            refine AX_1 (i := 7) (by kernel_rfl) rfl ?_
            refine W_v rfl rfl (V_asg rfl rfl) ?_
            refine W_end ?_
            refine kq _ ?_
            refine AX_cast (l2 := #[true, true, true, true, true, true, true, true]) ?_ (by kernel_rfl)
            refine AX_end (by kernel_rfl) ?_
            refine gen_Q (fun A82 hA82 => ?_)
            have hsz82 : SzN A82 40 := by rw [hA82]; infer_instance
            have hdf82 : A82.defers = [] := by rw [hA82]; simp only [df_put]; exact hdf45
            have l2_82 := lookE hA82 2 (es rfl (es rfl (es rfl (es rfl (es rfl (es rfl (es rfl l2_45)))))))
            have l3_82 := lookE hA82 3 (es rfl (et rfl))
            have l4_82 := lookE hA82 4 (et rfl)
            clear hA82 hsz45 hdf45 l1_45 l2_45 l8_45
            refine then_n (hK46 _ _ ?_)
            clear hK46
            refine wp_ret ?_
            refine ret_in (results_3 Tryd.results25 (rv_cellA l2_82 b4 Tryd.underlying24 rfl (by kernel_rfl)) (rv_tmp l3_82) (rv_tmp l4_82)) hdf82 ?_
            -- leaf TF
            have hs : takeS lo yo = ⟨((lo.drop 1).take (lo.length - 1)), yo, y81, 0⟩ := takeS_ok c14 (by assumption)
            rw [hs]
            exact ⟨_, _, rfl, f41.fre, f2_29.fre, hE80⟩
        · skip
          refine W_r rfl rfl (VR_ldC rfl (et rfl) (cell_box (v := lv) b2 rfl) Tryd.underlying22 rfl) ?_
          refine W_end ?_
          refine kq _ ?_
          refine AX_cast (l2 := #[false, true, true, false, false, false, false, false]) ?_ (by kernel_rfl)
          refine AX_2 (i := 0) (j := 3) (by kernel_rfl) rfl rfl ?_ ?_
          · skip
            refine W_r rfl rfl (VR_ldA rfl (es rfl (es rfl l8_45)) b32 Tryd.underlying24 rfl (by kernel_rfl)) ?_
            refine W_end ?_
            refine kq _ ?_
            refine AX_cast (l2 := #[true, true, true, false, false, false, false, false]) ?_ (by kernel_rfl)
            refine AX_2 (i := 3) (j := 5) (by kernel_rfl) rfl rfl ?_ ?_
            · skip
              have k83 : 0 < lo.length := by omega
              obtain ⟨B83, O83, C83, y83, hv83, hy83, hc83⟩ := at_ints h_lv (0) k83
              refine W_v rfl rfl (V_idx (0) rfl (es rfl (et rfl)) rfl hv83 (by omega) k83 Tryd.underlying22 (by kernel_rfl)) ?_
              refine W_end ?_
              refine kq _ ?_
              refine AX_cast (l2 := #[true, true, true, true, false, false, false, false]) ?_ (by kernel_rfl)
              refine AX_2 (i := 4) (j := 5) (by kernel_rfl) rfl rfl ?_ ?_
              · skip
                refine W_r rfl rfl (VR_ldC rfl (et rfl) (cell_ext hE48 hc83) Tryd.underlying3 rfl) ?_
                refine W_end ?_
                refine kq _ ?_
                refine AX_cast (l2 := #[true, true, true, true, true, false, false, false]) ?_ (by kernel_rfl)
                refine AX_1 (i := 5) (by kernel_rfl) rfl ?_
                refine W_stA rfl rfl rfl (es rfl (es rfl (es rfl (es rfl (es rfl l2_45))))) (es rfl (es rfl (et rfl))) (by simp only [List.all_toArray, List.all_cons, List.all_nil, one_ints f41.ints, one_ints f2_29.ints] <;> rfl) b4 (by rfl) (by kernel_rfl) (fun w84 ht84 hb84 => ?_)
                have hE85 := ext_tch hE48 ht84 oB_4
                replace f2_29 := f2_29.tch ht84 b4 rfl
                replace f41 := f41.tch ht84 b4 rfl
                replace b2 := box_tch b2 ht84 (Nat.ne_of_lt o2_4)
                replace b32 := box_tch b32 ht84 (Nat.ne_of_gt o4_32)
                replace b4 := hb84
                refine W_end ?_
                refine kq _ ?_
                refine AX_cast (l2 := #[true, true, true, true, true, true, false, false]) ?_ (by kernel_rfl)
                refine AX_1 (i := 6) (by kernel_rfl) rfl ?_
                refine W_v rfl rfl (V_asg rfl (et rfl)) ?_
                refine W_end ?_
                refine kq _ ?_
                refine AX_cast (l2 := #[true, true, true, true, true, true, true, false]) ?_ (by kernel_rfl)
                refine AX_1 (i := 7) (by kernel_rfl) rfl ?_
                refine W_v rfl rfl (V_asg rfl rfl) ?_
                refine W_end ?_
                refine kq _ ?_
                refine AX_cast (l2 := #[true, true, true, true, true, true, true, true]) ?_ (by kernel_rfl)
                refine AX_end (by kernel_rfl) ?_
                refine gen_Q (fun A86 hA86 => ?_)
                have hsz86 : SzN A86 40 := by rw [hA86]; infer_instance
                have hdf86 : A86.defers = [] := by rw [hA86]; simp only [df_put]; exact hdf45
                have l2_86 := lookE hA86 2 (es rfl (es rfl (es rfl (es rfl (es rfl (es rfl (es rfl l2_45)))))))
                have l3_86 := lookE hA86 3 (es rfl (et rfl))
                have l4_86 := lookE hA86 4 (et rfl)
                clear hA86 hsz45 hdf45 l1_45 l2_45 l8_45
                refine then_n (hK46 _ _ ?_)
                clear hK46
                refine wp_ret ?_
                refine ret_in (results_3 Tryd.results25 (rv_cellA l2_86 b4 Tryd.underlying24 rfl (by kernel_rfl)) (rv_tmp l3_86) (rv_tmp l4_86)) hdf86 ?_
                -- leaf TF
                have hs : takeS lo yo = ⟨((lo.drop 1).take (lo.length - 1)), yo, y83, 0⟩ := takeS_ok c14 (by assumption)
                rw [hs]
                exact ⟨_, _, rfl, f41.fre, f2_29.fre, hE85⟩
              · skip
                refine W_stA rfl rfl rfl (es rfl (es rfl (es rfl (es rfl l2_45)))) (es rfl (et rfl)) (by simp only [List.all_toArray, List.all_cons, List.all_nil, one_ints f41.ints, one_ints f2_29.ints] <;> rfl) b4 (by rfl) (by kernel_rfl) (fun w87 ht87 hb87 => ?_)
                have hE88 := ext_tch hE48 ht87 oB_4
                replace f2_29 := f2_29.tch ht87 b4 rfl
                replace f41 := f41.tch ht87 b4 rfl
                replace b2 := box_tch b2 ht87 (Nat.ne_of_lt o2_4)
                replace b32 := box_tch b32 ht87 (Nat.ne_of_gt o4_32)
                replace b4 := hb87
                refine W_end ?_
                refine kq _ ?_
                refine AX_cast (l2 := #[true, true, true, true, false, true, false, false]) ?_ (by kernel_rfl)
                refine AX_1 (i := 4) (by kernel_rfl) rfl ?_
                refine W_r rfl rfl (VR_ldC rfl (et rfl) (cell_ext hE88 hc83) Tryd.underlying3 rfl) ?_
                refine W_end ?_
                refine kq _ ?_
                refine AX_cast (l2 := #[true, true, true, true, true, true, false, false]) ?_ (by kernel_rfl)
                refine AX_1 (i := 6) (by kernel_rfl) rfl ?_
                refine W_v rfl rfl (V_asg rfl (et rfl)) ?_
                refine W_end ?_
                refine kq _ ?_
                refine AX_cast (l2 := #[true, true, true, true, true, true, true, false]) ?_ (by kernel_rfl)
                refine AX_1 (i := 7) (by kernel_rfl) rfl ?_
                refine W_v rfl rfl (V_asg rfl rfl) ?_
                refine W_end ?_
                refine kq _ ?_
                refine AX_cast (l2 := #[true, true, true, true, true, true, true, true]) ?_ (by kernel_rfl)
                refine AX_end (by kernel_rfl) ?_
                refine gen_Q (fun A89 hA89 => ?_)
                have hsz89 : SzN A89 40 := by rw [hA89]; infer_instance
                have hdf89 : A89.defers = [] := by rw [hA89]; simp only [df_put]; exact hdf45
                have l2_89 := lookE hA89 2 (es rfl (es rfl (es rfl (es rfl (es rfl (es rfl (es rfl l2_45)))))))
                have l3_89 := lookE hA89 3 (es rfl (et rfl))
                have l4_89 := lookE hA89 4 (et rfl)
                clear hA89 hsz45 hdf45 l1_45 l2_45 l8_45
                refine then_n (hK46 _ _ ?_)
                clear hK46
                refine wp_ret ?_
                refine ret_in (results_3 Tryd.results25 (rv_cellA l2_89 b4 Tryd.underlying24 rfl (by kernel_rfl)) (rv_tmp l3_89) (rv_tmp l4_89)) hdf89 ?_
                -- leaf TF
                have hs : takeS lo yo = ⟨((lo.drop 1).take (lo.length - 1)), yo, y83, 0⟩ := takeS_ok c14 (by assumption)
                rw [hs]
                exact ⟨_, _, rfl, f41.fre, f2_29.fre, hE88⟩
            · skip
              refine W_stA rfl rfl rfl (es rfl (es rfl (es rfl l2_45))) (et rfl) (by simp only [List.all_toArray, List.all_cons, List.all_nil, one_ints f41.ints, one_ints f2_29.ints] <;> rfl) b4 (by rfl) (by kernel_rfl) (fun w90 ht90 hb90 => ?_)
              have hE91 := ext_tch hE48 ht90 oB_4
              replace f2_29 := f2_29.tch ht90 b4 rfl
              replace f41 := f41.tch ht90 b4 rfl
              replace b2 := box_tch b2 ht90 (Nat.ne_of_lt o2_4)
              replace b32 := box_tch b32 ht90 (Nat.ne_of_gt o4_32)
              replace b4 := hb90
              refine W_end ?_
              refine kq _ ?_
              refine AX_cast (l2 := #[true, true, true, false, false, true, false, false]) ?_ (by kernel_rfl)
              refine AX_1 (i := 3) (by kernel_rfl) rfl ?_
              have k92 : 0 < lo.length := by omega
              obtain ⟨B92, O92, C92, y92, hv92, hy92, hc92⟩ := at_ints h_lv (0) k92
              refine W_v rfl rfl (V_idx (0) rfl (es rfl (et rfl)) rfl hv92 (by omega) k92 Tryd.underlying22 (by kernel_rfl)) ?_
              refine W_end ?_
              refine kq _ ?_
              refine AX_cast (l2 := #[true, true, true, true, false, true, false, false]) ?_ (by kernel_rfl)
              refine AX_1 (i := 4) (by kernel_rfl) rfl ?_
              refine W_r rfl rfl (VR_ldC rfl (et rfl) (cell_ext hE91 hc92) Tryd.underlying3 rfl) ?_
              refine W_end ?_
              refine kq _ ?_
              refine AX_cast (l2 := #[true, true, true, true, true, true, false, false]) ?_ (by kernel_rfl)
              refine AX_1 (i := 6) (by kernel_rfl) rfl ?_
              refine W_v rfl rfl (V_asg rfl (et rfl)) ?_
              refine W_end ?_
              refine kq _ ?_
              refine AX_cast (l2 := #[true, true, true, true, true, true, true, false]) ?_ (by kernel_rfl)
              refine AX_1 (i := 7) (by kernel_rfl) rfl ?_
              refine W_v rfl rfl (V_asg rfl rfl) ?_
              refine W_end ?_
              refine kq _ ?_
              refine AX_cast (l2 := #[true, true, true, true, true, true, true, true]) ?_ (by kernel_rfl)
              refine AX_end (by kernel_rfl) ?_
              refine gen_Q (fun A93 hA93 => ?_)
              have hsz93 : SzN A93 40 := by rw [hA93]; infer_instance
              have hdf93 : A93.defers = [] := by rw [hA93]; simp only [df_put]; exact hdf45
              have l2_93 := lookE hA93 2 (es rfl (es rfl (es rfl (es rfl (es rfl (es rfl (es rfl l2_45)))))))
              have l3_93 := lookE hA93 3 (es rfl (et rfl))
              have l4_93 := lookE hA93 4 (et rfl)
              clear hA93 hsz45 hdf45 l1_45 l2_45 l8_45
              refine then_n (hK46 _ _ ?_)
              clear hK46
              refine wp_ret ?_
              refine ret_in (results_3 Tryd.results25 (rv_cellA l2_93 b4 Tryd.underlying24 rfl (by kernel_rfl)) (rv_tmp l3_93) (rv_tmp l4_93)) hdf93 ?_
              -- leaf TF
              have hs : takeS lo yo = ⟨((lo.drop 1).take (lo.length - 1)), yo, y92, 0⟩ := takeS_ok c14 (by assumption)
              rw [hs]
              exact ⟨_, _, rfl, f41.fre, f2_29.fre, hE91⟩
          · skip
            have k94 : 0 < lo.length := by omega
            obtain ⟨B94, O94, C94, y94, hv94, hy94, hc94⟩ := at_ints h_lv (0) k94
            refine W_v rfl rfl (V_idx (0) rfl (et rfl) rfl hv94 (by omega) k94 Tryd.underlying22 (by kernel_rfl)) ?_
            refine W_end ?_
            refine kq _ ?_
            refine AX_cast (l2 := #[false, true, true, true, false, false, false, false]) ?_ (by kernel_rfl)
            refine AX_2 (i := 0) (j := 4) (by kernel_rfl) rfl rfl ?_ ?_
            · skip
              refine W_r rfl rfl (VR_ldA rfl (es rfl (es rfl (es rfl l8_45))) b32 Tryd.underlying24 rfl (by kernel_rfl)) ?_
              refine W_end ?_
              refine kq _ ?_
              refine AX_cast (l2 := #[true, true, true, true, false, false, false, false]) ?_ (by kernel_rfl)
              refine AX_2 (i := 4) (j := 5) (by kernel_rfl) rfl rfl ?_ ?_
              · skip
                refine W_r rfl rfl (VR_ldC rfl (es rfl (et rfl)) (cell_ext hE48 hc94) Tryd.underlying3 rfl) ?_
                refine W_end ?_
                refine kq _ ?_
                refine AX_cast (l2 := #[true, true, true, true, true, false, false, false]) ?_ (by kernel_rfl)
                refine AX_1 (i := 5) (by kernel_rfl) rfl ?_
                refine W_stA rfl rfl rfl (es rfl (es rfl (es rfl (es rfl (es rfl l2_45))))) (es rfl (et rfl)) (by simp only [List.all_toArray, List.all_cons, List.all_nil, one_ints f41.ints, one_ints f2_29.ints] <;> rfl) b4 (by rfl) (by kernel_rfl) (fun w95 ht95 hb95 => ?_)
                have hE96 := ext_tch hE48 ht95 oB_4
                replace f2_29 := f2_29.tch ht95 b4 rfl
                replace f41 := f41.tch ht95 b4 rfl
                replace b2 := box_tch b2 ht95 (Nat.ne_of_lt o2_4)
                replace b32 := box_tch b32 ht95 (Nat.ne_of_gt o4_32)
                replace b4 := hb95
                refine W_end ?_
                refine kq _ ?_
                refine AX_cast (l2 := #[true, true, true, true, true, true, false, false]) ?_ (by kernel_rfl)
                refine AX_1 (i := 6) (by kernel_rfl) rfl ?_
                refine W_v rfl rfl (V_asg rfl (et rfl)) ?_
                refine W_end ?_
                refine kq _ ?_
                refine AX_cast (l2 := #[true, true, true, true, true, true, true, false]) ?_ (by kernel_rfl)
                refine AX_1 (i := 7) (by kernel_rfl) rfl ?_
                refine W_v rfl rfl (V_asg rfl rfl) ?_
                refine W_end ?_
                refine kq _ ?_
                refine AX_cast (l2 := #[true, true, true, true, true, true, true, true]) ?_ (by kernel_rfl)
                refine AX_end (by kernel_rfl) ?_
                refine gen_Q (fun A97 hA97 => ?_)
                have hsz97 : SzN A97 40 := by rw [hA97]; infer_instance
                have hdf97 : A97.defers = [] := by rw [hA97]; simp only [df_put]; exact hdf45
                have l2_97 := lookE hA97 2 (es rfl (es rfl (es rfl (es rfl (es rfl (es rfl (es rfl l2_45)))))))
                have l3_97 := lookE hA97 3 (es rfl (et rfl))
                have l4_97 := lookE hA97 4 (et rfl)
                clear hA97 hsz45 hdf45 l1_45 l2_45 l8_45
                refine then_n (hK46 _ _ ?_)
                clear hK46
                refine wp_ret ?_
                refine ret_in (results_3 Tryd.results25 (rv_cellA l2_97 b4 Tryd.underlying24 rfl (by kernel_rfl)) (rv_tmp l3_97) (rv_tmp l4_97)) hdf97 ?_
                -- leaf TF
                have hs : takeS lo yo = ⟨((lo.drop 1).take (lo.length - 1)), yo, y94, 0⟩ := takeS_ok c14 (by assumption)
                rw [hs]
                exact ⟨_, _, rfl, f41.fre, f2_29.fre, hE96⟩
              · skip
                refine W_stA rfl rfl rfl (es rfl (es rfl (es rfl (es rfl l2_45)))) (et rfl) (by simp only [List.all_toArray, List.all_cons, List.all_nil, one_ints f41.ints, one_ints f2_29.ints] <;> rfl) b4 (by rfl) (by kernel_rfl) (fun w98 ht98 hb98 => ?_)
                have hE99 := ext_tch hE48 ht98 oB_4
                replace f2_29 := f2_29.tch ht98 b4 rfl
                replace f41 := f41.tch ht98 b4 rfl
                replace b2 := box_tch b2 ht98 (Nat.ne_of_lt o2_4)
                replace b32 := box_tch b32 ht98 (Nat.ne_of_gt o4_32)
                replace b4 := hb98
                refine W_end ?_
                refine kq _ ?_
                refine AX_cast (l2 := #[true, true, true, true, false, true, false, false]) ?_ (by kernel_rfl)
                refine AX_1 (i := 4) (by kernel_rfl) rfl ?_
                refine W_r rfl rfl (VR_ldC rfl (es rfl (et rfl)) (cell_ext hE99 hc94) Tryd.underlying3 rfl) ?_
                refine W_end ?_
                refine kq _ ?_
                refine AX_cast (l2 := #[true, true, true, true, true, true, false, false]) ?_ (by kernel_rfl)
                refine AX_1 (i := 6) (by kernel_rfl) rfl ?_
                refine W_v rfl rfl (V_asg rfl (et rfl)) ?_
                refine W_end ?_
                refine kq _ ?_
                refine AX_cast (l2 := #[true, true, true, true, true, true, true, false]) ?_ (by kernel_rfl)
                refine AX_1 (i := 7) (by kernel_rfl) rfl ?_
                refine W_v rfl rfl (V_asg rfl rfl) ?_
                refine W_end ?_
                refine kq _ ?_
                refine AX_cast (l2 := #[true, true, true, true, true, true, true, true]) ?_ (by kernel_rfl)
                refine AX_end (by kernel_rfl) ?_
                refine gen_Q (fun A100 hA100 => ?_)
                have hsz100 : SzN A100 40 := by rw [hA100]; infer_instance
                have hdf100 : A100.defers = [] := by rw [hA100]; simp only [df_put]; exact hdf45
                have l2_100 := lookE hA100 2 (es rfl (es rfl (es rfl (es rfl (es rfl (es rfl (es rfl l2_45)))))))
                have l3_100 := lookE hA100 3 (es rfl (et rfl))
                have l4_100 := lookE hA100 4 (et rfl)
                clear hA100 hsz45 hdf45 l1_45 l2_45 l8_45
                refine then_n (hK46 _ _ ?_)
                clear hK46
                refine wp_ret ?_
                refine ret_in (results_3 Tryd.results25 (rv_cellA l2_100 b4 Tryd.underlying24 rfl (by kernel_rfl)) (rv_tmp l3_100) (rv_tmp l4_100)) hdf100 ?_
                -- leaf TF
                have hs : takeS lo yo = ⟨((lo.drop 1).take (lo.length - 1)), yo, y94, 0⟩ := takeS_ok c14 (by assumption)
                rw [hs]
                exact ⟨_, _, rfl, f41.fre, f2_29.fre, hE99⟩
            · skip
              refine W_r rfl rfl (VR_ldC rfl (et rfl) (cell_ext hE48 hc94) Tryd.underlying3 rfl) ?_
              refine W_end ?_
              refine kq _ ?_
              refine AX_cast (l2 := #[false, true, true, true, true, false, false, false]) ?_ (by kernel_rfl)
              refine AX_1 (i := 0) (by kernel_rfl) rfl ?_
              refine W_r rfl rfl (VR_ldA rfl (es rfl (es rfl (es rfl (es rfl l8_45)))) b32 Tryd.underlying24 rfl (by kernel_rfl)) ?_
              refine W_end ?_
              refine kq _ ?_
              refine AX_cast (l2 := #[true, true, true, true, true, false, false, false]) ?_ (by kernel_rfl)
              refine AX_1 (i := 5) (by kernel_rfl) rfl ?_
              refine W_stA rfl rfl rfl (es rfl (es rfl (es rfl (es rfl (es rfl l2_45))))) (et rfl) (by simp only [List.all_toArray, List.all_cons, List.all_nil, one_ints f41.ints, one_ints f2_29.ints] <;> rfl) b4 (by rfl) (by kernel_rfl) (fun w101 ht101 hb101 => ?_)
              have hE102 := ext_tch hE48 ht101 oB_4
              replace f2_29 := f2_29.tch ht101 b4 rfl
              replace f41 := f41.tch ht101 b4 rfl
              replace b2 := box_tch b2 ht101 (Nat.ne_of_lt o2_4)
              replace b32 := box_tch b32 ht101 (Nat.ne_of_gt o4_32)
              replace b4 := hb101
              refine W_end ?_
              refine kq _ ?_
              refine AX_cast (l2 := #[true, true, true, true, true, true, false, false]) ?_ (by kernel_rfl)
              refine AX_1 (i := 6) (by kernel_rfl) rfl ?_
              refine W_v rfl rfl (V_asg rfl (es rfl (et rfl))) ?_
              refine W_end ?_
              refine kq _ ?_
              refine AX_cast (l2 := #[true, true, true, true, true, true, true, false]) ?_ (by kernel_rfl)
              refine AX_1 (i := 7) (by kernel_rfl) rfl ?_
              refine W_v rfl rfl (V_asg rfl rfl) ?_
              refine W_end ?_
              refine kq _ ?_
              refine AX_cast (l2 := #[true, true, true, true, true, true, true, true]) ?_ (by kernel_rfl)
              refine AX_end (by kernel_rfl) ?_
              refine gen_Q (fun A103 hA103 => ?_)
              have hsz103 : SzN A103 40 := by rw [hA103]; infer_instance
              have hdf103 : A103.defers = [] := by rw [hA103]; simp only [df_put]; exact hdf45
              have l2_103 := lookE hA103 2 (es rfl (es rfl (es rfl (es rfl (es rfl (es rfl (es rfl l2_45)))))))
              have l3_103 := lookE hA103 3 (es rfl (et rfl))
              have l4_103 := lookE hA103 4 (et rfl)
              clear hA103 hsz45 hdf45 l1_45 l2_45 l8_45
              refine then_n (hK46 _ _ ?_)
              clear hK46
              refine wp_ret ?_
              refine ret_in (results_3 Tryd.results25 (rv_cellA l2_103 b4 Tryd.underlying24 rfl (by kernel_rfl)) (rv_tmp l3_103) (rv_tmp l4_103)) hdf103 ?_
              -- leaf TF
              have hs : takeS lo yo = ⟨((lo.drop 1).take (lo.length - 1)), yo, y94, 0⟩ := takeS_ok c14 (by assumption)
              rw [hs]
              exact ⟨_, _, rfl, f41.fre, f2_29.fre, hE102⟩
  · skip
    refine W_off rfl (wanted_f rfl rfl (et rfl) (ez rfl) rfl) ?_
    refine W_off rfl (wanted_f rfl rfl (es rfl (et rfl)) (ez rfl) rfl) ?_
    refine W_off rfl (wanted_f rfl rfl (es rfl (es rfl (et rfl))) (ez rfl) rfl) ?_
    refine W_off rfl (wanted_f rfl rfl (es rfl (es rfl (es rfl (et rfl)))) (ez rfl) rfl) ?_
    refine W_v rfl rfl (V_pickF rfl (es rfl (es rfl (es rfl (es rfl (et rfl))))) rfl) ?_
    refine W_end ?_
    refine gen_Q (fun A104 hA104 => ?_)
    have hsz104 : SzN A104 40 := by rw [hA104]; infer_instance
    have hdf104 : A104.defers = [] := by rw [hA104]; simp only [df_put]; exact hdf11
    have l1_104 := lookE hA104 1 (es rfl (es rfl (es rfl (es rfl (es rfl (es rfl (es rfl (es rfl l1_11))))))))
    have l2_104 := lookE hA104 2 (es rfl (es rfl (es rfl (es rfl (es rfl (es rfl (es rfl (es rfl l2_11))))))))
    have l7_104 := lookE hA104 7 (es rfl (es rfl (es rfl (es rfl (es rfl (es rfl (es rfl (es rfl l7_11))))))))
    have l22_104 := lookE hA104 22 (et rfl)
    clear hA104 hsz11 hdf11 l1_11 l2_11 l7_11
    refine then_n (hK13 _ _ ?_)
    clear hK13
    refine cond_f l22_104 ?_
    refine wp_skip ?_
    refine then_n (hK12 _ _ ?_)
    clear hK12
    refine wp_seq_k (fun K105 hK105 => ?_)
    refine wp_seq_k (fun K106 hK106 => ?_)
    -- region 4
    refine region_in ?_
    refine W_v rfl rfl (V_mov rfl l7_104) ?_
    refine W_v rfl rfl (V_neq rfl (et rfl) rfl) ?_
    refine W_end ?_
    refine gen_Q (fun A107 hA107 => ?_)
    have hsz107 : SzN A107 40 := by rw [hA107]; infer_instance
    have hdf107 : A107.defers = [] := by rw [hA107]; simp only [df_put]; exact hdf104
    have l1_107 := lookE hA107 1 (es rfl (es rfl l1_104))
    have l2_107 := lookE hA107 2 (es rfl (es rfl l2_104))
    have l7_107 := lookE hA107 7 (es rfl (es rfl l7_104))
    have l24_107 := lookE hA107 24 (et rfl)
    clear hA107 hsz104 hdf104 l1_104 l2_104 l7_104 l22_104
    refine then_n (hK106 _ _ ?_)
    clear hK106
    refine cond_sure l24_107 (by simp [c14]) ?_
    refine wp_seq_k (fun K108 hK108 => ?_)
    -- region 5
    refine region_in ?_
    refine W_v rfl rfl (V_bldS (n := 2) (z := .agg #[.slice none 0 0, .slice none 0 0]) rfl (parts0) (by kernel_rfl) (by simp only [List.all_cons, List.all_nil, Bool.and_true] <;> rfl) (by kernel_rfl) (by simp only [List.foldl_cons, List.foldl_nil, Value.cells, List.setIfInBounds_toArray, List.set_cons_succ, List.set_cons_zero] <;> rfl)) ?_
    refine W_v rfl rfl (V_mov rfl (es rfl l7_107)) ?_
    refine W_stA rfl rfl rfl (es rfl (es rfl l2_107)) (es rfl (et rfl)) (by simp only [List.all_toArray, List.all_cons, List.all_nil] <;> rfl) b4 (by rfl) (by kernel_rfl) (fun w109 ht109 hb109 => ?_)
    have hE110 := ext_tch hE10 ht109 oB_4
    replace b2 := box_tch b2 ht109 (Nat.ne_of_lt o2_4)
    replace b4 := hb109
    refine W_v rfl rfl (V_asg rfl rfl) ?_
    refine W_v rfl rfl (V_asg rfl (es rfl (et rfl))) ?_
    refine W_end ?_
    refine gen_Q (fun A111 hA111 => ?_)
    have hsz111 : SzN A111 40 := by rw [hA111]; infer_instance
    have hdf111 : A111.defers = [] := by rw [hA111]; simp only [df_put]; exact hdf107
    have l2_111 := lookE hA111 2 (es rfl (es rfl (es rfl (es rfl l2_107))))
    have l3_111 := lookE hA111 3 (es rfl (et rfl))
    have l4_111 := lookE hA111 4 (et rfl)
    clear hA111 hsz107 hdf107 l1_107 l2_107 l7_107 l24_107
    refine then_n (hK108 _ _ ?_)
    clear hK108
    refine wp_ret ?_
    refine then_ret ?_
    refine ret_in (results_3 Tryd.results25 (rv_cellA l2_111 b4 Tryd.underlying24 rfl (by kernel_rfl)) (rv_tmp l3_111) (rv_tmp l4_111)) hdf111 ?_
    -- leaf F
    have hs : takeS lo yo = ⟨[], [], 0, (chk lo yo).2.2⟩ := takeS_err c14
    rw [hs]
    exact ⟨_, _, rfl, FreI.nil _ _ _, FreI.nil _ _ _, hE110⟩

set_option maxHeartbeats 4000000 in
theorem rFirst_c {lv : Value} {lo : List Int} {yv : Value} {yo : List Int} {w : World} (h_lv : Ints w lv lo) (h_yv : Ints w yv yo) (h1 : lo.length ≤ 1000) (h2 : yo.length ≤ 1000) :
    Calls Tryd.prog 28 #[.agg #[lv, yv]] w fun e w' => e = .returned (.tuple #[.int .i64 (takeS lo yo).car, .int .i64 (takeS lo yo).e]) ∧ Ext w w' := by
  refine calls_in 15 Tryd.func28 rfl rfl (by simp) (fun A0 hsz0 hdf0 hargs => ?_)
  have l0_0 := hargs 0 (.agg #[lv, yv]) rfl
  clear hargs; replace hsz0 : SzN A0 15 := ⟨hsz0⟩
  have hE0 := Ext.rfl' w
  refine wp_seq_k (fun K1 hK1 => ?_)
  -- region 0
  refine region_in ?_
  refine W_box (cs := #[lv, yv]) rfl rfl rfl l0_0 rfl (fun g2 w2 hg2 hx2 b2 => ?_)
  have oB_2 : w.heap.size ≤ g2 := hg2 ▸ hE0.size
  have hE3 := Ext.tr hE0 hx2
  refine W_v rfl rfl (V_asg rfl rfl) ?_
  refine W_v rfl rfl (V_asg rfl rfl) ?_
  refine W_end ?_
  refine gen_Q (fun A4 hA4 => ?_)
  have hsz4 : SzN A4 15 := by rw [hA4]; infer_instance
  have hdf4 : A4.defers = [] := by rw [hA4]; simp only [df_put]; exact hdf0
  have l1_4 := lookE hA4 1 (es rfl (es rfl (et rfl)))
  clear hA4 hsz0 hdf0 l0_0
  refine then_n (hK1 _ _ ?_)
  clear hK1
  refine wp_seq_k (fun K5 hK5 => ?_)
  -- region 1
  refine region_in ?_
  refine W_r rfl rfl (VR_ldA rfl l1_4 b2 Tryd.underlying24 rfl (by kernel_rfl)) ?_
  refine W_call rfl rfl rfl Tryd.func25 (by kernel_rfl) rfl (args1 (et rfl)) (rTake_c (h_lv.ext hE3) (h_yv.ext hE3) (by first | omega | (simp; done) | (simp; omega)) (by first | omega | (simp; done) | (simp; omega))) ?_
  rintro _ w6 ⟨v1_6, v2_6, rfl, f1_6, f2_6, hx6⟩
  refine ⟨_, rfl, ?_⟩
  have hb7 := hE3.size
  have hE8 := Ext.tr hE3 hx6
  replace b2 := heap_ext hx6 b2
  have ul_f1_6 := fre_lo f1_6
  replace f1_6 := f1_6.base hb7
  have ul_f2_6 := fre_lo f2_6
  replace f2_6 := f2_6.base hb7
  refine W_v rfl rfl (V_mov rfl (et rfl)) ?_
  refine W_v rfl rfl (V_ext rfl (et rfl) rfl) ?_
  refine W_v rfl rfl (V_ext rfl (es rfl (et rfl)) rfl) ?_
  refine W_v rfl rfl (V_ext rfl (es rfl (es rfl (et rfl))) rfl) ?_
  refine W_alloc (z := .agg #[.slice none 0 0, .slice none 0 0]) (cs := #[.slice none 0 0, .slice none 0 0]) rfl rfl rfl (by kernel_rfl) rfl (fun g9 w9 hg9 hx9 b9 => ?_)
  have o2_9 : g2 < g9 := hg9 ▸ lt_size b2
  have oB_9 : w.heap.size ≤ g9 := hg9 ▸ hE8.size
  have hE10 := Ext.tr hE8 hx9
  replace b2 := heap_ext hx9 b2
  replace f1_6 := f1_6.ext hx9
  replace f2_6 := f2_6.ext hx9
  refine W_stA rfl rfl rfl (et rfl) (es rfl (es rfl (es rfl (et rfl)))) (by simp only [List.all_toArray, List.all_cons, List.all_nil, one_ints f1_6.1, one_ints f2_6.1] <;> rfl) b9 (by rfl) (by kernel_rfl) (fun w11 ht11 hb11 => ?_)
  have hE12 := ext_tch hE10 ht11 oB_9
  replace f1_6 := f1_6.tch ht11 b9 rfl
  replace f2_6 := f2_6.tch ht11 b9 rfl
  replace b2 := box_tch b2 ht11 (Nat.ne_of_lt o2_9)
  replace b9 := hb11
  refine W_v rfl rfl (V_asg rfl (es rfl (es rfl (et rfl)))) ?_
  refine W_v rfl rfl (V_asg rfl (es rfl (es rfl (et rfl)))) ?_
  refine W_end ?_
  refine gen_Q (fun A13 hA13 => ?_)
  have hsz13 : SzN A13 15 := by rw [hA13]; infer_instance
  have hdf13 : A13.defers = [] := by rw [hA13]; simp only [df_put]; exact hdf4
  have l5_13 := lookE hA13 5 (es rfl (et rfl))
  have l6_13 := lookE hA13 6 (et rfl)
  clear hA13 hsz4 hdf4 l1_4
  refine then_n (hK5 _ _ ?_)
  clear hK5
  refine wp_seq_k (fun K14 hK14 => ?_)
  -- region 2
  refine region_in ?_
  refine W_v rfl rfl (V_mov rfl l5_13) ?_
  refine W_v rfl rfl (V_mov rfl (es rfl l6_13)) ?_
  refine W_v rfl rfl (V_asg rfl (es rfl (et rfl))) ?_
  refine W_v rfl rfl (V_asg rfl (es rfl (et rfl))) ?_
  refine W_end ?_
  refine gen_Q (fun A15 hA15 => ?_)
  have hsz15 : SzN A15 15 := by rw [hA15]; infer_instance
  have hdf15 : A15.defers = [] := by rw [hA15]; simp only [df_put]; exact hdf13
  have l2_15 := lookE hA15 2 (es rfl (et rfl))
  have l3_15 := lookE hA15 3 (et rfl)
  clear hA15 hsz13 hdf13 l5_13 l6_13
  refine then_n (hK14 _ _ ?_)
  clear hK14
  refine wp_ret ?_
  refine ret_in (results_2 Tryd.results28 (rv_tmp l2_15) (rv_tmp l3_15)) hdf15 ?_
  -- leaf 
  exact ⟨rfl, hE12⟩

set_option maxHeartbeats 4000000 in
theorem rTurn_c {lv : Value} {lo : List Int} {yv : Value} {yo : List Int} {w : World} (h_lv : Ints w lv lo) (h_yv : Ints w yv yo) (h1 : lo.length ≤ 1000) (h2 : yo.length ≤ 1000) :
    Calls Tryd.prog 30 #[.agg #[lv, yv]] w fun e w' => ∃ v1 v2, e = .returned (.tuple #[.agg #[v1, v2], .int .i64 (turnS lo yo).e]) ∧ FreI w' w.heap.size 3 (v1) ((turnS lo yo).lo) ∧ FreI w' w.heap.size 3 (v2) ((turnS lo yo).yo) ∧ Ext w w' := by
  refine calls_in 30 Tryd.func30 rfl rfl (by simp) (fun A0 hsz0 hdf0 hargs => ?_)
  have l0_0 := hargs 0 (.agg #[lv, yv]) rfl
  clear hargs; replace hsz0 : SzN A0 30 := ⟨hsz0⟩
  have hE0 := Ext.rfl' w
  refine wp_seq_k (fun K1 hK1 => ?_)
  -- region 0
  refine region_in ?_
  refine W_box (cs := #[lv, yv]) rfl rfl rfl l0_0 rfl (fun g2 w2 hg2 hx2 b2 => ?_)
  have oB_2 : w.heap.size ≤ g2 := hg2 ▸ hE0.size
  have hE3 := Ext.tr hE0 hx2
  refine W_alloc (z := .agg #[.slice none 0 0, .slice none 0 0]) (cs := #[.slice none 0 0, .slice none 0 0]) rfl rfl rfl (by kernel_rfl) rfl (fun g4 w4 hg4 hx4 b4 => ?_)
  have o2_4 : g2 < g4 := hg4 ▸ lt_size b2
  have oB_4 : w.heap.size ≤ g4 := hg4 ▸ hE3.size
  have hE5 := Ext.tr hE3 hx4
  replace b2 := heap_ext hx4 b2
  refine W_v rfl rfl (V_asg rfl rfl) ?_
  refine W_end ?_
  refine gen_Q (fun A6 hA6 => ?_)
  have hsz6 : SzN A6 30 := by rw [hA6]; infer_instance
  have hdf6 : A6.defers = [] := by rw [hA6]; simp only [df_put]; exact hdf0
  have l1_6 := lookE hA6 1 (es rfl (es rfl (et rfl)))
  have l2_6 := lookE hA6 2 (es rfl (et rfl))
  clear hA6 hsz0 hdf0 l0_0
  refine then_n (hK1 _ _ ?_)
  clear hK1
  refine wp_seq_k (fun K7 hK7 => ?_)
  -- region 1
  refine region_in ?_
  refine W_r rfl rfl (VR_ldA rfl l1_6 b2 Tryd.underlying24 rfl (by kernel_rfl)) ?_
  refine W_call rfl rfl rfl Tryd.func43 (by kernel_rfl) rfl (args1 (et rfl)) (rCheck_c (h_lv.ext hE5) (h_yv.ext hE5) ) ?_
  rintro _ w8 ⟨rfl, hx8⟩
  refine ⟨_, rfl, ?_⟩
  have hb9 := hE5.size
  have hE10 := Ext.tr hE5 hx8
  replace b2 := heap_ext hx8 b2
  replace b4 := heap_ext hx8 b4
  refine W_v rfl rfl (V_mov rfl (et rfl)) ?_
  refine W_v rfl rfl (V_ext rfl (et rfl) rfl) ?_
  refine W_v rfl rfl (V_ext rfl (es rfl (et rfl)) rfl) ?_
  refine W_v rfl rfl (V_ext rfl (es rfl (es rfl (et rfl))) rfl) ?_
  refine W_v rfl rfl (V_asg rfl (es rfl (es rfl (et rfl)))) ?_
  refine W_v rfl rfl (V_asg rfl (es rfl (es rfl (et rfl)))) ?_
  refine W_v rfl rfl (V_asg rfl (es rfl (es rfl (et rfl)))) ?_
  refine W_end ?_
  refine gen_Q (fun A11 hA11 => ?_)
  have hsz11 : SzN A11 30 := by rw [hA11]; infer_instance
  have hdf11 : A11.defers = [] := by rw [hA11]; simp only [df_put]; exact hdf6
  have l1_11 := lookE hA11 1 (es rfl (es rfl (es rfl (es rfl (es rfl (es rfl (es rfl (es rfl (es rfl l1_6)))))))))
  have l2_11 := lookE hA11 2 (es rfl (es rfl (es rfl (es rfl (es rfl (es rfl (es rfl (es rfl (es rfl l2_6)))))))))
  have l6_11 := lookE hA11 6 (et rfl)
  clear hA11 hsz6 hdf6 l1_6 l2_6
  refine then_n (hK7 _ _ ?_)
  clear hK7
  refine wp_seq_k (fun K12 hK12 => ?_)
  refine wp_seq_k (fun K13 hK13 => ?_)
  -- region 2
  refine region_in ?_
  refine W_v rfl rfl (V_mov rfl l6_11) ?_
  refine W_v rfl rfl (V_eql rfl (et rfl) rfl) ?_
  refine W_split rfl rfl (V_mov rfl (et rfl)) (fun c14 => ?_) (fun c14 => ?_)
  · skip
    refine W_v rfl (wanted_t rfl rfl (et rfl) (ez rfl)) (V_fa (off' := 0) rfl (es rfl (es rfl (es rfl l1_11))) Tryd.underlying24 rfl (by decide) rfl) ?_
    refine W_r rfl (wanted_t rfl rfl (es rfl (et rfl)) (ez rfl)) (VR_ldC rfl (et rfl) (cell_box (v := lv) b2 rfl) Tryd.underlying22 rfl) ?_
    refine W_v rfl (wanted_t rfl rfl (es rfl (es rfl (et rfl))) (ez rfl)) (V_lenI rfl (et rfl) h_lv Tryd.underlying22) ?_
    refine W_v rfl (wanted_t rfl rfl (es rfl (es rfl (es rfl (et rfl)))) (ez rfl)) (V_gtr rfl (et rfl) rfl) ?_
    refine W_v rfl rfl (V_pickT rfl (es rfl (es rfl (es rfl (es rfl (et rfl))))) (et rfl)) ?_
    refine W_end ?_
    refine gen_Q (fun A15 hA15 => ?_)
    have hsz15 : SzN A15 30 := by rw [hA15]; infer_instance
    have hdf15 : A15.defers = [] := by rw [hA15]; simp only [df_put]; exact hdf11
    have l1_15 := lookE hA15 1 (es rfl (es rfl (es rfl (es rfl (es rfl (es rfl (es rfl (es rfl l1_11))))))))
    have l2_15 := lookE hA15 2 (es rfl (es rfl (es rfl (es rfl (es rfl (es rfl (es rfl (es rfl l2_11))))))))
    have l6_15 := lookE hA15 6 (es rfl (es rfl (es rfl (es rfl (es rfl (es rfl (es rfl (es rfl l6_11))))))))
    have l20_15 := lookE hA15 20 (et rfl)
    clear hA15 hsz11 hdf11 l1_11 l2_11 l6_11
    refine then_n (hK13 _ _ ?_)
    clear hK13
    refine cond_dec l20_15 (fun c16 => ?_) (fun c16 => ?_)
    · skip
      -- region 3
      refine region_in ?_
      refine W_v rfl rfl (V_asg rfl rfl) ?_
      refine W_end ?_
      refine gen_Q (fun A17 hA17 => ?_)
      have hsz17 : SzN A17 30 := by rw [hA17]; infer_instance
      have hdf17 : A17.defers = [] := by rw [hA17]; simp only [df_put]; exact hdf15
      have l1_17 := lookE hA17 1 (es rfl l1_15)
      have l2_17 := lookE hA17 2 (es rfl l2_15)
      have l6_17 := lookE hA17 6 (et rfl)
      clear hA17 hsz15 hdf15 l1_15 l2_15 l6_15 l20_15
      refine then_n (hK12 _ _ ?_)
      clear hK12
      refine wp_seq_k (fun K18 hK18 => ?_)
      refine wp_seq_k (fun K19 hK19 => ?_)
      -- region 4
      refine region_in ?_
      refine W_v rfl rfl (V_mov rfl l6_17) ?_
      refine W_v rfl rfl (V_neq rfl (et rfl) rfl) ?_
      refine W_end ?_
      refine gen_Q (fun A20 hA20 => ?_)
      have hsz20 : SzN A20 30 := by rw [hA20]; infer_instance
      have hdf20 : A20.defers = [] := by rw [hA20]; simp only [df_put]; exact hdf17
      have l1_20 := lookE hA20 1 (es rfl (es rfl l1_17))
      have l2_20 := lookE hA20 2 (es rfl (es rfl l2_17))
      have l6_20 := lookE hA20 6 (es rfl (es rfl l6_17))
      have l22_20 := lookE hA20 22 (et rfl)
      clear hA20 hsz17 hdf17 l1_17 l2_17 l6_17
      refine then_n (hK19 _ _ ?_)
      clear hK19
      refine cond_sure l22_20 (by decide) ?_
      refine wp_seq_k (fun K21 hK21 => ?_)
      -- region 5
      refine region_in ?_
      refine W_v rfl rfl (V_bldS (n := 2) (z := .agg #[.slice none 0 0, .slice none 0 0]) rfl (parts0) (by kernel_rfl) (by simp only [List.all_cons, List.all_nil, Bool.and_true] <;> rfl) (by kernel_rfl) (by simp only [List.foldl_cons, List.foldl_nil, Value.cells, List.setIfInBounds_toArray, List.set_cons_succ, List.set_cons_zero] <;> rfl)) ?_
      refine W_v rfl rfl (V_mov rfl (es rfl l6_20)) ?_
      refine W_stA rfl rfl rfl (es rfl (es rfl l2_20)) (es rfl (et rfl)) (by simp only [List.all_toArray, List.all_cons, List.all_nil] <;> rfl) b4 (by rfl) (by kernel_rfl) (fun w22 ht22 hb22 => ?_)
      have hE23 := ext_tch hE10 ht22 oB_4
      replace b2 := box_tch b2 ht22 (Nat.ne_of_lt o2_4)
      replace b4 := hb22
      refine W_v rfl rfl (V_asg rfl (et rfl)) ?_
      refine W_end ?_
      refine gen_Q (fun A24 hA24 => ?_)
      have hsz24 : SzN A24 30 := by rw [hA24]; infer_instance
      have hdf24 : A24.defers = [] := by rw [hA24]; simp only [df_put]; exact hdf20
      have l2_24 := lookE hA24 2 (es rfl (es rfl (es rfl l2_20)))
      have l3_24 := lookE hA24 3 (et rfl)
      clear hA24 hsz20 hdf20 l1_20 l2_20 l6_20 l22_20
      refine then_n (hK21 _ _ ?_)
      clear hK21
      refine wp_ret ?_
      refine then_ret ?_
      refine ret_in (results_2 Tryd.results30 (rv_cellA l2_24 b4 Tryd.underlying24 rfl (by kernel_rfl)) (rv_tmp l3_24)) hdf24 ?_
      -- leaf TT
      have hs : turnS lo yo = ⟨[], [], 0, 9⟩ := turnS_down c14 c16
      rw [hs]
      exact ⟨_, _, rfl, FreI.nil _ _ _, FreI.nil _ _ _, hE23⟩
    · skip
      refine wp_skip ?_
      refine then_n (hK12 _ _ ?_)
      clear hK12
      refine wp_seq_k (fun K25 hK25 => ?_)
      refine wp_seq_k (fun K26 hK26 => ?_)
      -- region 4
      refine region_in ?_
      refine W_v rfl rfl (V_mov rfl l6_15) ?_
      refine W_v rfl rfl (V_neq rfl (et rfl) rfl) ?_
      refine W_end ?_
      refine gen_Q (fun A27 hA27 => ?_)
      have hsz27 : SzN A27 30 := by rw [hA27]; infer_instance
      have hdf27 : A27.defers = [] := by rw [hA27]; simp only [df_put]; exact hdf15
      have l1_27 := lookE hA27 1 (es rfl (es rfl l1_15))
      have l2_27 := lookE hA27 2 (es rfl (es rfl l2_15))
      have l6_27 := lookE hA27 6 (es rfl (es rfl l6_15))
      have l22_27 := lookE hA27 22 (et rfl)
      clear hA27 hsz15 hdf15 l1_15 l2_15 l6_15 l20_15
      refine then_n (hK26 _ _ ?_)
      clear hK26
      refine cond_not l22_27 (by simp [c14]) ?_
      refine wp_skip ?_
      refine then_n (hK25 _ _ ?_)
      clear hK25
      refine wp_seq_k (fun K28 hK28 => ?_)
      -- region 6
      refine region_in ?_
      refine W_emp0 rfl rfl rfl Tryd.underlying22 (by kernel_rfl) (fun g29 w29 hg29 hx29 b29 => ?_)
      have o2_29 : g2 < g29 := hg29 ▸ lt_size b2
      have o4_29 : g4 < g29 := hg29 ▸ lt_size b4
      have oB_29 : w.heap.size ≤ g29 := hg29 ▸ hE10.size
      have hE30 := Ext.tr hE10 hx29
      replace b2 := heap_ext hx29 b2
      replace b4 := heap_ext hx29 b4
      refine W_v rfl rfl (V_fa (off' := 1) rfl (es rfl l1_27) Tryd.underlying24 rfl (by decide) rfl) ?_
      refine W_r rfl rfl (VR_ldC rfl (et rfl) (cell_box (v := yv) b2 rfl) Tryd.underlying22 rfl) ?_
      refine W_appE rfl rfl rfl (es rfl (es rfl (et rfl))) (et rfl) Tryd.underlying22 Tryd.underlying22 (by kernel_rfl) b29 oB_29 (h_yv.ext hE30) (by first | omega | (simp; done) | (simp; omega)) (fun v31 w31 f31 hx31 => ?_)
      obtain ⟨a31, c31, rfl⟩ := f31.form
      have hE32 := Ext.tr hE30 hx31
      replace b2 := heap_ext hx31 b2
      replace b4 := heap_ext hx31 b4
      replace b29 := heap_ext hx31 b29
      refine W_v rfl rfl (V_bldS (n := 2) (z := .agg #[.slice none 0 0, .slice none 0 0]) rfl (parts1 (et rfl)) (by kernel_rfl) (by simp only [List.all_cons, List.all_nil, one_ints f31.ints, Bool.and_true] <;> rfl) (by kernel_rfl) (by simp only [List.foldl_cons, List.foldl_nil, Value.cells, List.setIfInBounds_toArray, List.set_cons_succ, List.set_cons_zero] <;> rfl)) ?_
      refine W_stA rfl rfl rfl (es rfl (es rfl (es rfl (es rfl (es rfl l2_27))))) (et rfl) (by simp only [List.all_toArray, List.all_cons, List.all_nil, one_ints f31.ints] <;> rfl) b4 (by rfl) (by kernel_rfl) (fun w33 ht33 hb33 => ?_)
      have hE34 := ext_tch hE32 ht33 oB_4
      replace f31 := f31.tch ht33 b4 rfl
      replace b2 := box_tch b2 ht33 (Nat.ne_of_lt o2_4)
      replace b29 := box_tch b29 ht33 (Nat.ne_of_gt o4_29)
      replace b4 := hb33
      refine W_v rfl rfl (V_asg rfl rfl) ?_
      refine W_end ?_
      refine gen_Q (fun A35 hA35 => ?_)
      have hsz35 : SzN A35 30 := by rw [hA35]; infer_instance
      have hdf35 : A35.defers = [] := by rw [hA35]; simp only [df_put]; exact hdf27
      have l2_35 := lookE hA35 2 (es rfl (es rfl (es rfl (es rfl (es rfl (es rfl l2_27))))))
      have l3_35 := lookE hA35 3 (et rfl)
      clear hA35 hsz27 hdf27 l1_27 l2_27 l6_27 l22_27
      refine then_n (hK28 _ _ ?_)
      clear hK28
      refine wp_ret ?_
      refine ret_in (results_2 Tryd.results30 (rv_cellA l2_35 b4 Tryd.underlying24 rfl (by kernel_rfl)) (rv_tmp l3_35)) hdf35 ?_
      -- leaf TF
      have hs : turnS lo yo = ⟨yo, [], 0, 0⟩ := turnS_ok c14 c16
      rw [hs]
      exact ⟨_, _, rfl, f31.fre, FreI.nil _ _ _, hE34⟩
  · skip
    refine W_off rfl (wanted_f rfl rfl (et rfl) (ez rfl) rfl) ?_
    refine W_off rfl (wanted_f rfl rfl (es rfl (et rfl)) (ez rfl) rfl) ?_
    refine W_off rfl (wanted_f rfl rfl (es rfl (es rfl (et rfl))) (ez rfl) rfl) ?_
    refine W_off rfl (wanted_f rfl rfl (es rfl (es rfl (es rfl (et rfl)))) (ez rfl) rfl) ?_
    refine W_v rfl rfl (V_pickF rfl (es rfl (es rfl (es rfl (es rfl (et rfl))))) rfl) ?_
    refine W_end ?_
    refine gen_Q (fun A36 hA36 => ?_)
    have hsz36 : SzN A36 30 := by rw [hA36]; infer_instance
    have hdf36 : A36.defers = [] := by rw [hA36]; simp only [df_put]; exact hdf11
    have l1_36 := lookE hA36 1 (es rfl (es rfl (es rfl (es rfl (es rfl (es rfl (es rfl (es rfl l1_11))))))))
    have l2_36 := lookE hA36 2 (es rfl (es rfl (es rfl (es rfl (es rfl (es rfl (es rfl (es rfl l2_11))))))))
    have l6_36 := lookE hA36 6 (es rfl (es rfl (es rfl (es rfl (es rfl (es rfl (es rfl (es rfl l6_11))))))))
    have l20_36 := lookE hA36 20 (et rfl)
    clear hA36 hsz11 hdf11 l1_11 l2_11 l6_11
    refine then_n (hK13 _ _ ?_)
    clear hK13
    refine cond_f l20_36 ?_
    refine wp_skip ?_
    refine then_n (hK12 _ _ ?_)
    clear hK12
    refine wp_seq_k (fun K37 hK37 => ?_)
    refine wp_seq_k (fun K38 hK38 => ?_)
    -- region 4
    refine region_in ?_
    refine W_v rfl rfl (V_mov rfl l6_36) ?_
    refine W_v rfl rfl (V_neq rfl (et rfl) rfl) ?_
    refine W_end ?_
    refine gen_Q (fun A39 hA39 => ?_)
    have hsz39 : SzN A39 30 := by rw [hA39]; infer_instance
    have hdf39 : A39.defers = [] := by rw [hA39]; simp only [df_put]; exact hdf36
    have l1_39 := lookE hA39 1 (es rfl (es rfl l1_36))
    have l2_39 := lookE hA39 2 (es rfl (es rfl l2_36))
    have l6_39 := lookE hA39 6 (es rfl (es rfl l6_36))
    have l22_39 := lookE hA39 22 (et rfl)
    clear hA39 hsz36 hdf36 l1_36 l2_36 l6_36 l20_36
    refine then_n (hK38 _ _ ?_)
    clear hK38
    refine cond_sure l22_39 (by simp [c14]) ?_
    refine wp_seq_k (fun K40 hK40 => ?_)
    -- region 5
    refine region_in ?_
    refine W_v rfl rfl (V_bldS (n := 2) (z := .agg #[.slice none 0 0, .slice none 0 0]) rfl (parts0) (by kernel_rfl) (by simp only [List.all_cons, List.all_nil, Bool.and_true] <;> rfl) (by kernel_rfl) (by simp only [List.foldl_cons, List.foldl_nil, Value.cells, List.setIfInBounds_toArray, List.set_cons_succ, List.set_cons_zero] <;> rfl)) ?_
    refine W_v rfl rfl (V_mov rfl (es rfl l6_39)) ?_
    refine W_stA rfl rfl rfl (es rfl (es rfl l2_39)) (es rfl (et rfl)) (by simp only [List.all_toArray, List.all_cons, List.all_nil] <;> rfl) b4 (by rfl) (by kernel_rfl) (fun w41 ht41 hb41 => ?_)
    have hE42 := ext_tch hE10 ht41 oB_4
    replace b2 := box_tch b2 ht41 (Nat.ne_of_lt o2_4)
    replace b4 := hb41
    refine W_v rfl rfl (V_asg rfl (et rfl)) ?_
    refine W_end ?_
    refine gen_Q (fun A43 hA43 => ?_)
    have hsz43 : SzN A43 30 := by rw [hA43]; infer_instance
    have hdf43 : A43.defers = [] := by rw [hA43]; simp only [df_put]; exact hdf39
    have l2_43 := lookE hA43 2 (es rfl (es rfl (es rfl l2_39)))
    have l3_43 := lookE hA43 3 (et rfl)
    clear hA43 hsz39 hdf39 l1_39 l2_39 l6_39 l22_39
    refine then_n (hK40 _ _ ?_)
    clear hK40
    refine wp_ret ?_
    refine then_ret ?_
    refine ret_in (results_2 Tryd.results30 (rv_cellA l2_43 b4 Tryd.underlying24 rfl (by kernel_rfl)) (rv_tmp l3_43)) hdf43 ?_
    -- leaf F
    have hs : turnS lo yo = ⟨[], [], 0, (chk lo yo).2.2⟩ := turnS_err c14
    rw [hs]
    exact ⟨_, _, rfl, FreI.nil _ _ _, FreI.nil _ _ _, hE42⟩

set_option maxHeartbeats 4000000 in
theorem rClear_c {lv : Value} {lo : List Int} {yv : Value} {yo : List Int} {w : World} (h_lv : Ints w lv lo) (h_yv : Ints w yv yo) (h1 : lo.length ≤ 1000) (h2 : yo.length ≤ 1000) :
    Calls Tryd.prog 29 #[.agg #[lv, yv]] w fun e w' => ∃ v1 v2 u, e = .returned (.tuple #[.agg #[v1, v2], u, .int .i64 (clearS lo yo).e]) ∧ FreI w' w.heap.size 3 (v1) ([]) ∧ FreI w' w.heap.size 3 (v2) ((clearS lo yo).yo) ∧ FreI w' w.heap.size 3 (u) ((clearS lo yo).lo) ∧ Ext w w' := by
  refine calls_in 27 Tryd.func29 rfl rfl (by simp) (fun A0 hsz0 hdf0 hargs => ?_)
  have l0_0 := hargs 0 (.agg #[lv, yv]) rfl
  clear hargs; replace hsz0 : SzN A0 27 := ⟨hsz0⟩
  have hE0 := Ext.rfl' w
  refine wp_seq_k (fun K1 hK1 => ?_)
  -- region 0
  refine region_in ?_
  refine W_box (cs := #[lv, yv]) rfl rfl rfl l0_0 rfl (fun g2 w2 hg2 hx2 b2 => ?_)
  have oB_2 : w.heap.size ≤ g2 := hg2 ▸ hE0.size
  have hE3 := Ext.tr hE0 hx2
  refine W_alloc (z := .agg #[.slice none 0 0, .slice none 0 0]) (cs := #[.slice none 0 0, .slice none 0 0]) rfl rfl rfl (by kernel_rfl) rfl (fun g4 w4 hg4 hx4 b4 => ?_)
  have o2_4 : g2 < g4 := hg4 ▸ lt_size b2
  have oB_4 : w.heap.size ≤ g4 := hg4 ▸ hE3.size
  have hE5 := Ext.tr hE3 hx4
  replace b2 := heap_ext hx4 b2
  refine W_v rfl rfl (V_asg rfl rfl) ?_
  refine W_v rfl rfl (V_asg rfl rfl) ?_
  refine W_end ?_
  refine gen_Q (fun A6 hA6 => ?_)
  have hsz6 : SzN A6 27 := by rw [hA6]; infer_instance
  have hdf6 : A6.defers = [] := by rw [hA6]; simp only [df_put]; exact hdf0
  have l1_6 := lookE hA6 1 (es rfl (es rfl (es rfl (et rfl))))
  have l2_6 := lookE hA6 2 (es rfl (es rfl (et rfl)))
  clear hA6 hsz0 hdf0 l0_0
  refine then_n (hK1 _ _ ?_)
  clear hK1
  refine wp_seq_k (fun K7 hK7 => ?_)
  -- region 1
  refine region_in ?_
  refine W_r rfl rfl (VR_ldA rfl l1_6 b2 Tryd.underlying24 rfl (by kernel_rfl)) ?_
  refine W_call rfl rfl rfl Tryd.func43 (by kernel_rfl) rfl (args1 (et rfl)) (rCheck_c (h_lv.ext hE5) (h_yv.ext hE5) ) ?_
  rintro _ w8 ⟨rfl, hx8⟩
  refine ⟨_, rfl, ?_⟩
  have hb9 := hE5.size
  have hE10 := Ext.tr hE5 hx8
  replace b2 := heap_ext hx8 b2
  replace b4 := heap_ext hx8 b4
  refine W_v rfl rfl (V_mov rfl (et rfl)) ?_
  refine W_v rfl rfl (V_ext rfl (et rfl) rfl) ?_
  refine W_v rfl rfl (V_ext rfl (es rfl (et rfl)) rfl) ?_
  refine W_v rfl rfl (V_ext rfl (es rfl (es rfl (et rfl))) rfl) ?_
  refine W_v rfl rfl (V_asg rfl (es rfl (es rfl (et rfl)))) ?_
  refine W_v rfl rfl (V_asg rfl (es rfl (es rfl (et rfl)))) ?_
  refine W_v rfl rfl (V_asg rfl (es rfl (es rfl (et rfl)))) ?_
  refine W_end ?_
  refine gen_Q (fun A11 hA11 => ?_)
  have hsz11 : SzN A11 27 := by rw [hA11]; infer_instance
  have hdf11 : A11.defers = [] := by rw [hA11]; simp only [df_put]; exact hdf6
  have l1_11 := lookE hA11 1 (es rfl (es rfl (es rfl (es rfl (es rfl (es rfl (es rfl (es rfl (es rfl l1_6)))))))))
  have l2_11 := lookE hA11 2 (es rfl (es rfl (es rfl (es rfl (es rfl (es rfl (es rfl (es rfl (es rfl l2_6)))))))))
  have l7_11 := lookE hA11 7 (et rfl)
  clear hA11 hsz6 hdf6 l1_6 l2_6
  refine then_n (hK7 _ _ ?_)
  clear hK7
  refine wp_seq_k (fun K12 hK12 => ?_)
  refine wp_seq_k (fun K13 hK13 => ?_)
  -- region 2
  refine region_in ?_
  refine W_v rfl rfl (V_mov rfl l7_11) ?_
  refine W_v rfl rfl (V_neq rfl (et rfl) rfl) ?_
  refine W_end ?_
  refine gen_Q (fun A14 hA14 => ?_)
  have hsz14 : SzN A14 27 := by rw [hA14]; infer_instance
  have hdf14 : A14.defers = [] := by rw [hA14]; simp only [df_put]; exact hdf11
  have l1_14 := lookE hA14 1 (es rfl (es rfl l1_11))
  have l2_14 := lookE hA14 2 (es rfl (es rfl l2_11))
  have l7_14 := lookE hA14 7 (es rfl (es rfl l7_11))
  have l15_14 := lookE hA14 15 (et rfl)
  clear hA14 hsz11 hdf11 l1_11 l2_11 l7_11
  refine then_n (hK13 _ _ ?_)
  clear hK13
  refine cond_dec l15_14 (fun c15 => ?_) (fun c15 => ?_)
  · skip
    refine wp_seq_k (fun K16 hK16 => ?_)
    -- region 3
    refine region_in ?_
    refine W_v rfl rfl (V_bldS (n := 2) (z := .agg #[.slice none 0 0, .slice none 0 0]) rfl (parts0) (by kernel_rfl) (by simp only [List.all_cons, List.all_nil, Bool.and_true] <;> rfl) (by kernel_rfl) (by simp only [List.foldl_cons, List.foldl_nil, Value.cells, List.setIfInBounds_toArray, List.set_cons_succ, List.set_cons_zero] <;> rfl)) ?_
    refine W_v rfl rfl (V_mov rfl (es rfl l7_14)) ?_
    refine W_stA rfl rfl rfl (es rfl (es rfl l2_14)) (es rfl (et rfl)) (by simp only [List.all_toArray, List.all_cons, List.all_nil] <;> rfl) b4 (by rfl) (by kernel_rfl) (fun w17 ht17 hb17 => ?_)
    have hE18 := ext_tch hE10 ht17 oB_4
    replace b2 := box_tch b2 ht17 (Nat.ne_of_lt o2_4)
    replace b4 := hb17
    refine W_v rfl rfl (V_asg rfl rfl) ?_
    refine W_v rfl rfl (V_asg rfl (es rfl (et rfl))) ?_
    refine W_end ?_
    refine gen_Q (fun A19 hA19 => ?_)
    have hsz19 : SzN A19 27 := by rw [hA19]; infer_instance
    have hdf19 : A19.defers = [] := by rw [hA19]; simp only [df_put]; exact hdf14
    have l2_19 := lookE hA19 2 (es rfl (es rfl (es rfl (es rfl l2_14))))
    have l3_19 := lookE hA19 3 (es rfl (et rfl))
    have l4_19 := lookE hA19 4 (et rfl)
    clear hA19 hsz14 hdf14 l1_14 l2_14 l7_14 l15_14
    refine then_n (hK16 _ _ ?_)
    clear hK16
    refine wp_ret ?_
    refine then_ret ?_
    refine ret_in (results_3 Tryd.results29 (rv_cellA l2_19 b4 Tryd.underlying24 rfl (by kernel_rfl)) (rv_tmp l3_19) (rv_tmp l4_19)) hdf19 ?_
    -- leaf T
    have hs : clearS lo yo = ⟨[], [], 0, (chk lo yo).2.2⟩ := clearS_err c15
    rw [hs]
    exact ⟨_, _, _, rfl, FreI.nil _ _ _, FreI.nil _ _ _, FreI.nil _ _ _, hE18⟩
  · skip
    refine wp_skip ?_
    refine then_n (hK12 _ _ ?_)
    clear hK12
    refine wp_seq_k (fun K20 hK20 => ?_)
    -- region 4
    refine region_mono 9 10 [some (.emp w8 3), none, none, some (.own w8 3 (yo)), none, some (.emp w8 3), none, none, some (.own w8 3 (lo))] (by kernel_rfl) (by kernel_rfl) ?_
    refine C_emp rfl rfl rfl Tryd.underlying22 (by kernel_rfl) rfl rfl (fun g21 => ?_)
    refine C_v rfl rfl (V_fa (off' := 1) rfl (es rfl l1_14) Tryd.underlying24 rfl (by decide) rfl) rfl rfl ?_
    refine C_r rfl rfl (by kernel_rfl) (fun wx hx hF => (VR_ldC rfl (et rfl) (cell_box (v := yv) (heap_ext hx b2) rfl) Tryd.underlying22 rfl)) rfl rfl ?_
    refine C_appE (zs := yo) rfl rfl rfl (es rfl (es rfl (et rfl))) (et rfl) Tryd.underlying22 Tryd.underlying22 (by kernel_rfl) rfl rfl (fun wx hx hF => by obtain ⟨gq0, hq0, ge0, he0⟩ := ancF_get hF (by kernel_rfl); cases hq0; exact ⟨⟨_, rfl, ge0, he0⟩, (h_yv.ext (Ext.tr hE10 hx))⟩) (by first | omega | (simp; done) | (simp; omega)) (fun v22 hu22 => ?_)
    obtain ⟨a22, c22, rfl⟩ : ∃ a c, v22 = .slice a (yo).length c := by obtain ⟨_, _, hu22⟩ := hu22; exact hu22.form
    clear hu22
    refine C_v rfl rfl (V_bldS (n := 2) (z := .agg #[.slice none 0 0, .slice none 0 0]) rfl (parts1 (et rfl)) (by kernel_rfl) (by simp only [List.all_cons, List.all_nil, one_ints (Ints.nil _), Bool.and_true] <;> rfl) (by kernel_rfl) (by simp only [List.foldl_cons, List.foldl_nil, Value.cells, List.setIfInBounds_toArray, List.set_cons_succ, List.set_cons_zero] <;> rfl)) rfl rfl ?_
    refine C_emp rfl rfl rfl Tryd.underlying22 (by kernel_rfl) rfl rfl (fun g23 => ?_)
    refine C_v rfl rfl (V_fa (off' := 0) rfl (es rfl (es rfl (es rfl (es rfl (es rfl (es rfl l1_14)))))) Tryd.underlying24 rfl (by decide) rfl) rfl rfl ?_
    refine C_r rfl rfl (by kernel_rfl) (fun wx hx hF => (VR_ldC rfl (et rfl) (cell_box (v := lv) (heap_ext hx b2) rfl) Tryd.underlying22 rfl)) rfl rfl ?_
    refine C_appE (zs := lo) rfl rfl rfl (es rfl (es rfl (et rfl))) (et rfl) Tryd.underlying22 Tryd.underlying22 (by kernel_rfl) rfl rfl (fun wx hx hF => by obtain ⟨gq5, hq5, ge5, he5⟩ := ancF_get hF (by kernel_rfl); cases hq5; exact ⟨⟨_, rfl, ge5, he5⟩, (h_lv.ext (Ext.tr hE10 hx))⟩) (by first | omega | (simp; done) | (simp; omega)) (fun v24 hu24 => ?_)
    obtain ⟨a24, c24, rfl⟩ : ∃ a c, v24 = .slice a (lo).length c := by obtain ⟨_, _, hu24⟩ := hu24; exact hu24.form
    clear hu24
    refine C_eff rfl ?_
    refine Z_eff rfl rfl (fun w25 hz25 hF25 => ?_)
    obtain ⟨gq0, hq0, ge0, he0⟩ := all_get (all_rest (all_rest (all_rest hF25))); cases hq0
    obtain f22 := all_get (all_rest (all_rest hF25)); skip
    obtain ⟨gq5, hq5, ge5, he5⟩ := all_get (all_rest hF25); cases hq5
    obtain f24 := all_get hF25; skip
    clear hF25
    have hR25 := hE10.size
    have hE26 := Ext.tr hE10 hz25
    replace b2 := heap_ext hz25 b2
    replace b4 := heap_ext hz25 b4
    have ul_f22 := fre_lo f22.fre
    replace f22 := f22.base hR25
    have ul_f24 := fre_lo f24.fre
    replace f24 := f24.base hR25
    refine W_stA rfl rfl rfl (es rfl (es rfl (es rfl (es rfl (es rfl (es rfl (es rfl (es rfl (es rfl l2_14))))))))) (es rfl (es rfl (es rfl (es rfl (et rfl))))) (by simp only [List.all_toArray, List.all_cons, List.all_nil, one_ints f22.ints] <;> rfl) b4 (by rfl) (by kernel_rfl) (fun w27 ht27 hb27 => ?_)
    have hE28 := ext_tch hE26 ht27 oB_4
    replace f22 := f22.tch ht27 b4 rfl
    replace f24 := f24.tch ht27 b4 rfl
    replace b2 := box_tch b2 ht27 (Nat.ne_of_lt o2_4)
    replace b4 := hb27
    refine W_v rfl rfl (V_asg rfl (et rfl)) ?_
    refine W_v rfl rfl (V_asg rfl rfl) ?_
    refine W_end ?_
    refine Qo_normal ?_
    refine gen_Q (fun A29 hA29 => ?_)
    have hsz29 : SzN A29 27 := by rw [hA29]; infer_instance
    have hdf29 : A29.defers = [] := by rw [hA29]; simp only [df_put]; exact hdf14
    have l2_29 := lookE hA29 2 (es rfl (es rfl (es rfl (es rfl (es rfl (es rfl (es rfl (es rfl (es rfl (es rfl (es rfl l2_14)))))))))))
    have l3_29 := lookE hA29 3 (es rfl (et rfl))
    have l4_29 := lookE hA29 4 (et rfl)
    clear hA29 hsz14 hdf14 l1_14 l2_14 l7_14 l15_14
    refine then_n (hK20 _ _ ?_)
    clear hK20
    refine wp_ret ?_
    refine ret_in (results_3 Tryd.results29 (rv_cellA l2_29 b4 Tryd.underlying24 rfl (by kernel_rfl)) (rv_tmp l3_29) (rv_tmp l4_29)) hdf29 ?_
    -- leaf F
    have hs : clearS lo yo = ⟨lo, yo, 0, 0⟩ := clearS_ok (by simpa using c15)
    rw [hs]
    exact ⟨_, _, _, rfl, FreI.nil _ _ _, f22.fre, f24.fre, hE28⟩

end Go.Proofs.YtodbfgfbkgpooaaDoor