import Derived.Test.YtfnbfmlnageflaaRg3
namespace Go.Proofs.Ytfnbfmlnageflaa
open Go.RowKit Go.Own


set_option maxHeartbeats 4000000 in
theorem TrainsQueue_c {l : Value} {zs : List Int} {w : World} (h_l : IntsK w .u8 l zs) (hz : ∀ z ∈ zs, 0 ≤ z ∧ z ≤ 255) :
    Calls Try.prog 4 #[l] w fun e w' => e = .returned (.bool true) ∧ Ext w w' := by
  refine calls_in 96 Try.func4 rfl rfl (by simp) (fun A0 hsz0 hdf0 hargs => ?_)
  have l0_0 := hargs 0 (l) rfl
  clear hargs; replace hsz0 : SzN A0 96 := ⟨hsz0⟩
  have hE0 := Ext.rfl' w
  refine wp_seq_k (fun K1 hK1 => ?_)
  -- region 0
  refine region_in ?_
  refine W_v rfl rfl (V_asg rfl rfl) ?_
  refine W_end ?_
  refine gen_Q (fun A2 hA2 => ?_)
  have hsz2 : SzN A2 96 := by rw [hA2]; infer_instance
  have hdf2 : A2.defers = [] := by rw [hA2]; simp only [df_put]; exact hdf0
  have l0_2 := lookE hA2 0 (es rfl l0_0)
  clear hA2 hsz0 hdf0 l0_0
  refine then_n (hK1 _ _ ?_)
  clear hK1
  refine wp_seq_k (fun K3 hK3 => ?_)
  refine wp_seq_k (fun K4 hK4 => ?_)
  -- region 1
  refine region_in ?_
  refine W_v rfl rfl (V_mov rfl l0_2) ?_
  refine W_v rfl rfl (V_lenK rfl (et rfl) h_l Try.underlying32) ?_
  refine W_v rfl rfl (V_gtr rfl (et rfl) rfl) ?_
  refine W_end ?_
  refine gen_Q (fun A5 hA5 => ?_)
  have hsz5 : SzN A5 96 := by rw [hA5]; infer_instance
  have hdf5 : A5.defers = [] := by rw [hA5]; simp only [df_put]; exact hdf2
  have l0_5 := lookE hA5 0 (es rfl (es rfl (es rfl l0_2)))
  have l18_5 := lookE hA5 18 (et rfl)
  clear hA5 hsz2 hdf2 l0_2
  refine then_n (hK4 _ _ ?_)
  clear hK4
  refine cond_dec l18_5 (fun c6 => ?_) (fun c6 => ?_)
  · skip
    refine wp_seq_k (fun K7 hK7 => ?_)
    -- region 2
    refine region_in ?_
    refine W_call rfl rfl rfl Try.func12 (by kernel_rfl) rfl (args0) (awake_c  ) ?_
    rintro _ w8 ⟨rfl, hx8⟩
    refine ⟨_, rfl, ?_⟩
    have hb9 := hE0.size
    have hE10 := Ext.tr hE0 hx8
    refine W_v rfl rfl (V_asg rfl (et rfl)) ?_
    refine W_end ?_
    refine gen_Q (fun A11 hA11 => ?_)
    have hsz11 : SzN A11 96 := by rw [hA11]; infer_instance
    have hdf11 : A11.defers = [] := by rw [hA11]; simp only [df_put]; exact hdf5
    have l2_11 := lookE hA11 2 (et rfl)
    clear hA11 hsz5 hdf5 l0_5 l18_5
    refine then_n (hK7 _ _ ?_)
    clear hK7
    refine wp_ret ?_
    refine then_ret ?_
    refine ret_in (results_1 Try.results4 (rv_tmp l2_11)) hdf11 ?_
    -- leaf T
    exact ⟨rfl, hE10⟩
  · skip
    refine wp_skip ?_
    refine then_n (hK3 _ _ ?_)
    clear hK3
    refine wp_seq_k (fun K12 hK12 => ?_)
    -- region 3
    refine region_in ?_
    refine W_alloc (z := .agg #[.slice none 0 0, .slice none 0 0]) (cs := #[.slice none 0 0, .slice none 0 0]) rfl rfl rfl (by kernel_rfl) rfl (fun g13 w13 hg13 hx13 b13 => ?_)
    have oB_13 : w.heap.size ≤ g13 := hg13 ▸ hE0.size
    have hE14 := Ext.tr hE0 hx13
    refine W_end ?_
    refine gen_Q (fun A15 hA15 => ?_)
    have hsz15 : SzN A15 96 := by rw [hA15]; infer_instance
    have hdf15 : A15.defers = [] := by rw [hA15]; simp only [df_put]; exact hdf5
    have l0_15 := lookE hA15 0 (es rfl l0_5)
    have l3_15 := lookE hA15 3 (et rfl)
    clear hA15 hsz5 hdf5 l0_5 l18_5
    refine then_n (hK12 _ _ ?_)
    clear hK12
    refine wp_seq_k (fun K16 hK16 => ?_)
    -- region 4
    refine region_in ?_
    refine W_v rfl rfl (V_asg rfl rfl) ?_
    refine W_end ?_
    refine gen_Q (fun A17 hA17 => ?_)
    have hsz17 : SzN A17 96 := by rw [hA17]; infer_instance
    have hdf17 : A17.defers = [] := by rw [hA17]; simp only [df_put]; exact hdf15
    have l0_17 := lookE hA17 0 (es rfl l0_15)
    have l3_17 := lookE hA17 3 (es rfl l3_15)
    have l4_17 := lookE hA17 4 (et rfl)
    clear hA17 hsz15 hdf15 l0_15 l3_15
    refine then_n (hK16 _ _ ?_)
    clear hK16
    refine wp_seq_k (fun K18 hK18 => ?_)
    refine wp_seq_k (fun K19 hK19 => ?_)
    -- region 5
    refine region_in ?_
    refine W_v rfl rfl (V_asg rfl rfl) ?_
    refine W_end ?_
    refine gen_Q (fun A20 hA20 => ?_)
    have hsz20 : SzN A20 96 := by rw [hA20]; infer_instance
    have hdf20 : A20.defers = [] := by rw [hA20]; simp only [df_put]; exact hdf17
    have l0_20 := lookE hA20 0 (es rfl l0_17)
    have l3_20 := lookE hA20 3 (es rfl l3_17)
    have l4_20 := lookE hA20 4 (es rfl l4_17)
    have l5_20 := lookE hA20 5 (et rfl)
    clear hA20 hsz17 hdf17 l0_17 l3_17 l4_17
    refine then_n (hK19 _ _ ?_)
    clear hK19
    refine wp_block ?_
    -- loop 6
    refine loopX (fun mz A' w' => SzN A' 96 ∧ A'.defers = [] ∧ Ext w w' ∧ (∃ (k : Nat) (lo : List Int) (lv : Value) (yv : Value) (wv : Value), (mz = zs.length - k) ∧ (k ≤ zs.length) ∧ (GoodL lo) ∧ (lo.length ≤ k) ∧ (EV A' (.tmp 5) = .int .i64 (k : Int)) ∧ (EV A' (.tmp 4) = wv) ∧ (EV A' (.tmp 0) = EV A20 (.tmp 0)) ∧ (EV A' (.tmp 3) = EV A20 (.tmp 3)) ∧ (w'.heap[g13]? = some (.cells #[lv, yv] 24 (0, 0))) ∧ (FreI w' w.heap.size 3 (lv) (lo)) ∧ (FreI w' w.heap.size 3 (yv) ([])) ∧ (OwnI w' w.heap.size 3 (wv) (lo)))) (zs.length - (0)) ⟨hsz20, hdf20, hE14, 0, [], .slice none 0 0, .slice none 0 0, .slice none 0 0, rfl, (Nat.zero_le _), good_nil, (Nat.zero_le _), ((l5_20).trans (by first | rfl | (simp; done) | (congr 1; omega))), ((l4_20).trans (by first | rfl | (simp; done) | (congr 1; omega))), rfl, rfl, b13, (FreI.nil _ _ _), (FreI.nil _ _ _), (World.ownsRow_nil _ _ _ _)⟩ ?_
    clear b13
    rintro n21 A21 w21 ⟨hsz21, hdf21, hE21, k, lo, lv, yv, wv, hm21, hk, hgood, hlo, l5_21, l4_21, u0_21, u3_21, b13, fl, fy, fw⟩
    have l0_21 := u0_21.trans l0_20
    have l3_21 := u3_21.trans l3_20
    refine wp_seq_k (fun K22 hK22 => ?_)
    refine wp_seq_k (fun K23 hK23 => ?_)
    -- region 6
    refine region_in ?_
    refine W_v rfl rfl (V_mov rfl l5_21) ?_
    refine W_v rfl rfl (V_mov rfl (es rfl l0_21)) ?_
    refine W_v rfl rfl (V_lenK rfl (et rfl) h_l Try.underlying32) ?_
    refine W_v rfl rfl (V_lss rfl (es rfl (es rfl (et rfl))) (et rfl)) ?_
    refine W_end ?_
    refine gen_Q (fun A24 hA24 => ?_)
    have hsz24 : SzN A24 96 := by rw [hA24]; infer_instance
    have hdf24 : A24.defers = [] := by rw [hA24]; simp only [df_put]; exact hdf21
    have l0_24 := lookE hA24 0 (es rfl (es rfl (es rfl (es rfl l0_21))))
    have l3_24 := lookE hA24 3 (es rfl (es rfl (es rfl (es rfl l3_21))))
    have l4_24 := lookE hA24 4 (es rfl (es rfl (es rfl (es rfl l4_21))))
    have l5_24 := lookE hA24 5 (es rfl (es rfl (es rfl (es rfl l5_21))))
    have l23_24 := lookE hA24 23 (et rfl)
    clear hA24 hsz21 hdf21 l5_21 l4_21 l0_21 l3_21
    refine then_n (hK23 _ _ ?_)
    clear hK23
    refine cond_dec l23_24 (fun c25 => ?_) (fun c25 => ?_)
    · skip
      have k0 : k < zs.length := by omega
      obtain ⟨B0, O0, C0, y0, hv0, hy0, hc0⟩ := at_intsK h_l k k0
      obtain ⟨hz0, hz1⟩ := hz y0 (List.mem_of_getElem? hy0)
      refine wp_skip ?_
      refine then_n (hK22 _ _ ?_)
      clear hK22
      refine wp_seq_k (fun K26 hK26 => ?_)
      refine wp_block ?_
      refine wp_seq_k (fun K27 hK27 => ?_)
      -- region 8
      have ob_fw_w21 := own_lt fw
      refine region_mono 12 13 [none, none, none, none, none, none, none, some (⟨fun w v => ∃ v1_s v2_s, v = .tuple #[.agg #[v1_s, v2_s], .int .i64 (placeS lo [] 0 (y0 % 24) false).e] ∧ FreI w w21.heap.size 3 (v1_s) ((placeS lo [] 0 (y0 % 24) false).lo) ∧ FreI w w21.heap.size 3 (v2_s) ((placeS lo [] 0 (y0 % 24) false).yo), fun _ _ _ he ⟨v1_s, v2_s, h, f1_s, f2_s⟩ => ⟨v1_s, v2_s, h, f1_s.ext he, f2_s.ext he⟩⟩), none, none, none, some (.blk w21 24 #[.slice none 0 0, .slice none 0 0])] (by kernel_rfl) (by kernel_rfl) ?_
      refine C_r rfl rfl (by kernel_rfl) (fun wx hx hF => (VR_ldA rfl l3_24 (heap_ext hx b13) Try.underlying24 rfl (by kernel_rfl))) rfl rfl ?_
      refine C_v rfl rfl (V_mov rfl (es rfl l0_24)) rfl rfl ?_
      refine C_v rfl rfl (V_mov rfl (es rfl (es rfl l5_24))) rfl rfl ?_
      refine C_v rfl rfl (V_idx (k) rfl (es rfl (et rfl)) (et rfl) hv0 (by omega) k0 Try.underlying32 (by kernel_rfl)) rfl rfl ?_
      refine C_r rfl rfl (by kernel_rfl) (fun wx hx hF => (VR_ldC rfl (et rfl) (cell_ext (Ext.tr hE21 hx) hc0) Try.underlying5 rfl)) rfl rfl ?_
      refine C_v rfl rfl (V_cvt rfl (et rfl) Try.underlying5 Try.underlying3 (wrap_i64 (by omega) (by omega))) rfl rfl ?_
      refine C_v rfl rfl (V_rem rfl (et rfl) rfl (by omega) (by omega) (wrap_i64 (by omega) (by omega))) rfl rfl ?_
      refine C_call rfl rfl rfl Try.func13 (by kernel_rfl) rfl (args3 (es rfl (es rfl (es rfl (es rfl (es rfl (es rfl (et rfl))))))) rfl (et rfl)) rfl rfl (fun wx hx hF => ?_) (fun u29 hu29 => ?_)
      · refine (Append_c (tr := 0) (c := (y0 % 24)) (fl.1.ext hx) (fy.1.ext hx) ).mono ?_
        rintro _ w29 ⟨v1_29, v2_29, rfl, f1_29, f2_29, hz⟩
        exact ⟨_, rfl, hz, _, _, rfl, f1_29.base hx.size, f2_29.base hx.size⟩
      obtain ⟨_, _, v1_29, v2_29, rfl, _, _⟩ := hu29
      refine C_v rfl rfl (V_mov rfl (et rfl)) rfl rfl ?_
      refine C_v rfl rfl (V_ext rfl (et rfl) rfl) rfl rfl ?_
      refine C_v rfl rfl (V_ext rfl (es rfl (et rfl)) rfl) rfl rfl ?_
      refine C_alloc (z := .agg #[.slice none 0 0, .slice none 0 0]) rfl rfl rfl (by kernel_rfl) rfl rfl rfl (fun g30 or30 => ?_)
      refine C_eff rfl ?_
      refine Z_eff rfl rfl (fun w31 hz31 hF31 => ?_)
      obtain ⟨v1_29q, v2_29q, hq29, f1_29, f2_29⟩ := all_get (all_rest hF31); cases hq29
      obtain ⟨g30q, hq30, or30q, b30⟩ := all_get hF31; cases hq30
      clear hF31
      have o13_30 := Nat.lt_of_lt_of_le (lt_size b13) or30
      have oB_30 := Nat.le_trans hE21.size or30
      have hR31 := hE21.size
      have hE32 := Ext.tr hE21 hz31
      replace b13 := heap_ext hz31 b13
      replace fl := fl.ext hz31
      replace fy := fy.ext hz31
      replace fw := fw.ext hz31
      have ul_f1_29 := fre_lo f1_29
      replace f1_29 := f1_29.base hR31
      have ul_f2_29 := fre_lo f2_29
      replace f2_29 := f2_29.base hR31
      refine W_stA rfl rfl rfl (et rfl) (es rfl (es rfl (et rfl))) (by simp only [List.all_toArray, List.all_cons, List.all_nil, one_ints f1_29.1, one_ints f2_29.1] <;> rfl) b30 (by rfl) (by kernel_rfl) (fun w33 ht33 hb33 => ?_)
      have hE34 := ext_tch hE32 ht33 oB_30
      replace fl := fl.tch ht33 b30 rfl
      replace fy := fy.tch ht33 b30 rfl
      replace fw := fw.tch ht33 b30 rfl
      replace f1_29 := f1_29.tch ht33 b30 rfl
      replace f2_29 := f2_29.tch ht33 b30 rfl
      replace b13 := box_tch b13 ht33 (Nat.ne_of_lt o13_30)
      replace b30 := hb33
      refine W_v rfl rfl (V_asg rfl (es rfl (et rfl))) ?_
      refine W_end ?_
      refine Qo_normal ?_
      refine gen_Q (fun A35 hA35 => ?_)
      have hsz35 : SzN A35 96 := by rw [hA35]; infer_instance
      have hdf35 : A35.defers = [] := by rw [hA35]; simp only [df_put]; exact hdf24
      have l0_35 := lookE hA35 0 (es rfl (es rfl (es rfl (es rfl (es rfl (es rfl (es rfl (es rfl (es rfl (es rfl (es rfl (es rfl (es rfl l0_24)))))))))))))
      have l3_35 := lookE hA35 3 (es rfl (es rfl (es rfl (es rfl (es rfl (es rfl (es rfl (es rfl (es rfl (es rfl (es rfl (es rfl (es rfl l3_24)))))))))))))
      have l4_35 := lookE hA35 4 (es rfl (es rfl (es rfl (es rfl (es rfl (es rfl (es rfl (es rfl (es rfl (es rfl (es rfl (es rfl (es rfl l4_24)))))))))))))
      have l5_35 := lookE hA35 5 (es rfl (es rfl (es rfl (es rfl (es rfl (es rfl (es rfl (es rfl (es rfl (es rfl (es rfl (es rfl (es rfl l5_24)))))))))))))
      have l6_35 := lookE hA35 6 (es rfl (et rfl))
      have l7_35 := lookE hA35 7 (et rfl)
      clear hA35 hsz24 hdf24 l0_24 l3_24 l4_24 l5_24 l23_24
      refine then_n (hK27 _ _ ?_)
      clear hK27
      refine wp_seq_k (fun K36 hK36 => ?_)
      -- region 9
      refine region_in ?_
      refine W_v rfl rfl (V_mov rfl l7_35) ?_
      refine W_v rfl rfl (V_eql rfl (et rfl) rfl) ?_
      refine W_end ?_
      refine gen_Q (fun A37 hA37 => ?_)
      have hsz37 : SzN A37 96 := by rw [hA37]; infer_instance
      have hdf37 : A37.defers = [] := by rw [hA37]; simp only [df_put]; exact hdf35
      have l0_37 := lookE hA37 0 (es rfl (es rfl l0_35))
      have l3_37 := lookE hA37 3 (es rfl (es rfl l3_35))
      have l4_37 := lookE hA37 4 (es rfl (es rfl l4_35))
      have l5_37 := lookE hA37 5 (es rfl (es rfl l5_35))
      have l6_37 := lookE hA37 6 (es rfl (es rfl l6_35))
      have l38_37 := lookE hA37 38 (et rfl)
      clear hA37 hsz35 hdf35 l0_35 l3_35 l4_35 l5_35 l6_35 l7_35
      refine then_n (hK36 _ _ ?_)
      clear hK36
      refine cond_dec l38_37 (fun c38 => ?_) (fun c38 => ?_)
      · skip
        refine wp_seq_k (fun K39 hK39 => ?_)
        -- region 10
        refine region_in ?_
        refine W_r rfl rfl (VR_ldA rfl l6_37 b30 Try.underlying24 rfl (by kernel_rfl)) ?_
        refine W_stA rfl rfl rfl (es rfl l3_37) (et rfl) (by simp only [List.all_toArray, List.all_cons, List.all_nil, one_ints f1_29.1, one_ints f2_29.1] <;> rfl) b13 (by rfl) (by kernel_rfl) (fun w40 ht40 hb40 => ?_)
        have hE41 := ext_tch hE34 ht40 oB_13
        replace fl := fl.tch ht40 b13 rfl
        replace fy := fy.tch ht40 b13 rfl
        replace fw := fw.tch ht40 b13 rfl
        replace f1_29 := f1_29.tch ht40 b13 rfl
        replace f2_29 := f2_29.tch ht40 b13 rfl
        replace b30 := box_tch b30 ht40 (Nat.ne_of_gt o13_30)
        replace b13 := hb40
        refine W_end ?_
        refine gen_Q (fun A42 hA42 => ?_)
        have hsz42 : SzN A42 96 := by rw [hA42]; infer_instance
        have hdf42 : A42.defers = [] := by rw [hA42]; simp only [df_put]; exact hdf37
        have l0_42 := lookE hA42 0 (es rfl l0_37)
        have l3_42 := lookE hA42 3 (es rfl l3_37)
        have l4_42 := lookE hA42 4 (es rfl l4_37)
        have l5_42 := lookE hA42 5 (es rfl l5_37)
        clear hA42 hsz37 hdf37 l0_37 l3_37 l4_37 l5_37 l6_37 l38_37
        refine then_n (hK39 _ _ ?_)
        clear hK39
        -- region 11
        refine region_in ?_
        refine W_v rfl rfl (V_mov rfl l4_42) ?_
        refine W_v rfl rfl (V_mov rfl (es rfl l0_42)) ?_
        refine W_v rfl rfl (V_mov rfl (es rfl (es rfl l5_42))) ?_
        refine W_v rfl rfl (V_idx (k) rfl (es rfl (et rfl)) (et rfl) hv0 (by omega) k0 Try.underlying32 (by kernel_rfl)) ?_
        refine W_r rfl rfl (VR_ldC rfl (et rfl) (cell_ext hE41 hc0) Try.underlying5 rfl) ?_
        refine W_v rfl rfl (V_cvt rfl (et rfl) Try.underlying5 Try.underlying3 (wrap_i64 (by omega) (by omega))) ?_
        refine W_v rfl rfl (V_rem rfl (et rfl) rfl (by omega) (by omega) (wrap_i64 (by omega) (by omega))) ?_
        refine W_lit1 rfl rfl rfl (et rfl) Try.underlying22 (by kernel_rfl) (fun g44 w44 hg44 hx44 f44 => ?_)
        replace f44 := f44.base hE41.size
        have hE45 := Ext.tr hE41 hx44
        replace b13 := heap_ext hx44 b13
        replace fw := fw.ext hx44
        replace f1_29 := f1_29.ext hx44
        replace f2_29 := f2_29.ext hx44
        refine W_app rfl rfl rfl (es rfl (es rfl (es rfl (es rfl (es rfl (es rfl (es rfl (et rfl)))))))) (et rfl) Try.underlying22 Try.underlying22 (by kernel_rfl) fw hE45 f44.1 (by simp; omega) (fun v46 w46 f46 hgr46 hy46 => ?_)
        obtain ⟨a46, c46, rfl⟩ := f46.form
        replace b13 := box_app b13 hgr46 fw rfl
        replace f1_29 := f1_29.app ul_f1_29 hgr46 ob_fw_w21
        replace f2_29 := f2_29.app ul_f2_29 hgr46 ob_fw_w21
        refine W_v rfl rfl (V_asg rfl (et rfl)) ?_
        refine W_end ?_
        refine gen_Q (fun A47 hA47 => ?_)
        have hsz47 : SzN A47 96 := by rw [hA47]; infer_instance
        have hdf47 : A47.defers = [] := by rw [hA47]; simp only [df_put]; exact hdf42
        have l0_47 := lookE hA47 0 (es rfl (es rfl (es rfl (es rfl (es rfl (es rfl (es rfl (es rfl (es rfl (es rfl l0_42))))))))))
        have l3_47 := lookE hA47 3 (es rfl (es rfl (es rfl (es rfl (es rfl (es rfl (es rfl (es rfl (es rfl (es rfl l3_42))))))))))
        have l4_47 := lookE hA47 4 (et rfl)
        have l5_47 := lookE hA47 5 (es rfl (es rfl (es rfl (es rfl (es rfl (es rfl (es rfl (es rfl (es rfl (es rfl l5_42))))))))))
        clear hA47 hsz42 hdf42 l0_42 l3_42 l4_42 l5_42
        refine inb_n ?_
        refine then_n (hK26 _ _ ?_)
        clear hK26
        -- region 7
        refine region_in ?_
        refine W_v rfl rfl (V_mov rfl l5_47) ?_
        refine W_v rfl rfl (V_add rfl (et rfl) rfl (by omega) (by omega)) ?_
        refine W_v rfl rfl (V_asg rfl (et rfl)) ?_
        refine W_end ?_
        refine gen_Q (fun A48 hA48 => ?_)
        have hsz48 : SzN A48 96 := by rw [hA48]; infer_instance
        have hdf48 : A48.defers = [] := by rw [hA48]; simp only [df_put]; exact hdf47
        have l0_48 := lookE hA48 0 (es rfl (es rfl (es rfl l0_47)))
        have l3_48 := lookE hA48 3 (es rfl (es rfl (es rfl l3_47)))
        have l4_48 := lookE hA48 4 (es rfl (es rfl (es rfl l4_47)))
        have l5_48 := lookE hA48 5 (et rfl)
        clear hA48 hsz47 hdf47 l0_47 l3_47 l4_47 l5_47
        refine then_n ⟨zs.length - ((k + 1)), by simp only [hm21]; omega, hsz48, hdf48, hy46, (k + 1), (lo ++ [y0 % 24]), (v1_29), (v2_29), (.slice a46 (lo ++ [(y0 % 24)]).length c46), rfl, (by omega), (queue_P c38).2.2, (by simp; omega), ((l5_48).trans (by first | rfl | (simp; done) | (congr 1; omega))), ((l4_48).trans (by first | rfl | (simp; done) | (congr 1; omega))), ((l0_48).trans l0_20.symm), ((l3_48).trans l3_20.symm), b13, (by have h := f1_29; rw [(queue_P c38).1] at h; exact h), (by have h := f2_29; rw [(queue_P c38).2.1] at h; exact h), f46⟩
      · skip
        refine wp_skip ?_
        refine inb_n ?_
        refine then_n (hK26 _ _ ?_)
        clear hK26
        -- region 7
        refine region_in ?_
        refine W_v rfl rfl (V_mov rfl l5_37) ?_
        refine W_v rfl rfl (V_add rfl (et rfl) rfl (by omega) (by omega)) ?_
        refine W_v rfl rfl (V_asg rfl (et rfl)) ?_
        refine W_end ?_
        refine gen_Q (fun A49 hA49 => ?_)
        have hsz49 : SzN A49 96 := by rw [hA49]; infer_instance
        have hdf49 : A49.defers = [] := by rw [hA49]; simp only [df_put]; exact hdf37
        have l0_49 := lookE hA49 0 (es rfl (es rfl (es rfl l0_37)))
        have l3_49 := lookE hA49 3 (es rfl (es rfl (es rfl l3_37)))
        have l4_49 := lookE hA49 4 (es rfl (es rfl (es rfl l4_37)))
        have l5_49 := lookE hA49 5 (et rfl)
        clear hA49 hsz37 hdf37 l0_37 l3_37 l4_37 l5_37 l6_37 l38_37
        refine then_n ⟨zs.length - ((k + 1)), by simp only [hm21]; omega, hsz49, hdf49, hE34, (k + 1), lo, lv, yv, wv, rfl, (by omega), hgood, (by omega), ((l5_49).trans (by first | rfl | (simp; done) | (congr 1; omega))), ((l4_49).trans (by first | rfl | (simp; done) | (congr 1; omega))), ((l0_49).trans l0_20.symm), ((l3_49).trans l3_20.symm), b13, fl, fy, fw⟩
    · skip
      refine wp_exit ?_
      refine then_exit ?_
      refine then_exit ?_
      refine inb_hit ?_
      refine then_n (hK18 _ _ ?_)
      clear hK18
      refine wp_seq_k (fun K50 hK50 => ?_)
      refine wp_seq_k (fun K51 hK51 => ?_)
      -- region 12
      refine region_in ?_
      refine W_v rfl rfl (V_asg rfl rfl) ?_
      refine W_end ?_
      refine gen_Q (fun A52 hA52 => ?_)
      have hsz52 : SzN A52 96 := by rw [hA52]; infer_instance
      have hdf52 : A52.defers = [] := by rw [hA52]; simp only [df_put]; exact hdf24
      have l3_52 := lookE hA52 3 (es rfl l3_24)
      have l4_52 := lookE hA52 4 (es rfl l4_24)
      have l8_52 := lookE hA52 8 (et rfl)
      clear hA52 hsz24 hdf24 l0_24 l3_24 l4_24 l5_24 l23_24
      refine then_n (hK51 _ _ ?_)
      clear hK51
      refine wp_block ?_
      -- loop 13
      have hdl := fun j => List.length_drop (i := j) (l := lo)
      refine loopX (fun mz A' w' => SzN A' 96 ∧ A'.defers = [] ∧ Ext w w' ∧ (∃ (i : Nat) (tl : Value) (ty : Value), (mz = lo.length - i) ∧ (i ≤ lo.length) ∧ (EV A' (.tmp 8) = .int .i64 (i : Int)) ∧ (EV A' (.tmp 3) = EV A52 (.tmp 3)) ∧ (EV A' (.tmp 4) = EV A52 (.tmp 4)) ∧ (w'.heap[g13]? = some (.cells #[tl, ty] 24 (0, 0))) ∧ (OwnI w' w.heap.size 3 (wv) (lo)) ∧ (FreI w' w.heap.size 3 (tl) (lo.drop i)) ∧ (FreI w' w.heap.size 3 (ty) ([])))) (lo.length - (0)) ⟨hsz52, hdf52, hE21, 0, lv, yv, rfl, (Nat.zero_le _), ((l8_52).trans (by first | rfl | (simp; done) | (congr 1; omega))), rfl, rfl, b13, fw, fl, fy⟩ ?_
      clear b13 fl fy fw
      rintro n53 A53 w53 ⟨hsz53, hdf53, hE53, i, tl, ty, hm53, hi, l8_53, u3_53, u4_53, b13, fw, gl, gy⟩
      have l3_53 := u3_53.trans l3_52
      have l4_53 := u4_53.trans l4_52
      refine wp_seq_k (fun K54 hK54 => ?_)
      refine wp_seq_k (fun K55 hK55 => ?_)
      -- region 13
      refine region_in ?_
      refine W_v rfl rfl (V_mov rfl l8_53) ?_
      refine W_v rfl rfl (V_mov rfl (es rfl l4_53)) ?_
      refine W_v rfl rfl (V_lenI rfl (et rfl) fw.ints Try.underlying22) ?_
      refine W_v rfl rfl (V_lss rfl (es rfl (es rfl (et rfl))) (et rfl)) ?_
      refine W_end ?_
      refine gen_Q (fun A56 hA56 => ?_)
      have hsz56 : SzN A56 96 := by rw [hA56]; infer_instance
      have hdf56 : A56.defers = [] := by rw [hA56]; simp only [df_put]; exact hdf53
      have l3_56 := lookE hA56 3 (es rfl (es rfl (es rfl (es rfl l3_53))))
      have l4_56 := lookE hA56 4 (es rfl (es rfl (es rfl (es rfl l4_53))))
      have l8_56 := lookE hA56 8 (es rfl (es rfl (es rfl (es rfl l8_53))))
      have l52_56 := lookE hA56 52 (et rfl)
      clear hA56 hsz53 hdf53 l8_53 l3_53 l4_53
      refine then_n (hK55 _ _ ?_)
      clear hK55
      refine cond_dec l52_56 (fun c57 => ?_) (fun c57 => ?_)
      · skip
        refine wp_skip ?_
        refine then_n (hK54 _ _ ?_)
        clear hK54
        refine wp_seq_k (fun K58 hK58 => ?_)
        refine wp_block ?_
        refine wp_seq_k (fun K59 hK59 => ?_)
        -- region 15
        refine region_in ?_
        refine W_r rfl rfl (VR_ldA rfl l3_56 b13 Try.underlying24 rfl (by kernel_rfl)) ?_
        refine W_call rfl rfl rfl Try.func18 (by kernel_rfl) rfl (args1 (et rfl)) (First_c gl.1 gy.1 (by first | omega | (simp; done) | (simp; omega)) (by first | omega | (simp; done) | (simp; omega))) ?_
        rintro _ w60 ⟨rfl, hx60⟩
        refine ⟨_, rfl, ?_⟩
        have hb61 := hE53.size
        have ob_fw_w53 := own_lt fw
        have hE62 := Ext.tr hE53 hx60
        replace b13 := heap_ext hx60 b13
        replace fw := fw.ext hx60
        replace gl := gl.ext hx60
        replace gy := gy.ext hx60
        refine W_v rfl rfl (V_mov rfl (et rfl)) ?_
        refine W_v rfl rfl (V_ext rfl (et rfl) rfl) ?_
        refine W_v rfl rfl (V_ext rfl (es rfl (et rfl)) rfl) ?_
        refine W_v rfl rfl (V_asg rfl (es rfl (et rfl))) ?_
        refine W_v rfl rfl (V_asg rfl (es rfl (et rfl))) ?_
        refine W_end ?_
        refine gen_Q (fun A63 hA63 => ?_)
        have hsz63 : SzN A63 96 := by rw [hA63]; infer_instance
        have hdf63 : A63.defers = [] := by rw [hA63]; simp only [df_put]; exact hdf56
        have l3_63 := lookE hA63 3 (es rfl (es rfl (es rfl (es rfl (es rfl (es rfl (es rfl l3_56)))))))
        have l4_63 := lookE hA63 4 (es rfl (es rfl (es rfl (es rfl (es rfl (es rfl (es rfl l4_56)))))))
        have l8_63 := lookE hA63 8 (es rfl (es rfl (es rfl (es rfl (es rfl (es rfl (es rfl l8_56)))))))
        have l9_63 := lookE hA63 9 (es rfl (et rfl))
        have l10_63 := lookE hA63 10 (et rfl)
        clear hA63 hsz56 hdf56 l3_56 l4_56 l8_56 l52_56
        refine then_n (hK59 _ _ ?_)
        clear hK59
        refine wp_seq_k (fun K64 hK64 => ?_)
        -- region 16
        refine region_in ?_
        refine W_r rfl rfl (VR_ldA rfl l3_63 b13 Try.underlying24 rfl (by kernel_rfl)) ?_
        refine W_call rfl rfl rfl Try.func19 (by kernel_rfl) rfl (args1 (et rfl)) (Take_c gl.1 gy.1 (by first | omega | (simp; done) | (simp; omega)) (by first | omega | (simp; done) | (simp; omega))) ?_
        rintro _ w65 ⟨v1_65, v2_65, rfl, f1_65, f2_65, hx65⟩
        refine ⟨_, rfl, ?_⟩
        have hb66 := hE62.size
        have ob_fw_w60 := own_lt fw
        have hE67 := Ext.tr hE62 hx65
        replace b13 := heap_ext hx65 b13
        replace fw := fw.ext hx65
        replace gl := gl.ext hx65
        replace gy := gy.ext hx65
        have ul_f1_65 := fre_lo f1_65
        replace f1_65 := f1_65.base hb66
        have ul_f2_65 := fre_lo f2_65
        replace f2_65 := f2_65.base hb66
        refine W_v rfl rfl (V_mov rfl (et rfl)) ?_
        refine W_v rfl rfl (V_ext rfl (et rfl) rfl) ?_
        refine W_v rfl rfl (V_ext rfl (es rfl (et rfl)) rfl) ?_
        refine W_v rfl rfl (V_ext rfl (es rfl (es rfl (et rfl))) rfl) ?_
        refine W_alloc (z := .agg #[.slice none 0 0, .slice none 0 0]) (cs := #[.slice none 0 0, .slice none 0 0]) rfl rfl rfl (by kernel_rfl) rfl (fun g68 w68 hg68 hx68 b68 => ?_)
        have o13_68 : g13 < g68 := hg68 ▸ lt_size b13
        have oB_68 : w.heap.size ≤ g68 := hg68 ▸ hE67.size
        have hE69 := Ext.tr hE67 hx68
        replace b13 := heap_ext hx68 b13
        replace fw := fw.ext hx68
        replace gl := gl.ext hx68
        replace gy := gy.ext hx68
        replace f1_65 := f1_65.ext hx68
        replace f2_65 := f2_65.ext hx68
        refine W_stA rfl rfl rfl (et rfl) (es rfl (es rfl (es rfl (et rfl)))) (by simp only [List.all_toArray, List.all_cons, List.all_nil, one_ints f1_65.1, one_ints f2_65.1] <;> rfl) b68 (by rfl) (by kernel_rfl) (fun w70 ht70 hb70 => ?_)
        have hE71 := ext_tch hE69 ht70 oB_68
        replace fw := fw.tch ht70 b68 rfl
        replace gl := gl.tch ht70 b68 rfl
        replace gy := gy.tch ht70 b68 rfl
        replace f1_65 := f1_65.tch ht70 b68 rfl
        replace f2_65 := f2_65.tch ht70 b68 rfl
        replace b13 := box_tch b13 ht70 (Nat.ne_of_lt o13_68)
        replace b68 := hb70
        refine W_v rfl rfl (V_asg rfl (es rfl (es rfl (et rfl)))) ?_
        refine W_v rfl rfl (V_asg rfl (es rfl (es rfl (et rfl)))) ?_
        refine W_end ?_
        refine gen_Q (fun A72 hA72 => ?_)
        have hsz72 : SzN A72 96 := by rw [hA72]; infer_instance
        have hdf72 : A72.defers = [] := by rw [hA72]; simp only [df_put]; exact hdf63
        have l3_72 := lookE hA72 3 (es rfl (es rfl (es rfl (es rfl (es rfl (es rfl (es rfl (es rfl (es rfl l3_63)))))))))
        have l4_72 := lookE hA72 4 (es rfl (es rfl (es rfl (es rfl (es rfl (es rfl (es rfl (es rfl (es rfl l4_63)))))))))
        have l8_72 := lookE hA72 8 (es rfl (es rfl (es rfl (es rfl (es rfl (es rfl (es rfl (es rfl (es rfl l8_63)))))))))
        have l9_72 := lookE hA72 9 (es rfl (es rfl (es rfl (es rfl (es rfl (es rfl (es rfl (es rfl (es rfl l9_63)))))))))
        have l10_72 := lookE hA72 10 (es rfl (es rfl (es rfl (es rfl (es rfl (es rfl (es rfl (es rfl (es rfl l10_63)))))))))
        have l11_72 := lookE hA72 11 (es rfl (es rfl (et rfl)))
        have l12_72 := lookE hA72 12 (es rfl (et rfl))
        have l13_72 := lookE hA72 13 (et rfl)
        clear hA72 hsz63 hdf63 l3_63 l4_63 l8_63 l9_63 l10_63
        refine then_n (hK64 _ _ ?_)
        clear hK64
        refine wp_seq_k (fun K73 hK73 => ?_)
        refine wp_seq_k (fun K74 hK74 => ?_)
        -- region 17
        refine region_in ?_
        refine W_v rfl rfl (V_mov rfl l10_72) ?_
        refine W_v rfl rfl (V_neq rfl (et rfl) rfl) ?_
        refine W_sure (c' := false) rfl rfl (V_mov rfl (et rfl)) (by simp [takeS_dropE (good_chk hgood) (show i < lo.length by omega)]) ?_
        refine W_v rfl (wanted_t rfl rfl (et rfl) (ez rfl)) (V_mov rfl (es rfl (es rfl (es rfl l13_72)))) ?_
        refine W_v rfl (wanted_t rfl rfl (es rfl (et rfl)) (ez rfl)) (V_neq rfl (et rfl) rfl) ?_
        refine W_v rfl rfl (V_pickF rfl (es rfl (es rfl (et rfl))) (et rfl)) ?_
        refine W_sure (c' := false) rfl rfl (V_mov rfl (et rfl)) (by simp [takeS_dropE (good_chk hgood) (show i < lo.length by omega)]) ?_
        refine W_v rfl (wanted_t rfl rfl (et rfl) (ez rfl)) (V_mov rfl (es rfl (es rfl (es rfl (es rfl (es rfl (es rfl (es rfl l9_72)))))))) ?_
        refine W_v rfl (wanted_t rfl rfl (es rfl (et rfl)) (ez rfl)) (V_mov rfl (es rfl (es rfl (es rfl (es rfl (es rfl (es rfl (es rfl (es rfl l4_72))))))))) ?_
        refine W_v rfl (wanted_t rfl rfl (es rfl (es rfl (et rfl))) (ez rfl)) (V_mov rfl (es rfl (es rfl (es rfl (es rfl (es rfl (es rfl (es rfl (es rfl (es rfl l8_72)))))))))) ?_
        have k75 : i < lo.length := by omega
        obtain ⟨B75, O75, C75, y75, hv75, hy75, hc75⟩ := at_ints fw.ints (i) k75
        refine W_v rfl (wanted_t rfl rfl (es rfl (es rfl (es rfl (et rfl)))) (ez rfl)) (V_idx (i) rfl (es rfl (et rfl)) (et rfl) hv75 (by omega) k75 Try.underlying22 (by kernel_rfl)) ?_
        refine W_r rfl (wanted_t rfl rfl (es rfl (es rfl (es rfl (es rfl (et rfl))))) (ez rfl)) (VR_ldC rfl (et rfl) hc75 Try.underlying3 rfl) ?_
        refine W_v rfl (wanted_t rfl rfl (es rfl (es rfl (es rfl (es rfl (es rfl (et rfl)))))) (ez rfl)) (V_neq rfl (es rfl (es rfl (es rfl (es rfl (et rfl))))) (et rfl)) ?_
        refine W_v rfl rfl (V_pickF rfl (es rfl (es rfl (es rfl (es rfl (es rfl (es rfl (et rfl))))))) (et rfl)) ?_
        refine W_sure (c' := false) rfl rfl (V_mov rfl (et rfl)) (by simp [takeS_drop (good_chk hgood) (by assumption)]) ?_
        refine W_v rfl (wanted_t rfl rfl (et rfl) (ez rfl)) (V_mov rfl (es rfl (es rfl (es rfl (es rfl (es rfl (es rfl (es rfl (es rfl (es rfl (es rfl (es rfl (es rfl (es rfl (es rfl (es rfl l12_72)))))))))))))))) ?_
        refine W_v rfl (wanted_t rfl rfl (es rfl (et rfl)) (ez rfl)) (V_mov rfl (es rfl (es rfl (es rfl (es rfl (es rfl (es rfl (es rfl (es rfl (es rfl (es rfl (es rfl (es rfl (es rfl (es rfl (es rfl (es rfl l9_72))))))))))))))))) ?_
        refine W_v rfl (wanted_t rfl rfl (es rfl (es rfl (et rfl))) (ez rfl)) (V_neq rfl (es rfl (et rfl)) (et rfl)) ?_
        refine W_v rfl rfl (V_pickF rfl (es rfl (es rfl (es rfl (et rfl)))) (et rfl)) ?_
        refine W_end ?_
        refine gen_Q (fun A76 hA76 => ?_)
        have hsz76 : SzN A76 96 := by rw [hA76]; infer_instance
        have hdf76 : A76.defers = [] := by rw [hA76]; simp only [df_put]; exact hdf72
        have l3_76 := lookE hA76 3 (es rfl (es rfl (es rfl (es rfl (es rfl (es rfl (es rfl (es rfl (es rfl (es rfl (es rfl (es rfl (es rfl (es rfl (es rfl (es rfl (es rfl (es rfl (es rfl l3_72)))))))))))))))))))
        have l4_76 := lookE hA76 4 (es rfl (es rfl (es rfl (es rfl (es rfl (es rfl (es rfl (es rfl (es rfl (es rfl (es rfl (es rfl (es rfl (es rfl (es rfl (es rfl (es rfl (es rfl (es rfl l4_72)))))))))))))))))))
        have l8_76 := lookE hA76 8 (es rfl (es rfl (es rfl (es rfl (es rfl (es rfl (es rfl (es rfl (es rfl (es rfl (es rfl (es rfl (es rfl (es rfl (es rfl (es rfl (es rfl (es rfl (es rfl l8_72)))))))))))))))))))
        have l11_76 := lookE hA76 11 (es rfl (es rfl (es rfl (es rfl (es rfl (es rfl (es rfl (es rfl (es rfl (es rfl (es rfl (es rfl (es rfl (es rfl (es rfl (es rfl (es rfl (es rfl (es rfl l11_72)))))))))))))))))))
        have l69_76 := lookE hA76 69 (es rfl (es rfl (es rfl (es rfl (es rfl (es rfl (es rfl (es rfl (es rfl (es rfl (es rfl (es rfl (es rfl (es rfl (es rfl (et rfl))))))))))))))))
        have l70_76 := lookE hA76 70 (es rfl (es rfl (es rfl (es rfl (es rfl (es rfl (es rfl (es rfl (es rfl (es rfl (es rfl (es rfl (es rfl (es rfl (et rfl)))))))))))))))
        have l73_76 := lookE hA76 73 (es rfl (es rfl (es rfl (es rfl (es rfl (es rfl (es rfl (es rfl (es rfl (es rfl (es rfl (et rfl))))))))))))
        have l74_76 := lookE hA76 74 (es rfl (es rfl (es rfl (es rfl (es rfl (es rfl (es rfl (es rfl (es rfl (es rfl (et rfl)))))))))))
        have l75_76 := lookE hA76 75 (es rfl (es rfl (es rfl (es rfl (es rfl (es rfl (es rfl (es rfl (es rfl (et rfl))))))))))
        have l76_76 := lookE hA76 76 (es rfl (es rfl (es rfl (es rfl (es rfl (es rfl (es rfl (es rfl (et rfl)))))))))
        have l77_76 := lookE hA76 77 (es rfl (es rfl (es rfl (es rfl (es rfl (es rfl (es rfl (et rfl))))))))
        have l78_76 := lookE hA76 78 (es rfl (es rfl (es rfl (es rfl (es rfl (es rfl (et rfl)))))))
        have l81_76 := lookE hA76 81 (es rfl (es rfl (es rfl (et rfl))))
        have l82_76 := lookE hA76 82 (es rfl (es rfl (et rfl)))
        have l83_76 := lookE hA76 83 (es rfl (et rfl))
        have l84_76 := lookE hA76 84 (et rfl)
        clear hA76 hsz72 hdf72 l3_72 l4_72 l8_72 l9_72 l10_72 l11_72 l12_72 l13_72
        refine then_n (hK74 _ _ ?_)
        clear hK74
        refine cond_not l84_76 (by simp) ?_
        refine wp_skip ?_
        refine then_n (hK73 _ _ ?_)
        clear hK73
        -- region 19
        refine region_in ?_
        refine W_r rfl rfl (VR_ldA rfl l11_76 b68 Try.underlying24 rfl (by kernel_rfl)) ?_
        refine W_stA rfl rfl rfl (es rfl l3_76) (et rfl) (by simp only [List.all_toArray, List.all_cons, List.all_nil, one_ints f1_65.1, one_ints f2_65.1] <;> rfl) b13 (by rfl) (by kernel_rfl) (fun w77 ht77 hb77 => ?_)
        have hE78 := ext_tch hE71 ht77 oB_13
        replace fw := fw.tch ht77 b13 rfl
        replace gl := gl.tch ht77 b13 rfl
        replace gy := gy.tch ht77 b13 rfl
        replace f1_65 := f1_65.tch ht77 b13 rfl
        replace f2_65 := f2_65.tch ht77 b13 rfl
        replace b68 := box_tch b68 ht77 (Nat.ne_of_gt o13_68)
        replace b13 := hb77
        refine W_end ?_
        refine gen_Q (fun A79 hA79 => ?_)
        have hsz79 : SzN A79 96 := by rw [hA79]; infer_instance
        have hdf79 : A79.defers = [] := by rw [hA79]; simp only [df_put]; exact hdf76
        have l3_79 := lookE hA79 3 (es rfl l3_76)
        have l4_79 := lookE hA79 4 (es rfl l4_76)
        have l8_79 := lookE hA79 8 (es rfl l8_76)
        have l69_79 := lookE hA79 69 (es rfl l69_76)
        have l70_79 := lookE hA79 70 (es rfl l70_76)
        have l73_79 := lookE hA79 73 (es rfl l73_76)
        have l74_79 := lookE hA79 74 (es rfl l74_76)
        have l75_79 := lookE hA79 75 (es rfl l75_76)
        have l76_79 := lookE hA79 76 (es rfl l76_76)
        have l77_79 := lookE hA79 77 (es rfl l77_76)
        have l78_79 := lookE hA79 78 (es rfl l78_76)
        have l81_79 := lookE hA79 81 (es rfl l81_76)
        have l82_79 := lookE hA79 82 (es rfl l82_76)
        have l83_79 := lookE hA79 83 (es rfl l83_76)
        clear hA79 hsz76 hdf76 l3_76 l4_76 l8_76 l11_76 l69_76 l70_76 l73_76 l74_76 l75_76 l76_76 l77_76 l78_76 l81_76 l82_76 l83_76 l84_76
        refine inb_n ?_
        refine then_n (hK58 _ _ ?_)
        clear hK58
        -- region 14
        refine region_in ?_
        refine W_v rfl rfl (V_mov rfl l8_79) ?_
        refine W_v rfl rfl (V_add rfl (et rfl) rfl (by omega) (by omega)) ?_
        refine W_v rfl rfl (V_asg rfl (et rfl)) ?_
        refine W_end ?_
        refine gen_Q (fun A80 hA80 => ?_)
        have hsz80 : SzN A80 96 := by rw [hA80]; infer_instance
        have hdf80 : A80.defers = [] := by rw [hA80]; simp only [df_put]; exact hdf79
        have l3_80 := lookE hA80 3 (es rfl (es rfl (es rfl l3_79)))
        have l4_80 := lookE hA80 4 (es rfl (es rfl (es rfl l4_79)))
        have l8_80 := lookE hA80 8 (et rfl)
        have l69_80 := lookE hA80 69 (es rfl (es rfl (es rfl l69_79)))
        have l70_80 := lookE hA80 70 (es rfl (es rfl (es rfl l70_79)))
        have l73_80 := lookE hA80 73 (es rfl (es rfl (es rfl l73_79)))
        have l74_80 := lookE hA80 74 (es rfl (es rfl (es rfl l74_79)))
        have l75_80 := lookE hA80 75 (es rfl (es rfl (es rfl l75_79)))
        have l76_80 := lookE hA80 76 (es rfl (es rfl (es rfl l76_79)))
        have l77_80 := lookE hA80 77 (es rfl (es rfl (es rfl l77_79)))
        have l78_80 := lookE hA80 78 (es rfl (es rfl (es rfl l78_79)))
        have l81_80 := lookE hA80 81 (es rfl (es rfl (es rfl l81_79)))
        have l82_80 := lookE hA80 82 (es rfl (es rfl (es rfl l82_79)))
        have l83_80 := lookE hA80 83 (es rfl (es rfl (es rfl l83_79)))
        clear hA80 hsz79 hdf79 l3_79 l4_79 l8_79 l69_79 l70_79 l73_79 l74_79 l75_79 l76_79 l77_79 l78_79 l81_79 l82_79 l83_79
        refine then_n ⟨lo.length - ((i + 1)), by simp only [hm53]; omega, hsz80, hdf80, hE78, (i + 1), (v1_65), (v2_65), rfl, (by omega), ((l8_80).trans (by first | rfl | (simp; done) | (congr 1; omega))), ((l3_80).trans l3_52.symm), ((l4_80).trans l4_52.symm), b13, fw, (by have h := f1_65; rw [takeS_dropE (good_chk hgood) (show i < lo.length by omega)] at h; exact h), (by have h := f2_65; rw [takeS_dropE (good_chk hgood) (show i < lo.length by omega)] at h; exact h)⟩
      · skip
        refine wp_exit ?_
        refine then_exit ?_
        refine then_exit ?_
        refine inb_hit ?_
        refine then_n (hK50 _ _ ?_)
        clear hK50
        refine wp_seq_k (fun K81 hK81 => ?_)
        -- region 20
        refine region_in ?_
        refine W_r rfl rfl (VR_ldA rfl l3_56 b13 Try.underlying24 rfl (by kernel_rfl)) ?_
        refine W_call rfl rfl rfl Try.func18 (by kernel_rfl) rfl (args1 (et rfl)) (First_c gl.1 gy.1 (by first | omega | (simp; done) | (simp; omega)) (by first | omega | (simp; done) | (simp; omega))) ?_
        rintro _ w82 ⟨rfl, hx82⟩
        refine ⟨_, rfl, ?_⟩
        have hb83 := hE53.size
        have ob_fw_w53 := own_lt fw
        have hE84 := Ext.tr hE53 hx82
        replace b13 := heap_ext hx82 b13
        replace fw := fw.ext hx82
        replace gl := gl.ext hx82
        replace gy := gy.ext hx82
        refine W_v rfl rfl (V_mov rfl (et rfl)) ?_
        refine W_v rfl rfl (V_ext rfl (et rfl) rfl) ?_
        refine W_v rfl rfl (V_ext rfl (es rfl (et rfl)) rfl) ?_
        refine W_v rfl rfl (V_asg rfl (es rfl (et rfl))) ?_
        refine W_v rfl rfl (V_asg rfl (es rfl (et rfl))) ?_
        refine W_end ?_
        refine gen_Q (fun A85 hA85 => ?_)
        have hsz85 : SzN A85 96 := by rw [hA85]; infer_instance
        have hdf85 : A85.defers = [] := by rw [hA85]; simp only [df_put]; exact hdf56
        have l15_85 := lookE hA85 15 (et rfl)
        clear hA85 hsz56 hdf56 l3_56 l4_56 l8_56 l52_56
        refine then_n (hK81 _ _ ?_)
        clear hK81
        refine wp_seq_k (fun K86 hK86 => ?_)
        -- region 21
        refine region_in ?_
        refine W_v rfl rfl (V_mov rfl l15_85) ?_
        refine W_v rfl rfl (V_eql rfl (et rfl) rfl) ?_
        refine W_sure (c' := true) rfl rfl (V_mov rfl (et rfl)) (by simp [List.drop_eq_nil_of_le (show lo.length ≤ i by omega), takeS_nil]) ?_
        refine W_call rfl (wanted_t rfl rfl (et rfl) (ez rfl)) rfl Try.func12 (by kernel_rfl) rfl (args0) (awake_c  ) ?_
        rintro _ w87 ⟨rfl, hx87⟩
        refine ⟨_, rfl, ?_⟩
        have hb88 := hE84.size
        have hE89 := Ext.tr hE84 hx87
        refine W_v rfl rfl (V_pickT rfl (es rfl (et rfl)) (et rfl)) ?_
        refine W_v rfl rfl (V_asg rfl (et rfl)) ?_
        refine W_end ?_
        refine gen_Q (fun A90 hA90 => ?_)
        have hsz90 : SzN A90 96 := by rw [hA90]; infer_instance
        have hdf90 : A90.defers = [] := by rw [hA90]; simp only [df_put]; exact hdf85
        have l2_90 := lookE hA90 2 (et rfl)
        clear hA90 hsz85 hdf85 l15_85
        refine then_n (hK86 _ _ ?_)
        clear hK86
        refine wp_ret ?_
        refine ret_in (results_1 Try.results4 (rv_tmp l2_90)) hdf90 ?_
        -- leaf FFF
        exact ⟨rfl, hE89⟩

end Go.Proofs.Ytfnbfmlnageflaa