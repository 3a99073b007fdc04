import Derived.Test.YtfnbfmlnageflaaRg3
import Derived.Test.YtfnbfmlnageflaaGen3
import Derived.Test.YtfnbfmlnageflaaPl11b
namespace Go.Proofs.Ytfnbfmlnageflaa
open Go.RowKit Go.Own


set_option maxHeartbeats 4000000 in
theorem TrainsKept_c {l : Value} {acts : List (Int×Int×Int)} {w : World} (h_l : RowV w 3 l (acts.map tri)) (hz : ∀ a ∈ acts, (0 ≤ a.1 ∧ a.1 ≤ 255) ∧ (0 ≤ a.2.1 ∧ a.2.1 ≤ 255) ∧ (0 ≤ a.2.2 ∧ a.2.2 ≤ 255)) :
    Calls Try.prog 5 #[l] w fun e w' => e = .returned (.bool true) ∧ Ext w w' := by
  refine calls_in 171 Try.func5 rfl rfl (by simp) (fun A0 hsz0 hdf0 hargs => ?_)
  have l0_0 := hargs 0 (l) rfl
  clear hargs; replace hsz0 : SzN A0 171 := ⟨hsz0⟩
  have hE0 := Ext.rfl' w
  refine wp_seq_k (fun K1 hK1 => ?_)
  -- region 0
  refine region_in ?_
  refine W_v rfl rfl (V_asg rfl rfl) ?_
  refine W_end ?_
  refine gen_Q (fun A2 hA2 => ?_)
  have hsz2 : SzN A2 171 := by rw [hA2]; infer_instance
  have hdf2 : A2.defers = [] := by rw [hA2]; simp only [df_put]; exact hdf0
  have l0_2 := lookE hA2 0 (es rfl l0_0)
  clear hA2 hsz0 hdf0 l0_0
  refine then_n (hK1 _ _ ?_)
  clear hK1
  refine wp_seq_k (fun K3 hK3 => ?_)
  refine wp_seq_k (fun K4 hK4 => ?_)
  -- region 1
  refine region_in ?_
  refine W_v rfl rfl (V_mov rfl l0_2) ?_
  refine W_v rfl rfl (V_lenR rfl (et rfl) h_l Try.underlying38) ?_
  refine W_v rfl rfl (V_gtr rfl (et rfl) rfl) ?_
  refine W_end ?_
  refine gen_Q (fun A5 hA5 => ?_)
  have hsz5 : SzN A5 171 := by rw [hA5]; infer_instance
  have hdf5 : A5.defers = [] := by rw [hA5]; simp only [df_put]; exact hdf2
  have l0_5 := lookE hA5 0 (es rfl (es rfl (es rfl l0_2)))
  have l20_5 := lookE hA5 20 (et rfl)
  clear hA5 hsz2 hdf2 l0_2
  refine then_n (hK4 _ _ ?_)
  clear hK4
  refine cond_dec l20_5 (fun c6 => ?_) (fun c6 => ?_)
  · skip
    refine wp_seq_k (fun K7 hK7 => ?_)
    -- region 2
    refine region_in ?_
    refine W_call rfl rfl rfl Try.func12 (by kernel_rfl) rfl (args0) (awake_c  ) ?_
    rintro _ w8 ⟨rfl, hx8⟩
    refine ⟨_, rfl, ?_⟩
    have hb9 := hE0.size
    have hE10 := Ext.tr hE0 hx8
    refine W_v rfl rfl (V_asg rfl (et rfl)) ?_
    refine W_end ?_
    refine gen_Q (fun A11 hA11 => ?_)
    have hsz11 : SzN A11 171 := by rw [hA11]; infer_instance
    have hdf11 : A11.defers = [] := by rw [hA11]; simp only [df_put]; exact hdf5
    have l2_11 := lookE hA11 2 (et rfl)
    clear hA11 hsz5 hdf5 l0_5 l20_5
    refine then_n (hK7 _ _ ?_)
    clear hK7
    refine wp_ret ?_
    refine then_ret ?_
    refine ret_in (results_1 Try.results5 (rv_tmp l2_11)) hdf11 ?_
    -- leaf T
    exact ⟨rfl, hE10⟩
  · skip
    refine wp_skip ?_
    refine then_n (hK3 _ _ ?_)
    clear hK3
    refine wp_seq_k (fun K12 hK12 => ?_)
    -- region 3
    refine region_in ?_
    refine W_alloc (z := .agg #[.slice none 0 0, .slice none 0 0]) (cs := #[.slice none 0 0, .slice none 0 0]) rfl rfl rfl (by kernel_rfl) rfl (fun g13 w13 hg13 hx13 b13 => ?_)
    have oB_13 : w.heap.size ≤ g13 := hg13 ▸ hE0.size
    have hE14 := Ext.tr hE0 hx13
    refine W_end ?_
    refine gen_Q (fun A15 hA15 => ?_)
    have hsz15 : SzN A15 171 := by rw [hA15]; infer_instance
    have hdf15 : A15.defers = [] := by rw [hA15]; simp only [df_put]; exact hdf5
    have l0_15 := lookE hA15 0 (es rfl l0_5)
    have l3_15 := lookE hA15 3 (et rfl)
    clear hA15 hsz5 hdf5 l0_5 l20_5
    refine then_n (hK12 _ _ ?_)
    clear hK12
    refine wp_seq_k (fun K16 hK16 => ?_)
    -- region 4
    refine region_in ?_
    refine W_alloc (z := .agg #[.int .i64 0, .int .i64 0, .int .i64 0, .int .i64 0, .int .i64 0, .int .i64 0, .int .i64 0, .int .i64 0, .int .i64 0, .int .i64 0, .int .i64 0, .int .i64 0, .int .i64 0, .int .i64 0, .int .i64 0, .int .i64 0, .int .i64 0, .int .i64 0, .int .i64 0, .int .i64 0, .int .i64 0, .int .i64 0, .int .i64 0, .int .i64 0]) (cs := arrI .i64 (List.replicate 24 (0 : Int))) rfl rfl rfl (by kernel_rfl) (by rfl) (fun g17 w17 hg17 hx17 b17 => ?_)
    have o13_17 : g13 < g17 := hg17 ▸ lt_size b13
    have oB_17 : w.heap.size ≤ g17 := hg17 ▸ hE14.size
    have hE18 := Ext.tr hE14 hx17
    replace b13 := heap_ext hx17 b13
    refine W_end ?_
    refine gen_Q (fun A19 hA19 => ?_)
    have hsz19 : SzN A19 171 := by rw [hA19]; infer_instance
    have hdf19 : A19.defers = [] := by rw [hA19]; simp only [df_put]; exact hdf15
    have l0_19 := lookE hA19 0 (es rfl l0_15)
    have l3_19 := lookE hA19 3 (es rfl l3_15)
    have l4_19 := lookE hA19 4 (et rfl)
    clear hA19 hsz15 hdf15 l0_15 l3_15
    refine then_n (hK16 _ _ ?_)
    clear hK16
    refine wp_seq_k (fun K20 hK20 => ?_)
    refine wp_seq_k (fun K21 hK21 => ?_)
    -- region 5
    refine region_in ?_
    refine W_v rfl rfl (V_asg rfl rfl) ?_
    refine W_end ?_
    refine gen_Q (fun A22 hA22 => ?_)
    have hsz22 : SzN A22 171 := by rw [hA22]; infer_instance
    have hdf22 : A22.defers = [] := by rw [hA22]; simp only [df_put]; exact hdf19
    have l0_22 := lookE hA22 0 (es rfl l0_19)
    have l3_22 := lookE hA22 3 (es rfl l3_19)
    have l4_22 := lookE hA22 4 (es rfl l4_19)
    have l5_22 := lookE hA22 5 (et rfl)
    clear hA22 hsz19 hdf19 l0_19 l3_19 l4_19
    refine then_n (hK21 _ _ ?_)
    clear hK21
    refine wp_block ?_
    -- loop 6
    refine loopX (fun mz A' w' => SzN A' 171 ∧ A'.defers = [] ∧ Ext w w' ∧ (∃ (k : Nat) (lo : List Int) (yo : List Int) (lv : Value) (yv : Value), (mz = acts.length - k) ∧ (k ≤ acts.length) ∧ (GoodL (lo ++ yo)) ∧ (lo.length ≤ 24) ∧ (yo.length ≤ 24) ∧ ((lo ++ yo).length = lo.length + yo.length) ∧ (EV A' (.tmp 5) = .int .i64 (k : Int)) ∧ (EV A' (.tmp 0) = EV A22 (.tmp 0)) ∧ (EV A' (.tmp 3) = EV A22 (.tmp 3)) ∧ (EV A' (.tmp 4) = EV A22 (.tmp 4)) ∧ (w'.heap[g13]? = some (.cells #[lv, yv] 24 (0, 0))) ∧ (w'.heap[g17]? = some (.cells (arrI .i64 (cnt (lo ++ yo))) 39 (0, 0))) ∧ (FreI w' w.heap.size 3 (lv) (lo)) ∧ (FreI w' w.heap.size 3 (yv) (yo)))) (acts.length - (0)) ⟨hsz22, hdf22, hE18, 0, [], [], .slice none 0 0, .slice none 0 0, rfl, (Nat.zero_le _), good_nil, (Nat.zero_le _), (Nat.zero_le _), rfl, ((l5_22).trans (by first | rfl | (simp; done) | (congr 1; omega))), rfl, rfl, rfl, b13, ((cnt_zero2) ▸ b17), (FreI.nil _ _ _), (FreI.nil _ _ _)⟩ ?_
    clear b13 b17
    rintro n23 A23 w23 ⟨hsz23, hdf23, hE23, k, lo, yo, lv, yv, hm23, hk, hG, hl1, hl2, hap, l5_23, u0_23, u3_23, u4_23, b13, b17, fl, fy⟩
    have l0_23 := u0_23.trans l0_22
    have l3_23 := u3_23.trans l3_22
    have l4_23 := u4_23.trans l4_22
    refine wp_seq_k (fun K24 hK24 => ?_)
    refine wp_seq_k (fun K25 hK25 => ?_)
    -- region 6
    refine region_in ?_
    refine W_v rfl rfl (V_mov rfl l5_23) ?_
    refine W_v rfl rfl (V_mov rfl (es rfl l0_23)) ?_
    refine W_v rfl rfl (V_lenR rfl (et rfl) h_l Try.underlying38) ?_
    refine W_v rfl rfl (V_lss rfl (es rfl (es rfl (et rfl))) (et rfl)) ?_
    refine W_end ?_
    refine gen_Q (fun A26 hA26 => ?_)
    have hsz26 : SzN A26 171 := by rw [hA26]; infer_instance
    have hdf26 : A26.defers = [] := by rw [hA26]; simp only [df_put]; exact hdf23
    have l0_26 := lookE hA26 0 (es rfl (es rfl (es rfl (es rfl l0_23))))
    have l3_26 := lookE hA26 3 (es rfl (es rfl (es rfl (es rfl l3_23))))
    have l4_26 := lookE hA26 4 (es rfl (es rfl (es rfl (es rfl l4_23))))
    have l5_26 := lookE hA26 5 (es rfl (es rfl (es rfl (es rfl l5_23))))
    have l25_26 := lookE hA26 25 (et rfl)
    clear hA26 hsz23 hdf23 l5_23 l0_23 l3_23 l4_23
    refine then_n (hK25 _ _ ?_)
    clear hK25
    refine cond_dec l25_26 (fun c27 => ?_) (fun c27 => ?_)
    · skip
      have k0 : k < acts.length := by omega
      obtain ⟨B0, O0, C0, y0, hv0, hy0, hc0⟩ := at_rowM h_l (k) k0
      obtain ⟨⟨ha0, ha1⟩, ⟨hb0, hb1⟩, ⟨hd0, hd1⟩⟩ := hz y0 (List.mem_of_getElem? hy0)
      refine wp_skip ?_
      refine then_n (hK24 _ _ ?_)
      clear hK24
      refine wp_seq_k (fun K28 hK28 => ?_)
      refine wp_block ?_
      refine wp_seq_k (fun K29 hK29 => ?_)
      -- region 8
      refine region_mono 12 13 [none, none, none, none, none, some (⟨fun w v => ∃ v1_s v2_s u_s, v = .tuple #[.agg #[v1_s, v2_s], u_s, .int .i64 (actS lo yo y0.1 y0.2.1 y0.2.2).come, .int .i64 (actS lo yo y0.1 y0.2.1 y0.2.2).e] ∧ FreI w w23.heap.size 3 (v1_s) ((actS lo yo y0.1 y0.2.1 y0.2.2).lo) ∧ FreI w w23.heap.size 3 (v2_s) ((actS lo yo y0.1 y0.2.1 y0.2.2).yo) ∧ FreI w w23.heap.size 3 (u_s) ((actS lo yo y0.1 y0.2.1 y0.2.2).gone), fun _ _ _ he ⟨v1_s, v2_s, u_s, h, f1_s, f2_s, f3_s⟩ => ⟨v1_s, v2_s, u_s, h, f1_s.ext he, f2_s.ext he, f3_s.ext he⟩⟩), none, none, none, none, none, some (.blk w23 24 #[.slice none 0 0, .slice none 0 0])] (by kernel_rfl) (by kernel_rfl) ?_
      refine C_r rfl rfl (by kernel_rfl) (fun wx hx hF => (VR_ldA rfl l3_26 (heap_ext hx b13) Try.underlying24 rfl (by kernel_rfl))) rfl rfl ?_
      refine C_v rfl rfl (V_mov rfl (es rfl l0_26)) rfl rfl ?_
      refine C_v rfl rfl (V_mov rfl (es rfl (es rfl l5_26))) rfl rfl ?_
      refine C_v rfl rfl (V_idxR 3 (k) rfl (es rfl (et rfl)) (et rfl) hv0 (by omega) k0 Try.underlying38 (by kernel_rfl)) rfl rfl ?_
      refine C_r rfl rfl (by kernel_rfl) (fun wx hx hF => (VR_ldM rfl (et rfl) (rangeAt_ext (Ext.tr hE23 hx) hc0) Try.underlying43 rfl (by kernel_rfl))) rfl rfl ?_
      refine C_call rfl rfl rfl Try.func20 (by kernel_rfl) rfl (args2 (es rfl (es rfl (es rfl (es rfl (et rfl))))) (et rfl)) rfl rfl (fun wx hx hF => ?_) (fun u31 hu31 => ?_)
      · refine (act_c (kd := y0.1) (ca := y0.2.1) (tr := y0.2.2) (fl.1.ext hx) (fy.1.ext hx) (by first | omega | (simp; done) | (simp; omega)) (by first | omega | (simp; done) | (simp; omega)) (by omega) (by omega) (by omega) (by omega) (by omega) (by omega)).mono ?_
        rintro _ w31 ⟨v1_31, v2_31, u_31, rfl, f1_31, f2_31, f3_31, hz⟩
        exact ⟨_, rfl, hz, _, _, _, rfl, f1_31.base hx.size, f2_31.base hx.size, f3_31.base hx.size⟩
      obtain ⟨_, _, v1_31, v2_31, u_31, rfl, _, _, _⟩ := hu31
      refine C_v rfl rfl (V_mov rfl (et rfl)) rfl rfl ?_
      refine C_v rfl rfl (V_ext rfl (et rfl) rfl) rfl rfl ?_
      refine C_v rfl rfl (V_ext rfl (es rfl (et rfl)) rfl) rfl rfl ?_
      refine C_v rfl rfl (V_ext rfl (es rfl (es rfl (et rfl))) rfl) rfl rfl ?_
      refine C_v rfl rfl (V_ext rfl (es rfl (es rfl (es rfl (et rfl)))) rfl) rfl rfl ?_
      refine C_alloc (z := .agg #[.slice none 0 0, .slice none 0 0]) rfl rfl rfl (by kernel_rfl) rfl rfl rfl (fun g32 or32 => ?_)
      refine C_eff rfl ?_
      refine Z_eff rfl rfl (fun w33 hz33 hF33 => ?_)
      obtain ⟨v1_31q, v2_31q, u_31q, hq31, f1_31, f2_31, f3_31⟩ := all_get (all_rest hF33); cases hq31
      obtain ⟨g32q, hq32, or32q, b32⟩ := all_get hF33; cases hq32
      clear hF33
      have o13_32 := Nat.lt_of_lt_of_le (lt_size b13) or32
      have o17_32 := Nat.lt_of_lt_of_le (lt_size b17) or32
      have oB_32 := Nat.le_trans hE23.size or32
      have hR33 := hE23.size
      have hE34 := Ext.tr hE23 hz33
      replace b13 := heap_ext hz33 b13
      replace b17 := heap_ext hz33 b17
      replace fl := fl.ext hz33
      replace fy := fy.ext hz33
      have ul_f1_31 := fre_lo f1_31
      replace f1_31 := f1_31.base hR33
      have ul_f2_31 := fre_lo f2_31
      replace f2_31 := f2_31.base hR33
      have ul_f3_31 := fre_lo f3_31
      replace f3_31 := f3_31.base hR33
      refine W_stA rfl rfl rfl (et rfl) (es rfl (es rfl (es rfl (es rfl (et rfl))))) (by simp only [List.all_toArray, List.all_cons, List.all_nil, one_ints f1_31.1, one_ints f2_31.1] <;> rfl) b32 (by rfl) (by kernel_rfl) (fun w35 ht35 hb35 => ?_)
      have hE36 := ext_tch hE34 ht35 oB_32
      replace fl := fl.tch ht35 b32 rfl
      replace fy := fy.tch ht35 b32 rfl
      replace f1_31 := f1_31.tch ht35 b32 rfl
      replace f2_31 := f2_31.tch ht35 b32 rfl
      replace f3_31 := f3_31.tch ht35 b32 rfl
      replace b13 := box_tch b13 ht35 (Nat.ne_of_lt o13_32)
      replace b17 := box_tch b17 ht35 (Nat.ne_of_lt o17_32)
      replace b32 := hb35
      refine W_v rfl rfl (V_asg rfl (es rfl (es rfl (es rfl (et rfl))))) ?_
      refine W_v rfl rfl (V_asg rfl (es rfl (es rfl (es rfl (et rfl))))) ?_
      refine W_v rfl rfl (V_asg rfl (es rfl (es rfl (es rfl (et rfl))))) ?_
      refine W_end ?_
      refine Qo_normal ?_
      refine gen_Q (fun A37 hA37 => ?_)
      have hsz37 : SzN A37 171 := by rw [hA37]; infer_instance
      have hdf37 : A37.defers = [] := by rw [hA37]; simp only [df_put]; exact hdf26
      have l0_37 := lookE hA37 0 (es rfl (es rfl (es rfl (es rfl (es rfl (es rfl (es rfl (es rfl (es rfl (es rfl (es rfl (es rfl (es rfl (es rfl (es rfl l0_26)))))))))))))))
      have l3_37 := lookE hA37 3 (es rfl (es rfl (es rfl (es rfl (es rfl (es rfl (es rfl (es rfl (es rfl (es rfl (es rfl (es rfl (es rfl (es rfl (es rfl l3_26)))))))))))))))
      have l4_37 := lookE hA37 4 (es rfl (es rfl (es rfl (es rfl (es rfl (es rfl (es rfl (es rfl (es rfl (es rfl (es rfl (es rfl (es rfl (es rfl (es rfl l4_26)))))))))))))))
      have l5_37 := lookE hA37 5 (es rfl (es rfl (es rfl (es rfl (es rfl (es rfl (es rfl (es rfl (es rfl (es rfl (es rfl (es rfl (es rfl (es rfl (es rfl l5_26)))))))))))))))
      have l6_37 := lookE hA37 6 (es rfl (es rfl (es rfl (et rfl))))
      have l7_37 := lookE hA37 7 (es rfl (es rfl (et rfl)))
      have l8_37 := lookE hA37 8 (es rfl (et rfl))
      have l9_37 := lookE hA37 9 (et rfl)
      clear hA37 hsz26 hdf26 l0_26 l3_26 l4_26 l5_26 l25_26
      refine then_n (hK29 _ _ ?_)
      clear hK29
      refine wp_seq_k (fun K38 hK38 => ?_)
      refine wp_seq_k (fun K39 hK39 => ?_)
      -- region 9
      refine region_in ?_
      refine W_v rfl rfl (V_mov rfl l9_37) ?_
      refine W_v rfl rfl (V_neq rfl (et rfl) rfl) ?_
      refine W_end ?_
      refine gen_Q (fun A40 hA40 => ?_)
      have hsz40 : SzN A40 171 := by rw [hA40]; infer_instance
      have hdf40 : A40.defers = [] := by rw [hA40]; simp only [df_put]; exact hdf37
      have l0_40 := lookE hA40 0 (es rfl (es rfl l0_37))
      have l3_40 := lookE hA40 3 (es rfl (es rfl l3_37))
      have l4_40 := lookE hA40 4 (es rfl (es rfl l4_37))
      have l5_40 := lookE hA40 5 (es rfl (es rfl l5_37))
      have l6_40 := lookE hA40 6 (es rfl (es rfl l6_37))
      have l7_40 := lookE hA40 7 (es rfl (es rfl l7_37))
      have l8_40 := lookE hA40 8 (es rfl (es rfl l8_37))
      have l9_40 := lookE hA40 9 (es rfl (es rfl l9_37))
      have l40_40 := lookE hA40 40 (et rfl)
      clear hA40 hsz37 hdf37 l0_37 l3_37 l4_37 l5_37 l6_37 l7_37 l8_37 l9_37
      refine then_n (hK39 _ _ ?_)
      clear hK39
      refine cond_dec l40_40 (fun c41 => ?_) (fun c41 => ?_)
      · skip
        obtain ⟨he, hlo, hyo⟩ := act_err hG (by omega) (by omega) c41
        have hlo2 := congrArg List.length hlo
        have hyo2 := congrArg List.length hyo
        simp only [List.length_nil] at hlo2 hyo2
        refine wp_seq_k (fun K42 hK42 => ?_)
        refine wp_seq_k (fun K43 hK43 => ?_)
        -- region 10
        refine region_in ?_
        refine W_v rfl rfl (V_mov rfl l9_40) ?_
        refine W_v rfl rfl (V_neq rfl (et rfl) rfl) ?_
        refine W_split rfl rfl (V_mov rfl (et rfl)) (fun c44 => ?_) (fun c44 => ?_)
        · skip
          refine W_v rfl (wanted_t rfl rfl (et rfl) (ez rfl)) (V_mov rfl (es rfl (es rfl (es rfl l9_40)))) ?_
          refine W_v rfl (wanted_t rfl rfl (es rfl (et rfl)) (ez rfl)) (V_neq rfl (et rfl) rfl) ?_
          refine W_v rfl rfl (V_pickT rfl (es rfl (es rfl (et rfl))) (et rfl)) ?_
          refine W_split rfl rfl (V_mov rfl (et rfl)) (fun c45 => ?_) (fun c45 => ?_)
          · skip
            refine W_v rfl (wanted_t rfl rfl (et rfl) (ez rfl)) (V_mov rfl (es rfl (es rfl (es rfl (es rfl (es rfl (es rfl (es rfl l9_40)))))))) ?_
            refine W_v rfl (wanted_t rfl rfl (es rfl (et rfl)) (ez rfl)) (V_neq rfl (et rfl) rfl) ?_
            refine W_v rfl rfl (V_pickT rfl (es rfl (es rfl (et rfl))) (et rfl)) ?_
            refine W_sure (c' := false) rfl rfl (V_mov rfl (et rfl)) (by rw [decide_eq_false_iff_not]; omega) ?_
            refine W_v rfl (wanted_t rfl rfl (et rfl) (ez rfl)) (V_fa (off' := 0) rfl (es rfl (es rfl (es rfl (es rfl (es rfl (es rfl (es rfl (es rfl (es rfl (es rfl (es rfl l6_40))))))))))) Try.underlying24 rfl (by decide) rfl) ?_
            refine W_r rfl (wanted_t rfl rfl (es rfl (et rfl)) (ez rfl)) (VR_ldC rfl (et rfl) (cell_box (v := v1_31) b32 rfl) Try.underlying22 rfl) ?_
            refine W_v rfl (wanted_t rfl rfl (es rfl (es rfl (et rfl))) (ez rfl)) (V_lenI rfl (et rfl) f1_31.1 Try.underlying22) ?_
            refine W_v rfl (wanted_t rfl rfl (es rfl (es rfl (es rfl (et rfl)))) (ez rfl)) (V_fa (off' := 1) rfl (es rfl (es rfl (es rfl (es rfl (es rfl (es rfl (es rfl (es rfl (es rfl (es rfl (es rfl (es rfl (es rfl (es rfl l6_40)))))))))))))) Try.underlying24 rfl (by decide) rfl) ?_
            refine W_r rfl (wanted_t rfl rfl (es rfl (es rfl (es rfl (es rfl (et rfl))))) (ez rfl)) (VR_ldC rfl (et rfl) (cell_box (v := v2_31) b32 rfl) Try.underlying22 rfl) ?_
            refine W_v rfl (wanted_t rfl rfl (es rfl (es rfl (es rfl (es rfl (es rfl (et rfl)))))) (ez rfl)) (V_lenI rfl (et rfl) f2_31.1 Try.underlying22) ?_
            refine W_v rfl (wanted_t rfl rfl (es rfl (es rfl (es rfl (es rfl (es rfl (es rfl (et rfl))))))) (ez rfl)) (V_add rfl (es rfl (es rfl (es rfl (et rfl)))) (et rfl) (by omega) (by omega)) ?_
            refine W_v rfl (wanted_t rfl rfl (es rfl (es rfl (es rfl (es rfl (es rfl (es rfl (es rfl (et rfl)))))))) (ez rfl)) (V_gtr rfl (et rfl) rfl) ?_
            refine W_v rfl rfl (V_pickF rfl (es rfl (es rfl (es rfl (es rfl (es rfl (es rfl (es rfl (es rfl (et rfl))))))))) (et rfl)) ?_
            refine W_end ?_
            refine gen_Q (fun A46 hA46 => ?_)
            have hsz46 : SzN A46 171 := by rw [hA46]; infer_instance
            have hdf46 : A46.defers = [] := by rw [hA46]; simp only [df_put]; exact hdf40
            have l0_46 := lookE hA46 0 (es rfl (es rfl (es rfl (es rfl (es rfl (es rfl (es rfl (es rfl (es rfl (es rfl (es rfl (es rfl (es rfl (es rfl (es rfl (es rfl (es rfl (es rfl (es rfl (es rfl l0_40))))))))))))))))))))
            have l3_46 := lookE hA46 3 (es rfl (es rfl (es rfl (es rfl (es rfl (es rfl (es rfl (es rfl (es rfl (es rfl (es rfl (es rfl (es rfl (es rfl (es rfl (es rfl (es rfl (es rfl (es rfl (es rfl l3_40))))))))))))))))))))
            have l4_46 := lookE hA46 4 (es rfl (es rfl (es rfl (es rfl (es rfl (es rfl (es rfl (es rfl (es rfl (es rfl (es rfl (es rfl (es rfl (es rfl (es rfl (es rfl (es rfl (es rfl (es rfl (es rfl l4_40))))))))))))))))))))
            have l5_46 := lookE hA46 5 (es rfl (es rfl (es rfl (es rfl (es rfl (es rfl (es rfl (es rfl (es rfl (es rfl (es rfl (es rfl (es rfl (es rfl (es rfl (es rfl (es rfl (es rfl (es rfl (es rfl l5_40))))))))))))))))))))
            have l44_46 := lookE hA46 44 (es rfl (es rfl (es rfl (es rfl (es rfl (es rfl (es rfl (es rfl (es rfl (es rfl (es rfl (es rfl (es rfl (es rfl (es rfl (es rfl (et rfl)))))))))))))))))
            have l45_46 := lookE hA46 45 (es rfl (es rfl (es rfl (es rfl (es rfl (es rfl (es rfl (es rfl (es rfl (es rfl (es rfl (es rfl (es rfl (es rfl (es rfl (et rfl))))))))))))))))
            have l48_46 := lookE hA46 48 (es rfl (es rfl (es rfl (es rfl (es rfl (es rfl (es rfl (es rfl (es rfl (es rfl (es rfl (es rfl (et rfl)))))))))))))
            have l49_46 := lookE hA46 49 (es rfl (es rfl (es rfl (es rfl (es rfl (es rfl (es rfl (es rfl (es rfl (es rfl (es rfl (et rfl))))))))))))
            have l52_46 := lookE hA46 52 (es rfl (es rfl (es rfl (es rfl (es rfl (es rfl (es rfl (es rfl (et rfl)))))))))
            have l53_46 := lookE hA46 53 (es rfl (es rfl (es rfl (es rfl (es rfl (es rfl (es rfl (et rfl))))))))
            have l54_46 := lookE hA46 54 (es rfl (es rfl (es rfl (es rfl (es rfl (es rfl (et rfl)))))))
            have l55_46 := lookE hA46 55 (es rfl (es rfl (es rfl (es rfl (es rfl (et rfl))))))
            have l56_46 := lookE hA46 56 (es rfl (es rfl (es rfl (es rfl (et rfl)))))
            have l57_46 := lookE hA46 57 (es rfl (es rfl (es rfl (et rfl))))
            have l58_46 := lookE hA46 58 (es rfl (es rfl (et rfl)))
            have l59_46 := lookE hA46 59 (es rfl (et rfl))
            have l60_46 := lookE hA46 60 (et rfl)
            clear hA46 hsz40 hdf40 l0_40 l3_40 l4_40 l5_40 l6_40 l7_40 l8_40 l9_40 l40_40
            refine then_n (hK43 _ _ ?_)
            clear hK43
            refine cond_not l60_46 (by rw [decide_eq_false_iff_not]; rw [hlo, hyo]; decide) ?_
            refine wp_skip ?_
            refine then_n (hK42 _ _ ?_)
            clear hK42
            refine wp_exit ?_
            refine then_exit ?_
            refine inb_hit ?_
            refine then_n (hK28 _ _ ?_)
            clear hK28
            -- region 7
            refine region_in ?_
            refine W_v rfl rfl (V_mov rfl l5_46) ?_
            refine W_v rfl rfl (V_add rfl (et rfl) rfl (by omega) (by omega)) ?_
            refine W_v rfl rfl (V_asg rfl (et rfl)) ?_
            refine W_end ?_
            refine gen_Q (fun A47 hA47 => ?_)
            have hsz47 : SzN A47 171 := by rw [hA47]; infer_instance
            have hdf47 : A47.defers = [] := by rw [hA47]; simp only [df_put]; exact hdf46
            have l0_47 := lookE hA47 0 (es rfl (es rfl (es rfl l0_46)))
            have l3_47 := lookE hA47 3 (es rfl (es rfl (es rfl l3_46)))
            have l4_47 := lookE hA47 4 (es rfl (es rfl (es rfl l4_46)))
            have l5_47 := lookE hA47 5 (et rfl)
            have l44_47 := lookE hA47 44 (es rfl (es rfl (es rfl l44_46)))
            have l45_47 := lookE hA47 45 (es rfl (es rfl (es rfl l45_46)))
            have l48_47 := lookE hA47 48 (es rfl (es rfl (es rfl l48_46)))
            have l49_47 := lookE hA47 49 (es rfl (es rfl (es rfl l49_46)))
            have l52_47 := lookE hA47 52 (es rfl (es rfl (es rfl l52_46)))
            have l53_47 := lookE hA47 53 (es rfl (es rfl (es rfl l53_46)))
            have l54_47 := lookE hA47 54 (es rfl (es rfl (es rfl l54_46)))
            have l55_47 := lookE hA47 55 (es rfl (es rfl (es rfl l55_46)))
            have l56_47 := lookE hA47 56 (es rfl (es rfl (es rfl l56_46)))
            have l57_47 := lookE hA47 57 (es rfl (es rfl (es rfl l57_46)))
            have l58_47 := lookE hA47 58 (es rfl (es rfl (es rfl l58_46)))
            have l59_47 := lookE hA47 59 (es rfl (es rfl (es rfl l59_46)))
            clear hA47 hsz46 hdf46 l0_46 l3_46 l4_46 l5_46 l44_46 l45_46 l48_46 l49_46 l52_46 l53_46 l54_46 l55_46 l56_46 l57_46 l58_46 l59_46 l60_46
            refine then_n ⟨acts.length - ((k + 1)), by simp only [hm23]; omega, hsz47, hdf47, hE36, (k + 1), lo, yo, lv, yv, rfl, (by omega), hG, hl1, hl2, hap, ((l5_47).trans (by first | rfl | (simp; done) | (congr 1; omega))), ((l0_47).trans l0_22.symm), ((l3_47).trans l3_22.symm), ((l4_47).trans l4_22.symm), b13, b17, fl, fy⟩
          · skip
            refine W_off rfl (wanted_f rfl rfl (et rfl) (ez rfl) rfl) ?_
            refine W_off rfl (wanted_f rfl rfl (es rfl (et rfl)) (ez rfl) rfl) ?_
            refine W_v rfl rfl (V_pickF rfl (es rfl (es rfl (et rfl))) rfl) ?_
            refine W_v rfl rfl (V_mov rfl (et rfl)) ?_
            refine W_v rfl (wanted_t rfl rfl (et rfl) (ez rfl)) (V_fa (off' := 0) rfl (es rfl (es rfl (es rfl (es rfl (es rfl (es rfl (es rfl (es rfl (es rfl (es rfl (es rfl l6_40))))))))))) Try.underlying24 rfl (by decide) rfl) ?_
            refine W_r rfl (wanted_t rfl rfl (es rfl (et rfl)) (ez rfl)) (VR_ldC rfl (et rfl) (cell_box (v := v1_31) b32 rfl) Try.underlying22 rfl) ?_
            refine W_v rfl (wanted_t rfl rfl (es rfl (es rfl (et rfl))) (ez rfl)) (V_lenI rfl (et rfl) f1_31.1 Try.underlying22) ?_
            refine W_v rfl (wanted_t rfl rfl (es rfl (es rfl (es rfl (et rfl)))) (ez rfl)) (V_fa (off' := 1) rfl (es rfl (es rfl (es rfl (es rfl (es rfl (es rfl (es rfl (es rfl (es rfl (es rfl (es rfl (es rfl (es rfl (es rfl l6_40)))))))))))))) Try.underlying24 rfl (by decide) rfl) ?_
            refine W_r rfl (wanted_t rfl rfl (es rfl (es rfl (es rfl (es rfl (et rfl))))) (ez rfl)) (VR_ldC rfl (et rfl) (cell_box (v := v2_31) b32 rfl) Try.underlying22 rfl) ?_
            refine W_v rfl (wanted_t rfl rfl (es rfl (es rfl (es rfl (es rfl (es rfl (et rfl)))))) (ez rfl)) (V_lenI rfl (et rfl) f2_31.1 Try.underlying22) ?_
            refine W_v rfl (wanted_t rfl rfl (es rfl (es rfl (es rfl (es rfl (es rfl (es rfl (et rfl))))))) (ez rfl)) (V_add rfl (es rfl (es rfl (es rfl (et rfl)))) (et rfl) (by omega) (by omega)) ?_
            refine W_v rfl (wanted_t rfl rfl (es rfl (es rfl (es rfl (es rfl (es rfl (es rfl (es rfl (et rfl)))))))) (ez rfl)) (V_gtr rfl (et rfl) rfl) ?_
            refine W_v rfl rfl (V_pickF rfl (es rfl (es rfl (es rfl (es rfl (es rfl (es rfl (es rfl (es rfl (et rfl))))))))) (et rfl)) ?_
            refine W_end ?_
            refine gen_Q (fun A48 hA48 => ?_)
            have hsz48 : SzN A48 171 := by rw [hA48]; infer_instance
            have hdf48 : A48.defers = [] := by rw [hA48]; simp only [df_put]; exact hdf40
            have l0_48 := lookE hA48 0 (es rfl (es rfl (es rfl (es rfl (es rfl (es rfl (es rfl (es rfl (es rfl (es rfl (es rfl (es rfl (es rfl (es rfl (es rfl (es rfl (es rfl (es rfl (es rfl (es rfl l0_40))))))))))))))))))))
            have l3_48 := lookE hA48 3 (es rfl (es rfl (es rfl (es rfl (es rfl (es rfl (es rfl (es rfl (es rfl (es rfl (es rfl (es rfl (es rfl (es rfl (es rfl (es rfl (es rfl (es rfl (es rfl (es rfl l3_40))))))))))))))))))))
            have l4_48 := lookE hA48 4 (es rfl (es rfl (es rfl (es rfl (es rfl (es rfl (es rfl (es rfl (es rfl (es rfl (es rfl (es rfl (es rfl (es rfl (es rfl (es rfl (es rfl (es rfl (es rfl (es rfl l4_40))))))))))))))))))))
            have l5_48 := lookE hA48 5 (es rfl (es rfl (es rfl (es rfl (es rfl (es rfl (es rfl (es rfl (es rfl (es rfl (es rfl (es rfl (es rfl (es rfl (es rfl (es rfl (es rfl (es rfl (es rfl (es rfl l5_40))))))))))))))))))))
            have l44_48 := lookE hA48 44 (es rfl (es rfl (es rfl (es rfl (es rfl (es rfl (es rfl (es rfl (es rfl (es rfl (es rfl (es rfl (es rfl (es rfl (es rfl (es rfl (et rfl)))))))))))))))))
            have l45_48 := lookE hA48 45 (es rfl (es rfl (es rfl (es rfl (es rfl (es rfl (es rfl (es rfl (es rfl (es rfl (es rfl (es rfl (es rfl (es rfl (es rfl (et rfl))))))))))))))))
            have l48_48 := lookE hA48 48 (es rfl (es rfl (es rfl (es rfl (es rfl (es rfl (es rfl (es rfl (es rfl (es rfl (es rfl (es rfl (et rfl)))))))))))))
            have l49_48 := lookE hA48 49 (es rfl (es rfl (es rfl (es rfl (es rfl (es rfl (es rfl (es rfl (es rfl (es rfl (es rfl (et rfl))))))))))))
            have l52_48 := lookE hA48 52 (es rfl (es rfl (es rfl (es rfl (es rfl (es rfl (es rfl (es rfl (et rfl)))))))))
            have l53_48 := lookE hA48 53 (es rfl (es rfl (es rfl (es rfl (es rfl (es rfl (es rfl (et rfl))))))))
            have l54_48 := lookE hA48 54 (es rfl (es rfl (es rfl (es rfl (es rfl (es rfl (et rfl)))))))
            have l55_48 := lookE hA48 55 (es rfl (es rfl (es rfl (es rfl (es rfl (et rfl))))))
            have l56_48 := lookE hA48 56 (es rfl (es rfl (es rfl (es rfl (et rfl)))))
            have l57_48 := lookE hA48 57 (es rfl (es rfl (es rfl (et rfl))))
            have l58_48 := lookE hA48 58 (es rfl (es rfl (et rfl)))
            have l59_48 := lookE hA48 59 (es rfl (et rfl))
            have l60_48 := lookE hA48 60 (et rfl)
            clear hA48 hsz40 hdf40 l0_40 l3_40 l4_40 l5_40 l6_40 l7_40 l8_40 l9_40 l40_40
            refine then_n (hK43 _ _ ?_)
            clear hK43
            refine cond_not l60_48 (by rw [decide_eq_false_iff_not]; rw [hlo, hyo]; decide) ?_
            refine wp_skip ?_
            refine then_n (hK42 _ _ ?_)
            clear hK42
            refine wp_exit ?_
            refine then_exit ?_
            refine inb_hit ?_
            refine then_n (hK28 _ _ ?_)
            clear hK28
            -- region 7
            refine region_in ?_
            refine W_v rfl rfl (V_mov rfl l5_48) ?_
            refine W_v rfl rfl (V_add rfl (et rfl) rfl (by omega) (by omega)) ?_
            refine W_v rfl rfl (V_asg rfl (et rfl)) ?_
            refine W_end ?_
            refine gen_Q (fun A49 hA49 => ?_)
            have hsz49 : SzN A49 171 := by rw [hA49]; infer_instance
            have hdf49 : A49.defers = [] := by rw [hA49]; simp only [df_put]; exact hdf48
            have l0_49 := lookE hA49 0 (es rfl (es rfl (es rfl l0_48)))
            have l3_49 := lookE hA49 3 (es rfl (es rfl (es rfl l3_48)))
            have l4_49 := lookE hA49 4 (es rfl (es rfl (es rfl l4_48)))
            have l5_49 := lookE hA49 5 (et rfl)
            have l44_49 := lookE hA49 44 (es rfl (es rfl (es rfl l44_48)))
            have l45_49 := lookE hA49 45 (es rfl (es rfl (es rfl l45_48)))
            have l48_49 := lookE hA49 48 (es rfl (es rfl (es rfl l48_48)))
            have l49_49 := lookE hA49 49 (es rfl (es rfl (es rfl l49_48)))
            have l52_49 := lookE hA49 52 (es rfl (es rfl (es rfl l52_48)))
            have l53_49 := lookE hA49 53 (es rfl (es rfl (es rfl l53_48)))
            have l54_49 := lookE hA49 54 (es rfl (es rfl (es rfl l54_48)))
            have l55_49 := lookE hA49 55 (es rfl (es rfl (es rfl l55_48)))
            have l56_49 := lookE hA49 56 (es rfl (es rfl (es rfl l56_48)))
            have l57_49 := lookE hA49 57 (es rfl (es rfl (es rfl l57_48)))
            have l58_49 := lookE hA49 58 (es rfl (es rfl (es rfl l58_48)))
            have l59_49 := lookE hA49 59 (es rfl (es rfl (es rfl l59_48)))
            clear hA49 hsz48 hdf48 l0_48 l3_48 l4_48 l5_48 l44_48 l45_48 l48_48 l49_48 l52_48 l53_48 l54_48 l55_48 l56_48 l57_48 l58_48 l59_48 l60_48
            refine then_n ⟨acts.length - ((k + 1)), by simp only [hm23]; omega, hsz49, hdf49, hE36, (k + 1), lo, yo, lv, yv, rfl, (by omega), hG, hl1, hl2, hap, ((l5_49).trans (by first | rfl | (simp; done) | (congr 1; omega))), ((l0_49).trans l0_22.symm), ((l3_49).trans l3_22.symm), ((l4_49).trans l4_22.symm), b13, b17, fl, fy⟩
        · skip
          refine W_off rfl (wanted_f rfl rfl (et rfl) (ez rfl) rfl) ?_
          refine W_off rfl (wanted_f rfl rfl (es rfl (et rfl)) (ez rfl) rfl) ?_
          refine W_v rfl rfl (V_pickF rfl (es rfl (es rfl (et rfl))) rfl) ?_
          refine W_v rfl rfl (V_mov rfl (et rfl)) ?_
          refine W_off rfl (wanted_f rfl rfl (et rfl) (ez rfl) rfl) ?_
          refine W_off rfl (wanted_f rfl rfl (es rfl (et rfl)) (ez rfl) rfl) ?_
          refine W_v rfl rfl (V_pickF rfl (es rfl (es rfl (et rfl))) rfl) ?_
          refine W_v rfl rfl (V_mov rfl (et rfl)) ?_
          refine W_v rfl (wanted_t rfl rfl (et rfl) (ez rfl)) (V_fa (off' := 0) rfl (es rfl (es rfl (es rfl (es rfl (es rfl (es rfl (es rfl (es rfl (es rfl (es rfl (es rfl l6_40))))))))))) Try.underlying24 rfl (by decide) rfl) ?_
          refine W_r rfl (wanted_t rfl rfl (es rfl (et rfl)) (ez rfl)) (VR_ldC rfl (et rfl) (cell_box (v := v1_31) b32 rfl) Try.underlying22 rfl) ?_
          refine W_v rfl (wanted_t rfl rfl (es rfl (es rfl (et rfl))) (ez rfl)) (V_lenI rfl (et rfl) f1_31.1 Try.underlying22) ?_
          refine W_v rfl (wanted_t rfl rfl (es rfl (es rfl (es rfl (et rfl)))) (ez rfl)) (V_fa (off' := 1) rfl (es rfl (es rfl (es rfl (es rfl (es rfl (es rfl (es rfl (es rfl (es rfl (es rfl (es rfl (es rfl (es rfl (es rfl l6_40)))))))))))))) Try.underlying24 rfl (by decide) rfl) ?_
          refine W_r rfl (wanted_t rfl rfl (es rfl (es rfl (es rfl (es rfl (et rfl))))) (ez rfl)) (VR_ldC rfl (et rfl) (cell_box (v := v2_31) b32 rfl) Try.underlying22 rfl) ?_
          refine W_v rfl (wanted_t rfl rfl (es rfl (es rfl (es rfl (es rfl (es rfl (et rfl)))))) (ez rfl)) (V_lenI rfl (et rfl) f2_31.1 Try.underlying22) ?_
          refine W_v rfl (wanted_t rfl rfl (es rfl (es rfl (es rfl (es rfl (es rfl (es rfl (et rfl))))))) (ez rfl)) (V_add rfl (es rfl (es rfl (es rfl (et rfl)))) (et rfl) (by omega) (by omega)) ?_
          refine W_v rfl (wanted_t rfl rfl (es rfl (es rfl (es rfl (es rfl (es rfl (es rfl (es rfl (et rfl)))))))) (ez rfl)) (V_gtr rfl (et rfl) rfl) ?_
          refine W_v rfl rfl (V_pickF rfl (es rfl (es rfl (es rfl (es rfl (es rfl (es rfl (es rfl (es rfl (et rfl))))))))) (et rfl)) ?_
          refine W_end ?_
          refine gen_Q (fun A50 hA50 => ?_)
          have hsz50 : SzN A50 171 := by rw [hA50]; infer_instance
          have hdf50 : A50.defers = [] := by rw [hA50]; simp only [df_put]; exact hdf40
          have l0_50 := lookE hA50 0 (es rfl (es rfl (es rfl (es rfl (es rfl (es rfl (es rfl (es rfl (es rfl (es rfl (es rfl (es rfl (es rfl (es rfl (es rfl (es rfl (es rfl (es rfl (es rfl (es rfl l0_40))))))))))))))))))))
          have l3_50 := lookE hA50 3 (es rfl (es rfl (es rfl (es rfl (es rfl (es rfl (es rfl (es rfl (es rfl (es rfl (es rfl (es rfl (es rfl (es rfl (es rfl (es rfl (es rfl (es rfl (es rfl (es rfl l3_40))))))))))))))))))))
          have l4_50 := lookE hA50 4 (es rfl (es rfl (es rfl (es rfl (es rfl (es rfl (es rfl (es rfl (es rfl (es rfl (es rfl (es rfl (es rfl (es rfl (es rfl (es rfl (es rfl (es rfl (es rfl (es rfl l4_40))))))))))))))))))))
          have l5_50 := lookE hA50 5 (es rfl (es rfl (es rfl (es rfl (es rfl (es rfl (es rfl (es rfl (es rfl (es rfl (es rfl (es rfl (es rfl (es rfl (es rfl (es rfl (es rfl (es rfl (es rfl (es rfl l5_40))))))))))))))))))))
          have l44_50 := lookE hA50 44 (es rfl (es rfl (es rfl (es rfl (es rfl (es rfl (es rfl (es rfl (es rfl (es rfl (es rfl (es rfl (es rfl (es rfl (es rfl (es rfl (et rfl)))))))))))))))))
          have l45_50 := lookE hA50 45 (es rfl (es rfl (es rfl (es rfl (es rfl (es rfl (es rfl (es rfl (es rfl (es rfl (es rfl (es rfl (es rfl (es rfl (es rfl (et rfl))))))))))))))))
          have l48_50 := lookE hA50 48 (es rfl (es rfl (es rfl (es rfl (es rfl (es rfl (es rfl (es rfl (es rfl (es rfl (es rfl (es rfl (et rfl)))))))))))))
          have l49_50 := lookE hA50 49 (es rfl (es rfl (es rfl (es rfl (es rfl (es rfl (es rfl (es rfl (es rfl (es rfl (es rfl (et rfl))))))))))))
          have l52_50 := lookE hA50 52 (es rfl (es rfl (es rfl (es rfl (es rfl (es rfl (es rfl (es rfl (et rfl)))))))))
          have l53_50 := lookE hA50 53 (es rfl (es rfl (es rfl (es rfl (es rfl (es rfl (es rfl (et rfl))))))))
          have l54_50 := lookE hA50 54 (es rfl (es rfl (es rfl (es rfl (es rfl (es rfl (et rfl)))))))
          have l55_50 := lookE hA50 55 (es rfl (es rfl (es rfl (es rfl (es rfl (et rfl))))))
          have l56_50 := lookE hA50 56 (es rfl (es rfl (es rfl (es rfl (et rfl)))))
          have l57_50 := lookE hA50 57 (es rfl (es rfl (es rfl (et rfl))))
          have l58_50 := lookE hA50 58 (es rfl (es rfl (et rfl)))
          have l59_50 := lookE hA50 59 (es rfl (et rfl))
          have l60_50 := lookE hA50 60 (et rfl)
          clear hA50 hsz40 hdf40 l0_40 l3_40 l4_40 l5_40 l6_40 l7_40 l8_40 l9_40 l40_40
          refine then_n (hK43 _ _ ?_)
          clear hK43
          refine cond_not l60_50 (by rw [decide_eq_false_iff_not]; rw [hlo, hyo]; decide) ?_
          refine wp_skip ?_
          refine then_n (hK42 _ _ ?_)
          clear hK42
          refine wp_exit ?_
          refine then_exit ?_
          refine inb_hit ?_
          refine then_n (hK28 _ _ ?_)
          clear hK28
          -- region 7
          refine region_in ?_
          refine W_v rfl rfl (V_mov rfl l5_50) ?_
          refine W_v rfl rfl (V_add rfl (et rfl) rfl (by omega) (by omega)) ?_
          refine W_v rfl rfl (V_asg rfl (et rfl)) ?_
          refine W_end ?_
          refine gen_Q (fun A51 hA51 => ?_)
          have hsz51 : SzN A51 171 := by rw [hA51]; infer_instance
          have hdf51 : A51.defers = [] := by rw [hA51]; simp only [df_put]; exact hdf50
          have l0_51 := lookE hA51 0 (es rfl (es rfl (es rfl l0_50)))
          have l3_51 := lookE hA51 3 (es rfl (es rfl (es rfl l3_50)))
          have l4_51 := lookE hA51 4 (es rfl (es rfl (es rfl l4_50)))
          have l5_51 := lookE hA51 5 (et rfl)
          have l44_51 := lookE hA51 44 (es rfl (es rfl (es rfl l44_50)))
          have l45_51 := lookE hA51 45 (es rfl (es rfl (es rfl l45_50)))
          have l48_51 := lookE hA51 48 (es rfl (es rfl (es rfl l48_50)))
          have l49_51 := lookE hA51 49 (es rfl (es rfl (es rfl l49_50)))
          have l52_51 := lookE hA51 52 (es rfl (es rfl (es rfl l52_50)))
          have l53_51 := lookE hA51 53 (es rfl (es rfl (es rfl l53_50)))
          have l54_51 := lookE hA51 54 (es rfl (es rfl (es rfl l54_50)))
          have l55_51 := lookE hA51 55 (es rfl (es rfl (es rfl l55_50)))
          have l56_51 := lookE hA51 56 (es rfl (es rfl (es rfl l56_50)))
          have l57_51 := lookE hA51 57 (es rfl (es rfl (es rfl l57_50)))
          have l58_51 := lookE hA51 58 (es rfl (es rfl (es rfl l58_50)))
          have l59_51 := lookE hA51 59 (es rfl (es rfl (es rfl l59_50)))
          clear hA51 hsz50 hdf50 l0_50 l3_50 l4_50 l5_50 l44_50 l45_50 l48_50 l49_50 l52_50 l53_50 l54_50 l55_50 l56_50 l57_50 l58_50 l59_50 l60_50
          refine then_n ⟨acts.length - ((k + 1)), by simp only [hm23]; omega, hsz51, hdf51, hE36, (k + 1), lo, yo, lv, yv, rfl, (by omega), hG, hl1, hl2, hap, ((l5_51).trans (by first | rfl | (simp; done) | (congr 1; omega))), ((l0_51).trans l0_22.symm), ((l3_51).trans l3_22.symm), ((l4_51).trans l4_22.symm), b13, b17, fl, fy⟩
      · skip
        have hA := act_ok hG (by omega) (by omega) c41
        have hgl := good_len1 hA.gone
        obtain ⟨hgl1, hgl2⟩ := good_len hA.good
        refine wp_skip ?_
        refine then_n (hK38 _ _ ?_)
        clear hK38
        refine wp_seq_k (fun K52 hK52 => ?_)
        refine wp_seq_k (fun K53 hK53 => ?_)
        -- region 12
        refine region_in ?_
        refine W_v rfl rfl (V_asg rfl rfl) ?_
        refine W_end ?_
        refine gen_Q (fun A54 hA54 => ?_)
        have hsz54 : SzN A54 171 := by rw [hA54]; infer_instance
        have hdf54 : A54.defers = [] := by rw [hA54]; simp only [df_put]; exact hdf40
        have l0_54 := lookE hA54 0 (es rfl l0_40)
        have l3_54 := lookE hA54 3 (es rfl l3_40)
        have l4_54 := lookE hA54 4 (es rfl l4_40)
        have l5_54 := lookE hA54 5 (es rfl l5_40)
        have l6_54 := lookE hA54 6 (es rfl l6_40)
        have l7_54 := lookE hA54 7 (es rfl l7_40)
        have l8_54 := lookE hA54 8 (es rfl l8_40)
        have l10_54 := lookE hA54 10 (et rfl)
        clear hA54 hsz40 hdf40 l0_40 l3_40 l4_40 l5_40 l6_40 l7_40 l8_40 l9_40 l40_40
        refine then_n (hK53 _ _ ?_)
        clear hK53
        refine wp_block ?_
        -- loop 13
        refine loopX (fun mz A' w' => SzN A' 171 ∧ A'.defers = [] ∧ Ext w w' ∧ (∃ (j : Nat), (mz = (actS lo yo y0.1 y0.2.1 y0.2.2).gone.length - j) ∧ (j ≤ (actS lo yo y0.1 y0.2.1 y0.2.2).gone.length) ∧ (EV A' (.tmp 10) = .int .i64 (j : Int)) ∧ (EV A' (.tmp 0) = EV A54 (.tmp 0)) ∧ (EV A' (.tmp 3) = EV A54 (.tmp 3)) ∧ (EV A' (.tmp 4) = EV A54 (.tmp 4)) ∧ (EV A' (.tmp 5) = EV A54 (.tmp 5)) ∧ (EV A' (.tmp 6) = EV A54 (.tmp 6)) ∧ (EV A' (.tmp 7) = EV A54 (.tmp 7)) ∧ (EV A' (.tmp 8) = EV A54 (.tmp 8)) ∧ (w'.heap[g13]? = some (.cells #[lv, yv] 24 (0, 0))) ∧ (w'.heap[g17]? = some (.cells (arrI .i64 (cntD (lo ++ yo) ((actS lo yo y0.1 y0.2.1 y0.2.2).gone.take j))) 39 (0, 0))) ∧ (w'.heap[g32]? = some (.cells #[v1_31, v2_31] 24 (0, 0))) ∧ (FreI w' w.heap.size 3 (lv) (lo)) ∧ (FreI w' w.heap.size 3 (yv) (yo)) ∧ (FreI w' w.heap.size 3 (v1_31) (((actS lo yo y0.1 y0.2.1 y0.2.2).lo))) ∧ (FreI w' w.heap.size 3 (v2_31) (((actS lo yo y0.1 y0.2.1 y0.2.2).yo))) ∧ (FreI w' w.heap.size 3 (u_31) (((actS lo yo y0.1 y0.2.1 y0.2.2).gone))))) ((actS lo yo y0.1 y0.2.1 y0.2.2).gone.length - (0)) ⟨hsz54, hdf54, hE36, 0, rfl, (Nat.zero_le _), ((l10_54).trans (by first | rfl | (simp; done) | (congr 1; omega))), rfl, rfl, rfl, rfl, rfl, rfl, rfl, b13, (((cntD_nil (lo ++ yo) (actS lo yo y0.1 y0.2.1 y0.2.2).gone)) ▸ b17), b32, fl, fy, f1_31, f2_31, f3_31⟩ ?_
        clear b13 b17 b32 fl fy f1_31 f2_31 f3_31
        rintro n55 A55 w55 ⟨hsz55, hdf55, hE55, j, hm55, hj, l10_55, u0_55, u3_55, u4_55, u5_55, u6_55, u7_55, u8_55, b13, b17, b32, fl, fy, f1_31, f2_31, f3_31⟩
        have l0_55 := u0_55.trans l0_54
        have l3_55 := u3_55.trans l3_54
        have l4_55 := u4_55.trans l4_54
        have l5_55 := u5_55.trans l5_54
        have l6_55 := u6_55.trans l6_54
        have l7_55 := u7_55.trans l7_54
        have l8_55 := u8_55.trans l8_54
        refine wp_seq_k (fun K56 hK56 => ?_)
        refine wp_seq_k (fun K57 hK57 => ?_)
        -- region 13
        refine region_in ?_
        refine W_v rfl rfl (V_mov rfl l10_55) ?_
        refine W_v rfl rfl (V_mov rfl (es rfl l7_55)) ?_
        refine W_v rfl rfl (V_lenI rfl (et rfl) f3_31.1 Try.underlying22) ?_
        refine W_v rfl rfl (V_lss rfl (es rfl (es rfl (et rfl))) (et rfl)) ?_
        refine W_end ?_
        refine gen_Q (fun A58 hA58 => ?_)
        have hsz58 : SzN A58 171 := by rw [hA58]; infer_instance
        have hdf58 : A58.defers = [] := by rw [hA58]; simp only [df_put]; exact hdf55
        have l0_58 := lookE hA58 0 (es rfl (es rfl (es rfl (es rfl l0_55))))
        have l3_58 := lookE hA58 3 (es rfl (es rfl (es rfl (es rfl l3_55))))
        have l4_58 := lookE hA58 4 (es rfl (es rfl (es rfl (es rfl l4_55))))
        have l5_58 := lookE hA58 5 (es rfl (es rfl (es rfl (es rfl l5_55))))
        have l6_58 := lookE hA58 6 (es rfl (es rfl (es rfl (es rfl l6_55))))
        have l7_58 := lookE hA58 7 (es rfl (es rfl (es rfl (es rfl l7_55))))
        have l8_58 := lookE hA58 8 (es rfl (es rfl (es rfl (es rfl l8_55))))
        have l10_58 := lookE hA58 10 (es rfl (es rfl (es rfl (es rfl l10_55))))
        have l64_58 := lookE hA58 64 (et rfl)
        clear hA58 hsz55 hdf55 l10_55 l0_55 l3_55 l4_55 l5_55 l6_55 l7_55 l8_55
        refine then_n (hK57 _ _ ?_)
        clear hK57
        refine cond_dec l64_58 (fun c59 => ?_) (fun c59 => ?_)
        · skip
          refine wp_skip ?_
          refine then_n (hK56 _ _ ?_)
          clear hK56
          refine wp_seq_k (fun K60 hK60 => ?_)
          refine wp_block ?_
          refine wp_seq_k (fun K61 hK61 => ?_)
          refine wp_seq_k (fun K62 hK62 => ?_)
          -- region 15
          refine region_in ?_
          refine W_v rfl rfl (V_mov rfl l7_58) ?_
          refine W_v rfl rfl (V_mov rfl (es rfl l10_58)) ?_
          have k63 : j < ((actS lo yo y0.1 y0.2.1 y0.2.2).gone).length := by omega
          obtain ⟨B63, O63, C63, y63, hv63, hy63, hc63⟩ := at_ints f3_31.1 (j) k63
          have hgb63 := hA.gone.2 _ (List.mem_of_getElem? hy63)
          refine W_v rfl rfl (V_idx (j) rfl (es rfl (et rfl)) (et rfl) hv63 (by omega) k63 Try.underlying22 (by kernel_rfl)) ?_
          refine W_r rfl rfl (VR_ldC rfl (et rfl) hc63 Try.underlying3 rfl) ?_
          refine W_v rfl rfl (V_lss rfl (et rfl) rfl) ?_
          refine W_sure (c' := false) rfl rfl (V_mov rfl (et rfl)) (by rw [decide_eq_false_iff_not]; omega) ?_
          refine W_v rfl (wanted_t rfl rfl (et rfl) (ez rfl)) (V_mov rfl (es rfl (es rfl (es rfl (es rfl (es rfl (es rfl l7_58))))))) ?_
          refine W_v rfl (wanted_t rfl rfl (es rfl (et rfl)) (ez rfl)) (V_mov rfl (es rfl (es rfl (es rfl (es rfl (es rfl (es rfl (es rfl l10_58)))))))) ?_
          have hc64 := at_cell f3_31.1 hv63 hy63
          refine W_v rfl (wanted_t rfl rfl (es rfl (es rfl (et rfl))) (ez rfl)) (V_idx (j) rfl (es rfl (et rfl)) (et rfl) hv63 (by omega) k63 Try.underlying22 (by kernel_rfl)) ?_
          refine W_r rfl (wanted_t rfl rfl (es rfl (es rfl (es rfl (et rfl)))) (ez rfl)) (VR_ldC rfl (et rfl) hc64 Try.underlying3 rfl) ?_
          refine W_v rfl (wanted_t rfl rfl (es rfl (es rfl (es rfl (es rfl (et rfl))))) (ez rfl)) (V_geq rfl (et rfl) rfl) ?_
          refine W_v rfl rfl (V_pickF rfl (es rfl (es rfl (es rfl (es rfl (es rfl (et rfl)))))) (et rfl)) ?_
          refine W_end ?_
          refine gen_Q (fun A65 hA65 => ?_)
          have hsz65 : SzN A65 171 := by rw [hA65]; infer_instance
          have hdf65 : A65.defers = [] := by rw [hA65]; simp only [df_put]; exact hdf58
          have l0_65 := lookE hA65 0 (es rfl (es rfl (es rfl (es rfl (es rfl (es rfl (es rfl (es rfl (es rfl (es rfl (es rfl (es rfl l0_58))))))))))))
          have l3_65 := lookE hA65 3 (es rfl (es rfl (es rfl (es rfl (es rfl (es rfl (es rfl (es rfl (es rfl (es rfl (es rfl (es rfl l3_58))))))))))))
          have l4_65 := lookE hA65 4 (es rfl (es rfl (es rfl (es rfl (es rfl (es rfl (es rfl (es rfl (es rfl (es rfl (es rfl (es rfl l4_58))))))))))))
          have l5_65 := lookE hA65 5 (es rfl (es rfl (es rfl (es rfl (es rfl (es rfl (es rfl (es rfl (es rfl (es rfl (es rfl (es rfl l5_58))))))))))))
          have l6_65 := lookE hA65 6 (es rfl (es rfl (es rfl (es rfl (es rfl (es rfl (es rfl (es rfl (es rfl (es rfl (es rfl (es rfl l6_58))))))))))))
          have l7_65 := lookE hA65 7 (es rfl (es rfl (es rfl (es rfl (es rfl (es rfl (es rfl (es rfl (es rfl (es rfl (es rfl (es rfl l7_58))))))))))))
          have l8_65 := lookE hA65 8 (es rfl (es rfl (es rfl (es rfl (es rfl (es rfl (es rfl (es rfl (es rfl (es rfl (es rfl (es rfl l8_58))))))))))))
          have l10_65 := lookE hA65 10 (es rfl (es rfl (es rfl (es rfl (es rfl (es rfl (es rfl (es rfl (es rfl (es rfl (es rfl (es rfl l10_58))))))))))))
          have l73_65 := lookE hA65 73 (es rfl (es rfl (es rfl (es rfl (es rfl (et rfl))))))
          have l74_65 := lookE hA65 74 (es rfl (es rfl (es rfl (es rfl (et rfl)))))
          have l75_65 := lookE hA65 75 (es rfl (es rfl (es rfl (et rfl))))
          have l76_65 := lookE hA65 76 (es rfl (es rfl (et rfl)))
          have l77_65 := lookE hA65 77 (es rfl (et rfl))
          have l78_65 := lookE hA65 78 (et rfl)
          clear hA65 hsz58 hdf58 l0_58 l3_58 l4_58 l5_58 l6_58 l7_58 l8_58 l10_58 l64_58
          refine then_n (hK62 _ _ ?_)
          clear hK62
          refine cond_not l78_65 (by rw [decide_eq_false_iff_not]; omega) ?_
          refine wp_skip ?_
          refine then_n (hK61 _ _ ?_)
          clear hK61
          -- region 17
          refine region_in ?_
          refine W_v rfl rfl (V_mov rfl l7_65) ?_
          refine W_v rfl rfl (V_mov rfl (es rfl l10_65)) ?_
          have hc66 := at_cell f3_31.1 hv63 hy63
          refine W_v rfl rfl (V_idx (j) rfl (es rfl (et rfl)) (et rfl) hv63 (by omega) k63 Try.underlying22 (by kernel_rfl)) ?_
          refine W_r rfl rfl (VR_ldC rfl (et rfl) hc66 Try.underlying3 rfl) ?_
          have k67 : (y63).toNat < 24 := by omega
          refine W_v rfl rfl (V_ixA (sz := 1) (off' := (y63).toNat) ((y63).toNat) rfl (es rfl (es rfl (es rfl (es rfl l4_65)))) (et rfl) (by omega) Try.underlying39 k67 (by kernel_rfl) (by omega)) ?_
          obtain ⟨y68, hy68⟩ := some_get (ns := cntD (lo ++ yo) ((actS lo yo y0.1 y0.2.1 y0.2.2).gone.take j)) (i := (y63).toNat) (cntD_len _ _) k67
          obtain ⟨hb68, hd68⟩ := cntD_bd hy68
          have hf68 := List.length_take_le j (actS lo yo y0.1 y0.2.1 y0.2.2).gone
          refine W_r rfl rfl (VR_ldC rfl (et rfl) (cell_box b17 (arrI_get hy68)) Try.underlying3 rfl) ?_
          refine W_v rfl rfl (V_sb rfl (et rfl) rfl (by omega) (by omega)) ?_
          have k69 : (y63).toNat < 24 := by omega
          refine W_v rfl rfl (V_ixA (sz := 1) (off' := (y63).toNat) ((y63).toNat) rfl (es rfl (es rfl (es rfl (es rfl (es rfl (es rfl (es rfl l4_65))))))) (es rfl (es rfl (es rfl (et rfl)))) (by omega) Try.underlying39 k69 (by kernel_rfl) (by omega)) ?_
          refine W_stC rfl rfl rfl (et rfl) (es rfl (et rfl)) (by rfl) b17 (arrI_lt (cntD_len _ _) k69) (by kernel_rfl) (arrI_set _ _ _ _) (fun w70 ht70 hb70 => ?_)
          have hE71 := ext_tch hE55 ht70 oB_17
          replace fl := fl.tch ht70 b17 rfl
          replace fy := fy.tch ht70 b17 rfl
          replace f1_31 := f1_31.tch ht70 b17 rfl
          replace f2_31 := f2_31.tch ht70 b17 rfl
          replace f3_31 := f3_31.tch ht70 b17 rfl
          replace b13 := box_tch b13 ht70 (Nat.ne_of_lt o13_17)
          replace b32 := box_tch b32 ht70 (Nat.ne_of_gt o17_32)
          replace b17 := hb70
          have hlen70 : ((cntD (lo ++ yo) ((actS lo yo y0.1 y0.2.1 y0.2.2).gone.take j)).set (y63).toNat (y68 - 1)).length = 24 := by rw [List.length_set]; exact (cntD_len _ _)
          refine W_end ?_
          refine gen_Q (fun A72 hA72 => ?_)
          have hsz72 : SzN A72 171 := by rw [hA72]; infer_instance
          have hdf72 : A72.defers = [] := by rw [hA72]; simp only [df_put]; exact hdf65
          have l0_72 := lookE hA72 0 (es rfl (es rfl (es rfl (es rfl (es rfl (es rfl (es rfl (es rfl l0_65))))))))
          have l3_72 := lookE hA72 3 (es rfl (es rfl (es rfl (es rfl (es rfl (es rfl (es rfl (es rfl l3_65))))))))
          have l4_72 := lookE hA72 4 (es rfl (es rfl (es rfl (es rfl (es rfl (es rfl (es rfl (es rfl l4_65))))))))
          have l5_72 := lookE hA72 5 (es rfl (es rfl (es rfl (es rfl (es rfl (es rfl (es rfl (es rfl l5_65))))))))
          have l6_72 := lookE hA72 6 (es rfl (es rfl (es rfl (es rfl (es rfl (es rfl (es rfl (es rfl l6_65))))))))
          have l7_72 := lookE hA72 7 (es rfl (es rfl (es rfl (es rfl (es rfl (es rfl (es rfl (es rfl l7_65))))))))
          have l8_72 := lookE hA72 8 (es rfl (es rfl (es rfl (es rfl (es rfl (es rfl (es rfl (es rfl l8_65))))))))
          have l10_72 := lookE hA72 10 (es rfl (es rfl (es rfl (es rfl (es rfl (es rfl (es rfl (es rfl l10_65))))))))
          have l73_72 := lookE hA72 73 (es rfl (es rfl (es rfl (es rfl (es rfl (es rfl (es rfl (es rfl l73_65))))))))
          have l74_72 := lookE hA72 74 (es rfl (es rfl (es rfl (es rfl (es rfl (es rfl (es rfl (es rfl l74_65))))))))
          have l75_72 := lookE hA72 75 (es rfl (es rfl (es rfl (es rfl (es rfl (es rfl (es rfl (es rfl l75_65))))))))
          have l76_72 := lookE hA72 76 (es rfl (es rfl (es rfl (es rfl (es rfl (es rfl (es rfl (es rfl l76_65))))))))
          have l77_72 := lookE hA72 77 (es rfl (es rfl (es rfl (es rfl (es rfl (es rfl (es rfl (es rfl l77_65))))))))
          clear hA72 hsz65 hdf65 l0_65 l3_65 l4_65 l5_65 l6_65 l7_65 l8_65 l10_65 l73_65 l74_65 l75_65 l76_65 l77_65 l78_65
          refine inb_n ?_
          refine then_n (hK60 _ _ ?_)
          clear hK60
          -- region 14
          refine region_in ?_
          refine W_v rfl rfl (V_mov rfl l10_72) ?_
          refine W_v rfl rfl (V_add rfl (et rfl) rfl (by omega) (by omega)) ?_
          refine W_v rfl rfl (V_asg rfl (et rfl)) ?_
          refine W_end ?_
          refine gen_Q (fun A73 hA73 => ?_)
          have hsz73 : SzN A73 171 := by rw [hA73]; infer_instance
          have hdf73 : A73.defers = [] := by rw [hA73]; simp only [df_put]; exact hdf72
          have l0_73 := lookE hA73 0 (es rfl (es rfl (es rfl l0_72)))
          have l3_73 := lookE hA73 3 (es rfl (es rfl (es rfl l3_72)))
          have l4_73 := lookE hA73 4 (es rfl (es rfl (es rfl l4_72)))
          have l5_73 := lookE hA73 5 (es rfl (es rfl (es rfl l5_72)))
          have l6_73 := lookE hA73 6 (es rfl (es rfl (es rfl l6_72)))
          have l7_73 := lookE hA73 7 (es rfl (es rfl (es rfl l7_72)))
          have l8_73 := lookE hA73 8 (es rfl (es rfl (es rfl l8_72)))
          have l10_73 := lookE hA73 10 (et rfl)
          have l73_73 := lookE hA73 73 (es rfl (es rfl (es rfl l73_72)))
          have l74_73 := lookE hA73 74 (es rfl (es rfl (es rfl l74_72)))
          have l75_73 := lookE hA73 75 (es rfl (es rfl (es rfl l75_72)))
          have l76_73 := lookE hA73 76 (es rfl (es rfl (es rfl l76_72)))
          have l77_73 := lookE hA73 77 (es rfl (es rfl (es rfl l77_72)))
          clear hA73 hsz72 hdf72 l0_72 l3_72 l4_72 l5_72 l6_72 l7_72 l8_72 l10_72 l73_72 l74_72 l75_72 l76_72 l77_72
          refine then_n ⟨(actS lo yo y0.1 y0.2.1 y0.2.2).gone.length - ((j + 1)), by simp only [hm55]; omega, hsz73, hdf73, hE71, (j + 1), rfl, (by omega), ((l10_73).trans (by first | rfl | (simp; done) | (congr 1; omega))), ((l0_73).trans l0_54.symm), ((l3_73).trans l3_54.symm), ((l4_73).trans l4_54.symm), ((l5_73).trans l5_54.symm), ((l6_73).trans l6_54.symm), ((l7_73).trans l7_54.symm), ((l8_73).trans l8_54.symm), b13, (((cntD_hit (g := (actS lo yo y0.1 y0.2.1 y0.2.2).gone) (k := j) hy63 (by omega) (by omega) hy68)) ▸ b17), b32, fl, fy, f1_31, f2_31, f3_31⟩
        · skip
          refine wp_exit ?_
          refine then_exit ?_
          refine then_exit ?_
          refine inb_hit ?_
          refine then_n (hK52 _ _ ?_)
          clear hK52
          refine wp_seq_k (fun K74 hK74 => ?_)
          refine wp_seq_k (fun K75 hK75 => ?_)
          -- region 18
          refine region_in ?_
          refine W_v rfl rfl (V_mov rfl l8_58) ?_
          refine W_v rfl rfl (V_geq rfl (et rfl) rfl) ?_
          refine W_end ?_
          refine gen_Q (fun A76 hA76 => ?_)
          have hsz76 : SzN A76 171 := by rw [hA76]; infer_instance
          have hdf76 : A76.defers = [] := by rw [hA76]; simp only [df_put]; exact hdf58
          have l0_76 := lookE hA76 0 (es rfl (es rfl l0_58))
          have l3_76 := lookE hA76 3 (es rfl (es rfl l3_58))
          have l4_76 := lookE hA76 4 (es rfl (es rfl l4_58))
          have l5_76 := lookE hA76 5 (es rfl (es rfl l5_58))
          have l6_76 := lookE hA76 6 (es rfl (es rfl l6_58))
          have l8_76 := lookE hA76 8 (es rfl (es rfl l8_58))
          have l88_76 := lookE hA76 88 (et rfl)
          clear hA76 hsz58 hdf58 l0_58 l3_58 l4_58 l5_58 l6_58 l7_58 l8_58 l10_58 l64_58
          refine then_n (hK75 _ _ ?_)
          clear hK75
          refine cond_dec l88_76 (fun c77 => ?_) (fun c77 => ?_)
          · skip
            obtain ⟨hc1, hc2, hc3⟩ := hA.come c77
            -- region 19
            refine region_in ?_
            refine W_v rfl rfl (V_mov rfl l8_76) ?_
            have k78 : ((actS lo yo y0.1 y0.2.1 y0.2.2).come).toNat < 24 := by omega
            refine W_v rfl rfl (V_ixA (sz := 1) (off' := ((actS lo yo y0.1 y0.2.1 y0.2.2).come).toNat) (((actS lo yo y0.1 y0.2.1 y0.2.2).come).toNat) rfl (es rfl l4_76) (et rfl) (by omega) Try.underlying39 k78 (by kernel_rfl) (by omega)) ?_
            obtain ⟨y79, hy79⟩ := some_get (ns := cntD (lo ++ yo) ((actS lo yo y0.1 y0.2.1 y0.2.2).gone.take j)) (i := ((actS lo yo y0.1 y0.2.1 y0.2.2).come).toNat) (cntD_len _ _) k78
            obtain ⟨hb79, hd79⟩ := cntD_bd hy79
            have hf79 := List.length_take_le j (actS lo yo y0.1 y0.2.1 y0.2.2).gone
            refine W_r rfl rfl (VR_ldC rfl (et rfl) (cell_box b17 (arrI_get hy79)) Try.underlying3 rfl) ?_
            refine W_v rfl rfl (V_add rfl (et rfl) rfl (by omega) (by omega)) ?_
            have k80 : ((actS lo yo y0.1 y0.2.1 y0.2.2).come).toNat < 24 := by omega
            refine W_v rfl rfl (V_ixA (sz := 1) (off' := ((actS lo yo y0.1 y0.2.1 y0.2.2).come).toNat) (((actS lo yo y0.1 y0.2.1 y0.2.2).come).toNat) rfl (es rfl (es rfl (es rfl (es rfl l4_76)))) (es rfl (es rfl (es rfl (et rfl)))) (by omega) Try.underlying39 k80 (by kernel_rfl) (by omega)) ?_
            refine W_stC rfl rfl rfl (et rfl) (es rfl (et rfl)) (by rfl) b17 (arrI_lt (cntD_len _ _) k80) (by kernel_rfl) (arrI_set _ _ _ _) (fun w81 ht81 hb81 => ?_)
            have hE82 := ext_tch hE55 ht81 oB_17
            replace fl := fl.tch ht81 b17 rfl
            replace fy := fy.tch ht81 b17 rfl
            replace f1_31 := f1_31.tch ht81 b17 rfl
            replace f2_31 := f2_31.tch ht81 b17 rfl
            replace b13 := box_tch b13 ht81 (Nat.ne_of_lt o13_17)
            replace b32 := box_tch b32 ht81 (Nat.ne_of_gt o17_32)
            replace b17 := hb81
            have hlen81 : ((cntD (lo ++ yo) ((actS lo yo y0.1 y0.2.1 y0.2.2).gone.take j)).set ((actS lo yo y0.1 y0.2.1 y0.2.2).come).toNat (y79 + 1)).length = 24 := by rw [List.length_set]; exact (cntD_len _ _)
            refine W_end ?_
            refine gen_Q (fun A83 hA83 => ?_)
            have hsz83 : SzN A83 171 := by rw [hA83]; infer_instance
            have hdf83 : A83.defers = [] := by rw [hA83]; simp only [df_put]; exact hdf76
            have l0_83 := lookE hA83 0 (es rfl (es rfl (es rfl (es rfl (es rfl l0_76)))))
            have l3_83 := lookE hA83 3 (es rfl (es rfl (es rfl (es rfl (es rfl l3_76)))))
            have l4_83 := lookE hA83 4 (es rfl (es rfl (es rfl (es rfl (es rfl l4_76)))))
            have l5_83 := lookE hA83 5 (es rfl (es rfl (es rfl (es rfl (es rfl l5_76)))))
            have l6_83 := lookE hA83 6 (es rfl (es rfl (es rfl (es rfl (es rfl l6_76)))))
            clear hA83 hsz76 hdf76 l0_76 l3_76 l4_76 l5_76 l6_76 l8_76 l88_76
            refine then_n (hK74 _ _ ?_)
            clear hK74
            refine wp_seq_k (fun K84 hK84 => ?_)
            -- region 20
            refine region_in ?_
            refine W_r rfl rfl (VR_ldA rfl l6_83 b32 Try.underlying24 rfl (by kernel_rfl)) ?_
            refine W_stA rfl rfl rfl (es rfl l3_83) (et rfl) (by simp only [List.all_toArray, List.all_cons, List.all_nil, one_ints f1_31.1, one_ints f2_31.1] <;> rfl) b13 (by rfl) (by kernel_rfl) (fun w85 ht85 hb85 => ?_)
            have hE86 := ext_tch hE82 ht85 oB_13
            replace fl := fl.tch ht85 b13 rfl
            replace fy := fy.tch ht85 b13 rfl
            replace f1_31 := f1_31.tch ht85 b13 rfl
            replace f2_31 := f2_31.tch ht85 b13 rfl
            replace b17 := box_tch b17 ht85 (Nat.ne_of_gt o13_17)
            replace b32 := box_tch b32 ht85 (Nat.ne_of_gt o13_32)
            replace b13 := hb85
            refine W_end ?_
            refine gen_Q (fun A87 hA87 => ?_)
            have hsz87 : SzN A87 171 := by rw [hA87]; infer_instance
            have hdf87 : A87.defers = [] := by rw [hA87]; simp only [df_put]; exact hdf83
            have l0_87 := lookE hA87 0 (es rfl l0_83)
            have l3_87 := lookE hA87 3 (es rfl l3_83)
            have l4_87 := lookE hA87 4 (es rfl l4_83)
            have l5_87 := lookE hA87 5 (es rfl l5_83)
            clear hA87 hsz83 hdf83 l0_83 l3_83 l4_83 l5_83 l6_83
            refine then_n (hK84 _ _ ?_)
            clear hK84
            refine wp_seq_k (fun K88 hK88 => ?_)
            -- region 21
            refine region_mono 4 4 [none, some (⟨fun w v => v = .agg (arrI .i64 (cnt (((actS lo yo y0.1 y0.2.1 y0.2.2).lo) ++ ((actS lo yo y0.1 y0.2.1 y0.2.2).yo)))), fun _ _ _ he h => h⟩)] (by kernel_rfl) (by kernel_rfl) ?_
            refine C_r rfl rfl (by kernel_rfl) (fun wx hx hF => (VR_ldA rfl l3_87 (heap_ext hx b13) Try.underlying24 rfl (by kernel_rfl))) rfl rfl ?_
            refine C_call rfl rfl rfl Try.func21 (by kernel_rfl) rfl (args1 (et rfl)) rfl rfl (fun wx hx hF => ?_) (fun u89 hu89 => ?_)
            · refine (count_c (f1_31.1.ext hx) (f2_31.1.ext hx) (by first | omega | (simp; done) | (simp; omega)) (by first | omega | (simp; done) | (simp; omega))).mono ?_
              rintro _ w89 ⟨rfl, hz⟩
              exact ⟨_, rfl, hz, rfl⟩
            obtain ⟨_, _, rfl⟩ := hu89
            refine C_r rfl rfl (by kernel_rfl) (fun wx hx hF => (VR_ldA rfl (es rfl (es rfl l4_87)) (heap_ext hx b17) Try.underlying39 rfl (arrI_info hlen81 (by kernel_rfl)))) rfl rfl ?_
            refine C_v rfl rfl (V_neArr rfl (es rfl (et rfl)) (et rfl) Try.underlying39 Try.underlying3 (by kernel_rfl) (by kernel_rfl) (cnt_len _) hlen81) rfl rfl ?_
            refine Z_none (Nat.le_refl _) (Nat.le_refl _) (fun w90 hz90 hF90 => ?_)
            obtain hq89 := all_get hF90; cases hq89
            clear hF90
            have hR90 := hE86.size
            have hE91 := Ext.tr hE86 hz90
            replace b13 := heap_ext hz90 b13
            replace b17 := heap_ext hz90 b17
            replace f1_31 := f1_31.ext hz90
            replace f2_31 := f2_31.ext hz90
            refine gen_Q (fun A92 hA92 => ?_)
            have hsz92 : SzN A92 171 := by rw [hA92]; infer_instance
            have hdf92 : A92.defers = [] := by rw [hA92]; simp only [df_put]; exact hdf87
            have l0_92 := lookE hA92 0 (es rfl (es rfl (es rfl (es rfl l0_87))))
            have l3_92 := lookE hA92 3 (es rfl (es rfl (es rfl (es rfl l3_87))))
            have l4_92 := lookE hA92 4 (es rfl (es rfl (es rfl (es rfl l4_87))))
            have l5_92 := lookE hA92 5 (es rfl (es rfl (es rfl (es rfl l5_87))))
            have l98_92 := lookE hA92 98 (et rfl)
            clear hA92 hsz87 hdf87 l0_87 l3_87 l4_87 l5_87
            refine then_n (hK88 _ _ ?_)
            clear hK88
            refine cond_not l98_92 (by rw [(cntD_come2 hc2 hc3 c77 hc1 hy79)]; simp) ?_
            refine wp_skip ?_
            refine inb_n ?_
            refine then_n (hK28 _ _ ?_)
            clear hK28
            -- region 7
            refine region_in ?_
            refine W_v rfl rfl (V_mov rfl l5_92) ?_
            refine W_v rfl rfl (V_add rfl (et rfl) rfl (by omega) (by omega)) ?_
            refine W_v rfl rfl (V_asg rfl (et rfl)) ?_
            refine W_end ?_
            refine gen_Q (fun A93 hA93 => ?_)
            have hsz93 : SzN A93 171 := by rw [hA93]; infer_instance
            have hdf93 : A93.defers = [] := by rw [hA93]; simp only [df_put]; exact hdf92
            have l0_93 := lookE hA93 0 (es rfl (es rfl (es rfl l0_92)))
            have l3_93 := lookE hA93 3 (es rfl (es rfl (es rfl l3_92)))
            have l4_93 := lookE hA93 4 (es rfl (es rfl (es rfl l4_92)))
            have l5_93 := lookE hA93 5 (et rfl)
            clear hA93 hsz92 hdf92 l0_92 l3_92 l4_92 l5_92 l98_92
            refine then_n ⟨acts.length - ((k + 1)), by simp only [hm23]; omega, hsz93, hdf93, hE91, (k + 1), (actS lo yo y0.1 y0.2.1 y0.2.2).lo, (actS lo yo y0.1 y0.2.1 y0.2.2).yo, (v1_31), (v2_31), rfl, (by omega), hA.good, (good_len hA.good).1, (good_len hA.good).2, List.length_append, ((l5_93).trans (by first | rfl | (simp; done) | (congr 1; omega))), ((l0_93).trans l0_22.symm), ((l3_93).trans l3_22.symm), ((l4_93).trans l4_22.symm), b13, (((cntD_come2 hc2 hc3 c77 hc1 hy79)) ▸ b17), f1_31, f2_31⟩
          · skip
            refine wp_skip ?_
            refine then_n (hK74 _ _ ?_)
            clear hK74
            refine wp_seq_k (fun K94 hK94 => ?_)
            -- region 20
            refine region_in ?_
            refine W_r rfl rfl (VR_ldA rfl l6_76 b32 Try.underlying24 rfl (by kernel_rfl)) ?_
            refine W_stA rfl rfl rfl (es rfl l3_76) (et rfl) (by simp only [List.all_toArray, List.all_cons, List.all_nil, one_ints f1_31.1, one_ints f2_31.1] <;> rfl) b13 (by rfl) (by kernel_rfl) (fun w95 ht95 hb95 => ?_)
            have hE96 := ext_tch hE55 ht95 oB_13
            replace fl := fl.tch ht95 b13 rfl
            replace fy := fy.tch ht95 b13 rfl
            replace f1_31 := f1_31.tch ht95 b13 rfl
            replace f2_31 := f2_31.tch ht95 b13 rfl
            replace b17 := box_tch b17 ht95 (Nat.ne_of_gt o13_17)
            replace b32 := box_tch b32 ht95 (Nat.ne_of_gt o13_32)
            replace b13 := hb95
            refine W_end ?_
            refine gen_Q (fun A97 hA97 => ?_)
            have hsz97 : SzN A97 171 := by rw [hA97]; infer_instance
            have hdf97 : A97.defers = [] := by rw [hA97]; simp only [df_put]; exact hdf76
            have l0_97 := lookE hA97 0 (es rfl l0_76)
            have l3_97 := lookE hA97 3 (es rfl l3_76)
            have l4_97 := lookE hA97 4 (es rfl l4_76)
            have l5_97 := lookE hA97 5 (es rfl l5_76)
            clear hA97 hsz76 hdf76 l0_76 l3_76 l4_76 l5_76 l6_76 l8_76 l88_76
            refine then_n (hK94 _ _ ?_)
            clear hK94
            refine wp_seq_k (fun K98 hK98 => ?_)
            -- region 21
            refine region_mono 4 4 [none, some (⟨fun w v => v = .agg (arrI .i64 (cnt (((actS lo yo y0.1 y0.2.1 y0.2.2).lo) ++ ((actS lo yo y0.1 y0.2.1 y0.2.2).yo)))), fun _ _ _ he h => h⟩)] (by kernel_rfl) (by kernel_rfl) ?_
            refine C_r rfl rfl (by kernel_rfl) (fun wx hx hF => (VR_ldA rfl l3_97 (heap_ext hx b13) Try.underlying24 rfl (by kernel_rfl))) rfl rfl ?_
            refine C_call rfl rfl rfl Try.func21 (by kernel_rfl) rfl (args1 (et rfl)) rfl rfl (fun wx hx hF => ?_) (fun u99 hu99 => ?_)
            · refine (count_c (f1_31.1.ext hx) (f2_31.1.ext hx) (by first | omega | (simp; done) | (simp; omega)) (by first | omega | (simp; done) | (simp; omega))).mono ?_
              rintro _ w99 ⟨rfl, hz⟩
              exact ⟨_, rfl, hz, rfl⟩
            obtain ⟨_, _, rfl⟩ := hu99
            refine C_r rfl rfl (by kernel_rfl) (fun wx hx hF => (VR_ldA rfl (es rfl (es rfl l4_97)) (heap_ext hx b17) Try.underlying39 rfl (arrI_info (cntD_len _ _) (by kernel_rfl)))) rfl rfl ?_
            refine C_v rfl rfl (V_neArr rfl (es rfl (et rfl)) (et rfl) Try.underlying39 Try.underlying3 (by kernel_rfl) (by kernel_rfl) (cnt_len _) (cntD_len _ _)) rfl rfl ?_
            refine Z_none (Nat.le_refl _) (Nat.le_refl _) (fun w100 hz100 hF100 => ?_)
            obtain hq99 := all_get hF100; cases hq99
            clear hF100
            have hR100 := hE96.size
            have hE101 := Ext.tr hE96 hz100
            replace b13 := heap_ext hz100 b13
            replace b17 := heap_ext hz100 b17
            replace f1_31 := f1_31.ext hz100
            replace f2_31 := f2_31.ext hz100
            refine gen_Q (fun A102 hA102 => ?_)
            have hsz102 : SzN A102 171 := by rw [hA102]; infer_instance
            have hdf102 : A102.defers = [] := by rw [hA102]; simp only [df_put]; exact hdf97
            have l0_102 := lookE hA102 0 (es rfl (es rfl (es rfl (es rfl l0_97))))
            have l3_102 := lookE hA102 3 (es rfl (es rfl (es rfl (es rfl l3_97))))
            have l4_102 := lookE hA102 4 (es rfl (es rfl (es rfl (es rfl l4_97))))
            have l5_102 := lookE hA102 5 (es rfl (es rfl (es rfl (es rfl l5_97))))
            have l98_102 := lookE hA102 98 (et rfl)
            clear hA102 hsz97 hdf97 l0_97 l3_97 l4_97 l5_97
            refine then_n (hK98 _ _ ?_)
            clear hK98
            refine cond_not l98_102 (by rw [(cntD_perm2 (j := j) (by omega) (hA.perm (by omega)))]; simp) ?_
            refine wp_skip ?_
            refine inb_n ?_
            refine then_n (hK28 _ _ ?_)
            clear hK28
            -- region 7
            refine region_in ?_
            refine W_v rfl rfl (V_mov rfl l5_102) ?_
            refine W_v rfl rfl (V_add rfl (et rfl) rfl (by omega) (by omega)) ?_
            refine W_v rfl rfl (V_asg rfl (et rfl)) ?_
            refine W_end ?_
            refine gen_Q (fun A103 hA103 => ?_)
            have hsz103 : SzN A103 171 := by rw [hA103]; infer_instance
            have hdf103 : A103.defers = [] := by rw [hA103]; simp only [df_put]; exact hdf102
            have l0_103 := lookE hA103 0 (es rfl (es rfl (es rfl l0_102)))
            have l3_103 := lookE hA103 3 (es rfl (es rfl (es rfl l3_102)))
            have l4_103 := lookE hA103 4 (es rfl (es rfl (es rfl l4_102)))
            have l5_103 := lookE hA103 5 (et rfl)
            clear hA103 hsz102 hdf102 l0_102 l3_102 l4_102 l5_102 l98_102
            refine then_n ⟨acts.length - ((k + 1)), by simp only [hm23]; omega, hsz103, hdf103, hE101, (k + 1), (actS lo yo y0.1 y0.2.1 y0.2.2).lo, (actS lo yo y0.1 y0.2.1 y0.2.2).yo, (v1_31), (v2_31), rfl, (by omega), hA.good, (good_len hA.good).1, (good_len hA.good).2, List.length_append, ((l5_103).trans (by first | rfl | (simp; done) | (congr 1; omega))), ((l0_103).trans l0_22.symm), ((l3_103).trans l3_22.symm), ((l4_103).trans l4_22.symm), b13, (((cntD_perm2 (j := j) (by omega) (hA.perm (by omega)))) ▸ b17), f1_31, f2_31⟩
    · skip
      refine wp_exit ?_
      refine then_exit ?_
      refine then_exit ?_
      refine inb_hit ?_
      refine then_n (hK20 _ _ ?_)
      clear hK20
      refine wp_seq_k (fun K104 hK104 => ?_)
      -- region 23
      refine region_in ?_
      refine W_v rfl rfl (V_asg rfl rfl) ?_
      refine W_end ?_
      refine gen_Q (fun A105 hA105 => ?_)
      have hsz105 : SzN A105 171 := by rw [hA105]; infer_instance
      have hdf105 : A105.defers = [] := by rw [hA105]; simp only [df_put]; exact hdf26
      have l3_105 := lookE hA105 3 (es rfl l3_26)
      have l4_105 := lookE hA105 4 (es rfl l4_26)
      have l11_105 := lookE hA105 11 (et rfl)
      clear hA105 hsz26 hdf26 l0_26 l3_26 l4_26 l5_26 l25_26
      refine then_n (hK104 _ _ ?_)
      clear hK104
      refine wp_seq_k (fun K106 hK106 => ?_)
      refine wp_seq_k (fun K107 hK107 => ?_)
      -- region 24
      refine region_in ?_
      refine W_v rfl rfl (V_asg rfl rfl) ?_
      refine W_end ?_
      refine gen_Q (fun A108 hA108 => ?_)
      have hsz108 : SzN A108 171 := by rw [hA108]; infer_instance
      have hdf108 : A108.defers = [] := by rw [hA108]; simp only [df_put]; exact hdf105
      have l3_108 := lookE hA108 3 (es rfl l3_105)
      have l4_108 := lookE hA108 4 (es rfl l4_105)
      have l11_108 := lookE hA108 11 (es rfl l11_105)
      have l12_108 := lookE hA108 12 (et rfl)
      clear hA108 hsz105 hdf105 l3_105 l4_105 l11_105
      refine then_n (hK107 _ _ ?_)
      clear hK107
      refine wp_block ?_
      -- loop 25
      refine loopX (fun mz A' w' => SzN A' 171 ∧ A'.defers = [] ∧ Ext w w' ∧ (∃ (c : Nat), (mz = 24 - c) ∧ (c ≤ 24) ∧ (EV A' (.tmp 12) = .int .i64 (c : Int)) ∧ (EV A' (.tmp 11) = .int .i64 (below (lo ++ yo) c)) ∧ (EV A' (.tmp 3) = EV A108 (.tmp 3)) ∧ (EV A' (.tmp 4) = EV A108 (.tmp 4)) ∧ (w'.heap[g13]? = some (.cells #[lv, yv] 24 (0, 0))) ∧ (w'.heap[g17]? = some (.cells (arrI .i64 (cnt (lo ++ yo))) 39 (0, 0))) ∧ (FreI w' w.heap.size 3 (lv) (lo)) ∧ (FreI w' w.heap.size 3 (yv) (yo)))) (24 - (0)) ⟨hsz108, hdf108, hE23, 0, rfl, (Nat.zero_le _), ((l12_108).trans (by first | rfl | (simp; done) | (congr 1; omega))), ((l11_108).trans ((by rw [below_zero hG] <;> rfl))), rfl, rfl, b13, b17, fl, fy⟩ ?_
      clear b13 b17 fl fy
      rintro n109 A109 w109 ⟨hsz109, hdf109, hE109, c, hm109, hc, l12_109, l11_109, u3_109, u4_109, b13, b17, fl, fy⟩
      have l3_109 := u3_109.trans l3_108
      have l4_109 := u4_109.trans l4_108
      refine wp_seq_k (fun K110 hK110 => ?_)
      refine wp_seq_k (fun K111 hK111 => ?_)
      -- region 25
      refine region_in ?_
      refine W_v rfl rfl (V_mov rfl l12_109) ?_
      refine W_v rfl rfl (V_lss rfl (et rfl) rfl) ?_
      refine W_end ?_
      refine gen_Q (fun A112 hA112 => ?_)
      have hsz112 : SzN A112 171 := by rw [hA112]; infer_instance
      have hdf112 : A112.defers = [] := by rw [hA112]; simp only [df_put]; exact hdf109
      have l3_112 := lookE hA112 3 (es rfl (es rfl l3_109))
      have l4_112 := lookE hA112 4 (es rfl (es rfl l4_109))
      have l11_112 := lookE hA112 11 (es rfl (es rfl l11_109))
      have l12_112 := lookE hA112 12 (es rfl (es rfl l12_109))
      have l100_112 := lookE hA112 100 (et rfl)
      clear hA112 hsz109 hdf109 l12_109 l11_109 l3_109 l4_109
      refine then_n (hK111 _ _ ?_)
      clear hK111
      refine cond_dec l100_112 (fun c113 => ?_) (fun c113 => ?_)
      · skip
        have hF := find_good (c := (c : Int)) hG (by omega) (by omega)
        have hbl := below_len (lo ++ yo) c
        refine wp_skip ?_
        refine then_n (hK110 _ _ ?_)
        clear hK110
        refine wp_seq_k (fun K114 hK114 => ?_)
        refine wp_block ?_
        refine wp_seq_k (fun K115 hK115 => ?_)
        -- region 27
        refine region_in ?_
        refine W_r rfl rfl (VR_ldA rfl l3_112 b13 Try.underlying24 rfl (by kernel_rfl)) ?_
        refine W_v rfl rfl (V_mov rfl (es rfl l12_112)) ?_
        refine W_call rfl rfl rfl Try.func22 (by kernel_rfl) rfl (args2 (es rfl (et rfl)) (et rfl)) (Find_c (c := (c : Int)) fl.1 fy.1 ) ?_
        rintro _ w116 ⟨rfl, hx116⟩
        refine ⟨_, rfl, ?_⟩
        have hb117 := hE109.size
        have hE118 := Ext.tr hE109 hx116
        replace b13 := heap_ext hx116 b13
        replace b17 := heap_ext hx116 b17
        replace fl := fl.ext hx116
        replace fy := fy.ext hx116
        refine W_v rfl rfl (V_mov rfl (et rfl)) ?_
        refine W_v rfl rfl (V_ext rfl (et rfl) rfl) ?_
        refine W_v rfl rfl (V_ext rfl (es rfl (et rfl)) rfl) ?_
        refine W_v rfl rfl (V_ext rfl (es rfl (es rfl (et rfl))) rfl) ?_
        refine W_v rfl rfl (V_asg rfl (es rfl (es rfl (et rfl)))) ?_
        refine W_v rfl rfl (V_asg rfl (es rfl (es rfl (et rfl)))) ?_
        refine W_v rfl rfl (V_asg rfl (es rfl (es rfl (et rfl)))) ?_
        refine W_end ?_
        refine gen_Q (fun A119 hA119 => ?_)
        have hsz119 : SzN A119 171 := by rw [hA119]; infer_instance
        have hdf119 : A119.defers = [] := by rw [hA119]; simp only [df_put]; exact hdf112
        have l3_119 := lookE hA119 3 (es rfl (es rfl (es rfl (es rfl (es rfl (es rfl (es rfl (es rfl (es rfl (es rfl l3_112))))))))))
        have l4_119 := lookE hA119 4 (es rfl (es rfl (es rfl (es rfl (es rfl (es rfl (es rfl (es rfl (es rfl (es rfl l4_112))))))))))
        have l11_119 := lookE hA119 11 (es rfl (es rfl (es rfl (es rfl (es rfl (es rfl (es rfl (es rfl (es rfl (es rfl l11_112))))))))))
        have l12_119 := lookE hA119 12 (es rfl (es rfl (es rfl (es rfl (es rfl (es rfl (es rfl (es rfl (es rfl (es rfl l12_112))))))))))
        have l13_119 := lookE hA119 13 (es rfl (es rfl (et rfl)))
        have l14_119 := lookE hA119 14 (es rfl (et rfl))
        have l15_119 := lookE hA119 15 (et rfl)
        clear hA119 hsz112 hdf112 l3_112 l4_112 l11_112 l12_112 l100_112
        refine then_n (hK115 _ _ ?_)
        clear hK115
        refine wp_seq_k (fun K120 hK120 => ?_)
        -- region 28
        refine region_in ?_
        refine W_r rfl rfl (VR_ldA rfl l3_119 b13 Try.underlying24 rfl (by kernel_rfl)) ?_
        refine W_v rfl rfl (V_mov rfl (es rfl l13_119)) ?_
        refine W_v rfl rfl (V_max rfl (et rfl) rfl) ?_
        refine W_call rfl rfl rfl Try.func23 (by kernel_rfl) rfl (args2 (es rfl (es rfl (et rfl))) (et rfl)) (Cars_c (tr := (if (0 : Int) > (findS lo yo (c : Int)).1 then 0 else (findS lo yo (c : Int)).1)) fl.1 fy.1 ) ?_
        rintro _ w121 ⟨v_121, rfl, f_121, hx121⟩
        refine ⟨_, rfl, ?_⟩
        have hb122 := hE118.size
        have hE123 := Ext.tr hE118 hx121
        replace b13 := heap_ext hx121 b13
        replace b17 := heap_ext hx121 b17
        replace fl := fl.ext hx121
        replace fy := fy.ext hx121
        have ul_f_121 := fre_lo f_121
        replace f_121 := f_121.base hb122
        refine W_v rfl rfl (V_mov rfl (et rfl)) ?_
        refine W_v rfl rfl (V_ext rfl (et rfl) rfl) ?_
        refine W_v rfl rfl (V_ext rfl (es rfl (et rfl)) rfl) ?_
        refine W_v rfl rfl (V_asg rfl (es rfl (et rfl))) ?_
        refine W_v rfl rfl (V_asg rfl (es rfl (et rfl))) ?_
        refine W_end ?_
        refine gen_Q (fun A124 hA124 => ?_)
        have hsz124 : SzN A124 171 := by rw [hA124]; infer_instance
        have hdf124 : A124.defers = [] := by rw [hA124]; simp only [df_put]; exact hdf119
        have l3_124 := lookE hA124 3 (es rfl (es rfl (es rfl (es rfl (es rfl (es rfl (es rfl (es rfl (es rfl l3_119)))))))))
        have l4_124 := lookE hA124 4 (es rfl (es rfl (es rfl (es rfl (es rfl (es rfl (es rfl (es rfl (es rfl l4_119)))))))))
        have l11_124 := lookE hA124 11 (es rfl (es rfl (es rfl (es rfl (es rfl (es rfl (es rfl (es rfl (es rfl l11_119)))))))))
        have l12_124 := lookE hA124 12 (es rfl (es rfl (es rfl (es rfl (es rfl (es rfl (es rfl (es rfl (es rfl l12_119)))))))))
        have l14_124 := lookE hA124 14 (es rfl (es rfl (es rfl (es rfl (es rfl (es rfl (es rfl (es rfl (es rfl l14_119)))))))))
        have l15_124 := lookE hA124 15 (es rfl (es rfl (es rfl (es rfl (es rfl (es rfl (es rfl (es rfl (es rfl l15_119)))))))))
        have l16_124 := lookE hA124 16 (es rfl (et rfl))
        have l17_124 := lookE hA124 17 (et rfl)
        clear hA124 hsz119 hdf119 l3_119 l4_119 l11_119 l12_119 l13_119 l14_119 l15_119
        refine then_n (hK120 _ _ ?_)
        clear hK120
        refine wp_seq_k (fun K125 hK125 => ?_)
        refine wp_seq_k (fun K126 hK126 => ?_)
        -- region 29
        refine region_in ?_
        refine W_v rfl rfl (V_mov rfl l12_124) ?_
        have k127 : c < 24 := by omega
        refine W_v rfl rfl (V_ixA (sz := 1) (off' := c) (c) rfl (es rfl l4_124) (et rfl) (by omega) Try.underlying39 k127 (by kernel_rfl) (by omega)) ?_
        obtain ⟨y128, hy128⟩ := some_get (ns := cnt (lo ++ yo)) (i := c) (cnt_len _) k127
        have hci128 := cnt_is (by omega) hy128
        have hg128 := good_count hG (c : Int)
        refine W_r rfl rfl (VR_ldC rfl (et rfl) (cell_box b17 (arrI_get hy128)) Try.underlying3 rfl) ?_
        refine W_v rfl rfl (V_gtr rfl (et rfl) rfl) ?_
        refine W_sure (c' := false) rfl rfl (V_mov rfl (et rfl)) (by rw [decide_eq_false_iff_not]; omega) ?_
        refine W_v rfl (wanted_t rfl rfl (et rfl) (ez rfl)) (V_mov rfl (es rfl (es rfl (es rfl (es rfl (es rfl l15_124)))))) ?_
        refine W_v rfl (wanted_t rfl rfl (es rfl (et rfl)) (ez rfl)) (V_eql rfl (et rfl) rfl) ?_
        refine W_v rfl (wanted_t rfl rfl (es rfl (es rfl (et rfl))) (ez rfl)) (V_mov rfl (es rfl (es rfl (es rfl (es rfl (es rfl (es rfl (es rfl l12_124)))))))) ?_
        have k129 : c < 24 := by omega
        refine W_v rfl (wanted_t rfl rfl (es rfl (es rfl (es rfl (et rfl)))) (ez rfl)) (V_ixA (sz := 1) (off' := c) (c) rfl (es rfl (es rfl (es rfl (es rfl (es rfl (es rfl (es rfl (es rfl l4_124)))))))) (et rfl) (by omega) Try.underlying39 k129 (by kernel_rfl) (by omega)) ?_
        refine W_r rfl (wanted_t rfl rfl (es rfl (es rfl (es rfl (es rfl (et rfl))))) (ez rfl)) (VR_ldC rfl (et rfl) (cell_box b17 (arrI_get hy128)) Try.underlying3 rfl) ?_
        refine W_v rfl (wanted_t rfl rfl (es rfl (es rfl (es rfl (es rfl (es rfl (et rfl)))))) (ez rfl)) (V_eql rfl (et rfl) rfl) ?_
        refine W_v rfl (wanted_t rfl rfl (es rfl (es rfl (es rfl (es rfl (es rfl (es rfl (et rfl))))))) (ez rfl)) (V_neB rfl (es rfl (es rfl (es rfl (es rfl (et rfl))))) (et rfl) Try.underlying4) ?_
        refine W_v rfl rfl (V_pickF rfl (es rfl (es rfl (es rfl (es rfl (es rfl (es rfl (es rfl (et rfl)))))))) (et rfl)) ?_
        refine W_sure (c' := false) rfl rfl (V_mov rfl (et rfl)) (by rw [decide_eq_false_iff_not]; simp only [ne_eq, Classical.not_not, decide_eq_decide]; rw [hF.e]; omega) ?_
        refine W_v rfl (wanted_t rfl rfl (et rfl) (ez rfl)) (V_mov rfl (es rfl (es rfl (es rfl (es rfl (es rfl (es rfl (es rfl (es rfl (es rfl (es rfl (es rfl (es rfl (es rfl (es rfl l17_124))))))))))))))) ?_
        refine W_v rfl (wanted_t rfl rfl (es rfl (et rfl)) (ez rfl)) (V_neq rfl (et rfl) rfl) ?_
        refine W_v rfl rfl (V_pickF rfl (es rfl (es rfl (et rfl))) (et rfl)) ?_
        refine W_end ?_
        refine gen_Q (fun A131 hA131 => ?_)
        have hsz131 : SzN A131 171 := by rw [hA131]; infer_instance
        have hdf131 : A131.defers = [] := by rw [hA131]; simp only [df_put]; exact hdf124
        have l3_131 := lookE hA131 3 (es rfl (es rfl (es rfl (es rfl (es rfl (es rfl (es rfl (es rfl (es rfl (es rfl (es rfl (es rfl (es rfl (es rfl (es rfl (es rfl (es rfl l3_124)))))))))))))))))
        have l4_131 := lookE hA131 4 (es rfl (es rfl (es rfl (es rfl (es rfl (es rfl (es rfl (es rfl (es rfl (es rfl (es rfl (es rfl (es rfl (es rfl (es rfl (es rfl (es rfl l4_124)))))))))))))))))
        have l11_131 := lookE hA131 11 (es rfl (es rfl (es rfl (es rfl (es rfl (es rfl (es rfl (es rfl (es rfl (es rfl (es rfl (es rfl (es rfl (es rfl (es rfl (es rfl (es rfl l11_124)))))))))))))))))
        have l12_131 := lookE hA131 12 (es rfl (es rfl (es rfl (es rfl (es rfl (es rfl (es rfl (es rfl (es rfl (es rfl (es rfl (es rfl (es rfl (es rfl (es rfl (es rfl (es rfl l12_124)))))))))))))))))
        have l14_131 := lookE hA131 14 (es rfl (es rfl (es rfl (es rfl (es rfl (es rfl (es rfl (es rfl (es rfl (es rfl (es rfl (es rfl (es rfl (es rfl (es rfl (es rfl (es rfl l14_124)))))))))))))))))
        have l15_131 := lookE hA131 15 (es rfl (es rfl (es rfl (es rfl (es rfl (es rfl (es rfl (es rfl (es rfl (es rfl (es rfl (es rfl (es rfl (es rfl (es rfl (es rfl (es rfl l15_124)))))))))))))))))
        have l16_131 := lookE hA131 16 (es rfl (es rfl (es rfl (es rfl (es rfl (es rfl (es rfl (es rfl (es rfl (es rfl (es rfl (es rfl (es rfl (es rfl (es rfl (es rfl (es rfl l16_124)))))))))))))))))
        have l122_131 := lookE hA131 122 (es rfl (es rfl (es rfl (es rfl (es rfl (es rfl (es rfl (es rfl (es rfl (es rfl (es rfl (et rfl))))))))))))
        have l123_131 := lookE hA131 123 (es rfl (es rfl (es rfl (es rfl (es rfl (es rfl (es rfl (es rfl (es rfl (es rfl (et rfl)))))))))))
        have l124_131 := lookE hA131 124 (es rfl (es rfl (es rfl (es rfl (es rfl (es rfl (es rfl (es rfl (es rfl (et rfl))))))))))
        have l125_131 := lookE hA131 125 (es rfl (es rfl (es rfl (es rfl (es rfl (es rfl (es rfl (es rfl (et rfl)))))))))
        have l126_131 := lookE hA131 126 (es rfl (es rfl (es rfl (es rfl (es rfl (es rfl (es rfl (et rfl))))))))
        have l127_131 := lookE hA131 127 (es rfl (es rfl (es rfl (es rfl (es rfl (es rfl (et rfl)))))))
        have l128_131 := lookE hA131 128 (es rfl (es rfl (es rfl (es rfl (es rfl (et rfl))))))
        have l131_131 := lookE hA131 131 (es rfl (es rfl (et rfl)))
        have l132_131 := lookE hA131 132 (es rfl (et rfl))
        have l133_131 := lookE hA131 133 (et rfl)
        clear hA131 hsz124 hdf124 l3_124 l4_124 l11_124 l12_124 l14_124 l15_124 l16_124 l17_124
        refine then_n (hK126 _ _ ?_)
        clear hK126
        refine cond_not l133_131 (by rw [decide_eq_false_iff_not]; exact fun h => h hF.car) ?_
        refine wp_skip ?_
        refine then_n (hK125 _ _ ?_)
        clear hK125
        refine wp_seq_k (fun K132 hK132 => ?_)
        refine wp_seq_k (fun K133 hK133 => ?_)
        -- region 31
        refine region_in ?_
        refine W_v rfl rfl (V_mov rfl l15_131) ?_
        refine W_v rfl rfl (V_eql rfl (et rfl) rfl) ?_
        refine W_split rfl rfl (V_mov rfl (et rfl)) (fun c134 => ?_) (fun c134 => ?_)
        · skip
          obtain ⟨hp1, hp2, hp3⟩ := hF.place c134
          refine W_v rfl (wanted_t rfl rfl (et rfl) (ez rfl)) (V_mov rfl (es rfl (es rfl (es rfl l14_131)))) ?_
          refine W_v rfl (wanted_t rfl rfl (es rfl (et rfl)) (ez rfl)) (V_lss rfl (et rfl) rfl) ?_
          refine W_sure (c' := false) rfl (wanted_t rfl rfl (es rfl (es rfl (et rfl))) (ez rfl)) (V_mov rfl (et rfl)) (by rw [decide_eq_false_iff_not]; omega) ?_
          refine W_v rfl (wanted_t rfl rfl (et rfl) (ez rfl)) (V_mov rfl (es rfl (es rfl (es rfl (es rfl (es rfl (es rfl l14_131))))))) ?_
          refine W_v rfl (wanted_t rfl rfl (es rfl (et rfl)) (ez rfl)) (V_mov rfl (es rfl (es rfl (es rfl (es rfl (es rfl (es rfl (es rfl l16_131)))))))) ?_
          refine W_v rfl (wanted_t rfl rfl (es rfl (es rfl (et rfl))) (ez rfl)) (V_lenI rfl (et rfl) f_121.1 Try.underlying22) ?_
          refine W_v rfl (wanted_t rfl rfl (es rfl (es rfl (es rfl (et rfl)))) (ez rfl)) (V_geq rfl (es rfl (es rfl (et rfl))) (et rfl)) ?_
          refine W_v rfl (wanted_t rfl rfl (es rfl (es rfl (es rfl (es rfl (es rfl (es rfl (es rfl (et rfl)))))))) (ez rfl)) (V_pickF rfl (es rfl (es rfl (es rfl (es rfl (et rfl))))) (et rfl)) ?_
          refine W_sure (c' := false) rfl (wanted_t rfl rfl (es rfl (es rfl (es rfl (es rfl (es rfl (es rfl (es rfl (es rfl (et rfl))))))))) (ez rfl)) (V_mov rfl (et rfl)) (by rw [decide_eq_false_iff_not]; omega) ?_
          refine W_v rfl (wanted_t rfl rfl (et rfl) (ez rfl)) (V_mov rfl (es rfl (es rfl (es rfl (es rfl (es rfl (es rfl (es rfl (es rfl (es rfl (es rfl (es rfl (es rfl l16_131))))))))))))) ?_
          refine W_v rfl (wanted_t rfl rfl (es rfl (et rfl)) (ez rfl)) (V_mov rfl (es rfl (es rfl (es rfl (es rfl (es rfl (es rfl (es rfl (es rfl (es rfl (es rfl (es rfl (es rfl (es rfl l14_131)))))))))))))) ?_
          have k135 : ((findS lo yo (c : Int)).2.1).toNat < ((carsS lo yo (if (0 : Int) > (findS lo yo (c : Int)).1 then 0 else (findS lo yo (c : Int)).1)).1).length := by omega
          obtain ⟨B135, O135, C135, y135, hv135, hy135, hc135⟩ := at_ints f_121.1 (((findS lo yo (c : Int)).2.1).toNat) k135
          refine W_v rfl (wanted_t rfl rfl (es rfl (es rfl (et rfl))) (ez rfl)) (V_idx (((findS lo yo (c : Int)).2.1).toNat) rfl (es rfl (et rfl)) (et rfl) hv135 (by omega) k135 Try.underlying22 (by kernel_rfl)) ?_
          refine W_r rfl (wanted_t rfl rfl (es rfl (es rfl (es rfl (et rfl)))) (ez rfl)) (VR_ldC rfl (et rfl) hc135 Try.underlying3 rfl) ?_
          refine W_v rfl (wanted_t rfl rfl (es rfl (es rfl (es rfl (es rfl (et rfl))))) (ez rfl)) (V_mov rfl (es rfl (es rfl (es rfl (es rfl (es rfl (es rfl (es rfl (es rfl (es rfl (es rfl (es rfl (es rfl (es rfl (es rfl (es rfl (es rfl l12_131))))))))))))))))) ?_
          refine W_v rfl (wanted_t rfl rfl (es rfl (es rfl (es rfl (es rfl (es rfl (et rfl)))))) (ez rfl)) (V_neq rfl (es rfl (et rfl)) (et rfl)) ?_
          refine W_v rfl (wanted_t rfl rfl (es rfl (es rfl (es rfl (es rfl (es rfl (es rfl (es rfl (es rfl (es rfl (es rfl (es rfl (es rfl (es rfl (es rfl (es rfl (et rfl)))))))))))))))) (ez rfl)) (V_pickF rfl (es rfl (es rfl (es rfl (es rfl (es rfl (es rfl (et rfl))))))) (et rfl)) ?_
          refine W_v rfl rfl (V_pickT rfl (es rfl (es rfl (es rfl (es rfl (es rfl (es rfl (es rfl (es rfl (es rfl (es rfl (es rfl (es rfl (es rfl (es rfl (es rfl (es rfl (et rfl))))))))))))))))) (et rfl)) ?_
          refine W_end ?_
          refine gen_Q (fun A136 hA136 => ?_)
          have hsz136 : SzN A136 171 := by rw [hA136]; infer_instance
          have hdf136 : A136.defers = [] := by rw [hA136]; simp only [df_put]; exact hdf131
          have l3_136 := lookE hA136 3 (es rfl (es rfl (es rfl (es rfl (es rfl (es rfl (es rfl (es rfl (es rfl (es rfl (es rfl (es rfl (es rfl (es rfl (es rfl (es rfl (es rfl (es rfl (es rfl (es rfl l3_131))))))))))))))))))))
          have l4_136 := lookE hA136 4 (es rfl (es rfl (es rfl (es rfl (es rfl (es rfl (es rfl (es rfl (es rfl (es rfl (es rfl (es rfl (es rfl (es rfl (es rfl (es rfl (es rfl (es rfl (es rfl (es rfl l4_131))))))))))))))))))))
          have l11_136 := lookE hA136 11 (es rfl (es rfl (es rfl (es rfl (es rfl (es rfl (es rfl (es rfl (es rfl (es rfl (es rfl (es rfl (es rfl (es rfl (es rfl (es rfl (es rfl (es rfl (es rfl (es rfl l11_131))))))))))))))))))))
          have l12_136 := lookE hA136 12 (es rfl (es rfl (es rfl (es rfl (es rfl (es rfl (es rfl (es rfl (es rfl (es rfl (es rfl (es rfl (es rfl (es rfl (es rfl (es rfl (es rfl (es rfl (es rfl (es rfl l12_131))))))))))))))))))))
          have l122_136 := lookE hA136 122 (es rfl (es rfl (es rfl (es rfl (es rfl (es rfl (es rfl (es rfl (es rfl (es rfl (es rfl (es rfl (es rfl (es rfl (es rfl (es rfl (es rfl (es rfl (es rfl (es rfl l122_131))))))))))))))))))))
          have l123_136 := lookE hA136 123 (es rfl (es rfl (es rfl (es rfl (es rfl (es rfl (es rfl (es rfl (es rfl (es rfl (es rfl (es rfl (es rfl (es rfl (es rfl (es rfl (es rfl (es rfl (es rfl (es rfl l123_131))))))))))))))))))))
          have l124_136 := lookE hA136 124 (es rfl (es rfl (es rfl (es rfl (es rfl (es rfl (es rfl (es rfl (es rfl (es rfl (es rfl (es rfl (es rfl (es rfl (es rfl (es rfl (es rfl (es rfl (es rfl (es rfl l124_131))))))))))))))))))))
          have l125_136 := lookE hA136 125 (es rfl (es rfl (es rfl (es rfl (es rfl (es rfl (es rfl (es rfl (es rfl (es rfl (es rfl (es rfl (es rfl (es rfl (es rfl (es rfl (es rfl (es rfl (es rfl (es rfl l125_131))))))))))))))))))))
          have l126_136 := lookE hA136 126 (es rfl (es rfl (es rfl (es rfl (es rfl (es rfl (es rfl (es rfl (es rfl (es rfl (es rfl (es rfl (es rfl (es rfl (es rfl (es rfl (es rfl (es rfl (es rfl (es rfl l126_131))))))))))))))))))))
          have l127_136 := lookE hA136 127 (es rfl (es rfl (es rfl (es rfl (es rfl (es rfl (es rfl (es rfl (es rfl (es rfl (es rfl (es rfl (es rfl (es rfl (es rfl (es rfl (es rfl (es rfl (es rfl (es rfl l127_131))))))))))))))))))))
          have l128_136 := lookE hA136 128 (es rfl (es rfl (es rfl (es rfl (es rfl (es rfl (es rfl (es rfl (es rfl (es rfl (es rfl (es rfl (es rfl (es rfl (es rfl (es rfl (es rfl (es rfl (es rfl (es rfl l128_131))))))))))))))))))))
          have l131_136 := lookE hA136 131 (es rfl (es rfl (es rfl (es rfl (es rfl (es rfl (es rfl (es rfl (es rfl (es rfl (es rfl (es rfl (es rfl (es rfl (es rfl (es rfl (es rfl (es rfl (es rfl (es rfl l131_131))))))))))))))))))))
          have l132_136 := lookE hA136 132 (es rfl (es rfl (es rfl (es rfl (es rfl (es rfl (es rfl (es rfl (es rfl (es rfl (es rfl (es rfl (es rfl (es rfl (es rfl (es rfl (es rfl (es rfl (es rfl (es rfl l132_131))))))))))))))))))))
          have l137_136 := lookE hA136 137 (es rfl (es rfl (es rfl (es rfl (es rfl (es rfl (es rfl (es rfl (es rfl (es rfl (es rfl (es rfl (es rfl (es rfl (es rfl (es rfl (et rfl)))))))))))))))))
          have l138_136 := lookE hA136 138 (es rfl (es rfl (es rfl (es rfl (es rfl (es rfl (es rfl (es rfl (es rfl (es rfl (es rfl (es rfl (es rfl (es rfl (es rfl (et rfl))))))))))))))))
          have l139_136 := lookE hA136 139 (es rfl (es rfl (es rfl (es rfl (es rfl (es rfl (es rfl (es rfl (es rfl (es rfl (es rfl (es rfl (es rfl (es rfl (et rfl)))))))))))))))
          have l140_136 := lookE hA136 140 (es rfl (es rfl (es rfl (es rfl (es rfl (es rfl (es rfl (es rfl (es rfl (es rfl (es rfl (es rfl (es rfl (et rfl))))))))))))))
          have l141_136 := lookE hA136 141 (es rfl (es rfl (es rfl (es rfl (es rfl (es rfl (es rfl (es rfl (es rfl (es rfl (es rfl (es rfl (et rfl)))))))))))))
          have l142_136 := lookE hA136 142 (es rfl (es rfl (es rfl (es rfl (es rfl (es rfl (es rfl (es rfl (es rfl (es rfl (es rfl (et rfl))))))))))))
          have l143_136 := lookE hA136 143 (es rfl (es rfl (es rfl (es rfl (es rfl (es rfl (es rfl (es rfl (es rfl (es rfl (et rfl)))))))))))
          have l144_136 := lookE hA136 144 (es rfl (es rfl (es rfl (es rfl (es rfl (es rfl (es rfl (es rfl (es rfl (et rfl))))))))))
          have l145_136 := lookE hA136 145 (es rfl (es rfl (es rfl (es rfl (es rfl (es rfl (es rfl (es rfl (et rfl)))))))))
          have l146_136 := lookE hA136 146 (es rfl (es rfl (es rfl (es rfl (es rfl (es rfl (es rfl (et rfl))))))))
          have l147_136 := lookE hA136 147 (es rfl (es rfl (es rfl (es rfl (es rfl (es rfl (et rfl)))))))
          have l148_136 := lookE hA136 148 (es rfl (es rfl (es rfl (es rfl (es rfl (et rfl))))))
          have l149_136 := lookE hA136 149 (es rfl (es rfl (es rfl (es rfl (et rfl)))))
          have l150_136 := lookE hA136 150 (es rfl (es rfl (es rfl (et rfl))))
          have l151_136 := lookE hA136 151 (es rfl (es rfl (et rfl)))
          have l152_136 := lookE hA136 152 (es rfl (et rfl))
          have l153_136 := lookE hA136 153 (et rfl)
          clear hA136 hsz131 hdf131 l3_131 l4_131 l11_131 l12_131 l14_131 l15_131 l16_131 l122_131 l123_131 l124_131 l125_131 l126_131 l127_131 l128_131 l131_131 l132_131 l133_131
          refine then_n (hK133 _ _ ?_)
          clear hK133
          refine cond_not l153_136 (by rw [decide_eq_false_iff_not]; exact fun h => h (Option.some.inj (hy135.symm.trans hp3))) ?_
          refine wp_skip ?_
          refine then_n (hK132 _ _ ?_)
          clear hK132
          -- region 33
          refine region_in ?_
          refine W_v rfl rfl (V_mov rfl l11_136) ?_
          refine W_v rfl rfl (V_mov rfl (es rfl l12_136)) ?_
          have k137 : c < 24 := by omega
          refine W_v rfl rfl (V_ixA (sz := 1) (off' := c) (c) rfl (es rfl (es rfl l4_136)) (et rfl) (by omega) Try.underlying39 k137 (by kernel_rfl) (by omega)) ?_
          refine W_r rfl rfl (VR_ldC rfl (et rfl) (cell_box b17 (arrI_get hy128)) Try.underlying3 rfl) ?_
          refine W_v rfl rfl (V_add rfl (es rfl (es rfl (es rfl (et rfl)))) (et rfl) (by omega) (by omega)) ?_
          refine W_v rfl rfl (V_asg rfl (et rfl)) ?_
          refine W_end ?_
          refine gen_Q (fun A139 hA139 => ?_)
          have hsz139 : SzN A139 171 := by rw [hA139]; infer_instance
          have hdf139 : A139.defers = [] := by rw [hA139]; simp only [df_put]; exact hdf136
          have l3_139 := lookE hA139 3 (es rfl (es rfl (es rfl (es rfl (es rfl (es rfl l3_136))))))
          have l4_139 := lookE hA139 4 (es rfl (es rfl (es rfl (es rfl (es rfl (es rfl l4_136))))))
          have l11_139 := lookE hA139 11 (et rfl)
          have l12_139 := lookE hA139 12 (es rfl (es rfl (es rfl (es rfl (es rfl (es rfl l12_136))))))
          have l122_139 := lookE hA139 122 (es rfl (es rfl (es rfl (es rfl (es rfl (es rfl l122_136))))))
          have l123_139 := lookE hA139 123 (es rfl (es rfl (es rfl (es rfl (es rfl (es rfl l123_136))))))
          have l124_139 := lookE hA139 124 (es rfl (es rfl (es rfl (es rfl (es rfl (es rfl l124_136))))))
          have l125_139 := lookE hA139 125 (es rfl (es rfl (es rfl (es rfl (es rfl (es rfl l125_136))))))
          have l126_139 := lookE hA139 126 (es rfl (es rfl (es rfl (es rfl (es rfl (es rfl l126_136))))))
          have l127_139 := lookE hA139 127 (es rfl (es rfl (es rfl (es rfl (es rfl (es rfl l127_136))))))
          have l128_139 := lookE hA139 128 (es rfl (es rfl (es rfl (es rfl (es rfl (es rfl l128_136))))))
          have l131_139 := lookE hA139 131 (es rfl (es rfl (es rfl (es rfl (es rfl (es rfl l131_136))))))
          have l132_139 := lookE hA139 132 (es rfl (es rfl (es rfl (es rfl (es rfl (es rfl l132_136))))))
          have l137_139 := lookE hA139 137 (es rfl (es rfl (es rfl (es rfl (es rfl (es rfl l137_136))))))
          have l138_139 := lookE hA139 138 (es rfl (es rfl (es rfl (es rfl (es rfl (es rfl l138_136))))))
          have l139_139 := lookE hA139 139 (es rfl (es rfl (es rfl (es rfl (es rfl (es rfl l139_136))))))
          have l140_139 := lookE hA139 140 (es rfl (es rfl (es rfl (es rfl (es rfl (es rfl l140_136))))))
          have l141_139 := lookE hA139 141 (es rfl (es rfl (es rfl (es rfl (es rfl (es rfl l141_136))))))
          have l142_139 := lookE hA139 142 (es rfl (es rfl (es rfl (es rfl (es rfl (es rfl l142_136))))))
          have l143_139 := lookE hA139 143 (es rfl (es rfl (es rfl (es rfl (es rfl (es rfl l143_136))))))
          have l144_139 := lookE hA139 144 (es rfl (es rfl (es rfl (es rfl (es rfl (es rfl l144_136))))))
          have l145_139 := lookE hA139 145 (es rfl (es rfl (es rfl (es rfl (es rfl (es rfl l145_136))))))
          have l146_139 := lookE hA139 146 (es rfl (es rfl (es rfl (es rfl (es rfl (es rfl l146_136))))))
          have l147_139 := lookE hA139 147 (es rfl (es rfl (es rfl (es rfl (es rfl (es rfl l147_136))))))
          have l148_139 := lookE hA139 148 (es rfl (es rfl (es rfl (es rfl (es rfl (es rfl l148_136))))))
          have l149_139 := lookE hA139 149 (es rfl (es rfl (es rfl (es rfl (es rfl (es rfl l149_136))))))
          have l150_139 := lookE hA139 150 (es rfl (es rfl (es rfl (es rfl (es rfl (es rfl l150_136))))))
          have l151_139 := lookE hA139 151 (es rfl (es rfl (es rfl (es rfl (es rfl (es rfl l151_136))))))
          have l152_139 := lookE hA139 152 (es rfl (es rfl (es rfl (es rfl (es rfl (es rfl l152_136))))))
          clear hA139 hsz136 hdf136 l3_136 l4_136 l11_136 l12_136 l122_136 l123_136 l124_136 l125_136 l126_136 l127_136 l128_136 l131_136 l132_136 l137_136 l138_136 l139_136 l140_136 l141_136 l142_136 l143_136 l144_136 l145_136 l146_136 l147_136 l148_136 l149_136 l150_136 l151_136 l152_136 l153_136
          refine inb_n ?_
          refine then_n (hK114 _ _ ?_)
          clear hK114
          -- region 26
          refine region_in ?_
          refine W_v rfl rfl (V_mov rfl l12_139) ?_
          refine W_v rfl rfl (V_add rfl (et rfl) rfl (by omega) (by omega)) ?_
          refine W_v rfl rfl (V_asg rfl (et rfl)) ?_
          refine W_end ?_
          refine gen_Q (fun A140 hA140 => ?_)
          have hsz140 : SzN A140 171 := by rw [hA140]; infer_instance
          have hdf140 : A140.defers = [] := by rw [hA140]; simp only [df_put]; exact hdf139
          have l3_140 := lookE hA140 3 (es rfl (es rfl (es rfl l3_139)))
          have l4_140 := lookE hA140 4 (es rfl (es rfl (es rfl l4_139)))
          have l11_140 := lookE hA140 11 (es rfl (es rfl (es rfl l11_139)))
          have l12_140 := lookE hA140 12 (et rfl)
          have l122_140 := lookE hA140 122 (es rfl (es rfl (es rfl l122_139)))
          have l123_140 := lookE hA140 123 (es rfl (es rfl (es rfl l123_139)))
          have l124_140 := lookE hA140 124 (es rfl (es rfl (es rfl l124_139)))
          have l125_140 := lookE hA140 125 (es rfl (es rfl (es rfl l125_139)))
          have l126_140 := lookE hA140 126 (es rfl (es rfl (es rfl l126_139)))
          have l127_140 := lookE hA140 127 (es rfl (es rfl (es rfl l127_139)))
          have l128_140 := lookE hA140 128 (es rfl (es rfl (es rfl l128_139)))
          have l131_140 := lookE hA140 131 (es rfl (es rfl (es rfl l131_139)))
          have l132_140 := lookE hA140 132 (es rfl (es rfl (es rfl l132_139)))
          have l137_140 := lookE hA140 137 (es rfl (es rfl (es rfl l137_139)))
          have l138_140 := lookE hA140 138 (es rfl (es rfl (es rfl l138_139)))
          have l139_140 := lookE hA140 139 (es rfl (es rfl (es rfl l139_139)))
          have l140_140 := lookE hA140 140 (es rfl (es rfl (es rfl l140_139)))
          have l141_140 := lookE hA140 141 (es rfl (es rfl (es rfl l141_139)))
          have l142_140 := lookE hA140 142 (es rfl (es rfl (es rfl l142_139)))
          have l143_140 := lookE hA140 143 (es rfl (es rfl (es rfl l143_139)))
          have l144_140 := lookE hA140 144 (es rfl (es rfl (es rfl l144_139)))
          have l145_140 := lookE hA140 145 (es rfl (es rfl (es rfl l145_139)))
          have l146_140 := lookE hA140 146 (es rfl (es rfl (es rfl l146_139)))
          have l147_140 := lookE hA140 147 (es rfl (es rfl (es rfl l147_139)))
          have l148_140 := lookE hA140 148 (es rfl (es rfl (es rfl l148_139)))
          have l149_140 := lookE hA140 149 (es rfl (es rfl (es rfl l149_139)))
          have l150_140 := lookE hA140 150 (es rfl (es rfl (es rfl l150_139)))
          have l151_140 := lookE hA140 151 (es rfl (es rfl (es rfl l151_139)))
          have l152_140 := lookE hA140 152 (es rfl (es rfl (es rfl l152_139)))
          clear hA140 hsz139 hdf139 l3_139 l4_139 l11_139 l12_139 l122_139 l123_139 l124_139 l125_139 l126_139 l127_139 l128_139 l131_139 l132_139 l137_139 l138_139 l139_139 l140_139 l141_139 l142_139 l143_139 l144_139 l145_139 l146_139 l147_139 l148_139 l149_139 l150_139 l151_139 l152_139
          refine then_n ⟨24 - ((c + 1)), by simp only [hm109]; omega, hsz140, hdf140, hE123, (c + 1), rfl, (by omega), ((l12_140).trans (by first | rfl | (simp; done) | (congr 1; omega))), ((l11_140).trans ((by rw [below_hit (by omega) hy128]))), ((l3_140).trans l3_108.symm), ((l4_140).trans l4_108.symm), b13, b17, fl, fy⟩
        · skip
          refine W_off rfl (wanted_f rfl rfl (et rfl) (ez rfl) rfl) ?_
          refine W_off rfl (wanted_f rfl rfl (es rfl (et rfl)) (ez rfl) rfl) ?_
          refine W_off rfl (wanted_f rfl rfl (es rfl (es rfl (et rfl))) (ez rfl) rfl) ?_
          refine W_off rfl (wanted_u rfl rfl (et rfl) (ez rfl)) ?_
          refine W_off rfl (wanted_u rfl rfl (es rfl (et rfl)) (ez rfl)) ?_
          refine W_off rfl (wanted_u rfl rfl (es rfl (es rfl (et rfl))) (ez rfl)) ?_
          refine W_off rfl (wanted_u rfl rfl (es rfl (es rfl (es rfl (et rfl)))) (ez rfl)) ?_
          refine W_off rfl (wanted_f rfl rfl (es rfl (es rfl (es rfl (es rfl (es rfl (es rfl (es rfl (et rfl)))))))) (ez rfl) rfl) ?_
          refine W_off rfl (wanted_f rfl rfl (es rfl (es rfl (es rfl (es rfl (es rfl (es rfl (es rfl (es rfl (et rfl))))))))) (ez rfl) rfl) ?_
          refine W_off rfl (wanted_u rfl rfl (et rfl) (ez rfl)) ?_
          refine W_off rfl (wanted_u rfl rfl (es rfl (et rfl)) (ez rfl)) ?_
          refine W_off rfl (wanted_u rfl rfl (es rfl (es rfl (et rfl))) (ez rfl)) ?_
          refine W_off rfl (wanted_u rfl rfl (es rfl (es rfl (es rfl (et rfl)))) (ez rfl)) ?_
          refine W_off rfl (wanted_u rfl rfl (es rfl (es rfl (es rfl (es rfl (et rfl))))) (ez rfl)) ?_
          refine W_off rfl (wanted_u rfl rfl (es rfl (es rfl (es rfl (es rfl (es rfl (et rfl)))))) (ez rfl)) ?_
          refine W_off rfl (wanted_f rfl rfl (es rfl (es rfl (es rfl (es rfl (es rfl (es rfl (es rfl (es rfl (es rfl (es rfl (es rfl (es rfl (es rfl (es rfl (es rfl (et rfl)))))))))))))))) (ez rfl) rfl) ?_
          refine W_v rfl rfl (V_pickF rfl (es rfl (es rfl (es rfl (es rfl (es rfl (es rfl (es rfl (es rfl (es rfl (es rfl (es rfl (es rfl (es rfl (es rfl (es rfl (es rfl (et rfl))))))))))))))))) rfl) ?_
          refine W_end ?_
          refine gen_Q (fun A141 hA141 => ?_)
          have hsz141 : SzN A141 171 := by rw [hA141]; infer_instance
          have hdf141 : A141.defers = [] := by rw [hA141]; simp only [df_put]; exact hdf131
          have l3_141 := lookE hA141 3 (es rfl (es rfl (es rfl (es rfl (es rfl (es rfl (es rfl (es rfl (es rfl (es rfl (es rfl (es rfl (es rfl (es rfl (es rfl (es rfl (es rfl (es rfl (es rfl (es rfl l3_131))))))))))))))))))))
          have l4_141 := lookE hA141 4 (es rfl (es rfl (es rfl (es rfl (es rfl (es rfl (es rfl (es rfl (es rfl (es rfl (es rfl (es rfl (es rfl (es rfl (es rfl (es rfl (es rfl (es rfl (es rfl (es rfl l4_131))))))))))))))))))))
          have l11_141 := lookE hA141 11 (es rfl (es rfl (es rfl (es rfl (es rfl (es rfl (es rfl (es rfl (es rfl (es rfl (es rfl (es rfl (es rfl (es rfl (es rfl (es rfl (es rfl (es rfl (es rfl (es rfl l11_131))))))))))))))))))))
          have l12_141 := lookE hA141 12 (es rfl (es rfl (es rfl (es rfl (es rfl (es rfl (es rfl (es rfl (es rfl (es rfl (es rfl (es rfl (es rfl (es rfl (es rfl (es rfl (es rfl (es rfl (es rfl (es rfl l12_131))))))))))))))))))))
          have l122_141 := lookE hA141 122 (es rfl (es rfl (es rfl (es rfl (es rfl (es rfl (es rfl (es rfl (es rfl (es rfl (es rfl (es rfl (es rfl (es rfl (es rfl (es rfl (es rfl (es rfl (es rfl (es rfl l122_131))))))))))))))))))))
          have l123_141 := lookE hA141 123 (es rfl (es rfl (es rfl (es rfl (es rfl (es rfl (es rfl (es rfl (es rfl (es rfl (es rfl (es rfl (es rfl (es rfl (es rfl (es rfl (es rfl (es rfl (es rfl (es rfl l123_131))))))))))))))))))))
          have l124_141 := lookE hA141 124 (es rfl (es rfl (es rfl (es rfl (es rfl (es rfl (es rfl (es rfl (es rfl (es rfl (es rfl (es rfl (es rfl (es rfl (es rfl (es rfl (es rfl (es rfl (es rfl (es rfl l124_131))))))))))))))))))))
          have l125_141 := lookE hA141 125 (es rfl (es rfl (es rfl (es rfl (es rfl (es rfl (es rfl (es rfl (es rfl (es rfl (es rfl (es rfl (es rfl (es rfl (es rfl (es rfl (es rfl (es rfl (es rfl (es rfl l125_131))))))))))))))))))))
          have l126_141 := lookE hA141 126 (es rfl (es rfl (es rfl (es rfl (es rfl (es rfl (es rfl (es rfl (es rfl (es rfl (es rfl (es rfl (es rfl (es rfl (es rfl (es rfl (es rfl (es rfl (es rfl (es rfl l126_131))))))))))))))))))))
          have l127_141 := lookE hA141 127 (es rfl (es rfl (es rfl (es rfl (es rfl (es rfl (es rfl (es rfl (es rfl (es rfl (es rfl (es rfl (es rfl (es rfl (es rfl (es rfl (es rfl (es rfl (es rfl (es rfl l127_131))))))))))))))))))))
          have l128_141 := lookE hA141 128 (es rfl (es rfl (es rfl (es rfl (es rfl (es rfl (es rfl (es rfl (es rfl (es rfl (es rfl (es rfl (es rfl (es rfl (es rfl (es rfl (es rfl (es rfl (es rfl (es rfl l128_131))))))))))))))))))))
          have l131_141 := lookE hA141 131 (es rfl (es rfl (es rfl (es rfl (es rfl (es rfl (es rfl (es rfl (es rfl (es rfl (es rfl (es rfl (es rfl (es rfl (es rfl (es rfl (es rfl (es rfl (es rfl (es rfl l131_131))))))))))))))))))))
          have l132_141 := lookE hA141 132 (es rfl (es rfl (es rfl (es rfl (es rfl (es rfl (es rfl (es rfl (es rfl (es rfl (es rfl (es rfl (es rfl (es rfl (es rfl (es rfl (es rfl (es rfl (es rfl (es rfl l132_131))))))))))))))))))))
          have l137_141 := lookE hA141 137 (es rfl (es rfl (es rfl (es rfl (es rfl (es rfl (es rfl (es rfl (es rfl (es rfl (es rfl (es rfl (es rfl (es rfl (es rfl (es rfl (et rfl)))))))))))))))))
          have l138_141 := lookE hA141 138 (es rfl (es rfl (es rfl (es rfl (es rfl (es rfl (es rfl (es rfl (es rfl (es rfl (es rfl (es rfl (es rfl (es rfl (es rfl (et rfl))))))))))))))))
          have l139_141 := lookE hA141 139 (es rfl (es rfl (es rfl (es rfl (es rfl (es rfl (es rfl (es rfl (es rfl (es rfl (es rfl (es rfl (es rfl (es rfl (et rfl)))))))))))))))
          have l140_141 := lookE hA141 140 (es rfl (es rfl (es rfl (es rfl (es rfl (es rfl (es rfl (es rfl (es rfl (es rfl (es rfl (es rfl (es rfl (et rfl))))))))))))))
          have l141_141 := lookE hA141 141 (es rfl (es rfl (es rfl (es rfl (es rfl (es rfl (es rfl (es rfl (es rfl (es rfl (es rfl (es rfl (et rfl)))))))))))))
          have l142_141 := lookE hA141 142 (es rfl (es rfl (es rfl (es rfl (es rfl (es rfl (es rfl (es rfl (es rfl (es rfl (es rfl (et rfl))))))))))))
          have l143_141 := lookE hA141 143 (es rfl (es rfl (es rfl (es rfl (es rfl (es rfl (es rfl (es rfl (es rfl (es rfl (et rfl)))))))))))
          have l144_141 := lookE hA141 144 (es rfl (es rfl (es rfl (es rfl (es rfl (es rfl (es rfl (es rfl (es rfl (et rfl))))))))))
          have l145_141 := lookE hA141 145 (es rfl (es rfl (es rfl (es rfl (es rfl (es rfl (es rfl (es rfl (et rfl)))))))))
          have l146_141 := lookE hA141 146 (es rfl (es rfl (es rfl (es rfl (es rfl (es rfl (es rfl (et rfl))))))))
          have l147_141 := lookE hA141 147 (es rfl (es rfl (es rfl (es rfl (es rfl (es rfl (et rfl)))))))
          have l148_141 := lookE hA141 148 (es rfl (es rfl (es rfl (es rfl (es rfl (et rfl))))))
          have l149_141 := lookE hA141 149 (es rfl (es rfl (es rfl (es rfl (et rfl)))))
          have l150_141 := lookE hA141 150 (es rfl (es rfl (es rfl (et rfl))))
          have l151_141 := lookE hA141 151 (es rfl (es rfl (et rfl)))
          have l152_141 := lookE hA141 152 (es rfl (et rfl))
          have l153_141 := lookE hA141 153 (et rfl)
          clear hA141 hsz131 hdf131 l3_131 l4_131 l11_131 l12_131 l14_131 l15_131 l16_131 l122_131 l123_131 l124_131 l125_131 l126_131 l127_131 l128_131 l131_131 l132_131 l133_131
          refine then_n (hK133 _ _ ?_)
          clear hK133
          refine cond_f l153_141 ?_
          refine wp_skip ?_
          refine then_n (hK132 _ _ ?_)
          clear hK132
          -- region 33
          refine region_in ?_
          refine W_v rfl rfl (V_mov rfl l11_141) ?_
          refine W_v rfl rfl (V_mov rfl (es rfl l12_141)) ?_
          have k142 : c < 24 := by omega
          refine W_v rfl rfl (V_ixA (sz := 1) (off' := c) (c) rfl (es rfl (es rfl l4_141)) (et rfl) (by omega) Try.underlying39 k142 (by kernel_rfl) (by omega)) ?_
          refine W_r rfl rfl (VR_ldC rfl (et rfl) (cell_box b17 (arrI_get hy128)) Try.underlying3 rfl) ?_
          refine W_v rfl rfl (V_add rfl (es rfl (es rfl (es rfl (et rfl)))) (et rfl) (by omega) (by omega)) ?_
          refine W_v rfl rfl (V_asg rfl (et rfl)) ?_
          refine W_end ?_
          refine gen_Q (fun A144 hA144 => ?_)
          have hsz144 : SzN A144 171 := by rw [hA144]; infer_instance
          have hdf144 : A144.defers = [] := by rw [hA144]; simp only [df_put]; exact hdf141
          have l3_144 := lookE hA144 3 (es rfl (es rfl (es rfl (es rfl (es rfl (es rfl l3_141))))))
          have l4_144 := lookE hA144 4 (es rfl (es rfl (es rfl (es rfl (es rfl (es rfl l4_141))))))
          have l11_144 := lookE hA144 11 (et rfl)
          have l12_144 := lookE hA144 12 (es rfl (es rfl (es rfl (es rfl (es rfl (es rfl l12_141))))))
          have l122_144 := lookE hA144 122 (es rfl (es rfl (es rfl (es rfl (es rfl (es rfl l122_141))))))
          have l123_144 := lookE hA144 123 (es rfl (es rfl (es rfl (es rfl (es rfl (es rfl l123_141))))))
          have l124_144 := lookE hA144 124 (es rfl (es rfl (es rfl (es rfl (es rfl (es rfl l124_141))))))
          have l125_144 := lookE hA144 125 (es rfl (es rfl (es rfl (es rfl (es rfl (es rfl l125_141))))))
          have l126_144 := lookE hA144 126 (es rfl (es rfl (es rfl (es rfl (es rfl (es rfl l126_141))))))
          have l127_144 := lookE hA144 127 (es rfl (es rfl (es rfl (es rfl (es rfl (es rfl l127_141))))))
          have l128_144 := lookE hA144 128 (es rfl (es rfl (es rfl (es rfl (es rfl (es rfl l128_141))))))
          have l131_144 := lookE hA144 131 (es rfl (es rfl (es rfl (es rfl (es rfl (es rfl l131_141))))))
          have l132_144 := lookE hA144 132 (es rfl (es rfl (es rfl (es rfl (es rfl (es rfl l132_141))))))
          have l137_144 := lookE hA144 137 (es rfl (es rfl (es rfl (es rfl (es rfl (es rfl l137_141))))))
          have l138_144 := lookE hA144 138 (es rfl (es rfl (es rfl (es rfl (es rfl (es rfl l138_141))))))
          have l139_144 := lookE hA144 139 (es rfl (es rfl (es rfl (es rfl (es rfl (es rfl l139_141))))))
          have l140_144 := lookE hA144 140 (es rfl (es rfl (es rfl (es rfl (es rfl (es rfl l140_141))))))
          have l141_144 := lookE hA144 141 (es rfl (es rfl (es rfl (es rfl (es rfl (es rfl l141_141))))))
          have l142_144 := lookE hA144 142 (es rfl (es rfl (es rfl (es rfl (es rfl (es rfl l142_141))))))
          have l143_144 := lookE hA144 143 (es rfl (es rfl (es rfl (es rfl (es rfl (es rfl l143_141))))))
          have l144_144 := lookE hA144 144 (es rfl (es rfl (es rfl (es rfl (es rfl (es rfl l144_141))))))
          have l145_144 := lookE hA144 145 (es rfl (es rfl (es rfl (es rfl (es rfl (es rfl l145_141))))))
          have l146_144 := lookE hA144 146 (es rfl (es rfl (es rfl (es rfl (es rfl (es rfl l146_141))))))
          have l147_144 := lookE hA144 147 (es rfl (es rfl (es rfl (es rfl (es rfl (es rfl l147_141))))))
          have l148_144 := lookE hA144 148 (es rfl (es rfl (es rfl (es rfl (es rfl (es rfl l148_141))))))
          have l149_144 := lookE hA144 149 (es rfl (es rfl (es rfl (es rfl (es rfl (es rfl l149_141))))))
          have l150_144 := lookE hA144 150 (es rfl (es rfl (es rfl (es rfl (es rfl (es rfl l150_141))))))
          have l151_144 := lookE hA144 151 (es rfl (es rfl (es rfl (es rfl (es rfl (es rfl l151_141))))))
          have l152_144 := lookE hA144 152 (es rfl (es rfl (es rfl (es rfl (es rfl (es rfl l152_141))))))
          clear hA144 hsz141 hdf141 l3_141 l4_141 l11_141 l12_141 l122_141 l123_141 l124_141 l125_141 l126_141 l127_141 l128_141 l131_141 l132_141 l137_141 l138_141 l139_141 l140_141 l141_141 l142_141 l143_141 l144_141 l145_141 l146_141 l147_141 l148_141 l149_141 l150_141 l151_141 l152_141 l153_141
          refine inb_n ?_
          refine then_n (hK114 _ _ ?_)
          clear hK114
          -- region 26
          refine region_in ?_
          refine W_v rfl rfl (V_mov rfl l12_144) ?_
          refine W_v rfl rfl (V_add rfl (et rfl) rfl (by omega) (by omega)) ?_
          refine W_v rfl rfl (V_asg rfl (et rfl)) ?_
          refine W_end ?_
          refine gen_Q (fun A145 hA145 => ?_)
          have hsz145 : SzN A145 171 := by rw [hA145]; infer_instance
          have hdf145 : A145.defers = [] := by rw [hA145]; simp only [df_put]; exact hdf144
          have l3_145 := lookE hA145 3 (es rfl (es rfl (es rfl l3_144)))
          have l4_145 := lookE hA145 4 (es rfl (es rfl (es rfl l4_144)))
          have l11_145 := lookE hA145 11 (es rfl (es rfl (es rfl l11_144)))
          have l12_145 := lookE hA145 12 (et rfl)
          have l122_145 := lookE hA145 122 (es rfl (es rfl (es rfl l122_144)))
          have l123_145 := lookE hA145 123 (es rfl (es rfl (es rfl l123_144)))
          have l124_145 := lookE hA145 124 (es rfl (es rfl (es rfl l124_144)))
          have l125_145 := lookE hA145 125 (es rfl (es rfl (es rfl l125_144)))
          have l126_145 := lookE hA145 126 (es rfl (es rfl (es rfl l126_144)))
          have l127_145 := lookE hA145 127 (es rfl (es rfl (es rfl l127_144)))
          have l128_145 := lookE hA145 128 (es rfl (es rfl (es rfl l128_144)))
          have l131_145 := lookE hA145 131 (es rfl (es rfl (es rfl l131_144)))
          have l132_145 := lookE hA145 132 (es rfl (es rfl (es rfl l132_144)))
          have l137_145 := lookE hA145 137 (es rfl (es rfl (es rfl l137_144)))
          have l138_145 := lookE hA145 138 (es rfl (es rfl (es rfl l138_144)))
          have l139_145 := lookE hA145 139 (es rfl (es rfl (es rfl l139_144)))
          have l140_145 := lookE hA145 140 (es rfl (es rfl (es rfl l140_144)))
          have l141_145 := lookE hA145 141 (es rfl (es rfl (es rfl l141_144)))
          have l142_145 := lookE hA145 142 (es rfl (es rfl (es rfl l142_144)))
          have l143_145 := lookE hA145 143 (es rfl (es rfl (es rfl l143_144)))
          have l144_145 := lookE hA145 144 (es rfl (es rfl (es rfl l144_144)))
          have l145_145 := lookE hA145 145 (es rfl (es rfl (es rfl l145_144)))
          have l146_145 := lookE hA145 146 (es rfl (es rfl (es rfl l146_144)))
          have l147_145 := lookE hA145 147 (es rfl (es rfl (es rfl l147_144)))
          have l148_145 := lookE hA145 148 (es rfl (es rfl (es rfl l148_144)))
          have l149_145 := lookE hA145 149 (es rfl (es rfl (es rfl l149_144)))
          have l150_145 := lookE hA145 150 (es rfl (es rfl (es rfl l150_144)))
          have l151_145 := lookE hA145 151 (es rfl (es rfl (es rfl l151_144)))
          have l152_145 := lookE hA145 152 (es rfl (es rfl (es rfl l152_144)))
          clear hA145 hsz144 hdf144 l3_144 l4_144 l11_144 l12_144 l122_144 l123_144 l124_144 l125_144 l126_144 l127_144 l128_144 l131_144 l132_144 l137_144 l138_144 l139_144 l140_144 l141_144 l142_144 l143_144 l144_144 l145_144 l146_144 l147_144 l148_144 l149_144 l150_144 l151_144 l152_144
          refine then_n ⟨24 - ((c + 1)), by simp only [hm109]; omega, hsz145, hdf145, hE123, (c + 1), rfl, (by omega), ((l12_145).trans (by first | rfl | (simp; done) | (congr 1; omega))), ((l11_145).trans ((by rw [below_hit (by omega) hy128]))), ((l3_145).trans l3_108.symm), ((l4_145).trans l4_108.symm), b13, b17, fl, fy⟩
      · skip
        refine wp_exit ?_
        refine then_exit ?_
        refine then_exit ?_
        refine inb_hit ?_
        refine then_n (hK106 _ _ ?_)
        clear hK106
        refine wp_seq_k (fun K146 hK146 => ?_)
        -- region 34
        refine region_in ?_
        refine W_v rfl rfl (V_fa (off' := 0) rfl l3_112 Try.underlying24 rfl (by decide) rfl) ?_
        refine W_r rfl rfl (VR_ldC rfl (et rfl) (cell_box (v := lv) b13 rfl) Try.underlying22 rfl) ?_
        refine W_v rfl rfl (V_lenI rfl (et rfl) fl.1 Try.underlying22) ?_
        refine W_v rfl rfl (V_fa (off' := 1) rfl (es rfl (es rfl (es rfl l3_112))) Try.underlying24 rfl (by decide) rfl) ?_
        refine W_r rfl rfl (VR_ldC rfl (et rfl) (cell_box (v := yv) b13 rfl) Try.underlying22 rfl) ?_
        refine W_v rfl rfl (V_lenI rfl (et rfl) fy.1 Try.underlying22) ?_
        refine W_v rfl rfl (V_add rfl (es rfl (es rfl (es rfl (et rfl)))) (et rfl) (by omega) (by omega)) ?_
        refine W_v rfl rfl (V_mov rfl (es rfl (es rfl (es rfl (es rfl (es rfl (es rfl (es rfl l11_112)))))))) ?_
        refine W_v rfl rfl (V_eql rfl (es rfl (et rfl)) (et rfl)) ?_
        refine W_sure (c' := true) rfl rfl (V_mov rfl (et rfl)) (by rw [decide_eq_true_eq, show c = 24 by omega, below_all hG]; omega) ?_
        refine W_call rfl (wanted_t rfl rfl (et rfl) (ez rfl)) rfl Try.func12 (by kernel_rfl) rfl (args0) (awake_c  ) ?_
        rintro _ w147 ⟨rfl, hx147⟩
        refine ⟨_, rfl, ?_⟩
        have hb148 := hE109.size
        have hE149 := Ext.tr hE109 hx147
        replace b13 := heap_ext hx147 b13
        replace b17 := heap_ext hx147 b17
        replace fl := fl.ext hx147
        replace fy := fy.ext hx147
        refine W_v rfl rfl (V_pickT rfl (es rfl (et rfl)) (et rfl)) ?_
        refine W_v rfl rfl (V_asg rfl (et rfl)) ?_
        refine W_end ?_
        refine gen_Q (fun A150 hA150 => ?_)
        have hsz150 : SzN A150 171 := by rw [hA150]; infer_instance
        have hdf150 : A150.defers = [] := by rw [hA150]; simp only [df_put]; exact hdf112
        have l2_150 := lookE hA150 2 (et rfl)
        clear hA150 hsz112 hdf112 l3_112 l4_112 l11_112 l12_112 l100_112
        refine then_n (hK146 _ _ ?_)
        clear hK146
        refine wp_ret ?_
        refine ret_in (results_1 Try.results5 (rv_tmp l2_150)) hdf150 ?_
        -- leaf FFF
        exact ⟨rfl, hE149⟩

end Go.Proofs.Ytfnbfmlnageflaa