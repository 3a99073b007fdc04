import Derived.Test.YtfnbfmlnageflaaRg2
import Derived.Test.YtfnbfmlnageflaaPl11
import Derived.Test.YtfnbfmlnageflaaGen2
namespace Go.Proofs.Ytfnbfmlnageflaa
open Go.RowKit Go.Own

theorem wout_skip {w : World} {B : Nat} {E : TypeId} {v : Value} {l : List Int} {n y : Int} {k : Nat} (h : OwnI w B E v (wout (l.take k) n)) (hy : l[k]? = some y) (he : y = n) : OwnI w B E v (wout (l.take (k + 1)) n) := by
  rw [wout_step hy, if_pos he]; exact h
theorem wout_take {w : World} {B : Nat} {E : TypeId} {v : Value} {l : List Int} {n y : Int} {k : Nat} (h : OwnI w B E v (wout (l.take k) n ++ [y])) (hy : l[k]? = some y) (he : y ≠ n) : OwnI w B E v (wout (l.take (k + 1)) n) := by
  rw [wout_step hy, if_neg he]; exact h

set_option maxHeartbeats 4000000 in
theorem without_c {v : Value} {zs : List Int} {n : Int} {w : World} (h_v : Ints w v zs) (h1 : zs.length ≤ 1000) :
    Calls Try.prog 38 #[v, .int .i64 n] w fun e w' => ∃ r, e = .returned (r) ∧ OwnI w' w.heap.size 3 (r) (wout zs n) ∧ Ext w w' := by
  refine calls_in 27 Try.func38 rfl rfl (by simp) (fun A0 hsz0 hdf0 hargs => ?_)
  have l0_0 := hargs 0 (v) rfl
  have l1_0 := hargs 1 (.int .i64 n) rfl
  clear hargs; replace hsz0 : SzN A0 27 := ⟨hsz0⟩
  have hE0 := Ext.rfl' w
  refine wp_seq_k (fun K1 hK1 => ?_)
  -- region 0
  refine region_in ?_
  refine W_v rfl rfl (V_asg rfl rfl) ?_
  refine W_end ?_
  refine gen_Q (fun A2 hA2 => ?_)
  have hsz2 : SzN A2 27 := by rw [hA2]; infer_instance
  have hdf2 : A2.defers = [] := by rw [hA2]; simp only [df_put]; exact hdf0
  have l0_2 := lookE hA2 0 (es rfl l0_0)
  have l1_2 := lookE hA2 1 (es rfl l1_0)
  clear hA2 hsz0 hdf0 l0_0 l1_0
  refine then_n (hK1 _ _ ?_)
  clear hK1
  refine wp_seq_k (fun K3 hK3 => ?_)
  -- region 1
  refine region_in ?_
  refine W_v rfl rfl (V_asg rfl rfl) ?_
  refine W_end ?_
  refine gen_Q (fun A4 hA4 => ?_)
  have hsz4 : SzN A4 27 := by rw [hA4]; infer_instance
  have hdf4 : A4.defers = [] := by rw [hA4]; simp only [df_put]; exact hdf2
  have l0_4 := lookE hA4 0 (es rfl l0_2)
  have l1_4 := lookE hA4 1 (es rfl l1_2)
  have l5_4 := lookE hA4 5 (et rfl)
  clear hA4 hsz2 hdf2 l0_2 l1_2
  refine then_n (hK3 _ _ ?_)
  clear hK3
  refine wp_seq_k (fun K5 hK5 => ?_)
  refine wp_seq_k (fun K6 hK6 => ?_)
  -- region 2
  refine region_in ?_
  refine W_v rfl rfl (V_asg rfl rfl) ?_
  refine W_end ?_
  refine gen_Q (fun A7 hA7 => ?_)
  have hsz7 : SzN A7 27 := by rw [hA7]; infer_instance
  have hdf7 : A7.defers = [] := by rw [hA7]; simp only [df_put]; exact hdf4
  have l0_7 := lookE hA7 0 (es rfl l0_4)
  have l1_7 := lookE hA7 1 (es rfl l1_4)
  have l5_7 := lookE hA7 5 (es rfl l5_4)
  have l6_7 := lookE hA7 6 (et rfl)
  clear hA7 hsz4 hdf4 l0_4 l1_4 l5_4
  refine then_n (hK6 _ _ ?_)
  clear hK6
  refine wp_block ?_
  -- loop 3
  have hwl := fun k => wout_len (zs.take k) n
  refine loopX (fun mz A' w' => SzN A' 27 ∧ A'.defers = [] ∧ Ext w w' ∧ (∃ (k : Nat) (ov : Value), (mz = zs.length - k) ∧ (k ≤ zs.length) ∧ (EV A' (.tmp 6) = .int .i64 (k : Int)) ∧ (EV A' (.tmp 5) = ov) ∧ (EV A' (.tmp 0) = EV A7 (.tmp 0)) ∧ (EV A' (.tmp 1) = EV A7 (.tmp 1)) ∧ (OwnI w' w.heap.size 3 (ov) (wout (zs.take k) n)))) (zs.length - (0)) ⟨hsz7, hdf7, hE0, 0, .slice none 0 0, rfl, (Nat.zero_le _), ((l6_7).trans (by first | rfl | (simp; done) | (congr 1; omega))), ((l5_7).trans (by first | rfl | (simp; done) | (congr 1; omega))), rfl, rfl, (World.ownsRow_nil _ _ _ _)⟩ ?_
  rintro n8 A8 w8 ⟨hsz8, hdf8, hE8, k, ov, hm8, hk, l6_8, l5_8, u0_8, u1_8, fo⟩
  have l0_8 := u0_8.trans l0_7
  have l1_8 := u1_8.trans l1_7
  refine wp_seq_k (fun K9 hK9 => ?_)
  refine wp_seq_k (fun K10 hK10 => ?_)
  -- region 3
  refine region_in ?_
  refine W_v rfl rfl (V_mov rfl l6_8) ?_
  refine W_v rfl rfl (V_mov rfl (es rfl l0_8)) ?_
  refine W_v rfl rfl (V_lenI rfl (et rfl) h_v Try.underlying22) ?_
  refine W_v rfl rfl (V_lss rfl (es rfl (es rfl (et rfl))) (et rfl)) ?_
  refine W_end ?_
  refine gen_Q (fun A11 hA11 => ?_)
  have hsz11 : SzN A11 27 := by rw [hA11]; infer_instance
  have hdf11 : A11.defers = [] := by rw [hA11]; simp only [df_put]; exact hdf8
  have l0_11 := lookE hA11 0 (es rfl (es rfl (es rfl (es rfl l0_8))))
  have l1_11 := lookE hA11 1 (es rfl (es rfl (es rfl (es rfl l1_8))))
  have l5_11 := lookE hA11 5 (es rfl (es rfl (es rfl (es rfl l5_8))))
  have l6_11 := lookE hA11 6 (es rfl (es rfl (es rfl (es rfl l6_8))))
  have l10_11 := lookE hA11 10 (et rfl)
  clear hA11 hsz8 hdf8 l6_8 l5_8 l0_8 l1_8
  refine then_n (hK10 _ _ ?_)
  clear hK10
  refine cond_dec l10_11 (fun c12 => ?_) (fun c12 => ?_)
  · skip
    refine wp_skip ?_
    refine then_n (hK9 _ _ ?_)
    clear hK9
    refine wp_seq_k (fun K13 hK13 => ?_)
    refine wp_block ?_
    refine wp_seq_k (fun K14 hK14 => ?_)
    -- region 5
    refine region_in ?_
    refine W_v rfl rfl (V_mov rfl l0_11) ?_
    refine W_v rfl rfl (V_mov rfl (es rfl l6_11)) ?_
    have k15 : k < zs.length := by omega
    obtain ⟨B15, O15, C15, y15, hv15, hy15, hc15⟩ := at_ints h_v (k) k15
    refine W_v rfl rfl (V_idx (k) rfl (es rfl (et rfl)) (et rfl) hv15 (by omega) k15 Try.underlying22 (by kernel_rfl)) ?_
    refine W_r rfl rfl (VR_ldC rfl (et rfl) (cell_ext hE8 hc15) Try.underlying3 rfl) ?_
    refine W_v rfl rfl (V_mov rfl (es rfl (es rfl (es rfl (es rfl l1_11))))) ?_
    refine W_v rfl rfl (V_neq rfl (es rfl (et rfl)) (et rfl)) ?_
    refine W_end ?_
    refine gen_Q (fun A16 hA16 => ?_)
    have hsz16 : SzN A16 27 := by rw [hA16]; infer_instance
    have hdf16 : A16.defers = [] := by rw [hA16]; simp only [df_put]; exact hdf11
    have l0_16 := lookE hA16 0 (es rfl (es rfl (es rfl (es rfl (es rfl (es rfl l0_11))))))
    have l1_16 := lookE hA16 1 (es rfl (es rfl (es rfl (es rfl (es rfl (es rfl l1_11))))))
    have l5_16 := lookE hA16 5 (es rfl (es rfl (es rfl (es rfl (es rfl (es rfl l5_11))))))
    have l6_16 := lookE hA16 6 (es rfl (es rfl (es rfl (es rfl (es rfl (es rfl l6_11))))))
    have l18_16 := lookE hA16 18 (et rfl)
    clear hA16 hsz11 hdf11 l0_11 l1_11 l5_11 l6_11 l10_11
    refine then_n (hK14 _ _ ?_)
    clear hK14
    refine cond_dec l18_16 (fun c17 => ?_) (fun c17 => ?_)
    · skip
      -- region 6
      refine region_in ?_
      refine W_v rfl rfl (V_mov rfl l5_16) ?_
      refine W_v rfl rfl (V_mov rfl (es rfl l0_16)) ?_
      refine W_v rfl rfl (V_mov rfl (es rfl (es rfl l6_16))) ?_
      refine W_v rfl rfl (V_idx (k) rfl (es rfl (et rfl)) (et rfl) hv15 (by omega) k15 Try.underlying22 (by kernel_rfl)) ?_
      refine W_r rfl rfl (VR_ldC rfl (et rfl) (cell_ext hE8 hc15) Try.underlying3 rfl) ?_
      refine W_lit1 rfl rfl rfl (et rfl) Try.underlying22 (by kernel_rfl) (fun g19 w19 hg19 hx19 f19 => ?_)
      replace f19 := f19.base hE8.size
      have hE20 := Ext.tr hE8 hx19
      replace fo := fo.ext hx19
      refine W_app rfl rfl rfl (es rfl (es rfl (es rfl (es rfl (es rfl (et rfl)))))) (et rfl) Try.underlying22 Try.underlying22 (by kernel_rfl) fo hE20 f19.1 (by have := wout_len (zs.take k) n; have := List.length_take_le k zs; simp; omega) (fun v21 w21 f21 hgr21 hy21 => ?_)
      obtain ⟨a21, c21, rfl⟩ := f21.form
      refine W_v rfl rfl (V_asg rfl (et rfl)) ?_
      refine W_end ?_
      refine gen_Q (fun A22 hA22 => ?_)
      have hsz22 : SzN A22 27 := by rw [hA22]; infer_instance
      have hdf22 : A22.defers = [] := by rw [hA22]; simp only [df_put]; exact hdf16
      have l0_22 := lookE hA22 0 (es rfl (es rfl (es rfl (es rfl (es rfl (es rfl (es rfl (es rfl l0_16))))))))
      have l1_22 := lookE hA22 1 (es rfl (es rfl (es rfl (es rfl (es rfl (es rfl (es rfl (es rfl l1_16))))))))
      have l5_22 := lookE hA22 5 (et rfl)
      have l6_22 := lookE hA22 6 (es rfl (es rfl (es rfl (es rfl (es rfl (es rfl (es rfl (es rfl l6_16))))))))
      clear hA22 hsz16 hdf16 l0_16 l1_16 l5_16 l6_16 l18_16
      refine inb_n ?_
      refine then_n (hK13 _ _ ?_)
      clear hK13
      -- region 4
      refine region_in ?_
      refine W_v rfl rfl (V_mov rfl l6_22) ?_
      refine W_v rfl rfl (V_add rfl (et rfl) rfl (by omega) (by omega)) ?_
      refine W_v rfl rfl (V_asg rfl (et rfl)) ?_
      refine W_end ?_
      refine gen_Q (fun A23 hA23 => ?_)
      have hsz23 : SzN A23 27 := by rw [hA23]; infer_instance
      have hdf23 : A23.defers = [] := by rw [hA23]; simp only [df_put]; exact hdf22
      have l0_23 := lookE hA23 0 (es rfl (es rfl (es rfl l0_22)))
      have l1_23 := lookE hA23 1 (es rfl (es rfl (es rfl l1_22)))
      have l5_23 := lookE hA23 5 (es rfl (es rfl (es rfl l5_22)))
      have l6_23 := lookE hA23 6 (et rfl)
      clear hA23 hsz22 hdf22 l0_22 l1_22 l5_22 l6_22
      refine then_n ⟨zs.length - ((k + 1)), by simp only [hm8]; omega, hsz23, hdf23, hy21, (k + 1), (.slice a21 ((wout (zs.take k) n) ++ [y15]).length c21), rfl, (by omega), ((l6_23).trans (by first | rfl | (simp; done) | (congr 1; omega))), ((l5_23).trans (by first | rfl | (simp; done) | (congr 1; omega))), ((l0_23).trans l0_7.symm), ((l1_23).trans l1_7.symm), (wout_take f21 (by assumption) c17)⟩
    · skip
      refine wp_skip ?_
      refine inb_n ?_
      refine then_n (hK13 _ _ ?_)
      clear hK13
      -- region 4
      refine region_in ?_
      refine W_v rfl rfl (V_mov rfl l6_16) ?_
      refine W_v rfl rfl (V_add rfl (et rfl) rfl (by omega) (by omega)) ?_
      refine W_v rfl rfl (V_asg rfl (et rfl)) ?_
      refine W_end ?_
      refine gen_Q (fun A24 hA24 => ?_)
      have hsz24 : SzN A24 27 := by rw [hA24]; infer_instance
      have hdf24 : A24.defers = [] := by rw [hA24]; simp only [df_put]; exact hdf16
      have l0_24 := lookE hA24 0 (es rfl (es rfl (es rfl l0_16)))
      have l1_24 := lookE hA24 1 (es rfl (es rfl (es rfl l1_16)))
      have l5_24 := lookE hA24 5 (es rfl (es rfl (es rfl l5_16)))
      have l6_24 := lookE hA24 6 (et rfl)
      clear hA24 hsz16 hdf16 l0_16 l1_16 l5_16 l6_16 l18_16
      refine then_n ⟨zs.length - ((k + 1)), by simp only [hm8]; omega, hsz24, hdf24, hE8, (k + 1), (ov), rfl, (by omega), ((l6_24).trans (by first | rfl | (simp; done) | (congr 1; omega))), ((l5_24).trans (by first | rfl | (simp; done) | (congr 1; omega))), ((l0_24).trans l0_7.symm), ((l1_24).trans l1_7.symm), (wout_skip fo (by assumption) (by simpa using c17))⟩
  · skip
    refine wp_exit ?_
    refine then_exit ?_
    refine then_exit ?_
    refine inb_hit ?_
    refine then_n (hK5 _ _ ?_)
    clear hK5
    refine wp_seq_k (fun K25 hK25 => ?_)
    -- region 7
    refine region_in ?_
    refine W_v rfl rfl (V_mov rfl l5_11) ?_
    refine W_v rfl rfl (V_asg rfl (et rfl)) ?_
    refine W_end ?_
    refine gen_Q (fun A26 hA26 => ?_)
    have hsz26 : SzN A26 27 := by rw [hA26]; infer_instance
    have hdf26 : A26.defers = [] := by rw [hA26]; simp only [df_put]; exact hdf11
    have l4_26 := lookE hA26 4 (et rfl)
    clear hA26 hsz11 hdf11 l0_11 l1_11 l5_11 l6_11 l10_11
    refine then_n (hK25 _ _ ?_)
    clear hK25
    refine wp_ret ?_
    refine ret_in (results_1 Try.results38 (rv_tmp l4_26)) hdf26 ?_
    -- leaf F
    exact ⟨_, rfl, (by rw [List.take_of_length_le (by omega)] at fo; exact fo), hE8⟩

set_option maxHeartbeats 4000000 in
theorem count_c {lv : Value} {lo : List Int} {yv : Value} {yo : List Int} {w : World} (h_lv : Ints w lv lo) (h_yv : Ints w yv yo) (h1 : lo.length ≤ 1000) (h2 : yo.length ≤ 1000) :
    Calls Try.prog 21 #[.agg #[lv, yv]] w fun e w' => e = .returned (.agg (arrI .i64 (cnt (lo ++ yo)))) ∧ Ext w w' := by
  refine calls_in 40 Try.func21 rfl rfl (by simp) (fun A0 hsz0 hdf0 hargs => ?_)
  have l0_0 := hargs 0 (.agg #[lv, yv]) rfl
  clear hargs; replace hsz0 : SzN A0 40 := ⟨hsz0⟩
  have hE0 := Ext.rfl' w
  refine wp_seq_k (fun K1 hK1 => ?_)
  -- region 0
  refine region_in ?_
  refine W_box (cs := #[lv, yv]) rfl rfl rfl l0_0 rfl (fun g2 w2 hg2 hx2 b2 => ?_)
  have oB_2 : w.heap.size ≤ g2 := hg2 ▸ hE0.size
  have hE3 := Ext.tr hE0 hx2
  refine W_alloc (z := .agg #[.int .i64 0, .int .i64 0, .int .i64 0, .int .i64 0, .int .i64 0, .int .i64 0, .int .i64 0, .int .i64 0, .int .i64 0, .int .i64 0, .int .i64 0, .int .i64 0, .int .i64 0, .int .i64 0, .int .i64 0, .int .i64 0, .int .i64 0, .int .i64 0, .int .i64 0, .int .i64 0, .int .i64 0, .int .i64 0, .int .i64 0, .int .i64 0]) (cs := arrI .i64 (List.replicate 24 (0 : Int))) rfl rfl rfl (by kernel_rfl) (by rfl) (fun g4 w4 hg4 hx4 b4 => ?_)
  have o2_4 : g2 < g4 := hg4 ▸ lt_size b2
  have oB_4 : w.heap.size ≤ g4 := hg4 ▸ hE3.size
  have hE5 := Ext.tr hE3 hx4
  replace b2 := heap_ext hx4 b2
  refine W_end ?_
  refine gen_Q (fun A6 hA6 => ?_)
  have hsz6 : SzN A6 40 := by rw [hA6]; infer_instance
  have hdf6 : A6.defers = [] := by rw [hA6]; simp only [df_put]; exact hdf0
  have l1_6 := lookE hA6 1 (es rfl (et rfl))
  have l2_6 := lookE hA6 2 (et rfl)
  clear hA6 hsz0 hdf0 l0_0
  refine then_n (hK1 _ _ ?_)
  clear hK1
  refine wp_seq_k (fun K7 hK7 => ?_)
  -- region 1
  refine region_in ?_
  refine W_alloc (z := .agg #[.int .i64 0, .int .i64 0, .int .i64 0, .int .i64 0, .int .i64 0, .int .i64 0, .int .i64 0, .int .i64 0, .int .i64 0, .int .i64 0, .int .i64 0, .int .i64 0, .int .i64 0, .int .i64 0, .int .i64 0, .int .i64 0, .int .i64 0, .int .i64 0, .int .i64 0, .int .i64 0, .int .i64 0, .int .i64 0, .int .i64 0, .int .i64 0]) (cs := arrI .i64 (List.replicate 24 (0 : Int))) rfl rfl rfl (by kernel_rfl) (by rfl) (fun g8 w8 hg8 hx8 b8 => ?_)
  have o2_8 : g2 < g8 := hg8 ▸ lt_size b2
  have o4_8 : g4 < g8 := hg8 ▸ lt_size b4
  have oB_8 : w.heap.size ≤ g8 := hg8 ▸ hE5.size
  have hE9 := Ext.tr hE5 hx8
  replace b2 := heap_ext hx8 b2
  replace b4 := heap_ext hx8 b4
  refine W_end ?_
  refine gen_Q (fun A10 hA10 => ?_)
  have hsz10 : SzN A10 40 := by rw [hA10]; infer_instance
  have hdf10 : A10.defers = [] := by rw [hA10]; simp only [df_put]; exact hdf6
  have l1_10 := lookE hA10 1 (es rfl l1_6)
  have l2_10 := lookE hA10 2 (es rfl l2_6)
  have l3_10 := lookE hA10 3 (et rfl)
  clear hA10 hsz6 hdf6 l1_6 l2_6
  refine then_n (hK7 _ _ ?_)
  clear hK7
  refine wp_seq_k (fun K11 hK11 => ?_)
  -- region 2
  refine region_mono 6 7 [some (.emp w8 3), none, none, some (.own w8 3 (lo))] (by kernel_rfl) (by kernel_rfl) ?_
  refine C_emp rfl rfl rfl Try.underlying22 (by kernel_rfl) rfl rfl (fun g12 => ?_)
  refine C_v rfl rfl (V_fa (off' := 0) rfl (es rfl l1_10) Try.underlying24 rfl (by decide) rfl) rfl rfl ?_
  refine C_r rfl rfl (by kernel_rfl) (fun wx hx hF => (VR_ldC rfl (et rfl) (cell_box (v := lv) (heap_ext hx b2) rfl) Try.underlying22 rfl)) rfl rfl ?_
  refine C_appE (zs := lo) rfl rfl rfl (es rfl (es rfl (et rfl))) (et rfl) Try.underlying22 Try.underlying22 (by kernel_rfl) rfl rfl (fun wx hx hF => by obtain ⟨gq0, hq0, ge0, he0⟩ := ancF_get hF (by kernel_rfl); cases hq0; exact ⟨⟨_, rfl, ge0, he0⟩, (h_lv.ext (Ext.tr hE9 hx))⟩) (by first | omega | (simp; done) | (simp; omega)) (fun v13 hu13 => ?_)
  obtain ⟨a13, c13, rfl⟩ : ∃ a c, v13 = .slice a (lo).length c := by obtain ⟨_, _, hu13⟩ := hu13; exact hu13.form
  clear hu13
  refine C_v rfl rfl (V_fa (off' := 1) rfl (es rfl (es rfl (es rfl (es rfl l1_10)))) Try.underlying24 rfl (by decide) rfl) rfl rfl ?_
  refine C_r rfl rfl (by kernel_rfl) (fun wx hx hF => (VR_ldC rfl (et rfl) (cell_box (v := yv) (heap_ext hx b2) rfl) Try.underlying22 rfl)) rfl rfl ?_
  refine C_eff rfl ?_
  refine Z_eff rfl rfl (fun w14 hz14 hF14 => ?_)
  obtain ⟨gq0, hq0, ge0, he0⟩ := all_get (all_rest hF14); cases hq0
  obtain f13 := all_get hF14; skip
  clear hF14
  have hR14 := hE9.size
  have hE15 := Ext.tr hE9 hz14
  replace b2 := heap_ext hz14 b2
  replace b4 := heap_ext hz14 b4
  replace b8 := heap_ext hz14 b8
  have ul_f13 := fre_lo f13.fre
  replace f13 := f13.base hR14
  refine W_app rfl rfl rfl (es rfl (es rfl (et rfl))) (et rfl) Try.underlying22 Try.underlying22 (by kernel_rfl) f13 hE15 (h_yv.ext hE15) (by first | omega | (simp; done) | (simp; omega)) (fun v16 w16 f16 hgr16 hy16 => ?_)
  obtain ⟨a16, c16, rfl⟩ := f16.form
  replace b2 := box_app b2 hgr16 f13 rfl
  replace b4 := box_app b4 hgr16 f13 rfl
  replace b8 := box_app b8 hgr16 f13 rfl
  refine W_v rfl rfl (V_asg rfl (et rfl)) ?_
  refine W_end ?_
  refine Qo_normal ?_
  refine gen_Q (fun A17 hA17 => ?_)
  have hsz17 : SzN A17 40 := by rw [hA17]; infer_instance
  have hdf17 : A17.defers = [] := by rw [hA17]; simp only [df_put]; exact hdf10
  have l2_17 := lookE hA17 2 (es rfl (es rfl (es rfl (es rfl (es rfl (es rfl (es rfl (es rfl l2_10))))))))
  have l3_17 := lookE hA17 3 (es rfl (es rfl (es rfl (es rfl (es rfl (es rfl (es rfl (es rfl l3_10))))))))
  have l4_17 := lookE hA17 4 (et rfl)
  clear hA17 hsz10 hdf10 l1_10 l2_10 l3_10
  refine then_n (hK11 _ _ ?_)
  clear hK11
  refine wp_seq_k (fun K18 hK18 => ?_)
  refine wp_seq_k (fun K19 hK19 => ?_)
  -- region 3
  refine region_in ?_
  refine W_v rfl rfl (V_asg rfl rfl) ?_
  refine W_end ?_
  refine gen_Q (fun A20 hA20 => ?_)
  have hsz20 : SzN A20 40 := by rw [hA20]; infer_instance
  have hdf20 : A20.defers = [] := by rw [hA20]; simp only [df_put]; exact hdf17
  have l2_20 := lookE hA20 2 (es rfl l2_17)
  have l3_20 := lookE hA20 3 (es rfl l3_17)
  have l4_20 := lookE hA20 4 (es rfl l4_17)
  have l5_20 := lookE hA20 5 (et rfl)
  clear hA20 hsz17 hdf17 l2_17 l3_17 l4_17
  refine then_n (hK19 _ _ ?_)
  clear hK19
  refine wp_block ?_
  -- loop 4
  have hap : (lo ++ yo).length = lo.length + yo.length := List.length_append
  refine loopX (fun mz A' w' => SzN A' 40 ∧ A'.defers = [] ∧ Ext w w' ∧ (∃ (k : Nat), (mz = (lo ++ yo).length - k) ∧ (k ≤ (lo ++ yo).length) ∧ (EV A' (.tmp 5) = .int .i64 (k : Int)) ∧ (EV A' (.tmp 2) = EV A20 (.tmp 2)) ∧ (EV A' (.tmp 3) = EV A20 (.tmp 3)) ∧ (EV A' (.tmp 4) = EV A20 (.tmp 4)) ∧ (w'.heap[g4]? = some (.cells (arrI .i64 ((List.replicate 24 (0 : Int)))) 39 (0, 0))) ∧ (w'.heap[g8]? = some (.cells (arrI .i64 (cnt ((lo ++ yo).take k))) 39 (0, 0))) ∧ (OwnI w' w.heap.size 3 (.slice a16 (lo ++ yo).length c16) ((lo ++ yo))))) ((lo ++ yo).length - (0)) ⟨hsz20, hdf20, hy16, 0, rfl, (Nat.zero_le _), ((l5_20).trans (by first | rfl | (simp; done) | (congr 1; omega))), rfl, rfl, rfl, b4, (((cnt_zero)) ▸ b8), f16⟩ ?_
  clear b8 b4 f16
  rintro n21 A21 w21 ⟨hsz21, hdf21, hE21, k, hm21, hk, l5_21, u2_21, u3_21, u4_21, b4, b8, f16⟩
  have l2_21 := u2_21.trans l2_20
  have l3_21 := u3_21.trans l3_20
  have l4_21 := u4_21.trans l4_20
  refine wp_seq_k (fun K22 hK22 => ?_)
  refine wp_seq_k (fun K23 hK23 => ?_)
  -- region 4
  refine region_in ?_
  refine W_v rfl rfl (V_mov rfl l5_21) ?_
  refine W_v rfl rfl (V_mov rfl (es rfl l4_21)) ?_
  refine W_v rfl rfl (V_len rfl (et rfl) rfl Try.underlying22) ?_
  refine W_v rfl rfl (V_lss rfl (es rfl (es rfl (et rfl))) (et rfl)) ?_
  refine W_end ?_
  refine gen_Q (fun A24 hA24 => ?_)
  have hsz24 : SzN A24 40 := by rw [hA24]; infer_instance
  have hdf24 : A24.defers = [] := by rw [hA24]; simp only [df_put]; exact hdf21
  have l2_24 := lookE hA24 2 (es rfl (es rfl (es rfl (es rfl l2_21))))
  have l3_24 := lookE hA24 3 (es rfl (es rfl (es rfl (es rfl l3_21))))
  have l4_24 := lookE hA24 4 (es rfl (es rfl (es rfl (es rfl l4_21))))
  have l5_24 := lookE hA24 5 (es rfl (es rfl (es rfl (es rfl l5_21))))
  have l16_24 := lookE hA24 16 (et rfl)
  clear hA24 hsz21 hdf21 l5_21 l2_21 l3_21 l4_21
  refine then_n (hK23 _ _ ?_)
  clear hK23
  refine cond_dec l16_24 (fun c25 => ?_) (fun c25 => ?_)
  · skip
    refine wp_skip ?_
    refine then_n (hK22 _ _ ?_)
    clear hK22
    refine wp_seq_k (fun K26 hK26 => ?_)
    refine wp_block ?_
    refine wp_seq_k (fun K27 hK27 => ?_)
    -- region 6
    refine region_in ?_
    refine W_v rfl rfl (V_mov rfl l4_24) ?_
    refine W_v rfl rfl (V_mov rfl (es rfl l5_24)) ?_
    have k28 : k < (lo ++ yo).length := by omega
    obtain ⟨B28, O28, C28, y28, hv28, hy28, hc28⟩ := at_ints f16.ints (k) k28
    refine W_v rfl rfl (V_idx (k) rfl (es rfl (et rfl)) (et rfl) hv28 (by omega) k28 Try.underlying22 (by kernel_rfl)) ?_
    refine W_r rfl rfl (VR_ldC rfl (et rfl) hc28 Try.underlying3 rfl) ?_
    refine W_v rfl rfl (V_geq rfl (et rfl) rfl) ?_
    refine W_split rfl rfl (V_mov rfl (et rfl)) (fun c29 => ?_) (fun c29 => ?_)
    · skip
      refine W_v rfl (wanted_t rfl rfl (et rfl) (ez rfl)) (V_mov rfl (es rfl (es rfl (es rfl (es rfl (es rfl (es rfl l4_24))))))) ?_
      refine W_v rfl (wanted_t rfl rfl (es rfl (et rfl)) (ez rfl)) (V_mov rfl (es rfl (es rfl (es rfl (es rfl (es rfl (es rfl (es rfl l5_24)))))))) ?_
      have hc30 := at_cell f16.ints hv28 hy28
      refine W_v rfl (wanted_t rfl rfl (es rfl (es rfl (et rfl))) (ez rfl)) (V_idx (k) rfl (es rfl (et rfl)) (et rfl) hv28 (by omega) k28 Try.underlying22 (by kernel_rfl)) ?_
      refine W_r rfl (wanted_t rfl rfl (es rfl (es rfl (es rfl (et rfl)))) (ez rfl)) (VR_ldC rfl (et rfl) hc30 Try.underlying3 rfl) ?_
      refine W_v rfl (wanted_t rfl rfl (es rfl (es rfl (es rfl (es rfl (et rfl))))) (ez rfl)) (V_lss rfl (et rfl) rfl) ?_
      refine W_v rfl rfl (V_pickT rfl (es rfl (es rfl (es rfl (es rfl (es rfl (et rfl)))))) (et rfl)) ?_
      refine W_end ?_
      refine gen_Q (fun A31 hA31 => ?_)
      have hsz31 : SzN A31 40 := by rw [hA31]; infer_instance
      have hdf31 : A31.defers = [] := by rw [hA31]; simp only [df_put]; exact hdf24
      have l2_31 := lookE hA31 2 (es rfl (es rfl (es rfl (es rfl (es rfl (es rfl (es rfl (es rfl (es rfl (es rfl (es rfl (es rfl l2_24))))))))))))
      have l3_31 := lookE hA31 3 (es rfl (es rfl (es rfl (es rfl (es rfl (es rfl (es rfl (es rfl (es rfl (es rfl (es rfl (es rfl l3_24))))))))))))
      have l4_31 := lookE hA31 4 (es rfl (es rfl (es rfl (es rfl (es rfl (es rfl (es rfl (es rfl (es rfl (es rfl (es rfl (es rfl l4_24))))))))))))
      have l5_31 := lookE hA31 5 (es rfl (es rfl (es rfl (es rfl (es rfl (es rfl (es rfl (es rfl (es rfl (es rfl (es rfl (es rfl l5_24))))))))))))
      have l25_31 := lookE hA31 25 (es rfl (es rfl (es rfl (es rfl (es rfl (et rfl))))))
      have l26_31 := lookE hA31 26 (es rfl (es rfl (es rfl (es rfl (et rfl)))))
      have l27_31 := lookE hA31 27 (es rfl (es rfl (es rfl (et rfl))))
      have l28_31 := lookE hA31 28 (es rfl (es rfl (et rfl)))
      have l29_31 := lookE hA31 29 (es rfl (et rfl))
      have l30_31 := lookE hA31 30 (et rfl)
      clear hA31 hsz24 hdf24 l2_24 l3_24 l4_24 l5_24 l16_24
      refine then_n (hK27 _ _ ?_)
      clear hK27
      refine cond_dec l30_31 (fun c32 => ?_) (fun c32 => ?_)
      · skip
        -- region 7
        refine region_in ?_
        refine W_v rfl rfl (V_mov rfl l4_31) ?_
        refine W_v rfl rfl (V_mov rfl (es rfl l5_31)) ?_
        have hc33 := at_cell f16.ints hv28 hy28
        refine W_v rfl rfl (V_idx (k) rfl (es rfl (et rfl)) (et rfl) hv28 (by omega) k28 Try.underlying22 (by kernel_rfl)) ?_
        refine W_r rfl rfl (VR_ldC rfl (et rfl) hc33 Try.underlying3 rfl) ?_
        have k34 : (y28).toNat < 24 := by omega
        refine W_v rfl rfl (V_ixA (sz := 1) (off' := (y28).toNat) ((y28).toNat) rfl (es rfl (es rfl (es rfl (es rfl l3_31)))) (et rfl) (by omega) Try.underlying39 k34 (by kernel_rfl) (by omega)) ?_
        obtain ⟨y35, hy35⟩ := some_get (ns := cnt ((lo ++ yo).take k)) (i := (y28).toNat) (cnt_len _) k34
        obtain ⟨hb35, hc35⟩ := cnt_bd hy35
        have hd35 := List.length_take_le k (lo ++ yo)
        refine W_r rfl rfl (VR_ldC rfl (et rfl) (cell_box b8 (arrI_get hy35)) Try.underlying3 rfl) ?_
        refine W_v rfl rfl (V_add rfl (et rfl) rfl (by omega) (by omega)) ?_
        have k36 : (y28).toNat < 24 := by omega
        refine W_v rfl rfl (V_ixA (sz := 1) (off' := (y28).toNat) ((y28).toNat) rfl (es rfl (es rfl (es rfl (es rfl (es rfl (es rfl (es rfl l3_31))))))) (es rfl (es rfl (es rfl (et rfl)))) (by omega) Try.underlying39 k36 (by kernel_rfl) (by omega)) ?_
        refine W_stC rfl rfl rfl (et rfl) (es rfl (et rfl)) (by rfl) b8 (arrI_lt (cnt_len _) k36) (by kernel_rfl) (arrI_set _ _ _ _) (fun w37 ht37 hb37 => ?_)
        have hE38 := ext_tch hE21 ht37 oB_8
        replace f16 := f16.tch ht37 b8 rfl
        replace b4 := box_tch b4 ht37 (Nat.ne_of_lt o4_8)
        replace b8 := hb37
        have hlen37 : ((cnt ((lo ++ yo).take k)).set (y28).toNat (y35 + 1)).length = 24 := by rw [List.length_set]; exact (cnt_len _)
        refine W_end ?_
        refine gen_Q (fun A39 hA39 => ?_)
        have hsz39 : SzN A39 40 := by rw [hA39]; infer_instance
        have hdf39 : A39.defers = [] := by rw [hA39]; simp only [df_put]; exact hdf31
        have l2_39 := lookE hA39 2 (es rfl (es rfl (es rfl (es rfl (es rfl (es rfl (es rfl (es rfl l2_31))))))))
        have l3_39 := lookE hA39 3 (es rfl (es rfl (es rfl (es rfl (es rfl (es rfl (es rfl (es rfl l3_31))))))))
        have l4_39 := lookE hA39 4 (es rfl (es rfl (es rfl (es rfl (es rfl (es rfl (es rfl (es rfl l4_31))))))))
        have l5_39 := lookE hA39 5 (es rfl (es rfl (es rfl (es rfl (es rfl (es rfl (es rfl (es rfl l5_31))))))))
        have l25_39 := lookE hA39 25 (es rfl (es rfl (es rfl (es rfl (es rfl (es rfl (es rfl (es rfl l25_31))))))))
        have l26_39 := lookE hA39 26 (es rfl (es rfl (es rfl (es rfl (es rfl (es rfl (es rfl (es rfl l26_31))))))))
        have l27_39 := lookE hA39 27 (es rfl (es rfl (es rfl (es rfl (es rfl (es rfl (es rfl (es rfl l27_31))))))))
        have l28_39 := lookE hA39 28 (es rfl (es rfl (es rfl (es rfl (es rfl (es rfl (es rfl (es rfl l28_31))))))))
        have l29_39 := lookE hA39 29 (es rfl (es rfl (es rfl (es rfl (es rfl (es rfl (es rfl (es rfl l29_31))))))))
        clear hA39 hsz31 hdf31 l2_31 l3_31 l4_31 l5_31 l25_31 l26_31 l27_31 l28_31 l29_31 l30_31
        refine inb_n ?_
        refine then_n (hK26 _ _ ?_)
        clear hK26
        -- region 5
        refine region_in ?_
        refine W_v rfl rfl (V_mov rfl l5_39) ?_
        refine W_v rfl rfl (V_add rfl (et rfl) rfl (by omega) (by omega)) ?_
        refine W_v rfl rfl (V_asg rfl (et rfl)) ?_
        refine W_end ?_
        refine gen_Q (fun A40 hA40 => ?_)
        have hsz40 : SzN A40 40 := by rw [hA40]; infer_instance
        have hdf40 : A40.defers = [] := by rw [hA40]; simp only [df_put]; exact hdf39
        have l2_40 := lookE hA40 2 (es rfl (es rfl (es rfl l2_39)))
        have l3_40 := lookE hA40 3 (es rfl (es rfl (es rfl l3_39)))
        have l4_40 := lookE hA40 4 (es rfl (es rfl (es rfl l4_39)))
        have l5_40 := lookE hA40 5 (et rfl)
        have l25_40 := lookE hA40 25 (es rfl (es rfl (es rfl l25_39)))
        have l26_40 := lookE hA40 26 (es rfl (es rfl (es rfl l26_39)))
        have l27_40 := lookE hA40 27 (es rfl (es rfl (es rfl l27_39)))
        have l28_40 := lookE hA40 28 (es rfl (es rfl (es rfl l28_39)))
        have l29_40 := lookE hA40 29 (es rfl (es rfl (es rfl l29_39)))
        clear hA40 hsz39 hdf39 l2_39 l3_39 l4_39 l5_39 l25_39 l26_39 l27_39 l28_39 l29_39
        refine then_n ⟨(lo ++ yo).length - ((k + 1)), by simp only [hm21]; omega, hsz40, hdf40, hE38, (k + 1), rfl, (by omega), ((l5_40).trans (by first | rfl | (simp; done) | (congr 1; omega))), ((l2_40).trans l2_20.symm), ((l3_40).trans l3_20.symm), ((l4_40).trans l4_20.symm), b4, (((cnt_hit (l := lo ++ yo) (k := k) (by assumption) (by omega) (by omega) (by assumption))) ▸ b8), f16⟩
      · skip
        refine wp_skip ?_
        refine inb_n ?_
        refine then_n (hK26 _ _ ?_)
        clear hK26
        -- region 5
        refine region_in ?_
        refine W_v rfl rfl (V_mov rfl l5_31) ?_
        refine W_v rfl rfl (V_add rfl (et rfl) rfl (by omega) (by omega)) ?_
        refine W_v rfl rfl (V_asg rfl (et rfl)) ?_
        refine W_end ?_
        refine gen_Q (fun A41 hA41 => ?_)
        have hsz41 : SzN A41 40 := by rw [hA41]; infer_instance
        have hdf41 : A41.defers = [] := by rw [hA41]; simp only [df_put]; exact hdf31
        have l2_41 := lookE hA41 2 (es rfl (es rfl (es rfl l2_31)))
        have l3_41 := lookE hA41 3 (es rfl (es rfl (es rfl l3_31)))
        have l4_41 := lookE hA41 4 (es rfl (es rfl (es rfl l4_31)))
        have l5_41 := lookE hA41 5 (et rfl)
        have l25_41 := lookE hA41 25 (es rfl (es rfl (es rfl l25_31)))
        have l26_41 := lookE hA41 26 (es rfl (es rfl (es rfl l26_31)))
        have l27_41 := lookE hA41 27 (es rfl (es rfl (es rfl l27_31)))
        have l28_41 := lookE hA41 28 (es rfl (es rfl (es rfl l28_31)))
        have l29_41 := lookE hA41 29 (es rfl (es rfl (es rfl l29_31)))
        clear hA41 hsz31 hdf31 l2_31 l3_31 l4_31 l5_31 l25_31 l26_31 l27_31 l28_31 l29_31 l30_31
        refine then_n ⟨(lo ++ yo).length - ((k + 1)), by simp only [hm21]; omega, hsz41, hdf41, hE21, (k + 1), rfl, (by omega), ((l5_41).trans (by first | rfl | (simp; done) | (congr 1; omega))), ((l2_41).trans l2_20.symm), ((l3_41).trans l3_20.symm), ((l4_41).trans l4_20.symm), b4, (((cnt_miss (by assumption) (by omega))) ▸ b8), f16⟩
    · skip
      refine W_off rfl (wanted_f rfl rfl (et rfl) (ez rfl) rfl) ?_
      refine W_off rfl (wanted_f rfl rfl (es rfl (et rfl)) (ez rfl) rfl) ?_
      refine W_off rfl (wanted_f rfl rfl (es rfl (es rfl (et rfl))) (ez rfl) rfl) ?_
      refine W_off rfl (wanted_f rfl rfl (es rfl (es rfl (es rfl (et rfl)))) (ez rfl) rfl) ?_
      refine W_off rfl (wanted_f rfl rfl (es rfl (es rfl (es rfl (es rfl (et rfl))))) (ez rfl) rfl) ?_
      refine W_v rfl rfl (V_pickF rfl (es rfl (es rfl (es rfl (es rfl (es rfl (et rfl)))))) rfl) ?_
      refine W_end ?_
      refine gen_Q (fun A42 hA42 => ?_)
      have hsz42 : SzN A42 40 := by rw [hA42]; infer_instance
      have hdf42 : A42.defers = [] := by rw [hA42]; simp only [df_put]; exact hdf24
      have l2_42 := lookE hA42 2 (es rfl (es rfl (es rfl (es rfl (es rfl (es rfl (es rfl (es rfl (es rfl (es rfl (es rfl (es rfl l2_24))))))))))))
      have l3_42 := lookE hA42 3 (es rfl (es rfl (es rfl (es rfl (es rfl (es rfl (es rfl (es rfl (es rfl (es rfl (es rfl (es rfl l3_24))))))))))))
      have l4_42 := lookE hA42 4 (es rfl (es rfl (es rfl (es rfl (es rfl (es rfl (es rfl (es rfl (es rfl (es rfl (es rfl (es rfl l4_24))))))))))))
      have l5_42 := lookE hA42 5 (es rfl (es rfl (es rfl (es rfl (es rfl (es rfl (es rfl (es rfl (es rfl (es rfl (es rfl (es rfl l5_24))))))))))))
      have l25_42 := lookE hA42 25 (es rfl (es rfl (es rfl (es rfl (es rfl (et rfl))))))
      have l26_42 := lookE hA42 26 (es rfl (es rfl (es rfl (es rfl (et rfl)))))
      have l27_42 := lookE hA42 27 (es rfl (es rfl (es rfl (et rfl))))
      have l28_42 := lookE hA42 28 (es rfl (es rfl (et rfl)))
      have l29_42 := lookE hA42 29 (es rfl (et rfl))
      have l30_42 := lookE hA42 30 (et rfl)
      clear hA42 hsz24 hdf24 l2_24 l3_24 l4_24 l5_24 l16_24
      refine then_n (hK27 _ _ ?_)
      clear hK27
      refine cond_f l30_42 ?_
      refine wp_skip ?_
      refine inb_n ?_
      refine then_n (hK26 _ _ ?_)
      clear hK26
      -- region 5
      refine region_in ?_
      refine W_v rfl rfl (V_mov rfl l5_42) ?_
      refine W_v rfl rfl (V_add rfl (et rfl) rfl (by omega) (by omega)) ?_
      refine W_v rfl rfl (V_asg rfl (et rfl)) ?_
      refine W_end ?_
      refine gen_Q (fun A43 hA43 => ?_)
      have hsz43 : SzN A43 40 := by rw [hA43]; infer_instance
      have hdf43 : A43.defers = [] := by rw [hA43]; simp only [df_put]; exact hdf42
      have l2_43 := lookE hA43 2 (es rfl (es rfl (es rfl l2_42)))
      have l3_43 := lookE hA43 3 (es rfl (es rfl (es rfl l3_42)))
      have l4_43 := lookE hA43 4 (es rfl (es rfl (es rfl l4_42)))
      have l5_43 := lookE hA43 5 (et rfl)
      have l25_43 := lookE hA43 25 (es rfl (es rfl (es rfl l25_42)))
      have l26_43 := lookE hA43 26 (es rfl (es rfl (es rfl l26_42)))
      have l27_43 := lookE hA43 27 (es rfl (es rfl (es rfl l27_42)))
      have l28_43 := lookE hA43 28 (es rfl (es rfl (es rfl l28_42)))
      have l29_43 := lookE hA43 29 (es rfl (es rfl (es rfl l29_42)))
      clear hA43 hsz42 hdf42 l2_42 l3_42 l4_42 l5_42 l25_42 l26_42 l27_42 l28_42 l29_42 l30_42
      refine then_n ⟨(lo ++ yo).length - ((k + 1)), by simp only [hm21]; omega, hsz43, hdf43, hE21, (k + 1), rfl, (by omega), ((l5_43).trans (by first | rfl | (simp; done) | (congr 1; omega))), ((l2_43).trans l2_20.symm), ((l3_43).trans l3_20.symm), ((l4_43).trans l4_20.symm), b4, (((cnt_miss (by assumption) (by omega))) ▸ b8), f16⟩
  · skip
    refine wp_exit ?_
    refine then_exit ?_
    refine then_exit ?_
    refine inb_hit ?_
    refine then_n (hK18 _ _ ?_)
    clear hK18
    refine wp_seq_k (fun K44 hK44 => ?_)
    -- region 8
    refine region_in ?_
    refine W_r rfl rfl (VR_ldA rfl l3_24 b8 Try.underlying39 rfl (arrI_info (cnt_len _) (by kernel_rfl))) ?_
    refine W_stA rfl rfl rfl (es rfl l2_24) (et rfl) (arrI_one _ _) b4 (arrI_sz (List.length_replicate) (cnt_len _)) (arrI_info (cnt_len _) (by kernel_rfl)) (fun w45 ht45 hb45 => ?_)
    have hE46 := ext_tch hE21 ht45 oB_4
    replace f16 := f16.tch ht45 b4 rfl
    replace b8 := box_tch b8 ht45 (Nat.ne_of_gt o4_8)
    replace b4 := hb45
    refine W_end ?_
    refine gen_Q (fun A47 hA47 => ?_)
    have hsz47 : SzN A47 40 := by rw [hA47]; infer_instance
    have hdf47 : A47.defers = [] := by rw [hA47]; simp only [df_put]; exact hdf24
    have l2_47 := lookE hA47 2 (es rfl l2_24)
    clear hA47 hsz24 hdf24 l2_24 l3_24 l4_24 l5_24 l16_24
    refine then_n (hK44 _ _ ?_)
    clear hK44
    refine wp_ret ?_
    refine ret_in (results_1 Try.results21 (rv_cellA l2_47 b4 Try.underlying39 rfl (arrI_info (cnt_len _) (by kernel_rfl)))) hdf47 ?_
    -- leaf F
    exact ⟨by rw [List.take_of_length_le (by omega)], hE46⟩

set_option maxHeartbeats 4000000 in
theorem act_c {lv : Value} {lo : List Int} {yv : Value} {yo : List Int} {kd : Int} {ca : Int} {tr : Int} {w : World} (h_lv : Ints w lv lo) (h_yv : Ints w yv yo) (h1 : lo.length ≤ 1000) (h2 : yo.length ≤ 1000) (kd0 : 0 ≤ kd) (kd1 : kd ≤ 255) (ca0 : 0 ≤ ca) (ca1 : ca ≤ 255) (tr0 : 0 ≤ tr) (tr1 : tr ≤ 255) :
    Calls Try.prog 20 #[.agg #[lv, yv], .agg #[.int .u8 kd, .int .u8 ca, .int .u8 tr]] w fun e w' => ∃ v1 v2 u, e = .returned (.tuple #[.agg #[v1, v2], u, .int .i64 (actS lo yo kd ca tr).come, .int .i64 (actS lo yo kd ca tr).e]) ∧ FreI w' w.heap.size 3 (v1) ((actS lo yo kd ca tr).lo) ∧ FreI w' w.heap.size 3 (v2) ((actS lo yo kd ca tr).yo) ∧ FreI w' w.heap.size 3 (u) ((actS lo yo kd ca tr).gone) ∧ Ext w w' := by
  refine calls_in 102 Try.func20 rfl rfl (by simp) (fun A0 hsz0 hdf0 hargs => ?_)
  have l0_0 := hargs 0 (.agg #[lv, yv]) rfl
  have l1_0 := hargs 1 (.agg #[.int .u8 kd, .int .u8 ca, .int .u8 tr]) rfl
  clear hargs; replace hsz0 : SzN A0 102 := ⟨hsz0⟩
  have hE0 := Ext.rfl' w
  refine wp_seq_k (fun K1 hK1 => ?_)
  -- region 0
  refine region_in ?_
  refine W_box (cs := #[lv, yv]) rfl rfl rfl l0_0 rfl (fun g2 w2 hg2 hx2 b2 => ?_)
  have oB_2 : w.heap.size ≤ g2 := hg2 ▸ hE0.size
  have hE3 := Ext.tr hE0 hx2
  refine W_box (cs := #[.int .u8 (kd), .int .u8 (ca), .int .u8 (tr)]) rfl rfl rfl (es rfl l1_0) rfl (fun g4 w4 hg4 hx4 b4 => ?_)
  have o2_4 : g2 < g4 := hg4 ▸ lt_size b2
  have oB_4 : w.heap.size ≤ g4 := hg4 ▸ hE3.size
  have hE5 := Ext.tr hE3 hx4
  replace b2 := heap_ext hx4 b2
  refine W_alloc (z := .agg #[.slice none 0 0, .slice none 0 0]) (cs := #[.slice none 0 0, .slice none 0 0]) rfl rfl rfl (by kernel_rfl) rfl (fun g6 w6 hg6 hx6 b6 => ?_)
  have o2_6 : g2 < g6 := hg6 ▸ lt_size b2
  have o4_6 : g4 < g6 := hg6 ▸ lt_size b4
  have oB_6 : w.heap.size ≤ g6 := hg6 ▸ hE5.size
  have hE7 := Ext.tr hE5 hx6
  replace b2 := heap_ext hx6 b2
  replace b4 := heap_ext hx6 b4
  refine W_v rfl rfl (V_asg rfl rfl) ?_
  refine W_v rfl rfl (V_asg rfl rfl) ?_
  refine W_v rfl rfl (V_asg rfl rfl) ?_
  refine W_end ?_
  refine gen_Q (fun A8 hA8 => ?_)
  have hsz8 : SzN A8 102 := by rw [hA8]; infer_instance
  have hdf8 : A8.defers = [] := by rw [hA8]; simp only [df_put]; exact hdf0
  have l2_8 := lookE hA8 2 (es rfl (es rfl (es rfl (es rfl (es rfl (et rfl))))))
  have l3_8 := lookE hA8 3 (es rfl (es rfl (es rfl (es rfl (et rfl)))))
  have l4_8 := lookE hA8 4 (es rfl (es rfl (es rfl (et rfl))))
  clear hA8 hsz0 hdf0 l0_0 l1_0
  refine then_n (hK1 _ _ ?_)
  clear hK1
  refine wp_seq_k (fun K9 hK9 => ?_)
  -- region 1
  refine region_mono 10 10 [] (by kernel_rfl) (by kernel_rfl) ?_
  refine C_v rfl rfl (V_fa (off' := 1) rfl l3_8 Try.underlying43 rfl (by decide) rfl) rfl rfl ?_
  refine C_r rfl rfl (by kernel_rfl) (fun wx hx hF => (VR_ldC rfl (et rfl) (cell_box (v := .int .u8 (ca)) (heap_ext hx b4) rfl) Try.underlying5 rfl)) rfl rfl ?_
  refine C_v rfl rfl (V_cvt rfl (et rfl) Try.underlying5 Try.underlying3 (wrap_i64 (by omega) (by omega))) rfl rfl ?_
  refine C_v rfl rfl (V_rem rfl (et rfl) rfl (by omega) (by omega) (wrap_i64 (by omega) (by omega))) rfl rfl ?_
  refine C_v rfl rfl (V_fa (off' := 2) rfl (es rfl (es rfl (es rfl (es rfl l3_8)))) Try.underlying43 rfl (by decide) rfl) rfl rfl ?_
  refine C_r rfl rfl (by kernel_rfl) (fun wx hx hF => (VR_ldC rfl (et rfl) (cell_box (v := .int .u8 (tr)) (heap_ext hx b4) rfl) Try.underlying5 rfl)) rfl rfl ?_
  refine C_v rfl rfl (V_cvt rfl (et rfl) Try.underlying5 Try.underlying3 (wrap_i64 (by omega) (by omega))) rfl rfl ?_
  refine C_v rfl rfl (V_rem rfl (et rfl) rfl (by omega) (by omega) (wrap_i64 (by omega) (by omega))) rfl rfl ?_
  refine C_v rfl rfl (V_asg rfl (es rfl (es rfl (es rfl (es rfl (et rfl)))))) rfl rfl ?_
  refine C_v rfl rfl (V_asg rfl (es rfl (et rfl))) rfl rfl ?_
  refine Z_none (Nat.le_refl _) (Nat.le_refl _) (fun w10 hz10 hF10 => ?_)
  clear hF10
  have hR10 := hE7.size
  have hE11 := Ext.tr hE7 hz10
  replace b2 := heap_ext hz10 b2
  replace b4 := heap_ext hz10 b4
  replace b6 := heap_ext hz10 b6
  refine gen_Q (fun A12 hA12 => ?_)
  have hsz12 : SzN A12 102 := by rw [hA12]; infer_instance
  have hdf12 : A12.defers = [] := by rw [hA12]; simp only [df_put]; exact hdf8
  have l2_12 := lookE hA12 2 (es rfl (es rfl (es rfl (es rfl (es rfl (es rfl (es rfl (es rfl (es rfl (es rfl l2_8))))))))))
  have l3_12 := lookE hA12 3 (es rfl (es rfl (es rfl (es rfl (es rfl (es rfl (es rfl (es rfl (es rfl (es rfl l3_8))))))))))
  have l4_12 := lookE hA12 4 (es rfl (es rfl (es rfl (es rfl (es rfl (es rfl (es rfl (es rfl (es rfl (es rfl l4_8))))))))))
  have l8_12 := lookE hA12 8 (es rfl (et rfl))
  have l9_12 := lookE hA12 9 (et rfl)
  clear hA12 hsz8 hdf8 l2_8 l3_8 l4_8
  refine then_n (hK9 _ _ ?_)
  clear hK9
  refine wp_seq_k (fun K13 hK13 => ?_)
  refine wp_seq_k (fun K14 hK14 => ?_)
  -- region 2
  refine region_in ?_
  refine W_v rfl rfl (V_fa (off' := 0) rfl l3_12 Try.underlying43 rfl (by decide) rfl) ?_
  refine W_r rfl rfl (VR_ldC rfl (et rfl) (cell_box (v := .int .u8 (kd)) b4 rfl) Try.underlying5 rfl) ?_
  refine W_v rfl rfl (V_rem rfl (et rfl) rfl (by omega) (by omega) (wrap_u8 (by omega) (by omega))) ?_
  refine W_end ?_
  refine gen_Q (fun A15 hA15 => ?_)
  have hsz15 : SzN A15 102 := by rw [hA15]; infer_instance
  have hdf15 : A15.defers = [] := by rw [hA15]; simp only [df_put]; exact hdf12
  have l2_15 := lookE hA15 2 (es rfl (es rfl (es rfl l2_12)))
  have l4_15 := lookE hA15 4 (es rfl (es rfl (es rfl l4_12)))
  have l8_15 := lookE hA15 8 (es rfl (es rfl (es rfl l8_12)))
  have l9_15 := lookE hA15 9 (es rfl (es rfl (es rfl l9_12)))
  have l35_15 := lookE hA15 35 (et rfl)
  clear hA15 hsz12 hdf12 l2_12 l3_12 l4_12 l8_12 l9_12
  refine then_n (hK14 _ _ ?_)
  clear hK14
  refine wp_block ?_
  refine wp_seq_k (fun K16 hK16 => ?_)
  -- region 3
  refine region_in ?_
  refine W_v rfl rfl (V_eql rfl l35_15 rfl) ?_
  refine W_v rfl rfl (V_asg rfl (et rfl)) ?_
  refine W_end ?_
  refine gen_Q (fun A17 hA17 => ?_)
  have hsz17 : SzN A17 102 := by rw [hA17]; infer_instance
  have hdf17 : A17.defers = [] := by rw [hA17]; simp only [df_put]; exact hdf15
  have l2_17 := lookE hA17 2 (es rfl (es rfl l2_15))
  have l4_17 := lookE hA17 4 (es rfl (es rfl l4_15))
  have l8_17 := lookE hA17 8 (es rfl (es rfl l8_15))
  have l9_17 := lookE hA17 9 (es rfl (es rfl l9_15))
  have l35_17 := lookE hA17 35 (es rfl (es rfl l35_15))
  have l36_17 := lookE hA17 36 (et rfl)
  clear hA17 hsz15 hdf15 l2_15 l4_15 l8_15 l9_15 l35_15
  refine then_n (hK16 _ _ ?_)
  clear hK16
  refine cond_dec l36_17 (fun c18 => ?_) (fun c18 => ?_)
  · skip
    refine wp_seq_k (fun K19 hK19 => ?_)
    -- region 4
    refine region_in ?_
    refine W_r rfl rfl (VR_ldA rfl l2_17 b2 Try.underlying24 rfl (by kernel_rfl)) ?_
    refine W_v rfl rfl (V_mov rfl (es rfl l9_17)) ?_
    refine W_v rfl rfl (V_mov rfl (es rfl (es rfl l8_17))) ?_
    refine W_call rfl rfl rfl Try.func13 (by kernel_rfl) rfl (args3 (es rfl (es rfl (et rfl))) (es rfl (et rfl)) (et rfl)) (Append_c (tr := (tr % 2)) (c := (ca % 24)) (h_lv.ext hE11) (h_yv.ext hE11) ) ?_
    rintro _ w20 ⟨v1_20, v2_20, rfl, f1_20, f2_20, hx20⟩
    refine ⟨_, rfl, ?_⟩
    have hb21 := hE11.size
    have hE22 := Ext.tr hE11 hx20
    replace b2 := heap_ext hx20 b2
    replace b6 := heap_ext hx20 b6
    have ul_f1_20 := fre_lo f1_20
    replace f1_20 := f1_20.base hb21
    have ul_f2_20 := fre_lo f2_20
    replace f2_20 := f2_20.base hb21
    refine W_v rfl rfl (V_mov rfl (et rfl)) ?_
    refine W_v rfl rfl (V_ext rfl (et rfl) rfl) ?_
    refine W_v rfl rfl (V_ext rfl (es rfl (et rfl)) rfl) ?_
    refine W_alloc (z := .agg #[.slice none 0 0, .slice none 0 0]) (cs := #[.slice none 0 0, .slice none 0 0]) rfl rfl rfl (by kernel_rfl) rfl (fun g23 w23 hg23 hx23 b23 => ?_)
    have o2_23 : g2 < g23 := hg23 ▸ lt_size b2
    have o6_23 : g6 < g23 := hg23 ▸ lt_size b6
    have oB_23 : w.heap.size ≤ g23 := hg23 ▸ hE22.size
    have hE24 := Ext.tr hE22 hx23
    replace b2 := heap_ext hx23 b2
    replace b6 := heap_ext hx23 b6
    replace f1_20 := f1_20.ext hx23
    replace f2_20 := f2_20.ext hx23
    refine W_stA rfl rfl rfl (et rfl) (es rfl (es rfl (et rfl))) (by simp only [List.all_toArray, List.all_cons, List.all_nil, one_ints f1_20.1, one_ints f2_20.1] <;> rfl) b23 (by rfl) (by kernel_rfl) (fun w25 ht25 hb25 => ?_)
    have hE26 := ext_tch hE24 ht25 oB_23
    replace f1_20 := f1_20.tch ht25 b23 rfl
    replace f2_20 := f2_20.tch ht25 b23 rfl
    replace b2 := box_tch b2 ht25 (Nat.ne_of_lt o2_23)
    replace b6 := box_tch b6 ht25 (Nat.ne_of_lt o6_23)
    replace b23 := hb25
    refine W_v rfl rfl (V_asg rfl (es rfl (et rfl))) ?_
    refine W_end ?_
    refine gen_Q (fun A27 hA27 => ?_)
    have hsz27 : SzN A27 102 := by rw [hA27]; infer_instance
    have hdf27 : A27.defers = [] := by rw [hA27]; simp only [df_put]; exact hdf17
    have l4_27 := lookE hA27 4 (es rfl (es rfl (es rfl (es rfl (es rfl (es rfl (es rfl (es rfl (es rfl l4_17)))))))))
    have l8_27 := lookE hA27 8 (es rfl (es rfl (es rfl (es rfl (es rfl (es rfl (es rfl (es rfl (es rfl l8_17)))))))))
    have l10_27 := lookE hA27 10 (es rfl (et rfl))
    have l11_27 := lookE hA27 11 (et rfl)
    clear hA27 hsz17 hdf17 l2_17 l4_17 l8_17 l9_17 l35_17 l36_17
    refine then_n (hK19 _ _ ?_)
    clear hK19
    refine wp_seq_k (fun K28 hK28 => ?_)
    -- region 5
    refine region_in ?_
    refine W_r rfl rfl (VR_ldA rfl l10_27 b23 Try.underlying24 rfl (by kernel_rfl)) ?_
    refine W_v rfl rfl (V_mov rfl (es rfl l8_27)) ?_
    refine W_v rfl rfl (V_mov rfl (es rfl (es rfl l11_27))) ?_
    refine W_stA rfl rfl rfl (es rfl (es rfl (es rfl l4_27))) (es rfl (es rfl (et rfl))) (by simp only [List.all_toArray, List.all_cons, List.all_nil, one_ints f1_20.1, one_ints f2_20.1] <;> rfl) b6 (by rfl) (by kernel_rfl) (fun w29 ht29 hb29 => ?_)
    have hE30 := ext_tch hE26 ht29 oB_6
    replace f1_20 := f1_20.tch ht29 b6 rfl
    replace f2_20 := f2_20.tch ht29 b6 rfl
    replace b23 := box_tch b23 ht29 (Nat.ne_of_gt o6_23)
    replace b6 := hb29
    refine W_v rfl rfl (V_asg rfl rfl) ?_
    refine W_v rfl rfl (V_asg rfl (es rfl (es rfl (et rfl)))) ?_
    refine W_v rfl rfl (V_asg rfl (es rfl (es rfl (et rfl)))) ?_
    refine W_end ?_
    refine gen_Q (fun A31 hA31 => ?_)
    have hsz31 : SzN A31 102 := by rw [hA31]; infer_instance
    have hdf31 : A31.defers = [] := by rw [hA31]; simp only [df_put]; exact hdf27
    have l4_31 := lookE hA31 4 (es rfl (es rfl (es rfl (es rfl (es rfl (es rfl l4_27))))))
    have l5_31 := lookE hA31 5 (es rfl (es rfl (et rfl)))
    have l6_31 := lookE hA31 6 (es rfl (et rfl))
    have l7_31 := lookE hA31 7 (et rfl)
    clear hA31 hsz27 hdf27 l4_27 l8_27 l10_27 l11_27
    refine then_n (hK28 _ _ ?_)
    clear hK28
    refine wp_ret ?_
    refine inb_ret ?_
    refine then_ret ?_
    refine ret_in (results_4 Try.results20 (rv_cellA l4_31 b6 Try.underlying24 rfl (by kernel_rfl)) (rv_tmp l5_31) (rv_tmp l6_31) (rv_tmp l7_31)) hdf31 ?_
    -- leaf T
    have hs : actS lo yo kd ca tr = ⟨(placeS lo yo (tr % 2) (ca % 24) false).lo, (placeS lo yo (tr % 2) (ca % 24) false).yo, [], (ca % 24), (placeS lo yo (tr % 2) (ca % 24) false).e⟩ := by unfold actS; simp [c18]
    rw [hs]
    exact ⟨_, _, _, rfl, f1_20, f2_20, FreI.nil _ _ _, hE30⟩
  · skip
    refine wp_seq_k (fun K32 hK32 => ?_)
    -- region 6
    refine region_in ?_
    refine W_v rfl rfl (V_eql rfl l35_17 rfl) ?_
    refine W_v rfl rfl (V_asg rfl (et rfl)) ?_
    refine W_end ?_
    refine gen_Q (fun A33 hA33 => ?_)
    have hsz33 : SzN A33 102 := by rw [hA33]; infer_instance
    have hdf33 : A33.defers = [] := by rw [hA33]; simp only [df_put]; exact hdf17
    have l2_33 := lookE hA33 2 (es rfl (es rfl l2_17))
    have l4_33 := lookE hA33 4 (es rfl (es rfl l4_17))
    have l8_33 := lookE hA33 8 (es rfl (es rfl l8_17))
    have l9_33 := lookE hA33 9 (es rfl (es rfl l9_17))
    have l35_33 := lookE hA33 35 (es rfl (es rfl l35_17))
    have l48_33 := lookE hA33 48 (et rfl)
    clear hA33 hsz17 hdf17 l2_17 l4_17 l8_17 l9_17 l35_17 l36_17
    refine then_n (hK32 _ _ ?_)
    clear hK32
    refine cond_dec l48_33 (fun c34 => ?_) (fun c34 => ?_)
    · skip
      refine wp_seq_k (fun K35 hK35 => ?_)
      -- region 7
      refine region_in ?_
      refine W_r rfl rfl (VR_ldA rfl l2_33 b2 Try.underlying24 rfl (by kernel_rfl)) ?_
      refine W_v rfl rfl (V_mov rfl (es rfl l9_33)) ?_
      refine W_v rfl rfl (V_mov rfl (es rfl (es rfl l8_33))) ?_
      refine W_call rfl rfl rfl Try.func15 (by kernel_rfl) rfl (args3 (es rfl (es rfl (et rfl))) (es rfl (et rfl)) (et rfl)) (Insert_c (tr := (tr % 2)) (c := (ca % 24)) (h_lv.ext hE11) (h_yv.ext hE11) ) ?_
      rintro _ w36 ⟨v1_36, v2_36, rfl, f1_36, f2_36, hx36⟩
      refine ⟨_, rfl, ?_⟩
      have hb37 := hE11.size
      have hE38 := Ext.tr hE11 hx36
      replace b2 := heap_ext hx36 b2
      replace b6 := heap_ext hx36 b6
      have ul_f1_36 := fre_lo f1_36
      replace f1_36 := f1_36.base hb37
      have ul_f2_36 := fre_lo f2_36
      replace f2_36 := f2_36.base hb37
      refine W_v rfl rfl (V_mov rfl (et rfl)) ?_
      refine W_v rfl rfl (V_ext rfl (et rfl) rfl) ?_
      refine W_v rfl rfl (V_ext rfl (es rfl (et rfl)) rfl) ?_
      refine W_alloc (z := .agg #[.slice none 0 0, .slice none 0 0]) (cs := #[.slice none 0 0, .slice none 0 0]) rfl rfl rfl (by kernel_rfl) rfl (fun g39 w39 hg39 hx39 b39 => ?_)
      have o2_39 : g2 < g39 := hg39 ▸ lt_size b2
      have o6_39 : g6 < g39 := hg39 ▸ lt_size b6
      have oB_39 : w.heap.size ≤ g39 := hg39 ▸ hE38.size
      have hE40 := Ext.tr hE38 hx39
      replace b2 := heap_ext hx39 b2
      replace b6 := heap_ext hx39 b6
      replace f1_36 := f1_36.ext hx39
      replace f2_36 := f2_36.ext hx39
      refine W_stA rfl rfl rfl (et rfl) (es rfl (es rfl (et rfl))) (by simp only [List.all_toArray, List.all_cons, List.all_nil, one_ints f1_36.1, one_ints f2_36.1] <;> rfl) b39 (by rfl) (by kernel_rfl) (fun w41 ht41 hb41 => ?_)
      have hE42 := ext_tch hE40 ht41 oB_39
      replace f1_36 := f1_36.tch ht41 b39 rfl
      replace f2_36 := f2_36.tch ht41 b39 rfl
      replace b2 := box_tch b2 ht41 (Nat.ne_of_lt o2_39)
      replace b6 := box_tch b6 ht41 (Nat.ne_of_lt o6_39)
      replace b39 := hb41
      refine W_v rfl rfl (V_asg rfl (es rfl (et rfl))) ?_
      refine W_end ?_
      refine gen_Q (fun A43 hA43 => ?_)
      have hsz43 : SzN A43 102 := by rw [hA43]; infer_instance
      have hdf43 : A43.defers = [] := by rw [hA43]; simp only [df_put]; exact hdf33
      have l4_43 := lookE hA43 4 (es rfl (es rfl (es rfl (es rfl (es rfl (es rfl (es rfl (es rfl (es rfl l4_33)))))))))
      have l8_43 := lookE hA43 8 (es rfl (es rfl (es rfl (es rfl (es rfl (es rfl (es rfl (es rfl (es rfl l8_33)))))))))
      have l12_43 := lookE hA43 12 (es rfl (et rfl))
      have l13_43 := lookE hA43 13 (et rfl)
      clear hA43 hsz33 hdf33 l2_33 l4_33 l8_33 l9_33 l35_33 l48_33
      refine then_n (hK35 _ _ ?_)
      clear hK35
      refine wp_seq_k (fun K44 hK44 => ?_)
      -- region 8
      refine region_in ?_
      refine W_r rfl rfl (VR_ldA rfl l12_43 b39 Try.underlying24 rfl (by kernel_rfl)) ?_
      refine W_v rfl rfl (V_mov rfl (es rfl l8_43)) ?_
      refine W_v rfl rfl (V_mov rfl (es rfl (es rfl l13_43))) ?_
      refine W_stA rfl rfl rfl (es rfl (es rfl (es rfl l4_43))) (es rfl (es rfl (et rfl))) (by simp only [List.all_toArray, List.all_cons, List.all_nil, one_ints f1_36.1, one_ints f2_36.1] <;> rfl) b6 (by rfl) (by kernel_rfl) (fun w45 ht45 hb45 => ?_)
      have hE46 := ext_tch hE42 ht45 oB_6
      replace f1_36 := f1_36.tch ht45 b6 rfl
      replace f2_36 := f2_36.tch ht45 b6 rfl
      replace b39 := box_tch b39 ht45 (Nat.ne_of_gt o6_39)
      replace b6 := hb45
      refine W_v rfl rfl (V_asg rfl rfl) ?_
      refine W_v rfl rfl (V_asg rfl (es rfl (es rfl (et rfl)))) ?_
      refine W_v rfl rfl (V_asg rfl (es rfl (es rfl (et rfl)))) ?_
      refine W_end ?_
      refine gen_Q (fun A47 hA47 => ?_)
      have hsz47 : SzN A47 102 := by rw [hA47]; infer_instance
      have hdf47 : A47.defers = [] := by rw [hA47]; simp only [df_put]; exact hdf43
      have l4_47 := lookE hA47 4 (es rfl (es rfl (es rfl (es rfl (es rfl (es rfl l4_43))))))
      have l5_47 := lookE hA47 5 (es rfl (es rfl (et rfl)))
      have l6_47 := lookE hA47 6 (es rfl (et rfl))
      have l7_47 := lookE hA47 7 (et rfl)
      clear hA47 hsz43 hdf43 l4_43 l8_43 l12_43 l13_43
      refine then_n (hK44 _ _ ?_)
      clear hK44
      refine wp_ret ?_
      refine inb_ret ?_
      refine then_ret ?_
      refine ret_in (results_4 Try.results20 (rv_cellA l4_47 b6 Try.underlying24 rfl (by kernel_rfl)) (rv_tmp l5_47) (rv_tmp l6_47) (rv_tmp l7_47)) hdf47 ?_
      -- leaf FT
      have hs : actS lo yo kd ca tr = ⟨(placeS lo yo (tr % 2) (ca % 24) true).lo, (placeS lo yo (tr % 2) (ca % 24) true).yo, [], (ca % 24), (placeS lo yo (tr % 2) (ca % 24) true).e⟩ := by unfold actS; simp [c18, c34]
      rw [hs]
      exact ⟨_, _, _, rfl, f1_36, f2_36, FreI.nil _ _ _, hE46⟩
    · skip
      refine wp_seq_k (fun K48 hK48 => ?_)
      -- region 9
      refine region_in ?_
      refine W_v rfl rfl (V_eql rfl l35_33 rfl) ?_
      refine W_v rfl rfl (V_asg rfl (et rfl)) ?_
      refine W_end ?_
      refine gen_Q (fun A49 hA49 => ?_)
      have hsz49 : SzN A49 102 := by rw [hA49]; infer_instance
      have hdf49 : A49.defers = [] := by rw [hA49]; simp only [df_put]; exact hdf33
      have l2_49 := lookE hA49 2 (es rfl (es rfl l2_33))
      have l4_49 := lookE hA49 4 (es rfl (es rfl l4_33))
      have l9_49 := lookE hA49 9 (es rfl (es rfl l9_33))
      have l35_49 := lookE hA49 35 (es rfl (es rfl l35_33))
      have l60_49 := lookE hA49 60 (et rfl)
      clear hA49 hsz33 hdf33 l2_33 l4_33 l8_33 l9_33 l35_33 l48_33
      refine then_n (hK48 _ _ ?_)
      clear hK48
      refine cond_dec l60_49 (fun c50 => ?_) (fun c50 => ?_)
      · skip
        refine wp_seq_k (fun K51 hK51 => ?_)
        -- region 10
        refine region_in ?_
        refine W_r rfl rfl (VR_ldA rfl l2_49 b2 Try.underlying24 rfl (by kernel_rfl)) ?_
        refine W_call rfl rfl rfl Try.func19 (by kernel_rfl) rfl (args1 (et rfl)) (Take_c (h_lv.ext hE11) (h_yv.ext hE11) (by first | omega | (simp; done) | (simp; omega)) (by first | omega | (simp; done) | (simp; omega))) ?_
        rintro _ w52 ⟨v1_52, v2_52, rfl, f1_52, f2_52, hx52⟩
        refine ⟨_, rfl, ?_⟩
        have hb53 := hE11.size
        have hE54 := Ext.tr hE11 hx52
        replace b2 := heap_ext hx52 b2
        replace b6 := heap_ext hx52 b6
        have ul_f1_52 := fre_lo f1_52
        replace f1_52 := f1_52.base hb53
        have ul_f2_52 := fre_lo f2_52
        replace f2_52 := f2_52.base hb53
        refine W_v rfl rfl (V_mov rfl (et rfl)) ?_
        refine W_v rfl rfl (V_ext rfl (et rfl) rfl) ?_
        refine W_v rfl rfl (V_ext rfl (es rfl (et rfl)) rfl) ?_
        refine W_v rfl rfl (V_ext rfl (es rfl (es rfl (et rfl))) rfl) ?_
        refine W_alloc (z := .agg #[.slice none 0 0, .slice none 0 0]) (cs := #[.slice none 0 0, .slice none 0 0]) rfl rfl rfl (by kernel_rfl) rfl (fun g55 w55 hg55 hx55 b55 => ?_)
        have o2_55 : g2 < g55 := hg55 ▸ lt_size b2
        have o6_55 : g6 < g55 := hg55 ▸ lt_size b6
        have oB_55 : w.heap.size ≤ g55 := hg55 ▸ hE54.size
        have hE56 := Ext.tr hE54 hx55
        replace b2 := heap_ext hx55 b2
        replace b6 := heap_ext hx55 b6
        replace f1_52 := f1_52.ext hx55
        replace f2_52 := f2_52.ext hx55
        refine W_stA rfl rfl rfl (et rfl) (es rfl (es rfl (es rfl (et rfl)))) (by simp only [List.all_toArray, List.all_cons, List.all_nil, one_ints f1_52.1, one_ints f2_52.1] <;> rfl) b55 (by rfl) (by kernel_rfl) (fun w57 ht57 hb57 => ?_)
        have hE58 := ext_tch hE56 ht57 oB_55
        replace f1_52 := f1_52.tch ht57 b55 rfl
        replace f2_52 := f2_52.tch ht57 b55 rfl
        replace b2 := box_tch b2 ht57 (Nat.ne_of_lt o2_55)
        replace b6 := box_tch b6 ht57 (Nat.ne_of_lt o6_55)
        replace b55 := hb57
        refine W_v rfl rfl (V_asg rfl (es rfl (es rfl (et rfl)))) ?_
        refine W_v rfl rfl (V_asg rfl (es rfl (es rfl (et rfl)))) ?_
        refine W_end ?_
        refine gen_Q (fun A59 hA59 => ?_)
        have hsz59 : SzN A59 102 := by rw [hA59]; infer_instance
        have hdf59 : A59.defers = [] := by rw [hA59]; simp only [df_put]; exact hdf49
        have l4_59 := lookE hA59 4 (es rfl (es rfl (es rfl (es rfl (es rfl (es rfl (es rfl (es rfl (es rfl l4_49)))))))))
        have l14_59 := lookE hA59 14 (es rfl (es rfl (et rfl)))
        have l15_59 := lookE hA59 15 (es rfl (et rfl))
        have l16_59 := lookE hA59 16 (et rfl)
        clear hA59 hsz49 hdf49 l2_49 l4_49 l9_49 l35_49 l60_49
        refine then_n (hK51 _ _ ?_)
        clear hK51
        refine wp_seq_k (fun K60 hK60 => ?_)
        -- region 11
        refine region_in ?_
        refine W_r rfl rfl (VR_ldA rfl l14_59 b55 Try.underlying24 rfl (by kernel_rfl)) ?_
        refine W_v rfl rfl (V_mov rfl (es rfl l15_59)) ?_
        refine W_lit1 rfl rfl rfl (et rfl) Try.underlying22 (by kernel_rfl) (fun g61 w61 hg61 hx61 f61 => ?_)
        replace f61 := f61.base hE58.size
        have hE62 := Ext.tr hE58 hx61
        replace b6 := heap_ext hx61 b6
        replace b55 := heap_ext hx61 b55
        replace f1_52 := f1_52.ext hx61
        replace f2_52 := f2_52.ext hx61
        refine W_v rfl rfl (V_mov rfl (es rfl (es rfl (es rfl l16_59)))) ?_
        refine W_stA rfl rfl rfl (es rfl (es rfl (es rfl (es rfl l4_59)))) (es rfl (es rfl (es rfl (et rfl)))) (by simp only [List.all_toArray, List.all_cons, List.all_nil, one_ints f1_52.1, one_ints f2_52.1] <;> rfl) b6 (by rfl) (by kernel_rfl) (fun w63 ht63 hb63 => ?_)
        have hE64 := ext_tch hE62 ht63 oB_6
        replace f1_52 := f1_52.tch ht63 b6 rfl
        replace f2_52 := f2_52.tch ht63 b6 rfl
        replace f61 := f61.tch ht63 b6 rfl
        replace b55 := box_tch b55 ht63 (Nat.ne_of_gt o6_55)
        replace b6 := hb63
        refine W_v rfl rfl (V_asg rfl (es rfl (et rfl))) ?_
        refine W_v rfl rfl (V_asg rfl rfl) ?_
        refine W_v rfl rfl (V_asg rfl (es rfl (es rfl (et rfl)))) ?_
        refine W_end ?_
        refine gen_Q (fun A65 hA65 => ?_)
        have hsz65 : SzN A65 102 := by rw [hA65]; infer_instance
        have hdf65 : A65.defers = [] := by rw [hA65]; simp only [df_put]; exact hdf59
        have l4_65 := lookE hA65 4 (es rfl (es rfl (es rfl (es rfl (es rfl (es rfl (es rfl l4_59)))))))
        have l5_65 := lookE hA65 5 (es rfl (es rfl (et rfl)))
        have l6_65 := lookE hA65 6 (es rfl (et rfl))
        have l7_65 := lookE hA65 7 (et rfl)
        clear hA65 hsz59 hdf59 l4_59 l14_59 l15_59 l16_59
        refine then_n (hK60 _ _ ?_)
        clear hK60
        refine wp_ret ?_
        refine inb_ret ?_
        refine then_ret ?_
        refine ret_in (results_4 Try.results20 (rv_cellA l4_65 b6 Try.underlying24 rfl (by kernel_rfl)) (rv_tmp l5_65) (rv_tmp l6_65) (rv_tmp l7_65)) hdf65 ?_
        -- leaf FFT
        have hs : actS lo yo kd ca tr = ⟨(takeS lo yo).lo, (takeS lo yo).yo, [(takeS lo yo).car], (-1), (takeS lo yo).e⟩ := by unfold actS; simp [c18, c34, c50]
        rw [hs]
        exact ⟨_, _, _, rfl, f1_52, f2_52, f61, hE64⟩
      · skip
        refine wp_seq_k (fun K66 hK66 => ?_)
        -- region 12
        refine region_in ?_
        refine W_v rfl rfl (V_eql rfl l35_49 rfl) ?_
        refine W_v rfl rfl (V_asg rfl (et rfl)) ?_
        refine W_end ?_
        refine gen_Q (fun A67 hA67 => ?_)
        have hsz67 : SzN A67 102 := by rw [hA67]; infer_instance
        have hdf67 : A67.defers = [] := by rw [hA67]; simp only [df_put]; exact hdf49
        have l2_67 := lookE hA67 2 (es rfl (es rfl l2_49))
        have l4_67 := lookE hA67 4 (es rfl (es rfl l4_49))
        have l9_67 := lookE hA67 9 (es rfl (es rfl l9_49))
        have l35_67 := lookE hA67 35 (es rfl (es rfl l35_49))
        have l72_67 := lookE hA67 72 (et rfl)
        clear hA67 hsz49 hdf49 l2_49 l4_49 l9_49 l35_49 l60_49
        refine then_n (hK66 _ _ ?_)
        clear hK66
        refine cond_dec l72_67 (fun c68 => ?_) (fun c68 => ?_)
        · skip
          refine wp_seq_k (fun K69 hK69 => ?_)
          -- region 13
          refine region_in ?_
          refine W_r rfl rfl (VR_ldA rfl l2_67 b2 Try.underlying24 rfl (by kernel_rfl)) ?_
          refine W_v rfl rfl (V_mov rfl (es rfl l9_67)) ?_
          refine W_v rfl rfl (V_eql rfl (et rfl) rfl) ?_
          refine W_call rfl rfl rfl Try.func26 (by kernel_rfl) rfl (args2 (es rfl (es rfl (et rfl))) (et rfl)) (Relink_c (bf := decide ((tr % 2) = 0)) (h_lv.ext hE11) (h_yv.ext hE11) (by first | omega | (simp; done) | (simp; omega)) (by first | omega | (simp; done) | (simp; omega))) ?_
          rintro _ w70 ⟨v1_70, v2_70, rfl, f1_70, f2_70, hx70⟩
          refine ⟨_, rfl, ?_⟩
          have hb71 := hE11.size
          have hE72 := Ext.tr hE11 hx70
          replace b2 := heap_ext hx70 b2
          replace b6 := heap_ext hx70 b6
          have ul_f1_70 := fre_lo f1_70
          replace f1_70 := f1_70.base hb71
          have ul_f2_70 := fre_lo f2_70
          replace f2_70 := f2_70.base hb71
          refine W_v rfl rfl (V_mov rfl (et rfl)) ?_
          refine W_v rfl rfl (V_ext rfl (et rfl) rfl) ?_
          refine W_v rfl rfl (V_ext rfl (es rfl (et rfl)) rfl) ?_
          refine W_v rfl rfl (V_ext rfl (es rfl (es rfl (et rfl))) rfl) ?_
          refine W_alloc (z := .agg #[.slice none 0 0, .slice none 0 0]) (cs := #[.slice none 0 0, .slice none 0 0]) rfl rfl rfl (by kernel_rfl) rfl (fun g73 w73 hg73 hx73 b73 => ?_)
          have o2_73 : g2 < g73 := hg73 ▸ lt_size b2
          have o6_73 : g6 < g73 := hg73 ▸ lt_size b6
          have oB_73 : w.heap.size ≤ g73 := hg73 ▸ hE72.size
          have hE74 := Ext.tr hE72 hx73
          replace b2 := heap_ext hx73 b2
          replace b6 := heap_ext hx73 b6
          replace f1_70 := f1_70.ext hx73
          replace f2_70 := f2_70.ext hx73
          refine W_stA rfl rfl rfl (et rfl) (es rfl (es rfl (es rfl (et rfl)))) (by simp only [List.all_toArray, List.all_cons, List.all_nil, one_ints f1_70.1, one_ints f2_70.1] <;> rfl) b73 (by rfl) (by kernel_rfl) (fun w75 ht75 hb75 => ?_)
          have hE76 := ext_tch hE74 ht75 oB_73
          replace f1_70 := f1_70.tch ht75 b73 rfl
          replace f2_70 := f2_70.tch ht75 b73 rfl
          replace b2 := box_tch b2 ht75 (Nat.ne_of_lt o2_73)
          replace b6 := box_tch b6 ht75 (Nat.ne_of_lt o6_73)
          replace b73 := hb75
          refine W_v rfl rfl (V_asg rfl (es rfl (es rfl (et rfl)))) ?_
          refine W_v rfl rfl (V_asg rfl (es rfl (es rfl (et rfl)))) ?_
          refine W_end ?_
          refine gen_Q (fun A77 hA77 => ?_)
          have hsz77 : SzN A77 102 := by rw [hA77]; infer_instance
          have hdf77 : A77.defers = [] := by rw [hA77]; simp only [df_put]; exact hdf67
          have l4_77 := lookE hA77 4 (es rfl (es rfl (es rfl (es rfl (es rfl (es rfl (es rfl (es rfl (es rfl (es rfl (es rfl l4_67)))))))))))
          have l17_77 := lookE hA77 17 (es rfl (es rfl (et rfl)))
          have l19_77 := lookE hA77 19 (et rfl)
          clear hA77 hsz67 hdf67 l2_67 l4_67 l9_67 l35_67 l72_67
          refine then_n (hK69 _ _ ?_)
          clear hK69
          refine wp_seq_k (fun K78 hK78 => ?_)
          -- region 14
          refine region_in ?_
          refine W_r rfl rfl (VR_ldA rfl l17_77 b73 Try.underlying24 rfl (by kernel_rfl)) ?_
          refine W_v rfl rfl (V_mov rfl (es rfl l19_77)) ?_
          refine W_stA rfl rfl rfl (es rfl (es rfl l4_77)) (es rfl (et rfl)) (by simp only [List.all_toArray, List.all_cons, List.all_nil, one_ints f1_70.1, one_ints f2_70.1] <;> rfl) b6 (by rfl) (by kernel_rfl) (fun w79 ht79 hb79 => ?_)
          have hE80 := ext_tch hE76 ht79 oB_6
          replace f1_70 := f1_70.tch ht79 b6 rfl
          replace f2_70 := f2_70.tch ht79 b6 rfl
          replace b73 := box_tch b73 ht79 (Nat.ne_of_gt o6_73)
          replace b6 := hb79
          refine W_v rfl rfl (V_asg rfl rfl) ?_
          refine W_v rfl rfl (V_asg rfl rfl) ?_
          refine W_v rfl rfl (V_asg rfl (es rfl (es rfl (et rfl)))) ?_
          refine W_end ?_
          refine gen_Q (fun A81 hA81 => ?_)
          have hsz81 : SzN A81 102 := by rw [hA81]; infer_instance
          have hdf81 : A81.defers = [] := by rw [hA81]; simp only [df_put]; exact hdf77
          have l4_81 := lookE hA81 4 (es rfl (es rfl (es rfl (es rfl (es rfl l4_77)))))
          have l5_81 := lookE hA81 5 (es rfl (es rfl (et rfl)))
          have l6_81 := lookE hA81 6 (es rfl (et rfl))
          have l7_81 := lookE hA81 7 (et rfl)
          clear hA81 hsz77 hdf77 l4_77 l17_77 l19_77
          refine then_n (hK78 _ _ ?_)
          clear hK78
          refine wp_ret ?_
          refine inb_ret ?_
          refine then_ret ?_
          refine ret_in (results_4 Try.results20 (rv_cellA l4_81 b6 Try.underlying24 rfl (by kernel_rfl)) (rv_tmp l5_81) (rv_tmp l6_81) (rv_tmp l7_81)) hdf81 ?_
          -- leaf FFFT
          have hs : actS lo yo kd ca tr = ⟨(relinkS lo yo (decide (tr % 2 = 0))).lo, (relinkS lo yo (decide (tr % 2 = 0))).yo, [], (-1), (relinkS lo yo (decide (tr % 2 = 0))).e⟩ := by unfold actS; simp [c18, c34, c50, c68]
          rw [hs]
          exact ⟨_, _, _, rfl, f1_70, f2_70, FreI.nil _ _ _, hE80⟩
        · skip
          refine wp_seq_k (fun K82 hK82 => ?_)
          -- region 15
          refine region_in ?_
          refine W_v rfl rfl (V_eql rfl l35_67 rfl) ?_
          refine W_v rfl rfl (V_asg rfl (et rfl)) ?_
          refine W_end ?_
          refine gen_Q (fun A83 hA83 => ?_)
          have hsz83 : SzN A83 102 := by rw [hA83]; infer_instance
          have hdf83 : A83.defers = [] := by rw [hA83]; simp only [df_put]; exact hdf67
          have l2_83 := lookE hA83 2 (es rfl (es rfl l2_67))
          have l4_83 := lookE hA83 4 (es rfl (es rfl l4_67))
          have l84_83 := lookE hA83 84 (et rfl)
          clear hA83 hsz67 hdf67 l2_67 l4_67 l9_67 l35_67 l72_67
          refine then_n (hK82 _ _ ?_)
          clear hK82
          refine cond_dec l84_83 (fun c84 => ?_) (fun c84 => ?_)
          · skip
            refine wp_seq_k (fun K85 hK85 => ?_)
            -- region 16
            refine region_in ?_
            refine W_r rfl rfl (VR_ldA rfl l2_83 b2 Try.underlying24 rfl (by kernel_rfl)) ?_
            refine W_call rfl rfl rfl Try.func34 (by kernel_rfl) rfl (args1 (et rfl)) (Turn_c (h_lv.ext hE11) (h_yv.ext hE11) ) ?_
            rintro _ w86 ⟨v1_86, v2_86, rfl, f1_86, f2_86, hx86⟩
            refine ⟨_, rfl, ?_⟩
            have hb87 := hE11.size
            have hE88 := Ext.tr hE11 hx86
            replace b2 := heap_ext hx86 b2
            replace b6 := heap_ext hx86 b6
            have ul_f1_86 := fre_lo f1_86
            replace f1_86 := f1_86.base hb87
            have ul_f2_86 := fre_lo f2_86
            replace f2_86 := f2_86.base hb87
            refine W_v rfl rfl (V_mov rfl (et rfl)) ?_
            refine W_v rfl rfl (V_ext rfl (et rfl) rfl) ?_
            refine W_v rfl rfl (V_ext rfl (es rfl (et rfl)) rfl) ?_
            refine W_alloc (z := .agg #[.slice none 0 0, .slice none 0 0]) (cs := #[.slice none 0 0, .slice none 0 0]) rfl rfl rfl (by kernel_rfl) rfl (fun g89 w89 hg89 hx89 b89 => ?_)
            have o2_89 : g2 < g89 := hg89 ▸ lt_size b2
            have o6_89 : g6 < g89 := hg89 ▸ lt_size b6
            have oB_89 : w.heap.size ≤ g89 := hg89 ▸ hE88.size
            have hE90 := Ext.tr hE88 hx89
            replace b2 := heap_ext hx89 b2
            replace b6 := heap_ext hx89 b6
            replace f1_86 := f1_86.ext hx89
            replace f2_86 := f2_86.ext hx89
            refine W_stA rfl rfl rfl (et rfl) (es rfl (es rfl (et rfl))) (by simp only [List.all_toArray, List.all_cons, List.all_nil, one_ints f1_86.1, one_ints f2_86.1] <;> rfl) b89 (by rfl) (by kernel_rfl) (fun w91 ht91 hb91 => ?_)
            have hE92 := ext_tch hE90 ht91 oB_89
            replace f1_86 := f1_86.tch ht91 b89 rfl
            replace f2_86 := f2_86.tch ht91 b89 rfl
            replace b2 := box_tch b2 ht91 (Nat.ne_of_lt o2_89)
            replace b6 := box_tch b6 ht91 (Nat.ne_of_lt o6_89)
            replace b89 := hb91
            refine W_v rfl rfl (V_asg rfl (es rfl (et rfl))) ?_
            refine W_end ?_
            refine gen_Q (fun A93 hA93 => ?_)
            have hsz93 : SzN A93 102 := by rw [hA93]; infer_instance
            have hdf93 : A93.defers = [] := by rw [hA93]; simp only [df_put]; exact hdf83
            have l4_93 := lookE hA93 4 (es rfl (es rfl (es rfl (es rfl (es rfl (es rfl (es rfl l4_83)))))))
            have l20_93 := lookE hA93 20 (es rfl (et rfl))
            have l21_93 := lookE hA93 21 (et rfl)
            clear hA93 hsz83 hdf83 l2_83 l4_83 l84_83
            refine then_n (hK85 _ _ ?_)
            clear hK85
            refine wp_seq_k (fun K94 hK94 => ?_)
            -- region 17
            refine region_in ?_
            refine W_r rfl rfl (VR_ldA rfl l20_93 b89 Try.underlying24 rfl (by kernel_rfl)) ?_
            refine W_v rfl rfl (V_mov rfl (es rfl l21_93)) ?_
            refine W_stA rfl rfl rfl (es rfl (es rfl l4_93)) (es rfl (et rfl)) (by simp only [List.all_toArray, List.all_cons, List.all_nil, one_ints f1_86.1, one_ints f2_86.1] <;> rfl) b6 (by rfl) (by kernel_rfl) (fun w95 ht95 hb95 => ?_)
            have hE96 := ext_tch hE92 ht95 oB_6
            replace f1_86 := f1_86.tch ht95 b6 rfl
            replace f2_86 := f2_86.tch ht95 b6 rfl
            replace b89 := box_tch b89 ht95 (Nat.ne_of_gt o6_89)
            replace b6 := hb95
            refine W_v rfl rfl (V_asg rfl rfl) ?_
            refine W_v rfl rfl (V_asg rfl rfl) ?_
            refine W_v rfl rfl (V_asg rfl (es rfl (es rfl (et rfl)))) ?_
            refine W_end ?_
            refine gen_Q (fun A97 hA97 => ?_)
            have hsz97 : SzN A97 102 := by rw [hA97]; infer_instance
            have hdf97 : A97.defers = [] := by rw [hA97]; simp only [df_put]; exact hdf93
            have l4_97 := lookE hA97 4 (es rfl (es rfl (es rfl (es rfl (es rfl l4_93)))))
            have l5_97 := lookE hA97 5 (es rfl (es rfl (et rfl)))
            have l6_97 := lookE hA97 6 (es rfl (et rfl))
            have l7_97 := lookE hA97 7 (et rfl)
            clear hA97 hsz93 hdf93 l4_93 l20_93 l21_93
            refine then_n (hK94 _ _ ?_)
            clear hK94
            refine wp_ret ?_
            refine inb_ret ?_
            refine then_ret ?_
            refine ret_in (results_4 Try.results20 (rv_cellA l4_97 b6 Try.underlying24 rfl (by kernel_rfl)) (rv_tmp l5_97) (rv_tmp l6_97) (rv_tmp l7_97)) hdf97 ?_
            -- leaf FFFFT
            have hs : actS lo yo kd ca tr = ⟨(turnS lo yo).lo, (turnS lo yo).yo, [], (-1), (turnS lo yo).e⟩ := by unfold actS; simp [c18, c34, c50, c68, c84]
            rw [hs]
            exact ⟨_, _, _, rfl, f1_86, f2_86, FreI.nil _ _ _, hE96⟩
          · skip
            refine wp_skip ?_
            refine inb_n ?_
            refine then_n (hK13 _ _ ?_)
            clear hK13
            refine wp_seq_k (fun K98 hK98 => ?_)
            -- region 18
            refine region_in ?_
            refine W_r rfl rfl (VR_ldA rfl l2_83 b2 Try.underlying24 rfl (by kernel_rfl)) ?_
            refine W_call rfl rfl rfl Try.func27 (by kernel_rfl) rfl (args1 (et rfl)) (Clear_c (h_lv.ext hE11) (h_yv.ext hE11) ) ?_
            rintro _ w99 ⟨v1_99, v2_99, u_99, rfl, f1_99, f2_99, f3_99, hx99⟩
            refine ⟨_, rfl, ?_⟩
            have hb100 := hE11.size
            have hE101 := Ext.tr hE11 hx99
            replace b2 := heap_ext hx99 b2
            replace b6 := heap_ext hx99 b6
            have ul_f1_99 := fre_lo f1_99
            replace f1_99 := f1_99.base hb100
            have ul_f2_99 := fre_lo f2_99
            replace f2_99 := f2_99.base hb100
            have ul_f3_99 := fre_lo f3_99
            replace f3_99 := f3_99.base hb100
            refine W_v rfl rfl (V_mov rfl (et rfl)) ?_
            refine W_v rfl rfl (V_ext rfl (et rfl) rfl) ?_
            refine W_v rfl rfl (V_ext rfl (es rfl (et rfl)) rfl) ?_
            refine W_v rfl rfl (V_ext rfl (es rfl (es rfl (et rfl))) rfl) ?_
            refine W_alloc (z := .agg #[.slice none 0 0, .slice none 0 0]) (cs := #[.slice none 0 0, .slice none 0 0]) rfl rfl rfl (by kernel_rfl) rfl (fun g102 w102 hg102 hx102 b102 => ?_)
            have o2_102 : g2 < g102 := hg102 ▸ lt_size b2
            have o6_102 : g6 < g102 := hg102 ▸ lt_size b6
            have oB_102 : w.heap.size ≤ g102 := hg102 ▸ hE101.size
            have hE103 := Ext.tr hE101 hx102
            replace b2 := heap_ext hx102 b2
            replace b6 := heap_ext hx102 b6
            replace f1_99 := f1_99.ext hx102
            replace f2_99 := f2_99.ext hx102
            replace f3_99 := f3_99.ext hx102
            refine W_stA rfl rfl rfl (et rfl) (es rfl (es rfl (es rfl (et rfl)))) (by simp only [List.all_toArray, List.all_cons, List.all_nil, one_ints f1_99.1, one_ints f2_99.1] <;> rfl) b102 (by rfl) (by kernel_rfl) (fun w104 ht104 hb104 => ?_)
            have hE105 := ext_tch hE103 ht104 oB_102
            replace f1_99 := f1_99.tch ht104 b102 rfl
            replace f2_99 := f2_99.tch ht104 b102 rfl
            replace f3_99 := f3_99.tch ht104 b102 rfl
            replace b2 := box_tch b2 ht104 (Nat.ne_of_lt o2_102)
            replace b6 := box_tch b6 ht104 (Nat.ne_of_lt o6_102)
            replace b102 := hb104
            refine W_v rfl rfl (V_asg rfl (es rfl (es rfl (et rfl)))) ?_
            refine W_v rfl rfl (V_asg rfl (es rfl (es rfl (et rfl)))) ?_
            refine W_end ?_
            refine gen_Q (fun A106 hA106 => ?_)
            have hsz106 : SzN A106 102 := by rw [hA106]; infer_instance
            have hdf106 : A106.defers = [] := by rw [hA106]; simp only [df_put]; exact hdf83
            have l4_106 := lookE hA106 4 (es rfl (es rfl (es rfl (es rfl (es rfl (es rfl (es rfl (es rfl (es rfl l4_83)))))))))
            have l22_106 := lookE hA106 22 (es rfl (es rfl (et rfl)))
            have l23_106 := lookE hA106 23 (es rfl (et rfl))
            have l24_106 := lookE hA106 24 (et rfl)
            clear hA106 hsz83 hdf83 l2_83 l4_83 l84_83
            refine then_n (hK98 _ _ ?_)
            clear hK98
            refine wp_seq_k (fun K107 hK107 => ?_)
            -- region 19
            refine region_in ?_
            refine W_r rfl rfl (VR_ldA rfl l22_106 b102 Try.underlying24 rfl (by kernel_rfl)) ?_
            refine W_v rfl rfl (V_mov rfl (es rfl l23_106)) ?_
            refine W_v rfl rfl (V_mov rfl (es rfl (es rfl l24_106))) ?_
            refine W_stA rfl rfl rfl (es rfl (es rfl (es rfl l4_106))) (es rfl (es rfl (et rfl))) (by simp only [List.all_toArray, List.all_cons, List.all_nil, one_ints f1_99.1, one_ints f2_99.1] <;> rfl) b6 (by rfl) (by kernel_rfl) (fun w108 ht108 hb108 => ?_)
            have hE109 := ext_tch hE105 ht108 oB_6
            replace f1_99 := f1_99.tch ht108 b6 rfl
            replace f2_99 := f2_99.tch ht108 b6 rfl
            replace f3_99 := f3_99.tch ht108 b6 rfl
            replace b102 := box_tch b102 ht108 (Nat.ne_of_gt o6_102)
            replace b6 := hb108
            refine W_v rfl rfl (V_asg rfl (es rfl (et rfl))) ?_
            refine W_v rfl rfl (V_asg rfl rfl) ?_
            refine W_v rfl rfl (V_asg rfl (es rfl (es rfl (et rfl)))) ?_
            refine W_end ?_
            refine gen_Q (fun A110 hA110 => ?_)
            have hsz110 : SzN A110 102 := by rw [hA110]; infer_instance
            have hdf110 : A110.defers = [] := by rw [hA110]; simp only [df_put]; exact hdf106
            have l4_110 := lookE hA110 4 (es rfl (es rfl (es rfl (es rfl (es rfl (es rfl l4_106))))))
            have l5_110 := lookE hA110 5 (es rfl (es rfl (et rfl)))
            have l6_110 := lookE hA110 6 (es rfl (et rfl))
            have l7_110 := lookE hA110 7 (et rfl)
            clear hA110 hsz106 hdf106 l4_106 l22_106 l23_106 l24_106
            refine then_n (hK107 _ _ ?_)
            clear hK107
            refine wp_ret ?_
            refine ret_in (results_4 Try.results20 (rv_cellA l4_110 b6 Try.underlying24 rfl (by kernel_rfl)) (rv_tmp l5_110) (rv_tmp l6_110) (rv_tmp l7_110)) hdf110 ?_
            -- leaf FFFFF
            have hs : actS lo yo kd ca tr = ⟨[], (clearS lo yo).yo, (clearS lo yo).lo, (-1), (clearS lo yo).e⟩ := by unfold actS; simp [c18, c34, c50, c68, c84]
            rw [hs]
            exact ⟨_, _, _, rfl, f1_99, f2_99, f3_99, hE109⟩

end Go.Proofs.Ytfnbfmlnageflaa