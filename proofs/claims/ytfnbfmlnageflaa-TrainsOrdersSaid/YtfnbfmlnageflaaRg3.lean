import Derived.Test.YtfnbfmlnageflaaRg2
import Derived.Test.YtfnbfmlnageflaaPl11
namespace Go.Proofs.Ytfnbfmlnageflaa
open Go.RowKit Go.Own

theorem wout_skip {w : World} {B : Nat} {E : TypeId} {v : Value} {l : List Int} {n y : Int} {k : Nat} (h : OwnI w B E v (wout (l.take k) n)) (hy : l[k]? = some y) (he : y = n) : OwnI w B E v (wout (l.take (k + 1)) n) := by
  rw [wout_step hy, if_pos he]; exact h
theorem wout_take {w : World} {B : Nat} {E : TypeId} {v : Value} {l : List Int} {n y : Int} {k : Nat} (h : OwnI w B E v (wout (l.take k) n ++ [y])) (hy : l[k]? = some y) (he : y ≠ n) : OwnI w B E v (wout (l.take (k + 1)) n) := by
  rw [wout_step hy, if_neg he]; exact h

set_option maxHeartbeats 4000000 in
theorem without_c {v : Value} {zs : List Int} {n : Int} {w : World} (h_v : Ints w v zs) (h1 : zs.length ≤ 1000) :
    Calls Try.prog 38 #[v, .int .i64 n] w fun e w' => ∃ r, e = .returned (r) ∧ OwnI w' w.heap.size 3 (r) (wout zs n) ∧ Ext w w' := by
  refine calls_in 27 Try.func38 rfl rfl (by simp) (fun A0 hsz0 hdf0 hargs => ?_)
  have l0_0 := hargs 0 (v) rfl
  have l1_0 := hargs 1 (.int .i64 n) rfl
  clear hargs; replace hsz0 : SzN A0 27 := ⟨hsz0⟩
  have hE0 := Ext.rfl' w
  refine wp_seq_k (fun K1 hK1 => ?_)
  -- region 0
  refine region_in ?_
  refine W_v rfl rfl (V_asg rfl rfl) ?_
  refine W_end ?_
  refine gen_Q (fun A2 hA2 => ?_)
  have hsz2 : SzN A2 27 := by rw [hA2]; infer_instance
  have hdf2 : A2.defers = [] := by rw [hA2]; simp only [df_put]; exact hdf0
  have l0_2 := lookE hA2 0 (es rfl l0_0)
  have l1_2 := lookE hA2 1 (es rfl l1_0)
  clear hA2 hsz0 hdf0 l0_0 l1_0
  refine then_n (hK1 _ _ ?_)
  clear hK1
  refine wp_seq_k (fun K3 hK3 => ?_)
  -- region 1
  refine region_in ?_
  refine W_v rfl rfl (V_asg rfl rfl) ?_
  refine W_end ?_
  refine gen_Q (fun A4 hA4 => ?_)
  have hsz4 : SzN A4 27 := by rw [hA4]; infer_instance
  have hdf4 : A4.defers = [] := by rw [hA4]; simp only [df_put]; exact hdf2
  have l0_4 := lookE hA4 0 (es rfl l0_2)
  have l1_4 := lookE hA4 1 (es rfl l1_2)
  have l5_4 := lookE hA4 5 (et rfl)
  clear hA4 hsz2 hdf2 l0_2 l1_2
  refine then_n (hK3 _ _ ?_)
  clear hK3
  refine wp_seq_k (fun K5 hK5 => ?_)
  refine wp_seq_k (fun K6 hK6 => ?_)
  -- region 2
  refine region_in ?_
  refine W_v rfl rfl (V_asg rfl rfl) ?_
  refine W_end ?_
  refine gen_Q (fun A7 hA7 => ?_)
  have hsz7 : SzN A7 27 := by rw [hA7]; infer_instance
  have hdf7 : A7.defers = [] := by rw [hA7]; simp only [df_put]; exact hdf4
  have l0_7 := lookE hA7 0 (es rfl l0_4)
  have l1_7 := lookE hA7 1 (es rfl l1_4)
  have l5_7 := lookE hA7 5 (es rfl l5_4)
  have l6_7 := lookE hA7 6 (et rfl)
  clear hA7 hsz4 hdf4 l0_4 l1_4 l5_4
  refine then_n (hK6 _ _ ?_)
  clear hK6
  refine wp_block ?_
  -- loop 3
  have hwl := fun k => wout_len (zs.take k) n
  refine loopX (fun mz A' w' => SzN A' 27 ∧ A'.defers = [] ∧ Ext w w' ∧ (∃ (k : Nat) (ov : Value), (mz = zs.length - k) ∧ (k ≤ zs.length) ∧ (EV A' (.tmp 6) = .int .i64 (k : Int)) ∧ (EV A' (.tmp 5) = ov) ∧ (EV A' (.tmp 0) = EV A7 (.tmp 0)) ∧ (EV A' (.tmp 1) = EV A7 (.tmp 1)) ∧ (OwnI w' w.heap.size 3 (ov) (wout (zs.take k) n)))) (zs.length - (0)) ⟨hsz7, hdf7, hE0, 0, .slice none 0 0, rfl, (Nat.zero_le _), ((l6_7).trans (by first | rfl | (simp; done) | (congr 1; omega))), ((l5_7).trans (by first | rfl | (simp; done) | (congr 1; omega))), rfl, rfl, (World.ownsRow_nil _ _ _ _)⟩ ?_
  rintro n8 A8 w8 ⟨hsz8, hdf8, hE8, k, ov, hm8, hk, l6_8, l5_8, u0_8, u1_8, fo⟩
  have l0_8 := u0_8.trans l0_7
  have l1_8 := u1_8.trans l1_7
  refine wp_seq_k (fun K9 hK9 => ?_)
  refine wp_seq_k (fun K10 hK10 => ?_)
  -- region 3
  refine region_in ?_
  refine W_v rfl rfl (V_mov rfl l6_8) ?_
  refine W_v rfl rfl (V_mov rfl (es rfl l0_8)) ?_
  refine W_v rfl rfl (V_lenI rfl (et rfl) h_v Try.underlying22) ?_
  refine W_v rfl rfl (V_lss rfl (es rfl (es rfl (et rfl))) (et rfl)) ?_
  refine W_end ?_
  refine gen_Q (fun A11 hA11 => ?_)
  have hsz11 : SzN A11 27 := by rw [hA11]; infer_instance
  have hdf11 : A11.defers = [] := by rw [hA11]; simp only [df_put]; exact hdf8
  have l0_11 := lookE hA11 0 (es rfl (es rfl (es rfl (es rfl l0_8))))
  have l1_11 := lookE hA11 1 (es rfl (es rfl (es rfl (es rfl l1_8))))
  have l5_11 := lookE hA11 5 (es rfl (es rfl (es rfl (es rfl l5_8))))
  have l6_11 := lookE hA11 6 (es rfl (es rfl (es rfl (es rfl l6_8))))
  have l10_11 := lookE hA11 10 (et rfl)
  clear hA11 hsz8 hdf8 l6_8 l5_8 l0_8 l1_8
  refine then_n (hK10 _ _ ?_)
  clear hK10
  refine cond_dec l10_11 (fun c12 => ?_) (fun c12 => ?_)
  · skip
    refine wp_skip ?_
    refine then_n (hK9 _ _ ?_)
    clear hK9
    refine wp_seq_k (fun K13 hK13 => ?_)
    refine wp_block ?_
    refine wp_seq_k (fun K14 hK14 => ?_)
    -- region 5
    refine region_in ?_
    refine W_v rfl rfl (V_mov rfl l0_11) ?_
    refine W_v rfl rfl (V_mov rfl (es rfl l6_11)) ?_
    have k15 : k < zs.length := by omega
    obtain ⟨B15, O15, C15, y15, hv15, hy15, hc15⟩ := at_ints h_v (k) k15
    refine W_v rfl rfl (V_idx (k) rfl (es rfl (et rfl)) (et rfl) hv15 (by omega) k15 Try.underlying22 (by kernel_rfl)) ?_
    refine W_r rfl rfl (VR_ldC rfl (et rfl) (cell_ext hE8 hc15) Try.underlying3 rfl) ?_
    refine W_v rfl rfl (V_mov rfl (es rfl (es rfl (es rfl (es rfl l1_11))))) ?_
    refine W_v rfl rfl (V_neq rfl (es rfl (et rfl)) (et rfl)) ?_
    refine W_end ?_
    refine gen_Q (fun A16 hA16 => ?_)
    have hsz16 : SzN A16 27 := by rw [hA16]; infer_instance
    have hdf16 : A16.defers = [] := by rw [hA16]; simp only [df_put]; exact hdf11
    have l0_16 := lookE hA16 0 (es rfl (es rfl (es rfl (es rfl (es rfl (es rfl l0_11))))))
    have l1_16 := lookE hA16 1 (es rfl (es rfl (es rfl (es rfl (es rfl (es rfl l1_11))))))
    have l5_16 := lookE hA16 5 (es rfl (es rfl (es rfl (es rfl (es rfl (es rfl l5_11))))))
    have l6_16 := lookE hA16 6 (es rfl (es rfl (es rfl (es rfl (es rfl (es rfl l6_11))))))
    have l18_16 := lookE hA16 18 (et rfl)
    clear hA16 hsz11 hdf11 l0_11 l1_11 l5_11 l6_11 l10_11
    refine then_n (hK14 _ _ ?_)
    clear hK14
    refine cond_dec l18_16 (fun c17 => ?_) (fun c17 => ?_)
    · skip
      -- region 6
      refine region_in ?_
      refine W_v rfl rfl (V_mov rfl l5_16) ?_
      refine W_v rfl rfl (V_mov rfl (es rfl l0_16)) ?_
      refine W_v rfl rfl (V_mov rfl (es rfl (es rfl l6_16))) ?_
      refine W_v rfl rfl (V_idx (k) rfl (es rfl (et rfl)) (et rfl) hv15 (by omega) k15 Try.underlying22 (by kernel_rfl)) ?_
      refine W_r rfl rfl (VR_ldC rfl (et rfl) (cell_ext hE8 hc15) Try.underlying3 rfl) ?_
      refine W_lit1 rfl rfl rfl (et rfl) Try.underlying22 (by kernel_rfl) (fun g19 w19 hg19 hx19 f19 => ?_)
      replace f19 := f19.base hE8.size
      have hE20 := Ext.tr hE8 hx19
      replace fo := fo.ext hx19
      refine W_app rfl rfl rfl (es rfl (es rfl (es rfl (es rfl (es rfl (et rfl)))))) (et rfl) Try.underlying22 Try.underlying22 (by kernel_rfl) fo hE20 f19.1 (by have := wout_len (zs.take k) n; have := List.length_take_le k zs; simp; omega) (fun v21 w21 f21 hgr21 hy21 => ?_)
      obtain ⟨a21, c21, rfl⟩ := f21.form
      refine W_v rfl rfl (V_asg rfl (et rfl)) ?_
      refine W_end ?_
      refine gen_Q (fun A22 hA22 => ?_)
      have hsz22 : SzN A22 27 := by rw [hA22]; infer_instance
      have hdf22 : A22.defers = [] := by rw [hA22]; simp only [df_put]; exact hdf16
      have l0_22 := lookE hA22 0 (es rfl (es rfl (es rfl (es rfl (es rfl (es rfl (es rfl (es rfl l0_16))))))))
      have l1_22 := lookE hA22 1 (es rfl (es rfl (es rfl (es rfl (es rfl (es rfl (es rfl (es rfl l1_16))))))))
      have l5_22 := lookE hA22 5 (et rfl)
      have l6_22 := lookE hA22 6 (es rfl (es rfl (es rfl (es rfl (es rfl (es rfl (es rfl (es rfl l6_16))))))))
      clear hA22 hsz16 hdf16 l0_16 l1_16 l5_16 l6_16 l18_16
      refine inb_n ?_
      refine then_n (hK13 _ _ ?_)
      clear hK13
      -- region 4
      refine region_in ?_
      refine W_v rfl rfl (V_mov rfl l6_22) ?_
      refine W_v rfl rfl (V_add rfl (et rfl) rfl (by omega) (by omega)) ?_
      refine W_v rfl rfl (V_asg rfl (et rfl)) ?_
      refine W_end ?_
      refine gen_Q (fun A23 hA23 => ?_)
      have hsz23 : SzN A23 27 := by rw [hA23]; infer_instance
      have hdf23 : A23.defers = [] := by rw [hA23]; simp only [df_put]; exact hdf22
      have l0_23 := lookE hA23 0 (es rfl (es rfl (es rfl l0_22)))
      have l1_23 := lookE hA23 1 (es rfl (es rfl (es rfl l1_22)))
      have l5_23 := lookE hA23 5 (es rfl (es rfl (es rfl l5_22)))
      have l6_23 := lookE hA23 6 (et rfl)
      clear hA23 hsz22 hdf22 l0_22 l1_22 l5_22 l6_22
      refine then_n ⟨zs.length - ((k + 1)), by simp only [hm8]; omega, hsz23, hdf23, hy21, (k + 1), (.slice a21 ((wout (zs.take k) n) ++ [y15]).length c21), rfl, (by omega), ((l6_23).trans (by first | rfl | (simp; done) | (congr 1; omega))), ((l5_23).trans (by first | rfl | (simp; done) | (congr 1; omega))), ((l0_23).trans l0_7.symm), ((l1_23).trans l1_7.symm), (wout_take f21 (by assumption) c17)⟩
    · skip
      refine wp_skip ?_
      refine inb_n ?_
      refine then_n (hK13 _ _ ?_)
      clear hK13
      -- region 4
      refine region_in ?_
      refine W_v rfl rfl (V_mov rfl l6_16) ?_
      refine W_v rfl rfl (V_add rfl (et rfl) rfl (by omega) (by omega)) ?_
      refine W_v rfl rfl (V_asg rfl (et rfl)) ?_
      refine W_end ?_
      refine gen_Q (fun A24 hA24 => ?_)
      have hsz24 : SzN A24 27 := by rw [hA24]; infer_instance
      have hdf24 : A24.defers = [] := by rw [hA24]; simp only [df_put]; exact hdf16
      have l0_24 := lookE hA24 0 (es rfl (es rfl (es rfl l0_16)))
      have l1_24 := lookE hA24 1 (es rfl (es rfl (es rfl l1_16)))
      have l5_24 := lookE hA24 5 (es rfl (es rfl (es rfl l5_16)))
      have l6_24 := lookE hA24 6 (et rfl)
      clear hA24 hsz16 hdf16 l0_16 l1_16 l5_16 l6_16 l18_16
      refine then_n ⟨zs.length - ((k + 1)), by simp only [hm8]; omega, hsz24, hdf24, hE8, (k + 1), (ov), rfl, (by omega), ((l6_24).trans (by first | rfl | (simp; done) | (congr 1; omega))), ((l5_24).trans (by first | rfl | (simp; done) | (congr 1; omega))), ((l0_24).trans l0_7.symm), ((l1_24).trans l1_7.symm), (wout_skip fo (by assumption) (by simpa using c17))⟩
  · skip
    refine wp_exit ?_
    refine then_exit ?_
    refine then_exit ?_
    refine inb_hit ?_
    refine then_n (hK5 _ _ ?_)
    clear hK5
    refine wp_seq_k (fun K25 hK25 => ?_)
    -- region 7
    refine region_in ?_
    refine W_v rfl rfl (V_mov rfl l5_11) ?_
    refine W_v rfl rfl (V_asg rfl (et rfl)) ?_
    refine W_end ?_
    refine gen_Q (fun A26 hA26 => ?_)
    have hsz26 : SzN A26 27 := by rw [hA26]; infer_instance
    have hdf26 : A26.defers = [] := by rw [hA26]; simp only [df_put]; exact hdf11
    have l4_26 := lookE hA26 4 (et rfl)
    clear hA26 hsz11 hdf11 l0_11 l1_11 l5_11 l6_11 l10_11
    refine then_n (hK25 _ _ ?_)
    clear hK25
    refine wp_ret ?_
    refine ret_in (results_1 Try.results38 (rv_tmp l4_26)) hdf26 ?_
    -- leaf F
    exact ⟨_, rfl, (by rw [List.take_of_length_le (by omega)] at fo; exact fo), hE8⟩

end Go.Proofs.Ytfnbfmlnageflaa