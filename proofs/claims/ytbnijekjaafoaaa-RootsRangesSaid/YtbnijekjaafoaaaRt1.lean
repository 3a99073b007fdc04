import Derived.Test.YtbnijekjaafoaaaProg
import Derived.Test.YtbnijekjaafoaaaPl19
import Derived.Test.YtbnijekjaafoaaaSepE
namespace Go.Proofs.Ytbnijekjaafoaaa
open Go.RowKit Go.Own Go.Own.R


set_option maxHeartbeats 4000000 in
theorem out_c {a : Int} {w : World}   :
    Calls Try.prog 40 #[.int .i64 a] w fun e w' => e = .returned (.bool (decide (a < 0 ∨ 1600 < a))) ∧ St w NoX [] w' := by
  refine calls_in 9 Try.func40 rfl rfl (by simp) (fun A0 hsz0 hdf0 hargs => ?_)
  have l0_0 := hargs 0 (.int .i64 a) rfl
  clear hargs; replace hsz0 : SzN A0 9 := ⟨hsz0⟩
  have hS := St.nil w
  refine wp_seq_k (fun K1 hK1 => ?_)
  -- region 0
  refine region_in ?_
  refine W_v rfl rfl (V_asg rfl rfl) ?_
  refine W_end ?_
  refine gen_Q (fun A2 hA2 => ?_)
  have hsz2 : SzN A2 9 := by rw [hA2]; infer_instance
  have hdf2 : A2.defers = [] := by rw [hA2]; simp only [df_put]; exact hdf0
  have l0_2 := lookE hA2 0 (es rfl l0_0)
  clear hA2 hsz0 hdf0 l0_0
  refine then_n (hK1 _ _ ?_)
  clear hK1
  refine wp_seq_k (fun K3 hK3 => ?_)
  -- region 1
  refine region_in ?_
  refine W_v rfl rfl (V_mov rfl l0_2) ?_
  refine W_v rfl rfl (V_lss rfl (et rfl) rfl) ?_
  refine W_split rfl rfl (V_mov rfl (et rfl)) (fun c4 => ?_) (fun c4 => ?_)
  · skip
    refine W_off rfl (wanted_f rfl rfl (et rfl) (ez rfl) rfl) ?_
    refine W_off rfl (wanted_f rfl rfl (es rfl (et rfl)) (ez rfl) rfl) ?_
    refine W_v rfl rfl (V_pickT rfl (es rfl (es rfl (et rfl))) rfl) ?_
    refine W_v rfl rfl (V_asg rfl (et rfl)) ?_
    refine W_end ?_
    refine gen_Q (fun A5 hA5 => ?_)
    have hsz5 : SzN A5 9 := by rw [hA5]; infer_instance
    have hdf5 : A5.defers = [] := by rw [hA5]; simp only [df_put]; exact hdf2
    have l2_5 := lookE hA5 2 (et rfl)
    clear hA5 hsz2 hdf2 l0_2
    refine then_n (hK3 _ _ ?_)
    clear hK3
    refine wp_ret ?_
    refine ret_in (results_1 Try.results40 (rv_tmp l2_5)) hdf5 ?_
    -- leaf T
    rw [show (decide (a < 0 ∨ 1600 < a)) = true by simp; omega]
    exact ⟨rfl, hS.fin0⟩
  · skip
    refine W_v rfl (wanted_t rfl rfl (et rfl) (ez rfl)) (V_mov rfl (es rfl (es rfl (es rfl l0_2)))) ?_
    refine W_v rfl (wanted_t rfl rfl (es rfl (et rfl)) (ez rfl)) (V_gtr rfl (et rfl) rfl) ?_
    refine W_v rfl rfl (V_pickF rfl (es rfl (es rfl (et rfl))) (et rfl)) ?_
    refine W_v rfl rfl (V_asg rfl (et rfl)) ?_
    refine W_end ?_
    refine gen_Q (fun A6 hA6 => ?_)
    have hsz6 : SzN A6 9 := by rw [hA6]; infer_instance
    have hdf6 : A6.defers = [] := by rw [hA6]; simp only [df_put]; exact hdf2
    have l2_6 := lookE hA6 2 (et rfl)
    clear hA6 hsz2 hdf2 l0_2
    refine then_n (hK3 _ _ ?_)
    clear hK3
    refine wp_ret ?_
    refine ret_in (results_1 Try.results40 (rv_tmp l2_6)) hdf6 ?_
    -- leaf F
    rw [show (decide (a < 0 ∨ 1600 < a)) = decide (1600 < a) by exact decide_eq_decide.2 (by omega)]
    exact ⟨rfl, hS.fin0⟩

set_option maxHeartbeats 4000000 in
theorem ixf_c {rv : Value} {l : List Int} {w : World} (h_rv : Ro w NoX (il .i64 rv l))  :
    Calls Try.prog 39 #[rv, .func (.func 40) #[] #[]] w fun e w' => e = .returned (.int .i64 (idxF outB l)) ∧ St w NoX [] w' := by
  refine calls_in 19 Try.func39 rfl rfl (by simp) (fun A0 hsz0 hdf0 hargs => ?_)
  have l0_0 := hargs 0 (rv) rfl
  have l1_0 := hargs 1 (.func (.func 40) #[] #[]) rfl
  clear hargs; replace hsz0 : SzN A0 19 := ⟨hsz0⟩
  have hS := St.nil w
  have bh_rv := SlN.le (sl_SlN h_rv.at)
  refine wp_seq_k (fun K1 hK1 => ?_)
  -- region 0
  refine region_in ?_
  refine W_v rfl rfl (V_asg rfl rfl) ?_
  refine W_end ?_
  refine gen_Q (fun A2 hA2 => ?_)
  have hsz2 : SzN A2 19 := by rw [hA2]; infer_instance
  have hdf2 : A2.defers = [] := by rw [hA2]; simp only [df_put]; exact hdf0
  have l0_2 := lookE hA2 0 (es rfl l0_0)
  have l1_2 := lookE hA2 1 (es rfl l1_0)
  clear hA2 hsz0 hdf0 l0_0 l1_0
  refine then_n (hK1 _ _ ?_)
  clear hK1
  refine wp_seq_k (fun K3 hK3 => ?_)
  refine wp_seq_k (fun K4 hK4 => ?_)
  -- region 1
  refine region_in ?_
  refine W_v rfl rfl (V_mov rfl l0_2) ?_
  refine W_v rfl rfl (V_lenS rfl (et rfl) (sl_SlN h_rv.at) Try.underlying22) ?_
  refine W_v rfl rfl (V_mov rfl rfl) ?_
  refine W_end ?_
  refine gen_Q (fun A5 hA5 => ?_)
  have hsz5 : SzN A5 19 := by rw [hA5]; infer_instance
  have hdf5 : A5.defers = [] := by rw [hA5]; simp only [df_put]; exact hdf2
  have l0_5 := lookE hA5 0 (es rfl (es rfl (es rfl l0_2)))
  have l1_5 := lookE hA5 1 (es rfl (es rfl (es rfl l1_2)))
  have l7_5 := lookE hA5 7 (es rfl (et rfl))
  have l8_5 := lookE hA5 8 (et rfl)
  clear hA5 hsz2 hdf2 l0_2 l1_2
  refine then_n (hK4 _ _ ?_)
  clear hK4
  refine wp_block ?_
  -- loop 2
  refine loopX (fun mz A' w' => SzN A' 19 ∧ A'.defers = [] ∧ (∃ (k : Nat), (mz = l.length - k) ∧ (k ≤ l.length) ∧ (∀ i, i < k → ∀ x, l[i]? = some x → outB x = false) ∧ (EV A' (.tmp 8) = .int .i64 (k : Int)) ∧ (EV A' (.tmp 0) = EV A5 (.tmp 0)) ∧ (EV A' (.tmp 1) = EV A5 (.tmp 1)) ∧ (EV A' (.tmp 7) = EV A5 (.tmp 7)) ∧ (St w NoX [] w'))) (l.length - 0) ⟨hsz5, hdf5, 0, rfl, (Nat.zero_le _), (fun i hi => by omega), ((l8_5).trans (by first | rfl | (simp; done) | (congr 1; omega))), rfl, rfl, rfl, hS⟩ ?_
  clear hS
  rintro n6 A6 w6 ⟨hsz6, hdf6, k, hm6, hk, hz, l8_6, u0_6, u1_6, u7_6, hS6⟩
  have l0_6 := u0_6.trans l0_5
  have l1_6 := u1_6.trans l1_5
  have l7_6 := u7_6.trans l7_5
  refine wp_seq_k (fun K7 hK7 => ?_)
  -- region 2
  refine region_in ?_
  refine W_v rfl rfl (V_lss rfl l8_6 l7_6) ?_
  refine W_end ?_
  refine gen_Q (fun A8 hA8 => ?_)
  have hsz8 : SzN A8 19 := by rw [hA8]; infer_instance
  have hdf8 : A8.defers = [] := by rw [hA8]; simp only [df_put]; exact hdf6
  have l0_8 := lookE hA8 0 (es rfl l0_6)
  have l1_8 := lookE hA8 1 (es rfl l1_6)
  have l7_8 := lookE hA8 7 (es rfl l7_6)
  have l8_8 := lookE hA8 8 (es rfl l8_6)
  have l9_8 := lookE hA8 9 (et rfl)
  clear hA8 hsz6 hdf6 l8_6 l0_6 l1_6 l7_6
  refine then_n (hK7 _ _ ?_)
  clear hK7
  refine wp_seq_k (fun K9 hK9 => ?_)
  refine cond_dec l9_8 (fun c10 => ?_) (fun c10 => ?_)
  · skip
    refine wp_skip ?_
    refine then_n (hK9 _ _ ?_)
    clear hK9
    refine wp_seq_k (fun K11 hK11 => ?_)
    refine wp_block ?_
    refine wp_seq_k (fun K12 hK12 => ?_)
    -- region 3
    refine region_in ?_
    refine W_v rfl rfl (V_mov rfl l8_8) ?_
    refine W_v rfl rfl (V_asg rfl (et rfl)) ?_
    refine W_end ?_
    refine gen_Q (fun A13 hA13 => ?_)
    have hsz13 : SzN A13 19 := by rw [hA13]; infer_instance
    have hdf13 : A13.defers = [] := by rw [hA13]; simp only [df_put]; exact hdf8
    have l0_13 := lookE hA13 0 (es rfl (es rfl l0_8))
    have l1_13 := lookE hA13 1 (es rfl (es rfl l1_8))
    have l5_13 := lookE hA13 5 (et rfl)
    have l7_13 := lookE hA13 7 (es rfl (es rfl l7_8))
    have l8_13 := lookE hA13 8 (es rfl (es rfl l8_8))
    clear hA13 hsz8 hdf8 l0_8 l1_8 l7_8 l8_8 l9_8
    refine then_n (hK12 _ _ ?_)
    clear hK12
    refine wp_seq_k (fun K14 hK14 => ?_)
    -- region 4
    refine region_in ?_
    refine W_v rfl rfl (V_mov rfl l1_13) ?_
    refine W_v rfl rfl (V_mov rfl (es rfl l0_13)) ?_
    refine W_v rfl rfl (V_mov rfl (es rfl (es rfl l5_13))) ?_
    have k15 : k < l.length := by first | omega | (simp only [List.length_cons, List.length_nil]; omega)
    obtain ⟨y15, hy15⟩ := get_some (xs := l) (k := k) k15
    obtain ⟨B15, O15, C15, hv15⟩ := (SlN.blk (sl_SlN h_rv.at) (by first | omega | (simp only [List.length_cons, List.length_nil]; omega)))
    refine W_v rfl rfl (V_ixS (off := O15 + k) 1 (k) rfl (es rfl (et rfl)) (et rfl) hv15 (by omega) k15 Try.underlying22 (by kernel_rfl) (congrArg _ (Nat.mul_one _))) ?_
    refine W_r rfl rfl (VR_ldC rfl (et rfl) ((sl_SlN (hS6.ro h_rv)).cell hv15 (map_get hy15)) Try.underlying3 rfl) ?_
    refine W_callV rfl rfl rfl (es rfl (es rfl (es rfl (es rfl (et rfl))))) Try.func40 (by kernel_rfl) rfl (args1 (et rfl)) (out_c (a := y15)  ) ?_
    rintro _ w16 ⟨rfl, hP16⟩
    refine ⟨_, rfl, ?_⟩
    have hS16 := hS6.join hP16
    replace hS16 : St w NoX [] w16 := hS16
    refine W_end ?_
    refine gen_Q (fun A17 hA17 => ?_)
    have hsz17 : SzN A17 19 := by rw [hA17]; infer_instance
    have hdf17 : A17.defers = [] := by rw [hA17]; simp only [df_put]; exact hdf13
    have l0_17 := lookE hA17 0 (es rfl (es rfl (es rfl (es rfl (es rfl (es rfl l0_13))))))
    have l1_17 := lookE hA17 1 (es rfl (es rfl (es rfl (es rfl (es rfl (es rfl l1_13))))))
    have l5_17 := lookE hA17 5 (es rfl (es rfl (es rfl (es rfl (es rfl (es rfl l5_13))))))
    have l7_17 := lookE hA17 7 (es rfl (es rfl (es rfl (es rfl (es rfl (es rfl l7_13))))))
    have l8_17 := lookE hA17 8 (es rfl (es rfl (es rfl (es rfl (es rfl (es rfl l8_13))))))
    have l16_17 := lookE hA17 16 (et rfl)
    clear hA17 hsz13 hdf13 l0_13 l1_13 l5_13 l7_13 l8_13
    refine then_n (hK14 _ _ ?_)
    clear hK14
    refine cond_dec l16_17 (fun c18 => ?_) (fun c18 => ?_)
    · skip
      refine wp_seq_k (fun K19 hK19 => ?_)
      -- region 5
      refine region_in ?_
      refine W_v rfl rfl (V_mov rfl l5_17) ?_
      refine W_v rfl rfl (V_asg rfl (et rfl)) ?_
      refine W_end ?_
      refine gen_Q (fun A20 hA20 => ?_)
      have hsz20 : SzN A20 19 := by rw [hA20]; infer_instance
      have hdf20 : A20.defers = [] := by rw [hA20]; simp only [df_put]; exact hdf17
      have l4_20 := lookE hA20 4 (et rfl)
      clear hA20 hsz17 hdf17 l0_17 l1_17 l5_17 l7_17 l8_17 l16_17
      refine then_n (hK19 _ _ ?_)
      clear hK19
      refine wp_ret ?_
      refine inb_ret ?_
      refine then_ret ?_
      refine then_ret ?_
      refine inb_ret ?_
      refine then_ret ?_
      refine ret_in (results_1 Try.results39 (rv_tmp l4_20)) hdf20 ?_
      -- leaf TT
      have e0 : idxF outB l = (k : Int) := by exact idxF_at hz hy15 (decide_eq_true c18)
      rw [e0]
      exact ⟨rfl, hS16.fin0⟩
    · skip
      refine wp_skip ?_
      refine inb_n ?_
      refine then_n (hK11 _ _ ?_)
      clear hK11
      -- region 6
      refine region_in ?_
      refine W_v rfl rfl (V_add rfl l8_17 rfl (by omega) (by omega)) ?_
      refine W_v rfl rfl (V_mov rfl (et rfl)) ?_
      refine W_end ?_
      refine gen_Q (fun A21 hA21 => ?_)
      have hsz21 : SzN A21 19 := by rw [hA21]; infer_instance
      have hdf21 : A21.defers = [] := by rw [hA21]; simp only [df_put]; exact hdf17
      have l0_21 := lookE hA21 0 (es rfl (es rfl l0_17))
      have l1_21 := lookE hA21 1 (es rfl (es rfl l1_17))
      have l7_21 := lookE hA21 7 (es rfl (es rfl l7_17))
      have l8_21 := lookE hA21 8 (et rfl)
      clear hA21 hsz17 hdf17 l0_17 l1_17 l5_17 l7_17 l8_17 l16_17
      refine then_n ⟨l.length - (k + 1), by simp only [hm6]; omega, hsz21, hdf21, (k + 1), rfl, (by omega), (no_step hz hy15 (decide_eq_false c18)), ((l8_21).trans (by first | rfl | (simp; done) | (congr 1; omega))), ((l0_21).trans l0_5.symm), ((l1_21).trans l1_5.symm), ((l7_21).trans l7_5.symm), hS16⟩
  · skip
    refine wp_exit ?_
    refine then_exit ?_
    refine then_exit ?_
    refine inb_hit ?_
    refine then_n (hK3 _ _ ?_)
    clear hK3
    refine wp_seq_k (fun K22 hK22 => ?_)
    -- region 7
    refine region_in ?_
    refine W_v rfl rfl (V_asg rfl rfl) ?_
    refine W_end ?_
    refine gen_Q (fun A23 hA23 => ?_)
    have hsz23 : SzN A23 19 := by rw [hA23]; infer_instance
    have hdf23 : A23.defers = [] := by rw [hA23]; simp only [df_put]; exact hdf8
    have l4_23 := lookE hA23 4 (et rfl)
    clear hA23 hsz8 hdf8 l0_8 l1_8 l7_8 l8_8 l9_8
    refine then_n (hK22 _ _ ?_)
    clear hK22
    refine wp_ret ?_
    refine ret_in (results_1 Try.results39 (rv_tmp l4_23)) hdf23 ?_
    -- leaf F
    have e0 : idxF outB l = (-1) := by exact idxF_no (fun i hi x hx => hz i (by omega) x hx)
    rw [e0]
    exact ⟨rfl, hS6.fin0⟩

set_option maxHeartbeats 4000000 in
theorem kCk_c {rv : Value} {l : List Int} {w : World} (h_rv : Ro w NoX (il .i64 rv l))  :
    Calls Try.prog 22 #[rv] w fun e w' => e = .returned (.tuple #[.int .i64 (ckR l).1, .int .i64 (ckR l).2]) ∧ St w NoX [] w' := by
  have bi := idxF_bd outB l
  refine calls_in 18 Try.func22 rfl rfl (by simp) (fun A0 hsz0 hdf0 hargs => ?_)
  have l0_0 := hargs 0 (rv) rfl
  clear hargs; replace hsz0 : SzN A0 18 := ⟨hsz0⟩
  have hS := St.nil w
  have bh_rv := SlN.le (sl_SlN h_rv.at)
  refine wp_seq_k (fun K1 hK1 => ?_)
  -- region 0
  refine region_in ?_
  refine W_v rfl rfl (V_asg rfl rfl) ?_
  refine W_v rfl rfl (V_asg rfl rfl) ?_
  refine W_end ?_
  refine gen_Q (fun A2 hA2 => ?_)
  have hsz2 : SzN A2 18 := by rw [hA2]; infer_instance
  have hdf2 : A2.defers = [] := by rw [hA2]; simp only [df_put]; exact hdf0
  have l0_2 := lookE hA2 0 (es rfl (es rfl l0_0))
  clear hA2 hsz0 hdf0 l0_0
  refine then_n (hK1 _ _ ?_)
  clear hK1
  refine wp_seq_k (fun K3 hK3 => ?_)
  refine wp_seq_k (fun K4 hK4 => ?_)
  -- region 1
  refine region_in ?_
  refine W_v rfl rfl (V_mov rfl l0_2) ?_
  refine W_v rfl rfl (V_lenS rfl (et rfl) (sl_SlN h_rv.at) Try.underlying22) ?_
  refine W_v rfl rfl (V_lss rfl (et rfl) rfl) ?_
  refine W_split rfl rfl (V_mov rfl (et rfl)) (fun c5 => ?_) (fun c5 => ?_)
  · skip
    refine W_off rfl (wanted_f rfl rfl (et rfl) (ez rfl) rfl) ?_
    refine W_off rfl (wanted_f rfl rfl (es rfl (et rfl)) (ez rfl) rfl) ?_
    refine W_off rfl (wanted_f rfl rfl (es rfl (es rfl (et rfl))) (ez rfl) rfl) ?_
    refine W_v rfl rfl (V_pickT rfl (es rfl (es rfl (es rfl (et rfl)))) rfl) ?_
    refine W_end ?_
    refine gen_Q (fun A6 hA6 => ?_)
    have hsz6 : SzN A6 18 := by rw [hA6]; infer_instance
    have hdf6 : A6.defers = [] := by rw [hA6]; simp only [df_put]; exact hdf2
    have l0_6 := lookE hA6 0 (es rfl (es rfl (es rfl (es rfl (es rfl (es rfl (es rfl (es rfl l0_2))))))))
    have l12_6 := lookE hA6 12 (et rfl)
    clear hA6 hsz2 hdf2 l0_2
    refine then_n (hK4 _ _ ?_)
    clear hK4
    refine cond_t l12_6 ?_
    refine wp_seq_k (fun K7 hK7 => ?_)
    -- region 2
    refine region_in ?_
    refine W_v rfl rfl (V_asg rfl rfl) ?_
    refine W_v rfl rfl (V_asg rfl rfl) ?_
    refine W_end ?_
    refine gen_Q (fun A8 hA8 => ?_)
    have hsz8 : SzN A8 18 := by rw [hA8]; infer_instance
    have hdf8 : A8.defers = [] := by rw [hA8]; simp only [df_put]; exact hdf6
    have l2_8 := lookE hA8 2 (es rfl (et rfl))
    have l3_8 := lookE hA8 3 (et rfl)
    clear hA8 hsz6 hdf6 l0_6 l12_6
    refine then_n (hK7 _ _ ?_)
    clear hK7
    refine wp_ret ?_
    refine then_ret ?_
    refine ret_in (results_2 Try.results22 (rv_tmp l2_8) (rv_tmp l3_8)) hdf8 ?_
    -- leaf T
    have hc := ckR_len (.inl c5)
    rw [hc]
    exact ⟨rfl, hS.fin0⟩
  · skip
    refine W_v rfl (wanted_t rfl rfl (et rfl) (ez rfl)) (V_mov rfl (es rfl (es rfl (es rfl (es rfl l0_2))))) ?_
    refine W_v rfl (wanted_t rfl rfl (es rfl (et rfl)) (ez rfl)) (V_lenS rfl (et rfl) (sl_SlN h_rv.at) Try.underlying22) ?_
    refine W_v rfl (wanted_t rfl rfl (es rfl (es rfl (et rfl))) (ez rfl)) (V_gtr rfl (et rfl) rfl) ?_
    refine W_v rfl rfl (V_pickF rfl (es rfl (es rfl (es rfl (et rfl)))) (et rfl)) ?_
    refine W_end ?_
    refine gen_Q (fun A9 hA9 => ?_)
    have hsz9 : SzN A9 18 := by rw [hA9]; infer_instance
    have hdf9 : A9.defers = [] := by rw [hA9]; simp only [df_put]; exact hdf2
    have l0_9 := lookE hA9 0 (es rfl (es rfl (es rfl (es rfl (es rfl (es rfl (es rfl (es rfl l0_2))))))))
    have l12_9 := lookE hA9 12 (et rfl)
    clear hA9 hsz2 hdf2 l0_2
    refine then_n (hK4 _ _ ?_)
    clear hK4
    refine cond_dec l12_9 (fun c10 => ?_) (fun c10 => ?_)
    · skip
      refine wp_seq_k (fun K11 hK11 => ?_)
      -- region 2
      refine region_in ?_
      refine W_v rfl rfl (V_asg rfl rfl) ?_
      refine W_v rfl rfl (V_asg rfl rfl) ?_
      refine W_end ?_
      refine gen_Q (fun A12 hA12 => ?_)
      have hsz12 : SzN A12 18 := by rw [hA12]; infer_instance
      have hdf12 : A12.defers = [] := by rw [hA12]; simp only [df_put]; exact hdf9
      have l2_12 := lookE hA12 2 (es rfl (et rfl))
      have l3_12 := lookE hA12 3 (et rfl)
      clear hA12 hsz9 hdf9 l0_9 l12_9
      refine then_n (hK11 _ _ ?_)
      clear hK11
      refine wp_ret ?_
      refine then_ret ?_
      refine ret_in (results_2 Try.results22 (rv_tmp l2_12) (rv_tmp l3_12)) hdf12 ?_
      -- leaf FT
      have hc := ckR_len (.inr c10)
      rw [hc]
      exact ⟨rfl, hS.fin0⟩
    · skip
      refine wp_skip ?_
      refine then_n (hK3 _ _ ?_)
      clear hK3
      refine wp_seq_k (fun K13 hK13 => ?_)
      refine wp_seq_k (fun K14 hK14 => ?_)
      -- region 3
      refine region_in ?_
      refine W_v rfl rfl (V_mov rfl l0_9) ?_
      refine W_call rfl rfl rfl Try.func39 (by kernel_rfl) rfl (args2 (et rfl) rfl) (ixf_c (hS.roC h_rv) ) ?_
      rintro _ w15 ⟨rfl, hP15⟩
      refine ⟨_, rfl, ?_⟩
      have hS15 := hS.join hP15
      replace hS15 : St w NoX [] w15 := hS15
      refine W_v rfl rfl (V_asg rfl (et rfl)) ?_
      refine W_end ?_
      refine gen_Q (fun A16 hA16 => ?_)
      have hsz16 : SzN A16 18 := by rw [hA16]; infer_instance
      have hdf16 : A16.defers = [] := by rw [hA16]; simp only [df_put]; exact hdf9
      have l4_16 := lookE hA16 4 (et rfl)
      clear hA16 hsz9 hdf9 l0_9 l12_9
      refine then_n (hK14 _ _ ?_)
      clear hK14
      refine wp_seq_k (fun K17 hK17 => ?_)
      -- region 4
      refine region_in ?_
      refine W_v rfl rfl (V_mov rfl l4_16) ?_
      refine W_v rfl rfl (V_geq rfl (et rfl) rfl) ?_
      refine W_end ?_
      refine gen_Q (fun A18 hA18 => ?_)
      have hsz18 : SzN A18 18 := by rw [hA18]; infer_instance
      have hdf18 : A18.defers = [] := by rw [hA18]; simp only [df_put]; exact hdf16
      have l4_18 := lookE hA18 4 (es rfl (es rfl l4_16))
      have l16_18 := lookE hA18 16 (et rfl)
      clear hA18 hsz16 hdf16 l4_16
      refine then_n (hK17 _ _ ?_)
      clear hK17
      refine cond_dec l16_18 (fun c19 => ?_) (fun c19 => ?_)
      · skip
        refine wp_seq_k (fun K20 hK20 => ?_)
        -- region 5
        refine region_in ?_
        refine W_v rfl rfl (V_mov rfl l4_18) ?_
        refine W_v rfl rfl (V_asg rfl (et rfl)) ?_
        refine W_v rfl rfl (V_asg rfl rfl) ?_
        refine W_end ?_
        refine gen_Q (fun A21 hA21 => ?_)
        have hsz21 : SzN A21 18 := by rw [hA21]; infer_instance
        have hdf21 : A21.defers = [] := by rw [hA21]; simp only [df_put]; exact hdf18
        have l2_21 := lookE hA21 2 (es rfl (et rfl))
        have l3_21 := lookE hA21 3 (et rfl)
        clear hA21 hsz18 hdf18 l4_18 l16_18
        refine then_n (hK20 _ _ ?_)
        clear hK20
        refine wp_ret ?_
        refine then_ret ?_
        refine ret_in (results_2 Try.results22 (rv_tmp l2_21) (rv_tmp l3_21)) hdf21 ?_
        -- leaf FFT
        have hc := ckR_bad (by omega) c19
        rw [hc]
        exact ⟨rfl, hS15.fin0⟩
      · skip
        refine wp_skip ?_
        refine then_n (hK13 _ _ ?_)
        clear hK13
        refine wp_seq_k (fun K22 hK22 => ?_)
        -- region 6
        refine region_in ?_
        refine W_v rfl rfl (V_asg rfl rfl) ?_
        refine W_v rfl rfl (V_asg rfl rfl) ?_
        refine W_end ?_
        refine gen_Q (fun A23 hA23 => ?_)
        have hsz23 : SzN A23 18 := by rw [hA23]; infer_instance
        have hdf23 : A23.defers = [] := by rw [hA23]; simp only [df_put]; exact hdf18
        have l2_23 := lookE hA23 2 (es rfl (et rfl))
        have l3_23 := lookE hA23 3 (et rfl)
        clear hA23 hsz18 hdf18 l4_18 l16_18
        refine then_n (hK22 _ _ ?_)
        clear hK22
        refine wp_ret ?_
        refine ret_in (results_2 Try.results22 (rv_tmp l2_23) (rv_tmp l3_23)) hdf23 ?_
        -- leaf FFF
        have hc := ckR_ok (by omega) c19
        rw [hc]
        exact ⟨rfl, hS15.fin0⟩

set_option maxHeartbeats 4000000 in
theorem qCk_c {rv : Value} {l : List Int} {w : World} (h_rv : Ro w NoX (il .i64 rv l))  :
    Calls Try.prog 26 #[rv] w fun e w' => e = .returned (.tuple #[.int .i64 (ckR l).1, .int .i64 (ckR l).2]) ∧ St w NoX [] w' := by
  refine calls_in 32 Try.func26 rfl rfl (by simp) (fun A0 hsz0 hdf0 hargs => ?_)
  have l0_0 := hargs 0 (rv) rfl
  clear hargs; replace hsz0 : SzN A0 32 := ⟨hsz0⟩
  have hS := St.nil w
  have bh_rv := SlN.le (sl_SlN h_rv.at)
  refine wp_seq_k (fun K1 hK1 => ?_)
  -- region 0
  refine region_in ?_
  refine W_v rfl rfl (V_asg rfl rfl) ?_
  refine W_v rfl rfl (V_asg rfl rfl) ?_
  refine W_end ?_
  refine gen_Q (fun A2 hA2 => ?_)
  have hsz2 : SzN A2 32 := by rw [hA2]; infer_instance
  have hdf2 : A2.defers = [] := by rw [hA2]; simp only [df_put]; exact hdf0
  have l0_2 := lookE hA2 0 (es rfl (es rfl l0_0))
  clear hA2 hsz0 hdf0 l0_0
  refine then_n (hK1 _ _ ?_)
  clear hK1
  refine wp_seq_k (fun K3 hK3 => ?_)
  refine wp_seq_k (fun K4 hK4 => ?_)
  -- region 1
  refine region_in ?_
  refine W_v rfl rfl (V_mov rfl l0_2) ?_
  refine W_v rfl rfl (V_lenS rfl (et rfl) (sl_SlN h_rv.at) Try.underlying22) ?_
  refine W_v rfl rfl (V_lss rfl (et rfl) rfl) ?_
  refine W_split rfl rfl (V_mov rfl (et rfl)) (fun c5 => ?_) (fun c5 => ?_)
  · skip
    refine W_off rfl (wanted_f rfl rfl (et rfl) (ez rfl) rfl) ?_
    refine W_off rfl (wanted_f rfl rfl (es rfl (et rfl)) (ez rfl) rfl) ?_
    refine W_off rfl (wanted_f rfl rfl (es rfl (es rfl (et rfl))) (ez rfl) rfl) ?_
    refine W_v rfl rfl (V_pickT rfl (es rfl (es rfl (es rfl (et rfl)))) rfl) ?_
    refine W_end ?_
    refine gen_Q (fun A6 hA6 => ?_)
    have hsz6 : SzN A6 32 := by rw [hA6]; infer_instance
    have hdf6 : A6.defers = [] := by rw [hA6]; simp only [df_put]; exact hdf2
    have l0_6 := lookE hA6 0 (es rfl (es rfl (es rfl (es rfl (es rfl (es rfl (es rfl (es rfl l0_2))))))))
    have l12_6 := lookE hA6 12 (et rfl)
    clear hA6 hsz2 hdf2 l0_2
    refine then_n (hK4 _ _ ?_)
    clear hK4
    refine cond_t l12_6 ?_
    refine wp_seq_k (fun K7 hK7 => ?_)
    -- region 2
    refine region_in ?_
    refine W_v rfl rfl (V_asg rfl rfl) ?_
    refine W_v rfl rfl (V_asg rfl rfl) ?_
    refine W_end ?_
    refine gen_Q (fun A8 hA8 => ?_)
    have hsz8 : SzN A8 32 := by rw [hA8]; infer_instance
    have hdf8 : A8.defers = [] := by rw [hA8]; simp only [df_put]; exact hdf6
    have l2_8 := lookE hA8 2 (es rfl (et rfl))
    have l3_8 := lookE hA8 3 (et rfl)
    clear hA8 hsz6 hdf6 l0_6 l12_6
    refine then_n (hK7 _ _ ?_)
    clear hK7
    refine wp_ret ?_
    refine then_ret ?_
    refine ret_in (results_2 Try.results26 (rv_tmp l2_8) (rv_tmp l3_8)) hdf8 ?_
    -- leaf T
    have hc := ckR_len (.inl c5)
    rw [hc]
    exact ⟨rfl, hS.fin0⟩
  · skip
    refine W_v rfl (wanted_t rfl rfl (et rfl) (ez rfl)) (V_mov rfl (es rfl (es rfl (es rfl (es rfl l0_2))))) ?_
    refine W_v rfl (wanted_t rfl rfl (es rfl (et rfl)) (ez rfl)) (V_lenS rfl (et rfl) (sl_SlN h_rv.at) Try.underlying22) ?_
    refine W_v rfl (wanted_t rfl rfl (es rfl (es rfl (et rfl))) (ez rfl)) (V_gtr rfl (et rfl) rfl) ?_
    refine W_v rfl rfl (V_pickF rfl (es rfl (es rfl (es rfl (et rfl)))) (et rfl)) ?_
    refine W_end ?_
    refine gen_Q (fun A9 hA9 => ?_)
    have hsz9 : SzN A9 32 := by rw [hA9]; infer_instance
    have hdf9 : A9.defers = [] := by rw [hA9]; simp only [df_put]; exact hdf2
    have l0_9 := lookE hA9 0 (es rfl (es rfl (es rfl (es rfl (es rfl (es rfl (es rfl (es rfl l0_2))))))))
    have l12_9 := lookE hA9 12 (et rfl)
    clear hA9 hsz2 hdf2 l0_2
    refine then_n (hK4 _ _ ?_)
    clear hK4
    refine cond_dec l12_9 (fun c10 => ?_) (fun c10 => ?_)
    · skip
      refine wp_seq_k (fun K11 hK11 => ?_)
      -- region 2
      refine region_in ?_
      refine W_v rfl rfl (V_asg rfl rfl) ?_
      refine W_v rfl rfl (V_asg rfl rfl) ?_
      refine W_end ?_
      refine gen_Q (fun A12 hA12 => ?_)
      have hsz12 : SzN A12 32 := by rw [hA12]; infer_instance
      have hdf12 : A12.defers = [] := by rw [hA12]; simp only [df_put]; exact hdf9
      have l2_12 := lookE hA12 2 (es rfl (et rfl))
      have l3_12 := lookE hA12 3 (et rfl)
      clear hA12 hsz9 hdf9 l0_9 l12_9
      refine then_n (hK11 _ _ ?_)
      clear hK11
      refine wp_ret ?_
      refine then_ret ?_
      refine ret_in (results_2 Try.results26 (rv_tmp l2_12) (rv_tmp l3_12)) hdf12 ?_
      -- leaf FT
      have hc := ckR_len (.inr c10)
      rw [hc]
      exact ⟨rfl, hS.fin0⟩
    · skip
      refine wp_skip ?_
      refine then_n (hK3 _ _ ?_)
      clear hK3
      refine wp_seq_k (fun K13 hK13 => ?_)
      refine wp_seq_k (fun K14 hK14 => ?_)
      -- region 3
      refine region_in ?_
      refine W_v rfl rfl (V_asg rfl rfl) ?_
      refine W_end ?_
      refine gen_Q (fun A15 hA15 => ?_)
      have hsz15 : SzN A15 32 := by rw [hA15]; infer_instance
      have hdf15 : A15.defers = [] := by rw [hA15]; simp only [df_put]; exact hdf9
      have l0_15 := lookE hA15 0 (es rfl l0_9)
      have l4_15 := lookE hA15 4 (et rfl)
      clear hA15 hsz9 hdf9 l0_9 l12_9
      refine then_n (hK14 _ _ ?_)
      clear hK14
      refine wp_block ?_
      -- loop 4
      refine loopX (fun mz A' w' => SzN A' 32 ∧ A'.defers = [] ∧ (∃ (k : Nat), (mz = l.length - k) ∧ (k ≤ l.length) ∧ (∀ i, i < k → ∀ x, l[i]? = some x → outB x = false) ∧ (EV A' (.tmp 4) = .int .i64 (k : Int)) ∧ (EV A' (.tmp 0) = EV A15 (.tmp 0)) ∧ (St w NoX [] w'))) (l.length - 0) ⟨hsz15, hdf15, 0, rfl, (Nat.zero_le _), (fun i hi => by omega), ((l4_15).trans (by first | rfl | (simp; done) | (congr 1; omega))), rfl, hS⟩ ?_
      clear hS
      rintro n16 A16 w16 ⟨hsz16, hdf16, k, hm16, hk, hz, l4_16, u0_16, hS16⟩
      have l0_16 := u0_16.trans l0_15
      refine wp_seq_k (fun K17 hK17 => ?_)
      refine wp_seq_k (fun K18 hK18 => ?_)
      -- region 4
      refine region_in ?_
      refine W_v rfl rfl (V_mov rfl l4_16) ?_
      refine W_v rfl rfl (V_mov rfl (es rfl l0_16)) ?_
      refine W_v rfl rfl (V_lenS rfl (et rfl) (sl_SlN h_rv.at) Try.underlying22) ?_
      refine W_v rfl rfl (V_lss rfl (es rfl (es rfl (et rfl))) (et rfl)) ?_
      refine W_end ?_
      refine gen_Q (fun A19 hA19 => ?_)
      have hsz19 : SzN A19 32 := by rw [hA19]; infer_instance
      have hdf19 : A19.defers = [] := by rw [hA19]; simp only [df_put]; exact hdf16
      have l0_19 := lookE hA19 0 (es rfl (es rfl (es rfl (es rfl l0_16))))
      have l4_19 := lookE hA19 4 (es rfl (es rfl (es rfl (es rfl l4_16))))
      have l16_19 := lookE hA19 16 (et rfl)
      clear hA19 hsz16 hdf16 l4_16 l0_16
      refine then_n (hK18 _ _ ?_)
      clear hK18
      refine cond_dec l16_19 (fun c20 => ?_) (fun c20 => ?_)
      · skip
        refine wp_skip ?_
        refine then_n (hK17 _ _ ?_)
        clear hK17
        refine wp_seq_k (fun K21 hK21 => ?_)
        refine wp_block ?_
        refine wp_seq_k (fun K22 hK22 => ?_)
        -- region 6
        refine region_in ?_
        refine W_v rfl rfl (V_mov rfl l0_19) ?_
        refine W_v rfl rfl (V_mov rfl (es rfl l4_19)) ?_
        have k23 : k < l.length := by first | omega | (simp only [List.length_cons, List.length_nil]; omega)
        obtain ⟨y23, hy23⟩ := get_some (xs := l) (k := k) k23
        obtain ⟨B23, O23, C23, hv23⟩ := (SlN.blk (sl_SlN h_rv.at) (by first | omega | (simp only [List.length_cons, List.length_nil]; omega)))
        refine W_v rfl rfl (V_ixS (off := O23 + k) 1 (k) rfl (es rfl (et rfl)) (et rfl) hv23 (by omega) k23 Try.underlying22 (by kernel_rfl) (congrArg _ (Nat.mul_one _))) ?_
        refine W_r rfl rfl (VR_ldC rfl (et rfl) ((sl_SlN (hS16.ro h_rv)).cell hv23 (map_get hy23)) Try.underlying3 rfl) ?_
        refine W_v rfl rfl (V_lss rfl (et rfl) rfl) ?_
        refine W_split rfl rfl (V_mov rfl (et rfl)) (fun c24 => ?_) (fun c24 => ?_)
        · skip
          refine W_off rfl (wanted_f rfl rfl (et rfl) (ez rfl) rfl) ?_
          refine W_off rfl (wanted_f rfl rfl (es rfl (et rfl)) (ez rfl) rfl) ?_
          refine W_off rfl (wanted_f rfl rfl (es rfl (es rfl (et rfl))) (ez rfl) rfl) ?_
          refine W_off rfl (wanted_f rfl rfl (es rfl (es rfl (es rfl (et rfl)))) (ez rfl) rfl) ?_
          refine W_off rfl (wanted_f rfl rfl (es rfl (es rfl (es rfl (es rfl (et rfl))))) (ez rfl) rfl) ?_
          refine W_v rfl rfl (V_pickT rfl (es rfl (es rfl (es rfl (es rfl (es rfl (et rfl)))))) rfl) ?_
          refine W_end ?_
          refine gen_Q (fun A25 hA25 => ?_)
          have hsz25 : SzN A25 32 := by rw [hA25]; infer_instance
          have hdf25 : A25.defers = [] := by rw [hA25]; simp only [df_put]; exact hdf19
          have l0_25 := lookE hA25 0 (es rfl (es rfl (es rfl (es rfl (es rfl (es rfl (es rfl (es rfl (es rfl (es rfl (es rfl (es rfl l0_19))))))))))))
          have l4_25 := lookE hA25 4 (es rfl (es rfl (es rfl (es rfl (es rfl (es rfl (es rfl (es rfl (es rfl (es rfl (es rfl (es rfl l4_19))))))))))))
          have l25_25 := lookE hA25 25 (es rfl (es rfl (es rfl (es rfl (es rfl (et rfl))))))
          have l26_25 := lookE hA25 26 (es rfl (es rfl (es rfl (es rfl (et rfl)))))
          have l27_25 := lookE hA25 27 (es rfl (es rfl (es rfl (et rfl))))
          have l28_25 := lookE hA25 28 (es rfl (es rfl (et rfl)))
          have l29_25 := lookE hA25 29 (es rfl (et rfl))
          have l30_25 := lookE hA25 30 (et rfl)
          clear hA25 hsz19 hdf19 l0_19 l4_19 l16_19
          refine then_n (hK22 _ _ ?_)
          clear hK22
          refine cond_t l30_25 ?_
          refine wp_seq_k (fun K26 hK26 => ?_)
          -- region 7
          refine region_in ?_
          refine W_v rfl rfl (V_mov rfl l4_25) ?_
          refine W_v rfl rfl (V_asg rfl (et rfl)) ?_
          refine W_v rfl rfl (V_asg rfl rfl) ?_
          refine W_end ?_
          refine gen_Q (fun A27 hA27 => ?_)
          have hsz27 : SzN A27 32 := by rw [hA27]; infer_instance
          have hdf27 : A27.defers = [] := by rw [hA27]; simp only [df_put]; exact hdf25
          have l2_27 := lookE hA27 2 (es rfl (et rfl))
          have l3_27 := lookE hA27 3 (et rfl)
          clear hA27 hsz25 hdf25 l0_25 l4_25 l25_25 l26_25 l27_25 l28_25 l29_25 l30_25
          refine then_n (hK26 _ _ ?_)
          clear hK26
          refine wp_ret ?_
          refine inb_ret ?_
          refine then_ret ?_
          refine then_ret ?_
          refine inb_ret ?_
          refine then_ret ?_
          refine ret_in (results_2 Try.results26 (rv_tmp l2_27) (rv_tmp l3_27)) hdf27 ?_
          -- leaf FFTT
          have hi := idxF_at hz hy23 (show outB y23 = true by simp [outB]; omega)
          have hc := ckR_bad (l := l) (by omega) (by rw [hi]; omega)
          rw [hc, hi]
          exact ⟨rfl, hS16.fin0⟩
        · skip
          refine W_v rfl (wanted_t rfl rfl (et rfl) (ez rfl)) (V_mov rfl (es rfl (es rfl (es rfl (es rfl (es rfl (es rfl l0_19))))))) ?_
          refine W_v rfl (wanted_t rfl rfl (es rfl (et rfl)) (ez rfl)) (V_mov rfl (es rfl (es rfl (es rfl (es rfl (es rfl (es rfl (es rfl l4_19)))))))) ?_
          refine W_v rfl (wanted_t rfl rfl (es rfl (es rfl (et rfl))) (ez rfl)) (V_ixS (off := O23 + k) 1 (k) rfl (es rfl (et rfl)) (et rfl) hv23 (by omega) k23 Try.underlying22 (by kernel_rfl) (congrArg _ (Nat.mul_one _))) ?_
          refine W_r rfl (wanted_t rfl rfl (es rfl (es rfl (es rfl (et rfl)))) (ez rfl)) (VR_ldC rfl (et rfl) ((sl_SlN (hS16.ro h_rv)).cell hv23 (map_get hy23)) Try.underlying3 rfl) ?_
          refine W_v rfl (wanted_t rfl rfl (es rfl (es rfl (es rfl (es rfl (et rfl))))) (ez rfl)) (V_gtr rfl (et rfl) rfl) ?_
          refine W_v rfl rfl (V_pickF rfl (es rfl (es rfl (es rfl (es rfl (es rfl (et rfl)))))) (et rfl)) ?_
          refine W_end ?_
          refine gen_Q (fun A29 hA29 => ?_)
          have hsz29 : SzN A29 32 := by rw [hA29]; infer_instance
          have hdf29 : A29.defers = [] := by rw [hA29]; simp only [df_put]; exact hdf19
          have l0_29 := lookE hA29 0 (es rfl (es rfl (es rfl (es rfl (es rfl (es rfl (es rfl (es rfl (es rfl (es rfl (es rfl (es rfl l0_19))))))))))))
          have l4_29 := lookE hA29 4 (es rfl (es rfl (es rfl (es rfl (es rfl (es rfl (es rfl (es rfl (es rfl (es rfl (es rfl (es rfl l4_19))))))))))))
          have l25_29 := lookE hA29 25 (es rfl (es rfl (es rfl (es rfl (es rfl (et rfl))))))
          have l26_29 := lookE hA29 26 (es rfl (es rfl (es rfl (es rfl (et rfl)))))
          have l27_29 := lookE hA29 27 (es rfl (es rfl (es rfl (et rfl))))
          have l28_29 := lookE hA29 28 (es rfl (es rfl (et rfl)))
          have l29_29 := lookE hA29 29 (es rfl (et rfl))
          have l30_29 := lookE hA29 30 (et rfl)
          clear hA29 hsz19 hdf19 l0_19 l4_19 l16_19
          refine then_n (hK22 _ _ ?_)
          clear hK22
          refine cond_dec l30_29 (fun c30 => ?_) (fun c30 => ?_)
          · skip
            refine wp_seq_k (fun K31 hK31 => ?_)
            -- region 7
            refine region_in ?_
            refine W_v rfl rfl (V_mov rfl l4_29) ?_
            refine W_v rfl rfl (V_asg rfl (et rfl)) ?_
            refine W_v rfl rfl (V_asg rfl rfl) ?_
            refine W_end ?_
            refine gen_Q (fun A32 hA32 => ?_)
            have hsz32 : SzN A32 32 := by rw [hA32]; infer_instance
            have hdf32 : A32.defers = [] := by rw [hA32]; simp only [df_put]; exact hdf29
            have l2_32 := lookE hA32 2 (es rfl (et rfl))
            have l3_32 := lookE hA32 3 (et rfl)
            clear hA32 hsz29 hdf29 l0_29 l4_29 l25_29 l26_29 l27_29 l28_29 l29_29 l30_29
            refine then_n (hK31 _ _ ?_)
            clear hK31
            refine wp_ret ?_
            refine inb_ret ?_
            refine then_ret ?_
            refine then_ret ?_
            refine inb_ret ?_
            refine then_ret ?_
            refine ret_in (results_2 Try.results26 (rv_tmp l2_32) (rv_tmp l3_32)) hdf32 ?_
            -- leaf FFTFT
            have hi := idxF_at hz hy23 (show outB y23 = true by simp [outB]; omega)
            have hc := ckR_bad (l := l) (by omega) (by rw [hi]; omega)
            rw [hc, hi]
            exact ⟨rfl, hS16.fin0⟩
          · skip
            refine wp_skip ?_
            refine inb_n ?_
            refine then_n (hK21 _ _ ?_)
            clear hK21
            -- region 5
            refine region_in ?_
            refine W_v rfl rfl (V_mov rfl l4_29) ?_
            refine W_v rfl rfl (V_add rfl (et rfl) rfl (by omega) (by omega)) ?_
            refine W_v rfl rfl (V_asg rfl (et rfl)) ?_
            refine W_end ?_
            refine gen_Q (fun A33 hA33 => ?_)
            have hsz33 : SzN A33 32 := by rw [hA33]; infer_instance
            have hdf33 : A33.defers = [] := by rw [hA33]; simp only [df_put]; exact hdf29
            have l0_33 := lookE hA33 0 (es rfl (es rfl (es rfl l0_29)))
            have l4_33 := lookE hA33 4 (et rfl)
            have l25_33 := lookE hA33 25 (es rfl (es rfl (es rfl l25_29)))
            have l26_33 := lookE hA33 26 (es rfl (es rfl (es rfl l26_29)))
            have l27_33 := lookE hA33 27 (es rfl (es rfl (es rfl l27_29)))
            have l28_33 := lookE hA33 28 (es rfl (es rfl (es rfl l28_29)))
            have l29_33 := lookE hA33 29 (es rfl (es rfl (es rfl l29_29)))
            clear hA33 hsz29 hdf29 l0_29 l4_29 l25_29 l26_29 l27_29 l28_29 l29_29 l30_29
            refine then_n ⟨l.length - (k + 1), by simp only [hm16]; omega, hsz33, hdf33, (k + 1), rfl, (by omega), (no_step hz hy23 (by simp [outB]; omega)), ((l4_33).trans (by first | rfl | (simp; done) | (congr 1; omega))), ((l0_33).trans l0_15.symm), hS16⟩
      · skip
        refine wp_exit ?_
        refine then_exit ?_
        refine then_exit ?_
        refine inb_hit ?_
        refine then_n (hK13 _ _ ?_)
        clear hK13
        refine wp_seq_k (fun K34 hK34 => ?_)
        -- region 8
        refine region_in ?_
        refine W_v rfl rfl (V_asg rfl rfl) ?_
        refine W_v rfl rfl (V_asg rfl rfl) ?_
        refine W_end ?_
        refine gen_Q (fun A35 hA35 => ?_)
        have hsz35 : SzN A35 32 := by rw [hA35]; infer_instance
        have hdf35 : A35.defers = [] := by rw [hA35]; simp only [df_put]; exact hdf19
        have l2_35 := lookE hA35 2 (es rfl (et rfl))
        have l3_35 := lookE hA35 3 (et rfl)
        clear hA35 hsz19 hdf19 l0_19 l4_19 l16_19
        refine then_n (hK34 _ _ ?_)
        clear hK34
        refine wp_ret ?_
        refine ret_in (results_2 Try.results26 (rv_tmp l2_35) (rv_tmp l3_35)) hdf35 ?_
        -- leaf FFF
        have hi := idxF_no (p := outB) (l := l) (fun i hi x hx => hz i (by omega) x hx)
        have hc := ckR_ok (l := l) (by omega) (by rw [hi]; omega)
        rw [hc]
        exact ⟨rfl, hS16.fin0⟩

set_option maxHeartbeats 4000000 in
theorem cln_c {rv : Value} {l : List Int} {w : World} (h_rv : Ro w NoX (il .i64 rv l)) (h0 : 0 < l.length) (h8 : l.length ≤ 1000) :
    Calls Try.prog 43 #[rv] w fun e w' => ∃ v, e = .returned (v) ∧ St w NoX [io .i64 (v) l] w' := by
  refine calls_in 8 Try.func43 rfl rfl (by simp) (fun A0 hsz0 hdf0 hargs => ?_)
  have l0_0 := hargs 0 (rv) rfl
  clear hargs; replace hsz0 : SzN A0 8 := ⟨hsz0⟩
  have hS := St.nil w
  have bh_rv := SlN.le (sl_SlN h_rv.at)
  refine wp_seq_k (fun K1 hK1 => ?_)
  -- region 0
  refine region_in ?_
  refine W_v rfl rfl (V_asg rfl rfl) ?_
  refine W_end ?_
  refine gen_Q (fun A2 hA2 => ?_)
  have hsz2 : SzN A2 8 := by rw [hA2]; infer_instance
  have hdf2 : A2.defers = [] := by rw [hA2]; simp only [df_put]; exact hdf0
  have l0_2 := lookE hA2 0 (es rfl l0_0)
  clear hA2 hsz0 hdf0 l0_0
  refine then_n (hK1 _ _ ?_)
  clear hK1
  refine wp_seq_k (fun K3 hK3 => ?_)
  refine wp_seq_k (fun K4 hK4 => ?_)
  -- region 1
  refine region_in ?_
  refine W_v rfl rfl (V_mov rfl l0_2) ?_
  refine W_v rfl rfl (V_eqNilS rfl (et rfl) rfl (sl_SlN h_rv.at) (by omega) Try.underlying22) ?_
  refine W_end ?_
  refine gen_Q (fun A5 hA5 => ?_)
  have hsz5 : SzN A5 8 := by rw [hA5]; infer_instance
  have hdf5 : A5.defers = [] := by rw [hA5]; simp only [df_put]; exact hdf2
  have l0_5 := lookE hA5 0 (es rfl (es rfl l0_2))
  have l4_5 := lookE hA5 4 (et rfl)
  clear hA5 hsz2 hdf2 l0_2
  refine then_n (hK4 _ _ ?_)
  clear hK4
  refine cond_f l4_5 ?_
  refine wp_skip ?_
  refine then_n (hK3 _ _ ?_)
  clear hK3
  refine wp_seq_k (fun K6 hK6 => ?_)
  -- region 3
  refine region_in ?_
  refine W_litS (vs := []) (xs := []) 1 hS rfl rfl rfl (parts0) rfl Try.underlying22 (by kernel_rfl) (by decide) (by intro v hv; cases hv) (by rfl) (fun g7 w7 c7 hc7 hS7 => ?_)
  replace hc7 : c7 = io .i64 (.slice (some ⟨g7, 0, none⟩) 0 0) [] := hc7
  replace hS7 : St w NoX [c7] w7 := hS7
  refine W_v rfl rfl (V_mov rfl (es rfl l0_5)) ?_
  refine W_appS 1 0 hS7 rfl hc7 rfl rfl rfl (es rfl (et rfl)) (et rfl) Try.underlying22 Try.underlying22 (z := .int .i64 0) (bytes := 8) (by kernel_rfl) rfl (by decide) (sl_SlN (hS7.ro h_rv)) ones_i (by first | omega | (simp; done) | (simp; omega)) (by first | omega | (simp; done) | (simp; omega)) (fun v8 w8 c8 hc8 hS8 => ?_)
  replace hc8 : c8 = io .i64 v8 l := hc8.trans (app_eq (by simp))
  replace hS8 : St w NoX [c8] w8 := hS8
  refine W_v rfl rfl (V_asg rfl (et rfl)) ?_
  refine W_end ?_
  refine gen_Q (fun A9 hA9 => ?_)
  have hsz9 : SzN A9 8 := by rw [hA9]; infer_instance
  have hdf9 : A9.defers = [] := by rw [hA9]; simp only [df_put]; exact hdf5
  have l2_9 := lookE hA9 2 (et rfl)
  clear hA9 hsz5 hdf5 l0_5 l4_5
  refine then_n (hK6 _ _ ?_)
  clear hK6
  refine wp_ret ?_
  refine ret_in (results_1 Try.results43 (rv_tmp l2_9)) hdf9 ?_
  -- leaf 
  exact ⟨_, rfl, (hS8.fin1 0 rfl (hc8))⟩

set_option maxHeartbeats 4000000 in
theorem nm_c {rv : Value} {l : List Int} {nv : Value} {ns : List Int} {w : World} (h_rv : Ro w NoX (il .i64 rv l)) (h_nv : Ro w NoX (il .i64 nv ns))  :
    Calls Try.prog 35 #[rv, nv] w fun e w' => ∃ v, e = .returned (.tuple #[v, .int .i64 (nmE l ns)]) ∧ St w NoX [io .i64 (v) (nmT l ns)] w' := by
  refine calls_in 35 Try.func35 rfl rfl (by simp) (fun A0 hsz0 hdf0 hargs => ?_)
  have l0_0 := hargs 0 (rv) rfl
  have l1_0 := hargs 1 (nv) rfl
  clear hargs; replace hsz0 : SzN A0 35 := ⟨hsz0⟩
  have hS := St.nil w
  have bh_rv := SlN.le (sl_SlN h_rv.at)
  have bh_nv := SlN.le (sl_SlN h_nv.at)
  refine wp_seq_k (fun K1 hK1 => ?_)
  -- region 0
  refine region_in ?_
  refine W_v rfl rfl (V_asg rfl rfl) ?_
  refine W_v rfl rfl (V_asg rfl rfl) ?_
  refine W_end ?_
  refine gen_Q (fun A2 hA2 => ?_)
  have hsz2 : SzN A2 35 := by rw [hA2]; infer_instance
  have hdf2 : A2.defers = [] := by rw [hA2]; simp only [df_put]; exact hdf0
  have l0_2 := lookE hA2 0 (es rfl (es rfl l0_0))
  have l1_2 := lookE hA2 1 (es rfl (es rfl l1_0))
  clear hA2 hsz0 hdf0 l0_0 l1_0
  refine then_n (hK1 _ _ ?_)
  clear hK1
  refine wp_seq_k (fun K3 hK3 => ?_)
  refine wp_seq_k (fun K4 hK4 => ?_)
  -- region 1
  refine region_in ?_
  refine W_v rfl rfl (V_mov rfl l0_2) ?_
  refine W_call rfl rfl rfl Try.func22 (by kernel_rfl) rfl (args1 (et rfl)) (kCk_c (hS.roC h_rv) ) ?_
  rintro _ w5 ⟨rfl, hP5⟩
  refine ⟨_, rfl, ?_⟩
  have hS5 := hS.join hP5
  replace hS5 : St w NoX [] w5 := hS5
  refine W_v rfl rfl (V_mov rfl (et rfl)) ?_
  refine W_v rfl rfl (V_ext (v := .int .i64 ((ckR l).1)) rfl (et rfl) rfl) ?_
  refine W_v rfl rfl (V_ext (v := .int .i64 ((ckR l).2)) rfl (es rfl (et rfl)) rfl) ?_
  refine W_v rfl rfl (V_asg rfl (es rfl (et rfl))) ?_
  refine W_v rfl rfl (V_asg rfl (es rfl (et rfl))) ?_
  refine W_end ?_
  refine gen_Q (fun A6 hA6 => ?_)
  have hsz6 : SzN A6 35 := by rw [hA6]; infer_instance
  have hdf6 : A6.defers = [] := by rw [hA6]; simp only [df_put]; exact hdf2
  have l0_6 := lookE hA6 0 (es rfl (es rfl (es rfl (es rfl (es rfl (es rfl (es rfl l0_2)))))))
  have l1_6 := lookE hA6 1 (es rfl (es rfl (es rfl (es rfl (es rfl (es rfl (es rfl l1_2)))))))
  have l7_6 := lookE hA6 7 (et rfl)
  clear hA6 hsz2 hdf2 l0_2 l1_2
  refine then_n (hK4 _ _ ?_)
  clear hK4
  refine wp_seq_k (fun K7 hK7 => ?_)
  -- region 2
  refine region_in ?_
  refine W_v rfl rfl (V_mov rfl l7_6) ?_
  refine W_v rfl rfl (V_neq rfl (et rfl) rfl) ?_
  refine W_end ?_
  refine gen_Q (fun A8 hA8 => ?_)
  have hsz8 : SzN A8 35 := by rw [hA8]; infer_instance
  have hdf8 : A8.defers = [] := by rw [hA8]; simp only [df_put]; exact hdf6
  have l0_8 := lookE hA8 0 (es rfl (es rfl l0_6))
  have l1_8 := lookE hA8 1 (es rfl (es rfl l1_6))
  have l7_8 := lookE hA8 7 (es rfl (es rfl l7_6))
  have l16_8 := lookE hA8 16 (et rfl)
  clear hA8 hsz6 hdf6 l0_6 l1_6 l7_6
  refine then_n (hK7 _ _ ?_)
  clear hK7
  refine cond_dec l16_8 (fun c9 => ?_) (fun c9 => ?_)
  · skip
    refine wp_seq_k (fun K10 hK10 => ?_)
    -- region 3
    refine region_in ?_
    refine W_v rfl rfl (V_mov rfl l7_8) ?_
    refine W_v rfl rfl (V_asg rfl rfl) ?_
    refine W_v rfl rfl (V_asg rfl (es rfl (et rfl))) ?_
    refine W_end ?_
    refine gen_Q (fun A11 hA11 => ?_)
    have hsz11 : SzN A11 35 := by rw [hA11]; infer_instance
    have hdf11 : A11.defers = [] := by rw [hA11]; simp only [df_put]; exact hdf8
    have l4_11 := lookE hA11 4 (es rfl (et rfl))
    have l5_11 := lookE hA11 5 (et rfl)
    clear hA11 hsz8 hdf8 l0_8 l1_8 l7_8 l16_8
    refine then_n (hK10 _ _ ?_)
    clear hK10
    refine wp_ret ?_
    refine then_ret ?_
    refine ret_in (results_2 Try.results35 (rv_tmp l4_11) (rv_tmp l5_11)) hdf11 ?_
    -- leaf T
    obtain ⟨c12, hc12, hS12⟩ := hS5.pnil (s := 1)
    have e1 : nmE l ns = (ckR l).2 := nmE_ck c9
    have e2 := nmT_err (l := l) (ns := ns) (by rw [e1]; exact c9)
    rw [e1]
    exact ⟨_, rfl, (hS12.fin1 0 rfl (hc12.trans (by rw [e2] <;> rfl)))⟩
  · skip
    have hck : (ckR l).2 = 0 := by simpa using c9
    obtain ⟨hl1, hl8, hin⟩ := ckR_good hck
    refine wp_skip ?_
    refine then_n (hK3 _ _ ?_)
    clear hK3
    refine wp_seq_k (fun K13 hK13 => ?_)
    refine wp_seq_k (fun K14 hK14 => ?_)
    -- region 4
    refine region_in ?_
    refine W_v rfl rfl (V_mov rfl l1_8) ?_
    refine W_v rfl rfl (V_lenS rfl (et rfl) (sl_SlN h_nv.at) Try.underlying22) ?_
    refine W_v rfl rfl (V_mov rfl rfl) ?_
    refine W_end ?_
    refine gen_Q (fun A15 hA15 => ?_)
    have hsz15 : SzN A15 35 := by rw [hA15]; infer_instance
    have hdf15 : A15.defers = [] := by rw [hA15]; simp only [df_put]; exact hdf8
    have l0_15 := lookE hA15 0 (es rfl (es rfl (es rfl l0_8)))
    have l18_15 := lookE hA15 18 (es rfl (es rfl (et rfl)))
    have l19_15 := lookE hA15 19 (es rfl (et rfl))
    have l20_15 := lookE hA15 20 (et rfl)
    clear hA15 hsz8 hdf8 l0_8 l1_8 l7_8 l16_8
    refine then_n (hK14 _ _ ?_)
    clear hK14
    refine wp_block ?_
    -- loop 5
    refine loopX (fun mz A' w' => SzN A' 35 ∧ A'.defers = [] ∧ (∃ (j : Nat), (mz = ns.length - j) ∧ (j ≤ ns.length) ∧ (∀ i, i < j → ∀ x, ns[i]? = some x → 0 ≤ x ∧ x < (l.length : Int)) ∧ (EV A' (.tmp 20) = .int .i64 (j : Int)) ∧ (EV A' (.tmp 0) = EV A15 (.tmp 0)) ∧ (EV A' (.tmp 18) = EV A15 (.tmp 18)) ∧ (EV A' (.tmp 19) = EV A15 (.tmp 19)) ∧ (St w NoX [] w'))) (ns.length - 0) ⟨hsz15, hdf15, 0, rfl, (Nat.zero_le _), (fun i hi => by omega), ((l20_15).trans (by first | rfl | (simp; done) | (congr 1; omega))), rfl, rfl, rfl, hS5⟩ ?_
    clear hS5
    rintro n16 A16 w16 ⟨hsz16, hdf16, j, hm16, hj, hjn, l20_16, u0_16, u18_16, u19_16, hS16⟩
    have l0_16 := u0_16.trans l0_15
    have l18_16 := u18_16.trans l18_15
    have l19_16 := u19_16.trans l19_15
    refine wp_seq_k (fun K17 hK17 => ?_)
    -- region 5
    refine region_in ?_
    refine W_v rfl rfl (V_lss rfl l20_16 l19_16) ?_
    refine W_end ?_
    refine gen_Q (fun A18 hA18 => ?_)
    have hsz18 : SzN A18 35 := by rw [hA18]; infer_instance
    have hdf18 : A18.defers = [] := by rw [hA18]; simp only [df_put]; exact hdf16
    have l0_18 := lookE hA18 0 (es rfl l0_16)
    have l18_18 := lookE hA18 18 (es rfl l18_16)
    have l19_18 := lookE hA18 19 (es rfl l19_16)
    have l20_18 := lookE hA18 20 (es rfl l20_16)
    have l21_18 := lookE hA18 21 (et rfl)
    clear hA18 hsz16 hdf16 l20_16 l0_16 l18_16 l19_16
    refine then_n (hK17 _ _ ?_)
    clear hK17
    refine wp_seq_k (fun K19 hK19 => ?_)
    refine cond_dec l21_18 (fun c20 => ?_) (fun c20 => ?_)
    · skip
      refine wp_skip ?_
      refine then_n (hK19 _ _ ?_)
      clear hK19
      refine wp_seq_k (fun K21 hK21 => ?_)
      refine wp_block ?_
      refine wp_seq_k (fun K22 hK22 => ?_)
      -- region 6
      refine region_in ?_
      have k23 : j < ns.length := by first | omega | (simp only [List.length_cons, List.length_nil]; omega)
      obtain ⟨y23, hy23⟩ := get_some (xs := ns) (k := j) k23
      obtain ⟨B23, O23, C23, hv23⟩ := (SlN.blk (sl_SlN h_nv.at) (by first | omega | (simp only [List.length_cons, List.length_nil]; omega)))
      refine W_v rfl rfl (V_ixS (off := O23 + j) 1 (j) rfl l18_18 l20_18 hv23 (by omega) k23 Try.underlying22 (by kernel_rfl) (congrArg _ (Nat.mul_one _))) ?_
      refine W_r rfl rfl (VR_ldC rfl (et rfl) ((sl_SlN (hS16.ro h_nv)).cell hv23 (map_get hy23)) Try.underlying3 rfl) ?_
      refine W_v rfl rfl (V_asg rfl (et rfl)) ?_
      refine W_end ?_
      refine gen_Q (fun A24 hA24 => ?_)
      have hsz24 : SzN A24 35 := by rw [hA24]; infer_instance
      have hdf24 : A24.defers = [] := by rw [hA24]; simp only [df_put]; exact hdf18
      have l0_24 := lookE hA24 0 (es rfl (es rfl (es rfl l0_18)))
      have l9_24 := lookE hA24 9 (et rfl)
      have l18_24 := lookE hA24 18 (es rfl (es rfl (es rfl l18_18)))
      have l19_24 := lookE hA24 19 (es rfl (es rfl (es rfl l19_18)))
      have l20_24 := lookE hA24 20 (es rfl (es rfl (es rfl l20_18)))
      clear hA24 hsz18 hdf18 l0_18 l18_18 l19_18 l20_18 l21_18
      refine then_n (hK22 _ _ ?_)
      clear hK22
      refine wp_seq_k (fun K25 hK25 => ?_)
      -- region 7
      refine region_in ?_
      refine W_v rfl rfl (V_mov rfl l9_24) ?_
      refine W_v rfl rfl (V_lss rfl (et rfl) rfl) ?_
      refine W_split rfl rfl (V_mov rfl (et rfl)) (fun c26 => ?_) (fun c26 => ?_)
      · skip
        refine W_off rfl (wanted_f rfl rfl (et rfl) (ez rfl) rfl) ?_
        refine W_off rfl (wanted_f rfl rfl (es rfl (et rfl)) (ez rfl) rfl) ?_
        refine W_off rfl (wanted_f rfl rfl (es rfl (es rfl (et rfl))) (ez rfl) rfl) ?_
        refine W_off rfl (wanted_f rfl rfl (es rfl (es rfl (es rfl (et rfl)))) (ez rfl) rfl) ?_
        refine W_v rfl rfl (V_pickT rfl (es rfl (es rfl (es rfl (es rfl (et rfl))))) rfl) ?_
        refine W_end ?_
        refine gen_Q (fun A27 hA27 => ?_)
        have hsz27 : SzN A27 35 := by rw [hA27]; infer_instance
        have hdf27 : A27.defers = [] := by rw [hA27]; simp only [df_put]; exact hdf24
        have l0_27 := lookE hA27 0 (es rfl (es rfl (es rfl (es rfl (es rfl (es rfl (es rfl (es rfl l0_24))))))))
        have l18_27 := lookE hA27 18 (es rfl (es rfl (es rfl (es rfl (es rfl (es rfl (es rfl (es rfl l18_24))))))))
        have l19_27 := lookE hA27 19 (es rfl (es rfl (es rfl (es rfl (es rfl (es rfl (es rfl (es rfl l19_24))))))))
        have l20_27 := lookE hA27 20 (es rfl (es rfl (es rfl (es rfl (es rfl (es rfl (es rfl (es rfl l20_24))))))))
        have l27_27 := lookE hA27 27 (es rfl (es rfl (es rfl (es rfl (et rfl)))))
        have l28_27 := lookE hA27 28 (es rfl (es rfl (es rfl (et rfl))))
        have l29_27 := lookE hA27 29 (es rfl (es rfl (et rfl)))
        have l30_27 := lookE hA27 30 (es rfl (et rfl))
        have l31_27 := lookE hA27 31 (et rfl)
        clear hA27 hsz24 hdf24 l0_24 l9_24 l18_24 l19_24 l20_24
        refine then_n (hK25 _ _ ?_)
        clear hK25
        refine cond_t l31_27 ?_
        refine wp_seq_k (fun K28 hK28 => ?_)
        -- region 8
        refine region_in ?_
        refine W_v rfl rfl (V_asg rfl rfl) ?_
        refine W_v rfl rfl (V_asg rfl rfl) ?_
        refine W_end ?_
        refine gen_Q (fun A29 hA29 => ?_)
        have hsz29 : SzN A29 35 := by rw [hA29]; infer_instance
        have hdf29 : A29.defers = [] := by rw [hA29]; simp only [df_put]; exact hdf27
        have l4_29 := lookE hA29 4 (es rfl (et rfl))
        have l5_29 := lookE hA29 5 (et rfl)
        clear hA29 hsz27 hdf27 l0_27 l18_27 l19_27 l20_27 l27_27 l28_27 l29_27 l30_27 l31_27
        refine then_n (hK28 _ _ ?_)
        clear hK28
        refine wp_ret ?_
        refine inb_ret ?_
        refine then_ret ?_
        refine then_ret ?_
        refine inb_ret ?_
        refine then_ret ?_
        refine ret_in (results_2 Try.results35 (rv_tmp l4_29) (rv_tmp l5_29)) hdf29 ?_
        -- leaf FTT
        obtain ⟨c30, hc30, hS30⟩ := hS16.pnil (s := 1)
        have e1 : nmE l ns = 10 := nmE_bad hck hy23 (by omega)
        have e2 := nmT_err (l := l) (ns := ns) (by rw [e1]; decide)
        rw [e1]
        exact ⟨_, rfl, (hS30.fin1 0 rfl (hc30.trans (by rw [e2] <;> rfl)))⟩
      · skip
        refine W_v rfl (wanted_t rfl rfl (et rfl) (ez rfl)) (V_mov rfl (es rfl (es rfl (es rfl l9_24)))) ?_
        refine W_v rfl (wanted_t rfl rfl (es rfl (et rfl)) (ez rfl)) (V_mov rfl (es rfl (es rfl (es rfl (es rfl l0_24))))) ?_
        refine W_v rfl (wanted_t rfl rfl (es rfl (es rfl (et rfl))) (ez rfl)) (V_lenS rfl (et rfl) (sl_SlN h_rv.at) Try.underlying22) ?_
        refine W_v rfl (wanted_t rfl rfl (es rfl (es rfl (es rfl (et rfl)))) (ez rfl)) (V_geq rfl (es rfl (es rfl (et rfl))) (et rfl)) ?_
        refine W_v rfl rfl (V_pickF rfl (es rfl (es rfl (es rfl (es rfl (et rfl))))) (et rfl)) ?_
        refine W_end ?_
        refine gen_Q (fun A31 hA31 => ?_)
        have hsz31 : SzN A31 35 := by rw [hA31]; infer_instance
        have hdf31 : A31.defers = [] := by rw [hA31]; simp only [df_put]; exact hdf24
        have l0_31 := lookE hA31 0 (es rfl (es rfl (es rfl (es rfl (es rfl (es rfl (es rfl (es rfl l0_24))))))))
        have l18_31 := lookE hA31 18 (es rfl (es rfl (es rfl (es rfl (es rfl (es rfl (es rfl (es rfl l18_24))))))))
        have l19_31 := lookE hA31 19 (es rfl (es rfl (es rfl (es rfl (es rfl (es rfl (es rfl (es rfl l19_24))))))))
        have l20_31 := lookE hA31 20 (es rfl (es rfl (es rfl (es rfl (es rfl (es rfl (es rfl (es rfl l20_24))))))))
        have l27_31 := lookE hA31 27 (es rfl (es rfl (es rfl (es rfl (et rfl)))))
        have l28_31 := lookE hA31 28 (es rfl (es rfl (es rfl (et rfl))))
        have l29_31 := lookE hA31 29 (es rfl (es rfl (et rfl)))
        have l30_31 := lookE hA31 30 (es rfl (et rfl))
        have l31_31 := lookE hA31 31 (et rfl)
        clear hA31 hsz24 hdf24 l0_24 l9_24 l18_24 l19_24 l20_24
        refine then_n (hK25 _ _ ?_)
        clear hK25
        refine cond_dec l31_31 (fun c32 => ?_) (fun c32 => ?_)
        · skip
          refine wp_seq_k (fun K33 hK33 => ?_)
          -- region 8
          refine region_in ?_
          refine W_v rfl rfl (V_asg rfl rfl) ?_
          refine W_v rfl rfl (V_asg rfl rfl) ?_
          refine W_end ?_
          refine gen_Q (fun A34 hA34 => ?_)
          have hsz34 : SzN A34 35 := by rw [hA34]; infer_instance
          have hdf34 : A34.defers = [] := by rw [hA34]; simp only [df_put]; exact hdf31
          have l4_34 := lookE hA34 4 (es rfl (et rfl))
          have l5_34 := lookE hA34 5 (et rfl)
          clear hA34 hsz31 hdf31 l0_31 l18_31 l19_31 l20_31 l27_31 l28_31 l29_31 l30_31 l31_31
          refine then_n (hK33 _ _ ?_)
          clear hK33
          refine wp_ret ?_
          refine inb_ret ?_
          refine then_ret ?_
          refine then_ret ?_
          refine inb_ret ?_
          refine then_ret ?_
          refine ret_in (results_2 Try.results35 (rv_tmp l4_34) (rv_tmp l5_34)) hdf34 ?_
          -- leaf FTFT
          obtain ⟨c35, hc35, hS35⟩ := hS16.pnil (s := 1)
          have e1 : nmE l ns = 10 := nmE_bad hck hy23 (by omega)
          have e2 := nmT_err (l := l) (ns := ns) (by rw [e1]; decide)
          rw [e1]
          exact ⟨_, rfl, (hS35.fin1 0 rfl (hc35.trans (by rw [e2] <;> rfl)))⟩
        · skip
          refine wp_skip ?_
          refine inb_n ?_
          refine then_n (hK21 _ _ ?_)
          clear hK21
          -- region 9
          refine region_in ?_
          refine W_v rfl rfl (V_add rfl l20_31 rfl (by omega) (by omega)) ?_
          refine W_v rfl rfl (V_mov rfl (et rfl)) ?_
          refine W_end ?_
          refine gen_Q (fun A36 hA36 => ?_)
          have hsz36 : SzN A36 35 := by rw [hA36]; infer_instance
          have hdf36 : A36.defers = [] := by rw [hA36]; simp only [df_put]; exact hdf31
          have l0_36 := lookE hA36 0 (es rfl (es rfl l0_31))
          have l18_36 := lookE hA36 18 (es rfl (es rfl l18_31))
          have l19_36 := lookE hA36 19 (es rfl (es rfl l19_31))
          have l20_36 := lookE hA36 20 (et rfl)
          have l27_36 := lookE hA36 27 (es rfl (es rfl l27_31))
          have l28_36 := lookE hA36 28 (es rfl (es rfl l28_31))
          have l29_36 := lookE hA36 29 (es rfl (es rfl l29_31))
          have l30_36 := lookE hA36 30 (es rfl (es rfl l30_31))
          clear hA36 hsz31 hdf31 l0_31 l18_31 l19_31 l20_31 l27_31 l28_31 l29_31 l30_31 l31_31
          refine then_n ⟨ns.length - (j + 1), by simp only [hm16]; omega, hsz36, hdf36, (j + 1), rfl, (by omega), (nm_step hjn hy23 (by omega)), ((l20_36).trans (by first | rfl | (simp; done) | (congr 1; omega))), ((l0_36).trans l0_15.symm), ((l18_36).trans l18_15.symm), ((l19_36).trans l19_15.symm), hS16⟩
    · skip
      refine wp_exit ?_
      refine then_exit ?_
      refine then_exit ?_
      refine inb_hit ?_
      refine then_n (hK13 _ _ ?_)
      clear hK13
      refine wp_seq_k (fun K37 hK37 => ?_)
      -- region 10
      refine region_in ?_
      refine W_v rfl rfl (V_mov rfl l0_18) ?_
      refine W_call rfl rfl rfl Try.func43 (by kernel_rfl) rfl (args1 (et rfl)) (cln_c (hS16.roC h_rv) (by first | omega | (simp; done)) (by first | omega | (simp; done))) ?_
      rintro _ w38 ⟨v_38, rfl, hP38⟩
      refine ⟨_, rfl, ?_⟩
      obtain ⟨c_38, hc_38, hP38⟩ := gen1 hP38
      have hS38 := hS16.join hP38
      replace hS38 : St w NoX [c_38] w38 := hS38
      refine W_v rfl rfl (V_asg rfl (et rfl)) ?_
      refine W_v rfl rfl (V_asg rfl rfl) ?_
      refine W_end ?_
      refine gen_Q (fun A39 hA39 => ?_)
      have hsz39 : SzN A39 35 := by rw [hA39]; infer_instance
      have hdf39 : A39.defers = [] := by rw [hA39]; simp only [df_put]; exact hdf18
      have l4_39 := lookE hA39 4 (es rfl (et rfl))
      have l5_39 := lookE hA39 5 (et rfl)
      clear hA39 hsz18 hdf18 l0_18 l18_18 l19_18 l20_18 l21_18
      refine then_n (hK37 _ _ ?_)
      clear hK37
      refine wp_ret ?_
      refine ret_in (results_2 Try.results35 (rv_tmp l4_39) (rv_tmp l5_39)) hdf39 ?_
      -- leaf FF
      have e1 : nmE l ns = 0 := nmE_ok hck hjn (by omega)
      have e2 := nmT_ok e1
      rw [e1]
      exact ⟨_, rfl, (hS38.fin1 0 rfl (hc_38.trans (by rw [e2])))⟩

end Go.Proofs.Ytbnijekjaafoaaa