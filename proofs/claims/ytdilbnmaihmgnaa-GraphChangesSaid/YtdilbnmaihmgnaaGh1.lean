import Derived.Test.YtdilbnmaihmgnaaProg
import Derived.Test.YtdilbnmaihmgnaaPl15c
import Derived.Test.YtdilbnmaihmgnaaSepE
import Derived.Test.YtdilbnmaihmgnaaSepU
import Derived.Test.YtdilbnmaihmgnaaSepX
namespace Go.Proofs.Ytdilbnmaihmgnaa
open Go.RowKit Go.Own Go.Own.R Go.Own.G Go.Own.Gr


set_option maxHeartbeats 4000000 in
theorem kck1_c {x : Int} {n : Int} {gn : Nat} {w : World} (hb_n : Ro w NoX (bx gn 3 #[.int .i64 n]))  :
    Calls Try.prog 44 #[.int .i64 x, .pointer (some ⟨gn, 0, none⟩)] w fun e w' => e = .returned (.bool (decide (x < 0 ∨ n < x))) ∧ St w NoX [] w' := by
  refine calls_in 11 Try.func44 rfl rfl (by simp) (fun A0 hsz0 hdf0 hargs => ?_)
  have l0_0 := hargs 0 (.int .i64 x) rfl
  have l1_0 := hargs 1 (.pointer (some ⟨gn, 0, none⟩)) rfl
  clear hargs; replace hsz0 : SzN A0 11 := ⟨hsz0⟩
  have hS := St.nil w
  refine wp_seq_k (fun K1 hK1 => ?_)
  refine region_in ?_
  refine W_v rfl rfl (V_asg rfl rfl) ?_
  refine W_end ?_
  refine gen_Q (fun A2 hA2 => ?_)
  have hsz2 := szq hA2
  have hdf2 : A2.defers = [] := by rw [hA2]; simp only [df_put]; exact hdf0
  have l0_2 := lookE hA2 0 (es rfl l0_0)
  have l1_2 := lookE hA2 1 (es rfl l1_0)
  clear hA2 hsz0 hdf0 l0_0 l1_0
  refine then_n (hK1 _ _ ?_)
  clear hK1
  refine wp_seq_k (fun K3 hK3 => ?_)
  refine region_in ?_
  refine W_v rfl rfl (V_mov rfl l0_2) ?_
  refine W_v rfl rfl (V_lss rfl (et rfl) rfl) ?_
  refine W_split rfl rfl (V_mov rfl (et rfl)) (fun c4 => ?_) (fun c4 => ?_)
  · skip
    refine W_off rfl (wanted_f rfl rfl (et rfl) (ez rfl) rfl) ?_
    refine W_off rfl (wanted_f rfl rfl (es rfl (et rfl)) (ez rfl) rfl) ?_
    refine W_off rfl (wanted_f rfl rfl (e2 rfl (et rfl)) (ez rfl) rfl) ?_
    refine W_v rfl rfl (V_pickT rfl (e3 rfl (et rfl)) rfl) ?_
    refine W_v rfl rfl (V_asg rfl (et rfl)) ?_
    refine W_end ?_
    refine gen_Q (fun A5 hA5 => ?_)
    have hsz5 := szq hA5
    have hdf5 : A5.defers = [] := by rw [hA5]; simp only [df_put]; exact hdf2
    have l3_5 := lookE hA5 3 (et rfl)
    clear hA5 hsz2 hdf2 l0_2 l1_2
    refine then_n (hK3 _ _ ?_)
    clear hK3
    refine wp_ret ?_
    refine ret_in (results_1 Try.results44 (rv_tmp l3_5)) hdf5 ?_
    -- leaf T
    rw [show (decide (x < 0 ∨ n < x)) = true by exact decide_eq_true (by omega)]
    exact ⟨rfl, hS.fin0⟩
  · skip
    refine W_v rfl (wanted_t rfl rfl (et rfl) (ez rfl)) (V_mov rfl (e2 rfl (es rfl l0_2))) ?_
    refine W_r rfl (wanted_t rfl rfl (es rfl (et rfl)) (ez rfl)) (VR_ldC rfl (e3 rfl (es rfl l1_2)) (cell_box (v := .int .i64 (n)) (ob_at (hS.ro hb_n)) rfl) Try.underlying3 rfl) ?_
    refine W_v rfl (wanted_t rfl rfl (e2 rfl (et rfl)) (ez rfl)) (V_gtr rfl (es rfl (et rfl)) (et rfl)) ?_
    refine W_v rfl rfl (V_pickF rfl (e3 rfl (et rfl)) (et rfl)) ?_
    refine W_v rfl rfl (V_asg rfl (et rfl)) ?_
    refine W_end ?_
    refine gen_Q (fun A6 hA6 => ?_)
    have hsz6 := szq hA6
    have hdf6 : A6.defers = [] := by rw [hA6]; simp only [df_put]; exact hdf2
    have l3_6 := lookE hA6 3 (et rfl)
    clear hA6 hsz2 hdf2 l0_2 l1_2
    refine then_n (hK3 _ _ ?_)
    clear hK3
    refine wp_ret ?_
    refine ret_in (results_1 Try.results44 (rv_tmp l3_6)) hdf6 ?_
    -- leaf F
    rw [show (decide (x < 0 ∨ n < x)) = decide (n < x) by exact decide_eq_decide.2 (by omega)]
    exact ⟨rfl, hS.fin0⟩

set_option maxHeartbeats 4000000 in
theorem kix_c {rv : Value} {l : List Int} {n : Int} {gn : Nat} {w : World} (h_rv : Ro w NoX (il .i64 rv l)) (hb_n : Ro w NoX (bx gn 3 #[.int .i64 n]))  :
    Calls Try.prog 63 #[rv, .func (.func 44) #[] #[.pointer (some ⟨gn, 0, none⟩)]] w fun e w' => e = .returned (.int .i64 (idxFG (fun x => decide (x < 0 ∨ n < x)) l)) ∧ St w NoX [] w' := by
  refine calls_in 19 Try.func63 rfl rfl (by simp) (fun A0 hsz0 hdf0 hargs => ?_)
  have l0_0 := hargs 0 (rv) rfl
  have l1_0 := hargs 1 (.func (.func 44) #[] #[.pointer (some ⟨gn, 0, none⟩)]) rfl
  clear hargs; replace hsz0 : SzN A0 19 := ⟨hsz0⟩
  have hS := St.nil w
  have bh_rv := SlN.le (sl_SlN h_rv.at)
  refine wp_seq_k (fun K1 hK1 => ?_)
  refine region_in ?_
  refine W_v rfl rfl (V_asg rfl rfl) ?_
  refine W_end ?_
  refine gen_Q (fun A2 hA2 => ?_)
  have hsz2 := szq hA2
  have hdf2 : A2.defers = [] := by rw [hA2]; simp only [df_put]; exact hdf0
  have l0_2 := lookE hA2 0 (es rfl l0_0)
  have l1_2 := lookE hA2 1 (es rfl l1_0)
  clear hA2 hsz0 hdf0 l0_0 l1_0
  refine then_n (hK1 _ _ ?_)
  clear hK1
  refine wp_seq_k (fun K3 hK3 => ?_)
  refine wp_seq_k (fun K4 hK4 => ?_)
  refine region_in ?_
  refine W_v rfl rfl (V_mov rfl l0_2) ?_
  refine W_v rfl rfl (V_lenS rfl (et rfl) (sl_SlN h_rv.at) Try.underlying23) ?_
  refine W_v rfl rfl (V_mov rfl rfl) ?_
  refine W_end ?_
  refine gen_Q (fun A5 hA5 => ?_)
  have hsz5 := szq hA5
  have hdf5 : A5.defers = [] := by rw [hA5]; simp only [df_put]; exact hdf2
  have l0_5 := lookE hA5 0 (e2 rfl (es rfl l0_2))
  have l1_5 := lookE hA5 1 (e2 rfl (es rfl l1_2))
  have l7_5 := lookE hA5 7 (es rfl (et rfl))
  have l8_5 := lookE hA5 8 (et rfl)
  clear hA5 hsz2 hdf2 l0_2 l1_2
  refine then_n (hK4 _ _ ?_)
  clear hK4
  refine wp_block ?_
  -- loop 2
  refine loopX (fun mz A' w' => SzN A' 19 ∧ A'.defers = [] ∧ (∃ (k : Nat), (mz = l.length - k) ∧ (k ≤ l.length) ∧ (∀ i, i < k → ∀ x, l[i]? = some x → (fun x => decide (x < 0 ∨ n < x)) x = false) ∧ (EV A' (.tmp 8) = .int .i64 (k : Int)) ∧ (EV A' (.tmp 0) = EV A5 (.tmp 0)) ∧ (EV A' (.tmp 1) = EV A5 (.tmp 1)) ∧ (EV A' (.tmp 7) = EV A5 (.tmp 7)) ∧ (St w NoX [] w'))) (l.length - 0) ⟨hsz5, hdf5, 0, rfl, (Nat.zero_le _), (fun i hi => by omega), ((l8_5).trans (by first | rfl | (simp; done) | (congr 1; omega))), rfl, rfl, rfl, hS⟩ ?_
  clear hS
  rintro n6 A6 w6 ⟨hsz6, hdf6, k, hm6, hk, hz, l8_6, u0_6, u1_6, u7_6, hS6⟩
  have l0_6 := u0_6.trans l0_5
  have l1_6 := u1_6.trans l1_5
  have l7_6 := u7_6.trans l7_5
  refine wp_seq_k (fun K7 hK7 => ?_)
  refine region_in ?_
  refine W_v rfl rfl (V_lss rfl l8_6 l7_6) ?_
  refine W_end ?_
  refine gen_Q (fun A8 hA8 => ?_)
  have hsz8 := szq hA8
  have hdf8 : A8.defers = [] := by rw [hA8]; simp only [df_put]; exact hdf6
  have l0_8 := lookE hA8 0 (es rfl l0_6)
  have l1_8 := lookE hA8 1 (es rfl l1_6)
  have l7_8 := lookE hA8 7 (es rfl l7_6)
  have l8_8 := lookE hA8 8 (es rfl l8_6)
  have l9_8 := lookE hA8 9 (et rfl)
  clear hA8 hsz6 hdf6 l8_6 l0_6 l1_6 l7_6
  refine then_n (hK7 _ _ ?_)
  clear hK7
  refine wp_seq_k (fun K9 hK9 => ?_)
  refine cond_dec l9_8 (fun c10 => ?_) (fun c10 => ?_)
  · skip
    refine wp_skip ?_
    refine then_n (hK9 _ _ ?_)
    clear hK9
    refine wp_seq_k (fun K11 hK11 => ?_)
    refine wp_block ?_
    refine wp_seq_k (fun K12 hK12 => ?_)
    refine region_in ?_
    refine W_v rfl rfl (V_mov rfl l8_8) ?_
    refine W_v rfl rfl (V_asg rfl (et rfl)) ?_
    refine W_end ?_
    refine gen_Q (fun A13 hA13 => ?_)
    have hsz13 := szq hA13
    have hdf13 : A13.defers = [] := by rw [hA13]; simp only [df_put]; exact hdf8
    have l0_13 := lookE hA13 0 (es rfl (es rfl l0_8))
    have l1_13 := lookE hA13 1 (es rfl (es rfl l1_8))
    have l5_13 := lookE hA13 5 (et rfl)
    have l7_13 := lookE hA13 7 (es rfl (es rfl l7_8))
    have l8_13 := lookE hA13 8 (es rfl (es rfl l8_8))
    clear hA13 hsz8 hdf8 l0_8 l1_8 l7_8 l8_8 l9_8
    refine then_n (hK12 _ _ ?_)
    clear hK12
    refine wp_seq_k (fun K14 hK14 => ?_)
    refine region_in ?_
    refine W_v rfl rfl (V_mov rfl l1_13) ?_
    refine W_v rfl rfl (V_mov rfl (es rfl l0_13)) ?_
    refine W_v rfl rfl (V_mov rfl (es rfl (es rfl l5_13))) ?_
    have k15 : k < l.length := by first | omega | (simp only [List.length_cons, List.length_nil]; omega) | (simp only [List.length_set]; omega)
    obtain ⟨y15, hy15⟩ := get_some (xs := l) (k := k) k15
    obtain ⟨B15, O15, C15, hv15⟩ := (SlN.blk (sl_SlN h_rv.at) (by first | omega | (simp only [List.length_cons, List.length_nil]; omega) | (simp only [List.length_set]; omega)))
    refine W_v rfl rfl (V_ixS (off := O15 + k) 1 (k) rfl (es rfl (et rfl)) (et rfl) hv15 (by omega) k15 Try.underlying23 (by kernel_rfl) (congrArg _ (Nat.mul_one _))) ?_
    refine W_r rfl rfl (VR_ldC rfl (et rfl) ((sl_SlN (hS6.ro h_rv)).cell hv15 (map_get hy15)) Try.underlying3 rfl) ?_
    refine W_callV rfl rfl rfl (e4 rfl (et rfl)) Try.func44 (by kernel_rfl) rfl (args1 (et rfl)) (kck1_c (x := y15) (n := n) (gn := gn) (hS6.roC hb_n) ) ?_
    rintro _ w16 ⟨rfl, hP16⟩
    refine ⟨_, rfl, ?_⟩
    have hS16 := hS6.join hP16
    replace hS16 : St w NoX [] w16 := hS16
    refine W_end ?_
    refine gen_Q (fun A17 hA17 => ?_)
    have hsz17 := szq hA17
    have hdf17 : A17.defers = [] := by rw [hA17]; simp only [df_put]; exact hdf13
    have l0_17 := lookE hA17 0 (e5 rfl (es rfl l0_13))
    have l1_17 := lookE hA17 1 (e5 rfl (es rfl l1_13))
    have l5_17 := lookE hA17 5 (e5 rfl (es rfl l5_13))
    have l7_17 := lookE hA17 7 (e5 rfl (es rfl l7_13))
    have l8_17 := lookE hA17 8 (e5 rfl (es rfl l8_13))
    have l16_17 := lookE hA17 16 (et rfl)
    clear hA17 hsz13 hdf13 l0_13 l1_13 l5_13 l7_13 l8_13
    refine then_n (hK14 _ _ ?_)
    clear hK14
    refine cond_dec l16_17 (fun c18 => ?_) (fun c18 => ?_)
    · skip
      refine wp_seq_k (fun K19 hK19 => ?_)
      refine region_in ?_
      refine W_v rfl rfl (V_mov rfl l5_17) ?_
      refine W_v rfl rfl (V_asg rfl (et rfl)) ?_
      refine W_end ?_
      refine gen_Q (fun A20 hA20 => ?_)
      have hsz20 := szq hA20
      have hdf20 : A20.defers = [] := by rw [hA20]; simp only [df_put]; exact hdf17
      have l4_20 := lookE hA20 4 (et rfl)
      clear hA20 hsz17 hdf17 l0_17 l1_17 l5_17 l7_17 l8_17 l16_17
      refine then_n (hK19 _ _ ?_)
      clear hK19
      refine wp_ret ?_
      refine inb_ret ?_
      refine then_ret ?_
      refine then_ret ?_
      refine inb_ret ?_
      refine then_ret ?_
      refine ret_in (results_1 Try.results63 (rv_tmp l4_20)) hdf20 ?_
      -- leaf TT
      have e0 : idxFG (fun x => decide (x < 0 ∨ n < x)) l = (k : Int) := by exact idxF_atG hz hy15 (show (fun x => decide (x < 0 ∨ n < x)) y15 = true by have hc := c18; first | simpa using hc | (simp at hc ⊢; omega))
      rw [e0]
      exact ⟨rfl, hS16.fin0⟩
    · skip
      refine wp_skip ?_
      refine inb_n ?_
      refine then_n (hK11 _ _ ?_)
      clear hK11
      refine region_in ?_
      refine W_v rfl rfl (V_add rfl l8_17 rfl (by omega) (by omega)) ?_
      refine W_v rfl rfl (V_mov rfl (et rfl)) ?_
      refine W_end ?_
      refine gen_Q (fun A21 hA21 => ?_)
      have hsz21 := szq hA21
      have hdf21 : A21.defers = [] := by rw [hA21]; simp only [df_put]; exact hdf17
      have l0_21 := lookE hA21 0 (es rfl (es rfl l0_17))
      have l1_21 := lookE hA21 1 (es rfl (es rfl l1_17))
      have l7_21 := lookE hA21 7 (es rfl (es rfl l7_17))
      have l8_21 := lookE hA21 8 (et rfl)
      clear hA21 hsz17 hdf17 l0_17 l1_17 l5_17 l7_17 l8_17 l16_17
      refine then_n ⟨l.length - (k + 1), by simp only [hm6]; omega, hsz21, hdf21, (k + 1), rfl, (by omega), (no_stepG hz hy15 (show (fun x => decide (x < 0 ∨ n < x)) y15 = false by have hc := c18; first | simpa using hc | (simp at hc ⊢; omega))), ((l8_21).trans (by first | rfl | (simp; done) | (congr 1; omega))), ((l0_21).trans l0_5.symm), ((l1_21).trans l1_5.symm), ((l7_21).trans l7_5.symm), hS16⟩
  · skip
    refine wp_exit ?_
    refine then_exit ?_
    refine then_exit ?_
    refine inb_hit ?_
    refine then_n (hK3 _ _ ?_)
    clear hK3
    refine wp_seq_k (fun K22 hK22 => ?_)
    refine region_in ?_
    refine W_v rfl rfl (V_asg rfl rfl) ?_
    refine W_end ?_
    refine gen_Q (fun A23 hA23 => ?_)
    have hsz23 := szq hA23
    have hdf23 : A23.defers = [] := by rw [hA23]; simp only [df_put]; exact hdf8
    have l4_23 := lookE hA23 4 (et rfl)
    clear hA23 hsz8 hdf8 l0_8 l1_8 l7_8 l8_8 l9_8
    refine then_n (hK22 _ _ ?_)
    clear hK22
    refine wp_ret ?_
    refine ret_in (results_1 Try.results63 (rv_tmp l4_23)) hdf23 ?_
    -- leaf F
    have e0 : idxFG (fun x => decide (x < 0 ∨ n < x)) l = (-1) := by exact idxF_noG (fun i hi x hx => hz i (by omega) x hx)
    rw [e0]
    exact ⟨rfl, hS6.fin0⟩

set_option maxHeartbeats 4000000 in
theorem kcf_c {rv : Value} {l : List Int} {n : Int} {gn : Nat} {w : World} (h_rv : Ro w NoX (il .i64 rv l)) (hb_n : Ro w NoX (bx gn 3 #[.int .i64 n]))  :
    Calls Try.prog 45 #[rv, .func (.func 44) #[] #[.pointer (some ⟨gn, 0, none⟩)]] w fun e w' => e = .returned (.bool (decide (0 ≤ idxFG (fun x => decide (x < 0 ∨ n < x)) l))) ∧ St w NoX [] w' := by
  refine calls_in 9 Try.func45 rfl rfl (by simp) (fun A0 hsz0 hdf0 hargs => ?_)
  have l0_0 := hargs 0 (rv) rfl
  have l1_0 := hargs 1 (.func (.func 44) #[] #[.pointer (some ⟨gn, 0, none⟩)]) rfl
  clear hargs; replace hsz0 : SzN A0 9 := ⟨hsz0⟩
  have hS := St.nil w
  have bh_rv := SlN.le (sl_SlN h_rv.at)
  refine wp_seq_k (fun K1 hK1 => ?_)
  refine region_in ?_
  refine W_v rfl rfl (V_asg rfl rfl) ?_
  refine W_end ?_
  refine gen_Q (fun A2 hA2 => ?_)
  have hsz2 := szq hA2
  have hdf2 : A2.defers = [] := by rw [hA2]; simp only [df_put]; exact hdf0
  have l0_2 := lookE hA2 0 (es rfl l0_0)
  have l1_2 := lookE hA2 1 (es rfl l1_0)
  clear hA2 hsz0 hdf0 l0_0 l1_0
  refine then_n (hK1 _ _ ?_)
  clear hK1
  refine wp_seq_k (fun K3 hK3 => ?_)
  refine region_in ?_
  refine W_v rfl rfl (V_mov rfl l0_2) ?_
  refine W_v rfl rfl (V_mov rfl (es rfl l1_2)) ?_
  refine W_call rfl rfl rfl Try.func63 (by kernel_rfl) rfl (args2 (es rfl (et rfl)) (et rfl)) (kix_c (n := n) (gn := gn) (hS.roC h_rv) (hS.roC hb_n) ) ?_
  rintro _ w4 ⟨rfl, hP4⟩
  refine ⟨_, rfl, ?_⟩
  have hS4 := hS.join hP4
  replace hS4 : St w NoX [] w4 := hS4
  refine W_v rfl rfl (V_geq rfl (et rfl) rfl) ?_
  refine W_v rfl rfl (V_asg rfl (et rfl)) ?_
  refine W_end ?_
  refine gen_Q (fun A5 hA5 => ?_)
  have hsz5 := szq hA5
  have hdf5 : A5.defers = [] := by rw [hA5]; simp only [df_put]; exact hdf2
  have l4_5 := lookE hA5 4 (et rfl)
  clear hA5 hsz2 hdf2 l0_2 l1_2
  refine then_n (hK3 _ _ ?_)
  clear hK3
  refine wp_ret ?_
  refine ret_in (results_1 Try.results45 (rv_tmp l4_5)) hdf5 ?_
  -- leaf 
  exact ⟨rfl, hS4.fin0⟩

set_option maxHeartbeats 4000000 in
theorem kCk_c {ov : Value} {O : List Ob} {rv : Value} {rs : List Int} {w : World} (h_ov : Ro w NoX (rl 2 obC ov O)) (n_ov : Ro w NoX (nst O)) (h_rv : Ro w NoX (il .i64 rv rs))  :
    Calls Try.prog 14 #[.agg #[ov, rv]] w fun e w' => e = .returned (.tuple #[.int .i64 (ckG (O.map ab) rs).1, .int .i64 (ckG (O.map ab) rs).2]) ∧ St w NoX [] w' := by
  refine calls_in 57 Try.func14 rfl rfl (by simp) (fun A0 hsz0 hdf0 hargs => ?_)
  have l0_0 := hargs 0 (.agg #[ov, rv]) rfl
  clear hargs; replace hsz0 : SzN A0 57 := ⟨hsz0⟩
  have hS := St.nil w
  have bh_ov := SlN.le (sl_SlN h_ov.at)
  have bh_rv := SlN.le (sl_SlN h_rv.at)
  refine wp_seq_k (fun K1 hK1 => ?_)
  refine region_in ?_
  refine W_boxS (zs := #[ov, rv]) hS rfl rfl rfl l0_0 (by rfl) (fun g2 w2 c2 hc2 hS2 => ?_)
  replace hS2 : St w NoX [c2] w2 := hS2
  refine W_v rfl rfl (V_asg rfl rfl) ?_
  refine W_v rfl rfl (V_asg rfl rfl) ?_
  refine W_end ?_
  refine gen_Q (fun A3 hA3 => ?_)
  have hsz3 := szq hA3
  have hdf3 : A3.defers = [] := by rw [hA3]; simp only [df_put]; exact hdf0
  have l1_3 := lookE hA3 1 (e2 rfl (et rfl))
  clear hA3 hsz0 hdf0 l0_0
  refine then_n (hK1 _ _ ?_)
  clear hK1
  refine wp_seq_k (fun K4 hK4 => ?_)
  refine region_in ?_
  refine W_v rfl rfl (V_fa (off' := 0) rfl l1_3 Try.underlying25 rfl (by decide +kernel) rfl) ?_
  refine W_r rfl rfl (VR_ldC rfl (et rfl) (cell_box (v := ov) (hS2.obj 0 rfl hc2) rfl) Try.underlying22 rfl) ?_
  refine W_v rfl rfl (V_lenS rfl (et rfl) (sl_SlN h_ov.at) Try.underlying22) ?_
  refine W_allocS (z := .int .i64 0) (zs := #[.int .i64 0]) hS2 rfl rfl rfl (by kernel_rfl) (by rfl) (fun g5 w5 c5 hc5 hS5 => ?_)
  replace hS5 : St w NoX [c5, c2] w5 := hS5
  refine W_stCS (zs' := #[.int .i64 ((O.length : Int))]) 0 hS5 rfl hc5 rfl rfl rfl (et rfl) (es rfl (et rfl)) (by rfl) (by rfl) (by kernel_rfl) (by first | rfl | (simp only [List.setIfInBounds_toArray, List.set_cons_succ, List.set_cons_zero] <;> rfl)) (fun w6 c6 hc6 hS6 => ?_)
  replace hS6 : St w NoX [c6, c2] w6 := hS6
  refine W_end ?_
  refine gen_Q (fun A7 hA7 => ?_)
  have hsz7 := szq hA7
  have hdf7 : A7.defers = [] := by rw [hA7]; simp only [df_put]; exact hdf3
  have l1_7 := lookE hA7 1 (e3 rfl (es rfl l1_3))
  have l4_7 := lookE hA7 4 (et rfl)
  clear hA7 hsz3 hdf3 l1_3
  refine then_n (hK4 _ _ ?_)
  clear hK4
  refine wp_seq_k (fun K8 hK8 => ?_)
  refine region_in ?_
  refine W_v rfl rfl (V_mkf rfl (args0) (args1 l4_7)) ?_
  refine W_v rfl rfl (V_asg rfl (et rfl)) ?_
  refine W_end ?_
  refine gen_Q (fun A9 hA9 => ?_)
  have hsz9 := szq hA9
  have hdf9 : A9.defers = [] := by rw [hA9]; simp only [df_put]; exact hdf7
  have l1_9 := lookE hA9 1 (es rfl (es rfl l1_7))
  have l4_9 := lookE hA9 4 (es rfl (es rfl l4_7))
  have l5_9 := lookE hA9 5 (et rfl)
  clear hA9 hsz7 hdf7 l1_7 l4_7
  refine then_n (hK8 _ _ ?_)
  clear hK8
  refine wp_seq_k (fun K10 hK10 => ?_)
  refine wp_block ?_
  refine wp_seq_k (fun K11 hK11 => ?_)
  refine region_in ?_
  refine W_v rfl rfl (V_fa (off' := 1) rfl l1_9 Try.underlying25 rfl (by decide +kernel) rfl) ?_
  refine W_r rfl rfl (VR_ldC rfl (et rfl) (cell_box (v := rv) (hS6.obj 1 rfl hc2) rfl) Try.underlying23 rfl) ?_
  refine W_v rfl rfl (V_lenS rfl (et rfl) (sl_SlN h_rv.at) Try.underlying23) ?_
  refine W_v rfl rfl (V_lss rfl (et rfl) rfl) ?_
  refine W_split rfl rfl (V_mov rfl (et rfl)) (fun c12 => ?_) (fun c12 => ?_)
  · skip
    refine W_off rfl (wanted_f rfl rfl (et rfl) (ez rfl) rfl) ?_
    refine W_off rfl (wanted_f rfl rfl (es rfl (et rfl)) (ez rfl) rfl) ?_
    refine W_off rfl (wanted_f rfl rfl (e2 rfl (et rfl)) (ez rfl) rfl) ?_
    refine W_off rfl (wanted_f rfl rfl (e3 rfl (et rfl)) (ez rfl) rfl) ?_
    refine W_v rfl rfl (V_pickT rfl (e4 rfl (et rfl)) rfl) ?_
    refine W_v rfl rfl (V_asg rfl (et rfl)) ?_
    refine W_end ?_
    refine gen_Q (fun A13 hA13 => ?_)
    have hsz13 := szq hA13
    have hdf13 : A13.defers = [] := by rw [hA13]; simp only [df_put]; exact hdf9
    have l1_13 := lookE hA13 1 (e10 rfl (es rfl l1_9))
    have l4_13 := lookE hA13 4 (e10 rfl (es rfl l4_9))
    have l5_13 := lookE hA13 5 (e10 rfl (es rfl l5_9))
    have l12_13 := lookE hA13 12 (et rfl)
    clear hA13 hsz9 hdf9 l1_9 l4_9 l5_9
    refine then_n (hK11 _ _ ?_)
    clear hK11
    refine cond_t l12_13 ?_
    refine wp_seq_k (fun K14 hK14 => ?_)
    refine region_in ?_
    refine W_v rfl rfl (V_asg rfl rfl) ?_
    refine W_v rfl rfl (V_asg rfl rfl) ?_
    refine W_end ?_
    refine gen_Q (fun A15 hA15 => ?_)
    have hsz15 := szq hA15
    have hdf15 : A15.defers = [] := by rw [hA15]; simp only [df_put]; exact hdf13
    have l2_15 := lookE hA15 2 (es rfl (et rfl))
    have l3_15 := lookE hA15 3 (et rfl)
    clear hA15 hsz13 hdf13 l1_13 l4_13 l5_13 l12_13
    have hS16 : St w NoX [] w6 := hS6.sel [] (by decide) rfl
    refine then_n (hK14 _ _ ?_)
    clear hK14
    refine wp_ret ?_
    refine inb_ret ?_
    refine then_ret ?_
    refine ret_in (results_2 Try.results14 (rv_tmp l2_15) (rv_tmp l3_15)) hdf15 ?_
    -- leaf T
    have h : ckG (O.map ab) rs = (0, 7) := ckG_rng (by omega)
    rw [h]
    exact ⟨rfl, hS16.fin0⟩
  · skip
    refine W_v rfl (wanted_t rfl rfl (et rfl) (ez rfl)) (V_fa (off' := 1) rfl (e4 rfl (es rfl l1_9)) Try.underlying25 rfl (by decide +kernel) rfl) ?_
    refine W_r rfl (wanted_t rfl rfl (es rfl (et rfl)) (ez rfl)) (VR_ldC rfl (et rfl) (cell_box (v := rv) (hS6.obj 1 rfl hc2) rfl) Try.underlying23 rfl) ?_
    refine W_v rfl (wanted_t rfl rfl (e2 rfl (et rfl)) (ez rfl)) (V_lenS rfl (et rfl) (sl_SlN h_rv.at) Try.underlying23) ?_
    refine W_v rfl (wanted_t rfl rfl (e3 rfl (et rfl)) (ez rfl)) (V_gtr rfl (et rfl) rfl) ?_
    refine W_v rfl rfl (V_pickF rfl (e4 rfl (et rfl)) (et rfl)) ?_
    refine W_v rfl rfl (V_asg rfl (et rfl)) ?_
    refine W_end ?_
    refine gen_Q (fun A17 hA17 => ?_)
    have hsz17 := szq hA17
    have hdf17 : A17.defers = [] := by rw [hA17]; simp only [df_put]; exact hdf9
    have l1_17 := lookE hA17 1 (e10 rfl (es rfl l1_9))
    have l4_17 := lookE hA17 4 (e10 rfl (es rfl l4_9))
    have l5_17 := lookE hA17 5 (e10 rfl (es rfl l5_9))
    have l12_17 := lookE hA17 12 (et rfl)
    clear hA17 hsz9 hdf9 l1_9 l4_9 l5_9
    refine then_n (hK11 _ _ ?_)
    clear hK11
    refine cond_dec l12_17 (fun c18 => ?_) (fun c18 => ?_)
    · skip
      refine wp_seq_k (fun K19 hK19 => ?_)
      refine region_in ?_
      refine W_v rfl rfl (V_asg rfl rfl) ?_
      refine W_v rfl rfl (V_asg rfl rfl) ?_
      refine W_end ?_
      refine gen_Q (fun A20 hA20 => ?_)
      have hsz20 := szq hA20
      have hdf20 : A20.defers = [] := by rw [hA20]; simp only [df_put]; exact hdf17
      have l2_20 := lookE hA20 2 (es rfl (et rfl))
      have l3_20 := lookE hA20 3 (et rfl)
      clear hA20 hsz17 hdf17 l1_17 l4_17 l5_17 l12_17
      have hS21 : St w NoX [] w6 := hS6.sel [] (by decide) rfl
      refine then_n (hK19 _ _ ?_)
      clear hK19
      refine wp_ret ?_
      refine inb_ret ?_
      refine then_ret ?_
      refine ret_in (results_2 Try.results14 (rv_tmp l2_20) (rv_tmp l3_20)) hdf20 ?_
      -- leaf FT
      have h : ckG (O.map ab) rs = (0, 7) := ckG_rng (by omega)
      rw [h]
      exact ⟨rfl, hS21.fin0⟩
    · skip
      refine wp_seq_k (fun K22 hK22 => ?_)
      refine region_in ?_
      refine W_r rfl rfl (VR_ldC rfl l4_17 (cell_box (v := .int .i64 ((O.length : Int))) (hS6.obj 0 rfl hc6) rfl) Try.underlying3 rfl) ?_
      refine W_v rfl rfl (V_gtr rfl (et rfl) rfl) ?_
      refine W_v rfl rfl (V_asg rfl (et rfl)) ?_
      refine W_end ?_
      refine gen_Q (fun A23 hA23 => ?_)
      have hsz23 := szq hA23
      have hdf23 : A23.defers = [] := by rw [hA23]; simp only [df_put]; exact hdf17
      have l1_23 := lookE hA23 1 (e2 rfl (es rfl l1_17))
      have l5_23 := lookE hA23 5 (e2 rfl (es rfl l5_17))
      have l23_23 := lookE hA23 23 (et rfl)
      clear hA23 hsz17 hdf17 l1_17 l4_17 l5_17 l12_17
      refine then_n (hK22 _ _ ?_)
      clear hK22
      refine cond_dec l23_23 (fun c24 => ?_) (fun c24 => ?_)
      · skip
        refine wp_seq_k (fun K25 hK25 => ?_)
        refine region_in ?_
        refine W_v rfl rfl (V_asg rfl rfl) ?_
        refine W_v rfl rfl (V_asg rfl rfl) ?_
        refine W_end ?_
        refine gen_Q (fun A26 hA26 => ?_)
        have hsz26 := szq hA26
        have hdf26 : A26.defers = [] := by rw [hA26]; simp only [df_put]; exact hdf23
        have l2_26 := lookE hA26 2 (es rfl (et rfl))
        have l3_26 := lookE hA26 3 (et rfl)
        clear hA26 hsz23 hdf23 l1_23 l5_23 l23_23
        have hS27 : St w NoX [] w6 := hS6.sel [] (by decide) rfl
        refine then_n (hK25 _ _ ?_)
        clear hK25
        refine wp_ret ?_
        refine inb_ret ?_
        refine then_ret ?_
        refine ret_in (results_2 Try.results14 (rv_tmp l2_26) (rv_tmp l3_26)) hdf26 ?_
        -- leaf FFT
        have h : ckG (O.map ab) rs = (0, 3) := ckG_long (by omega) (by rw [List.length_map]; omega)
        rw [h]
        exact ⟨rfl, hS27.fin0⟩
      · skip
        refine wp_skip ?_
        refine inb_n ?_
        refine then_n (hK10 _ _ ?_)
        clear hK10
        refine wp_seq_k (fun K28 hK28 => ?_)
        refine wp_seq_k (fun K29 hK29 => ?_)
        refine region_in ?_
        refine W_v rfl rfl (V_fa (off' := 0) rfl l1_23 Try.underlying25 rfl (by decide +kernel) rfl) ?_
        refine W_r rfl rfl (VR_ldC rfl (et rfl) (cell_box (v := ov) (hS6.obj 1 rfl hc2) rfl) Try.underlying22 rfl) ?_
        refine W_v rfl rfl (V_lenS rfl (et rfl) (sl_SlN h_ov.at) Try.underlying22) ?_
        refine W_v rfl rfl (V_mov rfl rfl) ?_
        refine W_end ?_
        refine gen_Q (fun A30 hA30 => ?_)
        have hsz30 := szq hA30
        have hdf30 : A30.defers = [] := by rw [hA30]; simp only [df_put]; exact hdf23
        have l1_30 := lookE hA30 1 (e3 rfl (es rfl l1_23))
        have l5_30 := lookE hA30 5 (e3 rfl (es rfl l5_23))
        have l27_30 := lookE hA30 27 (e2 rfl (et rfl))
        have l28_30 := lookE hA30 28 (es rfl (et rfl))
        have l29_30 := lookE hA30 29 (et rfl)
        clear hA30 hsz23 hdf23 l1_23 l5_23 l23_23
        refine then_n (hK29 _ _ ?_)
        clear hK29
        refine wp_block ?_
        -- loop 8
        refine loopX (fun mz A' w' => SzN A' 57 ∧ A'.defers = [] ∧ (∃ (k : Nat), (mz = O.length - k) ∧ (k ≤ O.length) ∧ (cgAt (O.map ab) k) ∧ (EV A' (.tmp 29) = .int .i64 (k : Int)) ∧ (EV A' (.tmp 1) = EV A30 (.tmp 1)) ∧ (EV A' (.tmp 5) = EV A30 (.tmp 5)) ∧ (EV A' (.tmp 27) = EV A30 (.tmp 27)) ∧ (EV A' (.tmp 28) = EV A30 (.tmp 28)) ∧ (St w NoX [bx g5 3 #[.int .i64 ((O.length : Int))], bx g2 25 #[ov, rv]] w'))) (O.length - 0) ⟨hsz30, hdf30, 0, rfl, (by omega), rfl, ((l29_30).trans (by first | rfl | (simp; done) | (congr 1; omega))), rfl, rfl, rfl, rfl, (by subst hc6 hc2; exact hS6)⟩ ?_
        clear hS6 hc6 hc2
        rintro n31 A31 w31 ⟨hsz31, hdf31, k, hm31, hk, hz, l29_31, u1_31, u5_31, u27_31, u28_31, hS31⟩
        have l1_31 := u1_31.trans l1_30
        have l5_31 := u5_31.trans l5_30
        have l27_31 := u27_31.trans l27_30
        have l28_31 := u28_31.trans l28_30
        obtain ⟨c6_31, c2_31, hc6_31, hc2_31, hS31⟩ := gen2 hS31
        refine wp_seq_k (fun K32 hK32 => ?_)
        refine region_in ?_
        refine W_v rfl rfl (V_lss rfl l29_31 l28_31) ?_
        refine W_end ?_
        refine gen_Q (fun A33 hA33 => ?_)
        have hsz33 := szq hA33
        have hdf33 : A33.defers = [] := by rw [hA33]; simp only [df_put]; exact hdf31
        have l1_33 := lookE hA33 1 (es rfl l1_31)
        have l5_33 := lookE hA33 5 (es rfl l5_31)
        have l27_33 := lookE hA33 27 (es rfl l27_31)
        have l28_33 := lookE hA33 28 (es rfl l28_31)
        have l29_33 := lookE hA33 29 (es rfl l29_31)
        have l30_33 := lookE hA33 30 (et rfl)
        clear hA33 hsz31 hdf31 l29_31 l1_31 l5_31 l27_31 l28_31
        refine then_n (hK32 _ _ ?_)
        clear hK32
        refine wp_seq_k (fun K34 hK34 => ?_)
        refine cond_dec l30_33 (fun c35 => ?_) (fun c35 => ?_)
        · skip
          refine wp_skip ?_
          refine then_n (hK34 _ _ ?_)
          clear hK34
          refine wp_seq_k (fun K36 hK36 => ?_)
          refine wp_block ?_
          refine wp_seq_k (fun K37 hK37 => ?_)
          refine region_in ?_
          refine W_v rfl rfl (V_mov rfl l29_33) ?_
          have k38 : k < O.length := by first | omega | (simp only [List.length_cons, List.length_nil]; omega) | (simp only [List.length_set]; omega)
          obtain ⟨y38, hy38⟩ := get_some (xs := O) (k := k) k38
          have hm38 : (O.map ab)[k]? = some (ab y38) := mapE hy38
          obtain ⟨B38, O38, C38, hv38⟩ := (SlN.blk (sl_SlN h_ov.at) (by first | omega | (simp only [List.length_cons, List.length_nil]; omega) | (simp only [List.length_set]; omega)))
          refine W_v rfl rfl (V_ixS (off := O38 + k * 2) 2 (k) rfl (es rfl l27_33) (es rfl l29_33) hv38 (by omega) k38 Try.underlying22 (by kernel_rfl) rfl) ?_
          have fn39 : Ro w NoX (il .i64 y38.1.1 y38.1.2) := nst_ro1 n_ov hy38
          have bfn39 := SlN.le (sl_SlN (hS31.ro fn39))
          have fn40 : Ro w NoX (il .u64 y38.2.1 y38.2.2) := nst_ro2 n_ov hy38
          have bfn40 := SlN.le (sl_SlN (hS31.ro fn40))
          refine W_r rfl rfl (VR_ldR (ys := obC y38) rfl (et rfl) (SlN.row obC_len (sl_SlN (hS31.ro h_ov)) hv38 hy38 rfl) Try.underlying40 rfl (by kernel_rfl)) ?_
          refine W_allocS (z := .agg #[.slice none 0 0, .slice none 0 0]) (zs := #[.slice none 0 0, .slice none 0 0]) hS31 rfl rfl rfl (by kernel_rfl) (by rfl) (fun g41 w41 c41 hc41 hS41 => ?_)
          replace hS41 : St w NoX [c41, c6_31, c2_31] w41 := hS41
          refine W_v rfl rfl (V_asg rfl (e3 rfl (et rfl))) ?_
          refine W_stAS 0 hS41 rfl hc41 rfl rfl rfl (es rfl (et rfl)) (e2 rfl (et rfl)) (by simp only [List.all_toArray, List.all_cons, List.all_nil, obC, SlN_one (sl_SlN fn39.at), SlN_one (sl_SlN fn40.at)] <;> rfl) (by rfl) (by kernel_rfl) (fun w42 c42 hc42 hS42 => ?_)
          replace hS42 : St w NoX [c42, c6_31, c2_31] w42 := hS42
          refine W_end ?_
          refine gen_Q (fun A43 hA43 => ?_)
          have hsz43 := szq hA43
          have hdf43 : A43.defers = [] := by rw [hA43]; simp only [df_put]; exact hdf33
          have l1_43 := lookE hA43 1 (e4 rfl (es rfl l1_33))
          have l5_43 := lookE hA43 5 (e4 rfl (es rfl l5_33))
          have l6_43 := lookE hA43 6 (et rfl)
          have l7_43 := lookE hA43 7 (es rfl (et rfl))
          have l27_43 := lookE hA43 27 (e4 rfl (es rfl l27_33))
          have l28_43 := lookE hA43 28 (e4 rfl (es rfl l28_33))
          have l29_43 := lookE hA43 29 (e4 rfl (es rfl l29_33))
          clear hA43 hsz33 hdf33 l1_33 l5_33 l27_33 l28_33 l29_33 l30_33
          refine then_n (hK37 _ _ ?_)
          clear hK37
          refine wp_block ?_
          refine wp_seq_k (fun K44 hK44 => ?_)
          refine region_in ?_
          refine W_v rfl rfl (V_fa (off' := 0) rfl l7_43 Try.underlying40 rfl (by decide +kernel) rfl) ?_
          refine W_r rfl rfl (VR_ldC rfl (et rfl) (cell_box (v := y38.1.1) (hS42.obj 0 rfl hc42) rfl) Try.underlying23 rfl) ?_
          refine W_v rfl rfl (V_lenS rfl (et rfl) (sl_SlN fn39.at) Try.underlying23) ?_
          refine W_v rfl rfl (V_fa (off' := 1) rfl (e2 rfl (es rfl l7_43)) Try.underlying40 rfl (by decide +kernel) rfl) ?_
          refine W_r rfl rfl (VR_ldC rfl (et rfl) (cell_box (v := y38.2.1) (hS42.obj 0 rfl hc42) rfl) Try.underlying38 rfl) ?_
          refine W_v rfl rfl (V_lenS rfl (et rfl) (sl_SlN fn40.at) Try.underlying38) ?_
          refine W_v rfl rfl (V_addw rfl (e3 rfl (et rfl)) (et rfl)) ?_
          refine W_v rfl rfl (V_gtr rfl (et rfl) rfl) ?_
          refine W_v rfl rfl (V_asg rfl (et rfl)) ?_
          refine W_end ?_
          refine gen_Q (fun A45 hA45 => ?_)
          have hsz45 := szq hA45
          have hdf45 : A45.defers = [] := by rw [hA45]; simp only [df_put]; exact hdf43
          have l1_45 := lookE hA45 1 (e8 rfl (es rfl l1_43))
          have l5_45 := lookE hA45 5 (e8 rfl (es rfl l5_43))
          have l6_45 := lookE hA45 6 (e8 rfl (es rfl l6_43))
          have l7_45 := lookE hA45 7 (e8 rfl (es rfl l7_43))
          have l27_45 := lookE hA45 27 (e8 rfl (es rfl l27_43))
          have l28_45 := lookE hA45 28 (e8 rfl (es rfl l28_43))
          have l29_45 := lookE hA45 29 (e8 rfl (es rfl l29_43))
          have l34_45 := lookE hA45 34 (et rfl)
          clear hA45 hsz43 hdf43 l1_43 l5_43 l6_43 l7_43 l27_43 l28_43 l29_43
          refine then_n (hK44 _ _ ?_)
          clear hK44
          refine cond_dec l34_45 (fun c46 => ?_) (fun c46 => ?_)
          · skip
            refine wp_seq_k (fun K47 hK47 => ?_)
            refine region_in ?_
            refine W_v rfl rfl (V_mov rfl l6_45) ?_
            refine W_v rfl rfl (V_add rfl (et rfl) rfl (by omega) (by omega)) ?_
            refine W_v rfl rfl (V_asg rfl (et rfl)) ?_
            refine W_v rfl rfl (V_asg rfl rfl) ?_
            refine W_end ?_
            refine gen_Q (fun A48 hA48 => ?_)
            have hsz48 := szq hA48
            have hdf48 : A48.defers = [] := by rw [hA48]; simp only [df_put]; exact hdf45
            have l2_48 := lookE hA48 2 (es rfl (et rfl))
            have l3_48 := lookE hA48 3 (et rfl)
            clear hA48 hsz45 hdf45 l1_45 l5_45 l6_45 l7_45 l27_45 l28_45 l29_45 l34_45
            have hS49 : St w NoX [] w42 := hS42.sel [] (by decide) rfl
            refine then_n (hK47 _ _ ?_)
            clear hK47
            refine wp_ret ?_
            refine inb_ret ?_
            refine inb_ret ?_
            refine then_ret ?_
            refine then_ret ?_
            refine inb_ret ?_
            refine then_ret ?_
            refine ret_in (results_2 Try.results14 (rv_tmp l2_48) (rv_tmp l3_48)) hdf48 ?_
            -- leaf FFFTT
            have h : ckG (O.map ab) rs = (((k : Int) + 1), 3) := (ckG_obj (by omega) (by rw [List.length_map]; omega) hz hm38).1 c46
            rw [h]
            exact ⟨rfl, hS49.fin0⟩
          · skip
            refine wp_seq_k (fun K50 hK50 => ?_)
            refine region_in ?_
            refine W_v rfl rfl (V_fa (off' := 0) rfl l7_45 Try.underlying40 rfl (by decide +kernel) rfl) ?_
            refine W_r rfl rfl (VR_ldC rfl (et rfl) (cell_box (v := y38.1.1) (hS42.obj 0 rfl hc42) rfl) Try.underlying23 rfl) ?_
            refine W_v rfl rfl (V_mov rfl (es rfl (es rfl l5_45))) ?_
            refine W_call rfl rfl rfl Try.func45 (by kernel_rfl) rfl (args2 (es rfl (et rfl)) (et rfl)) (kcf_c (n := (O.length : Int)) (gn := g5) (hS42.roC fn39) (hS42.chC 1 rfl hc6_31) ) ?_
            rintro _ w51 ⟨rfl, hP51⟩
            refine ⟨_, rfl, ?_⟩
            have hS51 := hS42.join hP51
            replace hS51 : St w NoX [c42, c6_31, c2_31] w51 := hS51
            refine W_v rfl rfl (V_asg rfl (et rfl)) ?_
            refine W_end ?_
            refine gen_Q (fun A52 hA52 => ?_)
            have hsz52 := szq hA52
            have hdf52 : A52.defers = [] := by rw [hA52]; simp only [df_put]; exact hdf45
            have l1_52 := lookE hA52 1 (e4 rfl (es rfl l1_45))
            have l5_52 := lookE hA52 5 (e4 rfl (es rfl l5_45))
            have l6_52 := lookE hA52 6 (e4 rfl (es rfl l6_45))
            have l27_52 := lookE hA52 27 (e4 rfl (es rfl l27_45))
            have l28_52 := lookE hA52 28 (e4 rfl (es rfl l28_45))
            have l29_52 := lookE hA52 29 (e4 rfl (es rfl l29_45))
            have l45_52 := lookE hA52 45 (et rfl)
            clear hA52 hsz45 hdf45 l1_45 l5_45 l6_45 l7_45 l27_45 l28_45 l29_45 l34_45
            have hS53 : St w NoX [c6_31, c2_31] w51 := hS51.sel [1, 2] (by decide) rfl
            refine then_n (hK50 _ _ ?_)
            clear hK50
            refine cond_dec l45_52 (fun c54 => ?_) (fun c54 => ?_)
            · skip
              refine wp_seq_k (fun K55 hK55 => ?_)
              refine region_in ?_
              refine W_v rfl rfl (V_mov rfl l6_52) ?_
              refine W_v rfl rfl (V_add rfl (et rfl) rfl (by omega) (by omega)) ?_
              refine W_v rfl rfl (V_asg rfl (et rfl)) ?_
              refine W_v rfl rfl (V_asg rfl rfl) ?_
              refine W_end ?_
              refine gen_Q (fun A56 hA56 => ?_)
              have hsz56 := szq hA56
              have hdf56 : A56.defers = [] := by rw [hA56]; simp only [df_put]; exact hdf52
              have l2_56 := lookE hA56 2 (es rfl (et rfl))
              have l3_56 := lookE hA56 3 (et rfl)
              clear hA56 hsz52 hdf52 l1_52 l5_52 l6_52 l27_52 l28_52 l29_52 l45_52
              have hS57 : St w NoX [] w51 := hS53.sel [] (by decide) rfl
              refine then_n (hK55 _ _ ?_)
              clear hK55
              refine wp_ret ?_
              refine inb_ret ?_
              refine inb_ret ?_
              refine then_ret ?_
              refine then_ret ?_
              refine inb_ret ?_
              refine then_ret ?_
              refine ret_in (results_2 Try.results14 (rv_tmp l2_56) (rv_tmp l3_56)) hdf56 ?_
              -- leaf FFFTFT
              have h : ckG (O.map ab) rs = (((k : Int) + 1), 6) := (ckG_obj (by omega) (by rw [List.length_map]; omega) hz hm38).2 c46 (any_idx (by simp) c54)
              rw [h]
              exact ⟨rfl, hS57.fin0⟩
            · skip
              refine wp_skip ?_
              refine inb_n ?_
              refine inb_n ?_
              refine then_n (hK36 _ _ ?_)
              clear hK36
              refine region_in ?_
              refine W_v rfl rfl (V_add rfl l29_52 rfl (by omega) (by omega)) ?_
              refine W_v rfl rfl (V_mov rfl (et rfl)) ?_
              refine W_end ?_
              refine gen_Q (fun A58 hA58 => ?_)
              have hsz58 := szq hA58
              have hdf58 : A58.defers = [] := by rw [hA58]; simp only [df_put]; exact hdf52
              have l1_58 := lookE hA58 1 (es rfl (es rfl l1_52))
              have l5_58 := lookE hA58 5 (es rfl (es rfl l5_52))
              have l27_58 := lookE hA58 27 (es rfl (es rfl l27_52))
              have l28_58 := lookE hA58 28 (es rfl (es rfl l28_52))
              have l29_58 := lookE hA58 29 (et rfl)
              clear hA58 hsz52 hdf52 l1_52 l5_52 l6_52 l27_52 l28_52 l29_52 l45_52
              refine then_n ⟨O.length - (k + 1), by simp only [hm31]; omega, hsz58, hdf58, (k + 1), rfl, (by omega), (cg_step hz hm38 c46 (no_idx (by simp) c54)), ((l29_58).trans (by first | rfl | (simp; done) | (congr 1; omega))), ((l1_58).trans l1_30.symm), ((l5_58).trans l5_30.symm), ((l27_58).trans l27_30.symm), ((l28_58).trans l28_30.symm), (by subst hc6_31 hc2_31; exact hS53)⟩
        · skip
          refine wp_exit ?_
          refine then_exit ?_
          refine then_exit ?_
          refine inb_hit ?_
          refine then_n (hK28 _ _ ?_)
          clear hK28
          refine wp_seq_k (fun K59 hK59 => ?_)
          refine wp_seq_k (fun K60 hK60 => ?_)
          refine region_in ?_
          refine W_v rfl rfl (V_fa (off' := 1) rfl l1_33 Try.underlying25 rfl (by decide +kernel) rfl) ?_
          refine W_r rfl rfl (VR_ldC rfl (et rfl) (cell_box (v := rv) (hS31.obj 1 rfl hc2_31) rfl) Try.underlying23 rfl) ?_
          refine W_v rfl rfl (V_mov rfl (es rfl (es rfl l5_33))) ?_
          refine W_call rfl rfl rfl Try.func45 (by kernel_rfl) rfl (args2 (es rfl (et rfl)) (et rfl)) (kcf_c (n := (O.length : Int)) (gn := g5) (hS31.roC h_rv) (hS31.chC 0 rfl hc6_31) ) ?_
          rintro _ w61 ⟨rfl, hP61⟩
          refine ⟨_, rfl, ?_⟩
          have hS61 := hS31.join hP61
          replace hS61 : St w NoX [c6_31, c2_31] w61 := hS61
          refine W_end ?_
          refine gen_Q (fun A62 hA62 => ?_)
          have hsz62 := szq hA62
          have hdf62 : A62.defers = [] := by rw [hA62]; simp only [df_put]; exact hdf33
          have l56_62 := lookE hA62 56 (et rfl)
          clear hA62 hsz33 hdf33 l1_33 l5_33 l27_33 l28_33 l29_33 l30_33
          have hS63 : St w NoX [] w61 := hS61.sel [] (by decide) rfl
          refine then_n (hK60 _ _ ?_)
          clear hK60
          refine cond_dec l56_62 (fun c64 => ?_) (fun c64 => ?_)
          · skip
            refine wp_seq_k (fun K65 hK65 => ?_)
            refine region_in ?_
            refine W_v rfl rfl (V_asg rfl rfl) ?_
            refine W_v rfl rfl (V_asg rfl rfl) ?_
            refine W_end ?_
            refine gen_Q (fun A66 hA66 => ?_)
            have hsz66 := szq hA66
            have hdf66 : A66.defers = [] := by rw [hA66]; simp only [df_put]; exact hdf62
            have l2_66 := lookE hA66 2 (es rfl (et rfl))
            have l3_66 := lookE hA66 3 (et rfl)
            clear hA66 hsz62 hdf62 l56_62
            refine then_n (hK65 _ _ ?_)
            clear hK65
            refine wp_ret ?_
            refine then_ret ?_
            refine ret_in (results_2 Try.results14 (rv_tmp l2_66) (rv_tmp l3_66)) hdf66 ?_
            -- leaf FFFFT
            have h : ckG (O.map ab) rs = (0, 6) := (ckG_end (by omega) (by rw [List.length_map]; omega) hz (by rw [List.length_map]; omega)).trans (if_pos (any_idx (by simp) c64))
            rw [h]
            exact ⟨rfl, hS63.fin0⟩
          · skip
            refine wp_skip ?_
            refine then_n (hK59 _ _ ?_)
            clear hK59
            refine wp_seq_k (fun K67 hK67 => ?_)
            refine region_in ?_
            refine W_v rfl rfl (V_asg rfl rfl) ?_
            refine W_v rfl rfl (V_asg rfl rfl) ?_
            refine W_end ?_
            refine gen_Q (fun A68 hA68 => ?_)
            have hsz68 := szq hA68
            have hdf68 : A68.defers = [] := by rw [hA68]; simp only [df_put]; exact hdf62
            have l2_68 := lookE hA68 2 (es rfl (et rfl))
            have l3_68 := lookE hA68 3 (et rfl)
            clear hA68 hsz62 hdf62 l56_62
            refine then_n (hK67 _ _ ?_)
            clear hK67
            refine wp_ret ?_
            refine ret_in (results_2 Try.results14 (rv_tmp l2_68) (rv_tmp l3_68)) hdf68 ?_
            -- leaf FFFFF
            have h : ckG (O.map ab) rs = (0, 0) := (ckG_end (by omega) (by rw [List.length_map]; omega) hz (by rw [List.length_map]; omega)).trans (if_neg (fun q => c64 (idx_any (by simp) q)))
            rw [h]
            exact ⟨rfl, hS63.fin0⟩

set_option maxHeartbeats 4000000 in
theorem kcd_c {ov : Value} {O : List Ob} {rv : Value} {rs : List Int} {nv : Value} {ns : List Int} {w : World} (h_ov : Ro w NoX (rl 2 obC ov O)) (n_ov : Ro w NoX (nst O)) (h_rv : Ro w NoX (il .i64 rv rs)) (h_nv : Ro w NoX (il .i64 nv ns))  :
    Calls Try.prog 47 #[.agg #[ov, rv], nv] w fun e w' => e = .returned (.int .i64 (ckd (O.map ab) rs ns)) ∧ St w NoX [] w' := by
  refine calls_in 33 Try.func47 rfl rfl (by simp) (fun A0 hsz0 hdf0 hargs => ?_)
  have l0_0 := hargs 0 (.agg #[ov, rv]) rfl
  have l1_0 := hargs 1 (nv) rfl
  clear hargs; replace hsz0 : SzN A0 33 := ⟨hsz0⟩
  have hS := St.nil w
  have bh_ov := SlN.le (sl_SlN h_ov.at)
  have bh_rv := SlN.le (sl_SlN h_rv.at)
  have bh_nv := SlN.le (sl_SlN h_nv.at)
  refine wp_seq_k (fun K1 hK1 => ?_)
  refine region_in ?_
  refine W_boxS (zs := #[ov, rv]) hS rfl rfl rfl l0_0 (by rfl) (fun g2 w2 c2 hc2 hS2 => ?_)
  replace hS2 : St w NoX [c2] w2 := hS2
  refine W_v rfl rfl (V_asg rfl rfl) ?_
  refine W_end ?_
  refine gen_Q (fun A3 hA3 => ?_)
  have hsz3 := szq hA3
  have hdf3 : A3.defers = [] := by rw [hA3]; simp only [df_put]; exact hdf0
  have l1_3 := lookE hA3 1 (es rfl (es rfl l1_0))
  have l2_3 := lookE hA3 2 (es rfl (et rfl))
  clear hA3 hsz0 hdf0 l0_0 l1_0
  refine then_n (hK1 _ _ ?_)
  clear hK1
  refine wp_seq_k (fun K4 hK4 => ?_)
  refine wp_seq_k (fun K5 hK5 => ?_)
  refine region_in ?_
  refine W_r rfl rfl (VR_ldA rfl l2_3 (hS2.obj 0 rfl hc2) Try.underlying25 rfl (by kernel_rfl)) ?_
  refine W_call rfl rfl rfl Try.func14 (by kernel_rfl) rfl (args1 (et rfl)) (kCk_c (hS2.roC h_ov) (hS2.roC n_ov) (hS2.roC h_rv) ) ?_
  rintro _ w6 ⟨rfl, hP6⟩
  refine ⟨_, rfl, ?_⟩
  have hS6 := hS2.join hP6
  replace hS6 : St w NoX [c2] w6 := hS6
  refine W_v rfl rfl (V_mov rfl (et rfl)) ?_
  refine W_v rfl rfl (V_ext (v := .int .i64 ((ckG (O.map ab) rs).1)) rfl (et rfl) rfl) ?_
  refine W_v rfl rfl (V_ext (v := .int .i64 ((ckG (O.map ab) rs).2)) rfl (es rfl (et rfl)) rfl) ?_
  refine W_v rfl rfl (V_asg rfl (es rfl (et rfl))) ?_
  refine W_v rfl rfl (V_asg rfl (es rfl (et rfl))) ?_
  refine W_end ?_
  refine gen_Q (fun A7 hA7 => ?_)
  have hsz7 := szq hA7
  have hdf7 : A7.defers = [] := by rw [hA7]; simp only [df_put]; exact hdf3
  have l1_7 := lookE hA7 1 (e6 rfl (es rfl l1_3))
  have l2_7 := lookE hA7 2 (e6 rfl (es rfl l2_3))
  have l6_7 := lookE hA7 6 (et rfl)
  clear hA7 hsz3 hdf3 l1_3 l2_3
  refine then_n (hK5 _ _ ?_)
  clear hK5
  refine wp_seq_k (fun K8 hK8 => ?_)
  refine region_in ?_
  refine W_v rfl rfl (V_mov rfl l6_7) ?_
  refine W_v rfl rfl (V_neq rfl (et rfl) rfl) ?_
  refine W_end ?_
  refine gen_Q (fun A9 hA9 => ?_)
  have hsz9 := szq hA9
  have hdf9 : A9.defers = [] := by rw [hA9]; simp only [df_put]; exact hdf7
  have l1_9 := lookE hA9 1 (es rfl (es rfl l1_7))
  have l2_9 := lookE hA9 2 (es rfl (es rfl l2_7))
  have l6_9 := lookE hA9 6 (es rfl (es rfl l6_7))
  have l15_9 := lookE hA9 15 (et rfl)
  clear hA9 hsz7 hdf7 l1_7 l2_7 l6_7
  refine then_n (hK8 _ _ ?_)
  clear hK8
  refine cond_dec l15_9 (fun c10 => ?_) (fun c10 => ?_)
  · skip
    refine wp_seq_k (fun K11 hK11 => ?_)
    refine region_in ?_
    refine W_v rfl rfl (V_mov rfl l6_9) ?_
    refine W_v rfl rfl (V_asg rfl (et rfl)) ?_
    refine W_end ?_
    refine gen_Q (fun A12 hA12 => ?_)
    have hsz12 := szq hA12
    have hdf12 : A12.defers = [] := by rw [hA12]; simp only [df_put]; exact hdf9
    have l4_12 := lookE hA12 4 (et rfl)
    clear hA12 hsz9 hdf9 l1_9 l2_9 l6_9 l15_9
    have hS13 : St w NoX [] w6 := hS6.sel [] (by decide) rfl
    refine then_n (hK11 _ _ ?_)
    clear hK11
    refine wp_ret ?_
    refine then_ret ?_
    refine ret_in (results_1 Try.results47 (rv_tmp l4_12)) hdf12 ?_
    -- leaf T
    have h : ckd (O.map ab) rs ns = (ckG (O.map ab) rs).2 := ckd_ck (by omega)
    rw [h]
    exact ⟨rfl, hS13.fin0⟩
  · skip
    refine wp_skip ?_
    refine then_n (hK4 _ _ ?_)
    clear hK4
    refine wp_seq_k (fun K14 hK14 => ?_)
    refine wp_seq_k (fun K15 hK15 => ?_)
    refine region_in ?_
    refine W_v rfl rfl (V_mov rfl l1_9) ?_
    refine W_v rfl rfl (V_lenS rfl (et rfl) (sl_SlN h_nv.at) Try.underlying23) ?_
    refine W_v rfl rfl (V_mov rfl rfl) ?_
    refine W_end ?_
    refine gen_Q (fun A16 hA16 => ?_)
    have hsz16 := szq hA16
    have hdf16 : A16.defers = [] := by rw [hA16]; simp only [df_put]; exact hdf9
    have l2_16 := lookE hA16 2 (e2 rfl (es rfl l2_9))
    have l17_16 := lookE hA16 17 (e2 rfl (et rfl))
    have l18_16 := lookE hA16 18 (es rfl (et rfl))
    have l19_16 := lookE hA16 19 (et rfl)
    clear hA16 hsz9 hdf9 l1_9 l2_9 l6_9 l15_9
    refine then_n (hK15 _ _ ?_)
    clear hK15
    refine wp_block ?_
    -- loop 5
    refine loopX (fun mz A' w' => SzN A' 33 ∧ A'.defers = [] ∧ (∃ (j : Nat), (mz = ns.length - j) ∧ (j ≤ ns.length) ∧ (∀ i, i < j → ∀ x, ns[i]? = some x → 0 ≤ x ∧ x < (rs.length : Int)) ∧ (EV A' (.tmp 19) = .int .i64 (j : Int)) ∧ (EV A' (.tmp 2) = EV A16 (.tmp 2)) ∧ (EV A' (.tmp 17) = EV A16 (.tmp 17)) ∧ (EV A' (.tmp 18) = EV A16 (.tmp 18)) ∧ (St w NoX [bx g2 25 #[ov, rv]] w'))) (ns.length - 0) ⟨hsz16, hdf16, 0, rfl, (by omega), (fun i hi => by omega), ((l19_16).trans (by first | rfl | (simp; done) | (congr 1; omega))), rfl, rfl, rfl, (by subst hc2; exact hS6)⟩ ?_
    clear hS6 hc2
    rintro n17 A17 w17 ⟨hsz17, hdf17, j, hm17, hjl, hj, l19_17, u2_17, u17_17, u18_17, hS17⟩
    have l2_17 := u2_17.trans l2_16
    have l17_17 := u17_17.trans l17_16
    have l18_17 := u18_17.trans l18_16
    obtain ⟨c2_17, hc2_17, hS17⟩ := gen1 hS17
    refine wp_seq_k (fun K18 hK18 => ?_)
    refine region_in ?_
    refine W_v rfl rfl (V_lss rfl l19_17 l18_17) ?_
    refine W_end ?_
    refine gen_Q (fun A19 hA19 => ?_)
    have hsz19 := szq hA19
    have hdf19 : A19.defers = [] := by rw [hA19]; simp only [df_put]; exact hdf17
    have l2_19 := lookE hA19 2 (es rfl l2_17)
    have l17_19 := lookE hA19 17 (es rfl l17_17)
    have l18_19 := lookE hA19 18 (es rfl l18_17)
    have l19_19 := lookE hA19 19 (es rfl l19_17)
    have l20_19 := lookE hA19 20 (et rfl)
    clear hA19 hsz17 hdf17 l19_17 l2_17 l17_17 l18_17
    refine then_n (hK18 _ _ ?_)
    clear hK18
    refine wp_seq_k (fun K20 hK20 => ?_)
    refine cond_dec l20_19 (fun c21 => ?_) (fun c21 => ?_)
    · skip
      refine wp_skip ?_
      refine then_n (hK20 _ _ ?_)
      clear hK20
      refine wp_seq_k (fun K22 hK22 => ?_)
      refine wp_block ?_
      refine wp_seq_k (fun K23 hK23 => ?_)
      refine region_in ?_
      have k24 : j < ns.length := by first | omega | (simp only [List.length_cons, List.length_nil]; omega) | (simp only [List.length_set]; omega)
      obtain ⟨y24, hy24⟩ := get_some (xs := ns) (k := j) k24
      obtain ⟨B24, O24, C24, hv24⟩ := (SlN.blk (sl_SlN h_nv.at) (by first | omega | (simp only [List.length_cons, List.length_nil]; omega) | (simp only [List.length_set]; omega)))
      refine W_v rfl rfl (V_ixS (off := O24 + j) 1 (j) rfl l17_19 l19_19 hv24 (by omega) k24 Try.underlying23 (by kernel_rfl) (congrArg _ (Nat.mul_one _))) ?_
      refine W_r rfl rfl (VR_ldC rfl (et rfl) ((sl_SlN (hS17.ro h_nv)).cell hv24 (map_get hy24)) Try.underlying3 rfl) ?_
      refine W_v rfl rfl (V_asg rfl (et rfl)) ?_
      refine W_end ?_
      refine gen_Q (fun A25 hA25 => ?_)
      have hsz25 := szq hA25
      have hdf25 : A25.defers = [] := by rw [hA25]; simp only [df_put]; exact hdf19
      have l2_25 := lookE hA25 2 (e2 rfl (es rfl l2_19))
      have l8_25 := lookE hA25 8 (et rfl)
      have l17_25 := lookE hA25 17 (e2 rfl (es rfl l17_19))
      have l18_25 := lookE hA25 18 (e2 rfl (es rfl l18_19))
      have l19_25 := lookE hA25 19 (e2 rfl (es rfl l19_19))
      clear hA25 hsz19 hdf19 l2_19 l17_19 l18_19 l19_19 l20_19
      refine then_n (hK23 _ _ ?_)
      clear hK23
      refine wp_seq_k (fun K26 hK26 => ?_)
      refine region_in ?_
      refine W_v rfl rfl (V_mov rfl l8_25) ?_
      refine W_v rfl rfl (V_lss rfl (et rfl) rfl) ?_
      refine W_split rfl rfl (V_mov rfl (et rfl)) (fun c27 => ?_) (fun c27 => ?_)
      · skip
        refine W_off rfl (wanted_f rfl rfl (et rfl) (ez rfl) rfl) ?_
        refine W_off rfl (wanted_f rfl rfl (es rfl (et rfl)) (ez rfl) rfl) ?_
        refine W_off rfl (wanted_f rfl rfl (e2 rfl (et rfl)) (ez rfl) rfl) ?_
        refine W_off rfl (wanted_f rfl rfl (e3 rfl (et rfl)) (ez rfl) rfl) ?_
        refine W_off rfl (wanted_f rfl rfl (e4 rfl (et rfl)) (ez rfl) rfl) ?_
        refine W_v rfl rfl (V_pickT rfl (e5 rfl (et rfl)) rfl) ?_
        refine W_end ?_
        refine gen_Q (fun A28 hA28 => ?_)
        have hsz28 := szq hA28
        have hdf28 : A28.defers = [] := by rw [hA28]; simp only [df_put]; exact hdf25
        have l2_28 := lookE hA28 2 (e8 rfl (es rfl l2_25))
        have l17_28 := lookE hA28 17 (e8 rfl (es rfl l17_25))
        have l18_28 := lookE hA28 18 (e8 rfl (es rfl l18_25))
        have l19_28 := lookE hA28 19 (e8 rfl (es rfl l19_25))
        have l26_28 := lookE hA28 26 (e5 rfl (et rfl))
        have l27_28 := lookE hA28 27 (e4 rfl (et rfl))
        have l28_28 := lookE hA28 28 (e3 rfl (et rfl))
        have l29_28 := lookE hA28 29 (e2 rfl (et rfl))
        have l30_28 := lookE hA28 30 (es rfl (et rfl))
        have l31_28 := lookE hA28 31 (et rfl)
        clear hA28 hsz25 hdf25 l2_25 l8_25 l17_25 l18_25 l19_25
        refine then_n (hK26 _ _ ?_)
        clear hK26
        refine cond_t l31_28 ?_
        refine wp_seq_k (fun K29 hK29 => ?_)
        refine region_in ?_
        refine W_v rfl rfl (V_asg rfl rfl) ?_
        refine W_end ?_
        refine gen_Q (fun A30 hA30 => ?_)
        have hsz30 := szq hA30
        have hdf30 : A30.defers = [] := by rw [hA30]; simp only [df_put]; exact hdf28
        have l4_30 := lookE hA30 4 (et rfl)
        clear hA30 hsz28 hdf28 l2_28 l17_28 l18_28 l19_28 l26_28 l27_28 l28_28 l29_28 l30_28 l31_28
        have hS31 : St w NoX [] w17 := hS17.sel [] (by decide) rfl
        refine then_n (hK29 _ _ ?_)
        clear hK29
        refine wp_ret ?_
        refine inb_ret ?_
        refine then_ret ?_
        refine then_ret ?_
        refine inb_ret ?_
        refine then_ret ?_
        refine ret_in (results_1 Try.results47 (rv_tmp l4_30)) hdf30 ?_
        -- leaf FTT
        have h : ckd (O.map ab) rs ns = 10 := ckd_bad (by omega) hy24 (by omega)
        rw [h]
        exact ⟨rfl, hS31.fin0⟩
      · skip
        refine W_v rfl (wanted_t rfl rfl (et rfl) (ez rfl)) (V_mov rfl (e2 rfl (es rfl l8_25))) ?_
        refine W_v rfl (wanted_t rfl rfl (es rfl (et rfl)) (ez rfl)) (V_fa (off' := 1) rfl (e3 rfl (es rfl l2_25)) Try.underlying25 rfl (by decide +kernel) rfl) ?_
        refine W_r rfl (wanted_t rfl rfl (e2 rfl (et rfl)) (ez rfl)) (VR_ldC rfl (et rfl) (cell_box (v := rv) (hS17.obj 0 rfl hc2_17) rfl) Try.underlying23 rfl) ?_
        refine W_v rfl (wanted_t rfl rfl (e3 rfl (et rfl)) (ez rfl)) (V_lenS rfl (et rfl) (sl_SlN h_rv.at) Try.underlying23) ?_
        refine W_v rfl (wanted_t rfl rfl (e4 rfl (et rfl)) (ez rfl)) (V_geq rfl (e3 rfl (et rfl)) (et rfl)) ?_
        refine W_v rfl rfl (V_pickF rfl (e5 rfl (et rfl)) (et rfl)) ?_
        refine W_end ?_
        refine gen_Q (fun A32 hA32 => ?_)
        have hsz32 := szq hA32
        have hdf32 : A32.defers = [] := by rw [hA32]; simp only [df_put]; exact hdf25
        have l2_32 := lookE hA32 2 (e8 rfl (es rfl l2_25))
        have l17_32 := lookE hA32 17 (e8 rfl (es rfl l17_25))
        have l18_32 := lookE hA32 18 (e8 rfl (es rfl l18_25))
        have l19_32 := lookE hA32 19 (e8 rfl (es rfl l19_25))
        have l26_32 := lookE hA32 26 (e5 rfl (et rfl))
        have l27_32 := lookE hA32 27 (e4 rfl (et rfl))
        have l28_32 := lookE hA32 28 (e3 rfl (et rfl))
        have l29_32 := lookE hA32 29 (e2 rfl (et rfl))
        have l30_32 := lookE hA32 30 (es rfl (et rfl))
        have l31_32 := lookE hA32 31 (et rfl)
        clear hA32 hsz25 hdf25 l2_25 l8_25 l17_25 l18_25 l19_25
        refine then_n (hK26 _ _ ?_)
        clear hK26
        refine cond_dec l31_32 (fun c33 => ?_) (fun c33 => ?_)
        · skip
          refine wp_seq_k (fun K34 hK34 => ?_)
          refine region_in ?_
          refine W_v rfl rfl (V_asg rfl rfl) ?_
          refine W_end ?_
          refine gen_Q (fun A35 hA35 => ?_)
          have hsz35 := szq hA35
          have hdf35 : A35.defers = [] := by rw [hA35]; simp only [df_put]; exact hdf32
          have l4_35 := lookE hA35 4 (et rfl)
          clear hA35 hsz32 hdf32 l2_32 l17_32 l18_32 l19_32 l26_32 l27_32 l28_32 l29_32 l30_32 l31_32
          have hS36 : St w NoX [] w17 := hS17.sel [] (by decide) rfl
          refine then_n (hK34 _ _ ?_)
          clear hK34
          refine wp_ret ?_
          refine inb_ret ?_
          refine then_ret ?_
          refine then_ret ?_
          refine inb_ret ?_
          refine then_ret ?_
          refine ret_in (results_1 Try.results47 (rv_tmp l4_35)) hdf35 ?_
          -- leaf FTFT
          have h : ckd (O.map ab) rs ns = 10 := ckd_bad (by omega) hy24 (by omega)
          rw [h]
          exact ⟨rfl, hS36.fin0⟩
        · skip
          refine wp_skip ?_
          refine inb_n ?_
          refine then_n (hK22 _ _ ?_)
          clear hK22
          refine region_in ?_
          refine W_v rfl rfl (V_add rfl l19_32 rfl (by omega) (by omega)) ?_
          refine W_v rfl rfl (V_mov rfl (et rfl)) ?_
          refine W_end ?_
          refine gen_Q (fun A37 hA37 => ?_)
          have hsz37 := szq hA37
          have hdf37 : A37.defers = [] := by rw [hA37]; simp only [df_put]; exact hdf32
          have l2_37 := lookE hA37 2 (es rfl (es rfl l2_32))
          have l17_37 := lookE hA37 17 (es rfl (es rfl l17_32))
          have l18_37 := lookE hA37 18 (es rfl (es rfl l18_32))
          have l19_37 := lookE hA37 19 (et rfl)
          have l26_37 := lookE hA37 26 (es rfl (es rfl l26_32))
          have l27_37 := lookE hA37 27 (es rfl (es rfl l27_32))
          have l28_37 := lookE hA37 28 (es rfl (es rfl l28_32))
          have l29_37 := lookE hA37 29 (es rfl (es rfl l29_32))
          have l30_37 := lookE hA37 30 (es rfl (es rfl l30_32))
          clear hA37 hsz32 hdf32 l2_32 l17_32 l18_32 l19_32 l26_32 l27_32 l28_32 l29_32 l30_32 l31_32
          refine then_n ⟨ns.length - (j + 1), by simp only [hm17]; omega, hsz37, hdf37, (j + 1), rfl, (by omega), (rg_step hj hy24 (by omega)), ((l19_37).trans (by first | rfl | (simp; done) | (congr 1; omega))), ((l2_37).trans l2_16.symm), ((l17_37).trans l17_16.symm), ((l18_37).trans l18_16.symm), (by subst hc2_17; exact hS17)⟩
    · skip
      refine wp_exit ?_
      refine then_exit ?_
      refine then_exit ?_
      refine inb_hit ?_
      refine then_n (hK14 _ _ ?_)
      clear hK14
      refine wp_seq_k (fun K38 hK38 => ?_)
      refine region_in ?_
      refine W_v rfl rfl (V_asg rfl rfl) ?_
      refine W_end ?_
      refine gen_Q (fun A39 hA39 => ?_)
      have hsz39 := szq hA39
      have hdf39 : A39.defers = [] := by rw [hA39]; simp only [df_put]; exact hdf19
      have l4_39 := lookE hA39 4 (et rfl)
      clear hA39 hsz19 hdf19 l2_19 l17_19 l18_19 l19_19 l20_19
      have hS40 : St w NoX [] w17 := hS17.sel [] (by decide) rfl
      refine then_n (hK38 _ _ ?_)
      clear hK38
      refine wp_ret ?_
      refine ret_in (results_1 Try.results47 (rv_tmp l4_39)) hdf39 ?_
      -- leaf FF
      have h : ckd (O.map ab) rs ns = 0 := ckd_ok (by omega) hj (by omega)
      rw [h]
      exact ⟨rfl, hS40.fin0⟩

end Go.Proofs.Ytdilbnmaihmgnaa