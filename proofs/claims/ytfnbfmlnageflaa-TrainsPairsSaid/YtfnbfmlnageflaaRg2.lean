import Derived.Test.YtfnbfmlnageflaaRg1
namespace Go.Proofs.Ytfnbfmlnageflaa
open Go.RowKit Go.Own

theorem find_n0 {lo yo : List Int} {c : Int} {i k : Nat} (hk : (if (i : Int) = 0 then lo else yo).length ≤ k) (h0 : 1 ≤ i → c ∉ lo) (hn : ∀ j, j < k → (if (i : Int) = 0 then lo else yo)[j]? ≠ some c) (_ : 0 ≤ i) : c ∉ lo := by
  by_cases hi : i = 0
  · subst hi; simp only [Int.natCast_zero, if_true] at hk hn; exact not_mem_of hk hn
  · exact h0 (by omega)
theorem find_n1 {lo yo : List Int} {c : Int} {i k : Nat} (_ : 1 ≤ i → c ∉ lo) (hn : ∀ j, j < k → (if (i : Int) = 0 then lo else yo)[j]? ≠ some c) (hk : (if (i : Int) = 0 then lo else yo).length ≤ k) (hi : 1 ≤ i) : c ∉ yo := by
  rw [if_neg (by omega)] at hk
  refine not_mem_of hk fun j hj => ?_
  have := hn j hj
  rwa [if_neg (by omega)] at this
theorem find_step {l : List Int} {c y : Int} {k : Nat} (hn : ∀ j, j < k → l[j]? ≠ some c) (hy : l[k]? = some y) (hne : ¬ y = c) : ∀ j, j < k + 1 → l[j]? ≠ some c := by
  intro j hj
  by_cases h : j = k
  · subst h; rw [hy]; simpa using hne
  · exact hn j (by omega)

set_option maxHeartbeats 4000000 in
theorem rFind_c {lv : Value} {lo : List Int} {yv : Value} {yo : List Int} {c : Int} {w : World} (h_lv : Ints w lv lo) (h_yv : Ints w yv yo) (h1 : lo.length ≤ 1000) (h2 : yo.length ≤ 1000) :
    Calls Try.prog 40 #[.agg #[lv, yv], .int .i64 c] w fun e w' => e = .returned (.tuple #[.int .i64 (findS lo yo c).1, .int .i64 (findS lo yo c).2.1, .int .i64 (findS lo yo c).2.2]) ∧ Ext w w' := by
  have hln : ∀ i : Nat, (if (i : Int) = 0 then lo else yo).length ≤ 1000 := by intro i; split <;> omega
  refine calls_in 38 Try.func40 rfl rfl (by simp) (fun A0 hsz0 hdf0 hargs => ?_)
  have l0_0 := hargs 0 (.agg #[lv, yv]) rfl
  have l1_0 := hargs 1 (.int .i64 c) rfl
  clear hargs
  have hE0 := Ext.rfl' w
  refine wp_seq_k (fun K1 hK1 => ?_)
  -- region 0
  refine region_in ?_
  refine W_box (cs := #[lv, yv]) rfl rfl rfl l0_0 rfl (fun g2 w2 hg2 hx2 b2 => ?_)
  have oB_2 : w.heap.size ≤ g2 := hg2 ▸ hE0.size
  have hE3 := Ext.tr hE0 hx2
  refine W_v rfl rfl (V_asg rfl rfl) ?_
  refine W_v rfl rfl (V_asg rfl rfl) ?_
  refine W_v rfl rfl (V_asg rfl rfl) ?_
  refine W_end ?_
  refine gen_Q (fun A4 hA4 => ?_)
  have hsz4 : A4.tmps.size = 38 := by rw [hA4]; simp only [sz_put]; exact hsz0
  have hdf4 : A4.defers = [] := by rw [hA4]; simp only [df_put]; exact hdf0
  have l1_4 := lookE hA4 1 (ev_step (ev_step (ev_step (ev_step l1_0 rfl) rfl) rfl) rfl)
  have l2_4 := lookE hA4 2 (ev_step (ev_step (ev_step (ev_top (lt_sz hsz0 rfl)) rfl) rfl) rfl)
  clear hA4 hsz0 hdf0 l0_0 l1_0
  refine then_n (hK1 _ _ ?_)
  clear hK1
  refine wp_seq_k (fun K5 hK5 => ?_)
  -- region 1
  refine region_in ?_
  refine W_r rfl rfl (VR_ldA rfl l2_4 b2 Try.underlying24 rfl (by kernel_rfl)) ?_
  refine W_v rfl rfl (V_mov rfl (ev_step l1_4 rfl)) ?_
  refine W_call rfl rfl rfl Try.func52 (by kernel_rfl) rfl (args3 (ev_step (ev_top (lt_sz hsz4 rfl)) rfl) rfl (ev_top (lt_put (lt_sz hsz4 rfl)))) (rasked_c (tr := 0) (c := c) (h_lv.ext hE3) (h_yv.ext hE3) ) ?_
  rintro _ w6 ⟨rfl, hx6⟩
  refine ⟨_, rfl, ?_⟩
  have hb7 := hE3.size
  have hE8 := Ext.tr hE3 hx6
  replace b2 := heap_ext hx6 b2
  refine W_v rfl rfl (V_asg rfl (ev_top (lt_put (lt_put (lt_sz hsz4 rfl))))) ?_
  refine W_end ?_
  refine gen_Q (fun A9 hA9 => ?_)
  have hsz9 : A9.tmps.size = 38 := by rw [hA9]; simp only [sz_put]; exact hsz4
  have hdf9 : A9.defers = [] := by rw [hA9]; simp only [df_put]; exact hdf4
  have l1_9 := lookE hA9 1 (ev_step (ev_step (ev_step (ev_step l1_4 rfl) rfl) rfl) rfl)
  have l2_9 := lookE hA9 2 (ev_step (ev_step (ev_step (ev_step l2_4 rfl) rfl) rfl) rfl)
  have l7_9 := lookE hA9 7 (ev_top (lt_put (lt_put (lt_put (lt_sz hsz4 rfl)))))
  clear hA9 hsz4 hdf4 l1_4 l2_4
  refine then_n (hK5 _ _ ?_)
  clear hK5
  refine wp_seq_k (fun K10 hK10 => ?_)
  refine wp_seq_k (fun K11 hK11 => ?_)
  -- region 2
  refine region_in ?_
  refine W_v rfl rfl (V_mov rfl l7_9) ?_
  refine W_v rfl rfl (V_neq rfl (ev_top (lt_sz hsz9 rfl)) rfl) ?_
  refine W_end ?_
  refine gen_Q (fun A12 hA12 => ?_)
  have hsz12 : A12.tmps.size = 38 := by rw [hA12]; simp only [sz_put]; exact hsz9
  have hdf12 : A12.defers = [] := by rw [hA12]; simp only [df_put]; exact hdf9
  have l1_12 := lookE hA12 1 (ev_step (ev_step l1_9 rfl) rfl)
  have l2_12 := lookE hA12 2 (ev_step (ev_step l2_9 rfl) rfl)
  have l7_12 := lookE hA12 7 (ev_step (ev_step l7_9 rfl) rfl)
  have l15_12 := lookE hA12 15 (ev_top (lt_put (lt_sz hsz9 rfl)))
  clear hA12 hsz9 hdf9 l1_9 l2_9 l7_9
  refine then_n (hK11 _ _ ?_)
  clear hK11
  refine cond_dec l15_12 (fun c13 => ?_) (fun c13 => ?_)
  · skip
    refine wp_seq_k (fun K14 hK14 => ?_)
    -- region 3
    refine region_in ?_
    refine W_v rfl rfl (V_mov rfl l7_12) ?_
    refine W_v rfl rfl (V_asg rfl rfl) ?_
    refine W_v rfl rfl (V_asg rfl rfl) ?_
    refine W_v rfl rfl (V_asg rfl (ev_step (ev_step (ev_top (lt_sz hsz12 rfl)) rfl) rfl)) ?_
    refine W_end ?_
    refine gen_Q (fun A15 hA15 => ?_)
    have hsz15 : A15.tmps.size = 38 := by rw [hA15]; simp only [sz_put]; exact hsz12
    have hdf15 : A15.defers = [] := by rw [hA15]; simp only [df_put]; exact hdf12
    have l4_15 := lookE hA15 4 (ev_step (ev_step (ev_top (lt_put (lt_sz hsz12 rfl))) rfl) rfl)
    have l5_15 := lookE hA15 5 (ev_step (ev_top (lt_put (lt_put (lt_sz hsz12 rfl)))) rfl)
    have l6_15 := lookE hA15 6 (ev_top (lt_put (lt_put (lt_put (lt_sz hsz12 rfl)))))
    clear hA15 hsz12 hdf12 l1_12 l2_12 l7_12 l15_12
    refine then_n (hK14 _ _ ?_)
    clear hK14
    refine wp_ret ?_
    refine then_ret ?_
    refine ret_in (results_3 Try.results40 (rv_tmp l4_15) (rv_tmp l5_15) (rv_tmp l6_15)) hdf15 ?_
    -- leaf T
    have hs : findS lo yo c = (0, 0, chkE lo yo 0 c) := findS_err c13
    rw [hs]
    exact ⟨rfl, hE8⟩
  · skip
    refine wp_skip ?_
    refine then_n (hK10 _ _ ?_)
    clear hK10
    refine wp_seq_k (fun K16 hK16 => ?_)
    refine wp_seq_k (fun K17 hK17 => ?_)
    -- region 4
    refine region_in ?_
    refine W_v rfl rfl (V_asg rfl rfl) ?_
    refine W_end ?_
    refine gen_Q (fun A18 hA18 => ?_)
    have hsz18 : A18.tmps.size = 38 := by rw [hA18]; simp only [sz_put]; exact hsz12
    have hdf18 : A18.defers = [] := by rw [hA18]; simp only [df_put]; exact hdf12
    have l1_18 := lookE hA18 1 (ev_step l1_12 rfl)
    have l2_18 := lookE hA18 2 (ev_step l2_12 rfl)
    have l8_18 := lookE hA18 8 (ev_top (lt_sz hsz12 rfl))
    clear hA18 hsz12 hdf12 l1_12 l2_12 l7_12 l15_12
    refine then_n (hK17 _ _ ?_)
    clear hK17
    refine wp_block ?_
    -- loop 5
    refine loopX (fun n A' w' => A'.tmps.size = 38 ∧ A'.defers = [] ∧ Ext w w' ∧ (∃ (i : Nat), (n = 2 - i) ∧ (i ≤ 2) ∧ (1 ≤ i → c ∉ lo) ∧ (2 ≤ i → c ∉ yo) ∧ (EV A' (.tmp 8) = .int .i64 (i : Int)) ∧ (EV A' (.tmp 1) = EV A18 (.tmp 1)) ∧ (EV A' (.tmp 2) = EV A18 (.tmp 2)) ∧ (w'.heap[g2]? = some (.cells #[lv, yv] 24 (0, 0))))) (2 - (0)) ⟨hsz18, hdf18, hE8, 0, rfl, (by omega), (fun h => absurd h (by omega)), (fun h => absurd h (by omega)), ((l8_18).trans (by first | rfl | (simp; done) | (congr 1; omega))), rfl, rfl, b2⟩ ?_
    clear b2
    rintro n19 A19 w19 ⟨hsz19, hdf19, hE19, i, hm19, hi, h0, h1, l8_19, u1_19, u2_19, b2⟩
    have l1_19 := u1_19.trans l1_18
    have l2_19 := u2_19.trans l2_18
    refine wp_seq_k (fun K20 hK20 => ?_)
    refine wp_seq_k (fun K21 hK21 => ?_)
    -- region 5
    refine region_in ?_
    refine W_v rfl rfl (V_mov rfl l8_19) ?_
    refine W_v rfl rfl (V_lss rfl (ev_top (lt_sz hsz19 rfl)) rfl) ?_
    refine W_end ?_
    refine gen_Q (fun A22 hA22 => ?_)
    have hsz22 : A22.tmps.size = 38 := by rw [hA22]; simp only [sz_put]; exact hsz19
    have hdf22 : A22.defers = [] := by rw [hA22]; simp only [df_put]; exact hdf19
    have l1_22 := lookE hA22 1 (ev_step (ev_step l1_19 rfl) rfl)
    have l2_22 := lookE hA22 2 (ev_step (ev_step l2_19 rfl) rfl)
    have l8_22 := lookE hA22 8 (ev_step (ev_step l8_19 rfl) rfl)
    have l18_22 := lookE hA22 18 (ev_top (lt_put (lt_sz hsz19 rfl)))
    clear hA22 hsz19 hdf19 l8_19 l1_19 l2_19
    refine then_n (hK21 _ _ ?_)
    clear hK21
    refine cond_dec l18_22 (fun c23 => ?_) (fun c23 => ?_)
    · skip
      refine wp_skip ?_
      refine then_n (hK20 _ _ ?_)
      clear hK20
      refine wp_seq_k (fun K24 hK24 => ?_)
      refine wp_block ?_
      refine wp_seq_k (fun K25 hK25 => ?_)
      -- region 7
      refine region_in ?_
      refine W_r rfl rfl (VR_ldA rfl l2_22 b2 Try.underlying24 rfl (by kernel_rfl)) ?_
      refine W_v rfl rfl (V_mov rfl (ev_step l8_22 rfl)) ?_
      refine W_call rfl rfl rfl Try.func53 (by kernel_rfl) rfl (args2 (ev_step (ev_top (lt_sz hsz22 rfl)) rfl) (ev_top (lt_put (lt_sz hsz22 rfl)))) (rof_c (n := (i : Int)) (h_lv.ext hE19) (h_yv.ext hE19) (by first | omega | (simp; omega)) (by first | omega | (simp; omega))) ?_
      rintro _ w26 ⟨v_26, rfl, f_26, hx26⟩
      refine ⟨_, rfl, ?_⟩
      have hb27 := hE19.size
      have hE28 := Ext.tr hE19 hx26
      replace b2 := heap_ext hx26 b2
      replace f_26 := f_26.base hb27
      refine W_v rfl rfl (V_asg rfl (ev_top (lt_put (lt_put (lt_sz hsz22 rfl))))) ?_
      refine W_end ?_
      refine gen_Q (fun A29 hA29 => ?_)
      have hsz29 : A29.tmps.size = 38 := by rw [hA29]; simp only [sz_put]; exact hsz22
      have hdf29 : A29.defers = [] := by rw [hA29]; simp only [df_put]; exact hdf22
      have l1_29 := lookE hA29 1 (ev_step (ev_step (ev_step (ev_step l1_22 rfl) rfl) rfl) rfl)
      have l2_29 := lookE hA29 2 (ev_step (ev_step (ev_step (ev_step l2_22 rfl) rfl) rfl) rfl)
      have l8_29 := lookE hA29 8 (ev_step (ev_step (ev_step (ev_step l8_22 rfl) rfl) rfl) rfl)
      have l9_29 := lookE hA29 9 (ev_top (lt_put (lt_put (lt_put (lt_sz hsz22 rfl)))))
      clear hA29 hsz22 hdf22 l1_22 l2_22 l8_22 l18_22
      refine then_n (hK25 _ _ ?_)
      clear hK25
      refine wp_seq_k (fun K30 hK30 => ?_)
      -- region 8
      refine region_in ?_
      refine W_v rfl rfl (V_asg rfl rfl) ?_
      refine W_end ?_
      refine gen_Q (fun A31 hA31 => ?_)
      have hsz31 : A31.tmps.size = 38 := by rw [hA31]; simp only [sz_put]; exact hsz29
      have hdf31 : A31.defers = [] := by rw [hA31]; simp only [df_put]; exact hdf29
      have l1_31 := lookE hA31 1 (ev_step l1_29 rfl)
      have l2_31 := lookE hA31 2 (ev_step l2_29 rfl)
      have l8_31 := lookE hA31 8 (ev_step l8_29 rfl)
      have l9_31 := lookE hA31 9 (ev_step l9_29 rfl)
      have l10_31 := lookE hA31 10 (ev_top (lt_sz hsz29 rfl))
      clear hA31 hsz29 hdf29 l1_29 l2_29 l8_29 l9_29
      refine then_n (hK30 _ _ ?_)
      clear hK30
      refine wp_block ?_
      -- loop 9
      have hli := hln i
      refine loopX (fun n A' w' => A'.tmps.size = 38 ∧ A'.defers = [] ∧ Ext w w' ∧ (∃ (k : Nat), (n = (if (i : Int) = 0 then lo else yo).length - k) ∧ (k ≤ (if (i : Int) = 0 then lo else yo).length) ∧ (∀ j, j < k → (if (i : Int) = 0 then lo else yo)[j]? ≠ some c) ∧ (EV A' (.tmp 10) = .int .i64 (k : Int)) ∧ (EV A' (.tmp 1) = EV A31 (.tmp 1)) ∧ (EV A' (.tmp 2) = EV A31 (.tmp 2)) ∧ (EV A' (.tmp 8) = EV A31 (.tmp 8)) ∧ (EV A' (.tmp 9) = EV A31 (.tmp 9)) ∧ (w'.heap[g2]? = some (.cells #[lv, yv] 24 (0, 0))) ∧ (OwnI w' w.heap.size 3 (v_26) ((if (i : Int) = 0 then lo else yo))))) ((if (i : Int) = 0 then lo else yo).length - (0)) ⟨hsz31, hdf31, hE28, 0, rfl, (Nat.zero_le _), (fun j h => absurd h (by omega)), ((l10_31).trans (by first | rfl | (simp; done) | (congr 1; omega))), rfl, rfl, rfl, rfl, b2, f_26⟩ ?_
      clear b2 f_26
      rintro n32 A32 w32 ⟨hsz32, hdf32, hE32, k, hm32, hk, hn, l10_32, u1_32, u2_32, u8_32, u9_32, b2, f_26⟩
      have l1_32 := u1_32.trans l1_31
      have l2_32 := u2_32.trans l2_31
      have l8_32 := u8_32.trans l8_31
      have l9_32 := u9_32.trans l9_31
      refine wp_seq_k (fun K33 hK33 => ?_)
      refine wp_seq_k (fun K34 hK34 => ?_)
      -- region 9
      refine region_in ?_
      refine W_v rfl rfl (V_mov rfl l10_32) ?_
      refine W_v rfl rfl (V_mov rfl (ev_step l9_32 rfl)) ?_
      refine W_v rfl rfl (V_lenI rfl (ev_top (lt_put (lt_sz hsz32 rfl))) f_26.ints Try.underlying22) ?_
      refine W_v rfl rfl (V_lss rfl (ev_step (ev_step (ev_top (lt_sz hsz32 rfl)) rfl) rfl) (ev_top (lt_put (lt_put (lt_sz hsz32 rfl))))) ?_
      refine W_end ?_
      refine gen_Q (fun A35 hA35 => ?_)
      have hsz35 : A35.tmps.size = 38 := by rw [hA35]; simp only [sz_put]; exact hsz32
      have hdf35 : A35.defers = [] := by rw [hA35]; simp only [df_put]; exact hdf32
      have l1_35 := lookE hA35 1 (ev_step (ev_step (ev_step (ev_step l1_32 rfl) rfl) rfl) rfl)
      have l2_35 := lookE hA35 2 (ev_step (ev_step (ev_step (ev_step l2_32 rfl) rfl) rfl) rfl)
      have l8_35 := lookE hA35 8 (ev_step (ev_step (ev_step (ev_step l8_32 rfl) rfl) rfl) rfl)
      have l9_35 := lookE hA35 9 (ev_step (ev_step (ev_step (ev_step l9_32 rfl) rfl) rfl) rfl)
      have l10_35 := lookE hA35 10 (ev_step (ev_step (ev_step (ev_step l10_32 rfl) rfl) rfl) rfl)
      have l27_35 := lookE hA35 27 (ev_top (lt_put (lt_put (lt_put (lt_sz hsz32 rfl)))))
      clear hA35 hsz32 hdf32 l10_32 l1_32 l2_32 l8_32 l9_32
      refine then_n (hK34 _ _ ?_)
      clear hK34
      refine cond_dec l27_35 (fun c36 => ?_) (fun c36 => ?_)
      · skip
        refine wp_skip ?_
        refine then_n (hK33 _ _ ?_)
        clear hK33
        refine wp_seq_k (fun K37 hK37 => ?_)
        refine wp_block ?_
        refine wp_seq_k (fun K38 hK38 => ?_)
        -- region 11
        refine region_in ?_
        refine W_v rfl rfl (V_mov rfl l9_35) ?_
        refine W_v rfl rfl (V_mov rfl (ev_step l10_35 rfl)) ?_
        have k39 : k < (if (i : Int) = 0 then lo else yo).length := by omega
        obtain ⟨B39, O39, C39, y39, hv39, hy39, hc39⟩ := at_ints f_26.ints (k) k39
        refine W_v rfl rfl (V_idx (k) rfl (ev_step (ev_top (lt_sz hsz35 rfl)) rfl) (ev_top (lt_put (lt_sz hsz35 rfl))) hv39 (by omega) k39 Try.underlying22 (by kernel_rfl)) ?_
        refine W_r rfl rfl (VR_ldC rfl (ev_top (lt_put (lt_put (lt_sz hsz35 rfl)))) hc39 Try.underlying3 rfl) ?_
        refine W_v rfl rfl (V_mov rfl (ev_step (ev_step (ev_step (ev_step l1_35 rfl) rfl) rfl) rfl)) ?_
        refine W_v rfl rfl (V_eql rfl (ev_step (ev_top (lt_put (lt_put (lt_put (lt_sz hsz35 rfl))))) rfl) (ev_top (lt_put (lt_put (lt_put (lt_put (lt_sz hsz35 rfl))))))) ?_
        refine W_end ?_
        refine gen_Q (fun A40 hA40 => ?_)
        have hsz40 : A40.tmps.size = 38 := by rw [hA40]; simp only [sz_put]; exact hsz35
        have hdf40 : A40.defers = [] := by rw [hA40]; simp only [df_put]; exact hdf35
        have l1_40 := lookE hA40 1 (ev_step (ev_step (ev_step (ev_step (ev_step (ev_step l1_35 rfl) rfl) rfl) rfl) rfl) rfl)
        have l2_40 := lookE hA40 2 (ev_step (ev_step (ev_step (ev_step (ev_step (ev_step l2_35 rfl) rfl) rfl) rfl) rfl) rfl)
        have l8_40 := lookE hA40 8 (ev_step (ev_step (ev_step (ev_step (ev_step (ev_step l8_35 rfl) rfl) rfl) rfl) rfl) rfl)
        have l9_40 := lookE hA40 9 (ev_step (ev_step (ev_step (ev_step (ev_step (ev_step l9_35 rfl) rfl) rfl) rfl) rfl) rfl)
        have l10_40 := lookE hA40 10 (ev_step (ev_step (ev_step (ev_step (ev_step (ev_step l10_35 rfl) rfl) rfl) rfl) rfl) rfl)
        have l35_40 := lookE hA40 35 (ev_top (lt_put (lt_put (lt_put (lt_put (lt_put (lt_sz hsz35 rfl)))))))
        clear hA40 hsz35 hdf35 l1_35 l2_35 l8_35 l9_35 l10_35 l27_35
        refine then_n (hK38 _ _ ?_)
        clear hK38
        refine cond_dec l35_40 (fun c41 => ?_) (fun c41 => ?_)
        · skip
          refine wp_seq_k (fun K42 hK42 => ?_)
          -- region 12
          refine region_in ?_
          refine W_v rfl rfl (V_mov rfl l8_40) ?_
          refine W_v rfl rfl (V_mov rfl (ev_step l10_40 rfl)) ?_
          refine W_v rfl rfl (V_asg rfl (ev_step (ev_top (lt_sz hsz40 rfl)) rfl)) ?_
          refine W_v rfl rfl (V_asg rfl (ev_step (ev_top (lt_put (lt_sz hsz40 rfl))) rfl)) ?_
          refine W_v rfl rfl (V_asg rfl rfl) ?_
          refine W_end ?_
          refine gen_Q (fun A43 hA43 => ?_)
          have hsz43 : A43.tmps.size = 38 := by rw [hA43]; simp only [sz_put]; exact hsz40
          have hdf43 : A43.defers = [] := by rw [hA43]; simp only [df_put]; exact hdf40
          have l4_43 := lookE hA43 4 (ev_step (ev_step (ev_top (lt_put (lt_put (lt_sz hsz40 rfl)))) rfl) rfl)
          have l5_43 := lookE hA43 5 (ev_step (ev_top (lt_put (lt_put (lt_put (lt_sz hsz40 rfl))))) rfl)
          have l6_43 := lookE hA43 6 (ev_top (lt_put (lt_put (lt_put (lt_put (lt_sz hsz40 rfl))))))
          clear hA43 hsz40 hdf40 l1_40 l2_40 l8_40 l9_40 l10_40 l35_40
          refine then_n (hK42 _ _ ?_)
          clear hK42
          refine wp_ret ?_
          refine inb_ret ?_
          refine then_ret ?_
          refine then_ret ?_
          refine inb_ret ?_
          refine inb_ret ?_
          refine then_ret ?_
          refine then_ret ?_
          refine inb_ret ?_
          refine then_ret ?_
          refine ret_in (results_3 Try.results40 (rv_tmp l4_43) (rv_tmp l5_43) (rv_tmp l6_43)) hdf43 ?_
          -- leaf FTTT
          have hs : findS lo yo c = ((i : Int), (k : Int), 0) := findS_hit (by simpa using c13) (by omega) h0 (by rw [← c41]; assumption) hn
          rw [hs]
          exact ⟨rfl, hE32⟩
        · skip
          refine wp_skip ?_
          refine inb_n ?_
          refine then_n (hK37 _ _ ?_)
          clear hK37
          -- region 10
          refine region_in ?_
          refine W_v rfl rfl (V_mov rfl l10_40) ?_
          refine W_v rfl rfl (V_add rfl (ev_top (lt_sz hsz40 rfl)) rfl (by omega) (by omega)) ?_
          refine W_v rfl rfl (V_asg rfl (ev_top (lt_put (lt_sz hsz40 rfl)))) ?_
          refine W_end ?_
          refine gen_Q (fun A44 hA44 => ?_)
          have hsz44 : A44.tmps.size = 38 := by rw [hA44]; simp only [sz_put]; exact hsz40
          have hdf44 : A44.defers = [] := by rw [hA44]; simp only [df_put]; exact hdf40
          have l1_44 := lookE hA44 1 (ev_step (ev_step (ev_step l1_40 rfl) rfl) rfl)
          have l2_44 := lookE hA44 2 (ev_step (ev_step (ev_step l2_40 rfl) rfl) rfl)
          have l8_44 := lookE hA44 8 (ev_step (ev_step (ev_step l8_40 rfl) rfl) rfl)
          have l9_44 := lookE hA44 9 (ev_step (ev_step (ev_step l9_40 rfl) rfl) rfl)
          have l10_44 := lookE hA44 10 (ev_top (lt_put (lt_put (lt_sz hsz40 rfl))))
          clear hA44 hsz40 hdf40 l1_40 l2_40 l8_40 l9_40 l10_40 l35_40
          refine then_n ⟨(if (i : Int) = 0 then lo else yo).length - ((k + 1)), by simp only [hm32]; omega, hsz44, hdf44, hE32, (k + 1), rfl, (by omega), (find_step hn (by assumption) c41), ((l10_44).trans (by first | rfl | (simp; done) | (congr 1; omega))), ((l1_44).trans l1_31.symm), ((l2_44).trans l2_31.symm), ((l8_44).trans l8_31.symm), ((l9_44).trans l9_31.symm), b2, f_26⟩
      · skip
        refine wp_exit ?_
        refine then_exit ?_
        refine then_exit ?_
        refine inb_hit ?_
        refine inb_n ?_
        refine then_n (hK24 _ _ ?_)
        clear hK24
        -- region 6
        refine region_in ?_
        refine W_v rfl rfl (V_mov rfl l8_35) ?_
        refine W_v rfl rfl (V_add rfl (ev_top (lt_sz hsz35 rfl)) rfl (by omega) (by omega)) ?_
        refine W_v rfl rfl (V_asg rfl (ev_top (lt_put (lt_sz hsz35 rfl)))) ?_
        refine W_end ?_
        refine gen_Q (fun A45 hA45 => ?_)
        have hsz45 : A45.tmps.size = 38 := by rw [hA45]; simp only [sz_put]; exact hsz35
        have hdf45 : A45.defers = [] := by rw [hA45]; simp only [df_put]; exact hdf35
        have l1_45 := lookE hA45 1 (ev_step (ev_step (ev_step l1_35 rfl) rfl) rfl)
        have l2_45 := lookE hA45 2 (ev_step (ev_step (ev_step l2_35 rfl) rfl) rfl)
        have l8_45 := lookE hA45 8 (ev_top (lt_put (lt_put (lt_sz hsz35 rfl))))
        clear hA45 hsz35 hdf35 l1_35 l2_35 l8_35 l9_35 l10_35 l27_35
        refine then_n ⟨2 - ((i + 1)), by simp only [hm19]; omega, hsz45, hdf45, hE32, (i + 1), rfl, (by omega), (fun _ => find_n0 (by omega) h0 hn (by omega)), (fun h => find_n1 h0 hn (by omega) (by omega)), ((l8_45).trans (by first | rfl | (simp; done) | (congr 1; omega))), ((l1_45).trans l1_18.symm), ((l2_45).trans l2_18.symm), b2⟩
    · skip
      refine wp_exit ?_
      refine then_exit ?_
      refine then_exit ?_
      refine inb_hit ?_
      refine then_n (hK16 _ _ ?_)
      clear hK16
      refine wp_seq_k (fun K46 hK46 => ?_)
      -- region 13
      refine region_in ?_
      refine W_v rfl rfl (V_asg rfl rfl) ?_
      refine W_v rfl rfl (V_asg rfl rfl) ?_
      refine W_v rfl rfl (V_asg rfl rfl) ?_
      refine W_end ?_
      refine gen_Q (fun A47 hA47 => ?_)
      have hsz47 : A47.tmps.size = 38 := by rw [hA47]; simp only [sz_put]; exact hsz22
      have hdf47 : A47.defers = [] := by rw [hA47]; simp only [df_put]; exact hdf22
      have l4_47 := lookE hA47 4 (ev_step (ev_step (ev_top (lt_sz hsz22 rfl)) rfl) rfl)
      have l5_47 := lookE hA47 5 (ev_step (ev_top (lt_put (lt_sz hsz22 rfl))) rfl)
      have l6_47 := lookE hA47 6 (ev_top (lt_put (lt_put (lt_sz hsz22 rfl))))
      clear hA47 hsz22 hdf22 l1_22 l2_22 l8_22 l18_22
      refine then_n (hK46 _ _ ?_)
      clear hK46
      refine wp_ret ?_
      refine ret_in (results_3 Try.results40 (rv_tmp l4_47) (rv_tmp l5_47) (rv_tmp l6_47)) hdf47 ?_
      -- leaf FF
      have hs : findS lo yo c = (-1, -1, 4) := findS_no (by simpa using c13) (h0 (by omega)) (h1 (by omega))
      rw [hs]
      exact ⟨rfl, hE19⟩

end Go.Proofs.Ytfnbfmlnageflaa