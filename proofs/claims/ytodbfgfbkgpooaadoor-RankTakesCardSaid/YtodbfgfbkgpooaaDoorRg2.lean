import Derived.Test.YtodbfgfbkgpooaaDoorRg1
namespace Go.Proofs.YtodbfgfbkgpooaaDoor
open Go.RowKit Go.Own

theorem find_n0 {lo yo : List Int} {c : Int} {i k : Nat} (hk : (if (i : Int) = 0 then lo else yo).length ≤ k) (h0 : 1 ≤ i → c ∉ lo) (hn : ∀ j, j < k → (if (i : Int) = 0 then lo else yo)[j]? ≠ some c) (_ : 0 ≤ i) : c ∉ lo := by
  by_cases hi : i = 0
  · subst hi; simp only [Int.natCast_zero, if_true] at hk hn; exact not_mem_of hk hn
  · exact h0 (by omega)
theorem find_n1 {lo yo : List Int} {c : Int} {i k : Nat} (_ : 1 ≤ i → c ∉ lo) (hn : ∀ j, j < k → (if (i : Int) = 0 then lo else yo)[j]? ≠ some c) (hk : (if (i : Int) = 0 then lo else yo).length ≤ k) (hi : 1 ≤ i) : c ∉ yo := by
  rw [if_neg (by omega)] at hk
  refine not_mem_of hk fun j hj => ?_
  have := hn j hj
  rwa [if_neg (by omega)] at this
theorem find_step {l : List Int} {c y : Int} {k : Nat} (hn : ∀ j, j < k → l[j]? ≠ some c) (hy : l[k]? = some y) (hne : ¬ y = c) : ∀ j, j < k + 1 → l[j]? ≠ some c := by
  intro j hj
  by_cases h : j = k
  · subst h; rw [hy]; simpa using hne
  · exact hn j (by omega)

set_option maxHeartbeats 4000000 in
theorem rFind_c {lv : Value} {lo : List Int} {yv : Value} {yo : List Int} {c : Int} {w : World} (h_lv : Ints w lv lo) (h_yv : Ints w yv yo) (h1 : lo.length ≤ 1000) (h2 : yo.length ≤ 1000) :
    Calls Tryd.prog 46 #[.agg #[lv, yv], .int .i64 c] w fun e w' => e = .returned (.tuple #[.int .i64 (findS lo yo c).1, .int .i64 (findS lo yo c).2.1, .int .i64 (findS lo yo c).2.2]) ∧ Ext w w' := by
  have hln : ∀ i : Nat, (if (i : Int) = 0 then lo else yo).length ≤ 1000 := by intro i; split <;> omega
  refine calls_in 38 Tryd.func46 rfl rfl (by simp) (fun A0 hsz0 hdf0 hargs => ?_)
  have l0_0 := hargs 0 (.agg #[lv, yv]) rfl
  have l1_0 := hargs 1 (.int .i64 c) rfl
  clear hargs; replace hsz0 : SzN A0 38 := ⟨hsz0⟩
  have hE0 := Ext.rfl' w
  refine wp_seq_k (fun K1 hK1 => ?_)
  -- region 0
  refine region_in ?_
  refine W_box (cs := #[lv, yv]) rfl rfl rfl l0_0 rfl (fun g2 w2 hg2 hx2 b2 => ?_)
  have oB_2 : w.heap.size ≤ g2 := hg2 ▸ hE0.size
  have hE3 := Ext.tr hE0 hx2
  refine W_v rfl rfl (V_asg rfl rfl) ?_
  refine W_v rfl rfl (V_asg rfl rfl) ?_
  refine W_v rfl rfl (V_asg rfl rfl) ?_
  refine W_end ?_
  refine gen_Q (fun A4 hA4 => ?_)
  have hsz4 : SzN A4 38 := by rw [hA4]; infer_instance
  have hdf4 : A4.defers = [] := by rw [hA4]; simp only [df_put]; exact hdf0
  have l1_4 := lookE hA4 1 (es rfl (es rfl (es rfl (es rfl l1_0))))
  have l2_4 := lookE hA4 2 (es rfl (es rfl (es rfl (et rfl))))
  clear hA4 hsz0 hdf0 l0_0 l1_0
  refine then_n (hK1 _ _ ?_)
  clear hK1
  refine wp_seq_k (fun K5 hK5 => ?_)
  -- region 1
  refine region_in ?_
  refine W_r rfl rfl (VR_ldA rfl l2_4 b2 Tryd.underlying24 rfl (by kernel_rfl)) ?_
  refine W_v rfl rfl (V_mov rfl (es rfl l1_4)) ?_
  refine W_call rfl rfl rfl Tryd.func52 (by kernel_rfl) rfl (args3 (es rfl (et rfl)) rfl (et rfl)) (rasked_c (tr := 0) (c := c) (h_lv.ext hE3) (h_yv.ext hE3) ) ?_
  rintro _ w6 ⟨rfl, hx6⟩
  refine ⟨_, rfl, ?_⟩
  have hb7 := hE3.size
  have hE8 := Ext.tr hE3 hx6
  replace b2 := heap_ext hx6 b2
  refine W_v rfl rfl (V_asg rfl (et rfl)) ?_
  refine W_end ?_
  refine gen_Q (fun A9 hA9 => ?_)
  have hsz9 : SzN A9 38 := by rw [hA9]; infer_instance
  have hdf9 : A9.defers = [] := by rw [hA9]; simp only [df_put]; exact hdf4
  have l1_9 := lookE hA9 1 (es rfl (es rfl (es rfl (es rfl l1_4))))
  have l2_9 := lookE hA9 2 (es rfl (es rfl (es rfl (es rfl l2_4))))
  have l7_9 := lookE hA9 7 (et rfl)
  clear hA9 hsz4 hdf4 l1_4 l2_4
  refine then_n (hK5 _ _ ?_)
  clear hK5
  refine wp_seq_k (fun K10 hK10 => ?_)
  refine wp_seq_k (fun K11 hK11 => ?_)
  -- region 2
  refine region_in ?_
  refine W_v rfl rfl (V_mov rfl l7_9) ?_
  refine W_v rfl rfl (V_neq rfl (et rfl) rfl) ?_
  refine W_end ?_
  refine gen_Q (fun A12 hA12 => ?_)
  have hsz12 : SzN A12 38 := by rw [hA12]; infer_instance
  have hdf12 : A12.defers = [] := by rw [hA12]; simp only [df_put]; exact hdf9
  have l1_12 := lookE hA12 1 (es rfl (es rfl l1_9))
  have l2_12 := lookE hA12 2 (es rfl (es rfl l2_9))
  have l7_12 := lookE hA12 7 (es rfl (es rfl l7_9))
  have l15_12 := lookE hA12 15 (et rfl)
  clear hA12 hsz9 hdf9 l1_9 l2_9 l7_9
  refine then_n (hK11 _ _ ?_)
  clear hK11
  refine cond_dec l15_12 (fun c13 => ?_) (fun c13 => ?_)
  · skip
    refine wp_seq_k (fun K14 hK14 => ?_)
    -- region 3
    refine region_in ?_
    refine W_v rfl rfl (V_mov rfl l7_12) ?_
    refine W_v rfl rfl (V_asg rfl rfl) ?_
    refine W_v rfl rfl (V_asg rfl rfl) ?_
    refine W_v rfl rfl (V_asg rfl (es rfl (es rfl (et rfl)))) ?_
    refine W_end ?_
    refine gen_Q (fun A15 hA15 => ?_)
    have hsz15 : SzN A15 38 := by rw [hA15]; infer_instance
    have hdf15 : A15.defers = [] := by rw [hA15]; simp only [df_put]; exact hdf12
    have l4_15 := lookE hA15 4 (es rfl (es rfl (et rfl)))
    have l5_15 := lookE hA15 5 (es rfl (et rfl))
    have l6_15 := lookE hA15 6 (et rfl)
    clear hA15 hsz12 hdf12 l1_12 l2_12 l7_12 l15_12
    refine then_n (hK14 _ _ ?_)
    clear hK14
    refine wp_ret ?_
    refine then_ret ?_
    refine ret_in (results_3 Tryd.results46 (rv_tmp l4_15) (rv_tmp l5_15) (rv_tmp l6_15)) hdf15 ?_
    -- leaf T
    have hs : findS lo yo c = (0, 0, chkE lo yo 0 c) := findS_err c13
    rw [hs]
    exact ⟨rfl, hE8⟩
  · skip
    refine wp_skip ?_
    refine then_n (hK10 _ _ ?_)
    clear hK10
    refine wp_seq_k (fun K16 hK16 => ?_)
    refine wp_seq_k (fun K17 hK17 => ?_)
    -- region 4
    refine region_in ?_
    refine W_v rfl rfl (V_asg rfl rfl) ?_
    refine W_end ?_
    refine gen_Q (fun A18 hA18 => ?_)
    have hsz18 : SzN A18 38 := by rw [hA18]; infer_instance
    have hdf18 : A18.defers = [] := by rw [hA18]; simp only [df_put]; exact hdf12
    have l1_18 := lookE hA18 1 (es rfl l1_12)
    have l2_18 := lookE hA18 2 (es rfl l2_12)
    have l8_18 := lookE hA18 8 (et rfl)
    clear hA18 hsz12 hdf12 l1_12 l2_12 l7_12 l15_12
    refine then_n (hK17 _ _ ?_)
    clear hK17
    refine wp_block ?_
    -- loop 5
    refine loopX (fun mz A' w' => SzN A' 38 ∧ A'.defers = [] ∧ Ext w w' ∧ (∃ (i : Nat), (mz = 2 - i) ∧ (i ≤ 2) ∧ (1 ≤ i → c ∉ lo) ∧ (2 ≤ i → c ∉ yo) ∧ (EV A' (.tmp 8) = .int .i64 (i : Int)) ∧ (EV A' (.tmp 1) = EV A18 (.tmp 1)) ∧ (EV A' (.tmp 2) = EV A18 (.tmp 2)) ∧ (w'.heap[g2]? = some (.cells #[lv, yv] 24 (0, 0))))) (2 - (0)) ⟨hsz18, hdf18, hE8, 0, rfl, (by omega), (fun h => absurd h (by omega)), (fun h => absurd h (by omega)), ((l8_18).trans (by first | rfl | (simp; done) | (congr 1; omega))), rfl, rfl, b2⟩ ?_
    clear b2
    rintro n19 A19 w19 ⟨hsz19, hdf19, hE19, i, hm19, hi, h0, h1, l8_19, u1_19, u2_19, b2⟩
    have l1_19 := u1_19.trans l1_18
    have l2_19 := u2_19.trans l2_18
    refine wp_seq_k (fun K20 hK20 => ?_)
    refine wp_seq_k (fun K21 hK21 => ?_)
    -- region 5
    refine region_in ?_
    refine W_v rfl rfl (V_mov rfl l8_19) ?_
    refine W_v rfl rfl (V_lss rfl (et rfl) rfl) ?_
    refine W_end ?_
    refine gen_Q (fun A22 hA22 => ?_)
    have hsz22 : SzN A22 38 := by rw [hA22]; infer_instance
    have hdf22 : A22.defers = [] := by rw [hA22]; simp only [df_put]; exact hdf19
    have l1_22 := lookE hA22 1 (es rfl (es rfl l1_19))
    have l2_22 := lookE hA22 2 (es rfl (es rfl l2_19))
    have l8_22 := lookE hA22 8 (es rfl (es rfl l8_19))
    have l18_22 := lookE hA22 18 (et rfl)
    clear hA22 hsz19 hdf19 l8_19 l1_19 l2_19
    refine then_n (hK21 _ _ ?_)
    clear hK21
    refine cond_dec l18_22 (fun c23 => ?_) (fun c23 => ?_)
    · skip
      refine wp_skip ?_
      refine then_n (hK20 _ _ ?_)
      clear hK20
      refine wp_seq_k (fun K24 hK24 => ?_)
      refine wp_block ?_
      refine wp_seq_k (fun K25 hK25 => ?_)
      -- region 7
      refine region_in ?_
      refine W_r rfl rfl (VR_ldA rfl l2_22 b2 Tryd.underlying24 rfl (by kernel_rfl)) ?_
      refine W_v rfl rfl (V_mov rfl (es rfl l8_22)) ?_
      refine W_call rfl rfl rfl Tryd.func55 (by kernel_rfl) rfl (args2 (es rfl (et rfl)) (et rfl)) (rof_c (n := (i : Int)) (h_lv.ext hE19) (h_yv.ext hE19) (by first | omega | (simp; done) | (simp; omega)) (by first | omega | (simp; done) | (simp; omega))) ?_
      rintro _ w26 ⟨v_26, rfl, f_26, hx26⟩
      refine ⟨_, rfl, ?_⟩
      have hb27 := hE19.size
      have hE28 := Ext.tr hE19 hx26
      replace b2 := heap_ext hx26 b2
      have ul_f_26 := fre_lo f_26.fre
      replace f_26 := f_26.base hb27
      refine W_v rfl rfl (V_asg rfl (et rfl)) ?_
      refine W_end ?_
      refine gen_Q (fun A29 hA29 => ?_)
      have hsz29 : SzN A29 38 := by rw [hA29]; infer_instance
      have hdf29 : A29.defers = [] := by rw [hA29]; simp only [df_put]; exact hdf22
      have l1_29 := lookE hA29 1 (es rfl (es rfl (es rfl (es rfl l1_22))))
      have l2_29 := lookE hA29 2 (es rfl (es rfl (es rfl (es rfl l2_22))))
      have l8_29 := lookE hA29 8 (es rfl (es rfl (es rfl (es rfl l8_22))))
      have l9_29 := lookE hA29 9 (et rfl)
      clear hA29 hsz22 hdf22 l1_22 l2_22 l8_22 l18_22
      refine then_n (hK25 _ _ ?_)
      clear hK25
      refine wp_seq_k (fun K30 hK30 => ?_)
      -- region 8
      refine region_in ?_
      refine W_v rfl rfl (V_asg rfl rfl) ?_
      refine W_end ?_
      refine gen_Q (fun A31 hA31 => ?_)
      have hsz31 : SzN A31 38 := by rw [hA31]; infer_instance
      have hdf31 : A31.defers = [] := by rw [hA31]; simp only [df_put]; exact hdf29
      have l1_31 := lookE hA31 1 (es rfl l1_29)
      have l2_31 := lookE hA31 2 (es rfl l2_29)
      have l8_31 := lookE hA31 8 (es rfl l8_29)
      have l9_31 := lookE hA31 9 (es rfl l9_29)
      have l10_31 := lookE hA31 10 (et rfl)
      clear hA31 hsz29 hdf29 l1_29 l2_29 l8_29 l9_29
      refine then_n (hK30 _ _ ?_)
      clear hK30
      refine wp_block ?_
      -- loop 9
      have hli := hln i
      refine loopX (fun mz A' w' => SzN A' 38 ∧ A'.defers = [] ∧ Ext w w' ∧ (∃ (k : Nat), (mz = (if (i : Int) = 0 then lo else yo).length - k) ∧ (k ≤ (if (i : Int) = 0 then lo else yo).length) ∧ (∀ j, j < k → (if (i : Int) = 0 then lo else yo)[j]? ≠ some c) ∧ (EV A' (.tmp 10) = .int .i64 (k : Int)) ∧ (EV A' (.tmp 1) = EV A31 (.tmp 1)) ∧ (EV A' (.tmp 2) = EV A31 (.tmp 2)) ∧ (EV A' (.tmp 8) = EV A31 (.tmp 8)) ∧ (EV A' (.tmp 9) = EV A31 (.tmp 9)) ∧ (w'.heap[g2]? = some (.cells #[lv, yv] 24 (0, 0))) ∧ (OwnI w' w.heap.size 3 (v_26) ((if (i : Int) = 0 then lo else yo))))) ((if (i : Int) = 0 then lo else yo).length - (0)) ⟨hsz31, hdf31, hE28, 0, rfl, (Nat.zero_le _), (fun j h => absurd h (by omega)), ((l10_31).trans (by first | rfl | (simp; done) | (congr 1; omega))), rfl, rfl, rfl, rfl, b2, f_26⟩ ?_
      clear b2 f_26
      rintro n32 A32 w32 ⟨hsz32, hdf32, hE32, k, hm32, hk, hn, l10_32, u1_32, u2_32, u8_32, u9_32, b2, f_26⟩
      have l1_32 := u1_32.trans l1_31
      have l2_32 := u2_32.trans l2_31
      have l8_32 := u8_32.trans l8_31
      have l9_32 := u9_32.trans l9_31
      refine wp_seq_k (fun K33 hK33 => ?_)
      refine wp_seq_k (fun K34 hK34 => ?_)
      -- region 9
      refine region_in ?_
      refine W_v rfl rfl (V_mov rfl l10_32) ?_
      refine W_v rfl rfl (V_mov rfl (es rfl l9_32)) ?_
      refine W_v rfl rfl (V_lenI rfl (et rfl) f_26.ints Tryd.underlying22) ?_
      refine W_v rfl rfl (V_lss rfl (es rfl (es rfl (et rfl))) (et rfl)) ?_
      refine W_end ?_
      refine gen_Q (fun A35 hA35 => ?_)
      have hsz35 : SzN A35 38 := by rw [hA35]; infer_instance
      have hdf35 : A35.defers = [] := by rw [hA35]; simp only [df_put]; exact hdf32
      have l1_35 := lookE hA35 1 (es rfl (es rfl (es rfl (es rfl l1_32))))
      have l2_35 := lookE hA35 2 (es rfl (es rfl (es rfl (es rfl l2_32))))
      have l8_35 := lookE hA35 8 (es rfl (es rfl (es rfl (es rfl l8_32))))
      have l9_35 := lookE hA35 9 (es rfl (es rfl (es rfl (es rfl l9_32))))
      have l10_35 := lookE hA35 10 (es rfl (es rfl (es rfl (es rfl l10_32))))
      have l27_35 := lookE hA35 27 (et rfl)
      clear hA35 hsz32 hdf32 l10_32 l1_32 l2_32 l8_32 l9_32
      refine then_n (hK34 _ _ ?_)
      clear hK34
      refine cond_dec l27_35 (fun c36 => ?_) (fun c36 => ?_)
      · skip
        refine wp_skip ?_
        refine then_n (hK33 _ _ ?_)
        clear hK33
        refine wp_seq_k (fun K37 hK37 => ?_)
        refine wp_block ?_
        refine wp_seq_k (fun K38 hK38 => ?_)
        -- region 11
        refine region_in ?_
        refine W_v rfl rfl (V_mov rfl l9_35) ?_
        refine W_v rfl rfl (V_mov rfl (es rfl l10_35)) ?_
        have k39 : k < (if (i : Int) = 0 then lo else yo).length := by omega
        obtain ⟨B39, O39, C39, y39, hv39, hy39, hc39⟩ := at_ints f_26.ints (k) k39
        refine W_v rfl rfl (V_idx (k) rfl (es rfl (et rfl)) (et rfl) hv39 (by omega) k39 Tryd.underlying22 (by kernel_rfl)) ?_
        refine W_r rfl rfl (VR_ldC rfl (et rfl) hc39 Tryd.underlying3 rfl) ?_
        refine W_v rfl rfl (V_mov rfl (es rfl (es rfl (es rfl (es rfl l1_35))))) ?_
        refine W_v rfl rfl (V_eql rfl (es rfl (et rfl)) (et rfl)) ?_
        refine W_end ?_
        refine gen_Q (fun A40 hA40 => ?_)
        have hsz40 : SzN A40 38 := by rw [hA40]; infer_instance
        have hdf40 : A40.defers = [] := by rw [hA40]; simp only [df_put]; exact hdf35
        have l1_40 := lookE hA40 1 (es rfl (es rfl (es rfl (es rfl (es rfl (es rfl l1_35))))))
        have l2_40 := lookE hA40 2 (es rfl (es rfl (es rfl (es rfl (es rfl (es rfl l2_35))))))
        have l8_40 := lookE hA40 8 (es rfl (es rfl (es rfl (es rfl (es rfl (es rfl l8_35))))))
        have l9_40 := lookE hA40 9 (es rfl (es rfl (es rfl (es rfl (es rfl (es rfl l9_35))))))
        have l10_40 := lookE hA40 10 (es rfl (es rfl (es rfl (es rfl (es rfl (es rfl l10_35))))))
        have l35_40 := lookE hA40 35 (et rfl)
        clear hA40 hsz35 hdf35 l1_35 l2_35 l8_35 l9_35 l10_35 l27_35
        refine then_n (hK38 _ _ ?_)
        clear hK38
        refine cond_dec l35_40 (fun c41 => ?_) (fun c41 => ?_)
        · skip
          refine wp_seq_k (fun K42 hK42 => ?_)
          -- region 12
          refine region_in ?_
          refine W_v rfl rfl (V_mov rfl l8_40) ?_
          refine W_v rfl rfl (V_mov rfl (es rfl l10_40)) ?_
          refine W_v rfl rfl (V_asg rfl (es rfl (et rfl))) ?_
          refine W_v rfl rfl (V_asg rfl (es rfl (et rfl))) ?_
          refine W_v rfl rfl (V_asg rfl rfl) ?_
          refine W_end ?_
          refine gen_Q (fun A43 hA43 => ?_)
          have hsz43 : SzN A43 38 := by rw [hA43]; infer_instance
          have hdf43 : A43.defers = [] := by rw [hA43]; simp only [df_put]; exact hdf40
          have l4_43 := lookE hA43 4 (es rfl (es rfl (et rfl)))
          have l5_43 := lookE hA43 5 (es rfl (et rfl))
          have l6_43 := lookE hA43 6 (et rfl)
          clear hA43 hsz40 hdf40 l1_40 l2_40 l8_40 l9_40 l10_40 l35_40
          refine then_n (hK42 _ _ ?_)
          clear hK42
          refine wp_ret ?_
          refine inb_ret ?_
          refine then_ret ?_
          refine then_ret ?_
          refine inb_ret ?_
          refine inb_ret ?_
          refine then_ret ?_
          refine then_ret ?_
          refine inb_ret ?_
          refine then_ret ?_
          refine ret_in (results_3 Tryd.results46 (rv_tmp l4_43) (rv_tmp l5_43) (rv_tmp l6_43)) hdf43 ?_
          -- leaf FTTT
          have hs : findS lo yo c = ((i : Int), (k : Int), 0) := findS_hit (by simpa using c13) (by omega) h0 (by rw [← c41]; assumption) hn
          rw [hs]
          exact ⟨rfl, hE32⟩
        · skip
          refine wp_skip ?_
          refine inb_n ?_
          refine then_n (hK37 _ _ ?_)
          clear hK37
          -- region 10
          refine region_in ?_
          refine W_v rfl rfl (V_mov rfl l10_40) ?_
          refine W_v rfl rfl (V_add rfl (et rfl) rfl (by omega) (by omega)) ?_
          refine W_v rfl rfl (V_asg rfl (et rfl)) ?_
          refine W_end ?_
          refine gen_Q (fun A44 hA44 => ?_)
          have hsz44 : SzN A44 38 := by rw [hA44]; infer_instance
          have hdf44 : A44.defers = [] := by rw [hA44]; simp only [df_put]; exact hdf40
          have l1_44 := lookE hA44 1 (es rfl (es rfl (es rfl l1_40)))
          have l2_44 := lookE hA44 2 (es rfl (es rfl (es rfl l2_40)))
          have l8_44 := lookE hA44 8 (es rfl (es rfl (es rfl l8_40)))
          have l9_44 := lookE hA44 9 (es rfl (es rfl (es rfl l9_40)))
          have l10_44 := lookE hA44 10 (et rfl)
          clear hA44 hsz40 hdf40 l1_40 l2_40 l8_40 l9_40 l10_40 l35_40
          refine then_n ⟨(if (i : Int) = 0 then lo else yo).length - ((k + 1)), by simp only [hm32]; omega, hsz44, hdf44, hE32, (k + 1), rfl, (by omega), (find_step hn (by assumption) c41), ((l10_44).trans (by first | rfl | (simp; done) | (congr 1; omega))), ((l1_44).trans l1_31.symm), ((l2_44).trans l2_31.symm), ((l8_44).trans l8_31.symm), ((l9_44).trans l9_31.symm), b2, f_26⟩
      · skip
        refine wp_exit ?_
        refine then_exit ?_
        refine then_exit ?_
        refine inb_hit ?_
        refine inb_n ?_
        refine then_n (hK24 _ _ ?_)
        clear hK24
        -- region 6
        refine region_in ?_
        refine W_v rfl rfl (V_mov rfl l8_35) ?_
        refine W_v rfl rfl (V_add rfl (et rfl) rfl (by omega) (by omega)) ?_
        refine W_v rfl rfl (V_asg rfl (et rfl)) ?_
        refine W_end ?_
        refine gen_Q (fun A45 hA45 => ?_)
        have hsz45 : SzN A45 38 := by rw [hA45]; infer_instance
        have hdf45 : A45.defers = [] := by rw [hA45]; simp only [df_put]; exact hdf35
        have l1_45 := lookE hA45 1 (es rfl (es rfl (es rfl l1_35)))
        have l2_45 := lookE hA45 2 (es rfl (es rfl (es rfl l2_35)))
        have l8_45 := lookE hA45 8 (et rfl)
        clear hA45 hsz35 hdf35 l1_35 l2_35 l8_35 l9_35 l10_35 l27_35
        refine then_n ⟨2 - ((i + 1)), by simp only [hm19]; omega, hsz45, hdf45, hE32, (i + 1), rfl, (by omega), (fun _ => find_n0 (by omega) h0 hn (by omega)), (fun h => find_n1 h0 hn (by omega) (by omega)), ((l8_45).trans (by first | rfl | (simp; done) | (congr 1; omega))), ((l1_45).trans l1_18.symm), ((l2_45).trans l2_18.symm), b2⟩
    · skip
      refine wp_exit ?_
      refine then_exit ?_
      refine then_exit ?_
      refine inb_hit ?_
      refine then_n (hK16 _ _ ?_)
      clear hK16
      refine wp_seq_k (fun K46 hK46 => ?_)
      -- region 13
      refine region_in ?_
      refine W_v rfl rfl (V_asg rfl rfl) ?_
      refine W_v rfl rfl (V_asg rfl rfl) ?_
      refine W_v rfl rfl (V_asg rfl rfl) ?_
      refine W_end ?_
      refine gen_Q (fun A47 hA47 => ?_)
      have hsz47 : SzN A47 38 := by rw [hA47]; infer_instance
      have hdf47 : A47.defers = [] := by rw [hA47]; simp only [df_put]; exact hdf22
      have l4_47 := lookE hA47 4 (es rfl (es rfl (et rfl)))
      have l5_47 := lookE hA47 5 (es rfl (et rfl))
      have l6_47 := lookE hA47 6 (et rfl)
      clear hA47 hsz22 hdf22 l1_22 l2_22 l8_22 l18_22
      refine then_n (hK46 _ _ ?_)
      clear hK46
      refine wp_ret ?_
      refine ret_in (results_3 Tryd.results46 (rv_tmp l4_47) (rv_tmp l5_47) (rv_tmp l6_47)) hdf47 ?_
      -- leaf FF
      have hs : findS lo yo c = (-1, -1, 4) := findS_no (by simpa using c13) (h0 (by omega)) (h1 (by omega))
      rw [hs]
      exact ⟨rfl, hE19⟩

end Go.Proofs.YtodbfgfbkgpooaaDoor