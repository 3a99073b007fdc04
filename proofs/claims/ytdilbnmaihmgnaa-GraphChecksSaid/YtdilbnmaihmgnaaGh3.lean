import Derived.Test.YtdilbnmaihmgnaaProg
import Derived.Test.YtdilbnmaihmgnaaGh2
namespace Go.Proofs.Ytdilbnmaihmgnaa
open Go.RowKit Go.Own Go.Own.R Go.Own.G Go.Own.Gr


set_option maxHeartbeats 4000000 in
theorem kRd_c {ov : Value} {O : List Ob} {rv : Value} {rs : List Int} {a : Int} {f : Int} {w : World} (h_ov : Ro w NoX (rl 2 obC ov O)) (n_ov : Ro w NoX (nst O)) (h_rv : Ro w NoX (il .i64 rv rs))  :
    Calls Try.prog 26 #[.agg #[ov, rv], .int .i64 a, .int .i64 f] w fun e w' => e = .returned (.tuple #[.int .u64 (rdV (O.map ab) rs a f), .int .i64 (rwE (O.map ab) rs [a] a f)]) ∧ St w NoX [] w' := by
  refine calls_in 25 Try.func26 rfl rfl (by simp) (fun A0 hsz0 hdf0 hargs => ?_)
  have l0_0 := hargs 0 (.agg #[ov, rv]) rfl
  have l1_0 := hargs 1 (.int .i64 a) rfl
  have l2_0 := hargs 2 (.int .i64 f) rfl
  clear hargs; replace hsz0 : SzN A0 25 := ⟨hsz0⟩
  have hS := St.nil w
  have bh_ov := SlN.le (sl_SlN h_ov.at)
  have bh_rv := SlN.le (sl_SlN h_rv.at)
  refine wp_seq_k (fun K1 hK1 => ?_)
  -- region 0
  refine region_in ?_
  refine W_boxS (zs := #[ov, rv]) hS rfl rfl rfl l0_0 (by rfl) (fun g2 w2 c2 hc2 hS2 => ?_)
  replace hS2 : St w NoX [c2] w2 := hS2
  refine W_v rfl rfl (V_asg rfl rfl) ?_
  refine W_v rfl rfl (V_asg rfl rfl) ?_
  refine W_end ?_
  refine gen_Q (fun A3 hA3 => ?_)
  have hsz3 : SzN A3 25 := by rw [hA3]; infer_instance
  have hdf3 : A3.defers = [] := by rw [hA3]; simp only [df_put]; exact hdf0
  have l1_3 := lookE hA3 1 (es rfl (es rfl (es rfl l1_0)))
  have l2_3 := lookE hA3 2 (es rfl (es rfl (es rfl l2_0)))
  have l3_3 := lookE hA3 3 (es rfl (es rfl (et rfl)))
  clear hA3 hsz0 hdf0 l0_0 l1_0 l2_0
  refine then_n (hK1 _ _ ?_)
  clear hK1
  refine wp_seq_k (fun K4 hK4 => ?_)
  refine wp_seq_k (fun K5 hK5 => ?_)
  -- region 1
  refine region_in ?_
  refine W_r rfl rfl (VR_ldA rfl l3_3 (hS2.obj 0 rfl hc2) Try.underlying25 rfl (by kernel_rfl)) ?_
  refine W_v rfl rfl (V_mov rfl (es rfl l1_3)) ?_
  have hll6 : [a].length = 1 := rfl
  refine W_litS (vs := [.int .i64 (a)]) (xs := ([a].map (Value.int .i64))) 1 hS2 rfl rfl rfl (parts1 (et rfl)) rfl Try.underlying23 (by kernel_rfl) (by decide) (by intro v hv; simp only [List.mem_cons, List.not_mem_nil, or_false] at hv; rcases hv with rfl <;> rfl) (by rfl) (fun g6 w6 c6 hc6 hS6 => ?_)
  replace hc6 : c6 = io .i64 (.slice (some ⟨g6, 0, none⟩) 1 1) [a] := hc6
  replace hS6 : St w NoX [c6, c2] w6 := hS6
  refine W_call rfl rfl rfl Try.func47 (by kernel_rfl) rfl (args2 (es rfl (es rfl (et rfl))) (et rfl)) (kcd_c (hS6.roC h_ov) (hS6.roC n_ov) (hS6.roC h_rv) (hS6.chC 0 rfl hc6).own ) ?_
  rintro _ w7 ⟨rfl, hP7⟩
  refine ⟨_, rfl, ?_⟩
  have hS7 := hS6.join hP7
  replace hS7 : St w NoX [c6, c2] w7 := hS7
  refine W_v rfl rfl (V_asg rfl (et rfl)) ?_
  refine W_end ?_
  refine gen_Q (fun A8 hA8 => ?_)
  have hsz8 : SzN A8 25 := by rw [hA8]; infer_instance
  have hdf8 : A8.defers = [] := by rw [hA8]; simp only [df_put]; exact hdf3
  have l1_8 := lookE hA8 1 (es rfl (es rfl (es rfl (es rfl (es rfl l1_3)))))
  have l2_8 := lookE hA8 2 (es rfl (es rfl (es rfl (es rfl (es rfl l2_3)))))
  have l3_8 := lookE hA8 3 (es rfl (es rfl (es rfl (es rfl (es rfl l3_3)))))
  have l8_8 := lookE hA8 8 (et rfl)
  clear hA8 hsz3 hdf3 l1_3 l2_3 l3_3
  have hS9 : St w NoX [c2] w7 := hS7.sel [1] (by decide) rfl
  refine then_n (hK5 _ _ ?_)
  clear hK5
  refine wp_seq_k (fun K10 hK10 => ?_)
  -- region 2
  refine region_in ?_
  refine W_v rfl rfl (V_mov rfl l8_8) ?_
  refine W_v rfl rfl (V_neq rfl (et rfl) rfl) ?_
  refine W_end ?_
  refine gen_Q (fun A11 hA11 => ?_)
  have hsz11 : SzN A11 25 := by rw [hA11]; infer_instance
  have hdf11 : A11.defers = [] := by rw [hA11]; simp only [df_put]; exact hdf8
  have l1_11 := lookE hA11 1 (es rfl (es rfl l1_8))
  have l2_11 := lookE hA11 2 (es rfl (es rfl l2_8))
  have l3_11 := lookE hA11 3 (es rfl (es rfl l3_8))
  have l8_11 := lookE hA11 8 (es rfl (es rfl l8_8))
  have l15_11 := lookE hA11 15 (et rfl)
  clear hA11 hsz8 hdf8 l1_8 l2_8 l3_8 l8_8
  refine then_n (hK10 _ _ ?_)
  clear hK10
  refine cond_dec l15_11 (fun c12 => ?_) (fun c12 => ?_)
  · skip
    refine wp_seq_k (fun K13 hK13 => ?_)
    -- region 3
    refine region_in ?_
    refine W_v rfl rfl (V_mov rfl l8_11) ?_
    refine W_v rfl rfl (V_asg rfl rfl) ?_
    refine W_v rfl rfl (V_asg rfl (es rfl (et rfl))) ?_
    refine W_end ?_
    refine gen_Q (fun A14 hA14 => ?_)
    have hsz14 : SzN A14 25 := by rw [hA14]; infer_instance
    have hdf14 : A14.defers = [] := by rw [hA14]; simp only [df_put]; exact hdf11
    have l6_14 := lookE hA14 6 (es rfl (et rfl))
    have l7_14 := lookE hA14 7 (et rfl)
    clear hA14 hsz11 hdf11 l1_11 l2_11 l3_11 l8_11 l15_11
    have hS15 : St w NoX [] w7 := hS9.sel [] (by decide) rfl
    refine then_n (hK13 _ _ ?_)
    clear hK13
    refine wp_ret ?_
    refine then_ret ?_
    refine ret_in (results_2 Try.results26 (rv_tmp l6_14) (rv_tmp l7_14)) hdf14 ?_
    -- leaf T
    have h := rw_ck (f := f) (by assumption)
    rw [h.1, h.2]
    exact ⟨rfl, hS15.fin0⟩
  · skip
    have hcd : ckd (O.map ab) rs [a] = 0 := by simpa using c12
    have hG0 := (ckd_0.1 hcd).1
    have hG := hG0
    have hrg : ∀ p ∈ rs, 0 ≤ p ∧ p ≤ (O.length : Int) := fun p hp => by have q := hG0.reg p hp; rw [List.length_map] at q; exact q
    have ha := (ckd_0.1 hcd).2 a (by simp)
    refine wp_skip ?_
    refine then_n (hK4 _ _ ?_)
    clear hK4
    refine wp_seq_k (fun K16 hK16 => ?_)
    -- region 4
    refine region_in ?_
    refine W_v rfl rfl (V_mov rfl l1_11) ?_
    refine W_v rfl rfl (V_mov rfl (es rfl l2_11)) ?_
    refine W_call rfl rfl rfl Try.func55 (by kernel_rfl) rfl (args3 (es rfl (es rfl l3_11)) (es rfl (et rfl)) (et rfl)) (krw_c (gov := g2) (a := a) (f := f) (hS9.roC h_ov) (hS9.roC n_ov) (hS9.roC h_rv) (hS9.chC 0 rfl hc2) (by first | with_reducible assumption | (have q := hG.reg; simpa using q)) (by first | omega | with_reducible assumption)) ?_
    rintro _ w17 (⟨rfl, hz_17, hP17⟩ | ⟨B_17, O_17, C_17, y_17, x_17, rfl, hv_17, hy_17, hx_17, hz_17, hob_17, hP17⟩)
    · refine ⟨_, rfl, ?_⟩
      have hS17 := hS9.join hP17
      replace hS17 : St w NoX [c2] w17 := hS17
      refine W_v rfl rfl (V_asg rfl (et rfl)) ?_
      refine W_end ?_
      refine gen_Q (fun A18 hA18 => ?_)
      have hsz18 : SzN A18 25 := by rw [hA18]; infer_instance
      have hdf18 : A18.defers = [] := by rw [hA18]; simp only [df_put]; exact hdf11
      have l9_18 := lookE hA18 9 (et rfl)
      clear hA18 hsz11 hdf11 l1_11 l2_11 l3_11 l8_11 l15_11
      have hS19 : St w NoX [] w17 := hS17.sel [] (by decide) rfl
      refine then_n (hK16 _ _ ?_)
      clear hK16
      refine wp_seq_k (fun K20 hK20 => ?_)
      refine wp_seq_k (fun K21 hK21 => ?_)
      -- region 5
      refine region_in ?_
      refine W_v rfl rfl (V_mov rfl l9_18) ?_
      refine W_v rfl rfl (V_eqNN rfl (et rfl) rfl Try.underlying76) ?_
      refine W_end ?_
      refine gen_Q (fun A22 hA22 => ?_)
      have hsz22 : SzN A22 25 := by rw [hA22]; infer_instance
      have hdf22 : A22.defers = [] := by rw [hA22]; simp only [df_put]; exact hdf18
      have l9_22 := lookE hA22 9 (es rfl (es rfl l9_18))
      have l21_22 := lookE hA22 21 (et rfl)
      clear hA22 hsz18 hdf18 l9_18
      refine then_n (hK21 _ _ ?_)
      clear hK21
      refine cond_t l21_22 ?_
      refine wp_seq_k (fun K23 hK23 => ?_)
      -- region 6
      refine region_in ?_
      refine W_v rfl rfl (V_asg rfl rfl) ?_
      refine W_v rfl rfl (V_asg rfl rfl) ?_
      refine W_end ?_
      refine gen_Q (fun A24 hA24 => ?_)
      have hsz24 : SzN A24 25 := by rw [hA24]; infer_instance
      have hdf24 : A24.defers = [] := by rw [hA24]; simp only [df_put]; exact hdf22
      have l6_24 := lookE hA24 6 (es rfl (et rfl))
      have l7_24 := lookE hA24 7 (et rfl)
      clear hA24 hsz22 hdf22 l9_22 l21_22
      refine then_n (hK23 _ _ ?_)
      clear hK23
      refine wp_ret ?_
      refine then_ret ?_
      refine ret_in (results_2 Try.results26 (rv_tmp l6_24) (rv_tmp l7_24)) hdf24 ?_
      -- leaf Fn
      have h := rw_no (f := f) hcd hz_17
      rw [h.1, h.2]
      exact ⟨rfl, hS19.fin0⟩
    · refine ⟨_, rfl, ?_⟩
      have hS17 := hS9.join hP17
      replace hS17 : St w NoX [c2] w17 := hS17
      have fn25 : Ro w NoX (il .i64 y_17.1.1 y_17.1.2) := nst_ro1 n_ov hy_17
      have bfn25 := SlN.le (sl_SlN (hS17.ro fn25))
      have fn26 : Ro w NoX (il .u64 y_17.2.1 y_17.2.2) := nst_ro2 n_ov hy_17
      have bfn26 := SlN.le (sl_SlN (hS17.ro fn26))
      refine W_v rfl rfl (V_asg rfl (et rfl)) ?_
      refine W_end ?_
      refine gen_Q (fun A27 hA27 => ?_)
      have hsz27 : SzN A27 25 := by rw [hA27]; infer_instance
      have hdf27 : A27.defers = [] := by rw [hA27]; simp only [df_put]; exact hdf11
      have l9_27 := lookE hA27 9 (et rfl)
      clear hA27 hsz11 hdf11 l1_11 l2_11 l3_11 l8_11 l15_11
      have hS28 : St w NoX [] w17 := hS17.sel [] (by decide) rfl
      refine then_n (hK16 _ _ ?_)
      clear hK16
      refine wp_seq_k (fun K29 hK29 => ?_)
      refine wp_seq_k (fun K30 hK30 => ?_)
      -- region 5
      refine region_in ?_
      refine W_v rfl rfl (V_mov rfl l9_27) ?_
      refine W_v rfl rfl (V_eqPN rfl (et rfl) rfl Try.underlying76) ?_
      refine W_end ?_
      refine gen_Q (fun A31 hA31 => ?_)
      have hsz31 : SzN A31 25 := by rw [hA31]; infer_instance
      have hdf31 : A31.defers = [] := by rw [hA31]; simp only [df_put]; exact hdf27
      have l9_31 := lookE hA31 9 (es rfl (es rfl l9_27))
      have l21_31 := lookE hA31 21 (et rfl)
      clear hA31 hsz27 hdf27 l9_27
      refine then_n (hK30 _ _ ?_)
      clear hK30
      refine cond_f l21_31 ?_
      refine wp_skip ?_
      refine then_n (hK29 _ _ ?_)
      clear hK29
      refine wp_seq_k (fun K32 hK32 => ?_)
      -- region 7
      refine region_in ?_
      refine W_v rfl rfl (V_mov rfl l9_31) ?_
      refine W_v rfl rfl (V_nil rfl (et rfl)) ?_
      refine W_r rfl rfl (VR_ldC rfl (et rfl) ((sl_SlN (hS28.ro fn26)).cell hv_17 (map_get hx_17)) Try.underlying45 rfl) ?_
      refine W_v rfl rfl (V_asg rfl (et rfl)) ?_
      refine W_v rfl rfl (V_asg rfl rfl) ?_
      refine W_end ?_
      refine gen_Q (fun A33 hA33 => ?_)
      have hsz33 : SzN A33 25 := by rw [hA33]; infer_instance
      have hdf33 : A33.defers = [] := by rw [hA33]; simp only [df_put]; exact hdf31
      have l6_33 := lookE hA33 6 (es rfl (et rfl))
      have l7_33 := lookE hA33 7 (et rfl)
      clear hA33 hsz31 hdf31 l9_31 l21_31
      refine then_n (hK32 _ _ ?_)
      clear hK32
      refine wp_ret ?_
      refine ret_in (results_2 Try.results26 (rv_tmp l6_33) (rv_tmp l7_33)) hdf33 ?_
      -- leaf Fs
      have h := rw_ok (f := f) hcd hz_17 hob_17 hx_17
      rw [h.1, h.2]
      exact ⟨rfl, hS28.fin0⟩

set_option maxHeartbeats 4000000 in
theorem qid_c {ov : Value} {O : List Ob} {rv : Value} {rs : List Int} {n : Int} {w : World} (h_ov : Ro w NoX (rl 2 obC ov O)) (n_ov : Ro w NoX (nst O)) (h_rv : Ro w NoX (il .i64 rv rs))  :
    Calls Try.prog 46 #[.agg #[ov, rv], .int .i64 n] w fun e w' => e = .returned (.bool (decide (0 ≤ n ∧ n ≤ (O.length : Int)))) ∧ St w NoX [] w' := by
  refine calls_in 14 Try.func46 rfl rfl (by simp) (fun A0 hsz0 hdf0 hargs => ?_)
  have l0_0 := hargs 0 (.agg #[ov, rv]) rfl
  have l1_0 := hargs 1 (.int .i64 n) rfl
  clear hargs; replace hsz0 : SzN A0 14 := ⟨hsz0⟩
  have hS := St.nil w
  have bh_ov := SlN.le (sl_SlN h_ov.at)
  have bh_rv := SlN.le (sl_SlN h_rv.at)
  refine wp_seq_k (fun K1 hK1 => ?_)
  -- region 0
  refine region_in ?_
  refine W_boxS (zs := #[ov, rv]) hS rfl rfl rfl l0_0 (by rfl) (fun g2 w2 c2 hc2 hS2 => ?_)
  replace hS2 : St w NoX [c2] w2 := hS2
  refine W_v rfl rfl (V_asg rfl rfl) ?_
  refine W_end ?_
  refine gen_Q (fun A3 hA3 => ?_)
  have hsz3 : SzN A3 14 := by rw [hA3]; infer_instance
  have hdf3 : A3.defers = [] := by rw [hA3]; simp only [df_put]; exact hdf0
  have l1_3 := lookE hA3 1 (es rfl (es rfl l1_0))
  have l2_3 := lookE hA3 2 (es rfl (et rfl))
  clear hA3 hsz0 hdf0 l0_0 l1_0
  refine then_n (hK1 _ _ ?_)
  clear hK1
  refine wp_seq_k (fun K4 hK4 => ?_)
  -- region 1
  refine region_in ?_
  refine W_v rfl rfl (V_mov rfl l1_3) ?_
  refine W_v rfl rfl (V_geq rfl (et rfl) rfl) ?_
  refine W_split rfl rfl (V_mov rfl (et rfl)) (fun c5 => ?_) (fun c5 => ?_)
  · skip
    refine W_v rfl (wanted_t rfl rfl (et rfl) (ez rfl)) (V_mov rfl (es rfl (es rfl (es rfl l1_3)))) ?_
    refine W_v rfl (wanted_t rfl rfl (es rfl (et rfl)) (ez rfl)) (V_fa (off' := 0) rfl (es rfl (es rfl (es rfl (es rfl l2_3)))) Try.underlying25 rfl (by decide +kernel) rfl) ?_
    refine W_r rfl (wanted_t rfl rfl (es rfl (es rfl (et rfl))) (ez rfl)) (VR_ldC rfl (et rfl) (cell_box (v := ov) (hS2.obj 0 rfl hc2) rfl) Try.underlying22 rfl) ?_
    refine W_v rfl (wanted_t rfl rfl (es rfl (es rfl (es rfl (et rfl)))) (ez rfl)) (V_lenS rfl (et rfl) (sl_SlN h_ov.at) Try.underlying22) ?_
    refine W_v rfl (wanted_t rfl rfl (es rfl (es rfl (es rfl (es rfl (et rfl))))) (ez rfl)) (V_leq rfl (es rfl (es rfl (es rfl (et rfl)))) (et rfl)) ?_
    refine W_v rfl rfl (V_pickT rfl (es rfl (es rfl (es rfl (es rfl (es rfl (et rfl)))))) (et rfl)) ?_
    refine W_v rfl rfl (V_asg rfl (et rfl)) ?_
    refine W_end ?_
    refine gen_Q (fun A6 hA6 => ?_)
    have hsz6 : SzN A6 14 := by rw [hA6]; infer_instance
    have hdf6 : A6.defers = [] := by rw [hA6]; simp only [df_put]; exact hdf3
    have l4_6 := lookE hA6 4 (et rfl)
    clear hA6 hsz3 hdf3 l1_3 l2_3
    have hS7 : St w NoX [] w2 := hS2.sel [] (by decide) rfl
    refine then_n (hK4 _ _ ?_)
    clear hK4
    refine wp_ret ?_
    refine ret_in (results_1 Try.results46 (rv_tmp l4_6)) hdf6 ?_
    -- leaf T
    rw [show (decide (0 ≤ n ∧ n ≤ (O.length : Int))) = decide (n ≤ (O.length : Int)) by exact decide_eq_decide.2 (by omega)]
    exact ⟨rfl, hS7.fin0⟩
  · skip
    refine W_off rfl (wanted_f rfl rfl (et rfl) (ez rfl) rfl) ?_
    refine W_off rfl (wanted_f rfl rfl (es rfl (et rfl)) (ez rfl) rfl) ?_
    refine W_off rfl (wanted_f rfl rfl (es rfl (es rfl (et rfl))) (ez rfl) rfl) ?_
    refine W_off rfl (wanted_f rfl rfl (es rfl (es rfl (es rfl (et rfl)))) (ez rfl) rfl) ?_
    refine W_off rfl (wanted_f rfl rfl (es rfl (es rfl (es rfl (es rfl (et rfl))))) (ez rfl) rfl) ?_
    refine W_v rfl rfl (V_pickF rfl (es rfl (es rfl (es rfl (es rfl (es rfl (et rfl)))))) rfl) ?_
    refine W_v rfl rfl (V_asg rfl (et rfl)) ?_
    refine W_end ?_
    refine gen_Q (fun A8 hA8 => ?_)
    have hsz8 : SzN A8 14 := by rw [hA8]; infer_instance
    have hdf8 : A8.defers = [] := by rw [hA8]; simp only [df_put]; exact hdf3
    have l4_8 := lookE hA8 4 (et rfl)
    clear hA8 hsz3 hdf3 l1_3 l2_3
    have hS9 : St w NoX [] w2 := hS2.sel [] (by decide) rfl
    refine then_n (hK4 _ _ ?_)
    clear hK4
    refine wp_ret ?_
    refine ret_in (results_1 Try.results46 (rv_tmp l4_8)) hdf8 ?_
    -- leaf F
    rw [show (decide (0 ≤ n ∧ n ≤ (O.length : Int))) = false by exact decide_eq_false (by omega)]
    exact ⟨rfl, hS9.fin0⟩

set_option maxHeartbeats 4000000 in
theorem qCk_c {ov : Value} {O : List Ob} {rv : Value} {rs : List Int} {w : World} (h_ov : Ro w NoX (rl 2 obC ov O)) (n_ov : Ro w NoX (nst O)) (h_rv : Ro w NoX (il .i64 rv rs))  :
    Calls Try.prog 15 #[.agg #[ov, rv]] w fun e w' => e = .returned (.tuple #[.int .i64 (ckG (O.map ab) rs).1, .int .i64 (ckG (O.map ab) rs).2]) ∧ St w NoX [] w' := by
  refine calls_in 76 Try.func15 rfl rfl (by simp) (fun A0 hsz0 hdf0 hargs => ?_)
  have l0_0 := hargs 0 (.agg #[ov, rv]) rfl
  clear hargs; replace hsz0 : SzN A0 76 := ⟨hsz0⟩
  have hS := St.nil w
  have bh_ov := SlN.le (sl_SlN h_ov.at)
  have bh_rv := SlN.le (sl_SlN h_rv.at)
  refine wp_seq_k (fun K1 hK1 => ?_)
  -- region 0
  refine region_in ?_
  refine W_boxS (zs := #[ov, rv]) hS rfl rfl rfl l0_0 (by rfl) (fun g2 w2 c2 hc2 hS2 => ?_)
  replace hS2 : St w NoX [c2] w2 := hS2
  refine W_v rfl rfl (V_asg rfl rfl) ?_
  refine W_v rfl rfl (V_asg rfl rfl) ?_
  refine W_end ?_
  refine gen_Q (fun A3 hA3 => ?_)
  have hsz3 : SzN A3 76 := by rw [hA3]; infer_instance
  have hdf3 : A3.defers = [] := by rw [hA3]; simp only [df_put]; exact hdf0
  have l1_3 := lookE hA3 1 (es rfl (es rfl (et rfl)))
  clear hA3 hsz0 hdf0 l0_0
  refine then_n (hK1 _ _ ?_)
  clear hK1
  refine wp_seq_k (fun K4 hK4 => ?_)
  refine wp_seq_k (fun K5 hK5 => ?_)
  -- region 1
  refine region_in ?_
  refine W_v rfl rfl (V_fa (off' := 1) rfl l1_3 Try.underlying25 rfl (by decide +kernel) rfl) ?_
  refine W_r rfl rfl (VR_ldC rfl (et rfl) (cell_box (v := rv) (hS2.obj 0 rfl hc2) rfl) Try.underlying23 rfl) ?_
  refine W_v rfl rfl (V_lenS rfl (et rfl) (sl_SlN h_rv.at) Try.underlying23) ?_
  refine W_v rfl rfl (V_lss rfl (et rfl) rfl) ?_
  refine W_split rfl rfl (V_mov rfl (et rfl)) (fun c6 => ?_) (fun c6 => ?_)
  · skip
    refine W_off rfl (wanted_f rfl rfl (et rfl) (ez rfl) rfl) ?_
    refine W_off rfl (wanted_f rfl rfl (es rfl (et rfl)) (ez rfl) rfl) ?_
    refine W_off rfl (wanted_f rfl rfl (es rfl (es rfl (et rfl))) (ez rfl) rfl) ?_
    refine W_off rfl (wanted_f rfl rfl (es rfl (es rfl (es rfl (et rfl)))) (ez rfl) rfl) ?_
    refine W_v rfl rfl (V_pickT rfl (es rfl (es rfl (es rfl (es rfl (et rfl))))) rfl) ?_
    refine W_end ?_
    refine gen_Q (fun A7 hA7 => ?_)
    have hsz7 : SzN A7 76 := by rw [hA7]; infer_instance
    have hdf7 : A7.defers = [] := by rw [hA7]; simp only [df_put]; exact hdf3
    have l1_7 := lookE hA7 1 (es rfl (es rfl (es rfl (es rfl (es rfl (es rfl (es rfl (es rfl (es rfl (es rfl l1_3))))))))))
    have l17_7 := lookE hA7 17 (et rfl)
    clear hA7 hsz3 hdf3 l1_3
    refine then_n (hK5 _ _ ?_)
    clear hK5
    refine cond_t l17_7 ?_
    refine wp_seq_k (fun K8 hK8 => ?_)
    -- region 2
    refine region_in ?_
    refine W_v rfl rfl (V_asg rfl rfl) ?_
    refine W_v rfl rfl (V_asg rfl rfl) ?_
    refine W_end ?_
    refine gen_Q (fun A9 hA9 => ?_)
    have hsz9 : SzN A9 76 := by rw [hA9]; infer_instance
    have hdf9 : A9.defers = [] := by rw [hA9]; simp only [df_put]; exact hdf7
    have l2_9 := lookE hA9 2 (es rfl (et rfl))
    have l3_9 := lookE hA9 3 (et rfl)
    clear hA9 hsz7 hdf7 l1_7 l17_7
    have hS10 : St w NoX [] w2 := hS2.sel [] (by decide) rfl
    refine then_n (hK8 _ _ ?_)
    clear hK8
    refine wp_ret ?_
    refine then_ret ?_
    refine ret_in (results_2 Try.results15 (rv_tmp l2_9) (rv_tmp l3_9)) hdf9 ?_
    -- leaf T
    have h : ckG (O.map ab) rs = (0, 7) := ckG_rng (by omega)
    rw [h]
    exact ⟨rfl, hS10.fin0⟩
  · skip
    refine W_v rfl (wanted_t rfl rfl (et rfl) (ez rfl)) (V_fa (off' := 1) rfl (es rfl (es rfl (es rfl (es rfl (es rfl l1_3))))) Try.underlying25 rfl (by decide +kernel) rfl) ?_
    refine W_r rfl (wanted_t rfl rfl (es rfl (et rfl)) (ez rfl)) (VR_ldC rfl (et rfl) (cell_box (v := rv) (hS2.obj 0 rfl hc2) rfl) Try.underlying23 rfl) ?_
    refine W_v rfl (wanted_t rfl rfl (es rfl (es rfl (et rfl))) (ez rfl)) (V_lenS rfl (et rfl) (sl_SlN h_rv.at) Try.underlying23) ?_
    refine W_v rfl (wanted_t rfl rfl (es rfl (es rfl (es rfl (et rfl)))) (ez rfl)) (V_gtr rfl (et rfl) rfl) ?_
    refine W_v rfl rfl (V_pickF rfl (es rfl (es rfl (es rfl (es rfl (et rfl))))) (et rfl)) ?_
    refine W_end ?_
    refine gen_Q (fun A11 hA11 => ?_)
    have hsz11 : SzN A11 76 := by rw [hA11]; infer_instance
    have hdf11 : A11.defers = [] := by rw [hA11]; simp only [df_put]; exact hdf3
    have l1_11 := lookE hA11 1 (es rfl (es rfl (es rfl (es rfl (es rfl (es rfl (es rfl (es rfl (es rfl (es rfl l1_3))))))))))
    have l17_11 := lookE hA11 17 (et rfl)
    clear hA11 hsz3 hdf3 l1_3
    refine then_n (hK5 _ _ ?_)
    clear hK5
    refine cond_dec l17_11 (fun c12 => ?_) (fun c12 => ?_)
    · skip
      refine wp_seq_k (fun K13 hK13 => ?_)
      -- region 2
      refine region_in ?_
      refine W_v rfl rfl (V_asg rfl rfl) ?_
      refine W_v rfl rfl (V_asg rfl rfl) ?_
      refine W_end ?_
      refine gen_Q (fun A14 hA14 => ?_)
      have hsz14 : SzN A14 76 := by rw [hA14]; infer_instance
      have hdf14 : A14.defers = [] := by rw [hA14]; simp only [df_put]; exact hdf11
      have l2_14 := lookE hA14 2 (es rfl (et rfl))
      have l3_14 := lookE hA14 3 (et rfl)
      clear hA14 hsz11 hdf11 l1_11 l17_11
      have hS15 : St w NoX [] w2 := hS2.sel [] (by decide) rfl
      refine then_n (hK13 _ _ ?_)
      clear hK13
      refine wp_ret ?_
      refine then_ret ?_
      refine ret_in (results_2 Try.results15 (rv_tmp l2_14) (rv_tmp l3_14)) hdf14 ?_
      -- leaf FT
      have h : ckG (O.map ab) rs = (0, 7) := ckG_rng (by omega)
      rw [h]
      exact ⟨rfl, hS15.fin0⟩
    · skip
      refine wp_skip ?_
      refine then_n (hK4 _ _ ?_)
      clear hK4
      refine wp_seq_k (fun K16 hK16 => ?_)
      refine wp_seq_k (fun K17 hK17 => ?_)
      -- region 3
      refine region_in ?_
      refine W_v rfl rfl (V_fa (off' := 0) rfl l1_11 Try.underlying25 rfl (by decide +kernel) rfl) ?_
      refine W_r rfl rfl (VR_ldC rfl (et rfl) (cell_box (v := ov) (hS2.obj 0 rfl hc2) rfl) Try.underlying22 rfl) ?_
      refine W_v rfl rfl (V_lenS rfl (et rfl) (sl_SlN h_ov.at) Try.underlying22) ?_
      refine W_v rfl rfl (V_gtr rfl (et rfl) rfl) ?_
      refine W_end ?_
      refine gen_Q (fun A18 hA18 => ?_)
      have hsz18 : SzN A18 76 := by rw [hA18]; infer_instance
      have hdf18 : A18.defers = [] := by rw [hA18]; simp only [df_put]; exact hdf11
      have l1_18 := lookE hA18 1 (es rfl (es rfl (es rfl (es rfl l1_11))))
      have l21_18 := lookE hA18 21 (et rfl)
      clear hA18 hsz11 hdf11 l1_11 l17_11
      refine then_n (hK17 _ _ ?_)
      clear hK17
      refine cond_dec l21_18 (fun c19 => ?_) (fun c19 => ?_)
      · skip
        refine wp_seq_k (fun K20 hK20 => ?_)
        -- region 4
        refine region_in ?_
        refine W_v rfl rfl (V_asg rfl rfl) ?_
        refine W_v rfl rfl (V_asg rfl rfl) ?_
        refine W_end ?_
        refine gen_Q (fun A21 hA21 => ?_)
        have hsz21 : SzN A21 76 := by rw [hA21]; infer_instance
        have hdf21 : A21.defers = [] := by rw [hA21]; simp only [df_put]; exact hdf18
        have l2_21 := lookE hA21 2 (es rfl (et rfl))
        have l3_21 := lookE hA21 3 (et rfl)
        clear hA21 hsz18 hdf18 l1_18 l21_18
        have hS22 : St w NoX [] w2 := hS2.sel [] (by decide) rfl
        refine then_n (hK20 _ _ ?_)
        clear hK20
        refine wp_ret ?_
        refine then_ret ?_
        refine ret_in (results_2 Try.results15 (rv_tmp l2_21) (rv_tmp l3_21)) hdf21 ?_
        -- leaf FFT
        have h : ckG (O.map ab) rs = (0, 3) := ckG_long (by omega) (by rw [List.length_map]; omega)
        rw [h]
        exact ⟨rfl, hS22.fin0⟩
      · skip
        refine wp_skip ?_
        refine then_n (hK16 _ _ ?_)
        clear hK16
        refine wp_seq_k (fun K23 hK23 => ?_)
        refine wp_seq_k (fun K24 hK24 => ?_)
        -- region 5
        refine region_in ?_
        refine W_v rfl rfl (V_asg rfl rfl) ?_
        refine W_end ?_
        refine gen_Q (fun A25 hA25 => ?_)
        have hsz25 : SzN A25 76 := by rw [hA25]; infer_instance
        have hdf25 : A25.defers = [] := by rw [hA25]; simp only [df_put]; exact hdf18
        have l1_25 := lookE hA25 1 (es rfl l1_18)
        have l4_25 := lookE hA25 4 (et rfl)
        clear hA25 hsz18 hdf18 l1_18 l21_18
        refine then_n (hK24 _ _ ?_)
        clear hK24
        refine wp_block ?_
        -- loop 6
        refine loopX (fun mz A' w' => SzN A' 76 ∧ A'.defers = [] ∧ (∃ (k : Nat), (mz = O.length - k) ∧ (k ≤ O.length) ∧ (cgAt (O.map ab) k) ∧ (EV A' (.tmp 4) = .int .i64 (k : Int)) ∧ (EV A' (.tmp 1) = EV A25 (.tmp 1)) ∧ (St w NoX [bx g2 25 #[ov, rv]] w'))) (O.length - 0) ⟨hsz25, hdf25, 0, rfl, (by omega), rfl, ((l4_25).trans (by first | rfl | (simp; done) | (congr 1; omega))), rfl, (by subst hc2; exact hS2)⟩ ?_
        clear hS2 hc2
        rintro n26 A26 w26 ⟨hsz26, hdf26, k, hm26, hk, hz, l4_26, u1_26, hS26⟩
        have l1_26 := u1_26.trans l1_25
        obtain ⟨c2_26, hc2_26, hS26⟩ := gen1 hS26
        refine wp_seq_k (fun K27 hK27 => ?_)
        refine wp_seq_k (fun K28 hK28 => ?_)
        -- region 6
        refine region_in ?_
        refine W_v rfl rfl (V_mov rfl l4_26) ?_
        refine W_v rfl rfl (V_fa (off' := 0) rfl (es rfl l1_26) Try.underlying25 rfl (by decide +kernel) rfl) ?_
        refine W_r rfl rfl (VR_ldC rfl (et rfl) (cell_box (v := ov) (hS26.obj 0 rfl hc2_26) rfl) Try.underlying22 rfl) ?_
        refine W_v rfl rfl (V_lenS rfl (et rfl) (sl_SlN h_ov.at) Try.underlying22) ?_
        refine W_v rfl rfl (V_lss rfl (es rfl (es rfl (es rfl (et rfl)))) (et rfl)) ?_
        refine W_end ?_
        refine gen_Q (fun A29 hA29 => ?_)
        have hsz29 : SzN A29 76 := by rw [hA29]; infer_instance
        have hdf29 : A29.defers = [] := by rw [hA29]; simp only [df_put]; exact hdf26
        have l1_29 := lookE hA29 1 (es rfl (es rfl (es rfl (es rfl (es rfl l1_26)))))
        have l4_29 := lookE hA29 4 (es rfl (es rfl (es rfl (es rfl (es rfl l4_26)))))
        have l26_29 := lookE hA29 26 (et rfl)
        clear hA29 hsz26 hdf26 l4_26 l1_26
        refine then_n (hK28 _ _ ?_)
        clear hK28
        refine cond_dec l26_29 (fun c30 => ?_) (fun c30 => ?_)
        · skip
          refine wp_skip ?_
          refine then_n (hK27 _ _ ?_)
          clear hK27
          refine wp_seq_k (fun K31 hK31 => ?_)
          refine wp_block ?_
          refine wp_seq_k (fun K32 hK32 => ?_)
          -- region 8
          refine region_in ?_
          refine W_v rfl rfl (V_fa (off' := 0) rfl l1_29 Try.underlying25 rfl (by decide +kernel) rfl) ?_
          refine W_r rfl rfl (VR_ldC rfl (et rfl) (cell_box (v := ov) (hS26.obj 0 rfl hc2_26) rfl) Try.underlying22 rfl) ?_
          refine W_v rfl rfl (V_mov rfl (es rfl (es rfl l4_29))) ?_
          have k33 : k < O.length := by first | omega | (simp only [List.length_cons, List.length_nil]; omega) | (simp only [List.length_set]; omega)
          obtain ⟨y33, hy33⟩ := get_some (xs := O) (k := k) k33
          have hm33 : (O.map ab)[k]? = some (ab y33) := mapE hy33
          obtain ⟨B33, O33, C33, hv33⟩ := (SlN.blk (sl_SlN h_ov.at) (by first | omega | (simp only [List.length_cons, List.length_nil]; omega) | (simp only [List.length_set]; omega)))
          refine W_v rfl rfl (V_ixS (off := O33 + k * 2) 2 (k) rfl (es rfl (et rfl)) (et rfl) hv33 (by omega) k33 Try.underlying22 (by kernel_rfl) rfl) ?_
          have fn34 : Ro w NoX (il .i64 y33.1.1 y33.1.2) := nst_ro1 n_ov hy33
          have bfn34 := SlN.le (sl_SlN (hS26.ro fn34))
          have fn35 : Ro w NoX (il .u64 y33.2.1 y33.2.2) := nst_ro2 n_ov hy33
          have bfn35 := SlN.le (sl_SlN (hS26.ro fn35))
          refine W_r rfl rfl (VR_ldR (ys := obC y33) rfl (et rfl) (SlN.row obC_len (sl_SlN (hS26.ro h_ov)) hv33 hy33 rfl) Try.underlying40 rfl (by kernel_rfl)) ?_
          refine W_allocS (z := .agg #[.slice none 0 0, .slice none 0 0]) (zs := #[.slice none 0 0, .slice none 0 0]) hS26 rfl rfl rfl (by kernel_rfl) (by rfl) (fun g36 w36 c36 hc36 hS36 => ?_)
          replace hS36 : St w NoX [c36, c2_26] w36 := hS36
          refine W_stAS 0 hS36 rfl hc36 rfl rfl rfl (et rfl) (es rfl (et rfl)) (by simp only [List.all_toArray, List.all_cons, List.all_nil, obC, SlN_one (sl_SlN fn34.at), SlN_one (sl_SlN fn35.at)] <;> rfl) (by rfl) (by kernel_rfl) (fun w37 c37 hc37 hS37 => ?_)
          replace hS37 : St w NoX [c37, c2_26] w37 := hS37
          refine W_end ?_
          refine gen_Q (fun A38 hA38 => ?_)
          have hsz38 : SzN A38 76 := by rw [hA38]; infer_instance
          have hdf38 : A38.defers = [] := by rw [hA38]; simp only [df_put]; exact hdf29
          have l1_38 := lookE hA38 1 (es rfl (es rfl (es rfl (es rfl (es rfl (es rfl l1_29))))))
          have l4_38 := lookE hA38 4 (es rfl (es rfl (es rfl (es rfl (es rfl (es rfl l4_29))))))
          have l5_38 := lookE hA38 5 (et rfl)
          clear hA38 hsz29 hdf29 l1_29 l4_29 l26_29
          refine then_n (hK32 _ _ ?_)
          clear hK32
          refine wp_seq_k (fun K39 hK39 => ?_)
          refine wp_seq_k (fun K40 hK40 => ?_)
          -- region 9
          refine region_in ?_
          refine W_v rfl rfl (V_fa (off' := 0) rfl l5_38 Try.underlying40 rfl (by decide +kernel) rfl) ?_
          refine W_r rfl rfl (VR_ldC rfl (et rfl) (cell_box (v := y33.1.1) (hS37.obj 0 rfl hc37) rfl) Try.underlying23 rfl) ?_
          refine W_v rfl rfl (V_lenS rfl (et rfl) (sl_SlN fn34.at) Try.underlying23) ?_
          refine W_v rfl rfl (V_fa (off' := 1) rfl (es rfl (es rfl (es rfl l5_38))) Try.underlying40 rfl (by decide +kernel) rfl) ?_
          refine W_r rfl rfl (VR_ldC rfl (et rfl) (cell_box (v := y33.2.1) (hS37.obj 0 rfl hc37) rfl) Try.underlying38 rfl) ?_
          refine W_v rfl rfl (V_lenS rfl (et rfl) (sl_SlN fn35.at) Try.underlying38) ?_
          refine W_v rfl rfl (V_addw rfl (es rfl (es rfl (es rfl (et rfl)))) (et rfl)) ?_
          refine W_v rfl rfl (V_gtr rfl (et rfl) rfl) ?_
          refine W_end ?_
          refine gen_Q (fun A41 hA41 => ?_)
          have hsz41 : SzN A41 76 := by rw [hA41]; infer_instance
          have hdf41 : A41.defers = [] := by rw [hA41]; simp only [df_put]; exact hdf38
          have l1_41 := lookE hA41 1 (es rfl (es rfl (es rfl (es rfl (es rfl (es rfl (es rfl (es rfl l1_38))))))))
          have l4_41 := lookE hA41 4 (es rfl (es rfl (es rfl (es rfl (es rfl (es rfl (es rfl (es rfl l4_38))))))))
          have l5_41 := lookE hA41 5 (es rfl (es rfl (es rfl (es rfl (es rfl (es rfl (es rfl (es rfl l5_38))))))))
          have l41_41 := lookE hA41 41 (et rfl)
          clear hA41 hsz38 hdf38 l1_38 l4_38 l5_38
          refine then_n (hK40 _ _ ?_)
          clear hK40
          refine cond_dec l41_41 (fun c42 => ?_) (fun c42 => ?_)
          · skip
            refine wp_seq_k (fun K43 hK43 => ?_)
            -- region 10
            refine region_in ?_
            refine W_v rfl rfl (V_mov rfl l4_41) ?_
            refine W_v rfl rfl (V_add rfl (et rfl) rfl (by omega) (by omega)) ?_
            refine W_v rfl rfl (V_asg rfl (et rfl)) ?_
            refine W_v rfl rfl (V_asg rfl rfl) ?_
            refine W_end ?_
            refine gen_Q (fun A44 hA44 => ?_)
            have hsz44 : SzN A44 76 := by rw [hA44]; infer_instance
            have hdf44 : A44.defers = [] := by rw [hA44]; simp only [df_put]; exact hdf41
            have l2_44 := lookE hA44 2 (es rfl (et rfl))
            have l3_44 := lookE hA44 3 (et rfl)
            clear hA44 hsz41 hdf41 l1_41 l4_41 l5_41 l41_41
            have hS45 : St w NoX [] w37 := hS37.sel [] (by decide) rfl
            refine then_n (hK43 _ _ ?_)
            clear hK43
            refine wp_ret ?_
            refine then_ret ?_
            refine inb_ret ?_
            refine then_ret ?_
            refine then_ret ?_
            refine inb_ret ?_
            refine then_ret ?_
            refine ret_in (results_2 Try.results15 (rv_tmp l2_44) (rv_tmp l3_44)) hdf44 ?_
            -- leaf FFFTT
            have h : ckG (O.map ab) rs = (((k : Int) + 1), 3) := (ckG_obj (by omega) (by rw [List.length_map]; omega) hz hm33).1 c42
            rw [h]
            exact ⟨rfl, hS45.fin0⟩
          · skip
            refine wp_skip ?_
            refine then_n (hK39 _ _ ?_)
            clear hK39
            refine wp_seq_k (fun K46 hK46 => ?_)
            -- region 11
            refine region_in ?_
            refine W_v rfl rfl (V_asg rfl rfl) ?_
            refine W_end ?_
            refine gen_Q (fun A47 hA47 => ?_)
            have hsz47 : SzN A47 76 := by rw [hA47]; infer_instance
            have hdf47 : A47.defers = [] := by rw [hA47]; simp only [df_put]; exact hdf41
            have l1_47 := lookE hA47 1 (es rfl l1_41)
            have l4_47 := lookE hA47 4 (es rfl l4_41)
            have l5_47 := lookE hA47 5 (es rfl l5_41)
            have l6_47 := lookE hA47 6 (et rfl)
            clear hA47 hsz41 hdf41 l1_41 l4_41 l5_41 l41_41
            refine then_n (hK46 _ _ ?_)
            clear hK46
            refine wp_block ?_
            -- loop 12
            refine loopX (fun mz A' w' => SzN A' 76 ∧ A'.defers = [] ∧ (∃ (j : Nat), (mz = y33.1.2.length - j) ∧ (j ≤ y33.1.2.length) ∧ (∀ i, i < j → ∀ x, y33.1.2[i]? = some x → 0 ≤ x ∧ x ≤ ((((O.map ab)).length : Nat) : Int)) ∧ (EV A' (.tmp 6) = .int .i64 (j : Int)) ∧ (EV A' (.tmp 1) = EV A47 (.tmp 1)) ∧ (EV A' (.tmp 4) = EV A47 (.tmp 4)) ∧ (EV A' (.tmp 5) = EV A47 (.tmp 5)) ∧ (St w NoX [bx g36 40 #[y33.1.1, y33.2.1], bx g2 25 #[ov, rv]] w'))) (y33.1.2.length - 0) ⟨hsz47, hdf47, 0, rfl, (by omega), (fun i hi => by omega), ((l6_47).trans (by first | rfl | (simp; done) | (congr 1; omega))), rfl, rfl, rfl, (by subst hc37 hc2_26; exact hS37)⟩ ?_
            clear hS37 hc37 hc2_26
            rintro n48 A48 w48 ⟨hsz48, hdf48, j, hm48, hj, hpp, l6_48, u1_48, u4_48, u5_48, hS48⟩
            have l1_48 := u1_48.trans l1_47
            have l4_48 := u4_48.trans l4_47
            have l5_48 := u5_48.trans l5_47
            obtain ⟨c37_48, c2_48, hc37_48, hc2_48, hS48⟩ := gen2 hS48
            refine wp_seq_k (fun K49 hK49 => ?_)
            refine wp_seq_k (fun K50 hK50 => ?_)
            -- region 12
            refine region_in ?_
            refine W_v rfl rfl (V_mov rfl l6_48) ?_
            refine W_v rfl rfl (V_fa (off' := 0) rfl (es rfl l5_48) Try.underlying40 rfl (by decide +kernel) rfl) ?_
            refine W_r rfl rfl (VR_ldC rfl (et rfl) (cell_box (v := y33.1.1) (hS48.obj 0 rfl hc37_48) rfl) Try.underlying23 rfl) ?_
            refine W_v rfl rfl (V_lenS rfl (et rfl) (sl_SlN fn34.at) Try.underlying23) ?_
            refine W_v rfl rfl (V_lss rfl (es rfl (es rfl (es rfl (et rfl)))) (et rfl)) ?_
            refine W_end ?_
            refine gen_Q (fun A51 hA51 => ?_)
            have hsz51 : SzN A51 76 := by rw [hA51]; infer_instance
            have hdf51 : A51.defers = [] := by rw [hA51]; simp only [df_put]; exact hdf48
            have l1_51 := lookE hA51 1 (es rfl (es rfl (es rfl (es rfl (es rfl l1_48)))))
            have l4_51 := lookE hA51 4 (es rfl (es rfl (es rfl (es rfl (es rfl l4_48)))))
            have l5_51 := lookE hA51 5 (es rfl (es rfl (es rfl (es rfl (es rfl l5_48)))))
            have l6_51 := lookE hA51 6 (es rfl (es rfl (es rfl (es rfl (es rfl l6_48)))))
            have l48_51 := lookE hA51 48 (et rfl)
            clear hA51 hsz48 hdf48 l6_48 l1_48 l4_48 l5_48
            refine then_n (hK50 _ _ ?_)
            clear hK50
            refine cond_dec l48_51 (fun c52 => ?_) (fun c52 => ?_)
            · skip
              refine wp_skip ?_
              refine then_n (hK49 _ _ ?_)
              clear hK49
              refine wp_seq_k (fun K53 hK53 => ?_)
              refine wp_block ?_
              refine wp_seq_k (fun K54 hK54 => ?_)
              -- region 14
              have k55 : j < y33.1.2.length := by first | omega | (simp only [List.length_cons, List.length_nil]; omega) | (simp only [List.length_set]; omega)
              obtain ⟨y55, hy55⟩ := get_some (xs := y33.1.2) (k := j) k55
              refine region_monoS 8 8 [none, none, none, none, none, none, some (SPv [] (fun _ => fun u l' => u = .bool (decide (0 ≤ y55 ∧ y55 ≤ (O.length : Int))) ∧ l' = []) 6)] (by kernel_rfl) (by kernel_rfl) ?_
              refine D_r rfl rfl (by kernel_rfl) (fun sx hx hF => (VR_ldA rfl l1_51 ((hS48.grow hx).obj 1 rfl hc2_48) Try.underlying25 rfl (by kernel_rfl))) rfl rfl ?_
              refine D_v rfl rfl (V_fa (off' := 0) rfl (es rfl l5_51) Try.underlying40 rfl (by decide +kernel) rfl) rfl rfl ?_
              refine D_r rfl rfl (by kernel_rfl) (fun sx hx hF => (VR_ldC rfl (et rfl) (cell_box (v := y33.1.1) ((hS48.grow hx).obj 0 rfl hc37_48) rfl) Try.underlying23 rfl)) rfl rfl ?_
              refine D_v rfl rfl (V_mov rfl (es rfl (es rfl (es rfl l6_51)))) rfl rfl ?_
              obtain ⟨B55, O55, C55, hv55⟩ := (SlN.blk (sl_SlN fn34.at) (by first | omega | (simp only [List.length_cons, List.length_nil]; omega) | (simp only [List.length_set]; omega)))
              refine D_v rfl rfl (V_ixS (off := O55 + j) 1 (j) rfl (es rfl (et rfl)) (et rfl) hv55 (by omega) k55 Try.underlying23 (by kernel_rfl) (congrArg _ (Nat.mul_one _))) rfl rfl ?_
              refine D_r rfl rfl (by kernel_rfl) (fun sx hx hF => (VR_ldC rfl (et rfl) ((sl_SlN ((hS48.grow hx).ro fn34)).cell hv55 (map_get hy55)) Try.underlying3 rfl)) rfl rfl ?_
              refine D_call (ts := []) (vs := []) (C0 := fun _ => fun u l' => u = .bool (decide (0 ≤ y55 ∧ y55 ≤ (O.length : Int))) ∧ l' = []) (C := fun u l' => u = .bool (decide (0 ≤ y55 ∧ y55 ≤ (O.length : Int))) ∧ l' = []) rfl rfl rfl Try.func46 (by kernel_rfl) rfl (args2 (es rfl (es rfl (es rfl (es rfl (es rfl (et rfl)))))) (et rfl)) rfl rfl rfl rfl (fun sx hx hF => ?_) (fun u56 l56 hu56 => ?_)
              · refine (qid_c (n := y55) ((hS48.grow hx).roC h_ov) ((hS48.grow hx).roC n_ov) ((hS48.grow hx).roC h_rv) ).mono ?_
                rintro _ _ ⟨rfl, hz⟩
                exact ⟨_, rfl, _, ⟨rfl, rfl⟩, hz⟩
              obtain ⟨rfl, hl56⟩ := hu56
              refine D_v rfl rfl (V_notd rfl (et rfl)) rfl rfl ?_
              refine ZS_none hS48 (Nat.le_refl _) (Nat.le_refl _) (fun s57 hJ57 hL57 hF57 => ?_)
              obtain ⟨ll56, ws56, we56, ⟨hq56, hl56r⟩, hm56, k56, e56⟩ := L.all_get hF57; cases hq56; subst hl56r
              replace hJ57 := hJ57.add hL57 (i := 6) rfl hm56 k56 e56
              have hS57 := hJ57.st; clear hF57 hJ57 hL57
              generalize s57.1 = w57 at *
              replace hS57 : St w NoX [c37_48, c2_48] w57 := hS57
              refine gen_Q (fun A58 hA58 => ?_)
              have hsz58 : SzN A58 76 := by rw [hA58]; infer_instance
              have hdf58 : A58.defers = [] := by rw [hA58]; simp only [df_put]; exact hdf51
              have l1_58 := lookE hA58 1 (es rfl (es rfl (es rfl (es rfl (es rfl (es rfl (es rfl (es rfl l1_51))))))))
              have l4_58 := lookE hA58 4 (es rfl (es rfl (es rfl (es rfl (es rfl (es rfl (es rfl (es rfl l4_51))))))))
              have l5_58 := lookE hA58 5 (es rfl (es rfl (es rfl (es rfl (es rfl (es rfl (es rfl (es rfl l5_51))))))))
              have l6_58 := lookE hA58 6 (es rfl (es rfl (es rfl (es rfl (es rfl (es rfl (es rfl (es rfl l6_51))))))))
              have l58_58 := lookE hA58 58 (et rfl)
              clear hA58 hsz51 hdf51 l1_51 l4_51 l5_51 l6_51 l48_51
              refine then_n (hK54 _ _ ?_)
              clear hK54
              refine cond_dec l58_58 (fun c59 => ?_) (fun c59 => ?_)
              · skip
                refine wp_seq_k (fun K60 hK60 => ?_)
                -- region 15
                refine region_in ?_
                refine W_v rfl rfl (V_mov rfl l4_58) ?_
                refine W_v rfl rfl (V_add rfl (et rfl) rfl (by omega) (by omega)) ?_
                refine W_v rfl rfl (V_asg rfl (et rfl)) ?_
                refine W_v rfl rfl (V_asg rfl rfl) ?_
                refine W_end ?_
                refine gen_Q (fun A61 hA61 => ?_)
                have hsz61 : SzN A61 76 := by rw [hA61]; infer_instance
                have hdf61 : A61.defers = [] := by rw [hA61]; simp only [df_put]; exact hdf58
                have l2_61 := lookE hA61 2 (es rfl (et rfl))
                have l3_61 := lookE hA61 3 (et rfl)
                clear hA61 hsz58 hdf58 l1_58 l4_58 l5_58 l6_58 l58_58
                have hS62 : St w NoX [] w57 := hS57.sel [] (by decide) rfl
                refine then_n (hK60 _ _ ?_)
                clear hK60
                refine wp_ret ?_
                refine inb_ret ?_
                refine then_ret ?_
                refine then_ret ?_
                refine inb_ret ?_
                refine inb_ret ?_
                refine then_ret ?_
                refine then_ret ?_
                refine inb_ret ?_
                refine then_ret ?_
                refine ret_in (results_2 Try.results15 (rv_tmp l2_61) (rv_tmp l3_61)) hdf61 ?_
                -- leaf FFFTFTT
                have h : ckG (O.map ab) rs = (((k : Int) + 1), 6) := (ckG_obj (by omega) (by rw [List.length_map]; omega) hz hm33).2 c42 (any_at hy55 (by rw [List.length_map]; have hc := c59; simpa using hc))
                rw [h]
                exact ⟨rfl, hS62.fin0⟩
              · skip
                refine wp_skip ?_
                refine inb_n ?_
                refine then_n (hK53 _ _ ?_)
                clear hK53
                -- region 13
                refine region_in ?_
                refine W_v rfl rfl (V_mov rfl l6_58) ?_
                refine W_v rfl rfl (V_add rfl (et rfl) rfl (by omega) (by omega)) ?_
                refine W_v rfl rfl (V_asg rfl (et rfl)) ?_
                refine W_end ?_
                refine gen_Q (fun A63 hA63 => ?_)
                have hsz63 : SzN A63 76 := by rw [hA63]; infer_instance
                have hdf63 : A63.defers = [] := by rw [hA63]; simp only [df_put]; exact hdf58
                have l1_63 := lookE hA63 1 (es rfl (es rfl (es rfl l1_58)))
                have l4_63 := lookE hA63 4 (es rfl (es rfl (es rfl l4_58)))
                have l5_63 := lookE hA63 5 (es rfl (es rfl (es rfl l5_58)))
                have l6_63 := lookE hA63 6 (et rfl)
                clear hA63 hsz58 hdf58 l1_58 l4_58 l5_58 l6_58 l58_58
                refine then_n ⟨y33.1.2.length - (j + 1), by simp only [hm48]; omega, hsz63, hdf63, (j + 1), rfl, (by omega), (rn_step hpp hy55 (by rw [List.length_map]; have hc := c59; simpa using hc)), ((l6_63).trans (by first | rfl | (simp; done) | (congr 1; omega))), ((l1_63).trans l1_47.symm), ((l4_63).trans l4_47.symm), ((l5_63).trans l5_47.symm), (by subst hc37_48 hc2_48; exact hS57)⟩
            · skip
              refine wp_exit ?_
              refine then_exit ?_
              refine then_exit ?_
              refine inb_hit ?_
              refine inb_n ?_
              refine then_n (hK31 _ _ ?_)
              clear hK31
              -- region 7
              refine region_in ?_
              refine W_v rfl rfl (V_mov rfl l4_51) ?_
              refine W_v rfl rfl (V_add rfl (et rfl) rfl (by omega) (by omega)) ?_
              refine W_v rfl rfl (V_asg rfl (et rfl)) ?_
              refine W_end ?_
              refine gen_Q (fun A64 hA64 => ?_)
              have hsz64 : SzN A64 76 := by rw [hA64]; infer_instance
              have hdf64 : A64.defers = [] := by rw [hA64]; simp only [df_put]; exact hdf51
              have l1_64 := lookE hA64 1 (es rfl (es rfl (es rfl l1_51)))
              have l4_64 := lookE hA64 4 (et rfl)
              clear hA64 hsz51 hdf51 l1_51 l4_51 l5_51 l6_51 l48_51
              have hS65 : St w NoX [c2_48] w48 := hS48.sel [1] (by decide) rfl
              refine then_n ⟨O.length - (k + 1), by simp only [hm26]; omega, hsz64, hdf64, (k + 1), rfl, (by omega), (cg_step hz hm33 c42 (any_none (l := (ab y33).1) hpp (by simp only [ab]; omega))), ((l4_64).trans (by first | rfl | (simp; done) | (congr 1; omega))), ((l1_64).trans l1_25.symm), (by subst hc2_48; exact hS65)⟩
        · skip
          refine wp_exit ?_
          refine then_exit ?_
          refine then_exit ?_
          refine inb_hit ?_
          refine then_n (hK23 _ _ ?_)
          clear hK23
          refine wp_seq_k (fun K66 hK66 => ?_)
          refine wp_seq_k (fun K67 hK67 => ?_)
          -- region 16
          refine region_in ?_
          refine W_v rfl rfl (V_asg rfl rfl) ?_
          refine W_end ?_
          refine gen_Q (fun A68 hA68 => ?_)
          have hsz68 : SzN A68 76 := by rw [hA68]; infer_instance
          have hdf68 : A68.defers = [] := by rw [hA68]; simp only [df_put]; exact hdf29
          have l1_68 := lookE hA68 1 (es rfl l1_29)
          have l7_68 := lookE hA68 7 (et rfl)
          clear hA68 hsz29 hdf29 l1_29 l4_29 l26_29
          refine then_n (hK67 _ _ ?_)
          clear hK67
          refine wp_block ?_
          -- loop 17
          refine loopX (fun mz A' w' => SzN A' 76 ∧ A'.defers = [] ∧ (∃ (m : Nat), (mz = rs.length - m) ∧ (m ≤ rs.length) ∧ (∀ i, i < m → ∀ x, rs[i]? = some x → 0 ≤ x ∧ x ≤ ((((O.map ab)).length : Nat) : Int)) ∧ (EV A' (.tmp 7) = .int .i64 (m : Int)) ∧ (EV A' (.tmp 1) = EV A68 (.tmp 1)) ∧ (St w NoX [bx g2 25 #[ov, rv]] w'))) (rs.length - 0) ⟨hsz68, hdf68, 0, rfl, (by omega), (fun i hi => by omega), ((l7_68).trans (by first | rfl | (simp; done) | (congr 1; omega))), rfl, (by subst hc2_26; exact hS26)⟩ ?_
          clear hS26 hc2_26
          rintro n69 A69 w69 ⟨hsz69, hdf69, m, hm69, hmm, hrr, l7_69, u1_69, hS69⟩
          have l1_69 := u1_69.trans l1_68
          obtain ⟨c2_69, hc2_69, hS69⟩ := gen1 hS69
          refine wp_seq_k (fun K70 hK70 => ?_)
          refine wp_seq_k (fun K71 hK71 => ?_)
          -- region 17
          refine region_in ?_
          refine W_v rfl rfl (V_mov rfl l7_69) ?_
          refine W_v rfl rfl (V_fa (off' := 1) rfl (es rfl l1_69) Try.underlying25 rfl (by decide +kernel) rfl) ?_
          refine W_r rfl rfl (VR_ldC rfl (et rfl) (cell_box (v := rv) (hS69.obj 0 rfl hc2_69) rfl) Try.underlying23 rfl) ?_
          refine W_v rfl rfl (V_lenS rfl (et rfl) (sl_SlN h_rv.at) Try.underlying23) ?_
          refine W_v rfl rfl (V_lss rfl (es rfl (es rfl (es rfl (et rfl)))) (et rfl)) ?_
          refine W_end ?_
          refine gen_Q (fun A72 hA72 => ?_)
          have hsz72 : SzN A72 76 := by rw [hA72]; infer_instance
          have hdf72 : A72.defers = [] := by rw [hA72]; simp only [df_put]; exact hdf69
          have l1_72 := lookE hA72 1 (es rfl (es rfl (es rfl (es rfl (es rfl l1_69)))))
          have l7_72 := lookE hA72 7 (es rfl (es rfl (es rfl (es rfl (es rfl l7_69)))))
          have l65_72 := lookE hA72 65 (et rfl)
          clear hA72 hsz69 hdf69 l7_69 l1_69
          refine then_n (hK71 _ _ ?_)
          clear hK71
          refine cond_dec l65_72 (fun c73 => ?_) (fun c73 => ?_)
          · skip
            refine wp_skip ?_
            refine then_n (hK70 _ _ ?_)
            clear hK70
            refine wp_seq_k (fun K74 hK74 => ?_)
            refine wp_block ?_
            refine wp_seq_k (fun K75 hK75 => ?_)
            -- region 19
            have k76 : m < rs.length := by first | omega | (simp only [List.length_cons, List.length_nil]; omega) | (simp only [List.length_set]; omega)
            obtain ⟨y76, hy76⟩ := get_some (xs := rs) (k := m) k76
            refine region_monoS 8 8 [none, none, none, none, none, none, some (SPv [] (fun _ => fun u l' => u = .bool (decide (0 ≤ y76 ∧ y76 ≤ (O.length : Int))) ∧ l' = []) 6)] (by kernel_rfl) (by kernel_rfl) ?_
            refine D_r rfl rfl (by kernel_rfl) (fun sx hx hF => (VR_ldA rfl l1_72 ((hS69.grow hx).obj 0 rfl hc2_69) Try.underlying25 rfl (by kernel_rfl))) rfl rfl ?_
            refine D_v rfl rfl (V_fa (off' := 1) rfl (es rfl l1_72) Try.underlying25 rfl (by decide +kernel) rfl) rfl rfl ?_
            refine D_r rfl rfl (by kernel_rfl) (fun sx hx hF => (VR_ldC rfl (et rfl) (cell_box (v := rv) ((hS69.grow hx).obj 0 rfl hc2_69) rfl) Try.underlying23 rfl)) rfl rfl ?_
            refine D_v rfl rfl (V_mov rfl (es rfl (es rfl (es rfl l7_72)))) rfl rfl ?_
            obtain ⟨B76, O76, C76, hv76⟩ := (SlN.blk (sl_SlN h_rv.at) (by first | omega | (simp only [List.length_cons, List.length_nil]; omega) | (simp only [List.length_set]; omega)))
            refine D_v rfl rfl (V_ixS (off := O76 + m) 1 (m) rfl (es rfl (et rfl)) (et rfl) hv76 (by omega) k76 Try.underlying23 (by kernel_rfl) (congrArg _ (Nat.mul_one _))) rfl rfl ?_
            refine D_r rfl rfl (by kernel_rfl) (fun sx hx hF => (VR_ldC rfl (et rfl) ((sl_SlN ((hS69.grow hx).ro h_rv)).cell hv76 (map_get hy76)) Try.underlying3 rfl)) rfl rfl ?_
            refine D_call (ts := []) (vs := []) (C0 := fun _ => fun u l' => u = .bool (decide (0 ≤ y76 ∧ y76 ≤ (O.length : Int))) ∧ l' = []) (C := fun u l' => u = .bool (decide (0 ≤ y76 ∧ y76 ≤ (O.length : Int))) ∧ l' = []) rfl rfl rfl Try.func46 (by kernel_rfl) rfl (args2 (es rfl (es rfl (es rfl (es rfl (es rfl (et rfl)))))) (et rfl)) rfl rfl rfl rfl (fun sx hx hF => ?_) (fun u77 l77 hu77 => ?_)
            · refine (qid_c (n := y76) ((hS69.grow hx).roC h_ov) ((hS69.grow hx).roC n_ov) ((hS69.grow hx).roC h_rv) ).mono ?_
              rintro _ _ ⟨rfl, hz⟩
              exact ⟨_, rfl, _, ⟨rfl, rfl⟩, hz⟩
            obtain ⟨rfl, hl77⟩ := hu77
            refine D_v rfl rfl (V_notd rfl (et rfl)) rfl rfl ?_
            refine ZS_none hS69 (Nat.le_refl _) (Nat.le_refl _) (fun s78 hJ78 hL78 hF78 => ?_)
            obtain ⟨ll77, ws77, we77, ⟨hq77, hl77r⟩, hm77, k77, e77⟩ := L.all_get hF78; cases hq77; subst hl77r
            replace hJ78 := hJ78.add hL78 (i := 6) rfl hm77 k77 e77
            have hS78 := hJ78.st; clear hF78 hJ78 hL78
            generalize s78.1 = w78 at *
            replace hS78 : St w NoX [c2_69] w78 := hS78
            refine gen_Q (fun A79 hA79 => ?_)
            have hsz79 : SzN A79 76 := by rw [hA79]; infer_instance
            have hdf79 : A79.defers = [] := by rw [hA79]; simp only [df_put]; exact hdf72
            have l1_79 := lookE hA79 1 (es rfl (es rfl (es rfl (es rfl (es rfl (es rfl (es rfl (es rfl l1_72))))))))
            have l7_79 := lookE hA79 7 (es rfl (es rfl (es rfl (es rfl (es rfl (es rfl (es rfl (es rfl l7_72))))))))
            have l75_79 := lookE hA79 75 (et rfl)
            clear hA79 hsz72 hdf72 l1_72 l7_72 l65_72
            refine then_n (hK75 _ _ ?_)
            clear hK75
            refine cond_dec l75_79 (fun c80 => ?_) (fun c80 => ?_)
            · skip
              refine wp_seq_k (fun K81 hK81 => ?_)
              -- region 20
              refine region_in ?_
              refine W_v rfl rfl (V_asg rfl rfl) ?_
              refine W_v rfl rfl (V_asg rfl rfl) ?_
              refine W_end ?_
              refine gen_Q (fun A82 hA82 => ?_)
              have hsz82 : SzN A82 76 := by rw [hA82]; infer_instance
              have hdf82 : A82.defers = [] := by rw [hA82]; simp only [df_put]; exact hdf79
              have l2_82 := lookE hA82 2 (es rfl (et rfl))
              have l3_82 := lookE hA82 3 (et rfl)
              clear hA82 hsz79 hdf79 l1_79 l7_79 l75_79
              have hS83 : St w NoX [] w78 := hS78.sel [] (by decide) rfl
              refine then_n (hK81 _ _ ?_)
              clear hK81
              refine wp_ret ?_
              refine inb_ret ?_
              refine then_ret ?_
              refine then_ret ?_
              refine inb_ret ?_
              refine then_ret ?_
              refine ret_in (results_2 Try.results15 (rv_tmp l2_82) (rv_tmp l3_82)) hdf82 ?_
              -- leaf FFFFTT
              have h : ckG (O.map ab) rs = (0, 6) := (ckG_end (by omega) (by rw [List.length_map]; omega) hz (by rw [List.length_map]; omega)).trans (if_pos (any_at hy76 (by rw [List.length_map]; have hc := c80; simpa using hc)))
              rw [h]
              exact ⟨rfl, hS83.fin0⟩
            · skip
              refine wp_skip ?_
              refine inb_n ?_
              refine then_n (hK74 _ _ ?_)
              clear hK74
              -- region 18
              refine region_in ?_
              refine W_v rfl rfl (V_mov rfl l7_79) ?_
              refine W_v rfl rfl (V_add rfl (et rfl) rfl (by omega) (by omega)) ?_
              refine W_v rfl rfl (V_asg rfl (et rfl)) ?_
              refine W_end ?_
              refine gen_Q (fun A84 hA84 => ?_)
              have hsz84 : SzN A84 76 := by rw [hA84]; infer_instance
              have hdf84 : A84.defers = [] := by rw [hA84]; simp only [df_put]; exact hdf79
              have l1_84 := lookE hA84 1 (es rfl (es rfl (es rfl l1_79)))
              have l7_84 := lookE hA84 7 (et rfl)
              clear hA84 hsz79 hdf79 l1_79 l7_79 l75_79
              refine then_n ⟨rs.length - (m + 1), by simp only [hm69]; omega, hsz84, hdf84, (m + 1), rfl, (by omega), (rn_step hrr hy76 (by rw [List.length_map]; have hc := c80; simpa using hc)), ((l7_84).trans (by first | rfl | (simp; done) | (congr 1; omega))), ((l1_84).trans l1_68.symm), (by subst hc2_69; exact hS78)⟩
          · skip
            refine wp_exit ?_
            refine then_exit ?_
            refine then_exit ?_
            refine inb_hit ?_
            refine then_n (hK66 _ _ ?_)
            clear hK66
            refine wp_seq_k (fun K85 hK85 => ?_)
            -- region 21
            refine region_in ?_
            refine W_v rfl rfl (V_asg rfl rfl) ?_
            refine W_v rfl rfl (V_asg rfl rfl) ?_
            refine W_end ?_
            refine gen_Q (fun A86 hA86 => ?_)
            have hsz86 : SzN A86 76 := by rw [hA86]; infer_instance
            have hdf86 : A86.defers = [] := by rw [hA86]; simp only [df_put]; exact hdf72
            have l2_86 := lookE hA86 2 (es rfl (et rfl))
            have l3_86 := lookE hA86 3 (et rfl)
            clear hA86 hsz72 hdf72 l1_72 l7_72 l65_72
            have hS87 : St w NoX [] w69 := hS69.sel [] (by decide) rfl
            refine then_n (hK85 _ _ ?_)
            clear hK85
            refine wp_ret ?_
            refine ret_in (results_2 Try.results15 (rv_tmp l2_86) (rv_tmp l3_86)) hdf86 ?_
            -- leaf FFFFF
            have h : ckG (O.map ab) rs = (0, 0) := (ckG_end (by omega) (by rw [List.length_map]; omega) hz (by rw [List.length_map]; omega)).trans (if_neg (by rw [any_none (n := (O.map ab).length) hrr (by omega)]; decide))
            rw [h]
            exact ⟨rfl, hS87.fin0⟩

end Go.Proofs.Ytdilbnmaihmgnaa