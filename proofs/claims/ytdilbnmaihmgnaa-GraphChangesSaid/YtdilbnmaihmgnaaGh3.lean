import Derived.Test.YtdilbnmaihmgnaaProg
import Derived.Test.YtdilbnmaihmgnaaGh2
namespace Go.Proofs.Ytdilbnmaihmgnaa
open Go.RowKit Go.Own Go.Own.R Go.Own.G Go.Own.Gr


set_option maxHeartbeats 4000000 in
theorem kRd_c {ov : Value} {O : List Ob} {rv : Value} {rs : List Int} {a : Int} {f : Int} {w : World} (h_ov : Ro w NoX (rl 2 obC ov O)) (n_ov : Ro w NoX (nst O)) (h_rv : Ro w NoX (il .i64 rv rs))  :
    Calls Try.prog 26 #[.agg #[ov, rv], .int .i64 a, .int .i64 f] w fun e w' => e = .returned (.tuple #[.int .u64 (rdV (O.map ab) rs a f), .int .i64 (rwE (O.map ab) rs [a] a f)]) ∧ St w NoX [] w' := by
  refine calls_in 25 Try.func26 rfl rfl (by simp) (fun A0 hsz0 hdf0 hargs => ?_)
  have l0_0 := hargs 0 (.agg #[ov, rv]) rfl
  have l1_0 := hargs 1 (.int .i64 a) rfl
  have l2_0 := hargs 2 (.int .i64 f) rfl
  clear hargs; replace hsz0 : SzN A0 25 := ⟨hsz0⟩
  have hS := St.nil w
  have bh_ov := SlN.le (sl_SlN h_ov.at)
  have bh_rv := SlN.le (sl_SlN h_rv.at)
  refine wp_seq_k (fun K1 hK1 => ?_)
  refine region_in ?_
  refine W_boxS (zs := #[ov, rv]) hS rfl rfl rfl l0_0 (by rfl) (fun g2 w2 c2 hc2 hS2 => ?_)
  replace hS2 : St w NoX [c2] w2 := hS2
  refine W_v rfl rfl (V_asg rfl rfl) ?_
  refine W_v rfl rfl (V_asg rfl rfl) ?_
  refine W_end ?_
  refine gen_Q (fun A3 hA3 => ?_)
  have hsz3 := szq hA3
  have hdf3 : A3.defers = [] := by rw [hA3]; simp only [df_put]; exact hdf0
  have l1_3 := lookE hA3 1 (e2 rfl (es rfl l1_0))
  have l2_3 := lookE hA3 2 (e2 rfl (es rfl l2_0))
  have l3_3 := lookE hA3 3 (e2 rfl (et rfl))
  clear hA3 hsz0 hdf0 l0_0 l1_0 l2_0
  refine then_n (hK1 _ _ ?_)
  clear hK1
  refine wp_seq_k (fun K4 hK4 => ?_)
  refine wp_seq_k (fun K5 hK5 => ?_)
  refine region_in ?_
  refine W_r rfl rfl (VR_ldA rfl l3_3 (hS2.obj 0 rfl hc2) Try.underlying25 rfl (by kernel_rfl)) ?_
  refine W_v rfl rfl (V_mov rfl (es rfl l1_3)) ?_
  have hll6 : [a].length = 1 := rfl
  refine W_litS (vs := [.int .i64 (a)]) (xs := ([a].map (Value.int .i64))) 1 hS2 rfl rfl rfl (parts1 (et rfl)) rfl Try.underlying23 (by kernel_rfl) (by decide) (by intro v hv; simp only [List.mem_cons, List.not_mem_nil, or_false] at hv; rcases hv with rfl <;> rfl) (by rfl) (fun g6 w6 c6 hc6 hS6 => ?_)
  replace hc6 : c6 = io .i64 (.slice (some ⟨g6, 0, none⟩) 1 1) [a] := hc6
  replace hS6 : St w NoX [c6, c2] w6 := hS6
  refine W_call rfl rfl rfl Try.func47 (by kernel_rfl) rfl (args2 (e2 rfl (et rfl)) (et rfl)) (kcd_c (hS6.roC h_ov) (hS6.roC n_ov) (hS6.roC h_rv) (hS6.chC 0 rfl hc6).own ) ?_
  rintro _ w7 ⟨rfl, hP7⟩
  refine ⟨_, rfl, ?_⟩
  have hS7 := hS6.join hP7
  replace hS7 : St w NoX [c6, c2] w7 := hS7
  refine W_v rfl rfl (V_asg rfl (et rfl)) ?_
  refine W_end ?_
  refine gen_Q (fun A8 hA8 => ?_)
  have hsz8 := szq hA8
  have hdf8 : A8.defers = [] := by rw [hA8]; simp only [df_put]; exact hdf3
  have l1_8 := lookE hA8 1 (e4 rfl (es rfl l1_3))
  have l2_8 := lookE hA8 2 (e4 rfl (es rfl l2_3))
  have l3_8 := lookE hA8 3 (e4 rfl (es rfl l3_3))
  have l8_8 := lookE hA8 8 (et rfl)
  clear hA8 hsz3 hdf3 l1_3 l2_3 l3_3
  have hS9 : St w NoX [c2] w7 := hS7.sel [1] (by decide) rfl
  refine then_n (hK5 _ _ ?_)
  clear hK5
  refine wp_seq_k (fun K10 hK10 => ?_)
  refine region_in ?_
  refine W_v rfl rfl (V_mov rfl l8_8) ?_
  refine W_v rfl rfl (V_neq rfl (et rfl) rfl) ?_
  refine W_end ?_
  refine gen_Q (fun A11 hA11 => ?_)
  have hsz11 := szq hA11
  have hdf11 : A11.defers = [] := by rw [hA11]; simp only [df_put]; exact hdf8
  have l1_11 := lookE hA11 1 (es rfl (es rfl l1_8))
  have l2_11 := lookE hA11 2 (es rfl (es rfl l2_8))
  have l3_11 := lookE hA11 3 (es rfl (es rfl l3_8))
  have l8_11 := lookE hA11 8 (es rfl (es rfl l8_8))
  have l15_11 := lookE hA11 15 (et rfl)
  clear hA11 hsz8 hdf8 l1_8 l2_8 l3_8 l8_8
  refine then_n (hK10 _ _ ?_)
  clear hK10
  refine cond_dec l15_11 (fun c12 => ?_) (fun c12 => ?_)
  · skip
    refine wp_seq_k (fun K13 hK13 => ?_)
    refine region_in ?_
    refine W_v rfl rfl (V_mov rfl l8_11) ?_
    refine W_v rfl rfl (V_asg rfl rfl) ?_
    refine W_v rfl rfl (V_asg rfl (es rfl (et rfl))) ?_
    refine W_end ?_
    refine gen_Q (fun A14 hA14 => ?_)
    have hsz14 := szq hA14
    have hdf14 : A14.defers = [] := by rw [hA14]; simp only [df_put]; exact hdf11
    have l6_14 := lookE hA14 6 (es rfl (et rfl))
    have l7_14 := lookE hA14 7 (et rfl)
    clear hA14 hsz11 hdf11 l1_11 l2_11 l3_11 l8_11 l15_11
    have hS15 : St w NoX [] w7 := hS9.sel [] (by decide) rfl
    refine then_n (hK13 _ _ ?_)
    clear hK13
    refine wp_ret ?_
    refine then_ret ?_
    refine ret_in (results_2 Try.results26 (rv_tmp l6_14) (rv_tmp l7_14)) hdf14 ?_
    -- leaf T
    have h := rw_ck (f := f) (by assumption)
    rw [h.1, h.2]
    exact ⟨rfl, hS15.fin0⟩
  · skip
    have hcd : ckd (O.map ab) rs [a] = 0 := by simpa using c12
    have hG0 := (ckd_0.1 hcd).1
    have hG := hG0
    have hrg : ∀ p ∈ rs, 0 ≤ p ∧ p ≤ (O.length : Int) := fun p hp => by have q := hG0.reg p hp; rw [List.length_map] at q; exact q
    have ha := (ckd_0.1 hcd).2 a (by simp)
    refine wp_skip ?_
    refine then_n (hK4 _ _ ?_)
    clear hK4
    refine wp_seq_k (fun K16 hK16 => ?_)
    refine region_in ?_
    refine W_v rfl rfl (V_mov rfl l1_11) ?_
    refine W_v rfl rfl (V_mov rfl (es rfl l2_11)) ?_
    refine W_call rfl rfl rfl Try.func55 (by kernel_rfl) rfl (args3 (es rfl (es rfl l3_11)) (es rfl (et rfl)) (et rfl)) (krw_c (gov := g2) (a := a) (f := f) (hS9.roC h_ov) (hS9.roC n_ov) (hS9.roC h_rv) (hS9.chC 0 rfl hc2) (by first | with_reducible assumption | (have q := hG.reg; simpa using q)) (by first | omega | with_reducible assumption)) ?_
    rintro _ w17 (⟨rfl, hz_17, hP17⟩ | ⟨B_17, O_17, C_17, y_17, x_17, rfl, hv_17, hy_17, hx_17, hz_17, hob_17, hP17⟩)
    · refine ⟨_, rfl, ?_⟩
      have hS17 := hS9.join hP17
      replace hS17 : St w NoX [c2] w17 := hS17
      refine W_v rfl rfl (V_asg rfl (et rfl)) ?_
      refine W_end ?_
      refine gen_Q (fun A18 hA18 => ?_)
      have hsz18 := szq hA18
      have hdf18 : A18.defers = [] := by rw [hA18]; simp only [df_put]; exact hdf11
      have l9_18 := lookE hA18 9 (et rfl)
      clear hA18 hsz11 hdf11 l1_11 l2_11 l3_11 l8_11 l15_11
      have hS19 : St w NoX [] w17 := hS17.sel [] (by decide) rfl
      refine then_n (hK16 _ _ ?_)
      clear hK16
      refine wp_seq_k (fun K20 hK20 => ?_)
      refine wp_seq_k (fun K21 hK21 => ?_)
      refine region_in ?_
      refine W_v rfl rfl (V_mov rfl l9_18) ?_
      refine W_v rfl rfl (V_eqNN rfl (et rfl) rfl Try.underlying76) ?_
      refine W_end ?_
      refine gen_Q (fun A22 hA22 => ?_)
      have hsz22 := szq hA22
      have hdf22 : A22.defers = [] := by rw [hA22]; simp only [df_put]; exact hdf18
      have l9_22 := lookE hA22 9 (es rfl (es rfl l9_18))
      have l21_22 := lookE hA22 21 (et rfl)
      clear hA22 hsz18 hdf18 l9_18
      refine then_n (hK21 _ _ ?_)
      clear hK21
      refine cond_t l21_22 ?_
      refine wp_seq_k (fun K23 hK23 => ?_)
      refine region_in ?_
      refine W_v rfl rfl (V_asg rfl rfl) ?_
      refine W_v rfl rfl (V_asg rfl rfl) ?_
      refine W_end ?_
      refine gen_Q (fun A24 hA24 => ?_)
      have hsz24 := szq hA24
      have hdf24 : A24.defers = [] := by rw [hA24]; simp only [df_put]; exact hdf22
      have l6_24 := lookE hA24 6 (es rfl (et rfl))
      have l7_24 := lookE hA24 7 (et rfl)
      clear hA24 hsz22 hdf22 l9_22 l21_22
      refine then_n (hK23 _ _ ?_)
      clear hK23
      refine wp_ret ?_
      refine then_ret ?_
      refine ret_in (results_2 Try.results26 (rv_tmp l6_24) (rv_tmp l7_24)) hdf24 ?_
      -- leaf Fn
      have h := rw_no (f := f) hcd hz_17
      rw [h.1, h.2]
      exact ⟨rfl, hS19.fin0⟩
    · refine ⟨_, rfl, ?_⟩
      have hS17 := hS9.join hP17
      replace hS17 : St w NoX [c2] w17 := hS17
      have fn25 : Ro w NoX (il .i64 y_17.1.1 y_17.1.2) := nst_ro1 n_ov hy_17
      have bfn25 := SlN.le (sl_SlN (hS17.ro fn25))
      have fn26 : Ro w NoX (il .u64 y_17.2.1 y_17.2.2) := nst_ro2 n_ov hy_17
      have bfn26 := SlN.le (sl_SlN (hS17.ro fn26))
      refine W_v rfl rfl (V_asg rfl (et rfl)) ?_
      refine W_end ?_
      refine gen_Q (fun A27 hA27 => ?_)
      have hsz27 := szq hA27
      have hdf27 : A27.defers = [] := by rw [hA27]; simp only [df_put]; exact hdf11
      have l9_27 := lookE hA27 9 (et rfl)
      clear hA27 hsz11 hdf11 l1_11 l2_11 l3_11 l8_11 l15_11
      have hS28 : St w NoX [] w17 := hS17.sel [] (by decide) rfl
      refine then_n (hK16 _ _ ?_)
      clear hK16
      refine wp_seq_k (fun K29 hK29 => ?_)
      refine wp_seq_k (fun K30 hK30 => ?_)
      refine region_in ?_
      refine W_v rfl rfl (V_mov rfl l9_27) ?_
      refine W_v rfl rfl (V_eqPN rfl (et rfl) rfl Try.underlying76) ?_
      refine W_end ?_
      refine gen_Q (fun A31 hA31 => ?_)
      have hsz31 := szq hA31
      have hdf31 : A31.defers = [] := by rw [hA31]; simp only [df_put]; exact hdf27
      have l9_31 := lookE hA31 9 (es rfl (es rfl l9_27))
      have l21_31 := lookE hA31 21 (et rfl)
      clear hA31 hsz27 hdf27 l9_27
      refine then_n (hK30 _ _ ?_)
      clear hK30
      refine cond_f l21_31 ?_
      refine wp_skip ?_
      refine then_n (hK29 _ _ ?_)
      clear hK29
      refine wp_seq_k (fun K32 hK32 => ?_)
      refine region_in ?_
      refine W_v rfl rfl (V_mov rfl l9_31) ?_
      refine W_v rfl rfl (V_nil rfl (et rfl)) ?_
      refine W_r rfl rfl (VR_ldC rfl (et rfl) ((sl_SlN (hS28.ro fn26)).cell hv_17 (map_get hx_17)) Try.underlying45 rfl) ?_
      refine W_v rfl rfl (V_asg rfl (et rfl)) ?_
      refine W_v rfl rfl (V_asg rfl rfl) ?_
      refine W_end ?_
      refine gen_Q (fun A33 hA33 => ?_)
      have hsz33 := szq hA33
      have hdf33 : A33.defers = [] := by rw [hA33]; simp only [df_put]; exact hdf31
      have l6_33 := lookE hA33 6 (es rfl (et rfl))
      have l7_33 := lookE hA33 7 (et rfl)
      clear hA33 hsz31 hdf31 l9_31 l21_31
      refine then_n (hK32 _ _ ?_)
      clear hK32
      refine wp_ret ?_
      refine ret_in (results_2 Try.results26 (rv_tmp l6_33) (rv_tmp l7_33)) hdf33 ?_
      -- leaf Fs
      have h := rw_ok (f := f) hcd hz_17 hob_17 hx_17
      rw [h.1, h.2]
      exact ⟨rfl, hS28.fin0⟩

set_option maxHeartbeats 4000000 in
theorem qid_c {ov : Value} {O : List Ob} {rv : Value} {rs : List Int} {n : Int} {w : World} (h_ov : Ro w NoX (rl 2 obC ov O)) (n_ov : Ro w NoX (nst O)) (h_rv : Ro w NoX (il .i64 rv rs))  :
    Calls Try.prog 46 #[.agg #[ov, rv], .int .i64 n] w fun e w' => e = .returned (.bool (decide (0 ≤ n ∧ n ≤ (O.length : Int)))) ∧ St w NoX [] w' := by
  refine calls_in 14 Try.func46 rfl rfl (by simp) (fun A0 hsz0 hdf0 hargs => ?_)
  have l0_0 := hargs 0 (.agg #[ov, rv]) rfl
  have l1_0 := hargs 1 (.int .i64 n) rfl
  clear hargs; replace hsz0 : SzN A0 14 := ⟨hsz0⟩
  have hS := St.nil w
  have bh_ov := SlN.le (sl_SlN h_ov.at)
  have bh_rv := SlN.le (sl_SlN h_rv.at)
  refine wp_seq_k (fun K1 hK1 => ?_)
  refine region_in ?_
  refine W_boxS (zs := #[ov, rv]) hS rfl rfl rfl l0_0 (by rfl) (fun g2 w2 c2 hc2 hS2 => ?_)
  replace hS2 : St w NoX [c2] w2 := hS2
  refine W_v rfl rfl (V_asg rfl rfl) ?_
  refine W_end ?_
  refine gen_Q (fun A3 hA3 => ?_)
  have hsz3 := szq hA3
  have hdf3 : A3.defers = [] := by rw [hA3]; simp only [df_put]; exact hdf0
  have l1_3 := lookE hA3 1 (es rfl (es rfl l1_0))
  have l2_3 := lookE hA3 2 (es rfl (et rfl))
  clear hA3 hsz0 hdf0 l0_0 l1_0
  refine then_n (hK1 _ _ ?_)
  clear hK1
  refine wp_seq_k (fun K4 hK4 => ?_)
  refine region_in ?_
  refine W_v rfl rfl (V_mov rfl l1_3) ?_
  refine W_v rfl rfl (V_geq rfl (et rfl) rfl) ?_
  refine W_split rfl rfl (V_mov rfl (et rfl)) (fun c5 => ?_) (fun c5 => ?_)
  · skip
    refine W_v rfl (wanted_t rfl rfl (et rfl) (ez rfl)) (V_mov rfl (e2 rfl (es rfl l1_3))) ?_
    refine W_v rfl (wanted_t rfl rfl (es rfl (et rfl)) (ez rfl)) (V_fa (off' := 0) rfl (e3 rfl (es rfl l2_3)) Try.underlying25 rfl (by decide +kernel) rfl) ?_
    refine W_r rfl (wanted_t rfl rfl (e2 rfl (et rfl)) (ez rfl)) (VR_ldC rfl (et rfl) (cell_box (v := ov) (hS2.obj 0 rfl hc2) rfl) Try.underlying22 rfl) ?_
    refine W_v rfl (wanted_t rfl rfl (e3 rfl (et rfl)) (ez rfl)) (V_lenS rfl (et rfl) (sl_SlN h_ov.at) Try.underlying22) ?_
    refine W_v rfl (wanted_t rfl rfl (e4 rfl (et rfl)) (ez rfl)) (V_leq rfl (e3 rfl (et rfl)) (et rfl)) ?_
    refine W_v rfl rfl (V_pickT rfl (e5 rfl (et rfl)) (et rfl)) ?_
    refine W_v rfl rfl (V_asg rfl (et rfl)) ?_
    refine W_end ?_
    refine gen_Q (fun A6 hA6 => ?_)
    have hsz6 := szq hA6
    have hdf6 : A6.defers = [] := by rw [hA6]; simp only [df_put]; exact hdf3
    have l4_6 := lookE hA6 4 (et rfl)
    clear hA6 hsz3 hdf3 l1_3 l2_3
    have hS7 : St w NoX [] w2 := hS2.sel [] (by decide) rfl
    refine then_n (hK4 _ _ ?_)
    clear hK4
    refine wp_ret ?_
    refine ret_in (results_1 Try.results46 (rv_tmp l4_6)) hdf6 ?_
    -- leaf T
    rw [show (decide (0 ≤ n ∧ n ≤ (O.length : Int))) = decide (n ≤ (O.length : Int)) by exact decide_eq_decide.2 (by omega)]
    exact ⟨rfl, hS7.fin0⟩
  · skip
    refine W_off rfl (wanted_f rfl rfl (et rfl) (ez rfl) rfl) ?_
    refine W_off rfl (wanted_f rfl rfl (es rfl (et rfl)) (ez rfl) rfl) ?_
    refine W_off rfl (wanted_f rfl rfl (e2 rfl (et rfl)) (ez rfl) rfl) ?_
    refine W_off rfl (wanted_f rfl rfl (e3 rfl (et rfl)) (ez rfl) rfl) ?_
    refine W_off rfl (wanted_f rfl rfl (e4 rfl (et rfl)) (ez rfl) rfl) ?_
    refine W_v rfl rfl (V_pickF rfl (e5 rfl (et rfl)) rfl) ?_
    refine W_v rfl rfl (V_asg rfl (et rfl)) ?_
    refine W_end ?_
    refine gen_Q (fun A8 hA8 => ?_)
    have hsz8 := szq hA8
    have hdf8 : A8.defers = [] := by rw [hA8]; simp only [df_put]; exact hdf3
    have l4_8 := lookE hA8 4 (et rfl)
    clear hA8 hsz3 hdf3 l1_3 l2_3
    have hS9 : St w NoX [] w2 := hS2.sel [] (by decide) rfl
    refine then_n (hK4 _ _ ?_)
    clear hK4
    refine wp_ret ?_
    refine ret_in (results_1 Try.results46 (rv_tmp l4_8)) hdf8 ?_
    -- leaf F
    rw [show (decide (0 ≤ n ∧ n ≤ (O.length : Int))) = false by exact decide_eq_false (by omega)]
    exact ⟨rfl, hS9.fin0⟩

set_option maxHeartbeats 4000000 in
theorem qCk_c {ov : Value} {O : List Ob} {rv : Value} {rs : List Int} {w : World} (h_ov : Ro w NoX (rl 2 obC ov O)) (n_ov : Ro w NoX (nst O)) (h_rv : Ro w NoX (il .i64 rv rs))  :
    Calls Try.prog 15 #[.agg #[ov, rv]] w fun e w' => e = .returned (.tuple #[.int .i64 (ckG (O.map ab) rs).1, .int .i64 (ckG (O.map ab) rs).2]) ∧ St w NoX [] w' := by
  refine calls_in 76 Try.func15 rfl rfl (by simp) (fun A0 hsz0 hdf0 hargs => ?_)
  have l0_0 := hargs 0 (.agg #[ov, rv]) rfl
  clear hargs; replace hsz0 : SzN A0 76 := ⟨hsz0⟩
  have hS := St.nil w
  have bh_ov := SlN.le (sl_SlN h_ov.at)
  have bh_rv := SlN.le (sl_SlN h_rv.at)
  refine wp_seq_k (fun K1 hK1 => ?_)
  refine region_in ?_
  refine W_boxS (zs := #[ov, rv]) hS rfl rfl rfl l0_0 (by rfl) (fun g2 w2 c2 hc2 hS2 => ?_)
  replace hS2 : St w NoX [c2] w2 := hS2
  refine W_v rfl rfl (V_asg rfl rfl) ?_
  refine W_v rfl rfl (V_asg rfl rfl) ?_
  refine W_end ?_
  refine gen_Q (fun A3 hA3 => ?_)
  have hsz3 := szq hA3
  have hdf3 : A3.defers = [] := by rw [hA3]; simp only [df_put]; exact hdf0
  have l1_3 := lookE hA3 1 (e2 rfl (et rfl))
  clear hA3 hsz0 hdf0 l0_0
  refine then_n (hK1 _ _ ?_)
  clear hK1
  refine wp_seq_k (fun K4 hK4 => ?_)
  refine wp_seq_k (fun K5 hK5 => ?_)
  refine region_in ?_
  refine W_v rfl rfl (V_fa (off' := 1) rfl l1_3 Try.underlying25 rfl (by decide +kernel) rfl) ?_
  refine W_r rfl rfl (VR_ldC rfl (et rfl) (cell_box (v := rv) (hS2.obj 0 rfl hc2) rfl) Try.underlying23 rfl) ?_
  refine W_v rfl rfl (V_lenS rfl (et rfl) (sl_SlN h_rv.at) Try.underlying23) ?_
  refine W_v rfl rfl (V_lss rfl (et rfl) rfl) ?_
  refine W_split rfl rfl (V_mov rfl (et rfl)) (fun c6 => ?_) (fun c6 => ?_)
  · skip
    refine W_off rfl (wanted_f rfl rfl (et rfl) (ez rfl) rfl) ?_
    refine W_off rfl (wanted_f rfl rfl (es rfl (et rfl)) (ez rfl) rfl) ?_
    refine W_off rfl (wanted_f rfl rfl (e2 rfl (et rfl)) (ez rfl) rfl) ?_
    refine W_off rfl (wanted_f rfl rfl (e3 rfl (et rfl)) (ez rfl) rfl) ?_
    refine W_v rfl rfl (V_pickT rfl (e4 rfl (et rfl)) rfl) ?_
    refine W_end ?_
    refine gen_Q (fun A7 hA7 => ?_)
    have hsz7 := szq hA7
    have hdf7 : A7.defers = [] := by rw [hA7]; simp only [df_put]; exact hdf3
    have l1_7 := lookE hA7 1 (e9 rfl (es rfl l1_3))
    have l17_7 := lookE hA7 17 (et rfl)
    clear hA7 hsz3 hdf3 l1_3
    refine then_n (hK5 _ _ ?_)
    clear hK5
    refine cond_t l17_7 ?_
    refine wp_seq_k (fun K8 hK8 => ?_)
    refine region_in ?_
    refine W_v rfl rfl (V_asg rfl rfl) ?_
    refine W_v rfl rfl (V_asg rfl rfl) ?_
    refine W_end ?_
    refine gen_Q (fun A9 hA9 => ?_)
    have hsz9 := szq hA9
    have hdf9 : A9.defers = [] := by rw [hA9]; simp only [df_put]; exact hdf7
    have l2_9 := lookE hA9 2 (es rfl (et rfl))
    have l3_9 := lookE hA9 3 (et rfl)
    clear hA9 hsz7 hdf7 l1_7 l17_7
    have hS10 : St w NoX [] w2 := hS2.sel [] (by decide) rfl
    refine then_n (hK8 _ _ ?_)
    clear hK8
    refine wp_ret ?_
    refine then_ret ?_
    refine ret_in (results_2 Try.results15 (rv_tmp l2_9) (rv_tmp l3_9)) hdf9 ?_
    -- leaf T
    have h : ckG (O.map ab) rs = (0, 7) := ckG_rng (by omega)
    rw [h]
    exact ⟨rfl, hS10.fin0⟩
  · skip
    refine W_v rfl (wanted_t rfl rfl (et rfl) (ez rfl)) (V_fa (off' := 1) rfl (e4 rfl (es rfl l1_3)) Try.underlying25 rfl (by decide +kernel) rfl) ?_
    refine W_r rfl (wanted_t rfl rfl (es rfl (et rfl)) (ez rfl)) (VR_ldC rfl (et rfl) (cell_box (v := rv) (hS2.obj 0 rfl hc2) rfl) Try.underlying23 rfl) ?_
    refine W_v rfl (wanted_t rfl rfl (e2 rfl (et rfl)) (ez rfl)) (V_lenS rfl (et rfl) (sl_SlN h_rv.at) Try.underlying23) ?_
    refine W_v rfl (wanted_t rfl rfl (e3 rfl (et rfl)) (ez rfl)) (V_gtr rfl (et rfl) rfl) ?_
    refine W_v rfl rfl (V_pickF rfl (e4 rfl (et rfl)) (et rfl)) ?_
    refine W_end ?_
    refine gen_Q (fun A11 hA11 => ?_)
    have hsz11 := szq hA11
    have hdf11 : A11.defers = [] := by rw [hA11]; simp only [df_put]; exact hdf3
    have l1_11 := lookE hA11 1 (e9 rfl (es rfl l1_3))
    have l17_11 := lookE hA11 17 (et rfl)
    clear hA11 hsz3 hdf3 l1_3
    refine then_n (hK5 _ _ ?_)
    clear hK5
    refine cond_dec l17_11 (fun c12 => ?_) (fun c12 => ?_)
    · skip
      refine wp_seq_k (fun K13 hK13 => ?_)
      refine region_in ?_
      refine W_v rfl rfl (V_asg rfl rfl) ?_
      refine W_v rfl rfl (V_asg rfl rfl) ?_
      refine W_end ?_
      refine gen_Q (fun A14 hA14 => ?_)
      have hsz14 := szq hA14
      have hdf14 : A14.defers = [] := by rw [hA14]; simp only [df_put]; exact hdf11
      have l2_14 := lookE hA14 2 (es rfl (et rfl))
      have l3_14 := lookE hA14 3 (et rfl)
      clear hA14 hsz11 hdf11 l1_11 l17_11
      have hS15 : St w NoX [] w2 := hS2.sel [] (by decide) rfl
      refine then_n (hK13 _ _ ?_)
      clear hK13
      refine wp_ret ?_
      refine then_ret ?_
      refine ret_in (results_2 Try.results15 (rv_tmp l2_14) (rv_tmp l3_14)) hdf14 ?_
      -- leaf FT
      have h : ckG (O.map ab) rs = (0, 7) := ckG_rng (by omega)
      rw [h]
      exact ⟨rfl, hS15.fin0⟩
    · skip
      refine wp_skip ?_
      refine then_n (hK4 _ _ ?_)
      clear hK4
      refine wp_seq_k (fun K16 hK16 => ?_)
      refine wp_seq_k (fun K17 hK17 => ?_)
      refine region_in ?_
      refine W_v rfl rfl (V_fa (off' := 0) rfl l1_11 Try.underlying25 rfl (by decide +kernel) rfl) ?_
      refine W_r rfl rfl (VR_ldC rfl (et rfl) (cell_box (v := ov) (hS2.obj 0 rfl hc2) rfl) Try.underlying22 rfl) ?_
      refine W_v rfl rfl (V_lenS rfl (et rfl) (sl_SlN h_ov.at) Try.underlying22) ?_
      refine W_v rfl rfl (V_gtr rfl (et rfl) rfl) ?_
      refine W_end ?_
      refine gen_Q (fun A18 hA18 => ?_)
      have hsz18 := szq hA18
      have hdf18 : A18.defers = [] := by rw [hA18]; simp only [df_put]; exact hdf11
      have l1_18 := lookE hA18 1 (e3 rfl (es rfl l1_11))
      have l21_18 := lookE hA18 21 (et rfl)
      clear hA18 hsz11 hdf11 l1_11 l17_11
      refine then_n (hK17 _ _ ?_)
      clear hK17
      refine cond_dec l21_18 (fun c19 => ?_) (fun c19 => ?_)
      · skip
        refine wp_seq_k (fun K20 hK20 => ?_)
        refine region_in ?_
        refine W_v rfl rfl (V_asg rfl rfl) ?_
        refine W_v rfl rfl (V_asg rfl rfl) ?_
        refine W_end ?_
        refine gen_Q (fun A21 hA21 => ?_)
        have hsz21 := szq hA21
        have hdf21 : A21.defers = [] := by rw [hA21]; simp only [df_put]; exact hdf18
        have l2_21 := lookE hA21 2 (es rfl (et rfl))
        have l3_21 := lookE hA21 3 (et rfl)
        clear hA21 hsz18 hdf18 l1_18 l21_18
        have hS22 : St w NoX [] w2 := hS2.sel [] (by decide) rfl
        refine then_n (hK20 _ _ ?_)
        clear hK20
        refine wp_ret ?_
        refine then_ret ?_
        refine ret_in (results_2 Try.results15 (rv_tmp l2_21) (rv_tmp l3_21)) hdf21 ?_
        -- leaf FFT
        have h : ckG (O.map ab) rs = (0, 3) := ckG_long (by omega) (by rw [List.length_map]; omega)
        rw [h]
        exact ⟨rfl, hS22.fin0⟩
      · skip
        refine wp_skip ?_
        refine then_n (hK16 _ _ ?_)
        clear hK16
        refine wp_seq_k (fun K23 hK23 => ?_)
        refine wp_seq_k (fun K24 hK24 => ?_)
        refine region_in ?_
        refine W_v rfl rfl (V_asg rfl rfl) ?_
        refine W_end ?_
        refine gen_Q (fun A25 hA25 => ?_)
        have hsz25 := szq hA25
        have hdf25 : A25.defers = [] := by rw [hA25]; simp only [df_put]; exact hdf18
        have l1_25 := lookE hA25 1 (es rfl l1_18)
        have l4_25 := lookE hA25 4 (et rfl)
        clear hA25 hsz18 hdf18 l1_18 l21_18
        refine then_n (hK24 _ _ ?_)
        clear hK24
        refine wp_block ?_
        -- loop 6
        refine loopX (fun mz A' w' => SzN A' 76 ∧ A'.defers = [] ∧ (∃ (k : Nat), (mz = O.length - k) ∧ (k ≤ O.length) ∧ (cgAt (O.map ab) k) ∧ (EV A' (.tmp 4) = .int .i64 (k : Int)) ∧ (EV A' (.tmp 1) = EV A25 (.tmp 1)) ∧ (St w NoX [bx g2 25 #[ov, rv]] w'))) (O.length - 0) ⟨hsz25, hdf25, 0, rfl, (by omega), rfl, ((l4_25).trans (by first | rfl | (simp; done) | (congr 1; omega))), rfl, (by subst hc2; exact hS2)⟩ ?_
        clear hS2 hc2
        rintro n26 A26 w26 ⟨hsz26, hdf26, k, hm26, hk, hz, l4_26, u1_26, hS26⟩
        have l1_26 := u1_26.trans l1_25
        obtain ⟨c2_26, hc2_26, hS26⟩ := gen1 hS26
        refine wp_seq_k (fun K27 hK27 => ?_)
        refine wp_seq_k (fun K28 hK28 => ?_)
        refine region_in ?_
        refine W_v rfl rfl (V_mov rfl l4_26) ?_
        refine W_v rfl rfl (V_fa (off' := 0) rfl (es rfl l1_26) Try.underlying25 rfl (by decide +kernel) rfl) ?_
        refine W_r rfl rfl (VR_ldC rfl (et rfl) (cell_box (v := ov) (hS26.obj 0 rfl hc2_26) rfl) Try.underlying22 rfl) ?_
        refine W_v rfl rfl (V_lenS rfl (et rfl) (sl_SlN h_ov.at) Try.underlying22) ?_
        refine W_v rfl rfl (V_lss rfl (e3 rfl (et rfl)) (et rfl)) ?_
        refine W_end ?_
        refine gen_Q (fun A29 hA29 => ?_)
        have hsz29 := szq hA29
        have hdf29 : A29.defers = [] := by rw [hA29]; simp only [df_put]; exact hdf26
        have l1_29 := lookE hA29 1 (e4 rfl (es rfl l1_26))
        have l4_29 := lookE hA29 4 (e4 rfl (es rfl l4_26))
        have l26_29 := lookE hA29 26 (et rfl)
        clear hA29 hsz26 hdf26 l4_26 l1_26
        refine then_n (hK28 _ _ ?_)
        clear hK28
        refine cond_dec l26_29 (fun c30 => ?_) (fun c30 => ?_)
        · skip
          refine wp_skip ?_
          refine then_n (hK27 _ _ ?_)
          clear hK27
          refine wp_seq_k (fun K31 hK31 => ?_)
          refine wp_block ?_
          refine wp_seq_k (fun K32 hK32 => ?_)
          refine region_in ?_
          refine W_v rfl rfl (V_fa (off' := 0) rfl l1_29 Try.underlying25 rfl (by decide +kernel) rfl) ?_
          refine W_r rfl rfl (VR_ldC rfl (et rfl) (cell_box (v := ov) (hS26.obj 0 rfl hc2_26) rfl) Try.underlying22 rfl) ?_
          refine W_v rfl rfl (V_mov rfl (es rfl (es rfl l4_29))) ?_
          have k33 : k < O.length := by first | omega | (simp only [List.length_cons, List.length_nil]; omega) | (simp only [List.length_set]; omega)
          obtain ⟨y33, hy33⟩ := get_some (xs := O) (k := k) k33
          have hm33 : (O.map ab)[k]? = some (ab y33) := mapE hy33
          obtain ⟨B33, O33, C33, hv33⟩ := (SlN.blk (sl_SlN h_ov.at) (by first | omega | (simp only [List.length_cons, List.length_nil]; omega) | (simp only [List.length_set]; omega)))
          refine W_v rfl rfl (V_ixS (off := O33 + k * 2) 2 (k) rfl (es rfl (et rfl)) (et rfl) hv33 (by omega) k33 Try.underlying22 (by kernel_rfl) rfl) ?_
          have fn34 : Ro w NoX (il .i64 y33.1.1 y33.1.2) := nst_ro1 n_ov hy33
          have bfn34 := SlN.le (sl_SlN (hS26.ro fn34))
          have fn35 : Ro w NoX (il .u64 y33.2.1 y33.2.2) := nst_ro2 n_ov hy33
          have bfn35 := SlN.le (sl_SlN (hS26.ro fn35))
          refine W_r rfl rfl (VR_ldR (ys := obC y33) rfl (et rfl) (SlN.row obC_len (sl_SlN (hS26.ro h_ov)) hv33 hy33 rfl) Try.underlying40 rfl (by kernel_rfl)) ?_
          refine W_allocS (z := .agg #[.slice none 0 0, .slice none 0 0]) (zs := #[.slice none 0 0, .slice none 0 0]) hS26 rfl rfl rfl (by kernel_rfl) (by rfl) (fun g36 w36 c36 hc36 hS36 => ?_)
          replace hS36 : St w NoX [c36, c2_26] w36 := hS36
          refine W_stAS 0 hS36 rfl hc36 rfl rfl rfl (et rfl) (es rfl (et rfl)) (by simp only [List.all_toArray, List.all_cons, List.all_nil, obC, SlN_one (sl_SlN fn34.at), SlN_one (sl_SlN fn35.at)] <;> rfl) (by rfl) (by kernel_rfl) (fun w37 c37 hc37 hS37 => ?_)
          replace hS37 : St w NoX [c37, c2_26] w37 := hS37
          refine W_end ?_
          refine gen_Q (fun A38 hA38 => ?_)
          have hsz38 := szq hA38
          have hdf38 : A38.defers = [] := by rw [hA38]; simp only [df_put]; exact hdf29
          have l1_38 := lookE hA38 1 (e5 rfl (es rfl l1_29))
          have l4_38 := lookE hA38 4 (e5 rfl (es rfl l4_29))
          have l5_38 := lookE hA38 5 (et rfl)
          clear hA38 hsz29 hdf29 l1_29 l4_29 l26_29
          refine then_n (hK32 _ _ ?_)
          clear hK32
          refine wp_seq_k (fun K39 hK39 => ?_)
          refine wp_seq_k (fun K40 hK40 => ?_)
          refine region_in ?_
          refine W_v rfl rfl (V_fa (off' := 0) rfl l5_38 Try.underlying40 rfl (by decide +kernel) rfl) ?_
          refine W_r rfl rfl (VR_ldC rfl (et rfl) (cell_box (v := y33.1.1) (hS37.obj 0 rfl hc37) rfl) Try.underlying23 rfl) ?_
          refine W_v rfl rfl (V_lenS rfl (et rfl) (sl_SlN fn34.at) Try.underlying23) ?_
          refine W_v rfl rfl (V_fa (off' := 1) rfl (e2 rfl (es rfl l5_38)) Try.underlying40 rfl (by decide +kernel) rfl) ?_
          refine W_r rfl rfl (VR_ldC rfl (et rfl) (cell_box (v := y33.2.1) (hS37.obj 0 rfl hc37) rfl) Try.underlying38 rfl) ?_
          refine W_v rfl rfl (V_lenS rfl (et rfl) (sl_SlN fn35.at) Try.underlying38) ?_
          refine W_v rfl rfl (V_addw rfl (e3 rfl (et rfl)) (et rfl)) ?_
          refine W_v rfl rfl (V_gtr rfl (et rfl) rfl) ?_
          refine W_end ?_
          refine gen_Q (fun A41 hA41 => ?_)
          have hsz41 := szq hA41
          have hdf41 : A41.defers = [] := by rw [hA41]; simp only [df_put]; exact hdf38
          have l1_41 := lookE hA41 1 (e7 rfl (es rfl l1_38))
          have l4_41 := lookE hA41 4 (e7 rfl (es rfl l4_38))
          have l5_41 := lookE hA41 5 (e7 rfl (es rfl l5_38))
          have l41_41 := lookE hA41 41 (et rfl)
          clear hA41 hsz38 hdf38 l1_38 l4_38 l5_38
          refine then_n (hK40 _ _ ?_)
          clear hK40
          refine cond_dec l41_41 (fun c42 => ?_) (fun c42 => ?_)
          · skip
            refine wp_seq_k (fun K43 hK43 => ?_)
            refine region_in ?_
            refine W_v rfl rfl (V_mov rfl l4_41) ?_
            refine W_v rfl rfl (V_add rfl (et rfl) rfl (by omega) (by omega)) ?_
            refine W_v rfl rfl (V_asg rfl (et rfl)) ?_
            refine W_v rfl rfl (V_asg rfl rfl) ?_
            refine W_end ?_
            refine gen_Q (fun A44 hA44 => ?_)
            have hsz44 := szq hA44
            have hdf44 : A44.defers = [] := by rw [hA44]; simp only [df_put]; exact hdf41
            have l2_44 := lookE hA44 2 (es rfl (et rfl))
            have l3_44 := lookE hA44 3 (et rfl)
            clear hA44 hsz41 hdf41 l1_41 l4_41 l5_41 l41_41
            have hS45 : St w NoX [] w37 := hS37.sel [] (by decide) rfl
            refine then_n (hK43 _ _ ?_)
            clear hK43
            refine wp_ret ?_
            refine then_ret ?_
            refine inb_ret ?_
            refine then_ret ?_
            refine then_ret ?_
            refine inb_ret ?_
            refine then_ret ?_
            refine ret_in (results_2 Try.results15 (rv_tmp l2_44) (rv_tmp l3_44)) hdf44 ?_
            -- leaf FFFTT
            have h : ckG (O.map ab) rs = (((k : Int) + 1), 3) := (ckG_obj (by omega) (by rw [List.length_map]; omega) hz hm33).1 c42
            rw [h]
            exact ⟨rfl, hS45.fin0⟩
          · skip
            refine wp_skip ?_
            refine then_n (hK39 _ _ ?_)
            clear hK39
            refine wp_seq_k (fun K46 hK46 => ?_)
            refine region_in ?_
            refine W_v rfl rfl (V_asg rfl rfl) ?_
            refine W_end ?_
            refine gen_Q (fun A47 hA47 => ?_)
            have hsz47 := szq hA47
            have hdf47 : A47.defers = [] := by rw [hA47]; simp only [df_put]; exact hdf41
            have l1_47 := lookE hA47 1 (es rfl l1_41)
            have l4_47 := lookE hA47 4 (es rfl l4_41)
            have l5_47 := lookE hA47 5 (es rfl l5_41)
            have l6_47 := lookE hA47 6 (et rfl)
            clear hA47 hsz41 hdf41 l1_41 l4_41 l5_41 l41_41
            refine then_n (hK46 _ _ ?_)
            clear hK46
            refine wp_block ?_
            -- loop 12
            refine loopX (fun mz A' w' => SzN A' 76 ∧ A'.defers = [] ∧ (∃ (j : Nat), (mz = y33.1.2.length - j) ∧ (j ≤ y33.1.2.length) ∧ (∀ i, i < j → ∀ x, y33.1.2[i]? = some x → 0 ≤ x ∧ x ≤ ((((O.map ab)).length : Nat) : Int)) ∧ (EV A' (.tmp 6) = .int .i64 (j : Int)) ∧ (EV A' (.tmp 1) = EV A47 (.tmp 1)) ∧ (EV A' (.tmp 4) = EV A47 (.tmp 4)) ∧ (EV A' (.tmp 5) = EV A47 (.tmp 5)) ∧ (St w NoX [bx g36 40 #[y33.1.1, y33.2.1], bx g2 25 #[ov, rv]] w'))) (y33.1.2.length - 0) ⟨hsz47, hdf47, 0, rfl, (by omega), (fun i hi => by omega), ((l6_47).trans (by first | rfl | (simp; done) | (congr 1; omega))), rfl, rfl, rfl, (by subst hc37 hc2_26; exact hS37)⟩ ?_
            clear hS37 hc37 hc2_26
            rintro n48 A48 w48 ⟨hsz48, hdf48, j, hm48, hj, hpp, l6_48, u1_48, u4_48, u5_48, hS48⟩
            have l1_48 := u1_48.trans l1_47
            have l4_48 := u4_48.trans l4_47
            have l5_48 := u5_48.trans l5_47
            obtain ⟨c37_48, c2_48, hc37_48, hc2_48, hS48⟩ := gen2 hS48
            refine wp_seq_k (fun K49 hK49 => ?_)
            refine wp_seq_k (fun K50 hK50 => ?_)
            refine region_in ?_
            refine W_v rfl rfl (V_mov rfl l6_48) ?_
            refine W_v rfl rfl (V_fa (off' := 0) rfl (es rfl l5_48) Try.underlying40 rfl (by decide +kernel) rfl) ?_
            refine W_r rfl rfl (VR_ldC rfl (et rfl) (cell_box (v := y33.1.1) (hS48.obj 0 rfl hc37_48) rfl) Try.underlying23 rfl) ?_
            refine W_v rfl rfl (V_lenS rfl (et rfl) (sl_SlN fn34.at) Try.underlying23) ?_
            refine W_v rfl rfl (V_lss rfl (e3 rfl (et rfl)) (et rfl)) ?_
            refine W_end ?_
            refine gen_Q (fun A51 hA51 => ?_)
            have hsz51 := szq hA51
            have hdf51 : A51.defers = [] := by rw [hA51]; simp only [df_put]; exact hdf48
            have l1_51 := lookE hA51 1 (e4 rfl (es rfl l1_48))
            have l4_51 := lookE hA51 4 (e4 rfl (es rfl l4_48))
            have l5_51 := lookE hA51 5 (e4 rfl (es rfl l5_48))
            have l6_51 := lookE hA51 6 (e4 rfl (es rfl l6_48))
            have l48_51 := lookE hA51 48 (et rfl)
            clear hA51 hsz48 hdf48 l6_48 l1_48 l4_48 l5_48
            refine then_n (hK50 _ _ ?_)
            clear hK50
            refine cond_dec l48_51 (fun c52 => ?_) (fun c52 => ?_)
            · skip
              refine wp_skip ?_
              refine then_n (hK49 _ _ ?_)
              clear hK49
              refine wp_seq_k (fun K53 hK53 => ?_)
              refine wp_block ?_
              refine wp_seq_k (fun K54 hK54 => ?_)
              have k55 : j < y33.1.2.length := by first | omega | (simp only [List.length_cons, List.length_nil]; omega) | (simp only [List.length_set]; omega)
              obtain ⟨y55, hy55⟩ := get_some (xs := y33.1.2) (k := j) k55
              refine region_monoS 8 8 [none, none, none, none, none, none, some (SPv [] (fun _ => fun u l' => u = .bool (decide (0 ≤ y55 ∧ y55 ≤ (O.length : Int))) ∧ l' = []) 6)] (by kernel_rfl) (by kernel_rfl) ?_
              refine D_r rfl rfl (by kernel_rfl) (fun sx hx hF => (VR_ldA rfl l1_51 ((hS48.grow hx).obj 1 rfl hc2_48) Try.underlying25 rfl (by kernel_rfl))) rfl rfl ?_
              refine D_v rfl rfl (V_fa (off' := 0) rfl (es rfl l5_51) Try.underlying40 rfl (by decide +kernel) rfl) rfl rfl ?_
              refine D_r rfl rfl (by kernel_rfl) (fun sx hx hF => (VR_ldC rfl (et rfl) (cell_box (v := y33.1.1) ((hS48.grow hx).obj 0 rfl hc37_48) rfl) Try.underlying23 rfl)) rfl rfl ?_
              refine D_v rfl rfl (V_mov rfl (e2 rfl (es rfl l6_51))) rfl rfl ?_
              obtain ⟨B55, O55, C55, hv55⟩ := (SlN.blk (sl_SlN fn34.at) (by first | omega | (simp only [List.length_cons, List.length_nil]; omega) | (simp only [List.length_set]; omega)))
              refine D_v rfl rfl (V_ixS (off := O55 + j) 1 (j) rfl (es rfl (et rfl)) (et rfl) hv55 (by omega) k55 Try.underlying23 (by kernel_rfl) (congrArg _ (Nat.mul_one _))) rfl rfl ?_
              refine D_r rfl rfl (by kernel_rfl) (fun sx hx hF => (VR_ldC rfl (et rfl) ((sl_SlN ((hS48.grow hx).ro fn34)).cell hv55 (map_get hy55)) Try.underlying3 rfl)) rfl rfl ?_
              refine D_call (ts := []) (vs := []) (C0 := fun _ => fun u l' => u = .bool (decide (0 ≤ y55 ∧ y55 ≤ (O.length : Int))) ∧ l' = []) (C := fun u l' => u = .bool (decide (0 ≤ y55 ∧ y55 ≤ (O.length : Int))) ∧ l' = []) rfl rfl rfl Try.func46 (by kernel_rfl) rfl (args2 (e5 rfl (et rfl)) (et rfl)) rfl rfl rfl rfl (fun sx hx hF => ?_) (fun u56 l56 hu56 => ?_)
              · refine (qid_c (n := y55) ((hS48.grow hx).roC h_ov) ((hS48.grow hx).roC n_ov) ((hS48.grow hx).roC h_rv) ).mono ?_
                rintro _ _ ⟨rfl, hz⟩
                exact ⟨_, rfl, _, ⟨rfl, rfl⟩, hz⟩
              obtain ⟨rfl, hl56⟩ := hu56
              refine D_v rfl rfl (V_notd rfl (et rfl)) rfl rfl ?_
              refine ZS_none hS48 (Nat.le_refl _) (Nat.le_refl _) (fun s57 hJ57 hL57 hF57 => ?_)
              obtain ⟨ll56, ws56, we56, ⟨hq56, hl56r⟩, hm56, k56, e56⟩ := L.all_get hF57; cases hq56; subst hl56r
              replace hJ57 := hJ57.add hL57 (i := 6) rfl hm56 k56 e56
              have hS57 := hJ57.st; clear hF57 hJ57 hL57
              generalize s57.1 = w57 at *
              replace hS57 : St w NoX [c37_48, c2_48] w57 := hS57
              refine gen_Q (fun A58 hA58 => ?_)
              have hsz58 := szq hA58
              have hdf58 : A58.defers = [] := by rw [hA58]; simp only [df_put]; exact hdf51
              have l1_58 := lookE hA58 1 (e7 rfl (es rfl l1_51))
              have l4_58 := lookE hA58 4 (e7 rfl (es rfl l4_51))
              have l5_58 := lookE hA58 5 (e7 rfl (es rfl l5_51))
              have l6_58 := lookE hA58 6 (e7 rfl (es rfl l6_51))
              have l58_58 := lookE hA58 58 (et rfl)
              clear hA58 hsz51 hdf51 l1_51 l4_51 l5_51 l6_51 l48_51
              refine then_n (hK54 _ _ ?_)
              clear hK54
              refine cond_dec l58_58 (fun c59 => ?_) (fun c59 => ?_)
              · skip
                refine wp_seq_k (fun K60 hK60 => ?_)
                refine region_in ?_
                refine W_v rfl rfl (V_mov rfl l4_58) ?_
                refine W_v rfl rfl (V_add rfl (et rfl) rfl (by omega) (by omega)) ?_
                refine W_v rfl rfl (V_asg rfl (et rfl)) ?_
                refine W_v rfl rfl (V_asg rfl rfl) ?_
                refine W_end ?_
                refine gen_Q (fun A61 hA61 => ?_)
                have hsz61 := szq hA61
                have hdf61 : A61.defers = [] := by rw [hA61]; simp only [df_put]; exact hdf58
                have l2_61 := lookE hA61 2 (es rfl (et rfl))
                have l3_61 := lookE hA61 3 (et rfl)
                clear hA61 hsz58 hdf58 l1_58 l4_58 l5_58 l6_58 l58_58
                have hS62 : St w NoX [] w57 := hS57.sel [] (by decide) rfl
                refine then_n (hK60 _ _ ?_)
                clear hK60
                refine wp_ret ?_
                refine inb_ret ?_
                refine then_ret ?_
                refine then_ret ?_
                refine inb_ret ?_
                refine inb_ret ?_
                refine then_ret ?_
                refine then_ret ?_
                refine inb_ret ?_
                refine then_ret ?_
                refine ret_in (results_2 Try.results15 (rv_tmp l2_61) (rv_tmp l3_61)) hdf61 ?_
                -- leaf FFFTFTT
                have h : ckG (O.map ab) rs = (((k : Int) + 1), 6) := (ckG_obj (by omega) (by rw [List.length_map]; omega) hz hm33).2 c42 (any_at hy55 (by rw [List.length_map]; have hc := c59; simpa using hc))
                rw [h]
                exact ⟨rfl, hS62.fin0⟩
              · skip
                refine wp_skip ?_
                refine inb_n ?_
                refine then_n (hK53 _ _ ?_)
                clear hK53
                refine region_in ?_
                refine W_v rfl rfl (V_mov rfl l6_58) ?_
                refine W_v rfl rfl (V_add rfl (et rfl) rfl (by omega) (by omega)) ?_
                refine W_v rfl rfl (V_asg rfl (et rfl)) ?_
                refine W_end ?_
                refine gen_Q (fun A63 hA63 => ?_)
                have hsz63 := szq hA63
                have hdf63 : A63.defers = [] := by rw [hA63]; simp only [df_put]; exact hdf58
                have l1_63 := lookE hA63 1 (e2 rfl (es rfl l1_58))
                have l4_63 := lookE hA63 4 (e2 rfl (es rfl l4_58))
                have l5_63 := lookE hA63 5 (e2 rfl (es rfl l5_58))
                have l6_63 := lookE hA63 6 (et rfl)
                clear hA63 hsz58 hdf58 l1_58 l4_58 l5_58 l6_58 l58_58
                refine then_n ⟨y33.1.2.length - (j + 1), by simp only [hm48]; omega, hsz63, hdf63, (j + 1), rfl, (by omega), (rn_step hpp hy55 (by rw [List.length_map]; have hc := c59; simpa using hc)), ((l6_63).trans (by first | rfl | (simp; done) | (congr 1; omega))), ((l1_63).trans l1_47.symm), ((l4_63).trans l4_47.symm), ((l5_63).trans l5_47.symm), (by subst hc37_48 hc2_48; exact hS57)⟩
            · skip
              refine wp_exit ?_
              refine then_exit ?_
              refine then_exit ?_
              refine inb_hit ?_
              refine inb_n ?_
              refine then_n (hK31 _ _ ?_)
              clear hK31
              refine region_in ?_
              refine W_v rfl rfl (V_mov rfl l4_51) ?_
              refine W_v rfl rfl (V_add rfl (et rfl) rfl (by omega) (by omega)) ?_
              refine W_v rfl rfl (V_asg rfl (et rfl)) ?_
              refine W_end ?_
              refine gen_Q (fun A64 hA64 => ?_)
              have hsz64 := szq hA64
              have hdf64 : A64.defers = [] := by rw [hA64]; simp only [df_put]; exact hdf51
              have l1_64 := lookE hA64 1 (e2 rfl (es rfl l1_51))
              have l4_64 := lookE hA64 4 (et rfl)
              clear hA64 hsz51 hdf51 l1_51 l4_51 l5_51 l6_51 l48_51
              have hS65 : St w NoX [c2_48] w48 := hS48.sel [1] (by decide) rfl
              refine then_n ⟨O.length - (k + 1), by simp only [hm26]; omega, hsz64, hdf64, (k + 1), rfl, (by omega), (cg_step hz hm33 c42 (any_none (l := (ab y33).1) hpp (by simp only [ab]; omega))), ((l4_64).trans (by first | rfl | (simp; done) | (congr 1; omega))), ((l1_64).trans l1_25.symm), (by subst hc2_48; exact hS65)⟩
        · skip
          refine wp_exit ?_
          refine then_exit ?_
          refine then_exit ?_
          refine inb_hit ?_
          refine then_n (hK23 _ _ ?_)
          clear hK23
          refine wp_seq_k (fun K66 hK66 => ?_)
          refine wp_seq_k (fun K67 hK67 => ?_)
          refine region_in ?_
          refine W_v rfl rfl (V_asg rfl rfl) ?_
          refine W_end ?_
          refine gen_Q (fun A68 hA68 => ?_)
          have hsz68 := szq hA68
          have hdf68 : A68.defers = [] := by rw [hA68]; simp only [df_put]; exact hdf29
          have l1_68 := lookE hA68 1 (es rfl l1_29)
          have l7_68 := lookE hA68 7 (et rfl)
          clear hA68 hsz29 hdf29 l1_29 l4_29 l26_29
          refine then_n (hK67 _ _ ?_)
          clear hK67
          refine wp_block ?_
          -- loop 17
          refine loopX (fun mz A' w' => SzN A' 76 ∧ A'.defers = [] ∧ (∃ (m : Nat), (mz = rs.length - m) ∧ (m ≤ rs.length) ∧ (∀ i, i < m → ∀ x, rs[i]? = some x → 0 ≤ x ∧ x ≤ ((((O.map ab)).length : Nat) : Int)) ∧ (EV A' (.tmp 7) = .int .i64 (m : Int)) ∧ (EV A' (.tmp 1) = EV A68 (.tmp 1)) ∧ (St w NoX [bx g2 25 #[ov, rv]] w'))) (rs.length - 0) ⟨hsz68, hdf68, 0, rfl, (by omega), (fun i hi => by omega), ((l7_68).trans (by first | rfl | (simp; done) | (congr 1; omega))), rfl, (by subst hc2_26; exact hS26)⟩ ?_
          clear hS26 hc2_26
          rintro n69 A69 w69 ⟨hsz69, hdf69, m, hm69, hmm, hrr, l7_69, u1_69, hS69⟩
          have l1_69 := u1_69.trans l1_68
          obtain ⟨c2_69, hc2_69, hS69⟩ := gen1 hS69
          refine wp_seq_k (fun K70 hK70 => ?_)
          refine wp_seq_k (fun K71 hK71 => ?_)
          refine region_in ?_
          refine W_v rfl rfl (V_mov rfl l7_69) ?_
          refine W_v rfl rfl (V_fa (off' := 1) rfl (es rfl l1_69) Try.underlying25 rfl (by decide +kernel) rfl) ?_
          refine W_r rfl rfl (VR_ldC rfl (et rfl) (cell_box (v := rv) (hS69.obj 0 rfl hc2_69) rfl) Try.underlying23 rfl) ?_
          refine W_v rfl rfl (V_lenS rfl (et rfl) (sl_SlN h_rv.at) Try.underlying23) ?_
          refine W_v rfl rfl (V_lss rfl (e3 rfl (et rfl)) (et rfl)) ?_
          refine W_end ?_
          refine gen_Q (fun A72 hA72 => ?_)
          have hsz72 := szq hA72
          have hdf72 : A72.defers = [] := by rw [hA72]; simp only [df_put]; exact hdf69
          have l1_72 := lookE hA72 1 (e4 rfl (es rfl l1_69))
          have l7_72 := lookE hA72 7 (e4 rfl (es rfl l7_69))
          have l65_72 := lookE hA72 65 (et rfl)
          clear hA72 hsz69 hdf69 l7_69 l1_69
          refine then_n (hK71 _ _ ?_)
          clear hK71
          refine cond_dec l65_72 (fun c73 => ?_) (fun c73 => ?_)
          · skip
            refine wp_skip ?_
            refine then_n (hK70 _ _ ?_)
            clear hK70
            refine wp_seq_k (fun K74 hK74 => ?_)
            refine wp_block ?_
            refine wp_seq_k (fun K75 hK75 => ?_)
            have k76 : m < rs.length := by first | omega | (simp only [List.length_cons, List.length_nil]; omega) | (simp only [List.length_set]; omega)
            obtain ⟨y76, hy76⟩ := get_some (xs := rs) (k := m) k76
            refine region_monoS 8 8 [none, none, none, none, none, none, some (SPv [] (fun _ => fun u l' => u = .bool (decide (0 ≤ y76 ∧ y76 ≤ (O.length : Int))) ∧ l' = []) 6)] (by kernel_rfl) (by kernel_rfl) ?_
            refine D_r rfl rfl (by kernel_rfl) (fun sx hx hF => (VR_ldA rfl l1_72 ((hS69.grow hx).obj 0 rfl hc2_69) Try.underlying25 rfl (by kernel_rfl))) rfl rfl ?_
            refine D_v rfl rfl (V_fa (off' := 1) rfl (es rfl l1_72) Try.underlying25 rfl (by decide +kernel) rfl) rfl rfl ?_
            refine D_r rfl rfl (by kernel_rfl) (fun sx hx hF => (VR_ldC rfl (et rfl) (cell_box (v := rv) ((hS69.grow hx).obj 0 rfl hc2_69) rfl) Try.underlying23 rfl)) rfl rfl ?_
            refine D_v rfl rfl (V_mov rfl (e2 rfl (es rfl l7_72))) rfl rfl ?_
            obtain ⟨B76, O76, C76, hv76⟩ := (SlN.blk (sl_SlN h_rv.at) (by first | omega | (simp only [List.length_cons, List.length_nil]; omega) | (simp only [List.length_set]; omega)))
            refine D_v rfl rfl (V_ixS (off := O76 + m) 1 (m) rfl (es rfl (et rfl)) (et rfl) hv76 (by omega) k76 Try.underlying23 (by kernel_rfl) (congrArg _ (Nat.mul_one _))) rfl rfl ?_
            refine D_r rfl rfl (by kernel_rfl) (fun sx hx hF => (VR_ldC rfl (et rfl) ((sl_SlN ((hS69.grow hx).ro h_rv)).cell hv76 (map_get hy76)) Try.underlying3 rfl)) rfl rfl ?_
            refine D_call (ts := []) (vs := []) (C0 := fun _ => fun u l' => u = .bool (decide (0 ≤ y76 ∧ y76 ≤ (O.length : Int))) ∧ l' = []) (C := fun u l' => u = .bool (decide (0 ≤ y76 ∧ y76 ≤ (O.length : Int))) ∧ l' = []) rfl rfl rfl Try.func46 (by kernel_rfl) rfl (args2 (e5 rfl (et rfl)) (et rfl)) rfl rfl rfl rfl (fun sx hx hF => ?_) (fun u77 l77 hu77 => ?_)
            · refine (qid_c (n := y76) ((hS69.grow hx).roC h_ov) ((hS69.grow hx).roC n_ov) ((hS69.grow hx).roC h_rv) ).mono ?_
              rintro _ _ ⟨rfl, hz⟩
              exact ⟨_, rfl, _, ⟨rfl, rfl⟩, hz⟩
            obtain ⟨rfl, hl77⟩ := hu77
            refine D_v rfl rfl (V_notd rfl (et rfl)) rfl rfl ?_
            refine ZS_none hS69 (Nat.le_refl _) (Nat.le_refl _) (fun s78 hJ78 hL78 hF78 => ?_)
            obtain ⟨ll77, ws77, we77, ⟨hq77, hl77r⟩, hm77, k77, e77⟩ := L.all_get hF78; cases hq77; subst hl77r
            replace hJ78 := hJ78.add hL78 (i := 6) rfl hm77 k77 e77
            have hS78 := hJ78.st; clear hF78 hJ78 hL78
            generalize s78.1 = w78 at *
            replace hS78 : St w NoX [c2_69] w78 := hS78
            refine gen_Q (fun A79 hA79 => ?_)
            have hsz79 := szq hA79
            have hdf79 : A79.defers = [] := by rw [hA79]; simp only [df_put]; exact hdf72
            have l1_79 := lookE hA79 1 (e7 rfl (es rfl l1_72))
            have l7_79 := lookE hA79 7 (e7 rfl (es rfl l7_72))
            have l75_79 := lookE hA79 75 (et rfl)
            clear hA79 hsz72 hdf72 l1_72 l7_72 l65_72
            refine then_n (hK75 _ _ ?_)
            clear hK75
            refine cond_dec l75_79 (fun c80 => ?_) (fun c80 => ?_)
            · skip
              refine wp_seq_k (fun K81 hK81 => ?_)
              refine region_in ?_
              refine W_v rfl rfl (V_asg rfl rfl) ?_
              refine W_v rfl rfl (V_asg rfl rfl) ?_
              refine W_end ?_
              refine gen_Q (fun A82 hA82 => ?_)
              have hsz82 := szq hA82
              have hdf82 : A82.defers = [] := by rw [hA82]; simp only [df_put]; exact hdf79
              have l2_82 := lookE hA82 2 (es rfl (et rfl))
              have l3_82 := lookE hA82 3 (et rfl)
              clear hA82 hsz79 hdf79 l1_79 l7_79 l75_79
              have hS83 : St w NoX [] w78 := hS78.sel [] (by decide) rfl
              refine then_n (hK81 _ _ ?_)
              clear hK81
              refine wp_ret ?_
              refine inb_ret ?_
              refine then_ret ?_
              refine then_ret ?_
              refine inb_ret ?_
              refine then_ret ?_
              refine ret_in (results_2 Try.results15 (rv_tmp l2_82) (rv_tmp l3_82)) hdf82 ?_
              -- leaf FFFFTT
              have h : ckG (O.map ab) rs = (0, 6) := (ckG_end (by omega) (by rw [List.length_map]; omega) hz (by rw [List.length_map]; omega)).trans (if_pos (any_at hy76 (by rw [List.length_map]; have hc := c80; simpa using hc)))
              rw [h]
              exact ⟨rfl, hS83.fin0⟩
            · skip
              refine wp_skip ?_
              refine inb_n ?_
              refine then_n (hK74 _ _ ?_)
              clear hK74
              refine region_in ?_
              refine W_v rfl rfl (V_mov rfl l7_79) ?_
              refine W_v rfl rfl (V_add rfl (et rfl) rfl (by omega) (by omega)) ?_
              refine W_v rfl rfl (V_asg rfl (et rfl)) ?_
              refine W_end ?_
              refine gen_Q (fun A84 hA84 => ?_)
              have hsz84 := szq hA84
              have hdf84 : A84.defers = [] := by rw [hA84]; simp only [df_put]; exact hdf79
              have l1_84 := lookE hA84 1 (e2 rfl (es rfl l1_79))
              have l7_84 := lookE hA84 7 (et rfl)
              clear hA84 hsz79 hdf79 l1_79 l7_79 l75_79
              refine then_n ⟨rs.length - (m + 1), by simp only [hm69]; omega, hsz84, hdf84, (m + 1), rfl, (by omega), (rn_step hrr hy76 (by rw [List.length_map]; have hc := c80; simpa using hc)), ((l7_84).trans (by first | rfl | (simp; done) | (congr 1; omega))), ((l1_84).trans l1_68.symm), (by subst hc2_69; exact hS78)⟩
          · skip
            refine wp_exit ?_
            refine then_exit ?_
            refine then_exit ?_
            refine inb_hit ?_
            refine then_n (hK66 _ _ ?_)
            clear hK66
            refine wp_seq_k (fun K85 hK85 => ?_)
            refine region_in ?_
            refine W_v rfl rfl (V_asg rfl rfl) ?_
            refine W_v rfl rfl (V_asg rfl rfl) ?_
            refine W_end ?_
            refine gen_Q (fun A86 hA86 => ?_)
            have hsz86 := szq hA86
            have hdf86 : A86.defers = [] := by rw [hA86]; simp only [df_put]; exact hdf72
            have l2_86 := lookE hA86 2 (es rfl (et rfl))
            have l3_86 := lookE hA86 3 (et rfl)
            clear hA86 hsz72 hdf72 l1_72 l7_72 l65_72
            have hS87 : St w NoX [] w69 := hS69.sel [] (by decide) rfl
            refine then_n (hK85 _ _ ?_)
            clear hK85
            refine wp_ret ?_
            refine ret_in (results_2 Try.results15 (rv_tmp l2_86) (rv_tmp l3_86)) hdf86 ?_
            -- leaf FFFFF
            have h : ckG (O.map ab) rs = (0, 0) := (ckG_end (by omega) (by rw [List.length_map]; omega) hz (by rw [List.length_map]; omega)).trans (if_neg (by rw [any_none (n := (O.map ab).length) hrr (by omega)]; decide))
            rw [h]
            exact ⟨rfl, hS87.fin0⟩

set_option maxHeartbeats 4000000 in
theorem qcd_c {ov : Value} {O : List Ob} {rv : Value} {rs : List Int} {nv : Value} {ns : List Int} {w : World} (h_ov : Ro w NoX (rl 2 obC ov O)) (n_ov : Ro w NoX (nst O)) (h_rv : Ro w NoX (il .i64 rv rs)) (h_nv : Ro w NoX (il .i64 nv ns))  :
    Calls Try.prog 59 #[.agg #[ov, rv], nv] w fun e w' => e = .returned (.int .i64 (ckd (O.map ab) rs ns)) ∧ St w NoX [] w' := by
  refine calls_in 39 Try.func59 rfl rfl (by simp) (fun A0 hsz0 hdf0 hargs => ?_)
  have l0_0 := hargs 0 (.agg #[ov, rv]) rfl
  have l1_0 := hargs 1 (nv) rfl
  clear hargs; replace hsz0 : SzN A0 39 := ⟨hsz0⟩
  have hS := St.nil w
  have bh_ov := SlN.le (sl_SlN h_ov.at)
  have bh_rv := SlN.le (sl_SlN h_rv.at)
  have bh_nv := SlN.le (sl_SlN h_nv.at)
  refine wp_seq_k (fun K1 hK1 => ?_)
  refine region_in ?_
  refine W_boxS (zs := #[ov, rv]) hS rfl rfl rfl l0_0 (by rfl) (fun g2 w2 c2 hc2 hS2 => ?_)
  replace hS2 : St w NoX [c2] w2 := hS2
  refine W_v rfl rfl (V_asg rfl rfl) ?_
  refine W_end ?_
  refine gen_Q (fun A3 hA3 => ?_)
  have hsz3 := szq hA3
  have hdf3 : A3.defers = [] := by rw [hA3]; simp only [df_put]; exact hdf0
  have l1_3 := lookE hA3 1 (es rfl (es rfl l1_0))
  have l2_3 := lookE hA3 2 (es rfl (et rfl))
  clear hA3 hsz0 hdf0 l0_0 l1_0
  refine then_n (hK1 _ _ ?_)
  clear hK1
  refine wp_seq_k (fun K4 hK4 => ?_)
  refine region_in ?_
  refine W_r rfl rfl (VR_ldA rfl l2_3 (hS2.obj 0 rfl hc2) Try.underlying25 rfl (by kernel_rfl)) ?_
  refine W_call rfl rfl rfl Try.func15 (by kernel_rfl) rfl (args1 (et rfl)) (qCk_c (hS2.roC h_ov) (hS2.roC n_ov) (hS2.roC h_rv) ) ?_
  rintro _ w5 ⟨rfl, hP5⟩
  refine ⟨_, rfl, ?_⟩
  have hS5 := hS2.join hP5
  replace hS5 : St w NoX [c2] w5 := hS5
  refine W_v rfl rfl (V_mov rfl (et rfl)) ?_
  refine W_v rfl rfl (V_ext (v := .int .i64 ((ckG (O.map ab) rs).1)) rfl (et rfl) rfl) ?_
  refine W_v rfl rfl (V_ext (v := .int .i64 ((ckG (O.map ab) rs).2)) rfl (es rfl (et rfl)) rfl) ?_
  refine W_v rfl rfl (V_asg rfl (es rfl (et rfl))) ?_
  refine W_v rfl rfl (V_asg rfl (es rfl (et rfl))) ?_
  refine W_end ?_
  refine gen_Q (fun A6 hA6 => ?_)
  have hsz6 := szq hA6
  have hdf6 : A6.defers = [] := by rw [hA6]; simp only [df_put]; exact hdf3
  have l1_6 := lookE hA6 1 (e6 rfl (es rfl l1_3))
  have l2_6 := lookE hA6 2 (e6 rfl (es rfl l2_3))
  have l6_6 := lookE hA6 6 (et rfl)
  clear hA6 hsz3 hdf3 l1_3 l2_3
  refine then_n (hK4 _ _ ?_)
  clear hK4
  refine wp_seq_k (fun K7 hK7 => ?_)
  refine wp_seq_k (fun K8 hK8 => ?_)
  refine region_in ?_
  refine W_v rfl rfl (V_asg rfl rfl) ?_
  refine W_end ?_
  refine gen_Q (fun A9 hA9 => ?_)
  have hsz9 := szq hA9
  have hdf9 : A9.defers = [] := by rw [hA9]; simp only [df_put]; exact hdf6
  have l1_9 := lookE hA9 1 (es rfl l1_6)
  have l2_9 := lookE hA9 2 (es rfl l2_6)
  have l6_9 := lookE hA9 6 (es rfl l6_6)
  have l7_9 := lookE hA9 7 (et rfl)
  clear hA9 hsz6 hdf6 l1_6 l2_6 l6_6
  refine then_n (hK8 _ _ ?_)
  clear hK8
  refine wp_block ?_
  -- loop 3
  refine loopX (fun mz A' w' => SzN A' 39 ∧ A'.defers = [] ∧ (∃ (j : Nat) (e0 : Int), (mz = ns.length - j) ∧ (j ≤ ns.length) ∧ (e0 = if (ckG (O.map ab) rs).2 ≠ 0 then (ckG (O.map ab) rs).2 else if (ns.take j).all (inR rs.length) then 0 else 10) ∧ (EV A' (.tmp 7) = .int .i64 (j : Int)) ∧ (EV A' (.tmp 6) = .int .i64 e0) ∧ (EV A' (.tmp 1) = EV A9 (.tmp 1)) ∧ (EV A' (.tmp 2) = EV A9 (.tmp 2)) ∧ (St w NoX [bx g2 25 #[ov, rv]] w'))) (ns.length - 0) ⟨hsz9, hdf9, 0, (ckG (O.map ab) rs).2, rfl, (Nat.zero_le _), (as_init _ _ _), ((l7_9).trans (by first | rfl | (simp; done) | (congr 1; omega))), ((l6_9).trans (by first | rfl | (simp; done) | (congr 1; omega))), rfl, rfl, (by subst hc2; exact hS5)⟩ ?_
  clear hS5 hc2
  rintro n10 A10 w10 ⟨hsz10, hdf10, j, e0, hm10, hj, he0, l7_10, l6_10, u1_10, u2_10, hS10⟩
  have l1_10 := u1_10.trans l1_9
  have l2_10 := u2_10.trans l2_9
  obtain ⟨c2_10, hc2_10, hS10⟩ := gen1 hS10
  refine wp_seq_k (fun K11 hK11 => ?_)
  refine wp_seq_k (fun K12 hK12 => ?_)
  refine region_in ?_
  refine W_v rfl rfl (V_mov rfl l7_10) ?_
  refine W_v rfl rfl (V_mov rfl (es rfl l1_10)) ?_
  refine W_v rfl rfl (V_lenS rfl (et rfl) (sl_SlN h_nv.at) Try.underlying23) ?_
  refine W_v rfl rfl (V_lss rfl (e2 rfl (et rfl)) (et rfl)) ?_
  refine W_split rfl rfl (V_mov rfl (et rfl)) (fun c13 => ?_) (fun c13 => ?_)
  · skip
    refine W_v rfl (wanted_t rfl rfl (et rfl) (ez rfl)) (V_mov rfl (e4 rfl (es rfl l6_10))) ?_
    refine W_v rfl (wanted_t rfl rfl (es rfl (et rfl)) (ez rfl)) (V_eql rfl (et rfl) rfl) ?_
    refine W_v rfl rfl (V_pickT rfl (e2 rfl (et rfl)) (et rfl)) ?_
    refine W_end ?_
    refine gen_Q (fun A14 hA14 => ?_)
    have hsz14 := szq hA14
    have hdf14 : A14.defers = [] := by rw [hA14]; simp only [df_put]; exact hdf10
    have l1_14 := lookE hA14 1 (e7 rfl (es rfl l1_10))
    have l2_14 := lookE hA14 2 (e7 rfl (es rfl l2_10))
    have l6_14 := lookE hA14 6 (e7 rfl (es rfl l6_10))
    have l7_14 := lookE hA14 7 (e7 rfl (es rfl l7_10))
    have l18_14 := lookE hA14 18 (e2 rfl (et rfl))
    have l19_14 := lookE hA14 19 (es rfl (et rfl))
    have l20_14 := lookE hA14 20 (et rfl)
    clear hA14 hsz10 hdf10 l7_10 l6_10 l1_10 l2_10
    refine then_n (hK12 _ _ ?_)
    clear hK12
    refine cond_dec l20_14 (fun c15 => ?_) (fun c15 => ?_)
    · skip
      refine wp_skip ?_
      refine then_n (hK11 _ _ ?_)
      clear hK11
      refine wp_seq_k (fun K16 hK16 => ?_)
      refine wp_block ?_
      refine wp_seq_k (fun K17 hK17 => ?_)
      refine region_monoS 15 15 [] (by kernel_rfl) (by kernel_rfl) ?_
      refine D_v rfl rfl (V_mov rfl l1_14) rfl rfl ?_
      refine D_v rfl rfl (V_mov rfl (es rfl l7_14)) rfl rfl ?_
      have k18 : j < ns.length := by first | omega | (simp only [List.length_cons, List.length_nil]; omega) | (simp only [List.length_set]; omega)
      obtain ⟨y18, hy18⟩ := get_some (xs := ns) (k := j) k18
      obtain ⟨B18, O18, C18, hv18⟩ := (SlN.blk (sl_SlN h_nv.at) (by first | omega | (simp only [List.length_cons, List.length_nil]; omega) | (simp only [List.length_set]; omega)))
      refine D_v rfl rfl (V_ixS (off := O18 + j) 1 (j) rfl (es rfl (et rfl)) (et rfl) hv18 (by omega) k18 Try.underlying23 (by kernel_rfl) (congrArg _ (Nat.mul_one _))) rfl rfl ?_
      refine D_r rfl rfl (by kernel_rfl) (fun sx hx hF => (VR_ldC rfl (et rfl) ((sl_SlN ((hS10.grow hx).ro h_nv)).cell hv18 (map_get hy18)) Try.underlying3 rfl)) rfl rfl ?_
      refine D_v rfl rfl (V_lss rfl (et rfl) rfl) rfl rfl ?_
      refine D_split rfl rfl (V_mov rfl (et rfl)) rfl rfl (fun c19 => ?_) (fun c19 => ?_)
      · skip
        refine D_off rfl (wanted_f rfl rfl (et rfl) (ez rfl) rfl) rfl ?_
        refine D_off rfl (wanted_f rfl rfl (es rfl (et rfl)) (ez rfl) rfl) rfl ?_
        refine D_off rfl (wanted_f rfl rfl (e2 rfl (et rfl)) (ez rfl) rfl) rfl ?_
        refine D_off rfl (wanted_f rfl rfl (e3 rfl (et rfl)) (ez rfl) rfl) rfl ?_
        refine D_off rfl (wanted_f rfl rfl (e4 rfl (et rfl)) (ez rfl) rfl) rfl ?_
        refine D_off rfl (wanted_f rfl rfl (e5 rfl (et rfl)) (ez rfl) rfl) rfl ?_
        refine D_off rfl (wanted_f rfl rfl (e6 rfl (et rfl)) (ez rfl) rfl) rfl ?_
        refine D_off rfl (wanted_f rfl rfl (e7 rfl (et rfl)) (ez rfl) rfl) rfl ?_
        refine D_v rfl rfl (V_pickT rfl (e8 rfl (et rfl)) rfl) rfl rfl ?_
        refine ZS_none hS10 (Nat.le_refl _) (Nat.le_refl _) (fun s20 hJ20 hL20 hF20 => ?_)
        have hS20 := hJ20.st; clear hF20 hJ20 hL20
        generalize s20.1 = w20 at *
        replace hS20 : St w NoX [c2_10] w20 := hS20
        refine gen_Q (fun A21 hA21 => ?_)
        have hsz21 := szq hA21
        have hdf21 : A21.defers = [] := by rw [hA21]; simp only [df_put]; exact hdf14
        have l1_21 := lookE hA21 1 (e14 rfl (es rfl l1_14))
        have l2_21 := lookE hA21 2 (e14 rfl (es rfl l2_14))
        have l6_21 := lookE hA21 6 (e14 rfl (es rfl l6_14))
        have l7_21 := lookE hA21 7 (e14 rfl (es rfl l7_14))
        have l18_21 := lookE hA21 18 (e14 rfl (es rfl l18_14))
        have l19_21 := lookE hA21 19 (e14 rfl (es rfl l19_14))
        have l29_21 := lookE hA21 29 (e8 rfl (et rfl))
        have l30_21 := lookE hA21 30 (e7 rfl (et rfl))
        have l31_21 := lookE hA21 31 (e6 rfl (et rfl))
        have l32_21 := lookE hA21 32 (e5 rfl (et rfl))
        have l33_21 := lookE hA21 33 (e4 rfl (et rfl))
        have l34_21 := lookE hA21 34 (e3 rfl (et rfl))
        have l35_21 := lookE hA21 35 (e2 rfl (et rfl))
        have l36_21 := lookE hA21 36 (es rfl (et rfl))
        have l37_21 := lookE hA21 37 (et rfl)
        clear hA21 hsz14 hdf14 l1_14 l2_14 l6_14 l7_14 l18_14 l19_14 l20_14
        refine then_n (hK17 _ _ ?_)
        clear hK17
        refine cond_t l37_21 ?_
        refine region_in ?_
        refine W_v rfl rfl (V_asg rfl rfl) ?_
        refine W_end ?_
        refine gen_Q (fun A22 hA22 => ?_)
        have hsz22 := szq hA22
        have hdf22 : A22.defers = [] := by rw [hA22]; simp only [df_put]; exact hdf21
        have l1_22 := lookE hA22 1 (es rfl l1_21)
        have l2_22 := lookE hA22 2 (es rfl l2_21)
        have l6_22 := lookE hA22 6 (et rfl)
        have l7_22 := lookE hA22 7 (es rfl l7_21)
        have l18_22 := lookE hA22 18 (es rfl l18_21)
        have l19_22 := lookE hA22 19 (es rfl l19_21)
        have l29_22 := lookE hA22 29 (es rfl l29_21)
        have l30_22 := lookE hA22 30 (es rfl l30_21)
        have l31_22 := lookE hA22 31 (es rfl l31_21)
        have l32_22 := lookE hA22 32 (es rfl l32_21)
        have l33_22 := lookE hA22 33 (es rfl l33_21)
        have l34_22 := lookE hA22 34 (es rfl l34_21)
        have l35_22 := lookE hA22 35 (es rfl l35_21)
        have l36_22 := lookE hA22 36 (es rfl l36_21)
        clear hA22 hsz21 hdf21 l1_21 l2_21 l6_21 l7_21 l18_21 l19_21 l29_21 l30_21 l31_21 l32_21 l33_21 l34_21 l35_21 l36_21 l37_21
        refine inb_n ?_
        refine then_n (hK16 _ _ ?_)
        clear hK16
        refine region_in ?_
        refine W_v rfl rfl (V_mov rfl l7_22) ?_
        refine W_v rfl rfl (V_add rfl (et rfl) rfl (by omega) (by omega)) ?_
        refine W_v rfl rfl (V_asg rfl (et rfl)) ?_
        refine W_end ?_
        refine gen_Q (fun A23 hA23 => ?_)
        have hsz23 := szq hA23
        have hdf23 : A23.defers = [] := by rw [hA23]; simp only [df_put]; exact hdf22
        have l1_23 := lookE hA23 1 (e2 rfl (es rfl l1_22))
        have l2_23 := lookE hA23 2 (e2 rfl (es rfl l2_22))
        have l6_23 := lookE hA23 6 (e2 rfl (es rfl l6_22))
        have l7_23 := lookE hA23 7 (et rfl)
        have l18_23 := lookE hA23 18 (e2 rfl (es rfl l18_22))
        have l19_23 := lookE hA23 19 (e2 rfl (es rfl l19_22))
        have l29_23 := lookE hA23 29 (e2 rfl (es rfl l29_22))
        have l30_23 := lookE hA23 30 (e2 rfl (es rfl l30_22))
        have l31_23 := lookE hA23 31 (e2 rfl (es rfl l31_22))
        have l32_23 := lookE hA23 32 (e2 rfl (es rfl l32_22))
        have l33_23 := lookE hA23 33 (e2 rfl (es rfl l33_22))
        have l34_23 := lookE hA23 34 (e2 rfl (es rfl l34_22))
        have l35_23 := lookE hA23 35 (e2 rfl (es rfl l35_22))
        have l36_23 := lookE hA23 36 (e2 rfl (es rfl l36_22))
        clear hA23 hsz22 hdf22 l1_22 l2_22 l6_22 l7_22 l18_22 l19_22 l29_22 l30_22 l31_22 l32_22 l33_22 l34_22 l35_22 l36_22
        refine then_n ⟨ns.length - (j + 1), by simp only [hm10]; omega, hsz23, hdf23, (j + 1), 10, rfl, (by omega), (as_step he0 (by assumption) hy18 _ (fun h => by first | rfl | omega) (fun h => by first | omega | rfl)), ((l7_23).trans (by first | rfl | (simp; done) | (congr 1; omega))), ((l6_23).trans (by first | rfl | (simp; done) | (congr 1; omega))), ((l1_23).trans l1_9.symm), ((l2_23).trans l2_9.symm), (by subst hc2_10; exact hS20)⟩
      · skip
        refine D_v rfl (wanted_t rfl rfl (et rfl) (ez rfl)) (V_mov rfl (e5 rfl (es rfl l1_14))) rfl rfl ?_
        refine D_v rfl (wanted_t rfl rfl (es rfl (et rfl)) (ez rfl)) (V_mov rfl (e6 rfl (es rfl l7_14))) rfl rfl ?_
        refine D_v rfl (wanted_t rfl rfl (e2 rfl (et rfl)) (ez rfl)) (V_ixS (off := O18 + j) 1 (j) rfl (es rfl (et rfl)) (et rfl) hv18 (by omega) k18 Try.underlying23 (by kernel_rfl) (congrArg _ (Nat.mul_one _))) rfl rfl ?_
        refine D_r rfl (wanted_t rfl rfl (e3 rfl (et rfl)) (ez rfl)) (by kernel_rfl) (fun sx hx hF => (VR_ldC rfl (et rfl) ((sl_SlN ((hS10.grow hx).ro h_nv)).cell hv18 (map_get hy18)) Try.underlying3 rfl)) rfl rfl ?_
        refine D_v rfl (wanted_t rfl rfl (e4 rfl (et rfl)) (ez rfl)) (V_fa (off' := 1) rfl (e9 rfl (es rfl l2_14)) Try.underlying25 rfl (by decide +kernel) rfl) rfl rfl ?_
        refine D_r rfl (wanted_t rfl rfl (e5 rfl (et rfl)) (ez rfl)) (by kernel_rfl) (fun sx hx hF => (VR_ldC rfl (et rfl) (cell_box (v := rv) ((hS10.grow hx).obj 0 rfl hc2_10) rfl) Try.underlying23 rfl)) rfl rfl ?_
        refine D_v rfl (wanted_t rfl rfl (e6 rfl (et rfl)) (ez rfl)) (V_lenS rfl (et rfl) (sl_SlN h_rv.at) Try.underlying23) rfl rfl ?_
        refine D_v rfl (wanted_t rfl rfl (e7 rfl (et rfl)) (ez rfl)) (V_geq rfl (e3 rfl (et rfl)) (et rfl)) rfl rfl ?_
        refine D_v rfl rfl (V_pickF rfl (e8 rfl (et rfl)) (et rfl)) rfl rfl ?_
        refine ZS_none hS10 (Nat.le_refl _) (Nat.le_refl _) (fun s25 hJ25 hL25 hF25 => ?_)
        have hS25 := hJ25.st; clear hF25 hJ25 hL25
        generalize s25.1 = w25 at *
        replace hS25 : St w NoX [c2_10] w25 := hS25
        refine gen_Q (fun A26 hA26 => ?_)
        have hsz26 := szq hA26
        have hdf26 : A26.defers = [] := by rw [hA26]; simp only [df_put]; exact hdf14
        have l1_26 := lookE hA26 1 (e14 rfl (es rfl l1_14))
        have l2_26 := lookE hA26 2 (e14 rfl (es rfl l2_14))
        have l6_26 := lookE hA26 6 (e14 rfl (es rfl l6_14))
        have l7_26 := lookE hA26 7 (e14 rfl (es rfl l7_14))
        have l18_26 := lookE hA26 18 (e14 rfl (es rfl l18_14))
        have l19_26 := lookE hA26 19 (e14 rfl (es rfl l19_14))
        have l29_26 := lookE hA26 29 (e8 rfl (et rfl))
        have l30_26 := lookE hA26 30 (e7 rfl (et rfl))
        have l31_26 := lookE hA26 31 (e6 rfl (et rfl))
        have l32_26 := lookE hA26 32 (e5 rfl (et rfl))
        have l33_26 := lookE hA26 33 (e4 rfl (et rfl))
        have l34_26 := lookE hA26 34 (e3 rfl (et rfl))
        have l35_26 := lookE hA26 35 (e2 rfl (et rfl))
        have l36_26 := lookE hA26 36 (es rfl (et rfl))
        have l37_26 := lookE hA26 37 (et rfl)
        clear hA26 hsz14 hdf14 l1_14 l2_14 l6_14 l7_14 l18_14 l19_14 l20_14
        refine then_n (hK17 _ _ ?_)
        clear hK17
        refine cond_dec l37_26 (fun c27 => ?_) (fun c27 => ?_)
        · skip
          refine region_in ?_
          refine W_v rfl rfl (V_asg rfl rfl) ?_
          refine W_end ?_
          refine gen_Q (fun A28 hA28 => ?_)
          have hsz28 := szq hA28
          have hdf28 : A28.defers = [] := by rw [hA28]; simp only [df_put]; exact hdf26
          have l1_28 := lookE hA28 1 (es rfl l1_26)
          have l2_28 := lookE hA28 2 (es rfl l2_26)
          have l6_28 := lookE hA28 6 (et rfl)
          have l7_28 := lookE hA28 7 (es rfl l7_26)
          have l18_28 := lookE hA28 18 (es rfl l18_26)
          have l19_28 := lookE hA28 19 (es rfl l19_26)
          have l29_28 := lookE hA28 29 (es rfl l29_26)
          have l30_28 := lookE hA28 30 (es rfl l30_26)
          have l31_28 := lookE hA28 31 (es rfl l31_26)
          have l32_28 := lookE hA28 32 (es rfl l32_26)
          have l33_28 := lookE hA28 33 (es rfl l33_26)
          have l34_28 := lookE hA28 34 (es rfl l34_26)
          have l35_28 := lookE hA28 35 (es rfl l35_26)
          have l36_28 := lookE hA28 36 (es rfl l36_26)
          clear hA28 hsz26 hdf26 l1_26 l2_26 l6_26 l7_26 l18_26 l19_26 l29_26 l30_26 l31_26 l32_26 l33_26 l34_26 l35_26 l36_26 l37_26
          refine inb_n ?_
          refine then_n (hK16 _ _ ?_)
          clear hK16
          refine region_in ?_
          refine W_v rfl rfl (V_mov rfl l7_28) ?_
          refine W_v rfl rfl (V_add rfl (et rfl) rfl (by omega) (by omega)) ?_
          refine W_v rfl rfl (V_asg rfl (et rfl)) ?_
          refine W_end ?_
          refine gen_Q (fun A29 hA29 => ?_)
          have hsz29 := szq hA29
          have hdf29 : A29.defers = [] := by rw [hA29]; simp only [df_put]; exact hdf28
          have l1_29 := lookE hA29 1 (e2 rfl (es rfl l1_28))
          have l2_29 := lookE hA29 2 (e2 rfl (es rfl l2_28))
          have l6_29 := lookE hA29 6 (e2 rfl (es rfl l6_28))
          have l7_29 := lookE hA29 7 (et rfl)
          have l18_29 := lookE hA29 18 (e2 rfl (es rfl l18_28))
          have l19_29 := lookE hA29 19 (e2 rfl (es rfl l19_28))
          have l29_29 := lookE hA29 29 (e2 rfl (es rfl l29_28))
          have l30_29 := lookE hA29 30 (e2 rfl (es rfl l30_28))
          have l31_29 := lookE hA29 31 (e2 rfl (es rfl l31_28))
          have l32_29 := lookE hA29 32 (e2 rfl (es rfl l32_28))
          have l33_29 := lookE hA29 33 (e2 rfl (es rfl l33_28))
          have l34_29 := lookE hA29 34 (e2 rfl (es rfl l34_28))
          have l35_29 := lookE hA29 35 (e2 rfl (es rfl l35_28))
          have l36_29 := lookE hA29 36 (e2 rfl (es rfl l36_28))
          clear hA29 hsz28 hdf28 l1_28 l2_28 l6_28 l7_28 l18_28 l19_28 l29_28 l30_28 l31_28 l32_28 l33_28 l34_28 l35_28 l36_28
          refine then_n ⟨ns.length - (j + 1), by simp only [hm10]; omega, hsz29, hdf29, (j + 1), 10, rfl, (by omega), (as_step he0 (by assumption) hy18 _ (fun h => by first | rfl | omega) (fun h => by first | omega | rfl)), ((l7_29).trans (by first | rfl | (simp; done) | (congr 1; omega))), ((l6_29).trans (by first | rfl | (simp; done) | (congr 1; omega))), ((l1_29).trans l1_9.symm), ((l2_29).trans l2_9.symm), (by subst hc2_10; exact hS25)⟩
        · skip
          refine wp_skip ?_
          refine inb_n ?_
          refine then_n (hK16 _ _ ?_)
          clear hK16
          refine region_in ?_
          refine W_v rfl rfl (V_mov rfl l7_26) ?_
          refine W_v rfl rfl (V_add rfl (et rfl) rfl (by omega) (by omega)) ?_
          refine W_v rfl rfl (V_asg rfl (et rfl)) ?_
          refine W_end ?_
          refine gen_Q (fun A30 hA30 => ?_)
          have hsz30 := szq hA30
          have hdf30 : A30.defers = [] := by rw [hA30]; simp only [df_put]; exact hdf26
          have l1_30 := lookE hA30 1 (e2 rfl (es rfl l1_26))
          have l2_30 := lookE hA30 2 (e2 rfl (es rfl l2_26))
          have l6_30 := lookE hA30 6 (e2 rfl (es rfl l6_26))
          have l7_30 := lookE hA30 7 (et rfl)
          have l18_30 := lookE hA30 18 (e2 rfl (es rfl l18_26))
          have l19_30 := lookE hA30 19 (e2 rfl (es rfl l19_26))
          have l29_30 := lookE hA30 29 (e2 rfl (es rfl l29_26))
          have l30_30 := lookE hA30 30 (e2 rfl (es rfl l30_26))
          have l31_30 := lookE hA30 31 (e2 rfl (es rfl l31_26))
          have l32_30 := lookE hA30 32 (e2 rfl (es rfl l32_26))
          have l33_30 := lookE hA30 33 (e2 rfl (es rfl l33_26))
          have l34_30 := lookE hA30 34 (e2 rfl (es rfl l34_26))
          have l35_30 := lookE hA30 35 (e2 rfl (es rfl l35_26))
          have l36_30 := lookE hA30 36 (e2 rfl (es rfl l36_26))
          clear hA30 hsz26 hdf26 l1_26 l2_26 l6_26 l7_26 l18_26 l19_26 l29_26 l30_26 l31_26 l32_26 l33_26 l34_26 l35_26 l36_26 l37_26
          refine then_n ⟨ns.length - (j + 1), by simp only [hm10]; omega, hsz30, hdf30, (j + 1), e0, rfl, (by omega), (as_step he0 (by assumption) hy18 _ (fun h => by first | rfl | omega) (fun h => by first | omega | rfl)), ((l7_30).trans (by first | rfl | (simp; done) | (congr 1; omega))), ((l6_30).trans (by first | rfl | (simp; done) | (congr 1; omega))), ((l1_30).trans l1_9.symm), ((l2_30).trans l2_9.symm), (by subst hc2_10; exact hS25)⟩
    · skip
      refine wp_exit ?_
      refine then_exit ?_
      refine then_exit ?_
      refine inb_hit ?_
      refine then_n (hK7 _ _ ?_)
      clear hK7
      refine wp_seq_k (fun K31 hK31 => ?_)
      refine region_in ?_
      refine W_v rfl rfl (V_mov rfl l6_14) ?_
      refine W_v rfl rfl (V_asg rfl (et rfl)) ?_
      refine W_end ?_
      refine gen_Q (fun A32 hA32 => ?_)
      have hsz32 := szq hA32
      have hdf32 : A32.defers = [] := by rw [hA32]; simp only [df_put]; exact hdf14
      have l4_32 := lookE hA32 4 (et rfl)
      clear hA32 hsz14 hdf14 l1_14 l2_14 l6_14 l7_14 l18_14 l19_14 l20_14
      have hS33 : St w NoX [] w10 := hS10.sel [] (by decide) rfl
      refine then_n (hK31 _ _ ?_)
      clear hK31
      refine wp_ret ?_
      refine ret_in (results_1 Try.results59 (rv_tmp l4_32)) hdf32 ?_
      -- leaf TF
      have h := as_done he0 (by omega)
      rw [← h]
      exact ⟨rfl, hS33.fin0⟩
  · skip
    refine W_off rfl (wanted_f rfl rfl (et rfl) (ez rfl) rfl) ?_
    refine W_off rfl (wanted_f rfl rfl (es rfl (et rfl)) (ez rfl) rfl) ?_
    refine W_v rfl rfl (V_pickF rfl (e2 rfl (et rfl)) rfl) ?_
    refine W_end ?_
    refine gen_Q (fun A34 hA34 => ?_)
    have hsz34 := szq hA34
    have hdf34 : A34.defers = [] := by rw [hA34]; simp only [df_put]; exact hdf10
    have l1_34 := lookE hA34 1 (e7 rfl (es rfl l1_10))
    have l2_34 := lookE hA34 2 (e7 rfl (es rfl l2_10))
    have l6_34 := lookE hA34 6 (e7 rfl (es rfl l6_10))
    have l7_34 := lookE hA34 7 (e7 rfl (es rfl l7_10))
    have l18_34 := lookE hA34 18 (e2 rfl (et rfl))
    have l19_34 := lookE hA34 19 (es rfl (et rfl))
    have l20_34 := lookE hA34 20 (et rfl)
    clear hA34 hsz10 hdf10 l7_10 l6_10 l1_10 l2_10
    refine then_n (hK12 _ _ ?_)
    clear hK12
    refine cond_f l20_34 ?_
    refine wp_exit ?_
    refine then_exit ?_
    refine then_exit ?_
    refine inb_hit ?_
    refine then_n (hK7 _ _ ?_)
    clear hK7
    refine wp_seq_k (fun K35 hK35 => ?_)
    refine region_in ?_
    refine W_v rfl rfl (V_mov rfl l6_34) ?_
    refine W_v rfl rfl (V_asg rfl (et rfl)) ?_
    refine W_end ?_
    refine gen_Q (fun A36 hA36 => ?_)
    have hsz36 := szq hA36
    have hdf36 : A36.defers = [] := by rw [hA36]; simp only [df_put]; exact hdf34
    have l4_36 := lookE hA36 4 (et rfl)
    clear hA36 hsz34 hdf34 l1_34 l2_34 l6_34 l7_34 l18_34 l19_34 l20_34
    have hS37 : St w NoX [] w10 := hS10.sel [] (by decide) rfl
    refine then_n (hK35 _ _ ?_)
    clear hK35
    refine wp_ret ?_
    refine ret_in (results_1 Try.results59 (rv_tmp l4_36)) hdf36 ?_
    -- leaf F
    have h := as_done he0 (by omega)
    rw [← h]
    exact ⟨rfl, hS37.fin0⟩

set_option maxHeartbeats 4000000 in
theorem qob_c {ov : Value} {O : List Ob} {rv : Value} {rs : List Int} {a : Int} {w : World} (h_ov : Ro w NoX (rl 2 obC ov O)) (n_ov : Ro w NoX (nst O)) (h_rv : Ro w NoX (il .i64 rv rs)) (hrg : ∀ p ∈ rs, 0 ≤ p ∧ p ≤ (O.length : Int)) (ha : 0 ≤ a ∧ a < (rs.length : Int)) :
    Calls Try.prog 60 #[.agg #[ov, rv], .int .i64 a] w fun e w' => (e = .returned (.tuple #[.agg #[.slice none 0 0, .slice none 0 0], .bool false]) ∧ (rg rs a = 0) ∧ St w NoX [] w') ∨ (∃ y, e = .returned (.tuple #[.agg #[y.1.1, y.2.1], .bool true]) ∧ (O[(rg rs a - 1).toNat]? = some y) ∧ (¬ rg rs a = 0) ∧ St w NoX [] w') := by
  refine calls_in 23 Try.func60 rfl rfl (by simp) (fun A0 hsz0 hdf0 hargs => ?_)
  have l0_0 := hargs 0 (.agg #[ov, rv]) rfl
  have l1_0 := hargs 1 (.int .i64 a) rfl
  clear hargs; replace hsz0 : SzN A0 23 := ⟨hsz0⟩
  have hS := St.nil w
  have bh_ov := SlN.le (sl_SlN h_ov.at)
  have bh_rv := SlN.le (sl_SlN h_rv.at)
  refine wp_seq_k (fun K1 hK1 => ?_)
  refine region_in ?_
  refine W_boxS (zs := #[ov, rv]) hS rfl rfl rfl l0_0 (by rfl) (fun g2 w2 c2 hc2 hS2 => ?_)
  replace hS2 : St w NoX [c2] w2 := hS2
  refine W_allocS (z := .agg #[.slice none 0 0, .slice none 0 0]) (zs := #[.slice none 0 0, .slice none 0 0]) hS2 rfl rfl rfl (by kernel_rfl) (by rfl) (fun g3 w3 c3 hc3 hS3 => ?_)
  replace hS3 : St w NoX [c3, c2] w3 := hS3
  refine W_v rfl rfl (V_asg rfl rfl) ?_
  refine W_end ?_
  refine gen_Q (fun A4 hA4 => ?_)
  have hsz4 := szq hA4
  have hdf4 : A4.defers = [] := by rw [hA4]; simp only [df_put]; exact hdf0
  have l1_4 := lookE hA4 1 (e2 rfl (es rfl l1_0))
  have l2_4 := lookE hA4 2 (e2 rfl (et rfl))
  have l4_4 := lookE hA4 4 (es rfl (et rfl))
  clear hA4 hsz0 hdf0 l0_0 l1_0
  refine then_n (hK1 _ _ ?_)
  clear hK1
  refine wp_seq_k (fun K5 hK5 => ?_)
  refine wp_seq_k (fun K6 hK6 => ?_)
  refine region_in ?_
  refine W_v rfl rfl (V_fa (off' := 1) rfl l2_4 Try.underlying25 rfl (by decide +kernel) rfl) ?_
  refine W_r rfl rfl (VR_ldC rfl (et rfl) (cell_box (v := rv) (hS3.obj 1 rfl hc2) rfl) Try.underlying23 rfl) ?_
  refine W_v rfl rfl (V_mov rfl (es rfl (es rfl l1_4))) ?_
  have k7 : a.toNat < rs.length := by first | omega | (simp only [List.length_cons, List.length_nil]; omega) | (simp only [List.length_set]; omega)
  obtain ⟨y7, hy7⟩ := get_some (xs := rs) (k := a.toNat) k7
  have hrg7 := hrg y7 (List.mem_of_getElem? hy7)
  have hq7 : rg rs a = y7 := rg_at hy7
  obtain ⟨B7, O7, C7, hv7⟩ := (SlN.blk (sl_SlN h_rv.at) (by first | omega | (simp only [List.length_cons, List.length_nil]; omega) | (simp only [List.length_set]; omega)))
  refine W_v rfl rfl (V_ixS (off := O7 + a.toNat) 1 (a.toNat) rfl (es rfl (et rfl)) (et rfl) hv7 (by omega) k7 Try.underlying23 (by kernel_rfl) (congrArg _ (Nat.mul_one _))) ?_
  refine W_r rfl rfl (VR_ldC rfl (et rfl) ((sl_SlN (hS3.ro h_rv)).cell hv7 (map_get hy7)) Try.underlying3 rfl) ?_
  refine W_v rfl rfl (V_eql rfl (et rfl) rfl) ?_
  refine W_end ?_
  refine gen_Q (fun A8 hA8 => ?_)
  have hsz8 := szq hA8
  have hdf8 : A8.defers = [] := by rw [hA8]; simp only [df_put]; exact hdf4
  have l1_8 := lookE hA8 1 (e5 rfl (es rfl l1_4))
  have l2_8 := lookE hA8 2 (e5 rfl (es rfl l2_4))
  have l4_8 := lookE hA8 4 (e5 rfl (es rfl l4_4))
  have l11_8 := lookE hA8 11 (et rfl)
  clear hA8 hsz4 hdf4 l1_4 l2_4 l4_4
  refine then_n (hK6 _ _ ?_)
  clear hK6
  refine cond_dec l11_8 (fun c9 => ?_) (fun c9 => ?_)
  · skip
    refine wp_seq_k (fun K10 hK10 => ?_)
    refine region_in ?_
    refine W_v rfl rfl (V_bldS (n := 2) (z := .agg #[.slice none 0 0, .slice none 0 0]) rfl (parts0) (by kernel_rfl) (by simp only [List.all_cons, List.all_nil, Bool.and_true] <;> rfl) (by kernel_rfl) (by simp only [List.foldl_cons, List.foldl_nil, Value.cells, List.setIfInBounds_toArray, List.set_cons_succ, List.set_cons_zero] <;> rfl)) ?_
    refine W_stAS 0 hS3 rfl hc3 rfl rfl rfl (es rfl l4_8) (et rfl) (by first | (rw [List.all_toArray] <;> rfl) | (simp only [List.all_toArray, List.all_cons, List.all_nil] <;> rfl)) (by rfl) (by kernel_rfl) (fun w11 c11 hc11 hS11 => ?_)
    replace hS11 : St w NoX [c11, c2] w11 := hS11
    refine W_v rfl rfl (V_asg rfl rfl) ?_
    refine W_end ?_
    refine gen_Q (fun A12 hA12 => ?_)
    have hsz12 := szq hA12
    have hdf12 : A12.defers = [] := by rw [hA12]; simp only [df_put]; exact hdf8
    have l4_12 := lookE hA12 4 (es rfl (es rfl l4_8))
    have l5_12 := lookE hA12 5 (et rfl)
    clear hA12 hsz8 hdf8 l1_8 l2_8 l4_8 l11_8
    have hS13 : St w NoX [c11] w11 := hS11.sel [0] (by decide) rfl
    refine then_n (hK10 _ _ ?_)
    clear hK10
    refine wp_ret ?_
    refine then_ret ?_
    refine ret_in (results_2 Try.results60 (rv_cellA l4_12 (hS13.obj 0 rfl hc11) Try.underlying40 rfl (by kernel_rfl)) (rv_tmp l5_12)) hdf12 ?_
    -- leaf T
    exact .inl ⟨rfl, by omega, hS13.fin0⟩
  · skip
    refine wp_skip ?_
    refine then_n (hK5 _ _ ?_)
    clear hK5
    refine wp_seq_k (fun K14 hK14 => ?_)
    refine region_monoS 10 11 [] (by kernel_rfl) (by kernel_rfl) ?_
    refine D_v rfl rfl (V_fa (off' := 0) rfl l2_8 Try.underlying25 rfl (by decide +kernel) rfl) rfl rfl ?_
    refine D_r rfl rfl (by kernel_rfl) (fun sx hx hF => (VR_ldC rfl (et rfl) (cell_box (v := ov) ((hS3.grow hx).obj 1 rfl hc2) rfl) Try.underlying22 rfl)) rfl rfl ?_
    refine D_v rfl rfl (V_fa (off' := 1) rfl (es rfl (es rfl l2_8)) Try.underlying25 rfl (by decide +kernel) rfl) rfl rfl ?_
    refine D_r rfl rfl (by kernel_rfl) (fun sx hx hF => (VR_ldC rfl (et rfl) (cell_box (v := rv) ((hS3.grow hx).obj 1 rfl hc2) rfl) Try.underlying23 rfl)) rfl rfl ?_
    refine D_v rfl rfl (V_mov rfl (e3 rfl (es rfl l1_8))) rfl rfl ?_
    refine D_v rfl rfl (V_ixS (off := O7 + a.toNat) 1 (a.toNat) rfl (es rfl (et rfl)) (et rfl) hv7 (by omega) k7 Try.underlying23 (by kernel_rfl) (congrArg _ (Nat.mul_one _))) rfl rfl ?_
    refine D_r rfl rfl (by kernel_rfl) (fun sx hx hF => (VR_ldC rfl (et rfl) ((sl_SlN ((hS3.grow hx).ro h_rv)).cell hv7 (map_get hy7)) Try.underlying3 rfl)) rfl rfl ?_
    refine D_v rfl rfl (V_sb rfl (et rfl) rfl (by omega) (by omega)) rfl rfl ?_
    have k16 : (y7 - 1).toNat < O.length := by first | omega | (simp only [List.length_cons, List.length_nil]; omega) | (simp only [List.length_set]; omega)
    obtain ⟨y16, hy16⟩ := get_some (xs := O) (k := (y7 - 1).toNat) k16
    obtain ⟨B16, O16, C16, hv16⟩ := (SlN.blk (sl_SlN h_ov.at) (by first | omega | (simp only [List.length_cons, List.length_nil]; omega) | (simp only [List.length_set]; omega)))
    refine D_v rfl rfl (V_ixS (off := O16 + ((y7 - 1).toNat) * 2) 2 ((y7 - 1).toNat) rfl (e6 rfl (et rfl)) (et rfl) hv16 (by omega) k16 Try.underlying22 (by kernel_rfl) rfl) rfl rfl ?_
    have fn17 : Ro w NoX (il .i64 y16.1.1 y16.1.2) := nst_ro1 n_ov hy16
    have bfn17 := SlN.le (sl_SlN (hS3.ro fn17))
    have fn18 : Ro w NoX (il .u64 y16.2.1 y16.2.2) := nst_ro2 n_ov hy16
    have bfn18 := SlN.le (sl_SlN (hS3.ro fn18))
    refine D_r rfl rfl (by kernel_rfl) (fun sx hx hF => (VR_ldR (ys := obC y16) rfl (et rfl) (SlN.row obC_len (sl_SlN ((hS3.grow hx).ro h_ov)) hv16 hy16 rfl) Try.underlying40 rfl (by kernel_rfl))) rfl rfl ?_
    refine D_eff rfl ?_
    refine ZS_eff hS3 rfl rfl (fun s19 hJ19 hL19 hF19 => ?_)
    have hS19 := hJ19.st; clear hF19 hJ19 hL19
    generalize s19.1 = w19 at *
    replace hS19 : St w NoX [c3, c2] w19 := hS19
    refine W_stAS 0 hS19 rfl hc3 rfl rfl rfl (e9 rfl (es rfl l4_8)) (et rfl) (by simp only [List.all_toArray, List.all_cons, List.all_nil, obC, SlN_one (sl_SlN fn17.at), SlN_one (sl_SlN fn18.at)] <;> rfl) (by rfl) (by kernel_rfl) (fun w20 c20 hc20 hS20 => ?_)
    replace hS20 : St w NoX [c20, c2] w20 := hS20
    refine W_v rfl rfl (V_asg rfl rfl) ?_
    refine W_end ?_
    refine Qo_normal ?_
    refine gen_Q (fun A21 hA21 => ?_)
    have hsz21 := szq hA21
    have hdf21 : A21.defers = [] := by rw [hA21]; simp only [df_put]; exact hdf8
    have l4_21 := lookE hA21 4 (e10 rfl (es rfl l4_8))
    have l5_21 := lookE hA21 5 (et rfl)
    clear hA21 hsz8 hdf8 l1_8 l2_8 l4_8 l11_8
    have hS22 : St w NoX [c20] w20 := hS20.sel [0] (by decide) rfl
    refine then_n (hK14 _ _ ?_)
    clear hK14
    refine wp_ret ?_
    refine ret_in (results_2 Try.results60 (rv_cellA l4_21 (hS22.obj 0 rfl hc20) Try.underlying40 rfl (by kernel_rfl)) (rv_tmp l5_21)) hdf21 ?_
    -- leaf F
    have hkk : ((y7 - 1).toNat : Nat) = (rg rs a - 1).toNat := by omega
    rw [hkk] at hy16
    exact .inr ⟨y16, rfl, hy16, by omega, hS22.fin0⟩

set_option maxHeartbeats 4000000 in
theorem qRd_c {ov : Value} {O : List Ob} {rv : Value} {rs : List Int} {a : Int} {f : Int} {w : World} (h_ov : Ro w NoX (rl 2 obC ov O)) (n_ov : Ro w NoX (nst O)) (h_rv : Ro w NoX (il .i64 rv rs))  :
    Calls Try.prog 30 #[.agg #[ov, rv], .int .i64 a, .int .i64 f] w fun e w' => e = .returned (.tuple #[.int .u64 (rdV (O.map ab) rs a f), .int .i64 (rwE (O.map ab) rs [a] a f)]) ∧ St w NoX [] w' := by
  refine calls_in 42 Try.func30 rfl rfl (by simp) (fun A0 hsz0 hdf0 hargs => ?_)
  have l0_0 := hargs 0 (.agg #[ov, rv]) rfl
  have l1_0 := hargs 1 (.int .i64 a) rfl
  have l2_0 := hargs 2 (.int .i64 f) rfl
  clear hargs; replace hsz0 : SzN A0 42 := ⟨hsz0⟩
  have hS := St.nil w
  have bh_ov := SlN.le (sl_SlN h_ov.at)
  have bh_rv := SlN.le (sl_SlN h_rv.at)
  refine wp_seq_k (fun K1 hK1 => ?_)
  refine region_in ?_
  refine W_boxS (zs := #[ov, rv]) hS rfl rfl rfl l0_0 (by rfl) (fun g2 w2 c2 hc2 hS2 => ?_)
  replace hS2 : St w NoX [c2] w2 := hS2
  refine W_v rfl rfl (V_asg rfl rfl) ?_
  refine W_v rfl rfl (V_asg rfl rfl) ?_
  refine W_end ?_
  refine gen_Q (fun A3 hA3 => ?_)
  have hsz3 := szq hA3
  have hdf3 : A3.defers = [] := by rw [hA3]; simp only [df_put]; exact hdf0
  have l1_3 := lookE hA3 1 (e2 rfl (es rfl l1_0))
  have l2_3 := lookE hA3 2 (e2 rfl (es rfl l2_0))
  have l3_3 := lookE hA3 3 (e2 rfl (et rfl))
  clear hA3 hsz0 hdf0 l0_0 l1_0 l2_0
  refine then_n (hK1 _ _ ?_)
  clear hK1
  refine wp_seq_k (fun K4 hK4 => ?_)
  refine region_in ?_
  refine W_r rfl rfl (VR_ldA rfl l3_3 (hS2.obj 0 rfl hc2) Try.underlying25 rfl (by kernel_rfl)) ?_
  refine W_v rfl rfl (V_mov rfl (es rfl l1_3)) ?_
  have hll5 : [a].length = 1 := rfl
  refine W_litS (vs := [.int .i64 (a)]) (xs := ([a].map (Value.int .i64))) 1 hS2 rfl rfl rfl (parts1 (et rfl)) rfl Try.underlying23 (by kernel_rfl) (by decide) (by intro v hv; simp only [List.mem_cons, List.not_mem_nil, or_false] at hv; rcases hv with rfl <;> rfl) (by rfl) (fun g5 w5 c5 hc5 hS5 => ?_)
  replace hc5 : c5 = io .i64 (.slice (some ⟨g5, 0, none⟩) 1 1) [a] := hc5
  replace hS5 : St w NoX [c5, c2] w5 := hS5
  refine W_call rfl rfl rfl Try.func59 (by kernel_rfl) rfl (args2 (e2 rfl (et rfl)) (et rfl)) (qcd_c (hS5.roC h_ov) (hS5.roC n_ov) (hS5.roC h_rv) (hS5.chC 0 rfl hc5).own ) ?_
  rintro _ w6 ⟨rfl, hP6⟩
  refine ⟨_, rfl, ?_⟩
  have hS6 := hS5.join hP6
  replace hS6 : St w NoX [c5, c2] w6 := hS6
  refine W_v rfl rfl (V_asg rfl (et rfl)) ?_
  refine W_end ?_
  refine gen_Q (fun A7 hA7 => ?_)
  have hsz7 := szq hA7
  have hdf7 : A7.defers = [] := by rw [hA7]; simp only [df_put]; exact hdf3
  have l1_7 := lookE hA7 1 (e4 rfl (es rfl l1_3))
  have l2_7 := lookE hA7 2 (e4 rfl (es rfl l2_3))
  have l3_7 := lookE hA7 3 (e4 rfl (es rfl l3_3))
  have l8_7 := lookE hA7 8 (et rfl)
  clear hA7 hsz3 hdf3 l1_3 l2_3 l3_3
  have hS8 : St w NoX [c2] w6 := hS6.sel [1] (by decide) rfl
  refine then_n (hK4 _ _ ?_)
  clear hK4
  refine wp_seq_k (fun K9 hK9 => ?_)
  refine wp_seq_k (fun K10 hK10 => ?_)
  refine region_in ?_
  refine W_v rfl rfl (V_mov rfl l8_7) ?_
  refine W_v rfl rfl (V_neq rfl (et rfl) rfl) ?_
  refine W_end ?_
  refine gen_Q (fun A11 hA11 => ?_)
  have hsz11 := szq hA11
  have hdf11 : A11.defers = [] := by rw [hA11]; simp only [df_put]; exact hdf7
  have l1_11 := lookE hA11 1 (es rfl (es rfl l1_7))
  have l2_11 := lookE hA11 2 (es rfl (es rfl l2_7))
  have l3_11 := lookE hA11 3 (es rfl (es rfl l3_7))
  have l8_11 := lookE hA11 8 (es rfl (es rfl l8_7))
  have l16_11 := lookE hA11 16 (et rfl)
  clear hA11 hsz7 hdf7 l1_7 l2_7 l3_7 l8_7
  refine then_n (hK10 _ _ ?_)
  clear hK10
  refine cond_dec l16_11 (fun c12 => ?_) (fun c12 => ?_)
  · skip
    refine wp_seq_k (fun K13 hK13 => ?_)
    refine region_in ?_
    refine W_v rfl rfl (V_mov rfl l8_11) ?_
    refine W_v rfl rfl (V_asg rfl rfl) ?_
    refine W_v rfl rfl (V_asg rfl (es rfl (et rfl))) ?_
    refine W_end ?_
    refine gen_Q (fun A14 hA14 => ?_)
    have hsz14 := szq hA14
    have hdf14 : A14.defers = [] := by rw [hA14]; simp only [df_put]; exact hdf11
    have l6_14 := lookE hA14 6 (es rfl (et rfl))
    have l7_14 := lookE hA14 7 (et rfl)
    clear hA14 hsz11 hdf11 l1_11 l2_11 l3_11 l8_11 l16_11
    have hS15 : St w NoX [] w6 := hS8.sel [] (by decide) rfl
    refine then_n (hK13 _ _ ?_)
    clear hK13
    refine wp_ret ?_
    refine then_ret ?_
    refine ret_in (results_2 Try.results30 (rv_tmp l6_14) (rv_tmp l7_14)) hdf14 ?_
    -- leaf T
    have h := rw_ck (f := f) (by assumption)
    rw [h.1, h.2]
    exact ⟨rfl, hS15.fin0⟩
  · skip
    have hcd : ckd (O.map ab) rs [a] = 0 := by simpa using c12
    have hG0 := (ckd_0.1 hcd).1
    have hG := hG0
    have hrg : ∀ p ∈ rs, 0 ≤ p ∧ p ≤ (O.length : Int) := fun p hp => by have q := hG0.reg p hp; rw [List.length_map] at q; exact q
    have ha := (ckd_0.1 hcd).2 a (by simp)
    refine wp_skip ?_
    refine then_n (hK9 _ _ ?_)
    clear hK9
    refine wp_seq_k (fun K16 hK16 => ?_)
    refine region_in ?_
    refine W_r rfl rfl (VR_ldA rfl l3_11 (hS8.obj 0 rfl hc2) Try.underlying25 rfl (by kernel_rfl)) ?_
    refine W_v rfl rfl (V_mov rfl (es rfl l1_11)) ?_
    refine W_call rfl rfl rfl Try.func60 (by kernel_rfl) rfl (args2 (es rfl (et rfl)) (et rfl)) (qob_c (a := a) (hS8.roC h_ov) (hS8.roC n_ov) (hS8.roC h_rv) (by first | with_reducible assumption | (have q := hG.reg; simpa using q)) (by first | omega | with_reducible assumption)) ?_
    rintro _ w17 (⟨rfl, hz_17, hP17⟩ | ⟨y_17, rfl, hy_17, hz_17, hP17⟩)
    · refine ⟨_, rfl, ?_⟩
      have hS17 := hS8.join hP17
      replace hS17 : St w NoX [c2] w17 := hS17
      refine W_v rfl rfl (V_mov rfl (et rfl)) ?_
      refine W_v rfl rfl (V_ext (v := .agg #[.slice none 0 0, .slice none 0 0]) rfl (et rfl) rfl) ?_
      refine W_v rfl rfl (V_ext (v := .bool false) rfl (es rfl (et rfl)) rfl) ?_
      refine W_allocS (z := .agg #[.slice none 0 0, .slice none 0 0]) (zs := #[.slice none 0 0, .slice none 0 0]) hS17 rfl rfl rfl (by kernel_rfl) (by rfl) (fun g18 w18 c18 hc18 hS18 => ?_)
      replace hS18 : St w NoX [c18, c2] w18 := hS18
      refine W_stAS 0 hS18 rfl hc18 rfl rfl rfl (et rfl) (e2 rfl (et rfl)) (by first | (rw [List.all_toArray] <;> rfl) | (simp only [List.all_toArray, List.all_cons, List.all_nil] <;> rfl)) (by rfl) (by kernel_rfl) (fun w19 c19 hc19 hS19 => ?_)
      replace hS19 : St w NoX [c19, c2] w19 := hS19
      refine W_v rfl rfl (V_asg rfl (es rfl (et rfl))) ?_
      refine W_end ?_
      refine gen_Q (fun A20 hA20 => ?_)
      have hsz20 := szq hA20
      have hdf20 : A20.defers = [] := by rw [hA20]; simp only [df_put]; exact hdf11
      have l2_20 := lookE hA20 2 (e7 rfl (es rfl l2_11))
      have l9_20 := lookE hA20 9 (es rfl (et rfl))
      have l10_20 := lookE hA20 10 (et rfl)
      clear hA20 hsz11 hdf11 l1_11 l2_11 l3_11 l8_11 l16_11
      have hS21 : St w NoX [c19] w19 := hS19.sel [0] (by decide) rfl
      refine then_n (hK16 _ _ ?_)
      clear hK16
      refine wp_seq_k (fun K22 hK22 => ?_)
      refine wp_seq_k (fun K23 hK23 => ?_)
      refine region_in ?_
      refine W_v rfl rfl (V_mov rfl l10_20) ?_
      refine W_v rfl rfl (V_notF rfl (et rfl)) ?_
      refine W_v rfl rfl (V_mov rfl (et rfl)) ?_
      refine W_off rfl (wanted_f rfl rfl (et rfl) (ez rfl) rfl) ?_
      refine W_off rfl (wanted_f rfl rfl (es rfl (et rfl)) (ez rfl) rfl) ?_
      refine W_v rfl rfl (V_pickT rfl (e2 rfl (et rfl)) rfl) ?_
      refine W_v rfl rfl (V_mov rfl (et rfl)) ?_
      refine W_off rfl (wanted_f rfl rfl (et rfl) (ez rfl) rfl) ?_
      refine W_off rfl (wanted_f rfl rfl (es rfl (et rfl)) (ez rfl) rfl) ?_
      refine W_off rfl (wanted_f rfl rfl (e2 rfl (et rfl)) (ez rfl) rfl) ?_
      refine W_off rfl (wanted_f rfl rfl (e3 rfl (et rfl)) (ez rfl) rfl) ?_
      refine W_off rfl (wanted_f rfl rfl (e4 rfl (et rfl)) (ez rfl) rfl) ?_
      refine W_v rfl rfl (V_pickT rfl (e5 rfl (et rfl)) rfl) ?_
      refine W_end ?_
      refine gen_Q (fun A24 hA24 => ?_)
      have hsz24 := szq hA24
      have hdf24 : A24.defers = [] := by rw [hA24]; simp only [df_put]; exact hdf20
      have l2_24 := lookE hA24 2 (e12 rfl (es rfl l2_20))
      have l9_24 := lookE hA24 9 (e12 rfl (es rfl l9_20))
      have l36_24 := lookE hA24 36 (et rfl)
      clear hA24 hsz20 hdf20 l2_20 l9_20 l10_20
      refine then_n (hK23 _ _ ?_)
      clear hK23
      refine cond_t l36_24 ?_
      refine wp_seq_k (fun K25 hK25 => ?_)
      refine region_in ?_
      refine W_v rfl rfl (V_asg rfl rfl) ?_
      refine W_v rfl rfl (V_asg rfl rfl) ?_
      refine W_end ?_
      refine gen_Q (fun A26 hA26 => ?_)
      have hsz26 := szq hA26
      have hdf26 : A26.defers = [] := by rw [hA26]; simp only [df_put]; exact hdf24
      have l6_26 := lookE hA26 6 (es rfl (et rfl))
      have l7_26 := lookE hA26 7 (et rfl)
      clear hA26 hsz24 hdf24 l2_24 l9_24 l36_24
      have hS27 : St w NoX [] w19 := hS21.sel [] (by decide) rfl
      refine then_n (hK25 _ _ ?_)
      clear hK25
      refine wp_ret ?_
      refine then_ret ?_
      refine ret_in (results_2 Try.results30 (rv_tmp l6_26) (rv_tmp l7_26)) hdf26 ?_
      -- leaf Fn
      have h := rw_no (f := f) hcd (.inl hz_17)
      rw [h.1, h.2]
      exact ⟨rfl, hS27.fin0⟩
    · refine ⟨_, rfl, ?_⟩
      have hS17 := hS8.join hP17
      replace hS17 : St w NoX [c2] w17 := hS17
      have fn28 : Ro w NoX (il .i64 y_17.1.1 y_17.1.2) := nst_ro1 n_ov hy_17
      have bfn28 := SlN.le (sl_SlN (hS17.ro fn28))
      have fn29 : Ro w NoX (il .u64 y_17.2.1 y_17.2.2) := nst_ro2 n_ov hy_17
      have bfn29 := SlN.le (sl_SlN (hS17.ro fn29))
      refine W_v rfl rfl (V_mov rfl (et rfl)) ?_
      refine W_v rfl rfl (V_ext (v := .agg #[y_17.1.1, y_17.2.1]) rfl (et rfl) rfl) ?_
      refine W_v rfl rfl (V_ext (v := .bool true) rfl (es rfl (et rfl)) rfl) ?_
      refine W_allocS (z := .agg #[.slice none 0 0, .slice none 0 0]) (zs := #[.slice none 0 0, .slice none 0 0]) hS17 rfl rfl rfl (by kernel_rfl) (by rfl) (fun g30 w30 c30 hc30 hS30 => ?_)
      replace hS30 : St w NoX [c30, c2] w30 := hS30
      refine W_stAS 0 hS30 rfl hc30 rfl rfl rfl (et rfl) (e2 rfl (et rfl)) (by simp only [List.all_toArray, List.all_cons, List.all_nil, SlN_one (sl_SlN fn28.at), SlN_one (sl_SlN fn29.at)] <;> rfl) (by rfl) (by kernel_rfl) (fun w31 c31 hc31 hS31 => ?_)
      replace hS31 : St w NoX [c31, c2] w31 := hS31
      refine W_v rfl rfl (V_asg rfl (es rfl (et rfl))) ?_
      refine W_end ?_
      refine gen_Q (fun A32 hA32 => ?_)
      have hsz32 := szq hA32
      have hdf32 : A32.defers = [] := by rw [hA32]; simp only [df_put]; exact hdf11
      have l2_32 := lookE hA32 2 (e7 rfl (es rfl l2_11))
      have l9_32 := lookE hA32 9 (es rfl (et rfl))
      have l10_32 := lookE hA32 10 (et rfl)
      clear hA32 hsz11 hdf11 l1_11 l2_11 l3_11 l8_11 l16_11
      have hS33 : St w NoX [c31] w31 := hS31.sel [0] (by decide) rfl
      refine then_n (hK16 _ _ ?_)
      clear hK16
      refine wp_seq_k (fun K34 hK34 => ?_)
      refine wp_seq_k (fun K35 hK35 => ?_)
      refine region_in ?_
      refine W_v rfl rfl (V_mov rfl l10_32) ?_
      refine W_v rfl rfl (V_notT rfl (et rfl)) ?_
      refine W_v rfl rfl (V_mov rfl (et rfl)) ?_
      refine W_v rfl (wanted_t rfl rfl (et rfl) (ez rfl)) (V_mov rfl (e2 rfl (es rfl l2_32))) ?_
      refine W_v rfl (wanted_t rfl rfl (es rfl (et rfl)) (ez rfl)) (V_lss rfl (et rfl) rfl) ?_
      refine W_v rfl rfl (V_pickF rfl (e2 rfl (et rfl)) (et rfl)) ?_
      refine W_split rfl rfl (V_mov rfl (et rfl)) (fun c36 => ?_) (fun c36 => ?_)
      · skip
        refine W_off rfl (wanted_f rfl rfl (et rfl) (ez rfl) rfl) ?_
        refine W_off rfl (wanted_f rfl rfl (es rfl (et rfl)) (ez rfl) rfl) ?_
        refine W_off rfl (wanted_f rfl rfl (e2 rfl (et rfl)) (ez rfl) rfl) ?_
        refine W_off rfl (wanted_f rfl rfl (e3 rfl (et rfl)) (ez rfl) rfl) ?_
        refine W_off rfl (wanted_f rfl rfl (e4 rfl (et rfl)) (ez rfl) rfl) ?_
        refine W_v rfl rfl (V_pickT rfl (e5 rfl (et rfl)) rfl) ?_
        refine W_end ?_
        refine gen_Q (fun A37 hA37 => ?_)
        have hsz37 := szq hA37
        have hdf37 : A37.defers = [] := by rw [hA37]; simp only [df_put]; exact hdf32
        have l2_37 := lookE hA37 2 (e12 rfl (es rfl l2_32))
        have l9_37 := lookE hA37 9 (e12 rfl (es rfl l9_32))
        have l36_37 := lookE hA37 36 (et rfl)
        clear hA37 hsz32 hdf32 l2_32 l9_32 l10_32
        refine then_n (hK35 _ _ ?_)
        clear hK35
        refine cond_t l36_37 ?_
        refine wp_seq_k (fun K38 hK38 => ?_)
        refine region_in ?_
        refine W_v rfl rfl (V_asg rfl rfl) ?_
        refine W_v rfl rfl (V_asg rfl rfl) ?_
        refine W_end ?_
        refine gen_Q (fun A39 hA39 => ?_)
        have hsz39 := szq hA39
        have hdf39 : A39.defers = [] := by rw [hA39]; simp only [df_put]; exact hdf37
        have l6_39 := lookE hA39 6 (es rfl (et rfl))
        have l7_39 := lookE hA39 7 (et rfl)
        clear hA39 hsz37 hdf37 l2_37 l9_37 l36_37
        have hS40 : St w NoX [] w31 := hS33.sel [] (by decide) rfl
        refine then_n (hK38 _ _ ?_)
        clear hK38
        refine wp_ret ?_
        refine then_ret ?_
        refine ret_in (results_2 Try.results30 (rv_tmp l6_39) (rv_tmp l7_39)) hdf39 ?_
        -- leaf FsT
        have h := rw_no (f := f) hcd (by rw [ob_at hy_17]; simp only [ab]; omega)
        rw [h.1, h.2]
        exact ⟨rfl, hS40.fin0⟩
      · skip
        refine W_v rfl (wanted_t rfl rfl (et rfl) (ez rfl)) (V_mov rfl (e6 rfl (es rfl l2_32))) ?_
        refine W_v rfl (wanted_t rfl rfl (es rfl (et rfl)) (ez rfl)) (V_fa (off' := 1) rfl (e7 rfl (es rfl l9_32)) Try.underlying40 rfl (by decide +kernel) rfl) ?_
        refine W_r rfl (wanted_t rfl rfl (e2 rfl (et rfl)) (ez rfl)) (VR_ldC rfl (et rfl) (cell_box (v := y_17.2.1) (hS33.obj 0 rfl hc31) rfl) Try.underlying38 rfl) ?_
        refine W_v rfl (wanted_t rfl rfl (e3 rfl (et rfl)) (ez rfl)) (V_lenS rfl (et rfl) (sl_SlN fn29.at) Try.underlying38) ?_
        refine W_v rfl (wanted_t rfl rfl (e4 rfl (et rfl)) (ez rfl)) (V_geq rfl (e3 rfl (et rfl)) (et rfl)) ?_
        refine W_v rfl rfl (V_pickF rfl (e5 rfl (et rfl)) (et rfl)) ?_
        refine W_end ?_
        refine gen_Q (fun A41 hA41 => ?_)
        have hsz41 := szq hA41
        have hdf41 : A41.defers = [] := by rw [hA41]; simp only [df_put]; exact hdf32
        have l2_41 := lookE hA41 2 (e12 rfl (es rfl l2_32))
        have l9_41 := lookE hA41 9 (e12 rfl (es rfl l9_32))
        have l36_41 := lookE hA41 36 (et rfl)
        clear hA41 hsz32 hdf32 l2_32 l9_32 l10_32
        refine then_n (hK35 _ _ ?_)
        clear hK35
        refine cond_dec l36_41 (fun c42 => ?_) (fun c42 => ?_)
        · skip
          refine wp_seq_k (fun K43 hK43 => ?_)
          refine region_in ?_
          refine W_v rfl rfl (V_asg rfl rfl) ?_
          refine W_v rfl rfl (V_asg rfl rfl) ?_
          refine W_end ?_
          refine gen_Q (fun A44 hA44 => ?_)
          have hsz44 := szq hA44
          have hdf44 : A44.defers = [] := by rw [hA44]; simp only [df_put]; exact hdf41
          have l6_44 := lookE hA44 6 (es rfl (et rfl))
          have l7_44 := lookE hA44 7 (et rfl)
          clear hA44 hsz41 hdf41 l2_41 l9_41 l36_41
          have hS45 : St w NoX [] w31 := hS33.sel [] (by decide) rfl
          refine then_n (hK43 _ _ ?_)
          clear hK43
          refine wp_ret ?_
          refine then_ret ?_
          refine ret_in (results_2 Try.results30 (rv_tmp l6_44) (rv_tmp l7_44)) hdf44 ?_
          -- leaf FsFT
          have h := rw_no (f := f) hcd (by rw [ob_at hy_17]; simp only [ab]; omega)
          rw [h.1, h.2]
          exact ⟨rfl, hS45.fin0⟩
        · skip
          refine wp_skip ?_
          refine then_n (hK34 _ _ ?_)
          clear hK34
          refine wp_seq_k (fun K46 hK46 => ?_)
          refine region_in ?_
          refine W_v rfl rfl (V_fa (off' := 1) rfl l9_41 Try.underlying40 rfl (by decide +kernel) rfl) ?_
          refine W_r rfl rfl (VR_ldC rfl (et rfl) (cell_box (v := y_17.2.1) (hS33.obj 0 rfl hc31) rfl) Try.underlying38 rfl) ?_
          refine W_v rfl rfl (V_mov rfl (es rfl (es rfl l2_41))) ?_
          have k47 : f.toNat < y_17.2.2.length := by first | omega | (simp only [List.length_cons, List.length_nil]; omega) | (simp only [List.length_set]; omega)
          obtain ⟨y47, hy47⟩ := get_some (xs := y_17.2.2) (k := f.toNat) k47
          obtain ⟨B47, O47, C47, hv47⟩ := (SlN.blk (sl_SlN fn29.at) (by first | omega | (simp only [List.length_cons, List.length_nil]; omega) | (simp only [List.length_set]; omega)))
          refine W_v rfl rfl (V_ixS (off := O47 + f.toNat) 1 (f.toNat) rfl (es rfl (et rfl)) (et rfl) hv47 (by omega) k47 Try.underlying38 (by kernel_rfl) (congrArg _ (Nat.mul_one _))) ?_
          refine W_r rfl rfl (VR_ldC rfl (et rfl) ((sl_SlN (hS33.ro fn29)).cell hv47 (map_get hy47)) Try.underlying45 rfl) ?_
          refine W_v rfl rfl (V_asg rfl (et rfl)) ?_
          refine W_v rfl rfl (V_asg rfl rfl) ?_
          refine W_end ?_
          refine gen_Q (fun A48 hA48 => ?_)
          have hsz48 := szq hA48
          have hdf48 : A48.defers = [] := by rw [hA48]; simp only [df_put]; exact hdf41
          have l6_48 := lookE hA48 6 (es rfl (et rfl))
          have l7_48 := lookE hA48 7 (et rfl)
          clear hA48 hsz41 hdf41 l2_41 l9_41 l36_41
          have hS49 : St w NoX [] w31 := hS33.sel [] (by decide) rfl
          refine then_n (hK46 _ _ ?_)
          clear hK46
          refine wp_ret ?_
          refine ret_in (results_2 Try.results30 (rv_tmp l6_48) (rv_tmp l7_48)) hdf48 ?_
          -- leaf FsFF
          have h := rw_ok (f := f) hcd (by rw [ob_at hy_17]; simp only [ab]; omega) (ob_at hy_17) hy47
          rw [h.1, h.2]
          exact ⟨rfl, hS49.fin0⟩

end Go.Proofs.Ytdilbnmaihmgnaa