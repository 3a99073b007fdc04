import Derived.Test.YtdilbnmaihmgnaaProg
import Derived.Test.YtdilbnmaihmgnaaGh2
namespace Go.Proofs.Ytdilbnmaihmgnaa
open Go.RowKit Go.Own Go.Own.R Go.Own.G Go.Own.Gr


set_option maxHeartbeats 4000000 in
theorem kRd_c {ov : Value} {O : List Ob} {rv : Value} {rs : List Int} {a : Int} {f : Int} {w : World} (h_ov : Ro w NoX (rl 2 obC ov O)) (n_ov : Ro w NoX (nst O)) (h_rv : Ro w NoX (il .i64 rv rs))  :
    Calls Try.prog 26 #[.agg #[ov, rv], .int .i64 a, .int .i64 f] w fun e w' => e = .returned (.tuple #[.int .u64 (rdV (O.map ab) rs a f), .int .i64 (rwE (O.map ab) rs [a] a f)]) ∧ St w NoX [] w' := by
  refine calls_in 25 Try.func26 rfl rfl (by simp) (fun A0 hsz0 hdf0 hargs => ?_)
  have l0_0 := hargs 0 (.agg #[ov, rv]) rfl
  have l1_0 := hargs 1 (.int .i64 a) rfl
  have l2_0 := hargs 2 (.int .i64 f) rfl
  clear hargs; replace hsz0 : SzN A0 25 := ⟨hsz0⟩
  have hS := St.nil w
  have bh_ov := SlN.le (sl_SlN h_ov.at)
  have bh_rv := SlN.le (sl_SlN h_rv.at)
  refine wp_seq_k (fun K1 hK1 => ?_)
  refine region_in ?_
  refine W_boxS (zs := #[ov, rv]) hS rfl rfl rfl l0_0 (by rfl) (fun g2 w2 c2 hc2 hS2 => ?_)
  replace hS2 : St w NoX [c2] w2 := hS2
  refine W_v rfl rfl (V_asg rfl rfl) ?_
  refine W_v rfl rfl (V_asg rfl rfl) ?_
  refine W_end ?_
  refine gen_Q (fun A3 hA3 => ?_)
  have hsz3 := szq hA3
  have hdf3 : A3.defers = [] := by rw [hA3]; simp only [df_put]; exact hdf0
  have l1_3 := lookE hA3 1 (e2 rfl (es rfl l1_0))
  have l2_3 := lookE hA3 2 (e2 rfl (es rfl l2_0))
  have l3_3 := lookE hA3 3 (e2 rfl (et rfl))
  clear hA3 hsz0 hdf0 l0_0 l1_0 l2_0
  refine then_n (hK1 _ _ ?_)
  clear hK1
  refine wp_seq_k (fun K4 hK4 => ?_)
  refine wp_seq_k (fun K5 hK5 => ?_)
  refine region_in ?_
  refine W_r rfl rfl (VR_ldA rfl l3_3 (hS2.obj 0 rfl hc2) Try.underlying25 rfl (by kernel_rfl)) ?_
  refine W_v rfl rfl (V_mov rfl (es rfl l1_3)) ?_
  have hll6 : [a].length = 1 := rfl
  refine W_litS (vs := [.int .i64 (a)]) (xs := ([a].map (Value.int .i64))) 1 hS2 rfl rfl rfl (parts1 (et rfl)) rfl Try.underlying23 (by kernel_rfl) (by decide) (by intro v hv; simp only [List.mem_cons, List.not_mem_nil, or_false] at hv; rcases hv with rfl <;> rfl) (by rfl) (fun g6 w6 c6 hc6 hS6 => ?_)
  replace hc6 : c6 = io .i64 (.slice (some ⟨g6, 0, none⟩) 1 1) [a] := hc6
  replace hS6 : St w NoX [c6, c2] w6 := hS6
  refine W_call rfl rfl rfl Try.func47 (by kernel_rfl) rfl (args2 (e2 rfl (et rfl)) (et rfl)) (kcd_c (hS6.roC h_ov) (hS6.roC n_ov) (hS6.roC h_rv) (hS6.chC 0 rfl hc6).own ) ?_
  rintro _ w7 ⟨rfl, hP7⟩
  refine ⟨_, rfl, ?_⟩
  have hS7 := hS6.join hP7
  replace hS7 : St w NoX [c6, c2] w7 := hS7
  refine W_v rfl rfl (V_asg rfl (et rfl)) ?_
  refine W_end ?_
  refine gen_Q (fun A8 hA8 => ?_)
  have hsz8 := szq hA8
  have hdf8 : A8.defers = [] := by rw [hA8]; simp only [df_put]; exact hdf3
  have l1_8 := lookE hA8 1 (e4 rfl (es rfl l1_3))
  have l2_8 := lookE hA8 2 (e4 rfl (es rfl l2_3))
  have l3_8 := lookE hA8 3 (e4 rfl (es rfl l3_3))
  have l8_8 := lookE hA8 8 (et rfl)
  clear hA8 hsz3 hdf3 l1_3 l2_3 l3_3
  have hS9 : St w NoX [c2] w7 := hS7.sel [1] (by decide) rfl
  refine then_n (hK5 _ _ ?_)
  clear hK5
  refine wp_seq_k (fun K10 hK10 => ?_)
  refine region_in ?_
  refine W_v rfl rfl (V_mov rfl l8_8) ?_
  refine W_v rfl rfl (V_neq rfl (et rfl) rfl) ?_
  refine W_end ?_
  refine gen_Q (fun A11 hA11 => ?_)
  have hsz11 := szq hA11
  have hdf11 : A11.defers = [] := by rw [hA11]; simp only [df_put]; exact hdf8
  have l1_11 := lookE hA11 1 (es rfl (es rfl l1_8))
  have l2_11 := lookE hA11 2 (es rfl (es rfl l2_8))
  have l3_11 := lookE hA11 3 (es rfl (es rfl l3_8))
  have l8_11 := lookE hA11 8 (es rfl (es rfl l8_8))
  have l15_11 := lookE hA11 15 (et rfl)
  clear hA11 hsz8 hdf8 l1_8 l2_8 l3_8 l8_8
  refine then_n (hK10 _ _ ?_)
  clear hK10
  refine cond_dec l15_11 (fun c12 => ?_) (fun c12 => ?_)
  · skip
    refine wp_seq_k (fun K13 hK13 => ?_)
    refine region_in ?_
    refine W_v rfl rfl (V_mov rfl l8_11) ?_
    refine W_v rfl rfl (V_asg rfl rfl) ?_
    refine W_v rfl rfl (V_asg rfl (es rfl (et rfl))) ?_
    refine W_end ?_
    refine gen_Q (fun A14 hA14 => ?_)
    have hsz14 := szq hA14
    have hdf14 : A14.defers = [] := by rw [hA14]; simp only [df_put]; exact hdf11
    have l6_14 := lookE hA14 6 (es rfl (et rfl))
    have l7_14 := lookE hA14 7 (et rfl)
    clear hA14 hsz11 hdf11 l1_11 l2_11 l3_11 l8_11 l15_11
    have hS15 : St w NoX [] w7 := hS9.sel [] (by decide) rfl
    refine then_n (hK13 _ _ ?_)
    clear hK13
    refine wp_ret ?_
    refine then_ret ?_
    refine ret_in (results_2 Try.results26 (rv_tmp l6_14) (rv_tmp l7_14)) hdf14 ?_
    -- leaf T
    have h := rw_ck (f := f) (by assumption)
    rw [h.1, h.2]
    exact ⟨rfl, hS15.fin0⟩
  · skip
    have hcd : ckd (O.map ab) rs [a] = 0 := by simpa using c12
    have hG0 := (ckd_0.1 hcd).1
    have hG := hG0
    have hrg : ∀ p ∈ rs, 0 ≤ p ∧ p ≤ (O.length : Int) := fun p hp => by have q := hG0.reg p hp; rw [List.length_map] at q; exact q
    have ha := (ckd_0.1 hcd).2 a (by simp)
    refine wp_skip ?_
    refine then_n (hK4 _ _ ?_)
    clear hK4
    refine wp_seq_k (fun K16 hK16 => ?_)
    refine region_in ?_
    refine W_v rfl rfl (V_mov rfl l1_11) ?_
    refine W_v rfl rfl (V_mov rfl (es rfl l2_11)) ?_
    refine W_call rfl rfl rfl Try.func55 (by kernel_rfl) rfl (args3 (es rfl (es rfl l3_11)) (es rfl (et rfl)) (et rfl)) (krw_c (gov := g2) (a := a) (f := f) (hS9.roC h_ov) (hS9.roC n_ov) (hS9.roC h_rv) (hS9.chC 0 rfl hc2) (by first | with_reducible assumption | (have q := hG.reg; simpa using q)) (by first | omega | with_reducible assumption)) ?_
    rintro _ w17 (⟨rfl, hz_17, hP17⟩ | ⟨B_17, O_17, C_17, y_17, x_17, rfl, hv_17, hy_17, hx_17, hz_17, hob_17, hP17⟩)
    · refine ⟨_, rfl, ?_⟩
      have hS17 := hS9.join hP17
      replace hS17 : St w NoX [c2] w17 := hS17
      refine W_v rfl rfl (V_asg rfl (et rfl)) ?_
      refine W_end ?_
      refine gen_Q (fun A18 hA18 => ?_)
      have hsz18 := szq hA18
      have hdf18 : A18.defers = [] := by rw [hA18]; simp only [df_put]; exact hdf11
      have l9_18 := lookE hA18 9 (et rfl)
      clear hA18 hsz11 hdf11 l1_11 l2_11 l3_11 l8_11 l15_11
      have hS19 : St w NoX [] w17 := hS17.sel [] (by decide) rfl
      refine then_n (hK16 _ _ ?_)
      clear hK16
      refine wp_seq_k (fun K20 hK20 => ?_)
      refine wp_seq_k (fun K21 hK21 => ?_)
      refine region_in ?_
      refine W_v rfl rfl (V_mov rfl l9_18) ?_
      refine W_v rfl rfl (V_eqNN rfl (et rfl) rfl Try.underlying76) ?_
      refine W_end ?_
      refine gen_Q (fun A22 hA22 => ?_)
      have hsz22 := szq hA22
      have hdf22 : A22.defers = [] := by rw [hA22]; simp only [df_put]; exact hdf18
      have l9_22 := lookE hA22 9 (es rfl (es rfl l9_18))
      have l21_22 := lookE hA22 21 (et rfl)
      clear hA22 hsz18 hdf18 l9_18
      refine then_n (hK21 _ _ ?_)
      clear hK21
      refine cond_t l21_22 ?_
      refine wp_seq_k (fun K23 hK23 => ?_)
      refine region_in ?_
      refine W_v rfl rfl (V_asg rfl rfl) ?_
      refine W_v rfl rfl (V_asg rfl rfl) ?_
      refine W_end ?_
      refine gen_Q (fun A24 hA24 => ?_)
      have hsz24 := szq hA24
      have hdf24 : A24.defers = [] := by rw [hA24]; simp only [df_put]; exact hdf22
      have l6_24 := lookE hA24 6 (es rfl (et rfl))
      have l7_24 := lookE hA24 7 (et rfl)
      clear hA24 hsz22 hdf22 l9_22 l21_22
      refine then_n (hK23 _ _ ?_)
      clear hK23
      refine wp_ret ?_
      refine then_ret ?_
      refine ret_in (results_2 Try.results26 (rv_tmp l6_24) (rv_tmp l7_24)) hdf24 ?_
      -- leaf Fn
      have h := rw_no (f := f) hcd hz_17
      rw [h.1, h.2]
      exact ⟨rfl, hS19.fin0⟩
    · refine ⟨_, rfl, ?_⟩
      have hS17 := hS9.join hP17
      replace hS17 : St w NoX [c2] w17 := hS17
      have fn25 : Ro w NoX (il .i64 y_17.1.1 y_17.1.2) := nst_ro1 n_ov hy_17
      have bfn25 := SlN.le (sl_SlN (hS17.ro fn25))
      have fn26 : Ro w NoX (il .u64 y_17.2.1 y_17.2.2) := nst_ro2 n_ov hy_17
      have bfn26 := SlN.le (sl_SlN (hS17.ro fn26))
      refine W_v rfl rfl (V_asg rfl (et rfl)) ?_
      refine W_end ?_
      refine gen_Q (fun A27 hA27 => ?_)
      have hsz27 := szq hA27
      have hdf27 : A27.defers = [] := by rw [hA27]; simp only [df_put]; exact hdf11
      have l9_27 := lookE hA27 9 (et rfl)
      clear hA27 hsz11 hdf11 l1_11 l2_11 l3_11 l8_11 l15_11
      have hS28 : St w NoX [] w17 := hS17.sel [] (by decide) rfl
      refine then_n (hK16 _ _ ?_)
      clear hK16
      refine wp_seq_k (fun K29 hK29 => ?_)
      refine wp_seq_k (fun K30 hK30 => ?_)
      refine region_in ?_
      refine W_v rfl rfl (V_mov rfl l9_27) ?_
      refine W_v rfl rfl (V_eqPN rfl (et rfl) rfl Try.underlying76) ?_
      refine W_end ?_
      refine gen_Q (fun A31 hA31 => ?_)
      have hsz31 := szq hA31
      have hdf31 : A31.defers = [] := by rw [hA31]; simp only [df_put]; exact hdf27
      have l9_31 := lookE hA31 9 (es rfl (es rfl l9_27))
      have l21_31 := lookE hA31 21 (et rfl)
      clear hA31 hsz27 hdf27 l9_27
      refine then_n (hK30 _ _ ?_)
      clear hK30
      refine cond_f l21_31 ?_
      refine wp_skip ?_
      refine then_n (hK29 _ _ ?_)
      clear hK29
      refine wp_seq_k (fun K32 hK32 => ?_)
      refine region_in ?_
      refine W_v rfl rfl (V_mov rfl l9_31) ?_
      refine W_v rfl rfl (V_nil rfl (et rfl)) ?_
      refine W_r rfl rfl (VR_ldC rfl (et rfl) ((sl_SlN (hS28.ro fn26)).cell hv_17 (map_get hx_17)) Try.underlying45 rfl) ?_
      refine W_v rfl rfl (V_asg rfl (et rfl)) ?_
      refine W_v rfl rfl (V_asg rfl rfl) ?_
      refine W_end ?_
      refine gen_Q (fun A33 hA33 => ?_)
      have hsz33 := szq hA33
      have hdf33 : A33.defers = [] := by rw [hA33]; simp only [df_put]; exact hdf31
      have l6_33 := lookE hA33 6 (es rfl (et rfl))
      have l7_33 := lookE hA33 7 (et rfl)
      clear hA33 hsz31 hdf31 l9_31 l21_31
      refine then_n (hK32 _ _ ?_)
      clear hK32
      refine wp_ret ?_
      refine ret_in (results_2 Try.results26 (rv_tmp l6_33) (rv_tmp l7_33)) hdf33 ?_
      -- leaf Fs
      have h := rw_ok (f := f) hcd hz_17 hob_17 hx_17
      rw [h.1, h.2]
      exact ⟨rfl, hS28.fin0⟩

end Go.Proofs.Ytdilbnmaihmgnaa