import Derived.Test.YtnfgeekaeegolaaProg
import Derived.Test.YtnfgeekaeegolaaRc1
namespace Go.Proofs.Ytnfgeekaeegolaa
open Go.RowKit Go.Own Go.Own.R Go.Own.S Go.Own.F


set_option maxHeartbeats 4000000 in
theorem far9_c {wv : Value} {ws : List Int} {cv : Value} {c : List Int} {w : World} (h_wv : Ro w NoX (il .u64 wv ws)) (h_cv : Ro w NoX (il .i64 cv c))  :
    Calls Try.prog 11 #[wv, .agg #[cv]] w fun e w' => e = .returned (.bool (decide ((700 < (ws.length : Int) ∧ (ws.length : Int) ≤ 1601) ∨ 1610 < (ws.length : Int) ∨ (300 < (c.length : Int) ∧ (c.length : Int) ≤ 8192) ∨ ((600 < c.length ∧ c.length ≤ 8192) ∨ 8200 < c.length)))) ∧ St w NoX [] w' := by
  refine calls_in 34 Try.func11 rfl rfl (by simp) (fun A0 hsz0 hdf0 hargs => ?_)
  have l0_0 := hargs 0 (wv) rfl
  have l1_0 := hargs 1 (.agg #[cv]) rfl
  clear hargs; replace hsz0 : SzN A0 34 := ⟨hsz0⟩
  have hS := St.nil w
  have bh_wv := SlN.le (sl_SlN h_wv.at)
  have bh_cv := SlN.le (sl_SlN h_cv.at)
  refine wp_seq_k (fun K1 hK1 => ?_)
  refine region_in ?_
  refine W_boxS (zs := #[cv]) hS rfl rfl rfl l1_0 (by rfl) (fun g2 w2 c2 hc2 hS2 => ?_)
  replace hS2 : St w NoX [c2] w2 := hS2
  refine W_v rfl rfl (V_asg rfl rfl) ?_
  refine W_end ?_
  refine gen_Q (fun A3 hA3 => ?_)
  have hsz3 := szq hA3
  have hdf3 : A3.defers = [] := by rw [hA3]; simp only [df_put]; exact hdf0
  have l0_3 := lookE hA3 0 (es rfl (es rfl l0_0))
  have l3_3 := lookE hA3 3 (es rfl (et rfl))
  clear hA3 hsz0 hdf0 l0_0 l1_0
  refine then_n (hK1 _ _ ?_)
  clear hK1
  refine wp_seq_k (fun K4 hK4 => ?_)
  refine region_in ?_
  refine W_v rfl rfl (V_mov rfl l0_3) ?_
  refine W_v rfl rfl (V_lenS rfl (et rfl) (sl_SlN h_wv.at) Try.underlying22) ?_
  refine W_v rfl rfl (V_gtr rfl (et rfl) rfl) ?_
  refine W_split rfl rfl (V_mov rfl (et rfl)) (fun c5 => ?_) (fun c5 => ?_)
  · skip
    refine W_v rfl (wanted_t rfl rfl (et rfl) (ez rfl)) (V_mov rfl (e3 rfl (es rfl l0_3))) ?_
    refine W_v rfl (wanted_t rfl rfl (es rfl (et rfl)) (ez rfl)) (V_lenS rfl (et rfl) (sl_SlN h_wv.at) Try.underlying22) ?_
    refine W_v rfl (wanted_t rfl rfl (e2 rfl (et rfl)) (ez rfl)) (V_leq rfl (et rfl) rfl) ?_
    refine W_v rfl rfl (V_pickT rfl (e3 rfl (et rfl)) (et rfl)) ?_
    refine W_split rfl rfl (V_mov rfl (et rfl)) (fun c6 => ?_) (fun c6 => ?_)
    · skip
      refine W_off rfl (wanted_f rfl rfl (et rfl) (ez rfl) rfl) ?_
      refine W_off rfl (wanted_f rfl rfl (es rfl (et rfl)) (ez rfl) rfl) ?_
      refine W_off rfl (wanted_f rfl rfl (e2 rfl (et rfl)) (ez rfl) rfl) ?_
      refine W_v rfl rfl (V_pickT rfl (e3 rfl (et rfl)) rfl) ?_
      refine W_v rfl rfl (V_mov rfl (et rfl)) ?_
      refine W_off rfl (wanted_f rfl rfl (et rfl) (ez rfl) rfl) ?_
      refine W_off rfl (wanted_f rfl rfl (es rfl (et rfl)) (ez rfl) rfl) ?_
      refine W_off rfl (wanted_f rfl rfl (e2 rfl (et rfl)) (ez rfl) rfl) ?_
      refine W_off rfl (wanted_f rfl rfl (e3 rfl (et rfl)) (ez rfl) rfl) ?_
      refine W_off rfl (wanted_f rfl rfl (e4 rfl (et rfl)) (ez rfl) rfl) ?_
      refine W_off rfl (wanted_u rfl rfl (et rfl) (ez rfl)) ?_
      refine W_off rfl (wanted_u rfl rfl (es rfl (et rfl)) (ez rfl)) ?_
      refine W_off rfl (wanted_u rfl rfl (e2 rfl (et rfl)) (ez rfl)) ?_
      refine W_off rfl (wanted_u rfl rfl (e3 rfl (et rfl)) (ez rfl)) ?_
      refine W_off rfl (wanted_f rfl rfl (e9 rfl (et rfl)) (ez rfl) rfl) ?_
      refine W_v rfl rfl (V_pickT rfl (e10 rfl (et rfl)) rfl) ?_
      refine W_v rfl rfl (V_mov rfl (et rfl)) ?_
      refine W_off rfl (wanted_f rfl rfl (et rfl) (ez rfl) rfl) ?_
      refine W_off rfl (wanted_f rfl rfl (es rfl (et rfl)) (ez rfl) rfl) ?_
      refine W_v rfl rfl (V_pickT rfl (e2 rfl (et rfl)) rfl) ?_
      refine W_v rfl rfl (V_asg rfl (et rfl)) ?_
      refine W_end ?_
      refine gen_Q (fun A7 hA7 => ?_)
      have hsz7 := szq hA7
      have hdf7 : A7.defers = [] := by rw [hA7]; simp only [df_put]; exact hdf3
      have l4_7 := lookE hA7 4 (et rfl)
      clear hA7 hsz3 hdf3 l0_3 l3_3
      have hS8 : St w NoX [] w2 := hS2.sel [] (by decide) rfl
      refine then_n (hK4 _ _ ?_)
      clear hK4
      refine wp_ret ?_
      refine ret_in (results_1 Try.results11 (rv_tmp l4_7)) hdf7 ?_
      -- leaf TT
      rw [show (decide ((700 < (ws.length : Int) ∧ (ws.length : Int) ≤ 1601) ∨ 1610 < (ws.length : Int) ∨ (300 < (c.length : Int) ∧ (c.length : Int) ≤ 8192) ∨ ((600 < c.length ∧ c.length ≤ 8192) ∨ 8200 < c.length))) = true by exact decide_eq_true (by omega)]
      exact ⟨rfl, hS8.fin0⟩
    · skip
      refine W_v rfl (wanted_t rfl rfl (et rfl) (ez rfl)) (V_mov rfl (e8 rfl (es rfl l0_3))) ?_
      refine W_v rfl (wanted_t rfl rfl (es rfl (et rfl)) (ez rfl)) (V_lenS rfl (et rfl) (sl_SlN h_wv.at) Try.underlying22) ?_
      refine W_v rfl (wanted_t rfl rfl (e2 rfl (et rfl)) (ez rfl)) (V_gtr rfl (et rfl) rfl) ?_
      refine W_v rfl rfl (V_pickF rfl (e3 rfl (et rfl)) (et rfl)) ?_
      refine W_split rfl rfl (V_mov rfl (et rfl)) (fun c9 => ?_) (fun c9 => ?_)
      · skip
        refine W_off rfl (wanted_f rfl rfl (et rfl) (ez rfl) rfl) ?_
        refine W_off rfl (wanted_f rfl rfl (es rfl (et rfl)) (ez rfl) rfl) ?_
        refine W_off rfl (wanted_f rfl rfl (e2 rfl (et rfl)) (ez rfl) rfl) ?_
        refine W_off rfl (wanted_f rfl rfl (e3 rfl (et rfl)) (ez rfl) rfl) ?_
        refine W_off rfl (wanted_f rfl rfl (e4 rfl (et rfl)) (ez rfl) rfl) ?_
        refine W_off rfl (wanted_u rfl rfl (et rfl) (ez rfl)) ?_
        refine W_off rfl (wanted_u rfl rfl (es rfl (et rfl)) (ez rfl)) ?_
        refine W_off rfl (wanted_u rfl rfl (e2 rfl (et rfl)) (ez rfl)) ?_
        refine W_off rfl (wanted_u rfl rfl (e3 rfl (et rfl)) (ez rfl)) ?_
        refine W_off rfl (wanted_f rfl rfl (e9 rfl (et rfl)) (ez rfl) rfl) ?_
        refine W_v rfl rfl (V_pickT rfl (e10 rfl (et rfl)) rfl) ?_
        refine W_v rfl rfl (V_mov rfl (et rfl)) ?_
        refine W_off rfl (wanted_f rfl rfl (et rfl) (ez rfl) rfl) ?_
        refine W_off rfl (wanted_f rfl rfl (es rfl (et rfl)) (ez rfl) rfl) ?_
        refine W_v rfl rfl (V_pickT rfl (e2 rfl (et rfl)) rfl) ?_
        refine W_v rfl rfl (V_asg rfl (et rfl)) ?_
        refine W_end ?_
        refine gen_Q (fun A10 hA10 => ?_)
        have hsz10 := szq hA10
        have hdf10 : A10.defers = [] := by rw [hA10]; simp only [df_put]; exact hdf3
        have l4_10 := lookE hA10 4 (et rfl)
        clear hA10 hsz3 hdf3 l0_3 l3_3
        have hS11 : St w NoX [] w2 := hS2.sel [] (by decide) rfl
        refine then_n (hK4 _ _ ?_)
        clear hK4
        refine wp_ret ?_
        refine ret_in (results_1 Try.results11 (rv_tmp l4_10)) hdf10 ?_
        -- leaf TFT
        rw [show (decide ((700 < (ws.length : Int) ∧ (ws.length : Int) ≤ 1601) ∨ 1610 < (ws.length : Int) ∨ (300 < (c.length : Int) ∧ (c.length : Int) ≤ 8192) ∨ ((600 < c.length ∧ c.length ≤ 8192) ∨ 8200 < c.length))) = true by exact decide_eq_true (by omega)]
        exact ⟨rfl, hS11.fin0⟩
      · skip
        refine W_v rfl (wanted_t rfl rfl (et rfl) (ez rfl)) (V_fa (off' := 0) rfl (e13 rfl (es rfl l3_3)) Try.underlying25 rfl (by decide +kernel) rfl) ?_
        refine W_r rfl (wanted_t rfl rfl (es rfl (et rfl)) (ez rfl)) (VR_ldC rfl (et rfl) (cell_box (v := cv) (hS2.obj 0 rfl hc2) rfl) Try.underlying23 rfl) ?_
        refine W_v rfl (wanted_t rfl rfl (e2 rfl (et rfl)) (ez rfl)) (V_lenS rfl (et rfl) (sl_SlN h_cv.at) Try.underlying23) ?_
        refine W_v rfl (wanted_t rfl rfl (e3 rfl (et rfl)) (ez rfl)) (V_gtr rfl (et rfl) rfl) ?_
        refine W_split rfl (wanted_t rfl rfl (e4 rfl (et rfl)) (ez rfl)) (V_mov rfl (et rfl)) (fun c12 => ?_) (fun c12 => ?_)
        · skip
          refine W_v rfl (wanted_t rfl rfl (et rfl) (ez rfl)) (V_fa (off' := 0) rfl (e18 rfl (es rfl l3_3)) Try.underlying25 rfl (by decide +kernel) rfl) ?_
          refine W_r rfl (wanted_t rfl rfl (es rfl (et rfl)) (ez rfl)) (VR_ldC rfl (et rfl) (cell_box (v := cv) (hS2.obj 0 rfl hc2) rfl) Try.underlying23 rfl) ?_
          refine W_v rfl (wanted_t rfl rfl (e2 rfl (et rfl)) (ez rfl)) (V_lenS rfl (et rfl) (sl_SlN h_cv.at) Try.underlying23) ?_
          refine W_v rfl (wanted_t rfl rfl (e3 rfl (et rfl)) (ez rfl)) (V_leq rfl (et rfl) rfl) ?_
          refine W_v rfl (wanted_t rfl rfl (e9 rfl (et rfl)) (ez rfl)) (V_pickT rfl (e4 rfl (et rfl)) (et rfl)) ?_
          refine W_v rfl rfl (V_pickF rfl (e10 rfl (et rfl)) (et rfl)) ?_
          refine W_split rfl rfl (V_mov rfl (et rfl)) (fun c13 => ?_) (fun c13 => ?_)
          · skip
            refine W_off rfl (wanted_f rfl rfl (et rfl) (ez rfl) rfl) ?_
            refine W_off rfl (wanted_f rfl rfl (es rfl (et rfl)) (ez rfl) rfl) ?_
            refine W_v rfl rfl (V_pickT rfl (e2 rfl (et rfl)) rfl) ?_
            refine W_v rfl rfl (V_asg rfl (et rfl)) ?_
            refine W_end ?_
            refine gen_Q (fun A14 hA14 => ?_)
            have hsz14 := szq hA14
            have hdf14 : A14.defers = [] := by rw [hA14]; simp only [df_put]; exact hdf3
            have l4_14 := lookE hA14 4 (et rfl)
            clear hA14 hsz3 hdf3 l0_3 l3_3
            have hS15 : St w NoX [] w2 := hS2.sel [] (by decide) rfl
            refine then_n (hK4 _ _ ?_)
            clear hK4
            refine wp_ret ?_
            refine ret_in (results_1 Try.results11 (rv_tmp l4_14)) hdf14 ?_
            -- leaf TFFTT
            rw [show (decide ((700 < (ws.length : Int) ∧ (ws.length : Int) ≤ 1601) ∨ 1610 < (ws.length : Int) ∨ (300 < (c.length : Int) ∧ (c.length : Int) ≤ 8192) ∨ ((600 < c.length ∧ c.length ≤ 8192) ∨ 8200 < c.length))) = true by exact decide_eq_true (by omega)]
            exact ⟨rfl, hS15.fin0⟩
          · skip
            refine W_r rfl (wanted_t rfl rfl (et rfl) (ez rfl)) (VR_ldA rfl (e25 rfl (es rfl l3_3)) (hS2.obj 0 rfl hc2) Try.underlying25 rfl (by kernel_rfl)) ?_
            refine W_call rfl (wanted_t rfl rfl (es rfl (et rfl)) (ez rfl)) rfl Try.func35 (by kernel_rfl) rfl (args1 (et rfl)) (far_c (hS2.roC h_cv) ) ?_
            rintro _ w16 ⟨rfl, hP16⟩
            refine ⟨_, rfl, ?_⟩
            have hS16 := hS2.join hP16
            replace hS16 : St w NoX [c2] w16 := hS16
            refine W_v rfl rfl (V_pickF rfl (e2 rfl (et rfl)) (et rfl)) ?_
            refine W_v rfl rfl (V_asg rfl (et rfl)) ?_
            refine W_end ?_
            refine gen_Q (fun A17 hA17 => ?_)
            have hsz17 := szq hA17
            have hdf17 : A17.defers = [] := by rw [hA17]; simp only [df_put]; exact hdf3
            have l4_17 := lookE hA17 4 (et rfl)
            clear hA17 hsz3 hdf3 l0_3 l3_3
            have hS18 : St w NoX [] w16 := hS16.sel [] (by decide) rfl
            refine then_n (hK4 _ _ ?_)
            clear hK4
            refine wp_ret ?_
            refine ret_in (results_1 Try.results11 (rv_tmp l4_17)) hdf17 ?_
            -- leaf TFFTF
            rw [show (decide ((700 < (ws.length : Int) ∧ (ws.length : Int) ≤ 1601) ∨ 1610 < (ws.length : Int) ∨ (300 < (c.length : Int) ∧ (c.length : Int) ≤ 8192) ∨ ((600 < c.length ∧ c.length ≤ 8192) ∨ 8200 < c.length))) = decide ((600 < c.length ∧ c.length ≤ 8192) ∨ 8200 < c.length) by exact decide_eq_decide.2 (by omega)]
            exact ⟨rfl, hS18.fin0⟩
        · skip
          refine W_off rfl (wanted_f rfl rfl (et rfl) (ez rfl) rfl) ?_
          refine W_off rfl (wanted_f rfl rfl (es rfl (et rfl)) (ez rfl) rfl) ?_
          refine W_off rfl (wanted_f rfl rfl (e2 rfl (et rfl)) (ez rfl) rfl) ?_
          refine W_off rfl (wanted_f rfl rfl (e3 rfl (et rfl)) (ez rfl) rfl) ?_
          refine W_v rfl (wanted_t rfl rfl (e9 rfl (et rfl)) (ez rfl)) (V_pickF rfl (e4 rfl (et rfl)) rfl) ?_
          refine W_v rfl rfl (V_pickF rfl (e10 rfl (et rfl)) (et rfl)) ?_
          refine W_v rfl rfl (V_mov rfl (et rfl)) ?_
          refine W_r rfl (wanted_t rfl rfl (et rfl) (ez rfl)) (VR_ldA rfl (e25 rfl (es rfl l3_3)) (hS2.obj 0 rfl hc2) Try.underlying25 rfl (by kernel_rfl)) ?_
          refine W_call rfl (wanted_t rfl rfl (es rfl (et rfl)) (ez rfl)) rfl Try.func35 (by kernel_rfl) rfl (args1 (et rfl)) (far_c (hS2.roC h_cv) ) ?_
          rintro _ w19 ⟨rfl, hP19⟩
          refine ⟨_, rfl, ?_⟩
          have hS19 := hS2.join hP19
          replace hS19 : St w NoX [c2] w19 := hS19
          refine W_v rfl rfl (V_pickF rfl (e2 rfl (et rfl)) (et rfl)) ?_
          refine W_v rfl rfl (V_asg rfl (et rfl)) ?_
          refine W_end ?_
          refine gen_Q (fun A20 hA20 => ?_)
          have hsz20 := szq hA20
          have hdf20 : A20.defers = [] := by rw [hA20]; simp only [df_put]; exact hdf3
          have l4_20 := lookE hA20 4 (et rfl)
          clear hA20 hsz3 hdf3 l0_3 l3_3
          have hS21 : St w NoX [] w19 := hS19.sel [] (by decide) rfl
          refine then_n (hK4 _ _ ?_)
          clear hK4
          refine wp_ret ?_
          refine ret_in (results_1 Try.results11 (rv_tmp l4_20)) hdf20 ?_
          -- leaf TFFF
          rw [show (decide ((700 < (ws.length : Int) ∧ (ws.length : Int) ≤ 1601) ∨ 1610 < (ws.length : Int) ∨ (300 < (c.length : Int) ∧ (c.length : Int) ≤ 8192) ∨ ((600 < c.length ∧ c.length ≤ 8192) ∨ 8200 < c.length))) = decide ((600 < c.length ∧ c.length ≤ 8192) ∨ 8200 < c.length) by exact decide_eq_decide.2 (by omega)]
          exact ⟨rfl, hS21.fin0⟩
  · skip
    refine W_off rfl (wanted_f rfl rfl (et rfl) (ez rfl) rfl) ?_
    refine W_off rfl (wanted_f rfl rfl (es rfl (et rfl)) (ez rfl) rfl) ?_
    refine W_off rfl (wanted_f rfl rfl (e2 rfl (et rfl)) (ez rfl) rfl) ?_
    refine W_v rfl rfl (V_pickF rfl (e3 rfl (et rfl)) rfl) ?_
    refine W_v rfl rfl (V_mov rfl (et rfl)) ?_
    refine W_v rfl (wanted_t rfl rfl (et rfl) (ez rfl)) (V_mov rfl (e8 rfl (es rfl l0_3))) ?_
    refine W_v rfl (wanted_t rfl rfl (es rfl (et rfl)) (ez rfl)) (V_lenS rfl (et rfl) (sl_SlN h_wv.at) Try.underlying22) ?_
    refine W_v rfl (wanted_t rfl rfl (e2 rfl (et rfl)) (ez rfl)) (V_gtr rfl (et rfl) rfl) ?_
    refine W_v rfl rfl (V_pickF rfl (e3 rfl (et rfl)) (et rfl)) ?_
    refine W_split rfl rfl (V_mov rfl (et rfl)) (fun c22 => ?_) (fun c22 => ?_)
    · skip
      refine W_off rfl (wanted_f rfl rfl (et rfl) (ez rfl) rfl) ?_
      refine W_off rfl (wanted_f rfl rfl (es rfl (et rfl)) (ez rfl) rfl) ?_
      refine W_off rfl (wanted_f rfl rfl (e2 rfl (et rfl)) (ez rfl) rfl) ?_
      refine W_off rfl (wanted_f rfl rfl (e3 rfl (et rfl)) (ez rfl) rfl) ?_
      refine W_off rfl (wanted_f rfl rfl (e4 rfl (et rfl)) (ez rfl) rfl) ?_
      refine W_off rfl (wanted_u rfl rfl (et rfl) (ez rfl)) ?_
      refine W_off rfl (wanted_u rfl rfl (es rfl (et rfl)) (ez rfl)) ?_
      refine W_off rfl (wanted_u rfl rfl (e2 rfl (et rfl)) (ez rfl)) ?_
      refine W_off rfl (wanted_u rfl rfl (e3 rfl (et rfl)) (ez rfl)) ?_
      refine W_off rfl (wanted_f rfl rfl (e9 rfl (et rfl)) (ez rfl) rfl) ?_
      refine W_v rfl rfl (V_pickT rfl (e10 rfl (et rfl)) rfl) ?_
      refine W_v rfl rfl (V_mov rfl (et rfl)) ?_
      refine W_off rfl (wanted_f rfl rfl (et rfl) (ez rfl) rfl) ?_
      refine W_off rfl (wanted_f rfl rfl (es rfl (et rfl)) (ez rfl) rfl) ?_
      refine W_v rfl rfl (V_pickT rfl (e2 rfl (et rfl)) rfl) ?_
      refine W_v rfl rfl (V_asg rfl (et rfl)) ?_
      refine W_end ?_
      refine gen_Q (fun A23 hA23 => ?_)
      have hsz23 := szq hA23
      have hdf23 : A23.defers = [] := by rw [hA23]; simp only [df_put]; exact hdf3
      have l4_23 := lookE hA23 4 (et rfl)
      clear hA23 hsz3 hdf3 l0_3 l3_3
      have hS24 : St w NoX [] w2 := hS2.sel [] (by decide) rfl
      refine then_n (hK4 _ _ ?_)
      clear hK4
      refine wp_ret ?_
      refine ret_in (results_1 Try.results11 (rv_tmp l4_23)) hdf23 ?_
      -- leaf FT
      rw [show (decide ((700 < (ws.length : Int) ∧ (ws.length : Int) ≤ 1601) ∨ 1610 < (ws.length : Int) ∨ (300 < (c.length : Int) ∧ (c.length : Int) ≤ 8192) ∨ ((600 < c.length ∧ c.length ≤ 8192) ∨ 8200 < c.length))) = true by exact decide_eq_true (by omega)]
      exact ⟨rfl, hS24.fin0⟩
    · skip
      refine W_v rfl (wanted_t rfl rfl (et rfl) (ez rfl)) (V_fa (off' := 0) rfl (e13 rfl (es rfl l3_3)) Try.underlying25 rfl (by decide +kernel) rfl) ?_
      refine W_r rfl (wanted_t rfl rfl (es rfl (et rfl)) (ez rfl)) (VR_ldC rfl (et rfl) (cell_box (v := cv) (hS2.obj 0 rfl hc2) rfl) Try.underlying23 rfl) ?_
      refine W_v rfl (wanted_t rfl rfl (e2 rfl (et rfl)) (ez rfl)) (V_lenS rfl (et rfl) (sl_SlN h_cv.at) Try.underlying23) ?_
      refine W_v rfl (wanted_t rfl rfl (e3 rfl (et rfl)) (ez rfl)) (V_gtr rfl (et rfl) rfl) ?_
      refine W_split rfl (wanted_t rfl rfl (e4 rfl (et rfl)) (ez rfl)) (V_mov rfl (et rfl)) (fun c25 => ?_) (fun c25 => ?_)
      · skip
        refine W_v rfl (wanted_t rfl rfl (et rfl) (ez rfl)) (V_fa (off' := 0) rfl (e18 rfl (es rfl l3_3)) Try.underlying25 rfl (by decide +kernel) rfl) ?_
        refine W_r rfl (wanted_t rfl rfl (es rfl (et rfl)) (ez rfl)) (VR_ldC rfl (et rfl) (cell_box (v := cv) (hS2.obj 0 rfl hc2) rfl) Try.underlying23 rfl) ?_
        refine W_v rfl (wanted_t rfl rfl (e2 rfl (et rfl)) (ez rfl)) (V_lenS rfl (et rfl) (sl_SlN h_cv.at) Try.underlying23) ?_
        refine W_v rfl (wanted_t rfl rfl (e3 rfl (et rfl)) (ez rfl)) (V_leq rfl (et rfl) rfl) ?_
        refine W_v rfl (wanted_t rfl rfl (e9 rfl (et rfl)) (ez rfl)) (V_pickT rfl (e4 rfl (et rfl)) (et rfl)) ?_
        refine W_v rfl rfl (V_pickF rfl (e10 rfl (et rfl)) (et rfl)) ?_
        refine W_split rfl rfl (V_mov rfl (et rfl)) (fun c26 => ?_) (fun c26 => ?_)
        · skip
          refine W_off rfl (wanted_f rfl rfl (et rfl) (ez rfl) rfl) ?_
          refine W_off rfl (wanted_f rfl rfl (es rfl (et rfl)) (ez rfl) rfl) ?_
          refine W_v rfl rfl (V_pickT rfl (e2 rfl (et rfl)) rfl) ?_
          refine W_v rfl rfl (V_asg rfl (et rfl)) ?_
          refine W_end ?_
          refine gen_Q (fun A27 hA27 => ?_)
          have hsz27 := szq hA27
          have hdf27 : A27.defers = [] := by rw [hA27]; simp only [df_put]; exact hdf3
          have l4_27 := lookE hA27 4 (et rfl)
          clear hA27 hsz3 hdf3 l0_3 l3_3
          have hS28 : St w NoX [] w2 := hS2.sel [] (by decide) rfl
          refine then_n (hK4 _ _ ?_)
          clear hK4
          refine wp_ret ?_
          refine ret_in (results_1 Try.results11 (rv_tmp l4_27)) hdf27 ?_
          -- leaf FFTT
          rw [show (decide ((700 < (ws.length : Int) ∧ (ws.length : Int) ≤ 1601) ∨ 1610 < (ws.length : Int) ∨ (300 < (c.length : Int) ∧ (c.length : Int) ≤ 8192) ∨ ((600 < c.length ∧ c.length ≤ 8192) ∨ 8200 < c.length))) = true by exact decide_eq_true (by omega)]
          exact ⟨rfl, hS28.fin0⟩
        · skip
          refine W_r rfl (wanted_t rfl rfl (et rfl) (ez rfl)) (VR_ldA rfl (e25 rfl (es rfl l3_3)) (hS2.obj 0 rfl hc2) Try.underlying25 rfl (by kernel_rfl)) ?_
          refine W_call rfl (wanted_t rfl rfl (es rfl (et rfl)) (ez rfl)) rfl Try.func35 (by kernel_rfl) rfl (args1 (et rfl)) (far_c (hS2.roC h_cv) ) ?_
          rintro _ w29 ⟨rfl, hP29⟩
          refine ⟨_, rfl, ?_⟩
          have hS29 := hS2.join hP29
          replace hS29 : St w NoX [c2] w29 := hS29
          refine W_v rfl rfl (V_pickF rfl (e2 rfl (et rfl)) (et rfl)) ?_
          refine W_v rfl rfl (V_asg rfl (et rfl)) ?_
          refine W_end ?_
          refine gen_Q (fun A30 hA30 => ?_)
          have hsz30 := szq hA30
          have hdf30 : A30.defers = [] := by rw [hA30]; simp only [df_put]; exact hdf3
          have l4_30 := lookE hA30 4 (et rfl)
          clear hA30 hsz3 hdf3 l0_3 l3_3
          have hS31 : St w NoX [] w29 := hS29.sel [] (by decide) rfl
          refine then_n (hK4 _ _ ?_)
          clear hK4
          refine wp_ret ?_
          refine ret_in (results_1 Try.results11 (rv_tmp l4_30)) hdf30 ?_
          -- leaf FFTF
          rw [show (decide ((700 < (ws.length : Int) ∧ (ws.length : Int) ≤ 1601) ∨ 1610 < (ws.length : Int) ∨ (300 < (c.length : Int) ∧ (c.length : Int) ≤ 8192) ∨ ((600 < c.length ∧ c.length ≤ 8192) ∨ 8200 < c.length))) = decide ((600 < c.length ∧ c.length ≤ 8192) ∨ 8200 < c.length) by exact decide_eq_decide.2 (by omega)]
          exact ⟨rfl, hS31.fin0⟩
      · skip
        refine W_off rfl (wanted_f rfl rfl (et rfl) (ez rfl) rfl) ?_
        refine W_off rfl (wanted_f rfl rfl (es rfl (et rfl)) (ez rfl) rfl) ?_
        refine W_off rfl (wanted_f rfl rfl (e2 rfl (et rfl)) (ez rfl) rfl) ?_
        refine W_off rfl (wanted_f rfl rfl (e3 rfl (et rfl)) (ez rfl) rfl) ?_
        refine W_v rfl (wanted_t rfl rfl (e9 rfl (et rfl)) (ez rfl)) (V_pickF rfl (e4 rfl (et rfl)) rfl) ?_
        refine W_v rfl rfl (V_pickF rfl (e10 rfl (et rfl)) (et rfl)) ?_
        refine W_v rfl rfl (V_mov rfl (et rfl)) ?_
        refine W_r rfl (wanted_t rfl rfl (et rfl) (ez rfl)) (VR_ldA rfl (e25 rfl (es rfl l3_3)) (hS2.obj 0 rfl hc2) Try.underlying25 rfl (by kernel_rfl)) ?_
        refine W_call rfl (wanted_t rfl rfl (es rfl (et rfl)) (ez rfl)) rfl Try.func35 (by kernel_rfl) rfl (args1 (et rfl)) (far_c (hS2.roC h_cv) ) ?_
        rintro _ w32 ⟨rfl, hP32⟩
        refine ⟨_, rfl, ?_⟩
        have hS32 := hS2.join hP32
        replace hS32 : St w NoX [c2] w32 := hS32
        refine W_v rfl rfl (V_pickF rfl (e2 rfl (et rfl)) (et rfl)) ?_
        refine W_v rfl rfl (V_asg rfl (et rfl)) ?_
        refine W_end ?_
        refine gen_Q (fun A33 hA33 => ?_)
        have hsz33 := szq hA33
        have hdf33 : A33.defers = [] := by rw [hA33]; simp only [df_put]; exact hdf3
        have l4_33 := lookE hA33 4 (et rfl)
        clear hA33 hsz3 hdf3 l0_3 l3_3
        have hS34 : St w NoX [] w32 := hS32.sel [] (by decide) rfl
        refine then_n (hK4 _ _ ?_)
        clear hK4
        refine wp_ret ?_
        refine ret_in (results_1 Try.results11 (rv_tmp l4_33)) hdf33 ?_
        -- leaf FFF
        rw [show (decide ((700 < (ws.length : Int) ∧ (ws.length : Int) ≤ 1601) ∨ 1610 < (ws.length : Int) ∨ (300 < (c.length : Int) ∧ (c.length : Int) ≤ 8192) ∨ ((600 < c.length ∧ c.length ≤ 8192) ∨ 8200 < c.length))) = decide ((600 < c.length ∧ c.length ≤ 8192) ∨ 8200 < c.length) by exact decide_eq_decide.2 (by omega)]
        exact ⟨rfl, hS34.fin0⟩

set_option maxHeartbeats 4000000 in
theorem qpl_c {cv : Value} {l : List (Int × Int)} {t : Int} {n : Int} {w : World} (h_cv : Ro w NoX (rl 2 rcC cv l)) (hl : l.length ≤ 1000000000000) (hb : ∀ x ∈ l, -4000000000000000000 ≤ x.2 ∧ x.2 ≤ 4000000000000000000) (hn : -4000000000000000000 ≤ n ∧ n ≤ 4000000000000000000) :
    Calls Try.prog 40 #[cv, .int .i64 t, .int .i64 n] w fun e w' => ∃ v, e = .returned (v) ∧ St w NoX [ro 2 rcC (v) (plF l t n)] w' := by
  refine calls_in 71 Try.func40 rfl rfl (by simp) (fun A0 hsz0 hdf0 hargs => ?_)
  have l0_0 := hargs 0 (cv) rfl
  have l1_0 := hargs 1 (.int .i64 t) rfl
  have l2_0 := hargs 2 (.int .i64 n) rfl
  clear hargs; replace hsz0 : SzN A0 71 := ⟨hsz0⟩
  have hS := St.nil w
  have bh_cv := SlN.le (sl_SlN h_cv.at)
  refine wp_seq_k (fun K1 hK1 => ?_)
  refine region_in ?_
  refine W_v rfl rfl (V_asg rfl rfl) ?_
  refine W_end ?_
  refine gen_Q (fun A2 hA2 => ?_)
  have hsz2 := szq hA2
  have hdf2 : A2.defers = [] := by rw [hA2]; simp only [df_put]; exact hdf0
  have l0_2 := lookE hA2 0 (es rfl l0_0)
  have l1_2 := lookE hA2 1 (es rfl l1_0)
  have l2_2 := lookE hA2 2 (es rfl l2_0)
  clear hA2 hsz0 hdf0 l0_0 l1_0 l2_0
  refine then_n (hK1 _ _ ?_)
  clear hK1
  refine wp_seq_k (fun K3 hK3 => ?_)
  refine region_in ?_
  refine W_v rfl rfl (V_asg rfl rfl) ?_
  refine W_end ?_
  refine gen_Q (fun A4 hA4 => ?_)
  have hsz4 := szq hA4
  have hdf4 : A4.defers = [] := by rw [hA4]; simp only [df_put]; exact hdf2
  have l0_4 := lookE hA4 0 (es rfl l0_2)
  have l1_4 := lookE hA4 1 (es rfl l1_2)
  have l2_4 := lookE hA4 2 (es rfl l2_2)
  have l7_4 := lookE hA4 7 (et rfl)
  clear hA4 hsz2 hdf2 l0_2 l1_2 l2_2
  refine then_n (hK3 _ _ ?_)
  clear hK3
  refine wp_seq_k (fun K5 hK5 => ?_)
  refine wp_block ?_
  -- loop 2
  refine loopX (fun mz A' w' => SzN A' 71 ∧ A'.defers = [] ∧ (∃ (k : Nat), (mz = l.length - k) ∧ (k ≤ l.length) ∧ (∀ i, i < k → ∀ x, l[i]? = some x → x.1 < t) ∧ (EV A' (.tmp 7) = .int .i64 (k : Int)) ∧ (EV A' (.tmp 0) = EV A4 (.tmp 0)) ∧ (EV A' (.tmp 1) = EV A4 (.tmp 1)) ∧ (EV A' (.tmp 2) = EV A4 (.tmp 2)) ∧ (St w NoX [] w'))) (l.length - 0) ⟨hsz4, hdf4, 0, rfl, (by omega), (fun i hi => by omega), ((l7_4).trans (by first | rfl | (simp; done) | (congr 1; omega))), rfl, rfl, rfl, hS⟩ ?_
  clear hS
  rintro n6 A6 w6 ⟨hsz6, hdf6, k, hm6, hk, hlt, l7_6, u0_6, u1_6, u2_6, hS6⟩
  have l0_6 := u0_6.trans l0_4
  have l1_6 := u1_6.trans l1_4
  have l2_6 := u2_6.trans l2_4
  refine wp_seq_k (fun K7 hK7 => ?_)
  refine wp_seq_k (fun K8 hK8 => ?_)
  refine region_in ?_
  refine W_v rfl rfl (V_mov rfl l7_6) ?_
  refine W_v rfl rfl (V_mov rfl (es rfl l0_6)) ?_
  refine W_v rfl rfl (V_lenS rfl (et rfl) (sl_SlN h_cv.at) Try.underlying28) ?_
  refine W_v rfl rfl (V_lss rfl (e2 rfl (et rfl)) (et rfl)) ?_
  refine W_split rfl rfl (V_mov rfl (et rfl)) (fun c9 => ?_) (fun c9 => ?_)
  · skip
    refine W_v rfl (wanted_t rfl rfl (et rfl) (ez rfl)) (V_mov rfl (e4 rfl (es rfl l0_6))) ?_
    refine W_v rfl (wanted_t rfl rfl (es rfl (et rfl)) (ez rfl)) (V_mov rfl (e5 rfl (es rfl l7_6))) ?_
    have k10 : k < l.length := by first | omega | (simp only [List.length_cons, List.length_nil]; omega) | (simp only [List.length_set]; omega) | decide
    obtain ⟨y10, hy10⟩ := get_some (xs := l) (k := k) k10
    have hb10 := hb _ (List.mem_of_getElem? hy10)
    obtain ⟨B10, O10, C10, hv10⟩ := (SlN.blk (sl_SlN h_cv.at) (by first | omega | (simp only [List.length_cons, List.length_nil]; omega) | (simp only [List.length_set]; omega) | decide))
    refine W_v rfl (wanted_t rfl rfl (e2 rfl (et rfl)) (ez rfl)) (V_ixS (off := O10 + k * 2) 2 (k) rfl (es rfl (et rfl)) (et rfl) hv10 (by omega) k10 Try.underlying28 (by kernel_rfl) rfl) ?_
    refine W_v rfl (wanted_t rfl rfl (e3 rfl (et rfl)) (ez rfl)) (V_fa (off' := O10 + k * 2 + 0) rfl (et rfl) Try.underlying42 rfl (by decide +kernel) rfl) ?_
    refine W_r rfl (wanted_t rfl rfl (e4 rfl (et rfl)) (ez rfl)) (VR_ldC (v := .int .i64 (y10.1)) rfl (et rfl) (SlN.row rcC_len (sl_SlN (hS6.ro h_cv)) hv10 hy10 rfl 0 _ rfl) Try.underlying3 rfl) ?_
    refine W_v rfl (wanted_t rfl rfl (e5 rfl (et rfl)) (ez rfl)) (V_mov rfl (e9 rfl (es rfl l1_6))) ?_
    refine W_v rfl (wanted_t rfl rfl (e6 rfl (et rfl)) (ez rfl)) (V_lss rfl (es rfl (et rfl)) (et rfl)) ?_
    refine W_v rfl rfl (V_pickT rfl (e7 rfl (et rfl)) (et rfl)) ?_
    refine W_end ?_
    refine gen_Q (fun A11 hA11 => ?_)
    have hsz11 := szq hA11
    have hdf11 : A11.defers = [] := by rw [hA11]; simp only [df_put]; exact hdf6
    have l0_11 := lookE hA11 0 (e12 rfl (es rfl l0_6))
    have l1_11 := lookE hA11 1 (e12 rfl (es rfl l1_6))
    have l2_11 := lookE hA11 2 (e12 rfl (es rfl l2_6))
    have l7_11 := lookE hA11 7 (e12 rfl (es rfl l7_6))
    have l14_11 := lookE hA11 14 (e7 rfl (et rfl))
    have l15_11 := lookE hA11 15 (e6 rfl (et rfl))
    have l16_11 := lookE hA11 16 (e5 rfl (et rfl))
    have l17_11 := lookE hA11 17 (e4 rfl (et rfl))
    have l18_11 := lookE hA11 18 (e3 rfl (et rfl))
    have l19_11 := lookE hA11 19 (e2 rfl (et rfl))
    have l20_11 := lookE hA11 20 (es rfl (et rfl))
    have l21_11 := lookE hA11 21 (et rfl)
    clear hA11 hsz6 hdf6 l7_6 l0_6 l1_6 l2_6
    refine then_n (hK8 _ _ ?_)
    clear hK8
    refine cond_dec l21_11 (fun c12 => ?_) (fun c12 => ?_)
    · skip
      refine wp_skip ?_
      refine then_n (hK7 _ _ ?_)
      clear hK7
      refine wp_block ?_
      refine region_in ?_
      refine W_v rfl rfl (V_mov rfl l7_11) ?_
      refine W_v rfl rfl (V_add rfl (et rfl) rfl (by omega) (by omega)) ?_
      refine W_v rfl rfl (V_asg rfl (et rfl)) ?_
      refine W_end ?_
      refine gen_Q (fun A13 hA13 => ?_)
      have hsz13 := szq hA13
      have hdf13 : A13.defers = [] := by rw [hA13]; simp only [df_put]; exact hdf11
      have l0_13 := lookE hA13 0 (e2 rfl (es rfl l0_11))
      have l1_13 := lookE hA13 1 (e2 rfl (es rfl l1_11))
      have l2_13 := lookE hA13 2 (e2 rfl (es rfl l2_11))
      have l7_13 := lookE hA13 7 (et rfl)
      have l14_13 := lookE hA13 14 (e2 rfl (es rfl l14_11))
      have l15_13 := lookE hA13 15 (e2 rfl (es rfl l15_11))
      have l16_13 := lookE hA13 16 (e2 rfl (es rfl l16_11))
      have l17_13 := lookE hA13 17 (e2 rfl (es rfl l17_11))
      have l18_13 := lookE hA13 18 (e2 rfl (es rfl l18_11))
      have l19_13 := lookE hA13 19 (e2 rfl (es rfl l19_11))
      have l20_13 := lookE hA13 20 (e2 rfl (es rfl l20_11))
      clear hA13 hsz11 hdf11 l0_11 l1_11 l2_11 l7_11 l14_11 l15_11 l16_11 l17_11 l18_11 l19_11 l20_11 l21_11
      refine inb_n ?_
      refine then_n ⟨l.length - (k + 1), by simp only [hm6]; omega, hsz13, hdf13, (k + 1), rfl, (by omega), (lt_step hlt hy10 c12), ((l7_13).trans (by first | rfl | (simp; done) | (congr 1; omega))), ((l0_13).trans l0_4.symm), ((l1_13).trans l1_4.symm), ((l2_13).trans l2_4.symm), hS6⟩
    · skip
      refine wp_exit ?_
      refine then_exit ?_
      refine then_exit ?_
      refine inb_hit ?_
      refine then_n (hK5 _ _ ?_)
      clear hK5
      refine wp_seq_k (fun K14 hK14 => ?_)
      refine region_in ?_
      refine W_litS (vs := []) (xs := []) 2 hS6 rfl rfl rfl (parts0) rfl Try.underlying28 (by kernel_rfl) (by decide) (by intro v hv; cases hv) (by rfl) (fun g15 w15 c15 hc15 hS15 => ?_)
      replace hc15 : c15 = ro 2 rcC (.slice (some ⟨g15, 0, none⟩) 0 0) [] := hc15
      replace hS15 : St w NoX [c15] w15 := hS15
      refine W_v rfl rfl (V_mov rfl (es rfl l0_11)) ?_
      refine W_v rfl rfl (V_mov rfl (es rfl (es rfl l7_11))) ?_
      have k16 : 0 ≤ k := by omega
      have m16 : k ≤ l.length := by omega
      have f16 := Ro_partR rcC_len h_cv 0 k k16 m16
      replace f16 : Ro w NoX (rl 2 rcC (subS 2 cv 0 k) (l.take k)) := by rw [show (l.drop 0).take (k - 0) = (l.take k) by first | (simp; done) | exact List.take_of_length_le (by simp)] at f16; exact f16
      refine W_v rfl rfl (V_subS 2 (0) (k) rfl (es rfl (et rfl)) (.inl ⟨rfl, rfl⟩) (.inr ⟨_, _, rfl, (et rfl), by omega⟩) Try.underlying28 (by kernel_rfl) (sl_SlN h_cv.at) k16 m16) ?_
      refine W_appS 2 0 hS15 rfl hc15 rfl rfl rfl (e3 rfl (et rfl)) (et rfl) Try.underlying28 Try.underlying28 (z := .agg #[.int .i64 0, .int .i64 0]) (bytes := 16) (by kernel_rfl) rfl (by decide) (sl_SlN (hS15.ro f16)) (ones_r rcC_one) (by first | omega | (simp; done) | (simp; omega)) (by first | omega | (simp; done) | (simp; omega)) (fun v17 w17 c17 hc17 hS17 => ?_)
      replace hc17 : c17 = ro 2 rcC v17 (l.take k) := hc17.trans (app_eqR (by simp))
      replace hS17 : St w NoX [c17] w17 := hS17
      refine W_v rfl rfl (V_asg rfl (et rfl)) ?_
      refine W_end ?_
      refine gen_Q (fun A18 hA18 => ?_)
      have hsz18 := szq hA18
      have hdf18 : A18.defers = [] := by rw [hA18]; simp only [df_put]; exact hdf11
      have l0_18 := lookE hA18 0 (e5 rfl (es rfl l0_11))
      have l1_18 := lookE hA18 1 (e5 rfl (es rfl l1_11))
      have l2_18 := lookE hA18 2 (e5 rfl (es rfl l2_11))
      have l7_18 := lookE hA18 7 (e5 rfl (es rfl l7_11))
      have l8_18 := lookE hA18 8 (et rfl)
      clear hA18 hsz11 hdf11 l0_11 l1_11 l2_11 l7_11 l14_11 l15_11 l16_11 l17_11 l18_11 l19_11 l20_11 l21_11
      refine then_n (hK14 _ _ ?_)
      clear hK14
      refine wp_seq_k (fun K19 hK19 => ?_)
      refine wp_seq_k (fun K20 hK20 => ?_)
      refine region_in ?_
      refine W_v rfl rfl (V_mov rfl l7_18) ?_
      refine W_v rfl rfl (V_mov rfl (es rfl l0_18)) ?_
      refine W_v rfl rfl (V_lenS rfl (et rfl) (sl_SlN h_cv.at) Try.underlying28) ?_
      refine W_v rfl rfl (V_lss rfl (e2 rfl (et rfl)) (et rfl)) ?_
      refine W_sure (c' := true) rfl rfl (V_mov rfl (et rfl)) (by first | exact decide_eq_true (by omega) | exact decide_eq_false (by omega)) ?_
      refine W_v rfl (wanted_t rfl rfl (et rfl) (ez rfl)) (V_mov rfl (e4 rfl (es rfl l0_18))) ?_
      refine W_v rfl (wanted_t rfl rfl (es rfl (et rfl)) (ez rfl)) (V_mov rfl (e5 rfl (es rfl l7_18))) ?_
      refine W_v rfl (wanted_t rfl rfl (e2 rfl (et rfl)) (ez rfl)) (V_ixS (off := O10 + k * 2) 2 (k) rfl (es rfl (et rfl)) (et rfl) hv10 (by omega) k10 Try.underlying28 (by kernel_rfl) rfl) ?_
      refine W_v rfl (wanted_t rfl rfl (e3 rfl (et rfl)) (ez rfl)) (V_fa (off' := O10 + k * 2 + 0) rfl (et rfl) Try.underlying42 rfl (by decide +kernel) rfl) ?_
      refine W_r rfl (wanted_t rfl rfl (e4 rfl (et rfl)) (ez rfl)) (VR_ldC (v := .int .i64 (y10.1)) rfl (et rfl) (SlN.row rcC_len (sl_SlN (hS17.ro h_cv)) hv10 hy10 rfl 0 _ rfl) Try.underlying3 rfl) ?_
      refine W_v rfl (wanted_t rfl rfl (e5 rfl (et rfl)) (ez rfl)) (V_mov rfl (e9 rfl (es rfl l1_18))) ?_
      refine W_v rfl (wanted_t rfl rfl (e6 rfl (et rfl)) (ez rfl)) (V_eql rfl (es rfl (et rfl)) (et rfl)) ?_
      refine W_v rfl rfl (V_pickT rfl (e7 rfl (et rfl)) (et rfl)) ?_
      refine W_end ?_
      refine gen_Q (fun A22 hA22 => ?_)
      have hsz22 := szq hA22
      have hdf22 : A22.defers = [] := by rw [hA22]; simp only [df_put]; exact hdf18
      have l0_22 := lookE hA22 0 (e12 rfl (es rfl l0_18))
      have l1_22 := lookE hA22 1 (e12 rfl (es rfl l1_18))
      have l2_22 := lookE hA22 2 (e12 rfl (es rfl l2_18))
      have l7_22 := lookE hA22 7 (e12 rfl (es rfl l7_18))
      have l8_22 := lookE hA22 8 (e12 rfl (es rfl l8_18))
      have l41_22 := lookE hA22 41 (et rfl)
      clear hA22 hsz18 hdf18 l0_18 l1_18 l2_18 l7_18 l8_18
      refine then_n (hK20 _ _ ?_)
      clear hK20
      refine cond_dec l41_22 (fun c23 => ?_) (fun c23 => ?_)
      · skip
        refine wp_seq_k (fun K24 hK24 => ?_)
        refine region_in ?_
        refine W_v rfl rfl (V_mov rfl l8_22) ?_
        refine W_v rfl rfl (V_mov rfl (es rfl l1_22)) ?_
        refine W_v rfl rfl (V_mov rfl (es rfl (es rfl l0_22))) ?_
        refine W_v rfl rfl (V_mov rfl (e2 rfl (es rfl l7_22))) ?_
        refine W_v rfl rfl (V_ixS (off := O10 + k * 2) 2 (k) rfl (es rfl (et rfl)) (et rfl) hv10 (by omega) k10 Try.underlying28 (by kernel_rfl) rfl) ?_
        refine W_v rfl rfl (V_fa (off' := O10 + k * 2 + 1) rfl (et rfl) Try.underlying42 rfl (by decide +kernel) rfl) ?_
        refine W_r rfl rfl (VR_ldC (v := .int .i64 (y10.2)) rfl (et rfl) (SlN.row rcC_len (sl_SlN (hS17.ro h_cv)) hv10 hy10 rfl 1 _ rfl) Try.underlying3 rfl) ?_
        refine W_v rfl rfl (V_mov rfl (e6 rfl (es rfl l2_22))) ?_
        refine W_v rfl rfl (V_add rfl (es rfl (et rfl)) (et rfl) (by omega) (by omega)) ?_
        refine W_v rfl rfl (V_bldS (n := 2) (z := .agg #[.int .i64 0, .int .i64 0]) rfl (parts2 (e7 rfl (et rfl)) (et rfl)) (by kernel_rfl) (by simp only [List.all_cons, List.all_nil, Bool.and_true] <;> rfl) (by kernel_rfl) (by simp only [List.foldl_cons, List.foldl_nil, Value.cells, List.setIfInBounds_toArray, List.set_cons_succ, List.set_cons_zero] <;> rfl)) ?_
        have hll26 : [(t, (y10.2 + n))].length = 1 := rfl
        refine W_litS (vs := [.agg #[.int .i64 (t), .int .i64 ((y10.2 + n))]]) (xs := ([(t, (y10.2 + n))].flatMap rcC)) 2 hS17 rfl rfl rfl (parts1 (et rfl)) rfl Try.underlying28 (by kernel_rfl) (by decide) (by intro v hv; simp only [List.mem_cons, List.not_mem_nil, or_false] at hv; rcases hv with rfl <;> rfl) (by rfl) (fun g26 w26 c26 hc26 hS26 => ?_)
        replace hc26 : c26 = ro 2 rcC (.slice (some ⟨g26, 0, none⟩) 1 1) [(t, (y10.2 + n))] := hc26
        replace hS26 : St w NoX [c26, c17] w26 := hS26
        refine W_appS 2 1 hS26 rfl hc17 rfl rfl rfl (e10 rfl (et rfl)) (et rfl) Try.underlying28 Try.underlying28 (z := .agg #[.int .i64 0, .int .i64 0]) (bytes := 16) (by kernel_rfl) rfl (by decide) (ow_at (hS26.chq 0 rfl hc26)) (ones_r rcC_one) (by first | omega | (simp; done) | (simp; omega)) (by first | omega | (simp; done) | (simp; omega)) (fun v27 w27 c27 hc27 hS27 => ?_)
        replace hc27 : c27 = ro 2 rcC v27 ((l.take k) ++ [(t, (y10.2 + n))]) := hc27.trans (app_eqR (by simp))
        replace hS27 : St w NoX [c26, c27] w27 := hS27
        refine W_v rfl rfl (V_asg rfl (et rfl)) ?_
        refine W_end ?_
        refine gen_Q (fun A28 hA28 => ?_)
        have hsz28 := szq hA28
        have hdf28 : A28.defers = [] := by rw [hA28]; simp only [df_put]; exact hdf22
        have l0_28 := lookE hA28 0 (e12 rfl (es rfl l0_22))
        have l7_28 := lookE hA28 7 (e12 rfl (es rfl l7_22))
        have l8_28 := lookE hA28 8 (et rfl)
        clear hA28 hsz22 hdf22 l0_22 l1_22 l2_22 l7_22 l8_22 l41_22
        have hS29 : St w NoX [c27] w27 := hS27.sel [1] (by decide) rfl
        refine then_n (hK24 _ _ ?_)
        clear hK24
        refine wp_seq_k (fun K30 hK30 => ?_)
        refine region_in ?_
        refine W_v rfl rfl (V_mov rfl l8_28) ?_
        refine W_v rfl rfl (V_mov rfl (es rfl l0_28)) ?_
        refine W_v rfl rfl (V_mov rfl (es rfl (es rfl l7_28))) ?_
        refine W_v rfl rfl (V_add rfl (et rfl) rfl (by omega) (by omega)) ?_
        have k31 : (((k : Int) + 1)).toNat ≤ l.length := by omega
        have m31 : l.length ≤ l.length := by omega
        have f31 := Ro_partR rcC_len h_cv ((((k : Int) + 1)).toNat) l.length k31 m31
        replace f31 : Ro w NoX (rl 2 rcC (subS 2 cv ((((k : Int) + 1)).toNat) l.length) (l.drop ((((k : Int) + 1)).toNat))) := by rw [show (l.drop ((((k : Int) + 1)).toNat)).take (l.length - ((((k : Int) + 1)).toNat)) = (l.drop ((((k : Int) + 1)).toNat)) by first | (simp; done) | exact List.take_of_length_le (by simp)] at f31; exact f31
        refine W_v rfl rfl (V_subS 2 ((((k : Int) + 1)).toNat) (l.length) rfl (e2 rfl (et rfl)) (.inr ⟨_, _, rfl, (et rfl), by omega⟩) (.inl ⟨rfl, rfl⟩) Try.underlying28 (by kernel_rfl) (sl_SlN h_cv.at) k31 m31) ?_
        refine W_appS 2 0 hS29 rfl hc27 rfl rfl rfl (e4 rfl (et rfl)) (et rfl) Try.underlying28 Try.underlying28 (z := .agg #[.int .i64 0, .int .i64 0]) (bytes := 16) (by kernel_rfl) rfl (by decide) (sl_SlN (hS29.ro f31)) (ones_r rcC_one) (by first | omega | (simp; done) | (simp; omega)) (by first | omega | (simp; done) | (simp; omega)) (fun v32 w32 c32 hc32 hS32 => ?_)
        replace hc32 : c32 = ro 2 rcC v32 (((l.take k) ++ [(t, (y10.2 + n))]) ++ (l.drop ((((k : Int) + 1)).toNat))) := hc32.trans (app_eqR (by simp))
        replace hS32 : St w NoX [c32] w32 := hS32
        refine W_v rfl rfl (V_asg rfl (et rfl)) ?_
        refine W_end ?_
        refine gen_Q (fun A33 hA33 => ?_)
        have hsz33 := szq hA33
        have hdf33 : A33.defers = [] := by rw [hA33]; simp only [df_put]; exact hdf28
        have l6_33 := lookE hA33 6 (et rfl)
        clear hA33 hsz28 hdf28 l0_28 l7_28 l8_28
        refine then_n (hK30 _ _ ?_)
        clear hK30
        refine wp_ret ?_
        refine then_ret ?_
        refine ret_in (results_1 Try.results40 (rv_tmp l6_33)) hdf33 ?_
        -- leaf TFT
        exact ⟨_, rfl, (hS32.fin1 0 rfl (hc32.trans (congrArg (ro 2 rcC _) (plF_hit hlt hy10 (by omega)))))⟩
      · skip
        refine wp_skip ?_
        refine then_n (hK19 _ _ ?_)
        clear hK19
        refine wp_seq_k (fun K34 hK34 => ?_)
        refine region_in ?_
        refine W_v rfl rfl (V_mov rfl l8_22) ?_
        refine W_v rfl rfl (V_mov rfl (es rfl l1_22)) ?_
        refine W_v rfl rfl (V_mov rfl (es rfl (es rfl l2_22))) ?_
        refine W_v rfl rfl (V_bldS (n := 2) (z := .agg #[.int .i64 0, .int .i64 0]) rfl (parts2 (es rfl (et rfl)) (et rfl)) (by kernel_rfl) (by simp only [List.all_cons, List.all_nil, Bool.and_true] <;> rfl) (by kernel_rfl) (by simp only [List.foldl_cons, List.foldl_nil, Value.cells, List.setIfInBounds_toArray, List.set_cons_succ, List.set_cons_zero] <;> rfl)) ?_
        have hll35 : [(t, n)].length = 1 := rfl
        refine W_litS (vs := [.agg #[.int .i64 (t), .int .i64 (n)]]) (xs := ([(t, n)].flatMap rcC)) 2 hS17 rfl rfl rfl (parts1 (et rfl)) rfl Try.underlying28 (by kernel_rfl) (by decide) (by intro v hv; simp only [List.mem_cons, List.not_mem_nil, or_false] at hv; rcases hv with rfl <;> rfl) (by rfl) (fun g35 w35 c35 hc35 hS35 => ?_)
        replace hc35 : c35 = ro 2 rcC (.slice (some ⟨g35, 0, none⟩) 1 1) [(t, n)] := hc35
        replace hS35 : St w NoX [c35, c17] w35 := hS35
        refine W_appS 2 1 hS35 rfl hc17 rfl rfl rfl (e4 rfl (et rfl)) (et rfl) Try.underlying28 Try.underlying28 (z := .agg #[.int .i64 0, .int .i64 0]) (bytes := 16) (by kernel_rfl) rfl (by decide) (ow_at (hS35.chq 0 rfl hc35)) (ones_r rcC_one) (by first | omega | (simp; done) | (simp; omega)) (by first | omega | (simp; done) | (simp; omega)) (fun v36 w36 c36 hc36 hS36 => ?_)
        replace hc36 : c36 = ro 2 rcC v36 ((l.take k) ++ [(t, n)]) := hc36.trans (app_eqR (by simp))
        replace hS36 : St w NoX [c35, c36] w36 := hS36
        refine W_v rfl rfl (V_asg rfl (et rfl)) ?_
        refine W_end ?_
        refine gen_Q (fun A37 hA37 => ?_)
        have hsz37 := szq hA37
        have hdf37 : A37.defers = [] := by rw [hA37]; simp only [df_put]; exact hdf22
        have l0_37 := lookE hA37 0 (e6 rfl (es rfl l0_22))
        have l7_37 := lookE hA37 7 (e6 rfl (es rfl l7_22))
        have l8_37 := lookE hA37 8 (et rfl)
        clear hA37 hsz22 hdf22 l0_22 l1_22 l2_22 l7_22 l8_22 l41_22
        have hS38 : St w NoX [c36] w36 := hS36.sel [1] (by decide) rfl
        refine then_n (hK34 _ _ ?_)
        clear hK34
        refine wp_seq_k (fun K39 hK39 => ?_)
        refine region_in ?_
        refine W_v rfl rfl (V_mov rfl l8_37) ?_
        refine W_v rfl rfl (V_mov rfl (es rfl l0_37)) ?_
        refine W_v rfl rfl (V_mov rfl (es rfl (es rfl l7_37))) ?_
        have k40 : k ≤ l.length := by omega
        have m40 : l.length ≤ l.length := by omega
        have f40 := Ro_partR rcC_len h_cv k l.length k40 m40
        replace f40 : Ro w NoX (rl 2 rcC (subS 2 cv k l.length) (l.drop k)) := by rw [show (l.drop k).take (l.length - k) = (l.drop k) by first | (simp; done) | exact List.take_of_length_le (by simp)] at f40; exact f40
        refine W_v rfl rfl (V_subS 2 (k) (l.length) rfl (es rfl (et rfl)) (.inr ⟨_, _, rfl, (et rfl), by omega⟩) (.inl ⟨rfl, rfl⟩) Try.underlying28 (by kernel_rfl) (sl_SlN h_cv.at) k40 m40) ?_
        refine W_appS 2 0 hS38 rfl hc36 rfl rfl rfl (e3 rfl (et rfl)) (et rfl) Try.underlying28 Try.underlying28 (z := .agg #[.int .i64 0, .int .i64 0]) (bytes := 16) (by kernel_rfl) rfl (by decide) (sl_SlN (hS38.ro f40)) (ones_r rcC_one) (by first | omega | (simp; done) | (simp; omega)) (by first | omega | (simp; done) | (simp; omega)) (fun v41 w41 c41 hc41 hS41 => ?_)
        replace hc41 : c41 = ro 2 rcC v41 (((l.take k) ++ [(t, n)]) ++ (l.drop k)) := hc41.trans (app_eqR (by simp))
        replace hS41 : St w NoX [c41] w41 := hS41
        refine W_v rfl rfl (V_asg rfl (et rfl)) ?_
        refine W_end ?_
        refine gen_Q (fun A42 hA42 => ?_)
        have hsz42 := szq hA42
        have hdf42 : A42.defers = [] := by rw [hA42]; simp only [df_put]; exact hdf37
        have l6_42 := lookE hA42 6 (et rfl)
        clear hA42 hsz37 hdf37 l0_37 l7_37 l8_37
        refine then_n (hK39 _ _ ?_)
        clear hK39
        refine wp_ret ?_
        refine ret_in (results_1 Try.results40 (rv_tmp l6_42)) hdf42 ?_
        -- leaf TFF
        exact ⟨_, rfl, (hS41.fin1 0 rfl (hc41.trans (congrArg (ro 2 rcC _) (plF_ins hlt hk (fun y hy => by rw [hy10] at hy; cases hy; omega)))))⟩
  · skip
    refine W_off rfl (wanted_f rfl rfl (et rfl) (ez rfl) rfl) ?_
    refine W_off rfl (wanted_f rfl rfl (es rfl (et rfl)) (ez rfl) rfl) ?_
    refine W_off rfl (wanted_f rfl rfl (e2 rfl (et rfl)) (ez rfl) rfl) ?_
    refine W_off rfl (wanted_f rfl rfl (e3 rfl (et rfl)) (ez rfl) rfl) ?_
    refine W_off rfl (wanted_f rfl rfl (e4 rfl (et rfl)) (ez rfl) rfl) ?_
    refine W_off rfl (wanted_f rfl rfl (e5 rfl (et rfl)) (ez rfl) rfl) ?_
    refine W_off rfl (wanted_f rfl rfl (e6 rfl (et rfl)) (ez rfl) rfl) ?_
    refine W_v rfl rfl (V_pickF rfl (e7 rfl (et rfl)) rfl) ?_
    refine W_end ?_
    refine gen_Q (fun A43 hA43 => ?_)
    have hsz43 := szq hA43
    have hdf43 : A43.defers = [] := by rw [hA43]; simp only [df_put]; exact hdf6
    have l0_43 := lookE hA43 0 (e12 rfl (es rfl l0_6))
    have l1_43 := lookE hA43 1 (e12 rfl (es rfl l1_6))
    have l2_43 := lookE hA43 2 (e12 rfl (es rfl l2_6))
    have l7_43 := lookE hA43 7 (e12 rfl (es rfl l7_6))
    have l14_43 := lookE hA43 14 (e7 rfl (et rfl))
    have l15_43 := lookE hA43 15 (e6 rfl (et rfl))
    have l16_43 := lookE hA43 16 (e5 rfl (et rfl))
    have l17_43 := lookE hA43 17 (e4 rfl (et rfl))
    have l18_43 := lookE hA43 18 (e3 rfl (et rfl))
    have l19_43 := lookE hA43 19 (e2 rfl (et rfl))
    have l20_43 := lookE hA43 20 (es rfl (et rfl))
    have l21_43 := lookE hA43 21 (et rfl)
    clear hA43 hsz6 hdf6 l7_6 l0_6 l1_6 l2_6
    refine then_n (hK8 _ _ ?_)
    clear hK8
    refine cond_f l21_43 ?_
    refine wp_exit ?_
    refine then_exit ?_
    refine then_exit ?_
    refine inb_hit ?_
    refine then_n (hK5 _ _ ?_)
    clear hK5
    refine wp_seq_k (fun K44 hK44 => ?_)
    refine region_in ?_
    refine W_litS (vs := []) (xs := []) 2 hS6 rfl rfl rfl (parts0) rfl Try.underlying28 (by kernel_rfl) (by decide) (by intro v hv; cases hv) (by rfl) (fun g45 w45 c45 hc45 hS45 => ?_)
    replace hc45 : c45 = ro 2 rcC (.slice (some ⟨g45, 0, none⟩) 0 0) [] := hc45
    replace hS45 : St w NoX [c45] w45 := hS45
    refine W_v rfl rfl (V_mov rfl (es rfl l0_43)) ?_
    refine W_v rfl rfl (V_mov rfl (es rfl (es rfl l7_43))) ?_
    have k46 : 0 ≤ k := by omega
    have m46 : k ≤ l.length := by omega
    have f46 := Ro_partR rcC_len h_cv 0 k k46 m46
    replace f46 : Ro w NoX (rl 2 rcC (subS 2 cv 0 k) (l.take k)) := by rw [show (l.drop 0).take (k - 0) = (l.take k) by first | (simp; done) | exact List.take_of_length_le (by simp)] at f46; exact f46
    refine W_v rfl rfl (V_subS 2 (0) (k) rfl (es rfl (et rfl)) (.inl ⟨rfl, rfl⟩) (.inr ⟨_, _, rfl, (et rfl), by omega⟩) Try.underlying28 (by kernel_rfl) (sl_SlN h_cv.at) k46 m46) ?_
    refine W_appS 2 0 hS45 rfl hc45 rfl rfl rfl (e3 rfl (et rfl)) (et rfl) Try.underlying28 Try.underlying28 (z := .agg #[.int .i64 0, .int .i64 0]) (bytes := 16) (by kernel_rfl) rfl (by decide) (sl_SlN (hS45.ro f46)) (ones_r rcC_one) (by first | omega | (simp; done) | (simp; omega)) (by first | omega | (simp; done) | (simp; omega)) (fun v47 w47 c47 hc47 hS47 => ?_)
    replace hc47 : c47 = ro 2 rcC v47 (l.take k) := hc47.trans (app_eqR (by simp))
    replace hS47 : St w NoX [c47] w47 := hS47
    refine W_v rfl rfl (V_asg rfl (et rfl)) ?_
    refine W_end ?_
    refine gen_Q (fun A48 hA48 => ?_)
    have hsz48 := szq hA48
    have hdf48 : A48.defers = [] := by rw [hA48]; simp only [df_put]; exact hdf43
    have l0_48 := lookE hA48 0 (e5 rfl (es rfl l0_43))
    have l1_48 := lookE hA48 1 (e5 rfl (es rfl l1_43))
    have l2_48 := lookE hA48 2 (e5 rfl (es rfl l2_43))
    have l7_48 := lookE hA48 7 (e5 rfl (es rfl l7_43))
    have l8_48 := lookE hA48 8 (et rfl)
    clear hA48 hsz43 hdf43 l0_43 l1_43 l2_43 l7_43 l14_43 l15_43 l16_43 l17_43 l18_43 l19_43 l20_43 l21_43
    refine then_n (hK44 _ _ ?_)
    clear hK44
    refine wp_seq_k (fun K49 hK49 => ?_)
    refine wp_seq_k (fun K50 hK50 => ?_)
    refine region_in ?_
    refine W_v rfl rfl (V_mov rfl l7_48) ?_
    refine W_v rfl rfl (V_mov rfl (es rfl l0_48)) ?_
    refine W_v rfl rfl (V_lenS rfl (et rfl) (sl_SlN h_cv.at) Try.underlying28) ?_
    refine W_v rfl rfl (V_lss rfl (e2 rfl (et rfl)) (et rfl)) ?_
    refine W_sure (c' := false) rfl rfl (V_mov rfl (et rfl)) (by first | exact decide_eq_true (by omega) | exact decide_eq_false (by omega)) ?_
    refine W_off rfl (wanted_f rfl rfl (et rfl) (ez rfl) rfl) ?_
    refine W_off rfl (wanted_f rfl rfl (es rfl (et rfl)) (ez rfl) rfl) ?_
    refine W_off rfl (wanted_f rfl rfl (e2 rfl (et rfl)) (ez rfl) rfl) ?_
    refine W_off rfl (wanted_f rfl rfl (e3 rfl (et rfl)) (ez rfl) rfl) ?_
    refine W_off rfl (wanted_f rfl rfl (e4 rfl (et rfl)) (ez rfl) rfl) ?_
    refine W_off rfl (wanted_f rfl rfl (e5 rfl (et rfl)) (ez rfl) rfl) ?_
    refine W_off rfl (wanted_f rfl rfl (e6 rfl (et rfl)) (ez rfl) rfl) ?_
    refine W_v rfl rfl (V_pickF rfl (e7 rfl (et rfl)) rfl) ?_
    refine W_end ?_
    refine gen_Q (fun A51 hA51 => ?_)
    have hsz51 := szq hA51
    have hdf51 : A51.defers = [] := by rw [hA51]; simp only [df_put]; exact hdf48
    have l0_51 := lookE hA51 0 (e12 rfl (es rfl l0_48))
    have l1_51 := lookE hA51 1 (e12 rfl (es rfl l1_48))
    have l2_51 := lookE hA51 2 (e12 rfl (es rfl l2_48))
    have l7_51 := lookE hA51 7 (e12 rfl (es rfl l7_48))
    have l8_51 := lookE hA51 8 (e12 rfl (es rfl l8_48))
    have l41_51 := lookE hA51 41 (et rfl)
    clear hA51 hsz48 hdf48 l0_48 l1_48 l2_48 l7_48 l8_48
    refine then_n (hK50 _ _ ?_)
    clear hK50
    refine cond_f l41_51 ?_
    refine wp_skip ?_
    refine then_n (hK49 _ _ ?_)
    clear hK49
    refine wp_seq_k (fun K52 hK52 => ?_)
    refine region_in ?_
    refine W_v rfl rfl (V_mov rfl l8_51) ?_
    refine W_v rfl rfl (V_mov rfl (es rfl l1_51)) ?_
    refine W_v rfl rfl (V_mov rfl (es rfl (es rfl l2_51))) ?_
    refine W_v rfl rfl (V_bldS (n := 2) (z := .agg #[.int .i64 0, .int .i64 0]) rfl (parts2 (es rfl (et rfl)) (et rfl)) (by kernel_rfl) (by simp only [List.all_cons, List.all_nil, Bool.and_true] <;> rfl) (by kernel_rfl) (by simp only [List.foldl_cons, List.foldl_nil, Value.cells, List.setIfInBounds_toArray, List.set_cons_succ, List.set_cons_zero] <;> rfl)) ?_
    have hll53 : [(t, n)].length = 1 := rfl
    refine W_litS (vs := [.agg #[.int .i64 (t), .int .i64 (n)]]) (xs := ([(t, n)].flatMap rcC)) 2 hS47 rfl rfl rfl (parts1 (et rfl)) rfl Try.underlying28 (by kernel_rfl) (by decide) (by intro v hv; simp only [List.mem_cons, List.not_mem_nil, or_false] at hv; rcases hv with rfl <;> rfl) (by rfl) (fun g53 w53 c53 hc53 hS53 => ?_)
    replace hc53 : c53 = ro 2 rcC (.slice (some ⟨g53, 0, none⟩) 1 1) [(t, n)] := hc53
    replace hS53 : St w NoX [c53, c47] w53 := hS53
    refine W_appS 2 1 hS53 rfl hc47 rfl rfl rfl (e4 rfl (et rfl)) (et rfl) Try.underlying28 Try.underlying28 (z := .agg #[.int .i64 0, .int .i64 0]) (bytes := 16) (by kernel_rfl) rfl (by decide) (ow_at (hS53.chq 0 rfl hc53)) (ones_r rcC_one) (by first | omega | (simp; done) | (simp; omega)) (by first | omega | (simp; done) | (simp; omega)) (fun v54 w54 c54 hc54 hS54 => ?_)
    replace hc54 : c54 = ro 2 rcC v54 ((l.take k) ++ [(t, n)]) := hc54.trans (app_eqR (by simp))
    replace hS54 : St w NoX [c53, c54] w54 := hS54
    refine W_v rfl rfl (V_asg rfl (et rfl)) ?_
    refine W_end ?_
    refine gen_Q (fun A55 hA55 => ?_)
    have hsz55 := szq hA55
    have hdf55 : A55.defers = [] := by rw [hA55]; simp only [df_put]; exact hdf51
    have l0_55 := lookE hA55 0 (e6 rfl (es rfl l0_51))
    have l7_55 := lookE hA55 7 (e6 rfl (es rfl l7_51))
    have l8_55 := lookE hA55 8 (et rfl)
    clear hA55 hsz51 hdf51 l0_51 l1_51 l2_51 l7_51 l8_51 l41_51
    have hS56 : St w NoX [c54] w54 := hS54.sel [1] (by decide) rfl
    refine then_n (hK52 _ _ ?_)
    clear hK52
    refine wp_seq_k (fun K57 hK57 => ?_)
    refine region_in ?_
    refine W_v rfl rfl (V_mov rfl l8_55) ?_
    refine W_v rfl rfl (V_mov rfl (es rfl l0_55)) ?_
    refine W_v rfl rfl (V_mov rfl (es rfl (es rfl l7_55))) ?_
    have k58 : k ≤ l.length := by omega
    have m58 : l.length ≤ l.length := by omega
    have f58 := Ro_partR rcC_len h_cv k l.length k58 m58
    replace f58 : Ro w NoX (rl 2 rcC (subS 2 cv k l.length) (l.drop k)) := by rw [show (l.drop k).take (l.length - k) = (l.drop k) by first | (simp; done) | exact List.take_of_length_le (by simp)] at f58; exact f58
    refine W_v rfl rfl (V_subS 2 (k) (l.length) rfl (es rfl (et rfl)) (.inr ⟨_, _, rfl, (et rfl), by omega⟩) (.inl ⟨rfl, rfl⟩) Try.underlying28 (by kernel_rfl) (sl_SlN h_cv.at) k58 m58) ?_
    refine W_appS 2 0 hS56 rfl hc54 rfl rfl rfl (e3 rfl (et rfl)) (et rfl) Try.underlying28 Try.underlying28 (z := .agg #[.int .i64 0, .int .i64 0]) (bytes := 16) (by kernel_rfl) rfl (by decide) (sl_SlN (hS56.ro f58)) (ones_r rcC_one) (by first | omega | (simp; done) | (simp; omega)) (by first | omega | (simp; done) | (simp; omega)) (fun v59 w59 c59 hc59 hS59 => ?_)
    replace hc59 : c59 = ro 2 rcC v59 (((l.take k) ++ [(t, n)]) ++ (l.drop k)) := hc59.trans (app_eqR (by simp))
    replace hS59 : St w NoX [c59] w59 := hS59
    refine W_v rfl rfl (V_asg rfl (et rfl)) ?_
    refine W_end ?_
    refine gen_Q (fun A60 hA60 => ?_)
    have hsz60 := szq hA60
    have hdf60 : A60.defers = [] := by rw [hA60]; simp only [df_put]; exact hdf55
    have l6_60 := lookE hA60 6 (et rfl)
    clear hA60 hsz55 hdf55 l0_55 l7_55 l8_55
    refine then_n (hK57 _ _ ?_)
    clear hK57
    refine wp_ret ?_
    refine ret_in (results_1 Try.results40 (rv_tmp l6_60)) hdf60 ?_
    -- leaf F
    exact ⟨_, rfl, (hS59.fin1 0 rfl (hc59.trans (congrArg (ro 2 rcC _) (plF_ins hlt hk (fun y hy => by have := (List.getElem?_eq_some_iff.1 hy).1; omega)))))⟩

end Go.Proofs.Ytnfgeekaeegolaa