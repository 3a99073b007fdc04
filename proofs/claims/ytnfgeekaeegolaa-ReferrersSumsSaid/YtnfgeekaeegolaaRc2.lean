import Derived.Test.YtnfgeekaeegolaaProg
import Derived.Test.YtnfgeekaeegolaaRc1
namespace Go.Proofs.Ytnfgeekaeegolaa
open Go.RowKit Go.Own Go.Own.R Go.Own.S Go.Own.F


set_option maxHeartbeats 4000000 in
theorem far9_c {wv : Value} {ws : List Int} {cv : Value} {c : List Int} {w : World} (h_wv : Ro w NoX (il .u64 wv ws)) (h_cv : Ro w NoX (il .i64 cv c))  :
    Calls Try.prog 11 #[wv, .agg #[cv]] w fun e w' => e = .returned (.bool (decide ((700 < (ws.length : Int) ∧ (ws.length : Int) ≤ 1601) ∨ 1610 < (ws.length : Int) ∨ (300 < (c.length : Int) ∧ (c.length : Int) ≤ 8192) ∨ ((600 < c.length ∧ c.length ≤ 8192) ∨ 8200 < c.length)))) ∧ St w NoX [] w' := by
  refine calls_in 34 Try.func11 rfl rfl (by simp) (fun A0 hsz0 hdf0 hargs => ?_)
  have l0_0 := hargs 0 (wv) rfl
  have l1_0 := hargs 1 (.agg #[cv]) rfl
  clear hargs; replace hsz0 : SzN A0 34 := ⟨hsz0⟩
  have hS := St.nil w
  have bh_wv := SlN.le (sl_SlN h_wv.at)
  have bh_cv := SlN.le (sl_SlN h_cv.at)
  refine wp_seq_k (fun K1 hK1 => ?_)
  refine region_in ?_
  refine W_boxS (zs := #[cv]) hS rfl rfl rfl l1_0 (by rfl) (fun g2 w2 c2 hc2 hS2 => ?_)
  replace hS2 : St w NoX [c2] w2 := hS2
  refine W_v rfl rfl (V_asg rfl rfl) ?_
  refine W_end ?_
  refine gen_Q (fun A3 hA3 => ?_)
  have hsz3 := szq hA3
  have hdf3 : A3.defers = [] := by rw [hA3]; simp only [df_put]; exact hdf0
  have l0_3 := lookE hA3 0 (es rfl (es rfl l0_0))
  have l3_3 := lookE hA3 3 (es rfl (et rfl))
  clear hA3 hsz0 hdf0 l0_0 l1_0
  refine then_n (hK1 _ _ ?_)
  clear hK1
  refine wp_seq_k (fun K4 hK4 => ?_)
  refine region_in ?_
  refine W_v rfl rfl (V_mov rfl l0_3) ?_
  refine W_v rfl rfl (V_lenS rfl (et rfl) (sl_SlN h_wv.at) Try.underlying22) ?_
  refine W_v rfl rfl (V_gtr rfl (et rfl) rfl) ?_
  refine W_split rfl rfl (V_mov rfl (et rfl)) (fun c5 => ?_) (fun c5 => ?_)
  · skip
    refine W_v rfl (wanted_t rfl rfl (et rfl) (ez rfl)) (V_mov rfl (e3 rfl (es rfl l0_3))) ?_
    refine W_v rfl (wanted_t rfl rfl (es rfl (et rfl)) (ez rfl)) (V_lenS rfl (et rfl) (sl_SlN h_wv.at) Try.underlying22) ?_
    refine W_v rfl (wanted_t rfl rfl (e2 rfl (et rfl)) (ez rfl)) (V_leq rfl (et rfl) rfl) ?_
    refine W_v rfl rfl (V_pickT rfl (e3 rfl (et rfl)) (et rfl)) ?_
    refine W_split rfl rfl (V_mov rfl (et rfl)) (fun c6 => ?_) (fun c6 => ?_)
    · skip
      refine W_off rfl (wanted_f rfl rfl (et rfl) (ez rfl) rfl) ?_
      refine W_off rfl (wanted_f rfl rfl (es rfl (et rfl)) (ez rfl) rfl) ?_
      refine W_off rfl (wanted_f rfl rfl (e2 rfl (et rfl)) (ez rfl) rfl) ?_
      refine W_v rfl rfl (V_pickT rfl (e3 rfl (et rfl)) rfl) ?_
      refine W_v rfl rfl (V_mov rfl (et rfl)) ?_
      refine W_off rfl (wanted_f rfl rfl (et rfl) (ez rfl) rfl) ?_
      refine W_off rfl (wanted_f rfl rfl (es rfl (et rfl)) (ez rfl) rfl) ?_
      refine W_off rfl (wanted_f rfl rfl (e2 rfl (et rfl)) (ez rfl) rfl) ?_
      refine W_off rfl (wanted_f rfl rfl (e3 rfl (et rfl)) (ez rfl) rfl) ?_
      refine W_off rfl (wanted_f rfl rfl (e4 rfl (et rfl)) (ez rfl) rfl) ?_
      refine W_off rfl (wanted_u rfl rfl (et rfl) (ez rfl)) ?_
      refine W_off rfl (wanted_u rfl rfl (es rfl (et rfl)) (ez rfl)) ?_
      refine W_off rfl (wanted_u rfl rfl (e2 rfl (et rfl)) (ez rfl)) ?_
      refine W_off rfl (wanted_u rfl rfl (e3 rfl (et rfl)) (ez rfl)) ?_
      refine W_off rfl (wanted_f rfl rfl (e9 rfl (et rfl)) (ez rfl) rfl) ?_
      refine W_v rfl rfl (V_pickT rfl (e10 rfl (et rfl)) rfl) ?_
      refine W_v rfl rfl (V_mov rfl (et rfl)) ?_
      refine W_off rfl (wanted_f rfl rfl (et rfl) (ez rfl) rfl) ?_
      refine W_off rfl (wanted_f rfl rfl (es rfl (et rfl)) (ez rfl) rfl) ?_
      refine W_v rfl rfl (V_pickT rfl (e2 rfl (et rfl)) rfl) ?_
      refine W_v rfl rfl (V_asg rfl (et rfl)) ?_
      refine W_end ?_
      refine gen_Q (fun A7 hA7 => ?_)
      have hsz7 := szq hA7
      have hdf7 : A7.defers = [] := by rw [hA7]; simp only [df_put]; exact hdf3
      have l4_7 := lookE hA7 4 (et rfl)
      clear hA7 hsz3 hdf3 l0_3 l3_3
      have hS8 : St w NoX [] w2 := hS2.sel [] (by decide) rfl
      refine then_n (hK4 _ _ ?_)
      clear hK4
      refine wp_ret ?_
      refine ret_in (results_1 Try.results11 (rv_tmp l4_7)) hdf7 ?_
      -- leaf TT
      rw [show (decide ((700 < (ws.length : Int) ∧ (ws.length : Int) ≤ 1601) ∨ 1610 < (ws.length : Int) ∨ (300 < (c.length : Int) ∧ (c.length : Int) ≤ 8192) ∨ ((600 < c.length ∧ c.length ≤ 8192) ∨ 8200 < c.length))) = true by exact decide_eq_true (by omega)]
      exact ⟨rfl, hS8.fin0⟩
    · skip
      refine W_v rfl (wanted_t rfl rfl (et rfl) (ez rfl)) (V_mov rfl (e8 rfl (es rfl l0_3))) ?_
      refine W_v rfl (wanted_t rfl rfl (es rfl (et rfl)) (ez rfl)) (V_lenS rfl (et rfl) (sl_SlN h_wv.at) Try.underlying22) ?_
      refine W_v rfl (wanted_t rfl rfl (e2 rfl (et rfl)) (ez rfl)) (V_gtr rfl (et rfl) rfl) ?_
      refine W_v rfl rfl (V_pickF rfl (e3 rfl (et rfl)) (et rfl)) ?_
      refine W_split rfl rfl (V_mov rfl (et rfl)) (fun c9 => ?_) (fun c9 => ?_)
      · skip
        refine W_off rfl (wanted_f rfl rfl (et rfl) (ez rfl) rfl) ?_
        refine W_off rfl (wanted_f rfl rfl (es rfl (et rfl)) (ez rfl) rfl) ?_
        refine W_off rfl (wanted_f rfl rfl (e2 rfl (et rfl)) (ez rfl) rfl) ?_
        refine W_off rfl (wanted_f rfl rfl (e3 rfl (et rfl)) (ez rfl) rfl) ?_
        refine W_off rfl (wanted_f rfl rfl (e4 rfl (et rfl)) (ez rfl) rfl) ?_
        refine W_off rfl (wanted_u rfl rfl (et rfl) (ez rfl)) ?_
        refine W_off rfl (wanted_u rfl rfl (es rfl (et rfl)) (ez rfl)) ?_
        refine W_off rfl (wanted_u rfl rfl (e2 rfl (et rfl)) (ez rfl)) ?_
        refine W_off rfl (wanted_u rfl rfl (e3 rfl (et rfl)) (ez rfl)) ?_
        refine W_off rfl (wanted_f rfl rfl (e9 rfl (et rfl)) (ez rfl) rfl) ?_
        refine W_v rfl rfl (V_pickT rfl (e10 rfl (et rfl)) rfl) ?_
        refine W_v rfl rfl (V_mov rfl (et rfl)) ?_
        refine W_off rfl (wanted_f rfl rfl (et rfl) (ez rfl) rfl) ?_
        refine W_off rfl (wanted_f rfl rfl (es rfl (et rfl)) (ez rfl) rfl) ?_
        refine W_v rfl rfl (V_pickT rfl (e2 rfl (et rfl)) rfl) ?_
        refine W_v rfl rfl (V_asg rfl (et rfl)) ?_
        refine W_end ?_
        refine gen_Q (fun A10 hA10 => ?_)
        have hsz10 := szq hA10
        have hdf10 : A10.defers = [] := by rw [hA10]; simp only [df_put]; exact hdf3
        have l4_10 := lookE hA10 4 (et rfl)
        clear hA10 hsz3 hdf3 l0_3 l3_3
        have hS11 : St w NoX [] w2 := hS2.sel [] (by decide) rfl
        refine then_n (hK4 _ _ ?_)
        clear hK4
        refine wp_ret ?_
        refine ret_in (results_1 Try.results11 (rv_tmp l4_10)) hdf10 ?_
        -- leaf TFT
        rw [show (decide ((700 < (ws.length : Int) ∧ (ws.length : Int) ≤ 1601) ∨ 1610 < (ws.length : Int) ∨ (300 < (c.length : Int) ∧ (c.length : Int) ≤ 8192) ∨ ((600 < c.length ∧ c.length ≤ 8192) ∨ 8200 < c.length))) = true by exact decide_eq_true (by omega)]
        exact ⟨rfl, hS11.fin0⟩
      · skip
        refine W_v rfl (wanted_t rfl rfl (et rfl) (ez rfl)) (V_fa (off' := 0) rfl (e13 rfl (es rfl l3_3)) Try.underlying25 rfl (by decide +kernel) rfl) ?_
        refine W_r rfl (wanted_t rfl rfl (es rfl (et rfl)) (ez rfl)) (VR_ldC rfl (et rfl) (cell_box (v := cv) (hS2.obj 0 rfl hc2) rfl) Try.underlying23 rfl) ?_
        refine W_v rfl (wanted_t rfl rfl (e2 rfl (et rfl)) (ez rfl)) (V_lenS rfl (et rfl) (sl_SlN h_cv.at) Try.underlying23) ?_
        refine W_v rfl (wanted_t rfl rfl (e3 rfl (et rfl)) (ez rfl)) (V_gtr rfl (et rfl) rfl) ?_
        refine W_split rfl (wanted_t rfl rfl (e4 rfl (et rfl)) (ez rfl)) (V_mov rfl (et rfl)) (fun c12 => ?_) (fun c12 => ?_)
        · skip
          refine W_v rfl (wanted_t rfl rfl (et rfl) (ez rfl)) (V_fa (off' := 0) rfl (e18 rfl (es rfl l3_3)) Try.underlying25 rfl (by decide +kernel) rfl) ?_
          refine W_r rfl (wanted_t rfl rfl (es rfl (et rfl)) (ez rfl)) (VR_ldC rfl (et rfl) (cell_box (v := cv) (hS2.obj 0 rfl hc2) rfl) Try.underlying23 rfl) ?_
          refine W_v rfl (wanted_t rfl rfl (e2 rfl (et rfl)) (ez rfl)) (V_lenS rfl (et rfl) (sl_SlN h_cv.at) Try.underlying23) ?_
          refine W_v rfl (wanted_t rfl rfl (e3 rfl (et rfl)) (ez rfl)) (V_leq rfl (et rfl) rfl) ?_
          refine W_v rfl (wanted_t rfl rfl (e9 rfl (et rfl)) (ez rfl)) (V_pickT rfl (e4 rfl (et rfl)) (et rfl)) ?_
          refine W_v rfl rfl (V_pickF rfl (e10 rfl (et rfl)) (et rfl)) ?_
          refine W_split rfl rfl (V_mov rfl (et rfl)) (fun c13 => ?_) (fun c13 => ?_)
          · skip
            refine W_off rfl (wanted_f rfl rfl (et rfl) (ez rfl) rfl) ?_
            refine W_off rfl (wanted_f rfl rfl (es rfl (et rfl)) (ez rfl) rfl) ?_
            refine W_v rfl rfl (V_pickT rfl (e2 rfl (et rfl)) rfl) ?_
            refine W_v rfl rfl (V_asg rfl (et rfl)) ?_
            refine W_end ?_
            refine gen_Q (fun A14 hA14 => ?_)
            have hsz14 := szq hA14
            have hdf14 : A14.defers = [] := by rw [hA14]; simp only [df_put]; exact hdf3
            have l4_14 := lookE hA14 4 (et rfl)
            clear hA14 hsz3 hdf3 l0_3 l3_3
            have hS15 : St w NoX [] w2 := hS2.sel [] (by decide) rfl
            refine then_n (hK4 _ _ ?_)
            clear hK4
            refine wp_ret ?_
            refine ret_in (results_1 Try.results11 (rv_tmp l4_14)) hdf14 ?_
            -- leaf TFFTT
            rw [show (decide ((700 < (ws.length : Int) ∧ (ws.length : Int) ≤ 1601) ∨ 1610 < (ws.length : Int) ∨ (300 < (c.length : Int) ∧ (c.length : Int) ≤ 8192) ∨ ((600 < c.length ∧ c.length ≤ 8192) ∨ 8200 < c.length))) = true by exact decide_eq_true (by omega)]
            exact ⟨rfl, hS15.fin0⟩
          · skip
            refine W_r rfl (wanted_t rfl rfl (et rfl) (ez rfl)) (VR_ldA rfl (e25 rfl (es rfl l3_3)) (hS2.obj 0 rfl hc2) Try.underlying25 rfl (by kernel_rfl)) ?_
            refine W_call rfl (wanted_t rfl rfl (es rfl (et rfl)) (ez rfl)) rfl Try.func35 (by kernel_rfl) rfl (args1 (et rfl)) (far_c (hS2.roC h_cv) ) ?_
            rintro _ w16 ⟨rfl, hP16⟩
            refine ⟨_, rfl, ?_⟩
            have hS16 := hS2.join hP16
            replace hS16 : St w NoX [c2] w16 := hS16
            refine W_v rfl rfl (V_pickF rfl (e2 rfl (et rfl)) (et rfl)) ?_
            refine W_v rfl rfl (V_asg rfl (et rfl)) ?_
            refine W_end ?_
            refine gen_Q (fun A17 hA17 => ?_)
            have hsz17 := szq hA17
            have hdf17 : A17.defers = [] := by rw [hA17]; simp only [df_put]; exact hdf3
            have l4_17 := lookE hA17 4 (et rfl)
            clear hA17 hsz3 hdf3 l0_3 l3_3
            have hS18 : St w NoX [] w16 := hS16.sel [] (by decide) rfl
            refine then_n (hK4 _ _ ?_)
            clear hK4
            refine wp_ret ?_
            refine ret_in (results_1 Try.results11 (rv_tmp l4_17)) hdf17 ?_
            -- leaf TFFTF
            rw [show (decide ((700 < (ws.length : Int) ∧ (ws.length : Int) ≤ 1601) ∨ 1610 < (ws.length : Int) ∨ (300 < (c.length : Int) ∧ (c.length : Int) ≤ 8192) ∨ ((600 < c.length ∧ c.length ≤ 8192) ∨ 8200 < c.length))) = decide ((600 < c.length ∧ c.length ≤ 8192) ∨ 8200 < c.length) by exact decide_eq_decide.2 (by omega)]
            exact ⟨rfl, hS18.fin0⟩
        · skip
          refine W_off rfl (wanted_f rfl rfl (et rfl) (ez rfl) rfl) ?_
          refine W_off rfl (wanted_f rfl rfl (es rfl (et rfl)) (ez rfl) rfl) ?_
          refine W_off rfl (wanted_f rfl rfl (e2 rfl (et rfl)) (ez rfl) rfl) ?_
          refine W_off rfl (wanted_f rfl rfl (e3 rfl (et rfl)) (ez rfl) rfl) ?_
          refine W_v rfl (wanted_t rfl rfl (e9 rfl (et rfl)) (ez rfl)) (V_pickF rfl (e4 rfl (et rfl)) rfl) ?_
          refine W_v rfl rfl (V_pickF rfl (e10 rfl (et rfl)) (et rfl)) ?_
          refine W_v rfl rfl (V_mov rfl (et rfl)) ?_
          refine W_r rfl (wanted_t rfl rfl (et rfl) (ez rfl)) (VR_ldA rfl (e25 rfl (es rfl l3_3)) (hS2.obj 0 rfl hc2) Try.underlying25 rfl (by kernel_rfl)) ?_
          refine W_call rfl (wanted_t rfl rfl (es rfl (et rfl)) (ez rfl)) rfl Try.func35 (by kernel_rfl) rfl (args1 (et rfl)) (far_c (hS2.roC h_cv) ) ?_
          rintro _ w19 ⟨rfl, hP19⟩
          refine ⟨_, rfl, ?_⟩
          have hS19 := hS2.join hP19
          replace hS19 : St w NoX [c2] w19 := hS19
          refine W_v rfl rfl (V_pickF rfl (e2 rfl (et rfl)) (et rfl)) ?_
          refine W_v rfl rfl (V_asg rfl (et rfl)) ?_
          refine W_end ?_
          refine gen_Q (fun A20 hA20 => ?_)
          have hsz20 := szq hA20
          have hdf20 : A20.defers = [] := by rw [hA20]; simp only [df_put]; exact hdf3
          have l4_20 := lookE hA20 4 (et rfl)
          clear hA20 hsz3 hdf3 l0_3 l3_3
          have hS21 : St w NoX [] w19 := hS19.sel [] (by decide) rfl
          refine then_n (hK4 _ _ ?_)
          clear hK4
          refine wp_ret ?_
          refine ret_in (results_1 Try.results11 (rv_tmp l4_20)) hdf20 ?_
          -- leaf TFFF
          rw [show (decide ((700 < (ws.length : Int) ∧ (ws.length : Int) ≤ 1601) ∨ 1610 < (ws.length : Int) ∨ (300 < (c.length : Int) ∧ (c.length : Int) ≤ 8192) ∨ ((600 < c.length ∧ c.length ≤ 8192) ∨ 8200 < c.length))) = decide ((600 < c.length ∧ c.length ≤ 8192) ∨ 8200 < c.length) by exact decide_eq_decide.2 (by omega)]
          exact ⟨rfl, hS21.fin0⟩
  · skip
    refine W_off rfl (wanted_f rfl rfl (et rfl) (ez rfl) rfl) ?_
    refine W_off rfl (wanted_f rfl rfl (es rfl (et rfl)) (ez rfl) rfl) ?_
    refine W_off rfl (wanted_f rfl rfl (e2 rfl (et rfl)) (ez rfl) rfl) ?_
    refine W_v rfl rfl (V_pickF rfl (e3 rfl (et rfl)) rfl) ?_
    refine W_v rfl rfl (V_mov rfl (et rfl)) ?_
    refine W_v rfl (wanted_t rfl rfl (et rfl) (ez rfl)) (V_mov rfl (e8 rfl (es rfl l0_3))) ?_
    refine W_v rfl (wanted_t rfl rfl (es rfl (et rfl)) (ez rfl)) (V_lenS rfl (et rfl) (sl_SlN h_wv.at) Try.underlying22) ?_
    refine W_v rfl (wanted_t rfl rfl (e2 rfl (et rfl)) (ez rfl)) (V_gtr rfl (et rfl) rfl) ?_
    refine W_v rfl rfl (V_pickF rfl (e3 rfl (et rfl)) (et rfl)) ?_
    refine W_split rfl rfl (V_mov rfl (et rfl)) (fun c22 => ?_) (fun c22 => ?_)
    · skip
      refine W_off rfl (wanted_f rfl rfl (et rfl) (ez rfl) rfl) ?_
      refine W_off rfl (wanted_f rfl rfl (es rfl (et rfl)) (ez rfl) rfl) ?_
      refine W_off rfl (wanted_f rfl rfl (e2 rfl (et rfl)) (ez rfl) rfl) ?_
      refine W_off rfl (wanted_f rfl rfl (e3 rfl (et rfl)) (ez rfl) rfl) ?_
      refine W_off rfl (wanted_f rfl rfl (e4 rfl (et rfl)) (ez rfl) rfl) ?_
      refine W_off rfl (wanted_u rfl rfl (et rfl) (ez rfl)) ?_
      refine W_off rfl (wanted_u rfl rfl (es rfl (et rfl)) (ez rfl)) ?_
      refine W_off rfl (wanted_u rfl rfl (e2 rfl (et rfl)) (ez rfl)) ?_
      refine W_off rfl (wanted_u rfl rfl (e3 rfl (et rfl)) (ez rfl)) ?_
      refine W_off rfl (wanted_f rfl rfl (e9 rfl (et rfl)) (ez rfl) rfl) ?_
      refine W_v rfl rfl (V_pickT rfl (e10 rfl (et rfl)) rfl) ?_
      refine W_v rfl rfl (V_mov rfl (et rfl)) ?_
      refine W_off rfl (wanted_f rfl rfl (et rfl) (ez rfl) rfl) ?_
      refine W_off rfl (wanted_f rfl rfl (es rfl (et rfl)) (ez rfl) rfl) ?_
      refine W_v rfl rfl (V_pickT rfl (e2 rfl (et rfl)) rfl) ?_
      refine W_v rfl rfl (V_asg rfl (et rfl)) ?_
      refine W_end ?_
      refine gen_Q (fun A23 hA23 => ?_)
      have hsz23 := szq hA23
      have hdf23 : A23.defers = [] := by rw [hA23]; simp only [df_put]; exact hdf3
      have l4_23 := lookE hA23 4 (et rfl)
      clear hA23 hsz3 hdf3 l0_3 l3_3
      have hS24 : St w NoX [] w2 := hS2.sel [] (by decide) rfl
      refine then_n (hK4 _ _ ?_)
      clear hK4
      refine wp_ret ?_
      refine ret_in (results_1 Try.results11 (rv_tmp l4_23)) hdf23 ?_
      -- leaf FT
      rw [show (decide ((700 < (ws.length : Int) ∧ (ws.length : Int) ≤ 1601) ∨ 1610 < (ws.length : Int) ∨ (300 < (c.length : Int) ∧ (c.length : Int) ≤ 8192) ∨ ((600 < c.length ∧ c.length ≤ 8192) ∨ 8200 < c.length))) = true by exact decide_eq_true (by omega)]
      exact ⟨rfl, hS24.fin0⟩
    · skip
      refine W_v rfl (wanted_t rfl rfl (et rfl) (ez rfl)) (V_fa (off' := 0) rfl (e13 rfl (es rfl l3_3)) Try.underlying25 rfl (by decide +kernel) rfl) ?_
      refine W_r rfl (wanted_t rfl rfl (es rfl (et rfl)) (ez rfl)) (VR_ldC rfl (et rfl) (cell_box (v := cv) (hS2.obj 0 rfl hc2) rfl) Try.underlying23 rfl) ?_
      refine W_v rfl (wanted_t rfl rfl (e2 rfl (et rfl)) (ez rfl)) (V_lenS rfl (et rfl) (sl_SlN h_cv.at) Try.underlying23) ?_
      refine W_v rfl (wanted_t rfl rfl (e3 rfl (et rfl)) (ez rfl)) (V_gtr rfl (et rfl) rfl) ?_
      refine W_split rfl (wanted_t rfl rfl (e4 rfl (et rfl)) (ez rfl)) (V_mov rfl (et rfl)) (fun c25 => ?_) (fun c25 => ?_)
      · skip
        refine W_v rfl (wanted_t rfl rfl (et rfl) (ez rfl)) (V_fa (off' := 0) rfl (e18 rfl (es rfl l3_3)) Try.underlying25 rfl (by decide +kernel) rfl) ?_
        refine W_r rfl (wanted_t rfl rfl (es rfl (et rfl)) (ez rfl)) (VR_ldC rfl (et rfl) (cell_box (v := cv) (hS2.obj 0 rfl hc2) rfl) Try.underlying23 rfl) ?_
        refine W_v rfl (wanted_t rfl rfl (e2 rfl (et rfl)) (ez rfl)) (V_lenS rfl (et rfl) (sl_SlN h_cv.at) Try.underlying23) ?_
        refine W_v rfl (wanted_t rfl rfl (e3 rfl (et rfl)) (ez rfl)) (V_leq rfl (et rfl) rfl) ?_
        refine W_v rfl (wanted_t rfl rfl (e9 rfl (et rfl)) (ez rfl)) (V_pickT rfl (e4 rfl (et rfl)) (et rfl)) ?_
        refine W_v rfl rfl (V_pickF rfl (e10 rfl (et rfl)) (et rfl)) ?_
        refine W_split rfl rfl (V_mov rfl (et rfl)) (fun c26 => ?_) (fun c26 => ?_)
        · skip
          refine W_off rfl (wanted_f rfl rfl (et rfl) (ez rfl) rfl) ?_
          refine W_off rfl (wanted_f rfl rfl (es rfl (et rfl)) (ez rfl) rfl) ?_
          refine W_v rfl rfl (V_pickT rfl (e2 rfl (et rfl)) rfl) ?_
          refine W_v rfl rfl (V_asg rfl (et rfl)) ?_
          refine W_end ?_
          refine gen_Q (fun A27 hA27 => ?_)
          have hsz27 := szq hA27
          have hdf27 : A27.defers = [] := by rw [hA27]; simp only [df_put]; exact hdf3
          have l4_27 := lookE hA27 4 (et rfl)
          clear hA27 hsz3 hdf3 l0_3 l3_3
          have hS28 : St w NoX [] w2 := hS2.sel [] (by decide) rfl
          refine then_n (hK4 _ _ ?_)
          clear hK4
          refine wp_ret ?_
          refine ret_in (results_1 Try.results11 (rv_tmp l4_27)) hdf27 ?_
          -- leaf FFTT
          rw [show (decide ((700 < (ws.length : Int) ∧ (ws.length : Int) ≤ 1601) ∨ 1610 < (ws.length : Int) ∨ (300 < (c.length : Int) ∧ (c.length : Int) ≤ 8192) ∨ ((600 < c.length ∧ c.length ≤ 8192) ∨ 8200 < c.length))) = true by exact decide_eq_true (by omega)]
          exact ⟨rfl, hS28.fin0⟩
        · skip
          refine W_r rfl (wanted_t rfl rfl (et rfl) (ez rfl)) (VR_ldA rfl (e25 rfl (es rfl l3_3)) (hS2.obj 0 rfl hc2) Try.underlying25 rfl (by kernel_rfl)) ?_
          refine W_call rfl (wanted_t rfl rfl (es rfl (et rfl)) (ez rfl)) rfl Try.func35 (by kernel_rfl) rfl (args1 (et rfl)) (far_c (hS2.roC h_cv) ) ?_
          rintro _ w29 ⟨rfl, hP29⟩
          refine ⟨_, rfl, ?_⟩
          have hS29 := hS2.join hP29
          replace hS29 : St w NoX [c2] w29 := hS29
          refine W_v rfl rfl (V_pickF rfl (e2 rfl (et rfl)) (et rfl)) ?_
          refine W_v rfl rfl (V_asg rfl (et rfl)) ?_
          refine W_end ?_
          refine gen_Q (fun A30 hA30 => ?_)
          have hsz30 := szq hA30
          have hdf30 : A30.defers = [] := by rw [hA30]; simp only [df_put]; exact hdf3
          have l4_30 := lookE hA30 4 (et rfl)
          clear hA30 hsz3 hdf3 l0_3 l3_3
          have hS31 : St w NoX [] w29 := hS29.sel [] (by decide) rfl
          refine then_n (hK4 _ _ ?_)
          clear hK4
          refine wp_ret ?_
          refine ret_in (results_1 Try.results11 (rv_tmp l4_30)) hdf30 ?_
          -- leaf FFTF
          rw [show (decide ((700 < (ws.length : Int) ∧ (ws.length : Int) ≤ 1601) ∨ 1610 < (ws.length : Int) ∨ (300 < (c.length : Int) ∧ (c.length : Int) ≤ 8192) ∨ ((600 < c.length ∧ c.length ≤ 8192) ∨ 8200 < c.length))) = decide ((600 < c.length ∧ c.length ≤ 8192) ∨ 8200 < c.length) by exact decide_eq_decide.2 (by omega)]
          exact ⟨rfl, hS31.fin0⟩
      · skip
        refine W_off rfl (wanted_f rfl rfl (et rfl) (ez rfl) rfl) ?_
        refine W_off rfl (wanted_f rfl rfl (es rfl (et rfl)) (ez rfl) rfl) ?_
        refine W_off rfl (wanted_f rfl rfl (e2 rfl (et rfl)) (ez rfl) rfl) ?_
        refine W_off rfl (wanted_f rfl rfl (e3 rfl (et rfl)) (ez rfl) rfl) ?_
        refine W_v rfl (wanted_t rfl rfl (e9 rfl (et rfl)) (ez rfl)) (V_pickF rfl (e4 rfl (et rfl)) rfl) ?_
        refine W_v rfl rfl (V_pickF rfl (e10 rfl (et rfl)) (et rfl)) ?_
        refine W_v rfl rfl (V_mov rfl (et rfl)) ?_
        refine W_r rfl (wanted_t rfl rfl (et rfl) (ez rfl)) (VR_ldA rfl (e25 rfl (es rfl l3_3)) (hS2.obj 0 rfl hc2) Try.underlying25 rfl (by kernel_rfl)) ?_
        refine W_call rfl (wanted_t rfl rfl (es rfl (et rfl)) (ez rfl)) rfl Try.func35 (by kernel_rfl) rfl (args1 (et rfl)) (far_c (hS2.roC h_cv) ) ?_
        rintro _ w32 ⟨rfl, hP32⟩
        refine ⟨_, rfl, ?_⟩
        have hS32 := hS2.join hP32
        replace hS32 : St w NoX [c2] w32 := hS32
        refine W_v rfl rfl (V_pickF rfl (e2 rfl (et rfl)) (et rfl)) ?_
        refine W_v rfl rfl (V_asg rfl (et rfl)) ?_
        refine W_end ?_
        refine gen_Q (fun A33 hA33 => ?_)
        have hsz33 := szq hA33
        have hdf33 : A33.defers = [] := by rw [hA33]; simp only [df_put]; exact hdf3
        have l4_33 := lookE hA33 4 (et rfl)
        clear hA33 hsz3 hdf3 l0_3 l3_3
        have hS34 : St w NoX [] w32 := hS32.sel [] (by decide) rfl
        refine then_n (hK4 _ _ ?_)
        clear hK4
        refine wp_ret ?_
        refine ret_in (results_1 Try.results11 (rv_tmp l4_33)) hdf33 ?_
        -- leaf FFF
        rw [show (decide ((700 < (ws.length : Int) ∧ (ws.length : Int) ≤ 1601) ∨ 1610 < (ws.length : Int) ∨ (300 < (c.length : Int) ∧ (c.length : Int) ≤ 8192) ∨ ((600 < c.length ∧ c.length ≤ 8192) ∨ 8200 < c.length))) = decide ((600 < c.length ∧ c.length ≤ 8192) ∨ 8200 < c.length) by exact decide_eq_decide.2 (by omega)]
        exact ⟨rfl, hS34.fin0⟩

end Go.Proofs.Ytnfgeekaeegolaa