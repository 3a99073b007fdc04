import Derived.Test.YtnfgeekaeegolaaProg
import Derived.Test.YtnfgeekaeegolaaSl1
import Derived.Test.YtnfgeekaeegolaaSh09
import Derived.Test.YtnfgeekaeegolaaPl7d
namespace Go.Proofs.Ytnfgeekaeegolaa
open Go.RowKit Go.Own Go.Own.R Go.Own.S


set_option maxHeartbeats 4000000 in
theorem kcln_c {cv : Value} {c : List Int} {w : World} (h_cv : Ro w NoX (il .i64 cv c)) (h0 : 0 < c.length) (hl : c.length ≤ 8192) :
    Calls Try.prog 73 #[cv] w fun e w' => ∃ v, e = .returned (v) ∧ (0 < capS v) ∧ St w NoX [io .i64 (v) c] w' := by
  refine calls_in 8 Try.func73 rfl rfl (by simp) (fun A0 hsz0 hdf0 hargs => ?_)
  have l0_0 := hargs 0 (cv) rfl
  clear hargs; replace hsz0 : SzN A0 8 := ⟨hsz0⟩
  have hS := St.nil w
  have bh_cv := SlN.le (sl_SlN h_cv.at)
  refine wp_seq_k (fun K1 hK1 => ?_)
  refine region_in ?_
  refine W_v rfl rfl (V_asg rfl rfl) ?_
  refine W_end ?_
  refine gen_Q (fun A2 hA2 => ?_)
  have hsz2 := szq hA2
  have hdf2 : A2.defers = [] := by rw [hA2]; simp only [df_put]; exact hdf0
  have l0_2 := lookE hA2 0 (es rfl l0_0)
  clear hA2 hsz0 hdf0 l0_0
  refine then_n (hK1 _ _ ?_)
  clear hK1
  refine wp_seq_k (fun K3 hK3 => ?_)
  refine wp_seq_k (fun K4 hK4 => ?_)
  refine region_in ?_
  refine W_v rfl rfl (V_mov rfl l0_2) ?_
  refine W_v rfl rfl (V_eqNilS rfl (et rfl) rfl (sl_SlN h_cv.at) (by omega) Try.underlying23) ?_
  refine W_end ?_
  refine gen_Q (fun A5 hA5 => ?_)
  have hsz5 := szq hA5
  have hdf5 : A5.defers = [] := by rw [hA5]; simp only [df_put]; exact hdf2
  have l0_5 := lookE hA5 0 (es rfl (es rfl l0_2))
  have l4_5 := lookE hA5 4 (et rfl)
  clear hA5 hsz2 hdf2 l0_2
  refine then_n (hK4 _ _ ?_)
  clear hK4
  refine cond_f l4_5 ?_
  refine wp_skip ?_
  refine then_n (hK3 _ _ ?_)
  clear hK3
  refine wp_seq_k (fun K6 hK6 => ?_)
  refine region_in ?_
  refine W_litS (vs := []) (xs := []) 1 hS rfl rfl rfl (parts0) rfl Try.underlying23 (by kernel_rfl) (by decide) (by intro v hv; cases hv) (by rfl) (fun g7 w7 c7 hc7 hS7 => ?_)
  replace hc7 : c7 = io .i64 (.slice (some ⟨g7, 0, none⟩) 0 0) [] := hc7
  replace hS7 : St w NoX [c7] w7 := hS7
  refine W_v rfl rfl (V_mov rfl (es rfl l0_5)) ?_
  refine W_appS 1 0 hS7 rfl hc7 rfl rfl rfl (es rfl (et rfl)) (et rfl) Try.underlying23 Try.underlying23 (z := .int .i64 0) (bytes := 8) (by kernel_rfl) rfl (by decide) (sl_SlN (hS7.ro h_cv)) ones_i (by first | omega | (simp; done) | (simp; omega)) (by first | omega | (simp; done) | (simp; omega)) (fun v8 w8 c8 hc8 hS8 => ?_)
  replace hc8 : c8 = io .i64 v8 c := hc8.trans (app_eq (by simp))
  replace hS8 : St w NoX [c8] w8 := hS8
  refine W_v rfl rfl (V_asg rfl (et rfl)) ?_
  refine W_end ?_
  refine gen_Q (fun A9 hA9 => ?_)
  have hsz9 := szq hA9
  have hdf9 : A9.defers = [] := by rw [hA9]; simp only [df_put]; exact hdf5
  have l2_9 := lookE hA9 2 (et rfl)
  clear hA9 hsz5 hdf5 l0_5 l4_5
  refine then_n (hK6 _ _ ?_)
  clear hK6
  refine wp_ret ?_
  refine ret_in (results_1 Try.results73 (rv_tmp l2_9)) hdf9 ?_
  -- leaf 
  have hq := SlN.capS (ow_at (hS8.chq 0 rfl hc8))
  exact ⟨_, rfl, by omega, (hS8.fin1 0 rfl (hc8))⟩

set_option maxHeartbeats 4000000 in
theorem ksr_c {cv : Value} {c : List Int} {w : World} (h_cv : Ro w NoX (il .i64 cv c)) (h0 : 0 < c.length) (hl : c.length ≤ 8192) (hr : Rng c) (hd : Dst c) :
    Calls Try.prog 68 #[cv] w fun e w' => ∃ v, e = .returned (v) ∧ St w NoX [io .i64 (v) (tgK c 1600)] w' := by
  have hfl := fl_len (fun x => decide (x ≤ 0)) c
  refine calls_in 10 Try.func68 rfl rfl (by simp) (fun A0 hsz0 hdf0 hargs => ?_)
  have l0_0 := hargs 0 (cv) rfl
  clear hargs; replace hsz0 : SzN A0 10 := ⟨hsz0⟩
  have hS := St.nil w
  have bh_cv := SlN.le (sl_SlN h_cv.at)
  refine wp_seq_k (fun K1 hK1 => ?_)
  refine region_in ?_
  refine W_v rfl rfl (V_asg rfl rfl) ?_
  refine W_end ?_
  refine gen_Q (fun A2 hA2 => ?_)
  have hsz2 := szq hA2
  have hdf2 : A2.defers = [] := by rw [hA2]; simp only [df_put]; exact hdf0
  have l0_2 := lookE hA2 0 (es rfl l0_0)
  clear hA2 hsz0 hdf0 l0_0
  refine then_n (hK1 _ _ ?_)
  clear hK1
  refine wp_seq_k (fun K3 hK3 => ?_)
  refine region_in ?_
  refine W_v rfl rfl (V_mov rfl l0_2) ?_
  refine W_call rfl rfl rfl Try.func73 (by kernel_rfl) rfl (args1 (et rfl)) (kcln_c (hS.roC h_cv) (by first | omega | with_reducible assumption) (by first | omega | with_reducible assumption)) ?_
  rintro _ w4 ⟨v_4, rfl, hcp_4, hP4⟩
  refine ⟨_, rfl, ?_⟩
  obtain ⟨c_4, hc_4, hP4⟩ := gen1 hP4
  have hS4 := hS.join hP4
  replace hS4 : St w NoX [c_4] w4 := hS4
  obtain ⟨Y5, hP5, hR5, hF5, hB5⟩ := St.call (pre := [c_4]) (fr := []) hS4
  rw [hc_4] at hP5
  refine W_call rfl rfl rfl Try.func72 (by kernel_rfl) rfl (args2 (et rfl) rfl) (kdls_c  hP5 ) ?_
  rintro _ w6 ⟨u_6, rfl, hcap_6, hP6⟩
  refine ⟨_, rfl, ?_⟩
  obtain ⟨c_6, hc_6, hP6⟩ := gen1 hP6
  have hS6 := hB5 _ _ hP6
  replace hS6 : St w NoX [c_6] w6 := hS6
  refine W_v rfl rfl (V_asg rfl (et rfl)) ?_
  refine W_end ?_
  refine gen_Q (fun A7 hA7 => ?_)
  have hsz7 := szq hA7
  have hdf7 : A7.defers = [] := by rw [hA7]; simp only [df_put]; exact hdf2
  have l3_7 := lookE hA7 3 (et rfl)
  clear hA7 hsz2 hdf2 l0_2
  refine then_n (hK3 _ _ ?_)
  clear hK3
  refine wp_seq_k (fun K8 hK8 => ?_)
  refine region_in ?_
  refine W_v rfl rfl (V_mov rfl l3_7) ?_
  obtain ⟨Y9, hP9, hR9, hF9, hB9⟩ := St.call (pre := [c_6]) (fr := []) hS6
  rw [hc_6] at hP9
  refine W_call rfl rfl rfl Try.func75 (by kernel_rfl) rfl (args1 (et rfl)) ((sort_St2 (us := sortL (fl (fun x => decide (x ≤ 0)) c)) hP9 (by first | with_reducible assumption | omega) (sortL_len (fl (fun x => decide (x ≤ 0)) c)) (fun g off cap hH hg => Try.slices_Sort_int g off cap (fl (fun x => decide (x ≤ 0)) c) _ hH hg (by omega)))) ?_
  rintro _ w10 ⟨rfl, hP10⟩
  refine ⟨_, rfl, ?_⟩
  obtain ⟨c_10, hc_10, hP10⟩ := gen1 hP10
  have hS10 := hB9 _ _ hP10
  replace hS10 : St w NoX [c_10] w10 := hS10
  refine W_end ?_
  refine gen_Q (fun A11 hA11 => ?_)
  have hsz11 := szq hA11
  have hdf11 : A11.defers = [] := by rw [hA11]; simp only [df_put]; exact hdf7
  have l3_11 := lookE hA11 3 (es rfl (es rfl l3_7))
  clear hA11 hsz7 hdf7 l3_7
  refine then_n (hK8 _ _ ?_)
  clear hK8
  refine wp_seq_k (fun K12 hK12 => ?_)
  refine region_in ?_
  refine W_v rfl rfl (V_mov rfl l3_11) ?_
  refine W_v rfl rfl (V_asg rfl (et rfl)) ?_
  refine W_end ?_
  refine gen_Q (fun A13 hA13 => ?_)
  have hsz13 := szq hA13
  have hdf13 : A13.defers = [] := by rw [hA13]; simp only [df_put]; exact hdf11
  have l2_13 := lookE hA13 2 (et rfl)
  clear hA13 hsz11 hdf11 l3_11
  refine then_n (hK12 _ _ ?_)
  clear hK12
  refine wp_ret ?_
  refine ret_in (results_1 Try.results68 (rv_tmp l2_13)) hdf13 ?_
  -- leaf 
  exact ⟨_, rfl, (hS10.fin1 0 rfl (hc_10.trans (congrArg (io .i64 _) (srt_fl hr hd))))⟩

end Go.Proofs.Ytnfgeekaeegolaa