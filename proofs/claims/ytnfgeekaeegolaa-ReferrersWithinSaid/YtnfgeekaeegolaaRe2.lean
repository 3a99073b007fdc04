import Derived.Test.YtnfgeekaeegolaaProg
import Derived.Test.YtnfgeekaeegolaaRe1
import Derived.Test.YtnfgeekaeegolaaSepV
namespace Go.Proofs.Ytnfgeekaeegolaa
open Go.RowKit Go.Own Go.Own.R Go.Own.S Go.Own.F Go.Own.G


set_option maxHeartbeats 4000000 in
theorem kclR_c {cv : Value} {l : List (Int × Int)} {w : World} (h_cv : Ro w NoX (rl 2 rcC cv l)) (hl : l.length ≤ 1600) :
    Calls Try.prog 50 #[cv] w fun e w' => ∃ v, e = .returned (v) ∧ St w NoX [ro 2 rcC (v) l] w' := by
  refine calls_in 8 Try.func50 rfl rfl (by simp) (fun A0 hsz0 hdf0 hargs => ?_)
  have l0_0 := hargs 0 (cv) rfl
  clear hargs; replace hsz0 : SzN A0 8 := ⟨hsz0⟩
  have hS := St.nil w
  have bh_cv := SlN.le (sl_SlN h_cv.at)
  refine wp_seq_k (fun K1 hK1 => ?_)
  refine region_in ?_
  refine W_v rfl rfl (V_asg rfl rfl) ?_
  refine W_end ?_
  refine gen_Q (fun A2 hA2 => ?_)
  have hsz2 := szq hA2
  have hdf2 : A2.defers = [] := by rw [hA2]; simp only [df_put]; exact hdf0
  have l0_2 := lookE hA2 0 (es rfl l0_0)
  clear hA2 hsz0 hdf0 l0_0
  refine then_n (hK1 _ _ ?_)
  clear hK1
  refine wp_seq_k (fun K3 hK3 => ?_)
  refine wp_seq_k (fun K4 hK4 => ?_)
  refine region_in ?_
  refine W_v rfl rfl (V_mov rfl l0_2) ?_
  refine W_v rfl rfl (V_eqNilB rfl (et rfl) rfl (sl_SlN h_cv.at) Try.underlying28) ?_
  refine W_end ?_
  refine gen_Q (fun A5 hA5 => ?_)
  have hsz5 := szq hA5
  have hdf5 : A5.defers = [] := by rw [hA5]; simp only [df_put]; exact hdf2
  have l0_5 := lookE hA5 0 (es rfl (es rfl l0_2))
  have l4_5 := lookE hA5 4 (et rfl)
  clear hA5 hsz2 hdf2 l0_2
  refine then_n (hK4 _ _ ?_)
  clear hK4
  refine cond_b l4_5 (fun c6 => ?_) (fun c6 => ?_)
  · skip
    refine wp_seq_k (fun K7 hK7 => ?_)
    refine region_in ?_
    refine W_v rfl rfl (V_asg rfl rfl) ?_
    refine W_end ?_
    refine gen_Q (fun A8 hA8 => ?_)
    have hsz8 := szq hA8
    have hdf8 : A8.defers = [] := by rw [hA8]; simp only [df_put]; exact hdf5
    have l2_8 := lookE hA8 2 (et rfl)
    clear hA8 hsz5 hdf5 l0_5 l4_5
    refine then_n (hK7 _ _ ?_)
    clear hK7
    refine wp_ret ?_
    refine then_ret ?_
    refine ret_in (results_1 Try.results50 (rv_tmp l2_8)) hdf8 ?_
    -- leaf T
    obtain ⟨c9, hc9, hS9⟩ := hS.pnil (s := 2)
    obtain rfl : l = [] := List.eq_nil_of_length_eq_zero (nilB_len (sl_SlN h_cv.at) c6)
    exact ⟨_, rfl, (hS9.fin1 0 rfl (hc9))⟩
  · skip
    refine wp_skip ?_
    refine then_n (hK3 _ _ ?_)
    clear hK3
    refine wp_seq_k (fun K10 hK10 => ?_)
    refine region_in ?_
    refine W_litS (vs := []) (xs := []) 2 hS rfl rfl rfl (parts0) rfl Try.underlying28 (by kernel_rfl) (by decide) (by intro v hv; cases hv) (by rfl) (fun g11 w11 c11 hc11 hS11 => ?_)
    replace hc11 : c11 = ro 2 rcC (.slice (some ⟨g11, 0, none⟩) 0 0) [] := hc11
    replace hS11 : St w NoX [c11] w11 := hS11
    refine W_v rfl rfl (V_mov rfl (es rfl l0_5)) ?_
    refine W_appS 2 0 hS11 rfl hc11 rfl rfl rfl (es rfl (et rfl)) (et rfl) Try.underlying28 Try.underlying28 (z := .agg #[.int .i64 0, .int .i64 0]) (bytes := 16) (by kernel_rfl) rfl (by decide) (sl_SlN (hS11.ro h_cv)) (ones_r rcC_one) (by first | omega | (simp; done) | (simp; omega)) (by first | omega | (simp; done) | (simp; omega)) (fun v12 w12 c12 hc12 hS12 => ?_)
    replace hc12 : c12 = ro 2 rcC v12 l := hc12.trans (app_eqR (by simp))
    replace hS12 : St w NoX [c12] w12 := hS12
    refine W_v rfl rfl (V_asg rfl (et rfl)) ?_
    refine W_end ?_
    refine gen_Q (fun A13 hA13 => ?_)
    have hsz13 := szq hA13
    have hdf13 : A13.defers = [] := by rw [hA13]; simp only [df_put]; exact hdf5
    have l2_13 := lookE hA13 2 (et rfl)
    clear hA13 hsz5 hdf5 l0_5 l4_5
    refine then_n (hK10 _ _ ?_)
    clear hK10
    refine wp_ret ?_
    refine ret_in (results_1 Try.results50 (rv_tmp l2_13)) hdf13 ?_
    -- leaf F
    exact ⟨_, rfl, (hS12.fin1 0 rfl (hc12))⟩

set_option maxHeartbeats 4000000 in
theorem kwi_c {cv : Value} {l : List (Int × Int)} {f : Int} {t : Int} {w : World} (h_cv : Ro w NoX (rl 2 rcC cv l))  :
    Calls Try.prog 31 #[cv, .int .i64 f, .int .i64 t] w fun e w' => ∃ v, e = .returned (.tuple #[v, .int .i64 (ckL l).2]) ∧ St w NoX [ro 2 rcC (v) (wiT l f t)] w' := by
  have hn1 : ckN (([(cv, l)] : List RS).map (·.2)) = (ckL l).2 := ckN_one l
  refine calls_in 19 Try.func31 rfl rfl (by simp) (fun A0 hsz0 hdf0 hargs => ?_)
  have l0_0 := hargs 0 (cv) rfl
  have l1_0 := hargs 1 (.int .i64 f) rfl
  have l2_0 := hargs 2 (.int .i64 t) rfl
  clear hargs; replace hsz0 : SzN A0 19 := ⟨hsz0⟩
  have hS := St.nil w
  have bh_cv := SlN.le (sl_SlN h_cv.at)
  refine wp_seq_k (fun K1 hK1 => ?_)
  refine region_in ?_
  refine W_boxS (zs := #[.int .i64 (f)]) hS rfl rfl rfl l1_0 (by rfl) (fun g2 w2 c2 hc2 hS2 => ?_)
  replace hS2 : St w NoX [c2] w2 := hS2
  refine W_boxS (zs := #[.int .i64 (t)]) hS2 rfl rfl rfl (es rfl l2_0) (by rfl) (fun g3 w3 c3 hc3 hS3 => ?_)
  replace hS3 : St w NoX [c3, c2] w3 := hS3
  refine W_v rfl rfl (V_asg rfl rfl) ?_
  refine W_v rfl rfl (V_asg rfl rfl) ?_
  refine W_end ?_
  refine gen_Q (fun A4 hA4 => ?_)
  have hsz4 := szq hA4
  have hdf4 : A4.defers = [] := by rw [hA4]; simp only [df_put]; exact hdf0
  have l0_4 := lookE hA4 0 (e3 rfl (es rfl l0_0))
  have l4_4 := lookE hA4 4 (e3 rfl (et rfl))
  have l5_4 := lookE hA4 5 (e2 rfl (et rfl))
  clear hA4 hsz0 hdf0 l0_0 l1_0 l2_0
  refine then_n (hK1 _ _ ?_)
  clear hK1
  refine wp_seq_k (fun K5 hK5 => ?_)
  refine wp_seq_k (fun K6 hK6 => ?_)
  refine region_in ?_
  refine W_v rfl rfl (V_mov rfl l0_4) ?_
  have hll7 : [cv].length = 1 := rfl
  refine W_litS (vs := [cv]) (xs := [cv]) 1 hS3 rfl rfl rfl (parts1 (et rfl)) rfl Try.underlying88 (by kernel_rfl) (by decide) (by intro v hv; simp only [List.mem_cons, List.not_mem_nil, or_false] at hv; rcases hv with rfl <;> simp [SlN_cells (sl_SlN h_cv.at)]) (by simp [SlN_cells (sl_SlN h_cv.at)]) (fun g7 w7 c7 hc7 hS7 => ?_)
  replace hc7 : c7 = ow 1 [cv].length (.slice (some ⟨g7, 0, none⟩) 1 1) [cv] := hc7
  replace hS7 : St w NoX [c7, c3, c2] w7 := hS7
  refine W_call rfl rfl rfl Try.func44 (by kernel_rfl) rfl (args1 (et rfl)) (kck_c (us := [(cv, l)]) (hS7.chC 0 rfl hc7).own (nsr_one (hS7.roC h_cv)) ) ?_
  rintro _ w8 ⟨rfl, hP8⟩
  refine ⟨_, rfl, ?_⟩
  have hS8 := hS7.join hP8
  replace hS8 : St w NoX [c7, c3, c2] w8 := hS8
  refine W_v rfl rfl (V_asg rfl (et rfl)) ?_
  refine W_end ?_
  refine gen_Q (fun A9 hA9 => ?_)
  have hsz9 := szq hA9
  have hdf9 : A9.defers = [] := by rw [hA9]; simp only [df_put]; exact hdf4
  have l0_9 := lookE hA9 0 (e3 rfl (es rfl l0_4))
  have l4_9 := lookE hA9 4 (e3 rfl (es rfl l4_4))
  have l5_9 := lookE hA9 5 (e3 rfl (es rfl l5_4))
  have l8_9 := lookE hA9 8 (et rfl)
  clear hA9 hsz4 hdf4 l0_4 l4_4 l5_4
  have hS10 : St w NoX [c3, c2] w8 := hS8.sel [1, 2] (by decide) rfl
  refine then_n (hK6 _ _ ?_)
  clear hK6
  refine wp_seq_k (fun K11 hK11 => ?_)
  refine region_in ?_
  refine W_v rfl rfl (V_mov rfl l8_9) ?_
  refine W_v rfl rfl (V_neq rfl (et rfl) rfl) ?_
  refine W_end ?_
  refine gen_Q (fun A12 hA12 => ?_)
  have hsz12 := szq hA12
  have hdf12 : A12.defers = [] := by rw [hA12]; simp only [df_put]; exact hdf9
  have l0_12 := lookE hA12 0 (es rfl (es rfl l0_9))
  have l4_12 := lookE hA12 4 (es rfl (es rfl l4_9))
  have l5_12 := lookE hA12 5 (es rfl (es rfl l5_9))
  have l8_12 := lookE hA12 8 (es rfl (es rfl l8_9))
  have l13_12 := lookE hA12 13 (et rfl)
  clear hA12 hsz9 hdf9 l0_9 l4_9 l5_9 l8_9
  refine then_n (hK11 _ _ ?_)
  clear hK11
  refine cond_dec l13_12 (fun c13 => ?_) (fun c13 => ?_)
  · skip
    refine wp_seq_k (fun K14 hK14 => ?_)
    refine region_in ?_
    refine W_v rfl rfl (V_mov rfl l8_12) ?_
    refine W_v rfl rfl (V_asg rfl rfl) ?_
    refine W_v rfl rfl (V_asg rfl (es rfl (et rfl))) ?_
    refine W_end ?_
    refine gen_Q (fun A15 hA15 => ?_)
    have hsz15 := szq hA15
    have hdf15 : A15.defers = [] := by rw [hA15]; simp only [df_put]; exact hdf12
    have l6_15 := lookE hA15 6 (es rfl (et rfl))
    have l7_15 := lookE hA15 7 (et rfl)
    clear hA15 hsz12 hdf12 l0_12 l4_12 l5_12 l8_12 l13_12
    have hS16 : St w NoX [] w8 := hS10.sel [] (by decide) rfl
    refine then_n (hK14 _ _ ?_)
    clear hK14
    refine wp_ret ?_
    refine then_ret ?_
    refine ret_in (results_2 Try.results31 (rv_tmp l6_15) (rv_tmp l7_15)) hdf15 ?_
    -- leaf T
    obtain ⟨c17, hc17, hS17⟩ := hS16.pnil (s := 2)
    have hq : (ckL l).2 ≠ 0 := by omega
    rw [hn1]
    exact ⟨_, rfl, (hS17.fin1 0 rfl (hc17.trans (by rw [show wiT l f t = [] by unfold wiT; rw [if_pos hq]] <;> rfl)))⟩
  · skip
    have hck := ckL_iff.1 (show (ckL l).2 = 0 by omega)
    have hckl := hck.1
    refine wp_skip ?_
    refine then_n (hK5 _ _ ?_)
    clear hK5
    refine wp_seq_k (fun K18 hK18 => ?_)
    refine region_in ?_
    refine W_v rfl rfl (V_mov rfl l0_12) ?_
    refine W_call rfl rfl rfl Try.func50 (by kernel_rfl) rfl (args1 (et rfl)) (kclR_c (hS10.roC h_cv) (by first | omega | with_reducible assumption)) ?_
    rintro _ w19 ⟨v_19, rfl, hP19⟩
    refine ⟨_, rfl, ?_⟩
    obtain ⟨c_19, hc_19, hP19⟩ := gen1 hP19
    have hS19 := hS10.join hP19
    replace hS19 : St w NoX [c_19, c3, c2] w19 := hS19
    refine W_v rfl rfl (V_mkf rfl (args0) (args2 (es rfl (es rfl l4_12)) (es rfl (es rfl l5_12)))) ?_
    obtain ⟨Y20, hP20, hR20, hF20, hB20⟩ := St.call (pre := [c_19]) (fr := [c3, c2]) hS19
    rw [hc_19] at hP20
    refine W_call rfl rfl rfl Try.func49 (by kernel_rfl) rfl (args2 (es rfl (et rfl)) (et rfl)) (kdlW_c (f := f) (gf := g2) (t := t) (gt := g3) (hc2 ▸ hF20 1 _ rfl) (hc3 ▸ hF20 0 _ rfl) hP20 ) ?_
    rintro _ w21 ⟨u_21, rfl, hP21⟩
    refine ⟨_, rfl, ?_⟩
    obtain ⟨c_21, hc_21, hP21⟩ := gen1 hP21
    have hS21 := hB20 _ _ hP21
    replace hS21 : St w NoX [c_21, c3, c2] w21 := hS21
    refine W_v rfl rfl (V_asg rfl (et rfl)) ?_
    refine W_v rfl rfl (V_asg rfl rfl) ?_
    refine W_end ?_
    refine gen_Q (fun A22 hA22 => ?_)
    have hsz22 := szq hA22
    have hdf22 : A22.defers = [] := by rw [hA22]; simp only [df_put]; exact hdf12
    have l6_22 := lookE hA22 6 (es rfl (et rfl))
    have l7_22 := lookE hA22 7 (et rfl)
    clear hA22 hsz12 hdf12 l0_12 l4_12 l5_12 l8_12 l13_12
    have hS23 : St w NoX [c_21] w21 := hS21.sel [0] (by decide) rfl
    refine then_n (hK18 _ _ ?_)
    clear hK18
    refine wp_ret ?_
    refine ret_in (results_2 Try.results31 (rv_tmp l6_22) (rv_tmp l7_22)) hdf22 ?_
    -- leaf F
    have he : (ckL l).2 = 0 := by omega
    rw [he]
    exact ⟨_, rfl, (hS23.fin1 0 rfl (hc_21.trans (congrArg (ro 2 rcC _) (by unfold wiT; rw [if_neg (by omega)] <;> rfl))))⟩

end Go.Proofs.Ytnfgeekaeegolaa