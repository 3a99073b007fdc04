import Derived.Test.YtbnijekjaafoaaaProg
import Derived.Test.YtbnijekjaafoaaaRt4
namespace Go.Proofs.Ytbnijekjaafoaaa
open Go.RowKit Go.Own Go.Own.R


set_option maxHeartbeats 4000000 in
theorem qFw_c {rv : Value} {l : List Int} {mv : Value} {ms : List (Int × Int)} {w : World} (h_rv : Ro w NoX (il .i64 rv l)) (h_mv : Ro w NoX (rl 2 mvC mv ms))  :
    Calls Try.prog 21 #[rv, mv] w fun e w' => ∃ v, e = .returned (.tuple #[v, .int .i64 (fwN l ms), .int .i64 (fwE l ms)]) ∧ St w NoX [io .i64 (v) (fwT l ms)] w' := by
  refine calls_in 74 Try.func21 rfl rfl (by simp) (fun A0 hsz0 hdf0 hargs => ?_)
  have l0_0 := hargs 0 (rv) rfl
  have l1_0 := hargs 1 (mv) rfl
  clear hargs; replace hsz0 : SzN A0 74 := ⟨hsz0⟩
  have hS := St.nil w
  have bh_rv := SlN.le (sl_SlN h_rv.at)
  have bh_mv := SlN.le (sl_SlN h_mv.at)
  refine wp_seq_k (fun K1 hK1 => ?_)
  -- region 0
  refine region_in ?_
  refine W_v rfl rfl (V_asg rfl rfl) ?_
  refine W_v rfl rfl (V_asg rfl rfl) ?_
  refine W_v rfl rfl (V_asg rfl rfl) ?_
  refine W_end ?_
  refine gen_Q (fun A2 hA2 => ?_)
  have hsz2 : SzN A2 74 := by rw [hA2]; infer_instance
  have hdf2 : A2.defers = [] := by rw [hA2]; simp only [df_put]; exact hdf0
  have l0_2 := lookE hA2 0 (es rfl (es rfl (es rfl l0_0)))
  have l1_2 := lookE hA2 1 (es rfl (es rfl (es rfl l1_0)))
  clear hA2 hsz0 hdf0 l0_0 l1_0
  refine then_n (hK1 _ _ ?_)
  clear hK1
  refine wp_seq_k (fun K3 hK3 => ?_)
  -- region 1
  refine region_in ?_
  refine W_v rfl rfl (V_mov rfl l0_2) ?_
  refine W_call rfl rfl rfl Try.func26 (by kernel_rfl) rfl (args1 (et rfl)) (qCk_c (hS.roC h_rv) ) ?_
  rintro _ w4 ⟨rfl, hP4⟩
  refine ⟨_, rfl, ?_⟩
  have hS4 := hS.join hP4
  replace hS4 : St w NoX [] w4 := hS4
  refine W_v rfl rfl (V_mov rfl (et rfl)) ?_
  refine W_v rfl rfl (V_ext (v := .int .i64 ((ckR l).1)) rfl (et rfl) rfl) ?_
  refine W_v rfl rfl (V_ext (v := .int .i64 ((ckR l).2)) rfl (es rfl (et rfl)) rfl) ?_
  refine W_v rfl rfl (V_asg rfl (es rfl (et rfl))) ?_
  refine W_v rfl rfl (V_asg rfl (es rfl (et rfl))) ?_
  refine W_end ?_
  refine gen_Q (fun A5 hA5 => ?_)
  have hsz5 : SzN A5 74 := by rw [hA5]; infer_instance
  have hdf5 : A5.defers = [] := by rw [hA5]; simp only [df_put]; exact hdf2
  have l0_5 := lookE hA5 0 (es rfl (es rfl (es rfl (es rfl (es rfl (es rfl (es rfl l0_2)))))))
  have l1_5 := lookE hA5 1 (es rfl (es rfl (es rfl (es rfl (es rfl (es rfl (es rfl l1_2)))))))
  have l8_5 := lookE hA5 8 (et rfl)
  clear hA5 hsz2 hdf2 l0_2 l1_2
  refine then_n (hK3 _ _ ?_)
  clear hK3
  refine wp_seq_k (fun K6 hK6 => ?_)
  refine wp_seq_k (fun K7 hK7 => ?_)
  -- region 2
  refine region_in ?_
  refine W_v rfl rfl (V_mov rfl l8_5) ?_
  refine W_v rfl rfl (V_eql rfl (et rfl) rfl) ?_
  refine W_end ?_
  refine gen_Q (fun A8 hA8 => ?_)
  have hsz8 : SzN A8 74 := by rw [hA8]; infer_instance
  have hdf8 : A8.defers = [] := by rw [hA8]; simp only [df_put]; exact hdf5
  have l0_8 := lookE hA8 0 (es rfl (es rfl l0_5))
  have l1_8 := lookE hA8 1 (es rfl (es rfl l1_5))
  have l8_8 := lookE hA8 8 (es rfl (es rfl l8_5))
  have l19_8 := lookE hA8 19 (et rfl)
  clear hA8 hsz5 hdf5 l0_5 l1_5 l8_5
  refine then_n (hK7 _ _ ?_)
  clear hK7
  refine cond_dec l19_8 (fun c9 => ?_) (fun c9 => ?_)
  · skip
    have hck : (ckR l).2 = 0 := by simpa using c9
    obtain ⟨hl1, hl8, hin0⟩ := ckR_good hck
    -- region 3
    refine region_in ?_
    refine W_v rfl rfl (V_mov rfl l1_8) ?_
    refine W_call rfl rfl rfl Try.func19 (by kernel_rfl) rfl (args1 (et rfl)) (qMs_c (hS4.roC h_mv) ) ?_
    rintro _ w10 ⟨rfl, hP10⟩
    refine ⟨_, rfl, ?_⟩
    have hS10 := hS4.join hP10
    replace hS10 : St w NoX [] w10 := hS10
    refine W_v rfl rfl (V_mov rfl (et rfl)) ?_
    refine W_v rfl rfl (V_ext (v := .int .i64 ((mvR ms).1)) rfl (et rfl) rfl) ?_
    refine W_v rfl rfl (V_ext (v := .int .i64 ((mvR ms).2)) rfl (es rfl (et rfl)) rfl) ?_
    refine W_v rfl rfl (V_asg rfl (et rfl)) ?_
    refine W_end ?_
    refine gen_Q (fun A11 hA11 => ?_)
    have hsz11 : SzN A11 74 := by rw [hA11]; infer_instance
    have hdf11 : A11.defers = [] := by rw [hA11]; simp only [df_put]; exact hdf8
    have l0_11 := lookE hA11 0 (es rfl (es rfl (es rfl (es rfl (es rfl (es rfl l0_8))))))
    have l1_11 := lookE hA11 1 (es rfl (es rfl (es rfl (es rfl (es rfl (es rfl l1_8))))))
    have l8_11 := lookE hA11 8 (et rfl)
    clear hA11 hsz8 hdf8 l0_8 l1_8 l8_8 l19_8
    refine then_n (hK6 _ _ ?_)
    clear hK6
    refine wp_seq_k (fun K12 hK12 => ?_)
    refine wp_seq_k (fun K13 hK13 => ?_)
    -- region 4
    refine region_in ?_
    refine W_v rfl rfl (V_mov rfl l8_11) ?_
    refine W_v rfl rfl (V_neq rfl (et rfl) rfl) ?_
    refine W_end ?_
    refine gen_Q (fun A14 hA14 => ?_)
    have hsz14 : SzN A14 74 := by rw [hA14]; infer_instance
    have hdf14 : A14.defers = [] := by rw [hA14]; simp only [df_put]; exact hdf11
    have l0_14 := lookE hA14 0 (es rfl (es rfl l0_11))
    have l1_14 := lookE hA14 1 (es rfl (es rfl l1_11))
    have l8_14 := lookE hA14 8 (es rfl (es rfl l8_11))
    have l26_14 := lookE hA14 26 (et rfl)
    clear hA14 hsz11 hdf11 l0_11 l1_11 l8_11
    refine then_n (hK13 _ _ ?_)
    clear hK13
    refine cond_dec l26_14 (fun c15 => ?_) (fun c15 => ?_)
    · skip
      refine wp_seq_k (fun K16 hK16 => ?_)
      -- region 5
      refine region_in ?_
      refine W_v rfl rfl (V_mov rfl l8_14) ?_
      refine W_v rfl rfl (V_asg rfl rfl) ?_
      refine W_v rfl rfl (V_asg rfl rfl) ?_
      refine W_v rfl rfl (V_asg rfl (es rfl (es rfl (et rfl)))) ?_
      refine W_end ?_
      refine gen_Q (fun A17 hA17 => ?_)
      have hsz17 : SzN A17 74 := by rw [hA17]; infer_instance
      have hdf17 : A17.defers = [] := by rw [hA17]; simp only [df_put]; exact hdf14
      have l4_17 := lookE hA17 4 (es rfl (es rfl (et rfl)))
      have l5_17 := lookE hA17 5 (es rfl (et rfl))
      have l6_17 := lookE hA17 6 (et rfl)
      clear hA17 hsz14 hdf14 l0_14 l1_14 l8_14 l26_14
      refine then_n (hK16 _ _ ?_)
      clear hK16
      refine wp_ret ?_
      refine then_ret ?_
      refine ret_in (results_3 Try.results21 (rv_tmp l4_17) (rv_tmp l5_17) (rv_tmp l6_17)) hdf17 ?_
      -- leaf TT
      obtain ⟨c18, hc18, hS18⟩ := hS10.pnil (s := 1)
      have h : fwE l ms = (mvR ms).2 := by first | exact fwE_ck (by assumption) | (rw [fwE_ck (l := l) (ms := ms) (by first | assumption | (rw [← hnn]; assumption))]; first | rfl | exact hnn.symm) | exact fwE_mv (l := l) (ms := ms) (by assumption)
      have h2 := fw_err (l := l) (ms := ms) (by rw [h]; assumption)
      rw [h, h2.2]
      exact ⟨_, rfl, (hS18.fin1 0 rfl (hc18.trans (by rw [h2.1] <;> rfl)))⟩
    · skip
      have hmv : (mvR ms).2 = 0 := by simpa using c15
      refine wp_skip ?_
      refine then_n (hK12 _ _ ?_)
      clear hK12
      refine wp_seq_k (fun K19 hK19 => ?_)
      -- region 6
      refine region_in ?_
      refine W_litS (vs := []) (xs := []) 1 hS10 rfl rfl rfl (parts0) rfl Try.underlying22 (by kernel_rfl) (by decide) (by intro v hv; cases hv) (by rfl) (fun g20 w20 c20 hc20 hS20 => ?_)
      replace hc20 : c20 = io .i64 (.slice (some ⟨g20, 0, none⟩) 0 0) [] := hc20
      replace hS20 : St w NoX [c20] w20 := hS20
      refine W_v rfl rfl (V_mov rfl (es rfl l0_14)) ?_
      refine W_appS 1 0 hS20 rfl hc20 rfl rfl rfl (es rfl (et rfl)) (et rfl) Try.underlying22 Try.underlying22 (z := .int .i64 0) (bytes := 8) (by kernel_rfl) rfl (by decide) (sl_SlN (hS20.ro h_rv)) ones_i (by first | omega | (simp; done) | (simp; omega)) (by first | omega | (simp; done) | (simp; omega)) (fun v21 w21 c21 hc21 hS21 => ?_)
      replace hc21 : c21 = io .i64 v21 l := hc21.trans (app_eq (by simp))
      replace hS21 : St w NoX [c21] w21 := hS21
      refine W_v rfl rfl (V_asg rfl (et rfl)) ?_
      refine W_end ?_
      refine gen_Q (fun A22 hA22 => ?_)
      have hsz22 : SzN A22 74 := by rw [hA22]; infer_instance
      have hdf22 : A22.defers = [] := by rw [hA22]; simp only [df_put]; exact hdf14
      have l0_22 := lookE hA22 0 (es rfl (es rfl (es rfl (es rfl l0_14))))
      have l1_22 := lookE hA22 1 (es rfl (es rfl (es rfl (es rfl l1_14))))
      have l9_22 := lookE hA22 9 (et rfl)
      clear hA22 hsz14 hdf14 l0_14 l1_14 l8_14 l26_14
      refine then_n (hK19 _ _ ?_)
      clear hK19
      refine wp_seq_k (fun K23 hK23 => ?_)
      -- region 7
      refine region_in ?_
      refine W_v rfl rfl (V_asg rfl rfl) ?_
      refine W_end ?_
      refine gen_Q (fun A24 hA24 => ?_)
      have hsz24 : SzN A24 74 := by rw [hA24]; infer_instance
      have hdf24 : A24.defers = [] := by rw [hA24]; simp only [df_put]; exact hdf22
      have l0_24 := lookE hA24 0 (es rfl l0_22)
      have l1_24 := lookE hA24 1 (es rfl l1_22)
      have l9_24 := lookE hA24 9 (es rfl l9_22)
      have l10_24 := lookE hA24 10 (et rfl)
      clear hA24 hsz22 hdf22 l0_22 l1_22 l9_22
      refine then_n (hK23 _ _ ?_)
      clear hK23
      refine wp_seq_k (fun K25 hK25 => ?_)
      refine wp_seq_k (fun K26 hK26 => ?_)
      -- region 8
      refine region_in ?_
      refine W_v rfl rfl (V_asg rfl rfl) ?_
      refine W_end ?_
      refine gen_Q (fun A27 hA27 => ?_)
      have hsz27 : SzN A27 74 := by rw [hA27]; infer_instance
      have hdf27 : A27.defers = [] := by rw [hA27]; simp only [df_put]; exact hdf24
      have l0_27 := lookE hA27 0 (es rfl l0_24)
      have l1_27 := lookE hA27 1 (es rfl l1_24)
      have l9_27 := lookE hA27 9 (es rfl l9_24)
      have l10_27 := lookE hA27 10 (es rfl l10_24)
      have l11_27 := lookE hA27 11 (et rfl)
      clear hA27 hsz24 hdf24 l0_24 l1_24 l9_24 l10_24
      refine then_n (hK26 _ _ ?_)
      clear hK26
      refine wp_block ?_
      -- loop 9
      refine loopX (fun mz A' w' => SzN A' 74 ∧ A'.defers = [] ∧ (∃ (i : Nat), (mz = l.length - i) ∧ (i ≤ l.length) ∧ (0 ≤ fwC l ms i ∧ fwC l ms i ≤ l.length) ∧ ((fwK l ms i).length = l.length) ∧ (EV A' (.tmp 11) = .int .i64 (i : Int)) ∧ (EV A' (.tmp 10) = .int .i64 (fwC l ms i)) ∧ (EV A' (.tmp 0) = EV A27 (.tmp 0)) ∧ (EV A' (.tmp 1) = EV A27 (.tmp 1)) ∧ (EV A' (.tmp 9) = EV A27 (.tmp 9)) ∧ (St w NoX [io .i64 v21 (fwK l ms i)] w'))) (l.length - 0) ⟨hsz27, hdf27, 0, rfl, (by omega), (fwC_bd _ _ _), (fwK_len _ _ _), ((l11_27).trans (by first | rfl | (simp; done) | (congr 1; omega))), ((l10_27).trans (rfl)), rfl, rfl, rfl, (by have q0 : c21 = io .i64 v21 (fwK l ms 0) := hc21.trans ((by rw [fwK_zero])); subst q0; exact hS21)⟩ ?_
      clear hS21 hc21
      rintro n28 A28 w28 ⟨hsz28, hdf28, i, hm28, hi, hcb, hkl, l11_28, l10_28, u0_28, u1_28, u9_28, hS28⟩
      have l0_28 := u0_28.trans l0_27
      have l1_28 := u1_28.trans l1_27
      have l9_28 := u9_28.trans l9_27
      obtain ⟨c21_28, hc21_28, hS28⟩ := gen1 hS28
      refine wp_seq_k (fun K29 hK29 => ?_)
      refine wp_seq_k (fun K30 hK30 => ?_)
      -- region 9
      refine region_in ?_
      refine W_v rfl rfl (V_mov rfl l11_28) ?_
      refine W_v rfl rfl (V_mov rfl (es rfl l0_28)) ?_
      refine W_v rfl rfl (V_lenS rfl (et rfl) (sl_SlN h_rv.at) Try.underlying22) ?_
      refine W_v rfl rfl (V_lss rfl (es rfl (es rfl (et rfl))) (et rfl)) ?_
      refine W_end ?_
      refine gen_Q (fun A31 hA31 => ?_)
      have hsz31 : SzN A31 74 := by rw [hA31]; infer_instance
      have hdf31 : A31.defers = [] := by rw [hA31]; simp only [df_put]; exact hdf28
      have l0_31 := lookE hA31 0 (es rfl (es rfl (es rfl (es rfl l0_28))))
      have l1_31 := lookE hA31 1 (es rfl (es rfl (es rfl (es rfl l1_28))))
      have l9_31 := lookE hA31 9 (es rfl (es rfl (es rfl (es rfl l9_28))))
      have l10_31 := lookE hA31 10 (es rfl (es rfl (es rfl (es rfl l10_28))))
      have l11_31 := lookE hA31 11 (es rfl (es rfl (es rfl (es rfl l11_28))))
      have l34_31 := lookE hA31 34 (et rfl)
      clear hA31 hsz28 hdf28 l11_28 l10_28 l0_28 l1_28 l9_28
      refine then_n (hK30 _ _ ?_)
      clear hK30
      refine cond_dec l34_31 (fun c32 => ?_) (fun c32 => ?_)
      · skip
        obtain ⟨yi, hyi⟩ := get_some (xs := l) (k := i) (by omega)
        refine wp_skip ?_
        refine then_n (hK29 _ _ ?_)
        clear hK29
        refine wp_seq_k (fun K33 hK33 => ?_)
        refine wp_block ?_
        refine wp_seq_k (fun K34 hK34 => ?_)
        refine wp_seq_k (fun K35 hK35 => ?_)
        -- region 11
        refine region_in ?_
        refine W_v rfl rfl (V_asg rfl rfl) ?_
        refine W_end ?_
        refine gen_Q (fun A36 hA36 => ?_)
        have hsz36 : SzN A36 74 := by rw [hA36]; infer_instance
        have hdf36 : A36.defers = [] := by rw [hA36]; simp only [df_put]; exact hdf31
        have l0_36 := lookE hA36 0 (es rfl l0_31)
        have l1_36 := lookE hA36 1 (es rfl l1_31)
        have l9_36 := lookE hA36 9 (es rfl l9_31)
        have l10_36 := lookE hA36 10 (es rfl l10_31)
        have l11_36 := lookE hA36 11 (es rfl l11_31)
        have l12_36 := lookE hA36 12 (et rfl)
        clear hA36 hsz31 hdf31 l0_31 l1_31 l9_31 l10_31 l11_31 l34_31
        refine then_n (hK35 _ _ ?_)
        clear hK35
        refine wp_block ?_
        -- loop 12
        refine loopX (fun mz A' w' => SzN A' 74 ∧ A'.defers = [] ∧ (∃ (j : Nat), (mz = ms.length - j) ∧ (j ≤ ms.length) ∧ (((fwK l ms i).set i (fwj ms j yi)).length = l.length) ∧ (EV A' (.tmp 12) = .int .i64 (j : Int)) ∧ (EV A' (.tmp 0) = EV A36 (.tmp 0)) ∧ (EV A' (.tmp 1) = EV A36 (.tmp 1)) ∧ (EV A' (.tmp 9) = EV A36 (.tmp 9)) ∧ (EV A' (.tmp 10) = EV A36 (.tmp 10)) ∧ (EV A' (.tmp 11) = EV A36 (.tmp 11)) ∧ (St w NoX [io .i64 v21 ((fwK l ms i).set i (fwj ms j yi))] w'))) (ms.length - 0) ⟨hsz36, hdf36, 0, rfl, (by omega), (by rw [List.length_set]; exact hkl), ((l12_36).trans (by first | rfl | (simp; done) | (congr 1; omega))), rfl, rfl, rfl, rfl, rfl, (by have q0 : c21_28 = io .i64 v21 ((fwK l ms i).set i (fwj ms 0 yi)) := hc21_28.trans ((congrArg (io .i64 _) (fwK_self hyi).symm)); subst q0; exact hS28)⟩ ?_
        clear hS28 hc21_28
        rintro n37 A37 w37 ⟨hsz37, hdf37, j, hm37, hj, hsl, l12_37, u0_37, u1_37, u9_37, u10_37, u11_37, hS37⟩
        have l0_37 := u0_37.trans l0_36
        have l1_37 := u1_37.trans l1_36
        have l9_37 := u9_37.trans l9_36
        have l10_37 := u10_37.trans l10_36
        have l11_37 := u11_37.trans l11_36
        obtain ⟨c21_37, hc21_37, hS37⟩ := gen1 hS37
        refine wp_seq_k (fun K38 hK38 => ?_)
        refine wp_seq_k (fun K39 hK39 => ?_)
        -- region 12
        refine region_in ?_
        refine W_v rfl rfl (V_mov rfl l12_37) ?_
        refine W_v rfl rfl (V_mov rfl (es rfl l1_37)) ?_
        refine W_v rfl rfl (V_lenS rfl (et rfl) (sl_SlN h_mv.at) Try.underlying33) ?_
        refine W_v rfl rfl (V_lss rfl (es rfl (es rfl (et rfl))) (et rfl)) ?_
        refine W_end ?_
        refine gen_Q (fun A40 hA40 => ?_)
        have hsz40 : SzN A40 74 := by rw [hA40]; infer_instance
        have hdf40 : A40.defers = [] := by rw [hA40]; simp only [df_put]; exact hdf37
        have l0_40 := lookE hA40 0 (es rfl (es rfl (es rfl (es rfl l0_37))))
        have l1_40 := lookE hA40 1 (es rfl (es rfl (es rfl (es rfl l1_37))))
        have l9_40 := lookE hA40 9 (es rfl (es rfl (es rfl (es rfl l9_37))))
        have l10_40 := lookE hA40 10 (es rfl (es rfl (es rfl (es rfl l10_37))))
        have l11_40 := lookE hA40 11 (es rfl (es rfl (es rfl (es rfl l11_37))))
        have l12_40 := lookE hA40 12 (es rfl (es rfl (es rfl (es rfl l12_37))))
        have l40_40 := lookE hA40 40 (et rfl)
        clear hA40 hsz37 hdf37 l12_37 l0_37 l1_37 l9_37 l10_37 l11_37
        refine then_n (hK39 _ _ ?_)
        clear hK39
        refine cond_dec l40_40 (fun c41 => ?_) (fun c41 => ?_)
        · skip
          refine wp_skip ?_
          refine then_n (hK38 _ _ ?_)
          clear hK38
          refine wp_seq_k (fun K42 hK42 => ?_)
          refine wp_block ?_
          refine wp_seq_k (fun K43 hK43 => ?_)
          -- region 14
          refine region_monoS 10 10 [] (by kernel_rfl) (by kernel_rfl) ?_
          refine D_v rfl rfl (V_mov rfl l1_40) rfl rfl ?_
          refine D_v rfl rfl (V_mov rfl (es rfl l12_40)) rfl rfl ?_
          have k44 : j < ms.length := by first | omega | (simp only [List.length_cons, List.length_nil]; omega)
          obtain ⟨y44, hy44⟩ := get_some (xs := ms) (k := j) k44
          obtain ⟨B44, O44, C44, hv44⟩ := (SlN.blk (sl_SlN h_mv.at) (by first | omega | (simp only [List.length_cons, List.length_nil]; omega)))
          refine D_v rfl rfl (V_ixS (off := O44 + j * 2) 2 (j) rfl (es rfl (et rfl)) (et rfl) hv44 (by omega) k44 Try.underlying33 (by kernel_rfl) rfl) rfl rfl ?_
          refine D_v rfl rfl (V_fa (off' := O44 + j * 2 + 0) rfl (et rfl) Try.underlying39 rfl (by decide) rfl) rfl rfl ?_
          refine D_r rfl rfl (by kernel_rfl) (fun sx hx hF => (VR_ldC (v := .int .i64 (y44.1)) rfl (et rfl) (SlN.row mvC_len (sl_SlN ((hS37.grow hx).ro h_mv)) hv44 hy44 rfl 0 _ rfl) Try.underlying3 rfl)) rfl rfl ?_
          refine D_v rfl rfl (V_mov rfl (es rfl (es rfl (es rfl (es rfl (es rfl l0_40)))))) rfl rfl ?_
          refine D_v rfl rfl (V_mov rfl (es rfl (es rfl (es rfl (es rfl (es rfl (es rfl l11_40))))))) rfl rfl ?_
          have k45 : i < l.length := by first | omega | (simp only [List.length_cons, List.length_nil]; omega)
          obtain ⟨y45, hy45⟩ := get_some (xs := l) (k := i) k45
          have hyq45 : y45 = yi := Option.some.inj (hy45.symm.trans hyi)
          obtain ⟨B45, O45, C45, hv45⟩ := (SlN.blk (sl_SlN h_rv.at) (by first | omega | (simp only [List.length_cons, List.length_nil]; omega)))
          refine D_v rfl rfl (V_ixS (off := O45 + i) 1 (i) rfl (es rfl (et rfl)) (et rfl) hv45 (by omega) k45 Try.underlying22 (by kernel_rfl) (congrArg _ (Nat.mul_one _))) rfl rfl ?_
          refine D_r rfl rfl (by kernel_rfl) (fun sx hx hF => (VR_ldC rfl (et rfl) ((sl_SlN ((hS37.grow hx).ro h_rv)).cell hv45 (map_get hy45)) Try.underlying3 rfl)) rfl rfl ?_
          refine D_v rfl rfl (V_eql rfl (es rfl (es rfl (es rfl (es rfl (et rfl))))) (et rfl)) rfl rfl ?_
          refine ZS_none hS37 (Nat.le_refl _) (Nat.le_refl _) (fun s46 hJ46 hL46 hF46 => ?_)
          have hS46 := hJ46.st; clear hF46 hJ46 hL46
          generalize s46.1 = w46 at *
          replace hS46 : St w NoX [c21_37] w46 := hS46
          refine gen_Q (fun A47 hA47 => ?_)
          have hsz47 : SzN A47 74 := by rw [hA47]; infer_instance
          have hdf47 : A47.defers = [] := by rw [hA47]; simp only [df_put]; exact hdf40
          have l0_47 := lookE hA47 0 (es rfl (es rfl (es rfl (es rfl (es rfl (es rfl (es rfl (es rfl (es rfl (es rfl l0_40))))))))))
          have l1_47 := lookE hA47 1 (es rfl (es rfl (es rfl (es rfl (es rfl (es rfl (es rfl (es rfl (es rfl (es rfl l1_40))))))))))
          have l9_47 := lookE hA47 9 (es rfl (es rfl (es rfl (es rfl (es rfl (es rfl (es rfl (es rfl (es rfl (es rfl l9_40))))))))))
          have l10_47 := lookE hA47 10 (es rfl (es rfl (es rfl (es rfl (es rfl (es rfl (es rfl (es rfl (es rfl (es rfl l10_40))))))))))
          have l11_47 := lookE hA47 11 (es rfl (es rfl (es rfl (es rfl (es rfl (es rfl (es rfl (es rfl (es rfl (es rfl l11_40))))))))))
          have l12_47 := lookE hA47 12 (es rfl (es rfl (es rfl (es rfl (es rfl (es rfl (es rfl (es rfl (es rfl (es rfl l12_40))))))))))
          have l52_47 := lookE hA47 52 (et rfl)
          clear hA47 hsz40 hdf40 l0_40 l1_40 l9_40 l10_40 l11_40 l12_40 l40_40
          refine then_n (hK43 _ _ ?_)
          clear hK43
          refine cond_dec l52_47 (fun c48 => ?_) (fun c48 => ?_)
          · skip
            -- region 15
            refine region_in ?_
            refine W_v rfl rfl (V_mov rfl l9_47) ?_
            refine W_v rfl rfl (V_mov rfl (es rfl l11_47)) ?_
            refine W_v rfl rfl (V_mov rfl (es rfl (es rfl l1_47))) ?_
            refine W_v rfl rfl (V_mov rfl (es rfl (es rfl (es rfl l12_47)))) ?_
            refine W_v rfl rfl (V_ixS (off := O44 + j * 2) 2 (j) rfl (es rfl (et rfl)) (et rfl) hv44 (by omega) k44 Try.underlying33 (by kernel_rfl) rfl) ?_
            refine W_v rfl rfl (V_fa (off' := O44 + j * 2 + 1) rfl (et rfl) Try.underlying39 rfl (by decide) rfl) ?_
            refine W_r rfl rfl (VR_ldC (v := .int .i64 (y44.2)) rfl (et rfl) (SlN.row mvC_len (sl_SlN (hS46.ro h_mv)) hv44 hy44 rfl 1 _ rfl) Try.underlying3 rfl) ?_
            have k50 : i < ((fwK l ms i).set i (fwj ms j yi)).length := by first | omega | (simp only [List.length_cons, List.length_nil]; omega)
            obtain ⟨y50, hy50⟩ := get_some (xs := ((fwK l ms i).set i (fwj ms j yi))) (k := i) k50
            have hyo50 := set_at hy50
            obtain ⟨B50, O50, C50, hv50⟩ := (SlN.blk (ow_at (hS46.chq 0 rfl hc21_37)) (by first | omega | (simp only [List.length_cons, List.length_nil]; omega)))
            refine W_v rfl rfl (V_ixS (off := O50 + i) 1 (i) rfl (es rfl (es rfl (es rfl (es rfl (es rfl (es rfl (et rfl))))))) (es rfl (es rfl (es rfl (es rfl (es rfl (et rfl)))))) hv50 (by omega) k50 Try.underlying22 (by kernel_rfl) (congrArg _ (Nat.mul_one _))) ?_
            refine W_stE 0 hS46 rfl hc21_37 hv50 rfl rfl rfl (et rfl) (es rfl (et rfl)) (by rfl) rfl (by first | (simp only [List.length_map]; omega) | omega) (by kernel_rfl) (fun w51 c51 hc51 hS51 => ?_)
            replace hc51 : c51 = io .i64 v21 (((fwK l ms i).set i (fwj ms j yi)).set i y44.2) := hc51.trans (by simp [io, bo, List.map_set] <;> rfl)
            replace hS51 : St w NoX [c51] w51 := hS51
            refine W_end ?_
            refine gen_Q (fun A52 hA52 => ?_)
            have hsz52 : SzN A52 74 := by rw [hA52]; infer_instance
            have hdf52 : A52.defers = [] := by rw [hA52]; simp only [df_put]; exact hdf47
            have l0_52 := lookE hA52 0 (es rfl (es rfl (es rfl (es rfl (es rfl (es rfl (es rfl (es rfl l0_47))))))))
            have l1_52 := lookE hA52 1 (es rfl (es rfl (es rfl (es rfl (es rfl (es rfl (es rfl (es rfl l1_47))))))))
            have l9_52 := lookE hA52 9 (es rfl (es rfl (es rfl (es rfl (es rfl (es rfl (es rfl (es rfl l9_47))))))))
            have l10_52 := lookE hA52 10 (es rfl (es rfl (es rfl (es rfl (es rfl (es rfl (es rfl (es rfl l10_47))))))))
            have l11_52 := lookE hA52 11 (es rfl (es rfl (es rfl (es rfl (es rfl (es rfl (es rfl (es rfl l11_47))))))))
            have l12_52 := lookE hA52 12 (es rfl (es rfl (es rfl (es rfl (es rfl (es rfl (es rfl (es rfl l12_47))))))))
            clear hA52 hsz47 hdf47 l0_47 l1_47 l9_47 l10_47 l11_47 l12_47 l52_47
            refine inb_n ?_
            refine then_n (hK42 _ _ ?_)
            clear hK42
            -- region 13
            refine region_in ?_
            refine W_v rfl rfl (V_mov rfl l12_52) ?_
            refine W_v rfl rfl (V_add rfl (et rfl) rfl (by omega) (by omega)) ?_
            refine W_v rfl rfl (V_asg rfl (et rfl)) ?_
            refine W_end ?_
            refine gen_Q (fun A53 hA53 => ?_)
            have hsz53 : SzN A53 74 := by rw [hA53]; infer_instance
            have hdf53 : A53.defers = [] := by rw [hA53]; simp only [df_put]; exact hdf52
            have l0_53 := lookE hA53 0 (es rfl (es rfl (es rfl l0_52)))
            have l1_53 := lookE hA53 1 (es rfl (es rfl (es rfl l1_52)))
            have l9_53 := lookE hA53 9 (es rfl (es rfl (es rfl l9_52)))
            have l10_53 := lookE hA53 10 (es rfl (es rfl (es rfl l10_52)))
            have l11_53 := lookE hA53 11 (es rfl (es rfl (es rfl l11_52)))
            have l12_53 := lookE hA53 12 (et rfl)
            clear hA53 hsz52 hdf52 l0_52 l1_52 l9_52 l10_52 l11_52 l12_52
            refine then_n ⟨ms.length - (j + 1), by simp only [hm37]; omega, hsz53, hdf53, (j + 1), rfl, (by omega), (by rw [List.length_set]; exact hkl), ((l12_53).trans (by first | rfl | (simp; done) | (congr 1; omega))), ((l0_53).trans l0_36.symm), ((l1_53).trans l1_36.symm), ((l9_53).trans l9_36.symm), ((l10_53).trans l10_36.symm), ((l11_53).trans l11_36.symm), (by have q0 : c51 = io .i64 v21 ((fwK l ms i).set i (fwj ms (j + 1) yi)) := hc51.trans ((congrArg (io .i64 _) (by rw [List.set_set, fwj_hit hmv hy44 (by omega)]))); subst q0; exact hS51)⟩
          · skip
            refine wp_skip ?_
            refine inb_n ?_
            refine then_n (hK42 _ _ ?_)
            clear hK42
            -- region 13
            refine region_in ?_
            refine W_v rfl rfl (V_mov rfl l12_47) ?_
            refine W_v rfl rfl (V_add rfl (et rfl) rfl (by omega) (by omega)) ?_
            refine W_v rfl rfl (V_asg rfl (et rfl)) ?_
            refine W_end ?_
            refine gen_Q (fun A54 hA54 => ?_)
            have hsz54 : SzN A54 74 := by rw [hA54]; infer_instance
            have hdf54 : A54.defers = [] := by rw [hA54]; simp only [df_put]; exact hdf47
            have l0_54 := lookE hA54 0 (es rfl (es rfl (es rfl l0_47)))
            have l1_54 := lookE hA54 1 (es rfl (es rfl (es rfl l1_47)))
            have l9_54 := lookE hA54 9 (es rfl (es rfl (es rfl l9_47)))
            have l10_54 := lookE hA54 10 (es rfl (es rfl (es rfl l10_47)))
            have l11_54 := lookE hA54 11 (es rfl (es rfl (es rfl l11_47)))
            have l12_54 := lookE hA54 12 (et rfl)
            clear hA54 hsz47 hdf47 l0_47 l1_47 l9_47 l10_47 l11_47 l12_47 l52_47
            refine then_n ⟨ms.length - (j + 1), by simp only [hm37]; omega, hsz54, hdf54, (j + 1), rfl, (by omega), (by rw [List.length_set]; exact hkl), ((l12_54).trans (by first | rfl | (simp; done) | (congr 1; omega))), ((l0_54).trans l0_36.symm), ((l1_54).trans l1_36.symm), ((l9_54).trans l9_36.symm), ((l10_54).trans l10_36.symm), ((l11_54).trans l11_36.symm), (by have q0 : c21_37 = io .i64 v21 ((fwK l ms i).set i (fwj ms (j + 1) yi)) := hc21_37.trans ((congrArg (io .i64 _) (by rw [fwj_miss hy44 (by omega)]))); subst q0; exact hS46)⟩
        · skip
          refine wp_exit ?_
          refine then_exit ?_
          refine then_exit ?_
          refine inb_hit ?_
          refine then_n (hK34 _ _ ?_)
          clear hK34
          refine wp_seq_k (fun K55 hK55 => ?_)
          -- region 16
          refine region_monoS 9 9 [] (by kernel_rfl) (by kernel_rfl) ?_
          refine D_v rfl rfl (V_mov rfl l9_40) rfl rfl ?_
          refine D_v rfl rfl (V_mov rfl (es rfl l11_40)) rfl rfl ?_
          have k56 : i < ((fwK l ms i).set i (fwj ms j yi)).length := by first | omega | (simp only [List.length_cons, List.length_nil]; omega)
          obtain ⟨y56, hy56⟩ := get_some (xs := ((fwK l ms i).set i (fwj ms j yi))) (k := i) k56
          have hyo56 := set_at hy56
          obtain ⟨B56, O56, C56, hv56⟩ := (SlN.blk (ow_at (hS37.chq 0 rfl hc21_37)) (by first | omega | (simp only [List.length_cons, List.length_nil]; omega)))
          refine D_v rfl rfl (V_ixS (off := O56 + i) 1 (i) rfl (es rfl (et rfl)) (et rfl) hv56 (by omega) k56 Try.underlying22 (by kernel_rfl) (congrArg _ (Nat.mul_one _))) rfl rfl ?_
          refine D_r rfl rfl (by kernel_rfl) (fun sx hx hF => (VR_ldC rfl (et rfl) ((ow_at ((hS37.grow hx).chq 0 rfl hc21_37)).cell hv56 (map_get hy56)) Try.underlying3 rfl)) rfl rfl ?_
          refine D_v rfl rfl (V_mov rfl (es rfl (es rfl (es rfl (es rfl l0_40))))) rfl rfl ?_
          refine D_v rfl rfl (V_mov rfl (es rfl (es rfl (es rfl (es rfl (es rfl l11_40)))))) rfl rfl ?_
          have k57 : i < l.length := by first | omega | (simp only [List.length_cons, List.length_nil]; omega)
          obtain ⟨y57, hy57⟩ := get_some (xs := l) (k := i) k57
          have hyq57 : y57 = yi := Option.some.inj (hy57.symm.trans hyi)
          obtain ⟨B57, O57, C57, hv57⟩ := (SlN.blk (sl_SlN h_rv.at) (by first | omega | (simp only [List.length_cons, List.length_nil]; omega)))
          refine D_v rfl rfl (V_ixS (off := O57 + i) 1 (i) rfl (es rfl (et rfl)) (et rfl) hv57 (by omega) k57 Try.underlying22 (by kernel_rfl) (congrArg _ (Nat.mul_one _))) rfl rfl ?_
          refine D_r rfl rfl (by kernel_rfl) (fun sx hx hF => (VR_ldC rfl (et rfl) ((sl_SlN ((hS37.grow hx).ro h_rv)).cell hv57 (map_get hy57)) Try.underlying3 rfl)) rfl rfl ?_
          refine D_v rfl rfl (V_neq rfl (es rfl (es rfl (es rfl (es rfl (et rfl))))) (et rfl)) rfl rfl ?_
          refine ZS_none hS37 (Nat.le_refl _) (Nat.le_refl _) (fun s58 hJ58 hL58 hF58 => ?_)
          have hS58 := hJ58.st; clear hF58 hJ58 hL58
          generalize s58.1 = w58 at *
          replace hS58 : St w NoX [c21_37] w58 := hS58
          refine gen_Q (fun A59 hA59 => ?_)
          have hsz59 : SzN A59 74 := by rw [hA59]; infer_instance
          have hdf59 : A59.defers = [] := by rw [hA59]; simp only [df_put]; exact hdf40
          have l0_59 := lookE hA59 0 (es rfl (es rfl (es rfl (es rfl (es rfl (es rfl (es rfl (es rfl (es rfl l0_40)))))))))
          have l1_59 := lookE hA59 1 (es rfl (es rfl (es rfl (es rfl (es rfl (es rfl (es rfl (es rfl (es rfl l1_40)))))))))
          have l9_59 := lookE hA59 9 (es rfl (es rfl (es rfl (es rfl (es rfl (es rfl (es rfl (es rfl (es rfl l9_40)))))))))
          have l10_59 := lookE hA59 10 (es rfl (es rfl (es rfl (es rfl (es rfl (es rfl (es rfl (es rfl (es rfl l10_40)))))))))
          have l11_59 := lookE hA59 11 (es rfl (es rfl (es rfl (es rfl (es rfl (es rfl (es rfl (es rfl (es rfl l11_40)))))))))
          have l69_59 := lookE hA59 69 (et rfl)
          clear hA59 hsz40 hdf40 l0_40 l1_40 l9_40 l10_40 l11_40 l12_40 l40_40
          refine then_n (hK55 _ _ ?_)
          clear hK55
          refine cond_dec l69_59 (fun c60 => ?_) (fun c60 => ?_)
          · skip
            -- region 17
            refine region_in ?_
            refine W_v rfl rfl (V_mov rfl l10_59) ?_
            refine W_v rfl rfl (V_add rfl (et rfl) rfl (by omega) (by omega)) ?_
            refine W_v rfl rfl (V_asg rfl (et rfl)) ?_
            refine W_end ?_
            refine gen_Q (fun A61 hA61 => ?_)
            have hsz61 : SzN A61 74 := by rw [hA61]; infer_instance
            have hdf61 : A61.defers = [] := by rw [hA61]; simp only [df_put]; exact hdf59
            have l0_61 := lookE hA61 0 (es rfl (es rfl (es rfl l0_59)))
            have l1_61 := lookE hA61 1 (es rfl (es rfl (es rfl l1_59)))
            have l9_61 := lookE hA61 9 (es rfl (es rfl (es rfl l9_59)))
            have l10_61 := lookE hA61 10 (et rfl)
            have l11_61 := lookE hA61 11 (es rfl (es rfl (es rfl l11_59)))
            clear hA61 hsz59 hdf59 l0_59 l1_59 l9_59 l10_59 l11_59 l69_59
            refine inb_n ?_
            refine then_n (hK33 _ _ ?_)
            clear hK33
            -- region 10
            refine region_in ?_
            refine W_v rfl rfl (V_mov rfl l11_61) ?_
            refine W_v rfl rfl (V_add rfl (et rfl) rfl (by omega) (by omega)) ?_
            refine W_v rfl rfl (V_asg rfl (et rfl)) ?_
            refine W_end ?_
            refine gen_Q (fun A62 hA62 => ?_)
            have hsz62 : SzN A62 74 := by rw [hA62]; infer_instance
            have hdf62 : A62.defers = [] := by rw [hA62]; simp only [df_put]; exact hdf61
            have l0_62 := lookE hA62 0 (es rfl (es rfl (es rfl l0_61)))
            have l1_62 := lookE hA62 1 (es rfl (es rfl (es rfl l1_61)))
            have l9_62 := lookE hA62 9 (es rfl (es rfl (es rfl l9_61)))
            have l10_62 := lookE hA62 10 (es rfl (es rfl (es rfl l10_61)))
            have l11_62 := lookE hA62 11 (et rfl)
            clear hA62 hsz61 hdf61 l0_61 l1_61 l9_61 l10_61 l11_61
            refine then_n ⟨l.length - (i + 1), by simp only [hm28]; omega, hsz62, hdf62, (i + 1), rfl, (by omega), (fwC_bd _ _ _), (fwK_len _ _ _), ((l11_62).trans (by first | rfl | (simp; done) | (congr 1; omega))), ((l10_62).trans ((by rw [fwC_ne hyi (by have hq := (fwj_all (ms := ms) (j := j) (a := yi) (by omega)); omega)]))), ((l0_62).trans l0_27.symm), ((l1_62).trans l1_27.symm), ((l9_62).trans l9_27.symm), (by have q0 : c21_37 = io .i64 v21 (fwK l ms (i + 1)) := hc21_37.trans ((congrArg (io .i64 _) (by rw [fwj_all (by omega), fwK_set hyi]))); subst q0; exact hS58)⟩
          · skip
            refine wp_skip ?_
            refine inb_n ?_
            refine then_n (hK33 _ _ ?_)
            clear hK33
            -- region 10
            refine region_in ?_
            refine W_v rfl rfl (V_mov rfl l11_59) ?_
            refine W_v rfl rfl (V_add rfl (et rfl) rfl (by omega) (by omega)) ?_
            refine W_v rfl rfl (V_asg rfl (et rfl)) ?_
            refine W_end ?_
            refine gen_Q (fun A63 hA63 => ?_)
            have hsz63 : SzN A63 74 := by rw [hA63]; infer_instance
            have hdf63 : A63.defers = [] := by rw [hA63]; simp only [df_put]; exact hdf59
            have l0_63 := lookE hA63 0 (es rfl (es rfl (es rfl l0_59)))
            have l1_63 := lookE hA63 1 (es rfl (es rfl (es rfl l1_59)))
            have l9_63 := lookE hA63 9 (es rfl (es rfl (es rfl l9_59)))
            have l10_63 := lookE hA63 10 (es rfl (es rfl (es rfl l10_59)))
            have l11_63 := lookE hA63 11 (et rfl)
            clear hA63 hsz59 hdf59 l0_59 l1_59 l9_59 l10_59 l11_59 l69_59
            refine then_n ⟨l.length - (i + 1), by simp only [hm28]; omega, hsz63, hdf63, (i + 1), rfl, (by omega), (fwC_bd _ _ _), (fwK_len _ _ _), ((l11_63).trans (by first | rfl | (simp; done) | (congr 1; omega))), ((l10_63).trans ((by rw [fwC_eq hyi (by have hq := (fwj_all (ms := ms) (j := j) (a := yi) (by omega)); omega)]))), ((l0_63).trans l0_27.symm), ((l1_63).trans l1_27.symm), ((l9_63).trans l9_27.symm), (by have q0 : c21_37 = io .i64 v21 (fwK l ms (i + 1)) := hc21_37.trans ((congrArg (io .i64 _) (by rw [fwj_all (by omega), fwK_set hyi]))); subst q0; exact hS58)⟩
      · skip
        refine wp_exit ?_
        refine then_exit ?_
        refine then_exit ?_
        refine inb_hit ?_
        refine then_n (hK25 _ _ ?_)
        clear hK25
        refine wp_seq_k (fun K64 hK64 => ?_)
        -- region 18
        refine region_in ?_
        refine W_v rfl rfl (V_mov rfl l9_31) ?_
        refine W_v rfl rfl (V_mov rfl (es rfl l10_31)) ?_
        refine W_v rfl rfl (V_asg rfl (es rfl (et rfl))) ?_
        refine W_v rfl rfl (V_asg rfl (es rfl (et rfl))) ?_
        refine W_v rfl rfl (V_asg rfl rfl) ?_
        refine W_end ?_
        refine gen_Q (fun A65 hA65 => ?_)
        have hsz65 : SzN A65 74 := by rw [hA65]; infer_instance
        have hdf65 : A65.defers = [] := by rw [hA65]; simp only [df_put]; exact hdf31
        have l4_65 := lookE hA65 4 (es rfl (es rfl (et rfl)))
        have l5_65 := lookE hA65 5 (es rfl (et rfl))
        have l6_65 := lookE hA65 6 (et rfl)
        clear hA65 hsz31 hdf31 l0_31 l1_31 l9_31 l10_31 l11_31 l34_31
        refine then_n (hK64 _ _ ?_)
        clear hK64
        refine wp_ret ?_
        refine ret_in (results_3 Try.results21 (rv_tmp l4_65) (rv_tmp l5_65) (rv_tmp l6_65)) hdf65 ?_
        -- leaf TFF
        have h : fwE l ms = 0 := (fwE_mv hck).trans hmv
        have h2 := fw_ok h
        rw [h, h2.2, ← fwC_all (k := i) (by omega)]
        exact ⟨_, rfl, (hS28.fin1 0 rfl (hc21_28.trans (by rw [h2.1, fwK_all (by omega)])))⟩
  · skip
    refine wp_skip ?_
    refine then_n (hK6 _ _ ?_)
    clear hK6
    refine wp_seq_k (fun K66 hK66 => ?_)
    refine wp_seq_k (fun K67 hK67 => ?_)
    -- region 4
    refine region_in ?_
    refine W_v rfl rfl (V_mov rfl l8_8) ?_
    refine W_v rfl rfl (V_neq rfl (et rfl) rfl) ?_
    refine W_end ?_
    refine gen_Q (fun A68 hA68 => ?_)
    have hsz68 : SzN A68 74 := by rw [hA68]; infer_instance
    have hdf68 : A68.defers = [] := by rw [hA68]; simp only [df_put]; exact hdf8
    have l0_68 := lookE hA68 0 (es rfl (es rfl l0_8))
    have l1_68 := lookE hA68 1 (es rfl (es rfl l1_8))
    have l8_68 := lookE hA68 8 (es rfl (es rfl l8_8))
    have l26_68 := lookE hA68 26 (et rfl)
    clear hA68 hsz8 hdf8 l0_8 l1_8 l8_8 l19_8
    refine then_n (hK67 _ _ ?_)
    clear hK67
    refine cond_sure l26_68 (by simp [c9]) ?_
    refine wp_seq_k (fun K69 hK69 => ?_)
    -- region 5
    refine region_in ?_
    refine W_v rfl rfl (V_mov rfl l8_68) ?_
    refine W_v rfl rfl (V_asg rfl rfl) ?_
    refine W_v rfl rfl (V_asg rfl rfl) ?_
    refine W_v rfl rfl (V_asg rfl (es rfl (es rfl (et rfl)))) ?_
    refine W_end ?_
    refine gen_Q (fun A70 hA70 => ?_)
    have hsz70 : SzN A70 74 := by rw [hA70]; infer_instance
    have hdf70 : A70.defers = [] := by rw [hA70]; simp only [df_put]; exact hdf68
    have l4_70 := lookE hA70 4 (es rfl (es rfl (et rfl)))
    have l5_70 := lookE hA70 5 (es rfl (et rfl))
    have l6_70 := lookE hA70 6 (et rfl)
    clear hA70 hsz68 hdf68 l0_68 l1_68 l8_68 l26_68
    refine then_n (hK69 _ _ ?_)
    clear hK69
    refine wp_ret ?_
    refine then_ret ?_
    refine ret_in (results_3 Try.results21 (rv_tmp l4_70) (rv_tmp l5_70) (rv_tmp l6_70)) hdf70 ?_
    -- leaf F
    obtain ⟨c71, hc71, hS71⟩ := hS4.pnil (s := 1)
    have h : fwE l ms = (ckR l).2 := by first | exact fwE_ck (by assumption) | (rw [fwE_ck (l := l) (ms := ms) (by first | assumption | (rw [← hnn]; assumption))]; first | rfl | exact hnn.symm) | exact fwE_mv (l := l) (ms := ms) (by assumption)
    have h2 := fw_err (l := l) (ms := ms) (by rw [h]; assumption)
    rw [h, h2.2]
    exact ⟨_, rfl, (hS71.fin1 0 rfl (hc71.trans (by rw [h2.1] <;> rfl)))⟩

end Go.Proofs.Ytbnijekjaafoaaa