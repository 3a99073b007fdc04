import Derived.Test.YtbnijekjaafoaaaProg
import Derived.Test.YtbnijekjaafoaaaRt2
import Derived.Test.YtbnijekjaafoaaaPl19c
import Derived.Test.YtbnijekjaafoaaaSepS
import Derived.Test.YtbnijekjaafoaaaSh19
namespace Go.Proofs.Ytbnijekjaafoaaa
open Go.RowKit Go.Own Go.Own.R


set_option maxHeartbeats 4000000 in
theorem kIn_c {rv : Value} {l : List Int} {f : Int} {t : Int} {w : World} (h_rv : Ro w NoX (il .i64 rv l))  :
    Calls Try.prog 13 #[rv, .int .i64 f, .int .i64 t] w fun e w' => e = .returned (.tuple #[.int .i64 (inI l f t), .int .i64 (inN l f t), .int .i64 (inE l f t)]) ∧ St w NoX [] w' := by
  refine calls_in 62 Try.func13 rfl rfl (by simp) (fun A0 hsz0 hdf0 hargs => ?_)
  have l0_0 := hargs 0 (rv) rfl
  have l1_0 := hargs 1 (.int .i64 f) rfl
  have l2_0 := hargs 2 (.int .i64 t) rfl
  clear hargs; replace hsz0 : SzN A0 62 := ⟨hsz0⟩
  have hS := St.nil w
  have bh_rv := SlN.le (sl_SlN h_rv.at)
  refine wp_seq_k (fun K1 hK1 => ?_)
  -- region 0
  refine region_in ?_
  refine W_v rfl rfl (V_asg rfl rfl) ?_
  refine W_v rfl rfl (V_asg rfl rfl) ?_
  refine W_v rfl rfl (V_asg rfl rfl) ?_
  refine W_end ?_
  refine gen_Q (fun A2 hA2 => ?_)
  have hsz2 : SzN A2 62 := by rw [hA2]; infer_instance
  have hdf2 : A2.defers = [] := by rw [hA2]; simp only [df_put]; exact hdf0
  have l0_2 := lookE hA2 0 (es rfl (es rfl (es rfl l0_0)))
  have l1_2 := lookE hA2 1 (es rfl (es rfl (es rfl l1_0)))
  have l2_2 := lookE hA2 2 (es rfl (es rfl (es rfl l2_0)))
  have l7_2 := lookE hA2 7 (es rfl (et rfl))
  clear hA2 hsz0 hdf0 l0_0 l1_0 l2_0
  refine then_n (hK1 _ _ ?_)
  clear hK1
  refine wp_seq_k (fun K3 hK3 => ?_)
  -- region 1
  refine region_in ?_
  refine W_v rfl rfl (V_mov rfl l0_2) ?_
  refine W_call rfl rfl rfl Try.func35 (by kernel_rfl) rfl (args2 (et rfl) rfl) (nm_c (ns := []) (nv := .slice none 0 0) (hS.roC h_rv) ro_nil ) ?_
  rintro _ w4 ⟨v_4, rfl, hP4⟩
  refine ⟨_, rfl, ?_⟩
  obtain ⟨c_4, hc_4, hP4⟩ := gen1 hP4
  have hS4 := hS.join hP4
  replace hS4 : St w NoX [c_4] w4 := hS4
  refine W_v rfl rfl (V_mov rfl (et rfl)) ?_
  refine W_v rfl rfl (V_ext (v := v_4) rfl (et rfl) rfl) ?_
  refine W_v rfl rfl (V_ext (v := .int .i64 ((nmE l []))) rfl (es rfl (et rfl)) rfl) ?_
  refine W_v rfl rfl (V_asg rfl (es rfl (et rfl))) ?_
  refine W_v rfl rfl (V_asg rfl (es rfl (et rfl))) ?_
  refine W_end ?_
  refine gen_Q (fun A5 hA5 => ?_)
  have hsz5 : SzN A5 62 := by rw [hA5]; infer_instance
  have hdf5 : A5.defers = [] := by rw [hA5]; simp only [df_put]; exact hdf2
  have l1_5 := lookE hA5 1 (es rfl (es rfl (es rfl (es rfl (es rfl (es rfl (es rfl l1_2)))))))
  have l2_5 := lookE hA5 2 (es rfl (es rfl (es rfl (es rfl (es rfl (es rfl (es rfl l2_2)))))))
  have l7_5 := lookE hA5 7 (es rfl (es rfl (es rfl (es rfl (es rfl (es rfl (es rfl l7_2)))))))
  have l8_5 := lookE hA5 8 (et rfl)
  have l9_5 := lookE hA5 9 (es rfl (et rfl))
  clear hA5 hsz2 hdf2 l0_2 l1_2 l2_2 l7_2
  refine then_n (hK3 _ _ ?_)
  clear hK3
  refine wp_seq_k (fun K6 hK6 => ?_)
  refine wp_block ?_
  refine wp_seq_k (fun K7 hK7 => ?_)
  -- region 2
  refine region_in ?_
  refine W_v rfl rfl (V_mov rfl l8_5) ?_
  refine W_v rfl rfl (V_neq rfl (et rfl) rfl) ?_
  refine W_v rfl rfl (V_asg rfl (et rfl)) ?_
  refine W_end ?_
  refine gen_Q (fun A8 hA8 => ?_)
  have hsz8 : SzN A8 62 := by rw [hA8]; infer_instance
  have hdf8 : A8.defers = [] := by rw [hA8]; simp only [df_put]; exact hdf5
  have l1_8 := lookE hA8 1 (es rfl (es rfl (es rfl l1_5)))
  have l2_8 := lookE hA8 2 (es rfl (es rfl (es rfl l2_5)))
  have l7_8 := lookE hA8 7 (es rfl (es rfl (es rfl l7_5)))
  have l8_8 := lookE hA8 8 (es rfl (es rfl (es rfl l8_5)))
  have l9_8 := lookE hA8 9 (es rfl (es rfl (es rfl l9_5)))
  have l17_8 := lookE hA8 17 (et rfl)
  clear hA8 hsz5 hdf5 l1_5 l2_5 l7_5 l8_5 l9_5
  refine then_n (hK7 _ _ ?_)
  clear hK7
  refine cond_dec l17_8 (fun c9 => ?_) (fun c9 => ?_)
  · skip
    refine wp_seq_k (fun K10 hK10 => ?_)
    -- region 3
    refine region_in ?_
    refine W_v rfl rfl (V_mov rfl l8_8) ?_
    refine W_v rfl rfl (V_asg rfl rfl) ?_
    refine W_v rfl rfl (V_asg rfl rfl) ?_
    refine W_v rfl rfl (V_asg rfl (es rfl (es rfl (et rfl)))) ?_
    refine W_end ?_
    refine gen_Q (fun A11 hA11 => ?_)
    have hsz11 : SzN A11 62 := by rw [hA11]; infer_instance
    have hdf11 : A11.defers = [] := by rw [hA11]; simp only [df_put]; exact hdf8
    have l6_11 := lookE hA11 6 (es rfl (es rfl (et rfl)))
    have l7_11 := lookE hA11 7 (es rfl (et rfl))
    have l8_11 := lookE hA11 8 (et rfl)
    clear hA11 hsz8 hdf8 l1_8 l2_8 l7_8 l8_8 l9_8 l17_8
    have hS12 : St w NoX [] w4 := hS4.sel [] (by decide) rfl
    refine then_n (hK10 _ _ ?_)
    clear hK10
    refine wp_ret ?_
    refine inb_ret ?_
    refine then_ret ?_
    refine ret_in (results_3 Try.results13 (rv_tmp l6_11) (rv_tmp l7_11) (rv_tmp l8_11)) hdf11 ?_
    -- leaf T
    have hnn := nmE_nil l
    have h : inE l f t = (nmE l []) := by rw [inE_ck (by rw [← hnn]; exact c9), hnn]
    have h2 := in_err (l := l) (f := f) (t := t) (by rw [h]; first | assumption | decide)
    rw [h2.1, h2.2, h]
    exact ⟨rfl, hS12.fin0⟩
  · skip
    have hck : (ckR l).2 = 0 := by rw [← nmE_nil]; simpa using c9
    have hE : nmE l [] = 0 := by rw [nmE_nil]; exact hck
    obtain ⟨hl1, hl8, hin0⟩ := ckR_good hck
    have hT := nmT_ok hE
    have hTl : (nmT l []).length = l.length := by rw [hT]
    refine wp_seq_k (fun K13 hK13 => ?_)
    -- region 4
    refine region_in ?_
    refine W_v rfl rfl (V_mov rfl l1_8) ?_
    refine W_v rfl rfl (V_lss rfl (et rfl) rfl) ?_
    refine W_split rfl rfl (V_mov rfl (et rfl)) (fun c14 => ?_) (fun c14 => ?_)
    · skip
      refine W_off rfl (wanted_f rfl rfl (et rfl) (ez rfl) rfl) ?_
      refine W_off rfl (wanted_f rfl rfl (es rfl (et rfl)) (ez rfl) rfl) ?_
      refine W_v rfl rfl (V_pickT rfl (es rfl (es rfl (et rfl))) rfl) ?_
      refine W_v rfl rfl (V_mov rfl (et rfl)) ?_
      refine W_off rfl (wanted_f rfl rfl (et rfl) (ez rfl) rfl) ?_
      refine W_off rfl (wanted_f rfl rfl (es rfl (et rfl)) (ez rfl) rfl) ?_
      refine W_off rfl (wanted_f rfl rfl (es rfl (es rfl (et rfl))) (ez rfl) rfl) ?_
      refine W_v rfl rfl (V_pickT rfl (es rfl (es rfl (es rfl (et rfl)))) rfl) ?_
      refine W_v rfl rfl (V_asg rfl (et rfl)) ?_
      refine W_end ?_
      refine gen_Q (fun A15 hA15 => ?_)
      have hsz15 : SzN A15 62 := by rw [hA15]; infer_instance
      have hdf15 : A15.defers = [] := by rw [hA15]; simp only [df_put]; exact hdf8
      have l1_15 := lookE hA15 1 (es rfl (es rfl (es rfl (es rfl (es rfl (es rfl (es rfl (es rfl (es rfl (es rfl (es rfl (es rfl l1_8))))))))))))
      have l2_15 := lookE hA15 2 (es rfl (es rfl (es rfl (es rfl (es rfl (es rfl (es rfl (es rfl (es rfl (es rfl (es rfl (es rfl l2_8))))))))))))
      have l7_15 := lookE hA15 7 (es rfl (es rfl (es rfl (es rfl (es rfl (es rfl (es rfl (es rfl (es rfl (es rfl (es rfl (es rfl l7_8))))))))))))
      have l9_15 := lookE hA15 9 (es rfl (es rfl (es rfl (es rfl (es rfl (es rfl (es rfl (es rfl (es rfl (es rfl (es rfl (es rfl l9_8))))))))))))
      have l21_15 := lookE hA15 21 (et rfl)
      clear hA15 hsz8 hdf8 l1_8 l2_8 l7_8 l8_8 l9_8 l17_8
      refine then_n (hK13 _ _ ?_)
      clear hK13
      refine cond_t l21_15 ?_
      refine wp_seq_k (fun K16 hK16 => ?_)
      -- region 5
      refine region_in ?_
      refine W_v rfl rfl (V_asg rfl rfl) ?_
      refine W_v rfl rfl (V_asg rfl rfl) ?_
      refine W_v rfl rfl (V_asg rfl rfl) ?_
      refine W_end ?_
      refine gen_Q (fun A17 hA17 => ?_)
      have hsz17 : SzN A17 62 := by rw [hA17]; infer_instance
      have hdf17 : A17.defers = [] := by rw [hA17]; simp only [df_put]; exact hdf15
      have l6_17 := lookE hA17 6 (es rfl (es rfl (et rfl)))
      have l7_17 := lookE hA17 7 (es rfl (et rfl))
      have l8_17 := lookE hA17 8 (et rfl)
      clear hA17 hsz15 hdf15 l1_15 l2_15 l7_15 l9_15 l21_15
      have hS18 : St w NoX [] w4 := hS4.sel [] (by decide) rfl
      refine then_n (hK16 _ _ ?_)
      clear hK16
      refine wp_ret ?_
      refine inb_ret ?_
      refine then_ret ?_
      refine ret_in (results_3 Try.results13 (rv_tmp l6_17) (rv_tmp l7_17) (rv_tmp l8_17)) hdf17 ?_
      -- leaf FT
      have hnn := nmE_nil l
      have h : inE l f t = 7 := by exact inE_rg hck (by omega)
      have h2 := in_err (l := l) (f := f) (t := t) (by rw [h]; first | assumption | decide)
      rw [h2.1, h2.2, h]
      exact ⟨rfl, hS18.fin0⟩
    · skip
      refine W_v rfl (wanted_t rfl rfl (et rfl) (ez rfl)) (V_mov rfl (es rfl (es rfl (es rfl l2_8)))) ?_
      refine W_v rfl (wanted_t rfl rfl (es rfl (et rfl)) (ez rfl)) (V_gtr rfl (et rfl) rfl) ?_
      refine W_v rfl rfl (V_pickF rfl (es rfl (es rfl (et rfl))) (et rfl)) ?_
      refine W_split rfl rfl (V_mov rfl (et rfl)) (fun c19 => ?_) (fun c19 => ?_)
      · skip
        refine W_off rfl (wanted_f rfl rfl (et rfl) (ez rfl) rfl) ?_
        refine W_off rfl (wanted_f rfl rfl (es rfl (et rfl)) (ez rfl) rfl) ?_
        refine W_off rfl (wanted_f rfl rfl (es rfl (es rfl (et rfl))) (ez rfl) rfl) ?_
        refine W_v rfl rfl (V_pickT rfl (es rfl (es rfl (es rfl (et rfl)))) rfl) ?_
        refine W_v rfl rfl (V_asg rfl (et rfl)) ?_
        refine W_end ?_
        refine gen_Q (fun A20 hA20 => ?_)
        have hsz20 : SzN A20 62 := by rw [hA20]; infer_instance
        have hdf20 : A20.defers = [] := by rw [hA20]; simp only [df_put]; exact hdf8
        have l1_20 := lookE hA20 1 (es rfl (es rfl (es rfl (es rfl (es rfl (es rfl (es rfl (es rfl (es rfl (es rfl (es rfl (es rfl l1_8))))))))))))
        have l2_20 := lookE hA20 2 (es rfl (es rfl (es rfl (es rfl (es rfl (es rfl (es rfl (es rfl (es rfl (es rfl (es rfl (es rfl l2_8))))))))))))
        have l7_20 := lookE hA20 7 (es rfl (es rfl (es rfl (es rfl (es rfl (es rfl (es rfl (es rfl (es rfl (es rfl (es rfl (es rfl l7_8))))))))))))
        have l9_20 := lookE hA20 9 (es rfl (es rfl (es rfl (es rfl (es rfl (es rfl (es rfl (es rfl (es rfl (es rfl (es rfl (es rfl l9_8))))))))))))
        have l21_20 := lookE hA20 21 (et rfl)
        clear hA20 hsz8 hdf8 l1_8 l2_8 l7_8 l8_8 l9_8 l17_8
        refine then_n (hK13 _ _ ?_)
        clear hK13
        refine cond_t l21_20 ?_
        refine wp_seq_k (fun K21 hK21 => ?_)
        -- region 5
        refine region_in ?_
        refine W_v rfl rfl (V_asg rfl rfl) ?_
        refine W_v rfl rfl (V_asg rfl rfl) ?_
        refine W_v rfl rfl (V_asg rfl rfl) ?_
        refine W_end ?_
        refine gen_Q (fun A22 hA22 => ?_)
        have hsz22 : SzN A22 62 := by rw [hA22]; infer_instance
        have hdf22 : A22.defers = [] := by rw [hA22]; simp only [df_put]; exact hdf20
        have l6_22 := lookE hA22 6 (es rfl (es rfl (et rfl)))
        have l7_22 := lookE hA22 7 (es rfl (et rfl))
        have l8_22 := lookE hA22 8 (et rfl)
        clear hA22 hsz20 hdf20 l1_20 l2_20 l7_20 l9_20 l21_20
        have hS23 : St w NoX [] w4 := hS4.sel [] (by decide) rfl
        refine then_n (hK21 _ _ ?_)
        clear hK21
        refine wp_ret ?_
        refine inb_ret ?_
        refine then_ret ?_
        refine ret_in (results_3 Try.results13 (rv_tmp l6_22) (rv_tmp l7_22) (rv_tmp l8_22)) hdf22 ?_
        -- leaf FFT
        have hnn := nmE_nil l
        have h : inE l f t = 7 := by exact inE_rg hck (by omega)
        have h2 := in_err (l := l) (f := f) (t := t) (by rw [h]; first | assumption | decide)
        rw [h2.1, h2.2, h]
        exact ⟨rfl, hS23.fin0⟩
      · skip
        refine W_v rfl (wanted_t rfl rfl (et rfl) (ez rfl)) (V_mov rfl (es rfl (es rfl (es rfl (es rfl (es rfl (es rfl (es rfl l1_8)))))))) ?_
        refine W_v rfl (wanted_t rfl rfl (es rfl (et rfl)) (ez rfl)) (V_mov rfl (es rfl (es rfl (es rfl (es rfl (es rfl (es rfl (es rfl (es rfl l2_8))))))))) ?_
        refine W_v rfl (wanted_t rfl rfl (es rfl (es rfl (et rfl))) (ez rfl)) (V_gtr rfl (es rfl (et rfl)) (et rfl)) ?_
        refine W_v rfl rfl (V_pickF rfl (es rfl (es rfl (es rfl (et rfl)))) (et rfl)) ?_
        refine W_v rfl rfl (V_asg rfl (et rfl)) ?_
        refine W_end ?_
        refine gen_Q (fun A24 hA24 => ?_)
        have hsz24 : SzN A24 62 := by rw [hA24]; infer_instance
        have hdf24 : A24.defers = [] := by rw [hA24]; simp only [df_put]; exact hdf8
        have l1_24 := lookE hA24 1 (es rfl (es rfl (es rfl (es rfl (es rfl (es rfl (es rfl (es rfl (es rfl (es rfl (es rfl (es rfl l1_8))))))))))))
        have l2_24 := lookE hA24 2 (es rfl (es rfl (es rfl (es rfl (es rfl (es rfl (es rfl (es rfl (es rfl (es rfl (es rfl (es rfl l2_8))))))))))))
        have l7_24 := lookE hA24 7 (es rfl (es rfl (es rfl (es rfl (es rfl (es rfl (es rfl (es rfl (es rfl (es rfl (es rfl (es rfl l7_8))))))))))))
        have l9_24 := lookE hA24 9 (es rfl (es rfl (es rfl (es rfl (es rfl (es rfl (es rfl (es rfl (es rfl (es rfl (es rfl (es rfl l9_8))))))))))))
        have l21_24 := lookE hA24 21 (et rfl)
        clear hA24 hsz8 hdf8 l1_8 l2_8 l7_8 l8_8 l9_8 l17_8
        refine then_n (hK13 _ _ ?_)
        clear hK13
        refine cond_dec l21_24 (fun c25 => ?_) (fun c25 => ?_)
        · skip
          refine wp_seq_k (fun K26 hK26 => ?_)
          -- region 5
          refine region_in ?_
          refine W_v rfl rfl (V_asg rfl rfl) ?_
          refine W_v rfl rfl (V_asg rfl rfl) ?_
          refine W_v rfl rfl (V_asg rfl rfl) ?_
          refine W_end ?_
          refine gen_Q (fun A27 hA27 => ?_)
          have hsz27 : SzN A27 62 := by rw [hA27]; infer_instance
          have hdf27 : A27.defers = [] := by rw [hA27]; simp only [df_put]; exact hdf24
          have l6_27 := lookE hA27 6 (es rfl (es rfl (et rfl)))
          have l7_27 := lookE hA27 7 (es rfl (et rfl))
          have l8_27 := lookE hA27 8 (et rfl)
          clear hA27 hsz24 hdf24 l1_24 l2_24 l7_24 l9_24 l21_24
          have hS28 : St w NoX [] w4 := hS4.sel [] (by decide) rfl
          refine then_n (hK26 _ _ ?_)
          clear hK26
          refine wp_ret ?_
          refine inb_ret ?_
          refine then_ret ?_
          refine ret_in (results_3 Try.results13 (rv_tmp l6_27) (rv_tmp l7_27) (rv_tmp l8_27)) hdf27 ?_
          -- leaf FFFT
          have hnn := nmE_nil l
          have h : inE l f t = 7 := by exact inE_rg hck (by omega)
          have h2 := in_err (l := l) (f := f) (t := t) (by rw [h]; first | assumption | decide)
          rw [h2.1, h2.2, h]
          exact ⟨rfl, hS28.fin0⟩
        · skip
          have hrg : ¬ (f < 0 ∨ 1601 < t ∨ t < f) := by omega
          refine wp_skip ?_
          refine inb_n ?_
          refine then_n (hK6 _ _ ?_)
          clear hK6
          refine wp_seq_k (fun K29 hK29 => ?_)
          -- region 6
          refine region_in ?_
          refine W_v rfl rfl (V_asg rfl rfl) ?_
          refine W_end ?_
          refine gen_Q (fun A30 hA30 => ?_)
          have hsz30 : SzN A30 62 := by rw [hA30]; infer_instance
          have hdf30 : A30.defers = [] := by rw [hA30]; simp only [df_put]; exact hdf24
          have l1_30 := lookE hA30 1 (es rfl l1_24)
          have l2_30 := lookE hA30 2 (es rfl l2_24)
          have l6_30 := lookE hA30 6 (et rfl)
          have l7_30 := lookE hA30 7 (es rfl l7_24)
          have l9_30 := lookE hA30 9 (es rfl l9_24)
          clear hA30 hsz24 hdf24 l1_24 l2_24 l7_24 l9_24 l21_24
          refine then_n (hK29 _ _ ?_)
          clear hK29
          refine wp_seq_k (fun K31 hK31 => ?_)
          refine wp_seq_k (fun K32 hK32 => ?_)
          -- region 7
          refine region_in ?_
          refine W_v rfl rfl (V_mov rfl l9_30) ?_
          refine W_v rfl rfl (V_lenS rfl (et rfl) (ow_at (hS4.chq 0 rfl hc_4)) Try.underlying22) ?_
          refine W_v rfl rfl (V_mov rfl rfl) ?_
          refine W_end ?_
          refine gen_Q (fun A33 hA33 => ?_)
          have hsz33 : SzN A33 62 := by rw [hA33]; infer_instance
          have hdf33 : A33.defers = [] := by rw [hA33]; simp only [df_put]; exact hdf30
          have l1_33 := lookE hA33 1 (es rfl (es rfl (es rfl l1_30)))
          have l2_33 := lookE hA33 2 (es rfl (es rfl (es rfl l2_30)))
          have l6_33 := lookE hA33 6 (es rfl (es rfl (es rfl l6_30)))
          have l7_33 := lookE hA33 7 (es rfl (es rfl (es rfl l7_30)))
          have l33_33 := lookE hA33 33 (es rfl (es rfl (et rfl)))
          have l34_33 := lookE hA33 34 (es rfl (et rfl))
          have l35_33 := lookE hA33 35 (et rfl)
          clear hA33 hsz30 hdf30 l1_30 l2_30 l6_30 l7_30 l9_30
          refine then_n (hK32 _ _ ?_)
          clear hK32
          refine wp_block ?_
          -- loop 8
          refine loopX (fun mz A' w' => SzN A' 62 ∧ A'.defers = [] ∧ (∃ (k : Nat), (mz = l.length - k) ∧ (k ≤ l.length) ∧ (0 ≤ inC l f t k ∧ inC l f t k ≤ l.length) ∧ ((inK l f t k < 0) ↔ inC l f t k = 0) ∧ (-1 ≤ inK l f t k ∧ inK l f t k < (l.take k).length) ∧ (EV A' (.tmp 35) = .int .i64 (k : Int)) ∧ (EV A' (.tmp 6) = .int .i64 (inK l f t k)) ∧ (EV A' (.tmp 7) = .int .i64 (inC l f t k)) ∧ (EV A' (.tmp 1) = EV A33 (.tmp 1)) ∧ (EV A' (.tmp 2) = EV A33 (.tmp 2)) ∧ (EV A' (.tmp 33) = EV A33 (.tmp 33)) ∧ (EV A' (.tmp 34) = EV A33 (.tmp 34)) ∧ (St w NoX [io .i64 v_4 (nmT l [])] w'))) (l.length - 0) ⟨hsz33, hdf33, 0, rfl, (by omega), (inC_bd _ _ _ _), inK_neg, (idxF_bd _ _), ((l35_33).trans (by first | rfl | (simp; done) | (congr 1; omega))), ((l6_33).trans (rfl)), ((l7_33).trans (rfl)), rfl, rfl, rfl, rfl, (by subst hc_4; exact hS4)⟩ ?_
          clear hS4 hc_4
          rintro n34 A34 w34 ⟨hsz34, hdf34, k, hm34, hk, hcb, hkn, hkb, l35_34, l6_34, l7_34, u1_34, u2_34, u33_34, u34_34, hS34⟩
          have l1_34 := u1_34.trans l1_33
          have l2_34 := u2_34.trans l2_33
          have l33_34 := u33_34.trans l33_33
          have l34_34 := u34_34.trans l34_33
          obtain ⟨c_34, hc_34, hS34⟩ := gen1 hS34
          refine wp_seq_k (fun K35 hK35 => ?_)
          -- region 8
          refine region_in ?_
          refine W_v rfl rfl (V_lss rfl l35_34 l34_34) ?_
          refine W_end ?_
          refine gen_Q (fun A36 hA36 => ?_)
          have hsz36 : SzN A36 62 := by rw [hA36]; infer_instance
          have hdf36 : A36.defers = [] := by rw [hA36]; simp only [df_put]; exact hdf34
          have l1_36 := lookE hA36 1 (es rfl l1_34)
          have l2_36 := lookE hA36 2 (es rfl l2_34)
          have l6_36 := lookE hA36 6 (es rfl l6_34)
          have l7_36 := lookE hA36 7 (es rfl l7_34)
          have l33_36 := lookE hA36 33 (es rfl l33_34)
          have l34_36 := lookE hA36 34 (es rfl l34_34)
          have l35_36 := lookE hA36 35 (es rfl l35_34)
          have l36_36 := lookE hA36 36 (et rfl)
          clear hA36 hsz34 hdf34 l35_34 l6_34 l7_34 l1_34 l2_34 l33_34 l34_34
          refine then_n (hK35 _ _ ?_)
          clear hK35
          refine wp_seq_k (fun K37 hK37 => ?_)
          refine cond_dec l36_36 (fun c38 => ?_) (fun c38 => ?_)
          · skip
            refine wp_skip ?_
            refine then_n (hK37 _ _ ?_)
            clear hK37
            refine wp_seq_k (fun K39 hK39 => ?_)
            refine wp_block ?_
            refine wp_seq_k (fun K40 hK40 => ?_)
            -- region 9
            refine region_in ?_
            refine W_v rfl rfl (V_mov rfl l35_36) ?_
            have k41 : k < (nmT l []).length := by first | omega | (simp only [List.length_cons, List.length_nil]; omega)
            obtain ⟨y41, hy41⟩ := get_some (xs := (nmT l [])) (k := k) k41
            obtain ⟨B41, O41, C41, hv41⟩ := (SlN.blk (ow_at (hS34.chq 0 rfl hc_34)) (by first | omega | (simp only [List.length_cons, List.length_nil]; omega)))
            refine W_v rfl rfl (V_ixS (off := O41 + k) 1 (k) rfl (es rfl l33_36) (es rfl l35_36) hv41 (by omega) k41 Try.underlying22 (by kernel_rfl) (congrArg _ (Nat.mul_one _))) ?_
            refine W_r rfl rfl (VR_ldC rfl (et rfl) ((ow_at (hS34.chq 0 rfl hc_34)).cell hv41 (map_get hy41)) Try.underlying3 rfl) ?_
            refine W_v rfl rfl (V_asg rfl (es rfl (es rfl (et rfl)))) ?_
            refine W_v rfl rfl (V_asg rfl (es rfl (et rfl))) ?_
            refine W_end ?_
            refine gen_Q (fun A42 hA42 => ?_)
            have hsz42 : SzN A42 62 := by rw [hA42]; infer_instance
            have hdf42 : A42.defers = [] := by rw [hA42]; simp only [df_put]; exact hdf36
            have l1_42 := lookE hA42 1 (es rfl (es rfl (es rfl (es rfl (es rfl l1_36)))))
            have l2_42 := lookE hA42 2 (es rfl (es rfl (es rfl (es rfl (es rfl l2_36)))))
            have l6_42 := lookE hA42 6 (es rfl (es rfl (es rfl (es rfl (es rfl l6_36)))))
            have l7_42 := lookE hA42 7 (es rfl (es rfl (es rfl (es rfl (es rfl l7_36)))))
            have l10_42 := lookE hA42 10 (es rfl (et rfl))
            have l11_42 := lookE hA42 11 (et rfl)
            have l33_42 := lookE hA42 33 (es rfl (es rfl (es rfl (es rfl (es rfl l33_36)))))
            have l34_42 := lookE hA42 34 (es rfl (es rfl (es rfl (es rfl (es rfl l34_36)))))
            have l35_42 := lookE hA42 35 (es rfl (es rfl (es rfl (es rfl (es rfl l35_36)))))
            clear hA42 hsz36 hdf36 l1_36 l2_36 l6_36 l7_36 l33_36 l34_36 l35_36 l36_36
            refine then_n (hK40 _ _ ?_)
            clear hK40
            refine wp_seq_k (fun K43 hK43 => ?_)
            refine wp_seq_k (fun K44 hK44 => ?_)
            -- region 10
            refine region_in ?_
            refine W_v rfl rfl (V_mov rfl l11_42) ?_
            refine W_v rfl rfl (V_eql rfl (et rfl) rfl) ?_
            refine W_split rfl rfl (V_mov rfl (et rfl)) (fun c45 => ?_) (fun c45 => ?_)
            · skip
              refine W_off rfl (wanted_f rfl rfl (et rfl) (ez rfl) rfl) ?_
              refine W_off rfl (wanted_f rfl rfl (es rfl (et rfl)) (ez rfl) rfl) ?_
              refine W_off rfl (wanted_f rfl rfl (es rfl (es rfl (et rfl))) (ez rfl) rfl) ?_
              refine W_v rfl rfl (V_pickT rfl (es rfl (es rfl (es rfl (et rfl)))) rfl) ?_
              refine W_v rfl rfl (V_mov rfl (et rfl)) ?_
              refine W_off rfl (wanted_f rfl rfl (et rfl) (ez rfl) rfl) ?_
              refine W_off rfl (wanted_f rfl rfl (es rfl (et rfl)) (ez rfl) rfl) ?_
              refine W_off rfl (wanted_f rfl rfl (es rfl (es rfl (et rfl))) (ez rfl) rfl) ?_
              refine W_v rfl rfl (V_pickT rfl (es rfl (es rfl (es rfl (et rfl)))) rfl) ?_
              refine W_end ?_
              refine gen_Q (fun A46 hA46 => ?_)
              have hsz46 : SzN A46 62 := by rw [hA46]; infer_instance
              have hdf46 : A46.defers = [] := by rw [hA46]; simp only [df_put]; exact hdf42
              have l1_46 := lookE hA46 1 (es rfl (es rfl (es rfl (es rfl (es rfl (es rfl (es rfl (es rfl (es rfl (es rfl (es rfl (es rfl l1_42))))))))))))
              have l2_46 := lookE hA46 2 (es rfl (es rfl (es rfl (es rfl (es rfl (es rfl (es rfl (es rfl (es rfl (es rfl (es rfl (es rfl l2_42))))))))))))
              have l6_46 := lookE hA46 6 (es rfl (es rfl (es rfl (es rfl (es rfl (es rfl (es rfl (es rfl (es rfl (es rfl (es rfl (es rfl l6_42))))))))))))
              have l7_46 := lookE hA46 7 (es rfl (es rfl (es rfl (es rfl (es rfl (es rfl (es rfl (es rfl (es rfl (es rfl (es rfl (es rfl l7_42))))))))))))
              have l10_46 := lookE hA46 10 (es rfl (es rfl (es rfl (es rfl (es rfl (es rfl (es rfl (es rfl (es rfl (es rfl (es rfl (es rfl l10_42))))))))))))
              have l33_46 := lookE hA46 33 (es rfl (es rfl (es rfl (es rfl (es rfl (es rfl (es rfl (es rfl (es rfl (es rfl (es rfl (es rfl l33_42))))))))))))
              have l34_46 := lookE hA46 34 (es rfl (es rfl (es rfl (es rfl (es rfl (es rfl (es rfl (es rfl (es rfl (es rfl (es rfl (es rfl l34_42))))))))))))
              have l35_46 := lookE hA46 35 (es rfl (es rfl (es rfl (es rfl (es rfl (es rfl (es rfl (es rfl (es rfl (es rfl (es rfl (es rfl l35_42))))))))))))
              have l43_46 := lookE hA46 43 (es rfl (es rfl (es rfl (es rfl (es rfl (es rfl (es rfl (es rfl (et rfl)))))))))
              have l44_46 := lookE hA46 44 (es rfl (es rfl (es rfl (es rfl (es rfl (es rfl (es rfl (et rfl))))))))
              have l45_46 := lookE hA46 45 (es rfl (es rfl (es rfl (es rfl (es rfl (es rfl (et rfl)))))))
              have l48_46 := lookE hA46 48 (es rfl (es rfl (es rfl (et rfl))))
              have l49_46 := lookE hA46 49 (es rfl (es rfl (et rfl)))
              have l50_46 := lookE hA46 50 (es rfl (et rfl))
              have l51_46 := lookE hA46 51 (et rfl)
              clear hA46 hsz42 hdf42 l1_42 l2_42 l6_42 l7_42 l10_42 l11_42 l33_42 l34_42 l35_42
              refine then_n (hK44 _ _ ?_)
              clear hK44
              refine cond_t l51_46 ?_
              refine wp_exit ?_
              refine then_exit ?_
              refine inb_hit ?_
              refine then_n (hK39 _ _ ?_)
              clear hK39
              -- region 14
              refine region_in ?_
              refine W_v rfl rfl (V_add rfl l35_46 rfl (by omega) (by omega)) ?_
              refine W_v rfl rfl (V_mov rfl (et rfl)) ?_
              refine W_end ?_
              refine gen_Q (fun A47 hA47 => ?_)
              have hsz47 : SzN A47 62 := by rw [hA47]; infer_instance
              have hdf47 : A47.defers = [] := by rw [hA47]; simp only [df_put]; exact hdf46
              have l1_47 := lookE hA47 1 (es rfl (es rfl l1_46))
              have l2_47 := lookE hA47 2 (es rfl (es rfl l2_46))
              have l6_47 := lookE hA47 6 (es rfl (es rfl l6_46))
              have l7_47 := lookE hA47 7 (es rfl (es rfl l7_46))
              have l33_47 := lookE hA47 33 (es rfl (es rfl l33_46))
              have l34_47 := lookE hA47 34 (es rfl (es rfl l34_46))
              have l35_47 := lookE hA47 35 (et rfl)
              have l43_47 := lookE hA47 43 (es rfl (es rfl l43_46))
              have l44_47 := lookE hA47 44 (es rfl (es rfl l44_46))
              have l45_47 := lookE hA47 45 (es rfl (es rfl l45_46))
              have l48_47 := lookE hA47 48 (es rfl (es rfl l48_46))
              have l49_47 := lookE hA47 49 (es rfl (es rfl l49_46))
              have l50_47 := lookE hA47 50 (es rfl (es rfl l50_46))
              clear hA47 hsz46 hdf46 l1_46 l2_46 l6_46 l7_46 l10_46 l33_46 l34_46 l35_46 l43_46 l44_46 l45_46 l48_46 l49_46 l50_46 l51_46
              refine then_n ⟨l.length - (k + 1), by simp only [hm34]; omega, hsz47, hdf47, (k + 1), rfl, (by omega), (inC_bd _ _ _ _), inK_neg, (idxF_bd _ _), ((l35_47).trans (by first | rfl | (simp; done) | (congr 1; omega))), ((l6_47).trans ((by rw [(in_miss (f := f) (t := t) (hT ▸ hy41) (by omega)).1]))), ((l7_47).trans ((by rw [(in_miss (f := f) (t := t) (hT ▸ hy41) (by omega)).2]))), ((l1_47).trans l1_33.symm), ((l2_47).trans l2_33.symm), ((l33_47).trans l33_33.symm), ((l34_47).trans l34_33.symm), (by subst hc_34; exact hS34)⟩
            · skip
              refine W_v rfl (wanted_t rfl rfl (et rfl) (ez rfl)) (V_mov rfl (es rfl (es rfl (es rfl l11_42)))) ?_
              refine W_v rfl (wanted_t rfl rfl (es rfl (et rfl)) (ez rfl)) (V_mov rfl (es rfl (es rfl (es rfl (es rfl l1_42))))) ?_
              refine W_v rfl (wanted_t rfl rfl (es rfl (es rfl (et rfl))) (ez rfl)) (V_lss rfl (es rfl (et rfl)) (et rfl)) ?_
              refine W_v rfl rfl (V_pickF rfl (es rfl (es rfl (es rfl (et rfl)))) (et rfl)) ?_
              refine W_split rfl rfl (V_mov rfl (et rfl)) (fun c48 => ?_) (fun c48 => ?_)
              · skip
                refine W_off rfl (wanted_f rfl rfl (et rfl) (ez rfl) rfl) ?_
                refine W_off rfl (wanted_f rfl rfl (es rfl (et rfl)) (ez rfl) rfl) ?_
                refine W_off rfl (wanted_f rfl rfl (es rfl (es rfl (et rfl))) (ez rfl) rfl) ?_
                refine W_v rfl rfl (V_pickT rfl (es rfl (es rfl (es rfl (et rfl)))) rfl) ?_
                refine W_end ?_
                refine gen_Q (fun A49 hA49 => ?_)
                have hsz49 : SzN A49 62 := by rw [hA49]; infer_instance
                have hdf49 : A49.defers = [] := by rw [hA49]; simp only [df_put]; exact hdf42
                have l1_49 := lookE hA49 1 (es rfl (es rfl (es rfl (es rfl (es rfl (es rfl (es rfl (es rfl (es rfl (es rfl (es rfl (es rfl l1_42))))))))))))
                have l2_49 := lookE hA49 2 (es rfl (es rfl (es rfl (es rfl (es rfl (es rfl (es rfl (es rfl (es rfl (es rfl (es rfl (es rfl l2_42))))))))))))
                have l6_49 := lookE hA49 6 (es rfl (es rfl (es rfl (es rfl (es rfl (es rfl (es rfl (es rfl (es rfl (es rfl (es rfl (es rfl l6_42))))))))))))
                have l7_49 := lookE hA49 7 (es rfl (es rfl (es rfl (es rfl (es rfl (es rfl (es rfl (es rfl (es rfl (es rfl (es rfl (es rfl l7_42))))))))))))
                have l10_49 := lookE hA49 10 (es rfl (es rfl (es rfl (es rfl (es rfl (es rfl (es rfl (es rfl (es rfl (es rfl (es rfl (es rfl l10_42))))))))))))
                have l33_49 := lookE hA49 33 (es rfl (es rfl (es rfl (es rfl (es rfl (es rfl (es rfl (es rfl (es rfl (es rfl (es rfl (es rfl l33_42))))))))))))
                have l34_49 := lookE hA49 34 (es rfl (es rfl (es rfl (es rfl (es rfl (es rfl (es rfl (es rfl (es rfl (es rfl (es rfl (es rfl l34_42))))))))))))
                have l35_49 := lookE hA49 35 (es rfl (es rfl (es rfl (es rfl (es rfl (es rfl (es rfl (es rfl (es rfl (es rfl (es rfl (es rfl l35_42))))))))))))
                have l43_49 := lookE hA49 43 (es rfl (es rfl (es rfl (es rfl (es rfl (es rfl (es rfl (es rfl (et rfl)))))))))
                have l44_49 := lookE hA49 44 (es rfl (es rfl (es rfl (es rfl (es rfl (es rfl (es rfl (et rfl))))))))
                have l45_49 := lookE hA49 45 (es rfl (es rfl (es rfl (es rfl (es rfl (es rfl (et rfl)))))))
                have l48_49 := lookE hA49 48 (es rfl (es rfl (es rfl (et rfl))))
                have l49_49 := lookE hA49 49 (es rfl (es rfl (et rfl)))
                have l50_49 := lookE hA49 50 (es rfl (et rfl))
                have l51_49 := lookE hA49 51 (et rfl)
                clear hA49 hsz42 hdf42 l1_42 l2_42 l6_42 l7_42 l10_42 l11_42 l33_42 l34_42 l35_42
                refine then_n (hK44 _ _ ?_)
                clear hK44
                refine cond_t l51_49 ?_
                refine wp_exit ?_
                refine then_exit ?_
                refine inb_hit ?_
                refine then_n (hK39 _ _ ?_)
                clear hK39
                -- region 14
                refine region_in ?_
                refine W_v rfl rfl (V_add rfl l35_49 rfl (by omega) (by omega)) ?_
                refine W_v rfl rfl (V_mov rfl (et rfl)) ?_
                refine W_end ?_
                refine gen_Q (fun A50 hA50 => ?_)
                have hsz50 : SzN A50 62 := by rw [hA50]; infer_instance
                have hdf50 : A50.defers = [] := by rw [hA50]; simp only [df_put]; exact hdf49
                have l1_50 := lookE hA50 1 (es rfl (es rfl l1_49))
                have l2_50 := lookE hA50 2 (es rfl (es rfl l2_49))
                have l6_50 := lookE hA50 6 (es rfl (es rfl l6_49))
                have l7_50 := lookE hA50 7 (es rfl (es rfl l7_49))
                have l33_50 := lookE hA50 33 (es rfl (es rfl l33_49))
                have l34_50 := lookE hA50 34 (es rfl (es rfl l34_49))
                have l35_50 := lookE hA50 35 (et rfl)
                have l43_50 := lookE hA50 43 (es rfl (es rfl l43_49))
                have l44_50 := lookE hA50 44 (es rfl (es rfl l44_49))
                have l45_50 := lookE hA50 45 (es rfl (es rfl l45_49))
                have l48_50 := lookE hA50 48 (es rfl (es rfl l48_49))
                have l49_50 := lookE hA50 49 (es rfl (es rfl l49_49))
                have l50_50 := lookE hA50 50 (es rfl (es rfl l50_49))
                clear hA50 hsz49 hdf49 l1_49 l2_49 l6_49 l7_49 l10_49 l33_49 l34_49 l35_49 l43_49 l44_49 l45_49 l48_49 l49_49 l50_49 l51_49
                refine then_n ⟨l.length - (k + 1), by simp only [hm34]; omega, hsz50, hdf50, (k + 1), rfl, (by omega), (inC_bd _ _ _ _), inK_neg, (idxF_bd _ _), ((l35_50).trans (by first | rfl | (simp; done) | (congr 1; omega))), ((l6_50).trans ((by rw [(in_miss (f := f) (t := t) (hT ▸ hy41) (by omega)).1]))), ((l7_50).trans ((by rw [(in_miss (f := f) (t := t) (hT ▸ hy41) (by omega)).2]))), ((l1_50).trans l1_33.symm), ((l2_50).trans l2_33.symm), ((l33_50).trans l33_33.symm), ((l34_50).trans l34_33.symm), (by subst hc_34; exact hS34)⟩
              · skip
                refine W_v rfl (wanted_t rfl rfl (et rfl) (ez rfl)) (V_mov rfl (es rfl (es rfl (es rfl (es rfl (es rfl (es rfl (es rfl (es rfl l11_42))))))))) ?_
                refine W_v rfl (wanted_t rfl rfl (es rfl (et rfl)) (ez rfl)) (V_mov rfl (es rfl (es rfl (es rfl (es rfl (es rfl (es rfl (es rfl (es rfl (es rfl l2_42)))))))))) ?_
                refine W_v rfl (wanted_t rfl rfl (es rfl (es rfl (et rfl))) (ez rfl)) (V_geq rfl (es rfl (et rfl)) (et rfl)) ?_
                refine W_v rfl rfl (V_pickF rfl (es rfl (es rfl (es rfl (et rfl)))) (et rfl)) ?_
                refine W_end ?_
                refine gen_Q (fun A51 hA51 => ?_)
                have hsz51 : SzN A51 62 := by rw [hA51]; infer_instance
                have hdf51 : A51.defers = [] := by rw [hA51]; simp only [df_put]; exact hdf42
                have l1_51 := lookE hA51 1 (es rfl (es rfl (es rfl (es rfl (es rfl (es rfl (es rfl (es rfl (es rfl (es rfl (es rfl (es rfl l1_42))))))))))))
                have l2_51 := lookE hA51 2 (es rfl (es rfl (es rfl (es rfl (es rfl (es rfl (es rfl (es rfl (es rfl (es rfl (es rfl (es rfl l2_42))))))))))))
                have l6_51 := lookE hA51 6 (es rfl (es rfl (es rfl (es rfl (es rfl (es rfl (es rfl (es rfl (es rfl (es rfl (es rfl (es rfl l6_42))))))))))))
                have l7_51 := lookE hA51 7 (es rfl (es rfl (es rfl (es rfl (es rfl (es rfl (es rfl (es rfl (es rfl (es rfl (es rfl (es rfl l7_42))))))))))))
                have l10_51 := lookE hA51 10 (es rfl (es rfl (es rfl (es rfl (es rfl (es rfl (es rfl (es rfl (es rfl (es rfl (es rfl (es rfl l10_42))))))))))))
                have l33_51 := lookE hA51 33 (es rfl (es rfl (es rfl (es rfl (es rfl (es rfl (es rfl (es rfl (es rfl (es rfl (es rfl (es rfl l33_42))))))))))))
                have l34_51 := lookE hA51 34 (es rfl (es rfl (es rfl (es rfl (es rfl (es rfl (es rfl (es rfl (es rfl (es rfl (es rfl (es rfl l34_42))))))))))))
                have l35_51 := lookE hA51 35 (es rfl (es rfl (es rfl (es rfl (es rfl (es rfl (es rfl (es rfl (es rfl (es rfl (es rfl (es rfl l35_42))))))))))))
                have l43_51 := lookE hA51 43 (es rfl (es rfl (es rfl (es rfl (es rfl (es rfl (es rfl (es rfl (et rfl)))))))))
                have l44_51 := lookE hA51 44 (es rfl (es rfl (es rfl (es rfl (es rfl (es rfl (es rfl (et rfl))))))))
                have l45_51 := lookE hA51 45 (es rfl (es rfl (es rfl (es rfl (es rfl (es rfl (et rfl)))))))
                have l48_51 := lookE hA51 48 (es rfl (es rfl (es rfl (et rfl))))
                have l49_51 := lookE hA51 49 (es rfl (es rfl (et rfl)))
                have l50_51 := lookE hA51 50 (es rfl (et rfl))
                have l51_51 := lookE hA51 51 (et rfl)
                clear hA51 hsz42 hdf42 l1_42 l2_42 l6_42 l7_42 l10_42 l11_42 l33_42 l34_42 l35_42
                refine then_n (hK44 _ _ ?_)
                clear hK44
                refine cond_dec l51_51 (fun c52 => ?_) (fun c52 => ?_)
                · skip
                  refine wp_exit ?_
                  refine then_exit ?_
                  refine inb_hit ?_
                  refine then_n (hK39 _ _ ?_)
                  clear hK39
                  -- region 14
                  refine region_in ?_
                  refine W_v rfl rfl (V_add rfl l35_51 rfl (by omega) (by omega)) ?_
                  refine W_v rfl rfl (V_mov rfl (et rfl)) ?_
                  refine W_end ?_
                  refine gen_Q (fun A53 hA53 => ?_)
                  have hsz53 : SzN A53 62 := by rw [hA53]; infer_instance
                  have hdf53 : A53.defers = [] := by rw [hA53]; simp only [df_put]; exact hdf51
                  have l1_53 := lookE hA53 1 (es rfl (es rfl l1_51))
                  have l2_53 := lookE hA53 2 (es rfl (es rfl l2_51))
                  have l6_53 := lookE hA53 6 (es rfl (es rfl l6_51))
                  have l7_53 := lookE hA53 7 (es rfl (es rfl l7_51))
                  have l33_53 := lookE hA53 33 (es rfl (es rfl l33_51))
                  have l34_53 := lookE hA53 34 (es rfl (es rfl l34_51))
                  have l35_53 := lookE hA53 35 (et rfl)
                  have l43_53 := lookE hA53 43 (es rfl (es rfl l43_51))
                  have l44_53 := lookE hA53 44 (es rfl (es rfl l44_51))
                  have l45_53 := lookE hA53 45 (es rfl (es rfl l45_51))
                  have l48_53 := lookE hA53 48 (es rfl (es rfl l48_51))
                  have l49_53 := lookE hA53 49 (es rfl (es rfl l49_51))
                  have l50_53 := lookE hA53 50 (es rfl (es rfl l50_51))
                  clear hA53 hsz51 hdf51 l1_51 l2_51 l6_51 l7_51 l10_51 l33_51 l34_51 l35_51 l43_51 l44_51 l45_51 l48_51 l49_51 l50_51 l51_51
                  refine then_n ⟨l.length - (k + 1), by simp only [hm34]; omega, hsz53, hdf53, (k + 1), rfl, (by omega), (inC_bd _ _ _ _), inK_neg, (idxF_bd _ _), ((l35_53).trans (by first | rfl | (simp; done) | (congr 1; omega))), ((l6_53).trans ((by rw [(in_miss (f := f) (t := t) (hT ▸ hy41) (by omega)).1]))), ((l7_53).trans ((by rw [(in_miss (f := f) (t := t) (hT ▸ hy41) (by omega)).2]))), ((l1_53).trans l1_33.symm), ((l2_53).trans l2_33.symm), ((l33_53).trans l33_33.symm), ((l34_53).trans l34_33.symm), (by subst hc_34; exact hS34)⟩
                · skip
                  refine wp_skip ?_
                  refine then_n (hK43 _ _ ?_)
                  clear hK43
                  refine wp_seq_k (fun K54 hK54 => ?_)
                  refine wp_seq_k (fun K55 hK55 => ?_)
                  -- region 11
                  refine region_in ?_
                  refine W_v rfl rfl (V_mov rfl l6_51) ?_
                  refine W_v rfl rfl (V_lss rfl (et rfl) rfl) ?_
                  refine W_end ?_
                  refine gen_Q (fun A56 hA56 => ?_)
                  have hsz56 : SzN A56 62 := by rw [hA56]; infer_instance
                  have hdf56 : A56.defers = [] := by rw [hA56]; simp only [df_put]; exact hdf51
                  have l1_56 := lookE hA56 1 (es rfl (es rfl l1_51))
                  have l2_56 := lookE hA56 2 (es rfl (es rfl l2_51))
                  have l6_56 := lookE hA56 6 (es rfl (es rfl l6_51))
                  have l7_56 := lookE hA56 7 (es rfl (es rfl l7_51))
                  have l10_56 := lookE hA56 10 (es rfl (es rfl l10_51))
                  have l33_56 := lookE hA56 33 (es rfl (es rfl l33_51))
                  have l34_56 := lookE hA56 34 (es rfl (es rfl l34_51))
                  have l35_56 := lookE hA56 35 (es rfl (es rfl l35_51))
                  have l43_56 := lookE hA56 43 (es rfl (es rfl l43_51))
                  have l44_56 := lookE hA56 44 (es rfl (es rfl l44_51))
                  have l45_56 := lookE hA56 45 (es rfl (es rfl l45_51))
                  have l48_56 := lookE hA56 48 (es rfl (es rfl l48_51))
                  have l49_56 := lookE hA56 49 (es rfl (es rfl l49_51))
                  have l50_56 := lookE hA56 50 (es rfl (es rfl l50_51))
                  have l53_56 := lookE hA56 53 (et rfl)
                  clear hA56 hsz51 hdf51 l1_51 l2_51 l6_51 l7_51 l10_51 l33_51 l34_51 l35_51 l43_51 l44_51 l45_51 l48_51 l49_51 l50_51 l51_51
                  refine then_n (hK55 _ _ ?_)
                  clear hK55
                  refine cond_dec l53_56 (fun c57 => ?_) (fun c57 => ?_)
                  · skip
                    -- region 12
                    refine region_in ?_
                    refine W_v rfl rfl (V_mov rfl l10_56) ?_
                    refine W_v rfl rfl (V_asg rfl (et rfl)) ?_
                    refine W_end ?_
                    refine gen_Q (fun A58 hA58 => ?_)
                    have hsz58 : SzN A58 62 := by rw [hA58]; infer_instance
                    have hdf58 : A58.defers = [] := by rw [hA58]; simp only [df_put]; exact hdf56
                    have l1_58 := lookE hA58 1 (es rfl (es rfl l1_56))
                    have l2_58 := lookE hA58 2 (es rfl (es rfl l2_56))
                    have l6_58 := lookE hA58 6 (et rfl)
                    have l7_58 := lookE hA58 7 (es rfl (es rfl l7_56))
                    have l33_58 := lookE hA58 33 (es rfl (es rfl l33_56))
                    have l34_58 := lookE hA58 34 (es rfl (es rfl l34_56))
                    have l35_58 := lookE hA58 35 (es rfl (es rfl l35_56))
                    have l43_58 := lookE hA58 43 (es rfl (es rfl l43_56))
                    have l44_58 := lookE hA58 44 (es rfl (es rfl l44_56))
                    have l45_58 := lookE hA58 45 (es rfl (es rfl l45_56))
                    have l48_58 := lookE hA58 48 (es rfl (es rfl l48_56))
                    have l49_58 := lookE hA58 49 (es rfl (es rfl l49_56))
                    have l50_58 := lookE hA58 50 (es rfl (es rfl l50_56))
                    clear hA58 hsz56 hdf56 l1_56 l2_56 l6_56 l7_56 l10_56 l33_56 l34_56 l35_56 l43_56 l44_56 l45_56 l48_56 l49_56 l50_56 l53_56
                    refine then_n (hK54 _ _ ?_)
                    clear hK54
                    -- region 13
                    refine region_in ?_
                    refine W_v rfl rfl (V_mov rfl l7_58) ?_
                    refine W_v rfl rfl (V_add rfl (et rfl) rfl (by omega) (by omega)) ?_
                    refine W_v rfl rfl (V_asg rfl (et rfl)) ?_
                    refine W_end ?_
                    refine gen_Q (fun A59 hA59 => ?_)
                    have hsz59 : SzN A59 62 := by rw [hA59]; infer_instance
                    have hdf59 : A59.defers = [] := by rw [hA59]; simp only [df_put]; exact hdf58
                    have l1_59 := lookE hA59 1 (es rfl (es rfl (es rfl l1_58)))
                    have l2_59 := lookE hA59 2 (es rfl (es rfl (es rfl l2_58)))
                    have l6_59 := lookE hA59 6 (es rfl (es rfl (es rfl l6_58)))
                    have l7_59 := lookE hA59 7 (et rfl)
                    have l33_59 := lookE hA59 33 (es rfl (es rfl (es rfl l33_58)))
                    have l34_59 := lookE hA59 34 (es rfl (es rfl (es rfl l34_58)))
                    have l35_59 := lookE hA59 35 (es rfl (es rfl (es rfl l35_58)))
                    have l43_59 := lookE hA59 43 (es rfl (es rfl (es rfl l43_58)))
                    have l44_59 := lookE hA59 44 (es rfl (es rfl (es rfl l44_58)))
                    have l45_59 := lookE hA59 45 (es rfl (es rfl (es rfl l45_58)))
                    have l48_59 := lookE hA59 48 (es rfl (es rfl (es rfl l48_58)))
                    have l49_59 := lookE hA59 49 (es rfl (es rfl (es rfl l49_58)))
                    have l50_59 := lookE hA59 50 (es rfl (es rfl (es rfl l50_58)))
                    clear hA59 hsz58 hdf58 l1_58 l2_58 l6_58 l7_58 l33_58 l34_58 l35_58 l43_58 l44_58 l45_58 l48_58 l49_58 l50_58
                    refine inb_n ?_
                    refine then_n (hK39 _ _ ?_)
                    clear hK39
                    -- region 14
                    refine region_in ?_
                    refine W_v rfl rfl (V_add rfl l35_59 rfl (by omega) (by omega)) ?_
                    refine W_v rfl rfl (V_mov rfl (et rfl)) ?_
                    refine W_end ?_
                    refine gen_Q (fun A60 hA60 => ?_)
                    have hsz60 : SzN A60 62 := by rw [hA60]; infer_instance
                    have hdf60 : A60.defers = [] := by rw [hA60]; simp only [df_put]; exact hdf59
                    have l1_60 := lookE hA60 1 (es rfl (es rfl l1_59))
                    have l2_60 := lookE hA60 2 (es rfl (es rfl l2_59))
                    have l6_60 := lookE hA60 6 (es rfl (es rfl l6_59))
                    have l7_60 := lookE hA60 7 (es rfl (es rfl l7_59))
                    have l33_60 := lookE hA60 33 (es rfl (es rfl l33_59))
                    have l34_60 := lookE hA60 34 (es rfl (es rfl l34_59))
                    have l35_60 := lookE hA60 35 (et rfl)
                    have l43_60 := lookE hA60 43 (es rfl (es rfl l43_59))
                    have l44_60 := lookE hA60 44 (es rfl (es rfl l44_59))
                    have l45_60 := lookE hA60 45 (es rfl (es rfl l45_59))
                    have l48_60 := lookE hA60 48 (es rfl (es rfl l48_59))
                    have l49_60 := lookE hA60 49 (es rfl (es rfl l49_59))
                    have l50_60 := lookE hA60 50 (es rfl (es rfl l50_59))
                    clear hA60 hsz59 hdf59 l1_59 l2_59 l6_59 l7_59 l33_59 l34_59 l35_59 l43_59 l44_59 l45_59 l48_59 l49_59 l50_59
                    refine then_n ⟨l.length - (k + 1), by simp only [hm34]; omega, hsz60, hdf60, (k + 1), rfl, (by omega), (inC_bd _ _ _ _), inK_neg, (idxF_bd _ _), ((l35_60).trans (by first | rfl | (simp; done) | (congr 1; omega))), ((l6_60).trans ((by rw [(in_hit (f := f) (t := t) (hT ▸ hy41) (by omega)).1]; split <;> first | rfl | omega))), ((l7_60).trans ((by rw [(in_hit (f := f) (t := t) (hT ▸ hy41) (by omega)).2]))), ((l1_60).trans l1_33.symm), ((l2_60).trans l2_33.symm), ((l33_60).trans l33_33.symm), ((l34_60).trans l34_33.symm), (by subst hc_34; exact hS34)⟩
                  · skip
                    refine wp_skip ?_
                    refine then_n (hK54 _ _ ?_)
                    clear hK54
                    -- region 13
                    refine region_in ?_
                    refine W_v rfl rfl (V_mov rfl l7_56) ?_
                    refine W_v rfl rfl (V_add rfl (et rfl) rfl (by omega) (by omega)) ?_
                    refine W_v rfl rfl (V_asg rfl (et rfl)) ?_
                    refine W_end ?_
                    refine gen_Q (fun A61 hA61 => ?_)
                    have hsz61 : SzN A61 62 := by rw [hA61]; infer_instance
                    have hdf61 : A61.defers = [] := by rw [hA61]; simp only [df_put]; exact hdf56
                    have l1_61 := lookE hA61 1 (es rfl (es rfl (es rfl l1_56)))
                    have l2_61 := lookE hA61 2 (es rfl (es rfl (es rfl l2_56)))
                    have l6_61 := lookE hA61 6 (es rfl (es rfl (es rfl l6_56)))
                    have l7_61 := lookE hA61 7 (et rfl)
                    have l33_61 := lookE hA61 33 (es rfl (es rfl (es rfl l33_56)))
                    have l34_61 := lookE hA61 34 (es rfl (es rfl (es rfl l34_56)))
                    have l35_61 := lookE hA61 35 (es rfl (es rfl (es rfl l35_56)))
                    have l43_61 := lookE hA61 43 (es rfl (es rfl (es rfl l43_56)))
                    have l44_61 := lookE hA61 44 (es rfl (es rfl (es rfl l44_56)))
                    have l45_61 := lookE hA61 45 (es rfl (es rfl (es rfl l45_56)))
                    have l48_61 := lookE hA61 48 (es rfl (es rfl (es rfl l48_56)))
                    have l49_61 := lookE hA61 49 (es rfl (es rfl (es rfl l49_56)))
                    have l50_61 := lookE hA61 50 (es rfl (es rfl (es rfl l50_56)))
                    clear hA61 hsz56 hdf56 l1_56 l2_56 l6_56 l7_56 l10_56 l33_56 l34_56 l35_56 l43_56 l44_56 l45_56 l48_56 l49_56 l50_56 l53_56
                    refine inb_n ?_
                    refine then_n (hK39 _ _ ?_)
                    clear hK39
                    -- region 14
                    refine region_in ?_
                    refine W_v rfl rfl (V_add rfl l35_61 rfl (by omega) (by omega)) ?_
                    refine W_v rfl rfl (V_mov rfl (et rfl)) ?_
                    refine W_end ?_
                    refine gen_Q (fun A62 hA62 => ?_)
                    have hsz62 : SzN A62 62 := by rw [hA62]; infer_instance
                    have hdf62 : A62.defers = [] := by rw [hA62]; simp only [df_put]; exact hdf61
                    have l1_62 := lookE hA62 1 (es rfl (es rfl l1_61))
                    have l2_62 := lookE hA62 2 (es rfl (es rfl l2_61))
                    have l6_62 := lookE hA62 6 (es rfl (es rfl l6_61))
                    have l7_62 := lookE hA62 7 (es rfl (es rfl l7_61))
                    have l33_62 := lookE hA62 33 (es rfl (es rfl l33_61))
                    have l34_62 := lookE hA62 34 (es rfl (es rfl l34_61))
                    have l35_62 := lookE hA62 35 (et rfl)
                    have l43_62 := lookE hA62 43 (es rfl (es rfl l43_61))
                    have l44_62 := lookE hA62 44 (es rfl (es rfl l44_61))
                    have l45_62 := lookE hA62 45 (es rfl (es rfl l45_61))
                    have l48_62 := lookE hA62 48 (es rfl (es rfl l48_61))
                    have l49_62 := lookE hA62 49 (es rfl (es rfl l49_61))
                    have l50_62 := lookE hA62 50 (es rfl (es rfl l50_61))
                    clear hA62 hsz61 hdf61 l1_61 l2_61 l6_61 l7_61 l33_61 l34_61 l35_61 l43_61 l44_61 l45_61 l48_61 l49_61 l50_61
                    refine then_n ⟨l.length - (k + 1), by simp only [hm34]; omega, hsz62, hdf62, (k + 1), rfl, (by omega), (inC_bd _ _ _ _), inK_neg, (idxF_bd _ _), ((l35_62).trans (by first | rfl | (simp; done) | (congr 1; omega))), ((l6_62).trans ((by rw [(in_hit (f := f) (t := t) (hT ▸ hy41) (by omega)).1]; split <;> first | rfl | omega))), ((l7_62).trans ((by rw [(in_hit (f := f) (t := t) (hT ▸ hy41) (by omega)).2]))), ((l1_62).trans l1_33.symm), ((l2_62).trans l2_33.symm), ((l33_62).trans l33_33.symm), ((l34_62).trans l34_33.symm), (by subst hc_34; exact hS34)⟩
          · skip
            refine wp_exit ?_
            refine then_exit ?_
            refine then_exit ?_
            refine inb_hit ?_
            refine then_n (hK31 _ _ ?_)
            clear hK31
            refine wp_seq_k (fun K63 hK63 => ?_)
            refine wp_seq_k (fun K64 hK64 => ?_)
            -- region 15
            refine region_in ?_
            refine W_v rfl rfl (V_mov rfl l7_36) ?_
            refine W_v rfl rfl (V_eql rfl (et rfl) rfl) ?_
            refine W_end ?_
            refine gen_Q (fun A65 hA65 => ?_)
            have hsz65 : SzN A65 62 := by rw [hA65]; infer_instance
            have hdf65 : A65.defers = [] := by rw [hA65]; simp only [df_put]; exact hdf36
            have l6_65 := lookE hA65 6 (es rfl (es rfl l6_36))
            have l7_65 := lookE hA65 7 (es rfl (es rfl l7_36))
            have l59_65 := lookE hA65 59 (et rfl)
            clear hA65 hsz36 hdf36 l1_36 l2_36 l6_36 l7_36 l33_36 l34_36 l35_36 l36_36
            have hS66 : St w NoX [] w34 := hS34.sel [] (by decide) rfl
            refine then_n (hK64 _ _ ?_)
            clear hK64
            refine cond_dec l59_65 (fun c67 => ?_) (fun c67 => ?_)
            · skip
              refine wp_seq_k (fun K68 hK68 => ?_)
              -- region 16
              refine region_in ?_
              refine W_v rfl rfl (V_asg rfl rfl) ?_
              refine W_v rfl rfl (V_asg rfl rfl) ?_
              refine W_v rfl rfl (V_asg rfl rfl) ?_
              refine W_end ?_
              refine gen_Q (fun A69 hA69 => ?_)
              have hsz69 : SzN A69 62 := by rw [hA69]; infer_instance
              have hdf69 : A69.defers = [] := by rw [hA69]; simp only [df_put]; exact hdf65
              have l6_69 := lookE hA69 6 (es rfl (es rfl (et rfl)))
              have l7_69 := lookE hA69 7 (es rfl (et rfl))
              have l8_69 := lookE hA69 8 (et rfl)
              clear hA69 hsz65 hdf65 l6_65 l7_65 l59_65
              refine then_n (hK68 _ _ ?_)
              clear hK68
              refine wp_ret ?_
              refine then_ret ?_
              refine ret_in (results_3 Try.results13 (rv_tmp l6_69) (rv_tmp l7_69) (rv_tmp l8_69)) hdf69 ?_
              -- leaf FFFFFT
              have h := (in_end (f := f) (t := t) (k := k) hck hrg (by omega)).1 (by omega)
              rw [h.1, h.2.1, h.2.2]
              exact ⟨rfl, hS66.fin0⟩
            · skip
              refine wp_skip ?_
              refine then_n (hK63 _ _ ?_)
              clear hK63
              refine wp_seq_k (fun K70 hK70 => ?_)
              -- region 17
              refine region_in ?_
              refine W_v rfl rfl (V_mov rfl l6_65) ?_
              refine W_v rfl rfl (V_mov rfl (es rfl l7_65)) ?_
              refine W_v rfl rfl (V_asg rfl (es rfl (et rfl))) ?_
              refine W_v rfl rfl (V_asg rfl (es rfl (et rfl))) ?_
              refine W_v rfl rfl (V_asg rfl rfl) ?_
              refine W_end ?_
              refine gen_Q (fun A71 hA71 => ?_)
              have hsz71 : SzN A71 62 := by rw [hA71]; infer_instance
              have hdf71 : A71.defers = [] := by rw [hA71]; simp only [df_put]; exact hdf65
              have l6_71 := lookE hA71 6 (es rfl (es rfl (et rfl)))
              have l7_71 := lookE hA71 7 (es rfl (et rfl))
              have l8_71 := lookE hA71 8 (et rfl)
              clear hA71 hsz65 hdf65 l6_65 l7_65 l59_65
              refine then_n (hK70 _ _ ?_)
              clear hK70
              refine wp_ret ?_
              refine ret_in (results_3 Try.results13 (rv_tmp l6_71) (rv_tmp l7_71) (rv_tmp l8_71)) hdf71 ?_
              -- leaf FFFFFF
              have h := (in_end (f := f) (t := t) (k := k) hck hrg (by omega)).2 (by omega)
              rw [h.1, h.2.1, h.2.2]
              exact ⟨rfl, hS66.fin0⟩

set_option maxHeartbeats 4000000 in
theorem qIn_c {rv : Value} {l : List Int} {f : Int} {t : Int} {w : World} (h_rv : Ro w NoX (il .i64 rv l))  :
    Calls Try.prog 14 #[rv, .int .i64 f, .int .i64 t] w fun e w' => e = .returned (.tuple #[.int .i64 (inI l f t), .int .i64 (inN l f t), .int .i64 (inE l f t)]) ∧ St w NoX [] w' := by
  refine calls_in 73 Try.func14 rfl rfl (by simp) (fun A0 hsz0 hdf0 hargs => ?_)
  have l0_0 := hargs 0 (rv) rfl
  have l1_0 := hargs 1 (.int .i64 f) rfl
  have l2_0 := hargs 2 (.int .i64 t) rfl
  clear hargs; replace hsz0 : SzN A0 73 := ⟨hsz0⟩
  have hS := St.nil w
  have bh_rv := SlN.le (sl_SlN h_rv.at)
  refine wp_seq_k (fun K1 hK1 => ?_)
  -- region 0
  refine region_in ?_
  refine W_v rfl rfl (V_asg rfl rfl) ?_
  refine W_v rfl rfl (V_asg rfl rfl) ?_
  refine W_v rfl rfl (V_asg rfl rfl) ?_
  refine W_end ?_
  refine gen_Q (fun A2 hA2 => ?_)
  have hsz2 : SzN A2 73 := by rw [hA2]; infer_instance
  have hdf2 : A2.defers = [] := by rw [hA2]; simp only [df_put]; exact hdf0
  have l0_2 := lookE hA2 0 (es rfl (es rfl (es rfl l0_0)))
  have l1_2 := lookE hA2 1 (es rfl (es rfl (es rfl l1_0)))
  have l2_2 := lookE hA2 2 (es rfl (es rfl (es rfl l2_0)))
  clear hA2 hsz0 hdf0 l0_0 l1_0 l2_0
  refine then_n (hK1 _ _ ?_)
  clear hK1
  refine wp_seq_k (fun K3 hK3 => ?_)
  -- region 1
  refine region_in ?_
  refine W_v rfl rfl (V_mov rfl l0_2) ?_
  refine W_call rfl rfl rfl Try.func26 (by kernel_rfl) rfl (args1 (et rfl)) (qCk_c (hS.roC h_rv) ) ?_
  rintro _ w4 ⟨rfl, hP4⟩
  refine ⟨_, rfl, ?_⟩
  have hS4 := hS.join hP4
  replace hS4 : St w NoX [] w4 := hS4
  refine W_v rfl rfl (V_mov rfl (et rfl)) ?_
  refine W_v rfl rfl (V_ext (v := .int .i64 ((ckR l).1)) rfl (et rfl) rfl) ?_
  refine W_v rfl rfl (V_ext (v := .int .i64 ((ckR l).2)) rfl (es rfl (et rfl)) rfl) ?_
  refine W_v rfl rfl (V_asg rfl (es rfl (et rfl))) ?_
  refine W_v rfl rfl (V_asg rfl (es rfl (et rfl))) ?_
  refine W_end ?_
  refine gen_Q (fun A5 hA5 => ?_)
  have hsz5 : SzN A5 73 := by rw [hA5]; infer_instance
  have hdf5 : A5.defers = [] := by rw [hA5]; simp only [df_put]; exact hdf2
  have l0_5 := lookE hA5 0 (es rfl (es rfl (es rfl (es rfl (es rfl (es rfl (es rfl l0_2)))))))
  have l1_5 := lookE hA5 1 (es rfl (es rfl (es rfl (es rfl (es rfl (es rfl (es rfl l1_2)))))))
  have l2_5 := lookE hA5 2 (es rfl (es rfl (es rfl (es rfl (es rfl (es rfl (es rfl l2_2)))))))
  have l10_5 := lookE hA5 10 (et rfl)
  clear hA5 hsz2 hdf2 l0_2 l1_2 l2_2
  refine then_n (hK3 _ _ ?_)
  clear hK3
  refine wp_seq_k (fun K6 hK6 => ?_)
  refine wp_seq_k (fun K7 hK7 => ?_)
  -- region 2
  refine region_in ?_
  refine W_v rfl rfl (V_mov rfl l10_5) ?_
  refine W_v rfl rfl (V_eql rfl (et rfl) rfl) ?_
  refine W_split rfl rfl (V_mov rfl (et rfl)) (fun c8 => ?_) (fun c8 => ?_)
  · skip
    have hck : (ckR l).2 = 0 := by simpa using c8
    obtain ⟨hl1, hl8, hin0⟩ := ckR_good hck
    refine W_v rfl (wanted_t rfl rfl (et rfl) (ez rfl)) (V_mov rfl (es rfl (es rfl (es rfl l1_5)))) ?_
    refine W_v rfl (wanted_t rfl rfl (es rfl (et rfl)) (ez rfl)) (V_lss rfl (et rfl) rfl) ?_
    refine W_split rfl (wanted_t rfl rfl (es rfl (es rfl (et rfl))) (ez rfl)) (V_mov rfl (et rfl)) (fun c9 => ?_) (fun c9 => ?_)
    · skip
      refine W_off rfl (wanted_f rfl rfl (et rfl) (ez rfl) rfl) ?_
      refine W_off rfl (wanted_f rfl rfl (es rfl (et rfl)) (ez rfl) rfl) ?_
      refine W_v rfl (wanted_t rfl rfl (es rfl (es rfl (es rfl (es rfl (es rfl (et rfl)))))) (ez rfl)) (V_pickT rfl (es rfl (es rfl (et rfl))) rfl) ?_
      refine W_v rfl (wanted_t rfl rfl (es rfl (es rfl (es rfl (es rfl (es rfl (es rfl (et rfl))))))) (ez rfl)) (V_mov rfl (et rfl)) ?_
      refine W_off rfl (wanted_f rfl rfl (et rfl) (ez rfl) rfl) ?_
      refine W_off rfl (wanted_f rfl rfl (es rfl (et rfl)) (ez rfl) rfl) ?_
      refine W_off rfl (wanted_f rfl rfl (es rfl (es rfl (et rfl))) (ez rfl) rfl) ?_
      refine W_v rfl (wanted_t rfl rfl (es rfl (es rfl (es rfl (es rfl (es rfl (es rfl (es rfl (es rfl (es rfl (es rfl (et rfl))))))))))) (ez rfl)) (V_pickT rfl (es rfl (es rfl (es rfl (et rfl)))) rfl) ?_
      refine W_v rfl rfl (V_pickT rfl (es rfl (es rfl (es rfl (es rfl (es rfl (es rfl (es rfl (es rfl (es rfl (es rfl (es rfl (et rfl)))))))))))) (et rfl)) ?_
      refine W_end ?_
      refine gen_Q (fun A10 hA10 => ?_)
      have hsz10 : SzN A10 73 := by rw [hA10]; infer_instance
      have hdf10 : A10.defers = [] := by rw [hA10]; simp only [df_put]; exact hdf5
      have l0_10 := lookE hA10 0 (es rfl (es rfl (es rfl (es rfl (es rfl (es rfl (es rfl (es rfl (es rfl (es rfl (es rfl (es rfl (es rfl (es rfl (es rfl l0_5)))))))))))))))
      have l1_10 := lookE hA10 1 (es rfl (es rfl (es rfl (es rfl (es rfl (es rfl (es rfl (es rfl (es rfl (es rfl (es rfl (es rfl (es rfl (es rfl (es rfl l1_5)))))))))))))))
      have l2_10 := lookE hA10 2 (es rfl (es rfl (es rfl (es rfl (es rfl (es rfl (es rfl (es rfl (es rfl (es rfl (es rfl (es rfl (es rfl (es rfl (es rfl l2_5)))))))))))))))
      have l10_10 := lookE hA10 10 (es rfl (es rfl (es rfl (es rfl (es rfl (es rfl (es rfl (es rfl (es rfl (es rfl (es rfl (es rfl (es rfl (es rfl (es rfl l10_5)))))))))))))))
      have l33_10 := lookE hA10 33 (et rfl)
      clear hA10 hsz5 hdf5 l0_5 l1_5 l2_5 l10_5
      refine then_n (hK7 _ _ ?_)
      clear hK7
      refine cond_t l33_10 ?_
      -- region 3
      refine region_in ?_
      refine W_v rfl rfl (V_asg rfl rfl) ?_
      refine W_end ?_
      refine gen_Q (fun A11 hA11 => ?_)
      have hsz11 : SzN A11 73 := by rw [hA11]; infer_instance
      have hdf11 : A11.defers = [] := by rw [hA11]; simp only [df_put]; exact hdf10
      have l0_11 := lookE hA11 0 (es rfl l0_10)
      have l1_11 := lookE hA11 1 (es rfl l1_10)
      have l2_11 := lookE hA11 2 (es rfl l2_10)
      have l10_11 := lookE hA11 10 (et rfl)
      clear hA11 hsz10 hdf10 l0_10 l1_10 l2_10 l10_10 l33_10
      refine then_n (hK6 _ _ ?_)
      clear hK6
      refine wp_seq_k (fun K12 hK12 => ?_)
      refine wp_seq_k (fun K13 hK13 => ?_)
      -- region 4
      refine region_in ?_
      refine W_v rfl rfl (V_mov rfl l10_11) ?_
      refine W_v rfl rfl (V_neq rfl (et rfl) rfl) ?_
      refine W_end ?_
      refine gen_Q (fun A14 hA14 => ?_)
      have hsz14 : SzN A14 73 := by rw [hA14]; infer_instance
      have hdf14 : A14.defers = [] := by rw [hA14]; simp only [df_put]; exact hdf11
      have l0_14 := lookE hA14 0 (es rfl (es rfl l0_11))
      have l1_14 := lookE hA14 1 (es rfl (es rfl l1_11))
      have l2_14 := lookE hA14 2 (es rfl (es rfl l2_11))
      have l10_14 := lookE hA14 10 (es rfl (es rfl l10_11))
      have l35_14 := lookE hA14 35 (et rfl)
      clear hA14 hsz11 hdf11 l0_11 l1_11 l2_11 l10_11
      refine then_n (hK13 _ _ ?_)
      clear hK13
      refine cond_sure l35_14 (by decide) ?_
      refine wp_seq_k (fun K15 hK15 => ?_)
      -- region 5
      refine region_in ?_
      refine W_v rfl rfl (V_mov rfl l10_14) ?_
      refine W_v rfl rfl (V_asg rfl rfl) ?_
      refine W_v rfl rfl (V_asg rfl rfl) ?_
      refine W_v rfl rfl (V_asg rfl (es rfl (es rfl (et rfl)))) ?_
      refine W_end ?_
      refine gen_Q (fun A16 hA16 => ?_)
      have hsz16 : SzN A16 73 := by rw [hA16]; infer_instance
      have hdf16 : A16.defers = [] := by rw [hA16]; simp only [df_put]; exact hdf14
      have l6_16 := lookE hA16 6 (es rfl (es rfl (et rfl)))
      have l7_16 := lookE hA16 7 (es rfl (et rfl))
      have l8_16 := lookE hA16 8 (et rfl)
      clear hA16 hsz14 hdf14 l0_14 l1_14 l2_14 l10_14 l35_14
      refine then_n (hK15 _ _ ?_)
      clear hK15
      refine wp_ret ?_
      refine then_ret ?_
      refine ret_in (results_3 Try.results14 (rv_tmp l6_16) (rv_tmp l7_16) (rv_tmp l8_16)) hdf16 ?_
      -- leaf TT
      have h : inE l f t = 7 := by first | exact inE_ck (by assumption) | exact inE_rg hck (by omega)
      have h2 := in_err (l := l) (f := f) (t := t) (by rw [h]; first | assumption | decide)
      rw [h2.1, h2.2, h]
      exact ⟨rfl, hS4.fin0⟩
    · skip
      refine W_v rfl (wanted_t rfl rfl (et rfl) (ez rfl)) (V_mov rfl (es rfl (es rfl (es rfl (es rfl (es rfl (es rfl l2_5))))))) ?_
      refine W_v rfl (wanted_t rfl rfl (es rfl (et rfl)) (ez rfl)) (V_gtr rfl (et rfl) rfl) ?_
      refine W_v rfl (wanted_t rfl rfl (es rfl (es rfl (es rfl (es rfl (es rfl (et rfl)))))) (ez rfl)) (V_pickF rfl (es rfl (es rfl (et rfl))) (et rfl)) ?_
      refine W_split rfl (wanted_t rfl rfl (es rfl (es rfl (es rfl (es rfl (es rfl (es rfl (et rfl))))))) (ez rfl)) (V_mov rfl (et rfl)) (fun c17 => ?_) (fun c17 => ?_)
      · skip
        refine W_off rfl (wanted_f rfl rfl (et rfl) (ez rfl) rfl) ?_
        refine W_off rfl (wanted_f rfl rfl (es rfl (et rfl)) (ez rfl) rfl) ?_
        refine W_off rfl (wanted_f rfl rfl (es rfl (es rfl (et rfl))) (ez rfl) rfl) ?_
        refine W_v rfl (wanted_t rfl rfl (es rfl (es rfl (es rfl (es rfl (es rfl (es rfl (es rfl (es rfl (es rfl (es rfl (et rfl))))))))))) (ez rfl)) (V_pickT rfl (es rfl (es rfl (es rfl (et rfl)))) rfl) ?_
        refine W_v rfl rfl (V_pickT rfl (es rfl (es rfl (es rfl (es rfl (es rfl (es rfl (es rfl (es rfl (es rfl (es rfl (es rfl (et rfl)))))))))))) (et rfl)) ?_
        refine W_end ?_
        refine gen_Q (fun A18 hA18 => ?_)
        have hsz18 : SzN A18 73 := by rw [hA18]; infer_instance
        have hdf18 : A18.defers = [] := by rw [hA18]; simp only [df_put]; exact hdf5
        have l0_18 := lookE hA18 0 (es rfl (es rfl (es rfl (es rfl (es rfl (es rfl (es rfl (es rfl (es rfl (es rfl (es rfl (es rfl (es rfl (es rfl (es rfl l0_5)))))))))))))))
        have l1_18 := lookE hA18 1 (es rfl (es rfl (es rfl (es rfl (es rfl (es rfl (es rfl (es rfl (es rfl (es rfl (es rfl (es rfl (es rfl (es rfl (es rfl l1_5)))))))))))))))
        have l2_18 := lookE hA18 2 (es rfl (es rfl (es rfl (es rfl (es rfl (es rfl (es rfl (es rfl (es rfl (es rfl (es rfl (es rfl (es rfl (es rfl (es rfl l2_5)))))))))))))))
        have l10_18 := lookE hA18 10 (es rfl (es rfl (es rfl (es rfl (es rfl (es rfl (es rfl (es rfl (es rfl (es rfl (es rfl (es rfl (es rfl (es rfl (es rfl l10_5)))))))))))))))
        have l33_18 := lookE hA18 33 (et rfl)
        clear hA18 hsz5 hdf5 l0_5 l1_5 l2_5 l10_5
        refine then_n (hK7 _ _ ?_)
        clear hK7
        refine cond_t l33_18 ?_
        -- region 3
        refine region_in ?_
        refine W_v rfl rfl (V_asg rfl rfl) ?_
        refine W_end ?_
        refine gen_Q (fun A19 hA19 => ?_)
        have hsz19 : SzN A19 73 := by rw [hA19]; infer_instance
        have hdf19 : A19.defers = [] := by rw [hA19]; simp only [df_put]; exact hdf18
        have l0_19 := lookE hA19 0 (es rfl l0_18)
        have l1_19 := lookE hA19 1 (es rfl l1_18)
        have l2_19 := lookE hA19 2 (es rfl l2_18)
        have l10_19 := lookE hA19 10 (et rfl)
        clear hA19 hsz18 hdf18 l0_18 l1_18 l2_18 l10_18 l33_18
        refine then_n (hK6 _ _ ?_)
        clear hK6
        refine wp_seq_k (fun K20 hK20 => ?_)
        refine wp_seq_k (fun K21 hK21 => ?_)
        -- region 4
        refine region_in ?_
        refine W_v rfl rfl (V_mov rfl l10_19) ?_
        refine W_v rfl rfl (V_neq rfl (et rfl) rfl) ?_
        refine W_end ?_
        refine gen_Q (fun A22 hA22 => ?_)
        have hsz22 : SzN A22 73 := by rw [hA22]; infer_instance
        have hdf22 : A22.defers = [] := by rw [hA22]; simp only [df_put]; exact hdf19
        have l0_22 := lookE hA22 0 (es rfl (es rfl l0_19))
        have l1_22 := lookE hA22 1 (es rfl (es rfl l1_19))
        have l2_22 := lookE hA22 2 (es rfl (es rfl l2_19))
        have l10_22 := lookE hA22 10 (es rfl (es rfl l10_19))
        have l35_22 := lookE hA22 35 (et rfl)
        clear hA22 hsz19 hdf19 l0_19 l1_19 l2_19 l10_19
        refine then_n (hK21 _ _ ?_)
        clear hK21
        refine cond_sure l35_22 (by decide) ?_
        refine wp_seq_k (fun K23 hK23 => ?_)
        -- region 5
        refine region_in ?_
        refine W_v rfl rfl (V_mov rfl l10_22) ?_
        refine W_v rfl rfl (V_asg rfl rfl) ?_
        refine W_v rfl rfl (V_asg rfl rfl) ?_
        refine W_v rfl rfl (V_asg rfl (es rfl (es rfl (et rfl)))) ?_
        refine W_end ?_
        refine gen_Q (fun A24 hA24 => ?_)
        have hsz24 : SzN A24 73 := by rw [hA24]; infer_instance
        have hdf24 : A24.defers = [] := by rw [hA24]; simp only [df_put]; exact hdf22
        have l6_24 := lookE hA24 6 (es rfl (es rfl (et rfl)))
        have l7_24 := lookE hA24 7 (es rfl (et rfl))
        have l8_24 := lookE hA24 8 (et rfl)
        clear hA24 hsz22 hdf22 l0_22 l1_22 l2_22 l10_22 l35_22
        refine then_n (hK23 _ _ ?_)
        clear hK23
        refine wp_ret ?_
        refine then_ret ?_
        refine ret_in (results_3 Try.results14 (rv_tmp l6_24) (rv_tmp l7_24) (rv_tmp l8_24)) hdf24 ?_
        -- leaf TFT
        have h : inE l f t = 7 := by first | exact inE_ck (by assumption) | exact inE_rg hck (by omega)
        have h2 := in_err (l := l) (f := f) (t := t) (by rw [h]; first | assumption | decide)
        rw [h2.1, h2.2, h]
        exact ⟨rfl, hS4.fin0⟩
      · skip
        refine W_v rfl (wanted_t rfl rfl (et rfl) (ez rfl)) (V_mov rfl (es rfl (es rfl (es rfl (es rfl (es rfl (es rfl (es rfl (es rfl (es rfl (es rfl l1_5))))))))))) ?_
        refine W_v rfl (wanted_t rfl rfl (es rfl (et rfl)) (ez rfl)) (V_mov rfl (es rfl (es rfl (es rfl (es rfl (es rfl (es rfl (es rfl (es rfl (es rfl (es rfl (es rfl l2_5)))))))))))) ?_
        refine W_v rfl (wanted_t rfl rfl (es rfl (es rfl (et rfl))) (ez rfl)) (V_gtr rfl (es rfl (et rfl)) (et rfl)) ?_
        refine W_v rfl (wanted_t rfl rfl (es rfl (es rfl (es rfl (es rfl (es rfl (es rfl (es rfl (es rfl (es rfl (es rfl (et rfl))))))))))) (ez rfl)) (V_pickF rfl (es rfl (es rfl (es rfl (et rfl)))) (et rfl)) ?_
        refine W_v rfl rfl (V_pickT rfl (es rfl (es rfl (es rfl (es rfl (es rfl (es rfl (es rfl (es rfl (es rfl (es rfl (es rfl (et rfl)))))))))))) (et rfl)) ?_
        refine W_end ?_
        refine gen_Q (fun A25 hA25 => ?_)
        have hsz25 : SzN A25 73 := by rw [hA25]; infer_instance
        have hdf25 : A25.defers = [] := by rw [hA25]; simp only [df_put]; exact hdf5
        have l0_25 := lookE hA25 0 (es rfl (es rfl (es rfl (es rfl (es rfl (es rfl (es rfl (es rfl (es rfl (es rfl (es rfl (es rfl (es rfl (es rfl (es rfl l0_5)))))))))))))))
        have l1_25 := lookE hA25 1 (es rfl (es rfl (es rfl (es rfl (es rfl (es rfl (es rfl (es rfl (es rfl (es rfl (es rfl (es rfl (es rfl (es rfl (es rfl l1_5)))))))))))))))
        have l2_25 := lookE hA25 2 (es rfl (es rfl (es rfl (es rfl (es rfl (es rfl (es rfl (es rfl (es rfl (es rfl (es rfl (es rfl (es rfl (es rfl (es rfl l2_5)))))))))))))))
        have l10_25 := lookE hA25 10 (es rfl (es rfl (es rfl (es rfl (es rfl (es rfl (es rfl (es rfl (es rfl (es rfl (es rfl (es rfl (es rfl (es rfl (es rfl l10_5)))))))))))))))
        have l33_25 := lookE hA25 33 (et rfl)
        clear hA25 hsz5 hdf5 l0_5 l1_5 l2_5 l10_5
        refine then_n (hK7 _ _ ?_)
        clear hK7
        refine cond_dec l33_25 (fun c26 => ?_) (fun c26 => ?_)
        · skip
          -- region 3
          refine region_in ?_
          refine W_v rfl rfl (V_asg rfl rfl) ?_
          refine W_end ?_
          refine gen_Q (fun A27 hA27 => ?_)
          have hsz27 : SzN A27 73 := by rw [hA27]; infer_instance
          have hdf27 : A27.defers = [] := by rw [hA27]; simp only [df_put]; exact hdf25
          have l0_27 := lookE hA27 0 (es rfl l0_25)
          have l1_27 := lookE hA27 1 (es rfl l1_25)
          have l2_27 := lookE hA27 2 (es rfl l2_25)
          have l10_27 := lookE hA27 10 (et rfl)
          clear hA27 hsz25 hdf25 l0_25 l1_25 l2_25 l10_25 l33_25
          refine then_n (hK6 _ _ ?_)
          clear hK6
          refine wp_seq_k (fun K28 hK28 => ?_)
          refine wp_seq_k (fun K29 hK29 => ?_)
          -- region 4
          refine region_in ?_
          refine W_v rfl rfl (V_mov rfl l10_27) ?_
          refine W_v rfl rfl (V_neq rfl (et rfl) rfl) ?_
          refine W_end ?_
          refine gen_Q (fun A30 hA30 => ?_)
          have hsz30 : SzN A30 73 := by rw [hA30]; infer_instance
          have hdf30 : A30.defers = [] := by rw [hA30]; simp only [df_put]; exact hdf27
          have l0_30 := lookE hA30 0 (es rfl (es rfl l0_27))
          have l1_30 := lookE hA30 1 (es rfl (es rfl l1_27))
          have l2_30 := lookE hA30 2 (es rfl (es rfl l2_27))
          have l10_30 := lookE hA30 10 (es rfl (es rfl l10_27))
          have l35_30 := lookE hA30 35 (et rfl)
          clear hA30 hsz27 hdf27 l0_27 l1_27 l2_27 l10_27
          refine then_n (hK29 _ _ ?_)
          clear hK29
          refine cond_sure l35_30 (by decide) ?_
          refine wp_seq_k (fun K31 hK31 => ?_)
          -- region 5
          refine region_in ?_
          refine W_v rfl rfl (V_mov rfl l10_30) ?_
          refine W_v rfl rfl (V_asg rfl rfl) ?_
          refine W_v rfl rfl (V_asg rfl rfl) ?_
          refine W_v rfl rfl (V_asg rfl (es rfl (es rfl (et rfl)))) ?_
          refine W_end ?_
          refine gen_Q (fun A32 hA32 => ?_)
          have hsz32 : SzN A32 73 := by rw [hA32]; infer_instance
          have hdf32 : A32.defers = [] := by rw [hA32]; simp only [df_put]; exact hdf30
          have l6_32 := lookE hA32 6 (es rfl (es rfl (et rfl)))
          have l7_32 := lookE hA32 7 (es rfl (et rfl))
          have l8_32 := lookE hA32 8 (et rfl)
          clear hA32 hsz30 hdf30 l0_30 l1_30 l2_30 l10_30 l35_30
          refine then_n (hK31 _ _ ?_)
          clear hK31
          refine wp_ret ?_
          refine then_ret ?_
          refine ret_in (results_3 Try.results14 (rv_tmp l6_32) (rv_tmp l7_32) (rv_tmp l8_32)) hdf32 ?_
          -- leaf TFFT
          have h : inE l f t = 7 := by first | exact inE_ck (by assumption) | exact inE_rg hck (by omega)
          have h2 := in_err (l := l) (f := f) (t := t) (by rw [h]; first | assumption | decide)
          rw [h2.1, h2.2, h]
          exact ⟨rfl, hS4.fin0⟩
        · skip
          have hrg : ¬ (f < 0 ∨ 1601 < t ∨ t < f) := by omega
          refine wp_skip ?_
          refine then_n (hK6 _ _ ?_)
          clear hK6
          refine wp_seq_k (fun K33 hK33 => ?_)
          refine wp_seq_k (fun K34 hK34 => ?_)
          -- region 4
          refine region_in ?_
          refine W_v rfl rfl (V_mov rfl l10_25) ?_
          refine W_v rfl rfl (V_neq rfl (et rfl) rfl) ?_
          refine W_end ?_
          refine gen_Q (fun A35 hA35 => ?_)
          have hsz35 : SzN A35 73 := by rw [hA35]; infer_instance
          have hdf35 : A35.defers = [] := by rw [hA35]; simp only [df_put]; exact hdf25
          have l0_35 := lookE hA35 0 (es rfl (es rfl l0_25))
          have l1_35 := lookE hA35 1 (es rfl (es rfl l1_25))
          have l2_35 := lookE hA35 2 (es rfl (es rfl l2_25))
          have l10_35 := lookE hA35 10 (es rfl (es rfl l10_25))
          have l35_35 := lookE hA35 35 (et rfl)
          clear hA35 hsz25 hdf25 l0_25 l1_25 l2_25 l10_25 l33_25
          refine then_n (hK34 _ _ ?_)
          clear hK34
          refine cond_not l35_35 (by simp [c8]) ?_
          refine wp_skip ?_
          refine then_n (hK33 _ _ ?_)
          clear hK33
          refine wp_seq_k (fun K36 hK36 => ?_)
          -- region 6
          refine region_in ?_
          refine W_v rfl rfl (V_asg rfl rfl) ?_
          refine W_v rfl rfl (V_asg rfl rfl) ?_
          refine W_end ?_
          refine gen_Q (fun A37 hA37 => ?_)
          have hsz37 : SzN A37 73 := by rw [hA37]; infer_instance
          have hdf37 : A37.defers = [] := by rw [hA37]; simp only [df_put]; exact hdf35
          have l0_37 := lookE hA37 0 (es rfl (es rfl l0_35))
          have l1_37 := lookE hA37 1 (es rfl (es rfl l1_35))
          have l2_37 := lookE hA37 2 (es rfl (es rfl l2_35))
          have l11_37 := lookE hA37 11 (es rfl (et rfl))
          have l12_37 := lookE hA37 12 (et rfl)
          clear hA37 hsz35 hdf35 l0_35 l1_35 l2_35 l10_35 l35_35
          refine then_n (hK36 _ _ ?_)
          clear hK36
          refine wp_seq_k (fun K38 hK38 => ?_)
          refine wp_seq_k (fun K39 hK39 => ?_)
          -- region 7
          refine region_in ?_
          refine W_v rfl rfl (V_asg rfl rfl) ?_
          refine W_end ?_
          refine gen_Q (fun A40 hA40 => ?_)
          have hsz40 : SzN A40 73 := by rw [hA40]; infer_instance
          have hdf40 : A40.defers = [] := by rw [hA40]; simp only [df_put]; exact hdf37
          have l0_40 := lookE hA40 0 (es rfl l0_37)
          have l1_40 := lookE hA40 1 (es rfl l1_37)
          have l2_40 := lookE hA40 2 (es rfl l2_37)
          have l11_40 := lookE hA40 11 (es rfl l11_37)
          have l12_40 := lookE hA40 12 (es rfl l12_37)
          have l13_40 := lookE hA40 13 (et rfl)
          clear hA40 hsz37 hdf37 l0_37 l1_37 l2_37 l11_37 l12_37
          refine then_n (hK39 _ _ ?_)
          clear hK39
          refine wp_block ?_
          -- loop 8
          refine loopX (fun mz A' w' => SzN A' 73 ∧ A'.defers = [] ∧ (∃ (k : Nat), (mz = l.length - k) ∧ (k ≤ l.length) ∧ (0 ≤ inC l f t k ∧ inC l f t k ≤ l.length) ∧ ((inK l f t k < 0) ↔ inC l f t k = 0) ∧ (-1 ≤ inK l f t k ∧ inK l f t k < (l.take k).length) ∧ (EV A' (.tmp 13) = .int .i64 (k : Int)) ∧ (EV A' (.tmp 11) = .int .i64 (inK l f t k)) ∧ (EV A' (.tmp 12) = .int .i64 (inC l f t k)) ∧ (EV A' (.tmp 0) = EV A40 (.tmp 0)) ∧ (EV A' (.tmp 1) = EV A40 (.tmp 1)) ∧ (EV A' (.tmp 2) = EV A40 (.tmp 2)) ∧ (St w NoX [] w'))) (l.length - 0) ⟨hsz40, hdf40, 0, rfl, (by omega), (inC_bd _ _ _ _), inK_neg, (idxF_bd _ _), ((l13_40).trans (by first | rfl | (simp; done) | (congr 1; omega))), ((l11_40).trans (rfl)), ((l12_40).trans (rfl)), rfl, rfl, rfl, hS4⟩ ?_
          clear hS4
          rintro n41 A41 w41 ⟨hsz41, hdf41, k, hm41, hk, hcb, hkn, hkb, l13_41, l11_41, l12_41, u0_41, u1_41, u2_41, hS41⟩
          have l0_41 := u0_41.trans l0_40
          have l1_41 := u1_41.trans l1_40
          have l2_41 := u2_41.trans l2_40
          refine wp_seq_k (fun K42 hK42 => ?_)
          refine wp_seq_k (fun K43 hK43 => ?_)
          -- region 8
          refine region_in ?_
          refine W_v rfl rfl (V_mov rfl l13_41) ?_
          refine W_v rfl rfl (V_mov rfl (es rfl l0_41)) ?_
          refine W_v rfl rfl (V_lenS rfl (et rfl) (sl_SlN h_rv.at) Try.underlying22) ?_
          refine W_v rfl rfl (V_lss rfl (es rfl (es rfl (et rfl))) (et rfl)) ?_
          refine W_end ?_
          refine gen_Q (fun A44 hA44 => ?_)
          have hsz44 : SzN A44 73 := by rw [hA44]; infer_instance
          have hdf44 : A44.defers = [] := by rw [hA44]; simp only [df_put]; exact hdf41
          have l0_44 := lookE hA44 0 (es rfl (es rfl (es rfl (es rfl l0_41))))
          have l1_44 := lookE hA44 1 (es rfl (es rfl (es rfl (es rfl l1_41))))
          have l2_44 := lookE hA44 2 (es rfl (es rfl (es rfl (es rfl l2_41))))
          have l11_44 := lookE hA44 11 (es rfl (es rfl (es rfl (es rfl l11_41))))
          have l12_44 := lookE hA44 12 (es rfl (es rfl (es rfl (es rfl l12_41))))
          have l13_44 := lookE hA44 13 (es rfl (es rfl (es rfl (es rfl l13_41))))
          have l40_44 := lookE hA44 40 (et rfl)
          clear hA44 hsz41 hdf41 l13_41 l11_41 l12_41 l0_41 l1_41 l2_41
          refine then_n (hK43 _ _ ?_)
          clear hK43
          refine cond_dec l40_44 (fun c45 => ?_) (fun c45 => ?_)
          · skip
            refine wp_skip ?_
            refine then_n (hK42 _ _ ?_)
            clear hK42
            refine wp_seq_k (fun K46 hK46 => ?_)
            refine wp_block ?_
            refine wp_seq_k (fun K47 hK47 => ?_)
            -- region 10
            refine region_in ?_
            refine W_v rfl rfl (V_mov rfl l0_44) ?_
            refine W_v rfl rfl (V_mov rfl (es rfl l13_44)) ?_
            have k48 : k < l.length := by first | omega | (simp only [List.length_cons, List.length_nil]; omega)
            obtain ⟨y48, hy48⟩ := get_some (xs := l) (k := k) k48
            obtain ⟨B48, O48, C48, hv48⟩ := (SlN.blk (sl_SlN h_rv.at) (by first | omega | (simp only [List.length_cons, List.length_nil]; omega)))
            refine W_v rfl rfl (V_ixS (off := O48 + k) 1 (k) rfl (es rfl (et rfl)) (et rfl) hv48 (by omega) k48 Try.underlying22 (by kernel_rfl) (congrArg _ (Nat.mul_one _))) ?_
            refine W_r rfl rfl (VR_ldC rfl (et rfl) ((sl_SlN (hS41.ro h_rv)).cell hv48 (map_get hy48)) Try.underlying3 rfl) ?_
            refine W_v rfl rfl (V_neq rfl (et rfl) rfl) ?_
            refine W_split rfl rfl (V_mov rfl (et rfl)) (fun c49 => ?_) (fun c49 => ?_)
            · skip
              refine W_v rfl (wanted_t rfl rfl (et rfl) (ez rfl)) (V_mov rfl (es rfl (es rfl (es rfl (es rfl (es rfl (es rfl l0_44))))))) ?_
              refine W_v rfl (wanted_t rfl rfl (es rfl (et rfl)) (ez rfl)) (V_mov rfl (es rfl (es rfl (es rfl (es rfl (es rfl (es rfl (es rfl l13_44)))))))) ?_
              refine W_v rfl (wanted_t rfl rfl (es rfl (es rfl (et rfl))) (ez rfl)) (V_ixS (off := O48 + k) 1 (k) rfl (es rfl (et rfl)) (et rfl) hv48 (by omega) k48 Try.underlying22 (by kernel_rfl) (congrArg _ (Nat.mul_one _))) ?_
              refine W_r rfl (wanted_t rfl rfl (es rfl (es rfl (es rfl (et rfl)))) (ez rfl)) (VR_ldC rfl (et rfl) ((sl_SlN (hS41.ro h_rv)).cell hv48 (map_get hy48)) Try.underlying3 rfl) ?_
              refine W_v rfl (wanted_t rfl rfl (es rfl (es rfl (es rfl (es rfl (et rfl))))) (ez rfl)) (V_mov rfl (es rfl (es rfl (es rfl (es rfl (es rfl (es rfl (es rfl (es rfl (es rfl (es rfl l1_44))))))))))) ?_
              refine W_v rfl (wanted_t rfl rfl (es rfl (es rfl (es rfl (es rfl (es rfl (et rfl)))))) (ez rfl)) (V_geq rfl (es rfl (et rfl)) (et rfl)) ?_
              refine W_v rfl rfl (V_pickT rfl (es rfl (es rfl (es rfl (es rfl (es rfl (es rfl (et rfl))))))) (et rfl)) ?_
              refine W_split rfl rfl (V_mov rfl (et rfl)) (fun c51 => ?_) (fun c51 => ?_)
              · skip
                refine W_v rfl (wanted_t rfl rfl (et rfl) (ez rfl)) (V_mov rfl (es rfl (es rfl (es rfl (es rfl (es rfl (es rfl (es rfl (es rfl (es rfl (es rfl (es rfl (es rfl (es rfl (es rfl l0_44))))))))))))))) ?_
                refine W_v rfl (wanted_t rfl rfl (es rfl (et rfl)) (ez rfl)) (V_mov rfl (es rfl (es rfl (es rfl (es rfl (es rfl (es rfl (es rfl (es rfl (es rfl (es rfl (es rfl (es rfl (es rfl (es rfl (es rfl l13_44)))))))))))))))) ?_
                refine W_v rfl (wanted_t rfl rfl (es rfl (es rfl (et rfl))) (ez rfl)) (V_ixS (off := O48 + k) 1 (k) rfl (es rfl (et rfl)) (et rfl) hv48 (by omega) k48 Try.underlying22 (by kernel_rfl) (congrArg _ (Nat.mul_one _))) ?_
                refine W_r rfl (wanted_t rfl rfl (es rfl (es rfl (es rfl (et rfl)))) (ez rfl)) (VR_ldC rfl (et rfl) ((sl_SlN (hS41.ro h_rv)).cell hv48 (map_get hy48)) Try.underlying3 rfl) ?_
                refine W_v rfl (wanted_t rfl rfl (es rfl (es rfl (es rfl (es rfl (et rfl))))) (ez rfl)) (V_mov rfl (es rfl (es rfl (es rfl (es rfl (es rfl (es rfl (es rfl (es rfl (es rfl (es rfl (es rfl (es rfl (es rfl (es rfl (es rfl (es rfl (es rfl (es rfl l2_44))))))))))))))))))) ?_
                refine W_v rfl (wanted_t rfl rfl (es rfl (es rfl (es rfl (es rfl (es rfl (et rfl)))))) (ez rfl)) (V_lss rfl (es rfl (et rfl)) (et rfl)) ?_
                refine W_v rfl rfl (V_pickT rfl (es rfl (es rfl (es rfl (es rfl (es rfl (es rfl (et rfl))))))) (et rfl)) ?_
                refine W_end ?_
                refine gen_Q (fun A53 hA53 => ?_)
                have hsz53 : SzN A53 73 := by rw [hA53]; infer_instance
                have hdf53 : A53.defers = [] := by rw [hA53]; simp only [df_put]; exact hdf44
                have l0_53 := lookE hA53 0 (es rfl (es rfl (es rfl (es rfl (es rfl (es rfl (es rfl (es rfl (es rfl (es rfl (es rfl (es rfl (es rfl (es rfl (es rfl (es rfl (es rfl (es rfl (es rfl (es rfl (es rfl l0_44)))))))))))))))))))))
                have l1_53 := lookE hA53 1 (es rfl (es rfl (es rfl (es rfl (es rfl (es rfl (es rfl (es rfl (es rfl (es rfl (es rfl (es rfl (es rfl (es rfl (es rfl (es rfl (es rfl (es rfl (es rfl (es rfl (es rfl l1_44)))))))))))))))))))))
                have l2_53 := lookE hA53 2 (es rfl (es rfl (es rfl (es rfl (es rfl (es rfl (es rfl (es rfl (es rfl (es rfl (es rfl (es rfl (es rfl (es rfl (es rfl (es rfl (es rfl (es rfl (es rfl (es rfl (es rfl l2_44)))))))))))))))))))))
                have l11_53 := lookE hA53 11 (es rfl (es rfl (es rfl (es rfl (es rfl (es rfl (es rfl (es rfl (es rfl (es rfl (es rfl (es rfl (es rfl (es rfl (es rfl (es rfl (es rfl (es rfl (es rfl (es rfl (es rfl l11_44)))))))))))))))))))))
                have l12_53 := lookE hA53 12 (es rfl (es rfl (es rfl (es rfl (es rfl (es rfl (es rfl (es rfl (es rfl (es rfl (es rfl (es rfl (es rfl (es rfl (es rfl (es rfl (es rfl (es rfl (es rfl (es rfl (es rfl l12_44)))))))))))))))))))))
                have l13_53 := lookE hA53 13 (es rfl (es rfl (es rfl (es rfl (es rfl (es rfl (es rfl (es rfl (es rfl (es rfl (es rfl (es rfl (es rfl (es rfl (es rfl (es rfl (es rfl (es rfl (es rfl (es rfl (es rfl l13_44)))))))))))))))))))))
                have l49_53 := lookE hA53 49 (es rfl (es rfl (es rfl (es rfl (es rfl (es rfl (es rfl (es rfl (es rfl (es rfl (es rfl (es rfl (es rfl (es rfl (et rfl)))))))))))))))
                have l50_53 := lookE hA53 50 (es rfl (es rfl (es rfl (es rfl (es rfl (es rfl (es rfl (es rfl (es rfl (es rfl (es rfl (es rfl (es rfl (et rfl))))))))))))))
                have l51_53 := lookE hA53 51 (es rfl (es rfl (es rfl (es rfl (es rfl (es rfl (es rfl (es rfl (es rfl (es rfl (es rfl (es rfl (et rfl)))))))))))))
                have l52_53 := lookE hA53 52 (es rfl (es rfl (es rfl (es rfl (es rfl (es rfl (es rfl (es rfl (es rfl (es rfl (es rfl (et rfl))))))))))))
                have l53_53 := lookE hA53 53 (es rfl (es rfl (es rfl (es rfl (es rfl (es rfl (es rfl (es rfl (es rfl (es rfl (et rfl)))))))))))
                have l54_53 := lookE hA53 54 (es rfl (es rfl (es rfl (es rfl (es rfl (es rfl (es rfl (es rfl (es rfl (et rfl))))))))))
                have l57_53 := lookE hA53 57 (es rfl (es rfl (es rfl (es rfl (es rfl (es rfl (et rfl)))))))
                have l58_53 := lookE hA53 58 (es rfl (es rfl (es rfl (es rfl (es rfl (et rfl))))))
                have l59_53 := lookE hA53 59 (es rfl (es rfl (es rfl (es rfl (et rfl)))))
                have l60_53 := lookE hA53 60 (es rfl (es rfl (es rfl (et rfl))))
                have l61_53 := lookE hA53 61 (es rfl (es rfl (et rfl)))
                have l62_53 := lookE hA53 62 (es rfl (et rfl))
                have l63_53 := lookE hA53 63 (et rfl)
                clear hA53 hsz44 hdf44 l0_44 l1_44 l2_44 l11_44 l12_44 l13_44 l40_44
                refine then_n (hK47 _ _ ?_)
                clear hK47
                refine cond_dec l63_53 (fun c54 => ?_) (fun c54 => ?_)
                · skip
                  refine wp_seq_k (fun K55 hK55 => ?_)
                  refine wp_seq_k (fun K56 hK56 => ?_)
                  -- region 11
                  refine region_in ?_
                  refine W_v rfl rfl (V_mov rfl l11_53) ?_
                  refine W_v rfl rfl (V_lss rfl (et rfl) rfl) ?_
                  refine W_end ?_
                  refine gen_Q (fun A57 hA57 => ?_)
                  have hsz57 : SzN A57 73 := by rw [hA57]; infer_instance
                  have hdf57 : A57.defers = [] := by rw [hA57]; simp only [df_put]; exact hdf53
                  have l0_57 := lookE hA57 0 (es rfl (es rfl l0_53))
                  have l1_57 := lookE hA57 1 (es rfl (es rfl l1_53))
                  have l2_57 := lookE hA57 2 (es rfl (es rfl l2_53))
                  have l11_57 := lookE hA57 11 (es rfl (es rfl l11_53))
                  have l12_57 := lookE hA57 12 (es rfl (es rfl l12_53))
                  have l13_57 := lookE hA57 13 (es rfl (es rfl l13_53))
                  have l49_57 := lookE hA57 49 (es rfl (es rfl l49_53))
                  have l50_57 := lookE hA57 50 (es rfl (es rfl l50_53))
                  have l51_57 := lookE hA57 51 (es rfl (es rfl l51_53))
                  have l52_57 := lookE hA57 52 (es rfl (es rfl l52_53))
                  have l53_57 := lookE hA57 53 (es rfl (es rfl l53_53))
                  have l54_57 := lookE hA57 54 (es rfl (es rfl l54_53))
                  have l57_57 := lookE hA57 57 (es rfl (es rfl l57_53))
                  have l58_57 := lookE hA57 58 (es rfl (es rfl l58_53))
                  have l59_57 := lookE hA57 59 (es rfl (es rfl l59_53))
                  have l60_57 := lookE hA57 60 (es rfl (es rfl l60_53))
                  have l61_57 := lookE hA57 61 (es rfl (es rfl l61_53))
                  have l62_57 := lookE hA57 62 (es rfl (es rfl l62_53))
                  have l65_57 := lookE hA57 65 (et rfl)
                  clear hA57 hsz53 hdf53 l0_53 l1_53 l2_53 l11_53 l12_53 l13_53 l49_53 l50_53 l51_53 l52_53 l53_53 l54_53 l57_53 l58_53 l59_53 l60_53 l61_53 l62_53 l63_53
                  refine then_n (hK56 _ _ ?_)
                  clear hK56
                  refine cond_dec l65_57 (fun c58 => ?_) (fun c58 => ?_)
                  · skip
                    -- region 12
                    refine region_in ?_
                    refine W_v rfl rfl (V_mov rfl l13_57) ?_
                    refine W_v rfl rfl (V_asg rfl (et rfl)) ?_
                    refine W_end ?_
                    refine gen_Q (fun A59 hA59 => ?_)
                    have hsz59 : SzN A59 73 := by rw [hA59]; infer_instance
                    have hdf59 : A59.defers = [] := by rw [hA59]; simp only [df_put]; exact hdf57
                    have l0_59 := lookE hA59 0 (es rfl (es rfl l0_57))
                    have l1_59 := lookE hA59 1 (es rfl (es rfl l1_57))
                    have l2_59 := lookE hA59 2 (es rfl (es rfl l2_57))
                    have l11_59 := lookE hA59 11 (et rfl)
                    have l12_59 := lookE hA59 12 (es rfl (es rfl l12_57))
                    have l13_59 := lookE hA59 13 (es rfl (es rfl l13_57))
                    have l49_59 := lookE hA59 49 (es rfl (es rfl l49_57))
                    have l50_59 := lookE hA59 50 (es rfl (es rfl l50_57))
                    have l51_59 := lookE hA59 51 (es rfl (es rfl l51_57))
                    have l52_59 := lookE hA59 52 (es rfl (es rfl l52_57))
                    have l53_59 := lookE hA59 53 (es rfl (es rfl l53_57))
                    have l54_59 := lookE hA59 54 (es rfl (es rfl l54_57))
                    have l57_59 := lookE hA59 57 (es rfl (es rfl l57_57))
                    have l58_59 := lookE hA59 58 (es rfl (es rfl l58_57))
                    have l59_59 := lookE hA59 59 (es rfl (es rfl l59_57))
                    have l60_59 := lookE hA59 60 (es rfl (es rfl l60_57))
                    have l61_59 := lookE hA59 61 (es rfl (es rfl l61_57))
                    have l62_59 := lookE hA59 62 (es rfl (es rfl l62_57))
                    clear hA59 hsz57 hdf57 l0_57 l1_57 l2_57 l11_57 l12_57 l13_57 l49_57 l50_57 l51_57 l52_57 l53_57 l54_57 l57_57 l58_57 l59_57 l60_57 l61_57 l62_57 l65_57
                    refine then_n (hK55 _ _ ?_)
                    clear hK55
                    -- region 13
                    refine region_in ?_
                    refine W_v rfl rfl (V_mov rfl l12_59) ?_
                    refine W_v rfl rfl (V_add rfl (et rfl) rfl (by omega) (by omega)) ?_
                    refine W_v rfl rfl (V_asg rfl (et rfl)) ?_
                    refine W_end ?_
                    refine gen_Q (fun A60 hA60 => ?_)
                    have hsz60 : SzN A60 73 := by rw [hA60]; infer_instance
                    have hdf60 : A60.defers = [] := by rw [hA60]; simp only [df_put]; exact hdf59
                    have l0_60 := lookE hA60 0 (es rfl (es rfl (es rfl l0_59)))
                    have l1_60 := lookE hA60 1 (es rfl (es rfl (es rfl l1_59)))
                    have l2_60 := lookE hA60 2 (es rfl (es rfl (es rfl l2_59)))
                    have l11_60 := lookE hA60 11 (es rfl (es rfl (es rfl l11_59)))
                    have l12_60 := lookE hA60 12 (et rfl)
                    have l13_60 := lookE hA60 13 (es rfl (es rfl (es rfl l13_59)))
                    have l49_60 := lookE hA60 49 (es rfl (es rfl (es rfl l49_59)))
                    have l50_60 := lookE hA60 50 (es rfl (es rfl (es rfl l50_59)))
                    have l51_60 := lookE hA60 51 (es rfl (es rfl (es rfl l51_59)))
                    have l52_60 := lookE hA60 52 (es rfl (es rfl (es rfl l52_59)))
                    have l53_60 := lookE hA60 53 (es rfl (es rfl (es rfl l53_59)))
                    have l54_60 := lookE hA60 54 (es rfl (es rfl (es rfl l54_59)))
                    have l57_60 := lookE hA60 57 (es rfl (es rfl (es rfl l57_59)))
                    have l58_60 := lookE hA60 58 (es rfl (es rfl (es rfl l58_59)))
                    have l59_60 := lookE hA60 59 (es rfl (es rfl (es rfl l59_59)))
                    have l60_60 := lookE hA60 60 (es rfl (es rfl (es rfl l60_59)))
                    have l61_60 := lookE hA60 61 (es rfl (es rfl (es rfl l61_59)))
                    have l62_60 := lookE hA60 62 (es rfl (es rfl (es rfl l62_59)))
                    clear hA60 hsz59 hdf59 l0_59 l1_59 l2_59 l11_59 l12_59 l13_59 l49_59 l50_59 l51_59 l52_59 l53_59 l54_59 l57_59 l58_59 l59_59 l60_59 l61_59 l62_59
                    refine inb_n ?_
                    refine then_n (hK46 _ _ ?_)
                    clear hK46
                    -- region 9
                    refine region_in ?_
                    refine W_v rfl rfl (V_mov rfl l13_60) ?_
                    refine W_v rfl rfl (V_add rfl (et rfl) rfl (by omega) (by omega)) ?_
                    refine W_v rfl rfl (V_asg rfl (et rfl)) ?_
                    refine W_end ?_
                    refine gen_Q (fun A61 hA61 => ?_)
                    have hsz61 : SzN A61 73 := by rw [hA61]; infer_instance
                    have hdf61 : A61.defers = [] := by rw [hA61]; simp only [df_put]; exact hdf60
                    have l0_61 := lookE hA61 0 (es rfl (es rfl (es rfl l0_60)))
                    have l1_61 := lookE hA61 1 (es rfl (es rfl (es rfl l1_60)))
                    have l2_61 := lookE hA61 2 (es rfl (es rfl (es rfl l2_60)))
                    have l11_61 := lookE hA61 11 (es rfl (es rfl (es rfl l11_60)))
                    have l12_61 := lookE hA61 12 (es rfl (es rfl (es rfl l12_60)))
                    have l13_61 := lookE hA61 13 (et rfl)
                    have l49_61 := lookE hA61 49 (es rfl (es rfl (es rfl l49_60)))
                    have l50_61 := lookE hA61 50 (es rfl (es rfl (es rfl l50_60)))
                    have l51_61 := lookE hA61 51 (es rfl (es rfl (es rfl l51_60)))
                    have l52_61 := lookE hA61 52 (es rfl (es rfl (es rfl l52_60)))
                    have l53_61 := lookE hA61 53 (es rfl (es rfl (es rfl l53_60)))
                    have l54_61 := lookE hA61 54 (es rfl (es rfl (es rfl l54_60)))
                    have l57_61 := lookE hA61 57 (es rfl (es rfl (es rfl l57_60)))
                    have l58_61 := lookE hA61 58 (es rfl (es rfl (es rfl l58_60)))
                    have l59_61 := lookE hA61 59 (es rfl (es rfl (es rfl l59_60)))
                    have l60_61 := lookE hA61 60 (es rfl (es rfl (es rfl l60_60)))
                    have l61_61 := lookE hA61 61 (es rfl (es rfl (es rfl l61_60)))
                    have l62_61 := lookE hA61 62 (es rfl (es rfl (es rfl l62_60)))
                    clear hA61 hsz60 hdf60 l0_60 l1_60 l2_60 l11_60 l12_60 l13_60 l49_60 l50_60 l51_60 l52_60 l53_60 l54_60 l57_60 l58_60 l59_60 l60_60 l61_60 l62_60
                    refine then_n ⟨l.length - (k + 1), by simp only [hm41]; omega, hsz61, hdf61, (k + 1), rfl, (by omega), (inC_bd _ _ _ _), inK_neg, (idxF_bd _ _), ((l13_61).trans (by first | rfl | (simp; done) | (congr 1; omega))), ((l11_61).trans ((by rw [(in_hit (f := f) (t := t) (hy48) (by omega)).1]; split <;> first | rfl | omega))), ((l12_61).trans ((by rw [(in_hit (f := f) (t := t) (hy48) (by omega)).2]))), ((l0_61).trans l0_40.symm), ((l1_61).trans l1_40.symm), ((l2_61).trans l2_40.symm), hS41⟩
                  · skip
                    refine wp_skip ?_
                    refine then_n (hK55 _ _ ?_)
                    clear hK55
                    -- region 13
                    refine region_in ?_
                    refine W_v rfl rfl (V_mov rfl l12_57) ?_
                    refine W_v rfl rfl (V_add rfl (et rfl) rfl (by omega) (by omega)) ?_
                    refine W_v rfl rfl (V_asg rfl (et rfl)) ?_
                    refine W_end ?_
                    refine gen_Q (fun A62 hA62 => ?_)
                    have hsz62 : SzN A62 73 := by rw [hA62]; infer_instance
                    have hdf62 : A62.defers = [] := by rw [hA62]; simp only [df_put]; exact hdf57
                    have l0_62 := lookE hA62 0 (es rfl (es rfl (es rfl l0_57)))
                    have l1_62 := lookE hA62 1 (es rfl (es rfl (es rfl l1_57)))
                    have l2_62 := lookE hA62 2 (es rfl (es rfl (es rfl l2_57)))
                    have l11_62 := lookE hA62 11 (es rfl (es rfl (es rfl l11_57)))
                    have l12_62 := lookE hA62 12 (et rfl)
                    have l13_62 := lookE hA62 13 (es rfl (es rfl (es rfl l13_57)))
                    have l49_62 := lookE hA62 49 (es rfl (es rfl (es rfl l49_57)))
                    have l50_62 := lookE hA62 50 (es rfl (es rfl (es rfl l50_57)))
                    have l51_62 := lookE hA62 51 (es rfl (es rfl (es rfl l51_57)))
                    have l52_62 := lookE hA62 52 (es rfl (es rfl (es rfl l52_57)))
                    have l53_62 := lookE hA62 53 (es rfl (es rfl (es rfl l53_57)))
                    have l54_62 := lookE hA62 54 (es rfl (es rfl (es rfl l54_57)))
                    have l57_62 := lookE hA62 57 (es rfl (es rfl (es rfl l57_57)))
                    have l58_62 := lookE hA62 58 (es rfl (es rfl (es rfl l58_57)))
                    have l59_62 := lookE hA62 59 (es rfl (es rfl (es rfl l59_57)))
                    have l60_62 := lookE hA62 60 (es rfl (es rfl (es rfl l60_57)))
                    have l61_62 := lookE hA62 61 (es rfl (es rfl (es rfl l61_57)))
                    have l62_62 := lookE hA62 62 (es rfl (es rfl (es rfl l62_57)))
                    clear hA62 hsz57 hdf57 l0_57 l1_57 l2_57 l11_57 l12_57 l13_57 l49_57 l50_57 l51_57 l52_57 l53_57 l54_57 l57_57 l58_57 l59_57 l60_57 l61_57 l62_57 l65_57
                    refine inb_n ?_
                    refine then_n (hK46 _ _ ?_)
                    clear hK46
                    -- region 9
                    refine region_in ?_
                    refine W_v rfl rfl (V_mov rfl l13_62) ?_
                    refine W_v rfl rfl (V_add rfl (et rfl) rfl (by omega) (by omega)) ?_
                    refine W_v rfl rfl (V_asg rfl (et rfl)) ?_
                    refine W_end ?_
                    refine gen_Q (fun A63 hA63 => ?_)
                    have hsz63 : SzN A63 73 := by rw [hA63]; infer_instance
                    have hdf63 : A63.defers = [] := by rw [hA63]; simp only [df_put]; exact hdf62
                    have l0_63 := lookE hA63 0 (es rfl (es rfl (es rfl l0_62)))
                    have l1_63 := lookE hA63 1 (es rfl (es rfl (es rfl l1_62)))
                    have l2_63 := lookE hA63 2 (es rfl (es rfl (es rfl l2_62)))
                    have l11_63 := lookE hA63 11 (es rfl (es rfl (es rfl l11_62)))
                    have l12_63 := lookE hA63 12 (es rfl (es rfl (es rfl l12_62)))
                    have l13_63 := lookE hA63 13 (et rfl)
                    have l49_63 := lookE hA63 49 (es rfl (es rfl (es rfl l49_62)))
                    have l50_63 := lookE hA63 50 (es rfl (es rfl (es rfl l50_62)))
                    have l51_63 := lookE hA63 51 (es rfl (es rfl (es rfl l51_62)))
                    have l52_63 := lookE hA63 52 (es rfl (es rfl (es rfl l52_62)))
                    have l53_63 := lookE hA63 53 (es rfl (es rfl (es rfl l53_62)))
                    have l54_63 := lookE hA63 54 (es rfl (es rfl (es rfl l54_62)))
                    have l57_63 := lookE hA63 57 (es rfl (es rfl (es rfl l57_62)))
                    have l58_63 := lookE hA63 58 (es rfl (es rfl (es rfl l58_62)))
                    have l59_63 := lookE hA63 59 (es rfl (es rfl (es rfl l59_62)))
                    have l60_63 := lookE hA63 60 (es rfl (es rfl (es rfl l60_62)))
                    have l61_63 := lookE hA63 61 (es rfl (es rfl (es rfl l61_62)))
                    have l62_63 := lookE hA63 62 (es rfl (es rfl (es rfl l62_62)))
                    clear hA63 hsz62 hdf62 l0_62 l1_62 l2_62 l11_62 l12_62 l13_62 l49_62 l50_62 l51_62 l52_62 l53_62 l54_62 l57_62 l58_62 l59_62 l60_62 l61_62 l62_62
                    refine then_n ⟨l.length - (k + 1), by simp only [hm41]; omega, hsz63, hdf63, (k + 1), rfl, (by omega), (inC_bd _ _ _ _), inK_neg, (idxF_bd _ _), ((l13_63).trans (by first | rfl | (simp; done) | (congr 1; omega))), ((l11_63).trans ((by rw [(in_hit (f := f) (t := t) (hy48) (by omega)).1]; split <;> first | rfl | omega))), ((l12_63).trans ((by rw [(in_hit (f := f) (t := t) (hy48) (by omega)).2]))), ((l0_63).trans l0_40.symm), ((l1_63).trans l1_40.symm), ((l2_63).trans l2_40.symm), hS41⟩
                · skip
                  refine wp_skip ?_
                  refine inb_n ?_
                  refine then_n (hK46 _ _ ?_)
                  clear hK46
                  -- region 9
                  refine region_in ?_
                  refine W_v rfl rfl (V_mov rfl l13_53) ?_
                  refine W_v rfl rfl (V_add rfl (et rfl) rfl (by omega) (by omega)) ?_
                  refine W_v rfl rfl (V_asg rfl (et rfl)) ?_
                  refine W_end ?_
                  refine gen_Q (fun A64 hA64 => ?_)
                  have hsz64 : SzN A64 73 := by rw [hA64]; infer_instance
                  have hdf64 : A64.defers = [] := by rw [hA64]; simp only [df_put]; exact hdf53
                  have l0_64 := lookE hA64 0 (es rfl (es rfl (es rfl l0_53)))
                  have l1_64 := lookE hA64 1 (es rfl (es rfl (es rfl l1_53)))
                  have l2_64 := lookE hA64 2 (es rfl (es rfl (es rfl l2_53)))
                  have l11_64 := lookE hA64 11 (es rfl (es rfl (es rfl l11_53)))
                  have l12_64 := lookE hA64 12 (es rfl (es rfl (es rfl l12_53)))
                  have l13_64 := lookE hA64 13 (et rfl)
                  have l49_64 := lookE hA64 49 (es rfl (es rfl (es rfl l49_53)))
                  have l50_64 := lookE hA64 50 (es rfl (es rfl (es rfl l50_53)))
                  have l51_64 := lookE hA64 51 (es rfl (es rfl (es rfl l51_53)))
                  have l52_64 := lookE hA64 52 (es rfl (es rfl (es rfl l52_53)))
                  have l53_64 := lookE hA64 53 (es rfl (es rfl (es rfl l53_53)))
                  have l54_64 := lookE hA64 54 (es rfl (es rfl (es rfl l54_53)))
                  have l57_64 := lookE hA64 57 (es rfl (es rfl (es rfl l57_53)))
                  have l58_64 := lookE hA64 58 (es rfl (es rfl (es rfl l58_53)))
                  have l59_64 := lookE hA64 59 (es rfl (es rfl (es rfl l59_53)))
                  have l60_64 := lookE hA64 60 (es rfl (es rfl (es rfl l60_53)))
                  have l61_64 := lookE hA64 61 (es rfl (es rfl (es rfl l61_53)))
                  have l62_64 := lookE hA64 62 (es rfl (es rfl (es rfl l62_53)))
                  clear hA64 hsz53 hdf53 l0_53 l1_53 l2_53 l11_53 l12_53 l13_53 l49_53 l50_53 l51_53 l52_53 l53_53 l54_53 l57_53 l58_53 l59_53 l60_53 l61_53 l62_53 l63_53
                  refine then_n ⟨l.length - (k + 1), by simp only [hm41]; omega, hsz64, hdf64, (k + 1), rfl, (by omega), (inC_bd _ _ _ _), inK_neg, (idxF_bd _ _), ((l13_64).trans (by first | rfl | (simp; done) | (congr 1; omega))), ((l11_64).trans ((by rw [(in_miss (f := f) (t := t) (hy48) (by omega)).1]))), ((l12_64).trans ((by rw [(in_miss (f := f) (t := t) (hy48) (by omega)).2]))), ((l0_64).trans l0_40.symm), ((l1_64).trans l1_40.symm), ((l2_64).trans l2_40.symm), hS41⟩
              · skip
                refine W_off rfl (wanted_f rfl rfl (et rfl) (ez rfl) rfl) ?_
                refine W_off rfl (wanted_f rfl rfl (es rfl (et rfl)) (ez rfl) rfl) ?_
                refine W_off rfl (wanted_f rfl rfl (es rfl (es rfl (et rfl))) (ez rfl) rfl) ?_
                refine W_off rfl (wanted_f rfl rfl (es rfl (es rfl (es rfl (et rfl)))) (ez rfl) rfl) ?_
                refine W_off rfl (wanted_f rfl rfl (es rfl (es rfl (es rfl (es rfl (et rfl))))) (ez rfl) rfl) ?_
                refine W_off rfl (wanted_f rfl rfl (es rfl (es rfl (es rfl (es rfl (es rfl (et rfl)))))) (ez rfl) rfl) ?_
                refine W_v rfl rfl (V_pickF rfl (es rfl (es rfl (es rfl (es rfl (es rfl (es rfl (et rfl))))))) rfl) ?_
                refine W_end ?_
                refine gen_Q (fun A65 hA65 => ?_)
                have hsz65 : SzN A65 73 := by rw [hA65]; infer_instance
                have hdf65 : A65.defers = [] := by rw [hA65]; simp only [df_put]; exact hdf44
                have l0_65 := lookE hA65 0 (es rfl (es rfl (es rfl (es rfl (es rfl (es rfl (es rfl (es rfl (es rfl (es rfl (es rfl (es rfl (es rfl (es rfl (es rfl (es rfl (es rfl (es rfl (es rfl (es rfl (es rfl l0_44)))))))))))))))))))))
                have l1_65 := lookE hA65 1 (es rfl (es rfl (es rfl (es rfl (es rfl (es rfl (es rfl (es rfl (es rfl (es rfl (es rfl (es rfl (es rfl (es rfl (es rfl (es rfl (es rfl (es rfl (es rfl (es rfl (es rfl l1_44)))))))))))))))))))))
                have l2_65 := lookE hA65 2 (es rfl (es rfl (es rfl (es rfl (es rfl (es rfl (es rfl (es rfl (es rfl (es rfl (es rfl (es rfl (es rfl (es rfl (es rfl (es rfl (es rfl (es rfl (es rfl (es rfl (es rfl l2_44)))))))))))))))))))))
                have l11_65 := lookE hA65 11 (es rfl (es rfl (es rfl (es rfl (es rfl (es rfl (es rfl (es rfl (es rfl (es rfl (es rfl (es rfl (es rfl (es rfl (es rfl (es rfl (es rfl (es rfl (es rfl (es rfl (es rfl l11_44)))))))))))))))))))))
                have l12_65 := lookE hA65 12 (es rfl (es rfl (es rfl (es rfl (es rfl (es rfl (es rfl (es rfl (es rfl (es rfl (es rfl (es rfl (es rfl (es rfl (es rfl (es rfl (es rfl (es rfl (es rfl (es rfl (es rfl l12_44)))))))))))))))))))))
                have l13_65 := lookE hA65 13 (es rfl (es rfl (es rfl (es rfl (es rfl (es rfl (es rfl (es rfl (es rfl (es rfl (es rfl (es rfl (es rfl (es rfl (es rfl (es rfl (es rfl (es rfl (es rfl (es rfl (es rfl l13_44)))))))))))))))))))))
                have l49_65 := lookE hA65 49 (es rfl (es rfl (es rfl (es rfl (es rfl (es rfl (es rfl (es rfl (es rfl (es rfl (es rfl (es rfl (es rfl (es rfl (et rfl)))))))))))))))
                have l50_65 := lookE hA65 50 (es rfl (es rfl (es rfl (es rfl (es rfl (es rfl (es rfl (es rfl (es rfl (es rfl (es rfl (es rfl (es rfl (et rfl))))))))))))))
                have l51_65 := lookE hA65 51 (es rfl (es rfl (es rfl (es rfl (es rfl (es rfl (es rfl (es rfl (es rfl (es rfl (es rfl (es rfl (et rfl)))))))))))))
                have l52_65 := lookE hA65 52 (es rfl (es rfl (es rfl (es rfl (es rfl (es rfl (es rfl (es rfl (es rfl (es rfl (es rfl (et rfl))))))))))))
                have l53_65 := lookE hA65 53 (es rfl (es rfl (es rfl (es rfl (es rfl (es rfl (es rfl (es rfl (es rfl (es rfl (et rfl)))))))))))
                have l54_65 := lookE hA65 54 (es rfl (es rfl (es rfl (es rfl (es rfl (es rfl (es rfl (es rfl (es rfl (et rfl))))))))))
                have l57_65 := lookE hA65 57 (es rfl (es rfl (es rfl (es rfl (es rfl (es rfl (et rfl)))))))
                have l58_65 := lookE hA65 58 (es rfl (es rfl (es rfl (es rfl (es rfl (et rfl))))))
                have l59_65 := lookE hA65 59 (es rfl (es rfl (es rfl (es rfl (et rfl)))))
                have l60_65 := lookE hA65 60 (es rfl (es rfl (es rfl (et rfl))))
                have l61_65 := lookE hA65 61 (es rfl (es rfl (et rfl)))
                have l62_65 := lookE hA65 62 (es rfl (et rfl))
                have l63_65 := lookE hA65 63 (et rfl)
                clear hA65 hsz44 hdf44 l0_44 l1_44 l2_44 l11_44 l12_44 l13_44 l40_44
                refine then_n (hK47 _ _ ?_)
                clear hK47
                refine cond_f l63_65 ?_
                refine wp_skip ?_
                refine inb_n ?_
                refine then_n (hK46 _ _ ?_)
                clear hK46
                -- region 9
                refine region_in ?_
                refine W_v rfl rfl (V_mov rfl l13_65) ?_
                refine W_v rfl rfl (V_add rfl (et rfl) rfl (by omega) (by omega)) ?_
                refine W_v rfl rfl (V_asg rfl (et rfl)) ?_
                refine W_end ?_
                refine gen_Q (fun A66 hA66 => ?_)
                have hsz66 : SzN A66 73 := by rw [hA66]; infer_instance
                have hdf66 : A66.defers = [] := by rw [hA66]; simp only [df_put]; exact hdf65
                have l0_66 := lookE hA66 0 (es rfl (es rfl (es rfl l0_65)))
                have l1_66 := lookE hA66 1 (es rfl (es rfl (es rfl l1_65)))
                have l2_66 := lookE hA66 2 (es rfl (es rfl (es rfl l2_65)))
                have l11_66 := lookE hA66 11 (es rfl (es rfl (es rfl l11_65)))
                have l12_66 := lookE hA66 12 (es rfl (es rfl (es rfl l12_65)))
                have l13_66 := lookE hA66 13 (et rfl)
                have l49_66 := lookE hA66 49 (es rfl (es rfl (es rfl l49_65)))
                have l50_66 := lookE hA66 50 (es rfl (es rfl (es rfl l50_65)))
                have l51_66 := lookE hA66 51 (es rfl (es rfl (es rfl l51_65)))
                have l52_66 := lookE hA66 52 (es rfl (es rfl (es rfl l52_65)))
                have l53_66 := lookE hA66 53 (es rfl (es rfl (es rfl l53_65)))
                have l54_66 := lookE hA66 54 (es rfl (es rfl (es rfl l54_65)))
                have l57_66 := lookE hA66 57 (es rfl (es rfl (es rfl l57_65)))
                have l58_66 := lookE hA66 58 (es rfl (es rfl (es rfl l58_65)))
                have l59_66 := lookE hA66 59 (es rfl (es rfl (es rfl l59_65)))
                have l60_66 := lookE hA66 60 (es rfl (es rfl (es rfl l60_65)))
                have l61_66 := lookE hA66 61 (es rfl (es rfl (es rfl l61_65)))
                have l62_66 := lookE hA66 62 (es rfl (es rfl (es rfl l62_65)))
                clear hA66 hsz65 hdf65 l0_65 l1_65 l2_65 l11_65 l12_65 l13_65 l49_65 l50_65 l51_65 l52_65 l53_65 l54_65 l57_65 l58_65 l59_65 l60_65 l61_65 l62_65 l63_65
                refine then_n ⟨l.length - (k + 1), by simp only [hm41]; omega, hsz66, hdf66, (k + 1), rfl, (by omega), (inC_bd _ _ _ _), inK_neg, (idxF_bd _ _), ((l13_66).trans (by first | rfl | (simp; done) | (congr 1; omega))), ((l11_66).trans ((by rw [(in_miss (f := f) (t := t) (hy48) (by omega)).1]))), ((l12_66).trans ((by rw [(in_miss (f := f) (t := t) (hy48) (by omega)).2]))), ((l0_66).trans l0_40.symm), ((l1_66).trans l1_40.symm), ((l2_66).trans l2_40.symm), hS41⟩
            · skip
              refine W_off rfl (wanted_f rfl rfl (et rfl) (ez rfl) rfl) ?_
              refine W_off rfl (wanted_f rfl rfl (es rfl (et rfl)) (ez rfl) rfl) ?_
              refine W_off rfl (wanted_f rfl rfl (es rfl (es rfl (et rfl))) (ez rfl) rfl) ?_
              refine W_off rfl (wanted_f rfl rfl (es rfl (es rfl (es rfl (et rfl)))) (ez rfl) rfl) ?_
              refine W_off rfl (wanted_f rfl rfl (es rfl (es rfl (es rfl (es rfl (et rfl))))) (ez rfl) rfl) ?_
              refine W_off rfl (wanted_f rfl rfl (es rfl (es rfl (es rfl (es rfl (es rfl (et rfl)))))) (ez rfl) rfl) ?_
              refine W_v rfl rfl (V_pickF rfl (es rfl (es rfl (es rfl (es rfl (es rfl (es rfl (et rfl))))))) rfl) ?_
              refine W_v rfl rfl (V_mov rfl (et rfl)) ?_
              refine W_off rfl (wanted_f rfl rfl (et rfl) (ez rfl) rfl) ?_
              refine W_off rfl (wanted_f rfl rfl (es rfl (et rfl)) (ez rfl) rfl) ?_
              refine W_off rfl (wanted_f rfl rfl (es rfl (es rfl (et rfl))) (ez rfl) rfl) ?_
              refine W_off rfl (wanted_f rfl rfl (es rfl (es rfl (es rfl (et rfl)))) (ez rfl) rfl) ?_
              refine W_off rfl (wanted_f rfl rfl (es rfl (es rfl (es rfl (es rfl (et rfl))))) (ez rfl) rfl) ?_
              refine W_off rfl (wanted_f rfl rfl (es rfl (es rfl (es rfl (es rfl (es rfl (et rfl)))))) (ez rfl) rfl) ?_
              refine W_v rfl rfl (V_pickF rfl (es rfl (es rfl (es rfl (es rfl (es rfl (es rfl (et rfl))))))) rfl) ?_
              refine W_end ?_
              refine gen_Q (fun A67 hA67 => ?_)
              have hsz67 : SzN A67 73 := by rw [hA67]; infer_instance
              have hdf67 : A67.defers = [] := by rw [hA67]; simp only [df_put]; exact hdf44
              have l0_67 := lookE hA67 0 (es rfl (es rfl (es rfl (es rfl (es rfl (es rfl (es rfl (es rfl (es rfl (es rfl (es rfl (es rfl (es rfl (es rfl (es rfl (es rfl (es rfl (es rfl (es rfl (es rfl (es rfl l0_44)))))))))))))))))))))
              have l1_67 := lookE hA67 1 (es rfl (es rfl (es rfl (es rfl (es rfl (es rfl (es rfl (es rfl (es rfl (es rfl (es rfl (es rfl (es rfl (es rfl (es rfl (es rfl (es rfl (es rfl (es rfl (es rfl (es rfl l1_44)))))))))))))))))))))
              have l2_67 := lookE hA67 2 (es rfl (es rfl (es rfl (es rfl (es rfl (es rfl (es rfl (es rfl (es rfl (es rfl (es rfl (es rfl (es rfl (es rfl (es rfl (es rfl (es rfl (es rfl (es rfl (es rfl (es rfl l2_44)))))))))))))))))))))
              have l11_67 := lookE hA67 11 (es rfl (es rfl (es rfl (es rfl (es rfl (es rfl (es rfl (es rfl (es rfl (es rfl (es rfl (es rfl (es rfl (es rfl (es rfl (es rfl (es rfl (es rfl (es rfl (es rfl (es rfl l11_44)))))))))))))))))))))
              have l12_67 := lookE hA67 12 (es rfl (es rfl (es rfl (es rfl (es rfl (es rfl (es rfl (es rfl (es rfl (es rfl (es rfl (es rfl (es rfl (es rfl (es rfl (es rfl (es rfl (es rfl (es rfl (es rfl (es rfl l12_44)))))))))))))))))))))
              have l13_67 := lookE hA67 13 (es rfl (es rfl (es rfl (es rfl (es rfl (es rfl (es rfl (es rfl (es rfl (es rfl (es rfl (es rfl (es rfl (es rfl (es rfl (es rfl (es rfl (es rfl (es rfl (es rfl (es rfl l13_44)))))))))))))))))))))
              have l49_67 := lookE hA67 49 (es rfl (es rfl (es rfl (es rfl (es rfl (es rfl (es rfl (es rfl (es rfl (es rfl (es rfl (es rfl (es rfl (es rfl (et rfl)))))))))))))))
              have l50_67 := lookE hA67 50 (es rfl (es rfl (es rfl (es rfl (es rfl (es rfl (es rfl (es rfl (es rfl (es rfl (es rfl (es rfl (es rfl (et rfl))))))))))))))
              have l51_67 := lookE hA67 51 (es rfl (es rfl (es rfl (es rfl (es rfl (es rfl (es rfl (es rfl (es rfl (es rfl (es rfl (es rfl (et rfl)))))))))))))
              have l52_67 := lookE hA67 52 (es rfl (es rfl (es rfl (es rfl (es rfl (es rfl (es rfl (es rfl (es rfl (es rfl (es rfl (et rfl))))))))))))
              have l53_67 := lookE hA67 53 (es rfl (es rfl (es rfl (es rfl (es rfl (es rfl (es rfl (es rfl (es rfl (es rfl (et rfl)))))))))))
              have l54_67 := lookE hA67 54 (es rfl (es rfl (es rfl (es rfl (es rfl (es rfl (es rfl (es rfl (es rfl (et rfl))))))))))
              have l57_67 := lookE hA67 57 (es rfl (es rfl (es rfl (es rfl (es rfl (es rfl (et rfl)))))))
              have l58_67 := lookE hA67 58 (es rfl (es rfl (es rfl (es rfl (es rfl (et rfl))))))
              have l59_67 := lookE hA67 59 (es rfl (es rfl (es rfl (es rfl (et rfl)))))
              have l60_67 := lookE hA67 60 (es rfl (es rfl (es rfl (et rfl))))
              have l61_67 := lookE hA67 61 (es rfl (es rfl (et rfl)))
              have l62_67 := lookE hA67 62 (es rfl (et rfl))
              have l63_67 := lookE hA67 63 (et rfl)
              clear hA67 hsz44 hdf44 l0_44 l1_44 l2_44 l11_44 l12_44 l13_44 l40_44
              refine then_n (hK47 _ _ ?_)
              clear hK47
              refine cond_f l63_67 ?_
              refine wp_skip ?_
              refine inb_n ?_
              refine then_n (hK46 _ _ ?_)
              clear hK46
              -- region 9
              refine region_in ?_
              refine W_v rfl rfl (V_mov rfl l13_67) ?_
              refine W_v rfl rfl (V_add rfl (et rfl) rfl (by omega) (by omega)) ?_
              refine W_v rfl rfl (V_asg rfl (et rfl)) ?_
              refine W_end ?_
              refine gen_Q (fun A68 hA68 => ?_)
              have hsz68 : SzN A68 73 := by rw [hA68]; infer_instance
              have hdf68 : A68.defers = [] := by rw [hA68]; simp only [df_put]; exact hdf67
              have l0_68 := lookE hA68 0 (es rfl (es rfl (es rfl l0_67)))
              have l1_68 := lookE hA68 1 (es rfl (es rfl (es rfl l1_67)))
              have l2_68 := lookE hA68 2 (es rfl (es rfl (es rfl l2_67)))
              have l11_68 := lookE hA68 11 (es rfl (es rfl (es rfl l11_67)))
              have l12_68 := lookE hA68 12 (es rfl (es rfl (es rfl l12_67)))
              have l13_68 := lookE hA68 13 (et rfl)
              have l49_68 := lookE hA68 49 (es rfl (es rfl (es rfl l49_67)))
              have l50_68 := lookE hA68 50 (es rfl (es rfl (es rfl l50_67)))
              have l51_68 := lookE hA68 51 (es rfl (es rfl (es rfl l51_67)))
              have l52_68 := lookE hA68 52 (es rfl (es rfl (es rfl l52_67)))
              have l53_68 := lookE hA68 53 (es rfl (es rfl (es rfl l53_67)))
              have l54_68 := lookE hA68 54 (es rfl (es rfl (es rfl l54_67)))
              have l57_68 := lookE hA68 57 (es rfl (es rfl (es rfl l57_67)))
              have l58_68 := lookE hA68 58 (es rfl (es rfl (es rfl l58_67)))
              have l59_68 := lookE hA68 59 (es rfl (es rfl (es rfl l59_67)))
              have l60_68 := lookE hA68 60 (es rfl (es rfl (es rfl l60_67)))
              have l61_68 := lookE hA68 61 (es rfl (es rfl (es rfl l61_67)))
              have l62_68 := lookE hA68 62 (es rfl (es rfl (es rfl l62_67)))
              clear hA68 hsz67 hdf67 l0_67 l1_67 l2_67 l11_67 l12_67 l13_67 l49_67 l50_67 l51_67 l52_67 l53_67 l54_67 l57_67 l58_67 l59_67 l60_67 l61_67 l62_67 l63_67
              refine then_n ⟨l.length - (k + 1), by simp only [hm41]; omega, hsz68, hdf68, (k + 1), rfl, (by omega), (inC_bd _ _ _ _), inK_neg, (idxF_bd _ _), ((l13_68).trans (by first | rfl | (simp; done) | (congr 1; omega))), ((l11_68).trans ((by rw [(in_miss (f := f) (t := t) (hy48) (by omega)).1]))), ((l12_68).trans ((by rw [(in_miss (f := f) (t := t) (hy48) (by omega)).2]))), ((l0_68).trans l0_40.symm), ((l1_68).trans l1_40.symm), ((l2_68).trans l2_40.symm), hS41⟩
          · skip
            refine wp_exit ?_
            refine then_exit ?_
            refine then_exit ?_
            refine inb_hit ?_
            refine then_n (hK38 _ _ ?_)
            clear hK38
            refine wp_seq_k (fun K69 hK69 => ?_)
            refine wp_seq_k (fun K70 hK70 => ?_)
            -- region 14
            refine region_in ?_
            refine W_v rfl rfl (V_mov rfl l11_44) ?_
            refine W_v rfl rfl (V_lss rfl (et rfl) rfl) ?_
            refine W_end ?_
            refine gen_Q (fun A71 hA71 => ?_)
            have hsz71 : SzN A71 73 := by rw [hA71]; infer_instance
            have hdf71 : A71.defers = [] := by rw [hA71]; simp only [df_put]; exact hdf44
            have l11_71 := lookE hA71 11 (es rfl (es rfl l11_44))
            have l12_71 := lookE hA71 12 (es rfl (es rfl l12_44))
            have l70_71 := lookE hA71 70 (et rfl)
            clear hA71 hsz44 hdf44 l0_44 l1_44 l2_44 l11_44 l12_44 l13_44 l40_44
            refine then_n (hK70 _ _ ?_)
            clear hK70
            refine cond_dec l70_71 (fun c72 => ?_) (fun c72 => ?_)
            · skip
              refine wp_seq_k (fun K73 hK73 => ?_)
              -- region 15
              refine region_in ?_
              refine W_v rfl rfl (V_asg rfl rfl) ?_
              refine W_v rfl rfl (V_asg rfl rfl) ?_
              refine W_v rfl rfl (V_asg rfl rfl) ?_
              refine W_end ?_
              refine gen_Q (fun A74 hA74 => ?_)
              have hsz74 : SzN A74 73 := by rw [hA74]; infer_instance
              have hdf74 : A74.defers = [] := by rw [hA74]; simp only [df_put]; exact hdf71
              have l6_74 := lookE hA74 6 (es rfl (es rfl (et rfl)))
              have l7_74 := lookE hA74 7 (es rfl (et rfl))
              have l8_74 := lookE hA74 8 (et rfl)
              clear hA74 hsz71 hdf71 l11_71 l12_71 l70_71
              refine then_n (hK73 _ _ ?_)
              clear hK73
              refine wp_ret ?_
              refine then_ret ?_
              refine ret_in (results_3 Try.results14 (rv_tmp l6_74) (rv_tmp l7_74) (rv_tmp l8_74)) hdf74 ?_
              -- leaf TFFFFT
              have h := (in_end (f := f) (t := t) (k := k) hck hrg (by omega)).1 (by omega)
              rw [h.1, h.2.1, h.2.2]
              exact ⟨rfl, hS41.fin0⟩
            · skip
              refine wp_skip ?_
              refine then_n (hK69 _ _ ?_)
              clear hK69
              refine wp_seq_k (fun K75 hK75 => ?_)
              -- region 16
              refine region_in ?_
              refine W_v rfl rfl (V_mov rfl l11_71) ?_
              refine W_v rfl rfl (V_mov rfl (es rfl l12_71)) ?_
              refine W_v rfl rfl (V_asg rfl (es rfl (et rfl))) ?_
              refine W_v rfl rfl (V_asg rfl (es rfl (et rfl))) ?_
              refine W_v rfl rfl (V_asg rfl rfl) ?_
              refine W_end ?_
              refine gen_Q (fun A76 hA76 => ?_)
              have hsz76 : SzN A76 73 := by rw [hA76]; infer_instance
              have hdf76 : A76.defers = [] := by rw [hA76]; simp only [df_put]; exact hdf71
              have l6_76 := lookE hA76 6 (es rfl (es rfl (et rfl)))
              have l7_76 := lookE hA76 7 (es rfl (et rfl))
              have l8_76 := lookE hA76 8 (et rfl)
              clear hA76 hsz71 hdf71 l11_71 l12_71 l70_71
              refine then_n (hK75 _ _ ?_)
              clear hK75
              refine wp_ret ?_
              refine ret_in (results_3 Try.results14 (rv_tmp l6_76) (rv_tmp l7_76) (rv_tmp l8_76)) hdf76 ?_
              -- leaf TFFFFF
              have h := (in_end (f := f) (t := t) (k := k) hck hrg (by omega)).2 (by omega)
              rw [h.1, h.2.1, h.2.2]
              exact ⟨rfl, hS41.fin0⟩
  · skip
    refine W_off rfl (wanted_f rfl rfl (et rfl) (ez rfl) rfl) ?_
    refine W_off rfl (wanted_f rfl rfl (es rfl (et rfl)) (ez rfl) rfl) ?_
    refine W_off rfl (wanted_f rfl rfl (es rfl (es rfl (et rfl))) (ez rfl) rfl) ?_
    refine W_off rfl (wanted_u rfl rfl (et rfl) (ez rfl)) ?_
    refine W_off rfl (wanted_u rfl rfl (es rfl (et rfl)) (ez rfl)) ?_
    refine W_off rfl (wanted_f rfl rfl (es rfl (es rfl (es rfl (es rfl (es rfl (et rfl)))))) (ez rfl) rfl) ?_
    refine W_off rfl (wanted_f rfl rfl (es rfl (es rfl (es rfl (es rfl (es rfl (es rfl (et rfl))))))) (ez rfl) rfl) ?_
    refine W_off rfl (wanted_u rfl rfl (et rfl) (ez rfl)) ?_
    refine W_off rfl (wanted_u rfl rfl (es rfl (et rfl)) (ez rfl)) ?_
    refine W_off rfl (wanted_u rfl rfl (es rfl (es rfl (et rfl))) (ez rfl)) ?_
    refine W_off rfl (wanted_f rfl rfl (es rfl (es rfl (es rfl (es rfl (es rfl (es rfl (es rfl (es rfl (es rfl (es rfl (et rfl))))))))))) (ez rfl) rfl) ?_
    refine W_v rfl rfl (V_pickF rfl (es rfl (es rfl (es rfl (es rfl (es rfl (es rfl (es rfl (es rfl (es rfl (es rfl (es rfl (et rfl)))))))))))) rfl) ?_
    refine W_end ?_
    refine gen_Q (fun A77 hA77 => ?_)
    have hsz77 : SzN A77 73 := by rw [hA77]; infer_instance
    have hdf77 : A77.defers = [] := by rw [hA77]; simp only [df_put]; exact hdf5
    have l0_77 := lookE hA77 0 (es rfl (es rfl (es rfl (es rfl (es rfl (es rfl (es rfl (es rfl (es rfl (es rfl (es rfl (es rfl (es rfl (es rfl (es rfl l0_5)))))))))))))))
    have l1_77 := lookE hA77 1 (es rfl (es rfl (es rfl (es rfl (es rfl (es rfl (es rfl (es rfl (es rfl (es rfl (es rfl (es rfl (es rfl (es rfl (es rfl l1_5)))))))))))))))
    have l2_77 := lookE hA77 2 (es rfl (es rfl (es rfl (es rfl (es rfl (es rfl (es rfl (es rfl (es rfl (es rfl (es rfl (es rfl (es rfl (es rfl (es rfl l2_5)))))))))))))))
    have l10_77 := lookE hA77 10 (es rfl (es rfl (es rfl (es rfl (es rfl (es rfl (es rfl (es rfl (es rfl (es rfl (es rfl (es rfl (es rfl (es rfl (es rfl l10_5)))))))))))))))
    have l33_77 := lookE hA77 33 (et rfl)
    clear hA77 hsz5 hdf5 l0_5 l1_5 l2_5 l10_5
    refine then_n (hK7 _ _ ?_)
    clear hK7
    refine cond_f l33_77 ?_
    refine wp_skip ?_
    refine then_n (hK6 _ _ ?_)
    clear hK6
    refine wp_seq_k (fun K78 hK78 => ?_)
    refine wp_seq_k (fun K79 hK79 => ?_)
    -- region 4
    refine region_in ?_
    refine W_v rfl rfl (V_mov rfl l10_77) ?_
    refine W_v rfl rfl (V_neq rfl (et rfl) rfl) ?_
    refine W_end ?_
    refine gen_Q (fun A80 hA80 => ?_)
    have hsz80 : SzN A80 73 := by rw [hA80]; infer_instance
    have hdf80 : A80.defers = [] := by rw [hA80]; simp only [df_put]; exact hdf77
    have l0_80 := lookE hA80 0 (es rfl (es rfl l0_77))
    have l1_80 := lookE hA80 1 (es rfl (es rfl l1_77))
    have l2_80 := lookE hA80 2 (es rfl (es rfl l2_77))
    have l10_80 := lookE hA80 10 (es rfl (es rfl l10_77))
    have l35_80 := lookE hA80 35 (et rfl)
    clear hA80 hsz77 hdf77 l0_77 l1_77 l2_77 l10_77 l33_77
    refine then_n (hK79 _ _ ?_)
    clear hK79
    refine cond_sure l35_80 (by simp [c8]) ?_
    refine wp_seq_k (fun K81 hK81 => ?_)
    -- region 5
    refine region_in ?_
    refine W_v rfl rfl (V_mov rfl l10_80) ?_
    refine W_v rfl rfl (V_asg rfl rfl) ?_
    refine W_v rfl rfl (V_asg rfl rfl) ?_
    refine W_v rfl rfl (V_asg rfl (es rfl (es rfl (et rfl)))) ?_
    refine W_end ?_
    refine gen_Q (fun A82 hA82 => ?_)
    have hsz82 : SzN A82 73 := by rw [hA82]; infer_instance
    have hdf82 : A82.defers = [] := by rw [hA82]; simp only [df_put]; exact hdf80
    have l6_82 := lookE hA82 6 (es rfl (es rfl (et rfl)))
    have l7_82 := lookE hA82 7 (es rfl (et rfl))
    have l8_82 := lookE hA82 8 (et rfl)
    clear hA82 hsz80 hdf80 l0_80 l1_80 l2_80 l10_80 l35_80
    refine then_n (hK81 _ _ ?_)
    clear hK81
    refine wp_ret ?_
    refine then_ret ?_
    refine ret_in (results_3 Try.results14 (rv_tmp l6_82) (rv_tmp l7_82) (rv_tmp l8_82)) hdf82 ?_
    -- leaf F
    have h : inE l f t = (ckR l).2 := by first | exact inE_ck (by assumption) | exact inE_rg hck (by omega)
    have h2 := in_err (l := l) (f := f) (t := t) (by rw [h]; first | assumption | decide)
    rw [h2.1, h2.2, h]
    exact ⟨rfl, hS4.fin0⟩

set_option maxHeartbeats 4000000 in
theorem kTg_c {rv : Value} {l : List Int} {w : World} (h_rv : Ro w NoX (il .i64 rv l))  :
    Calls Try.prog 15 #[rv] w fun e w' => ∃ v, e = .returned (.tuple #[v, .int .i64 (ckR l).2]) ∧ St w NoX [io .i64 (v) (tgT l)] w' := by
  refine calls_in 25 Try.func15 rfl rfl (by simp) (fun A0 hsz0 hdf0 hargs => ?_)
  have l0_0 := hargs 0 (rv) rfl
  clear hargs; replace hsz0 : SzN A0 25 := ⟨hsz0⟩
  have hS := St.nil w
  have bh_rv := SlN.le (sl_SlN h_rv.at)
  refine wp_seq_k (fun K1 hK1 => ?_)
  -- region 0
  refine region_in ?_
  refine W_v rfl rfl (V_asg rfl rfl) ?_
  refine W_v rfl rfl (V_asg rfl rfl) ?_
  refine W_end ?_
  refine gen_Q (fun A2 hA2 => ?_)
  have hsz2 : SzN A2 25 := by rw [hA2]; infer_instance
  have hdf2 : A2.defers = [] := by rw [hA2]; simp only [df_put]; exact hdf0
  have l0_2 := lookE hA2 0 (es rfl (es rfl l0_0))
  clear hA2 hsz0 hdf0 l0_0
  refine then_n (hK1 _ _ ?_)
  clear hK1
  refine wp_seq_k (fun K3 hK3 => ?_)
  -- region 1
  refine region_in ?_
  refine W_v rfl rfl (V_mov rfl l0_2) ?_
  refine W_call rfl rfl rfl Try.func35 (by kernel_rfl) rfl (args2 (et rfl) rfl) (nm_c (ns := []) (nv := .slice none 0 0) (hS.roC h_rv) ro_nil ) ?_
  rintro _ w4 ⟨v_4, rfl, hP4⟩
  refine ⟨_, rfl, ?_⟩
  obtain ⟨c_4, hc_4, hP4⟩ := gen1 hP4
  have hS4 := hS.join hP4
  replace hS4 : St w NoX [c_4] w4 := hS4
  refine W_v rfl rfl (V_mov rfl (et rfl)) ?_
  refine W_v rfl rfl (V_ext (v := v_4) rfl (et rfl) rfl) ?_
  refine W_v rfl rfl (V_ext (v := .int .i64 ((nmE l []))) rfl (es rfl (et rfl)) rfl) ?_
  refine W_v rfl rfl (V_asg rfl (es rfl (et rfl))) ?_
  refine W_v rfl rfl (V_asg rfl (es rfl (et rfl))) ?_
  refine W_end ?_
  refine gen_Q (fun A5 hA5 => ?_)
  have hsz5 : SzN A5 25 := by rw [hA5]; infer_instance
  have hdf5 : A5.defers = [] := by rw [hA5]; simp only [df_put]; exact hdf2
  have l4_5 := lookE hA5 4 (es rfl (et rfl))
  have l5_5 := lookE hA5 5 (et rfl)
  clear hA5 hsz2 hdf2 l0_2
  refine then_n (hK3 _ _ ?_)
  clear hK3
  refine wp_seq_k (fun K6 hK6 => ?_)
  refine wp_seq_k (fun K7 hK7 => ?_)
  -- region 2
  refine region_in ?_
  refine W_v rfl rfl (V_mov rfl l5_5) ?_
  refine W_v rfl rfl (V_neq rfl (et rfl) rfl) ?_
  refine W_end ?_
  refine gen_Q (fun A8 hA8 => ?_)
  have hsz8 : SzN A8 25 := by rw [hA8]; infer_instance
  have hdf8 : A8.defers = [] := by rw [hA8]; simp only [df_put]; exact hdf5
  have l4_8 := lookE hA8 4 (es rfl (es rfl l4_5))
  have l5_8 := lookE hA8 5 (es rfl (es rfl l5_5))
  have l12_8 := lookE hA8 12 (et rfl)
  clear hA8 hsz5 hdf5 l4_5 l5_5
  refine then_n (hK7 _ _ ?_)
  clear hK7
  refine cond_dec l12_8 (fun c9 => ?_) (fun c9 => ?_)
  · skip
    refine wp_seq_k (fun K10 hK10 => ?_)
    -- region 3
    refine region_in ?_
    refine W_v rfl rfl (V_mov rfl l5_8) ?_
    refine W_v rfl rfl (V_asg rfl rfl) ?_
    refine W_v rfl rfl (V_asg rfl (es rfl (et rfl))) ?_
    refine W_end ?_
    refine gen_Q (fun A11 hA11 => ?_)
    have hsz11 : SzN A11 25 := by rw [hA11]; infer_instance
    have hdf11 : A11.defers = [] := by rw [hA11]; simp only [df_put]; exact hdf8
    have l2_11 := lookE hA11 2 (es rfl (et rfl))
    have l3_11 := lookE hA11 3 (et rfl)
    clear hA11 hsz8 hdf8 l4_8 l5_8 l12_8
    have hS12 : St w NoX [] w4 := hS4.sel [] (by decide) rfl
    refine then_n (hK10 _ _ ?_)
    clear hK10
    refine wp_ret ?_
    refine then_ret ?_
    refine ret_in (results_2 Try.results15 (rv_tmp l2_11) (rv_tmp l3_11)) hdf11 ?_
    -- leaf T
    obtain ⟨c13, hc13, hS13⟩ := hS12.pnil (s := 1)
    have hn : (ckR l).2 = (nmE l []) := by first | rfl | exact (nmE_nil l).symm
    have h := tgT_err (l := l) (by rw [hn]; exact c9)
    rw [hn]
    exact ⟨_, rfl, (hS13.fin1 0 rfl (hc13.trans (by rw [h] <;> rfl)))⟩
  · skip
    have hck : (ckR l).2 = 0 := by rw [← nmE_nil]; simpa using c9
    have hE : nmE l [] = 0 := by rw [nmE_nil]; exact hck
    obtain ⟨hl1, hl8, hin0⟩ := ckR_good hck
    have hT := nmT_ok hE
    have hTl : (nmT l []).length = l.length := by rw [hT]
    have hsl := sortL_len (nmT l [])
    have hcp := cmp_pos (l := nmT l []) (by omega)
    have hcl := cmp_len (sortL (nmT l []))
    refine wp_skip ?_
    refine then_n (hK6 _ _ ?_)
    clear hK6
    refine wp_seq_k (fun K14 hK14 => ?_)
    -- region 4
    refine region_in ?_
    refine W_v rfl rfl (V_mov rfl l4_8) ?_
    obtain ⟨Y15, hP15, hR15, hF15, hB15⟩ := St.call (pre := [c_4]) (fr := []) hS4
    rw [hc_4] at hP15
    refine W_call rfl rfl rfl Try.func36 (by kernel_rfl) rfl (args1 (et rfl)) ((sort_St (us := sortL (nmT l [])) hP15 (by omega) (sortL_len (nmT l [])) (fun g off cap hH hg => Try.slices_Sort_int g off cap (nmT l []) _ hH hg (by omega)))) ?_
    rintro _ w16 ⟨rfl, hP16⟩
    refine ⟨_, rfl, ?_⟩
    obtain ⟨c_16, hc_16, hP16⟩ := gen1 hP16
    have hS16 := hB15 _ _ hP16
    replace hS16 : St w NoX [c_16] w16 := hS16
    refine W_end ?_
    refine gen_Q (fun A17 hA17 => ?_)
    have hsz17 : SzN A17 25 := by rw [hA17]; infer_instance
    have hdf17 : A17.defers = [] := by rw [hA17]; simp only [df_put]; exact hdf8
    have l4_17 := lookE hA17 4 (es rfl (es rfl l4_8))
    clear hA17 hsz8 hdf8 l4_8 l5_8 l12_8
    refine then_n (hK14 _ _ ?_)
    clear hK14
    refine wp_seq_k (fun K18 hK18 => ?_)
    -- region 5
    refine region_in ?_
    refine W_v rfl rfl (V_mov rfl l4_17) ?_
    obtain ⟨Y19, hP19, hR19, hF19, hB19⟩ := St.call (pre := [c_16]) (fr := []) hS16
    rw [hc_16] at hP19
    refine W_call rfl rfl rfl Try.func37 (by kernel_rfl) rfl (args1 (et rfl)) ((compact_St (us := Lib.compact (sortL (nmT l []))) hP19 (by omega) (cmp_len (sortL (nmT l []))) (fun g off cap hH hc => Try.slices_Compact_int g off cap (sortL (nmT l [])) _ hH (by omega) hc))) ?_
    rintro _ w20 ⟨v_20, rfl, hP20⟩
    refine ⟨_, rfl, ?_⟩
    obtain ⟨c_20, hc_20, hP20⟩ := gen1 hP20
    have hS20 := hB19 _ _ hP20
    replace hS20 : St w NoX [c_20] w20 := hS20
    refine W_v rfl rfl (V_asg rfl (et rfl)) ?_
    refine W_end ?_
    refine gen_Q (fun A21 hA21 => ?_)
    have hsz21 : SzN A21 25 := by rw [hA21]; infer_instance
    have hdf21 : A21.defers = [] := by rw [hA21]; simp only [df_put]; exact hdf17
    have l4_21 := lookE hA21 4 (et rfl)
    clear hA21 hsz17 hdf17 l4_17
    refine then_n (hK18 _ _ ?_)
    clear hK18
    refine wp_seq_k (fun K22 hK22 => ?_)
    refine wp_seq_k (fun K23 hK23 => ?_)
    -- region 6
    refine region_in ?_
    refine W_v rfl rfl (V_mov rfl l4_21) ?_
    have k24 : 0 < (Lib.compact (sortL (nmT l []))).length := by first | omega | (simp only [List.length_cons, List.length_nil]; omega)
    obtain ⟨y24, hy24⟩ := get_some (xs := (Lib.compact (sortL (nmT l [])))) (k := 0) k24
    obtain ⟨B24, O24, C24, hv24⟩ := (SlN.blk (ow_at (hS20.chq 0 rfl hc_20)) (by first | omega | (simp only [List.length_cons, List.length_nil]; omega)))
    refine W_v rfl rfl (V_ixS (off := O24 + 0) 1 (0) rfl (et rfl) rfl hv24 (by omega) k24 Try.underlying22 (by kernel_rfl) (congrArg _ (Nat.mul_one _))) ?_
    refine W_r rfl rfl (VR_ldC rfl (et rfl) ((ow_at (hS20.chq 0 rfl hc_20)).cell hv24 (map_get hy24)) Try.underlying3 rfl) ?_
    refine W_v rfl rfl (V_eql rfl (et rfl) rfl) ?_
    refine W_end ?_
    refine gen_Q (fun A25 hA25 => ?_)
    have hsz25 : SzN A25 25 := by rw [hA25]; infer_instance
    have hdf25 : A25.defers = [] := by rw [hA25]; simp only [df_put]; exact hdf21
    have l4_25 := lookE hA25 4 (es rfl (es rfl (es rfl (es rfl l4_21))))
    have l21_25 := lookE hA25 21 (et rfl)
    clear hA25 hsz21 hdf21 l4_21
    refine then_n (hK23 _ _ ?_)
    clear hK23
    refine cond_dec l21_25 (fun c26 => ?_) (fun c26 => ?_)
    · skip
      -- region 7
      refine region_in ?_
      refine W_v rfl rfl (V_mov rfl l4_25) ?_
      have k27 : 1 ≤ (Lib.compact (sortL (nmT l []))).length := by omega
      have m27 : (Lib.compact (sortL (nmT l []))).length ≤ (Lib.compact (sortL (nmT l []))).length := by omega
      obtain ⟨c27, hc27, hS27⟩ := hS20.sub 0 rfl hc_20 (1) ((Lib.compact (sortL (nmT l []))).length) k27 m27
      replace hc27 : c27 = io .i64 (subS 1 v_20 1 ((Lib.compact (sortL (nmT l []))).length)) ((Lib.compact (sortL (nmT l []))).drop 1) := hc27.trans (part_eq k27 m27 (by first | (simp; done) | exact List.take_of_length_le (by rw [List.length_drop]; omega)))
      replace hS27 : St w NoX [c27] w20 := hS27
      refine W_v rfl rfl (V_subS 1 (1) ((Lib.compact (sortL (nmT l []))).length) rfl (et rfl) (.inr ⟨_, _, rfl, rfl, by omega⟩) (.inl ⟨rfl, rfl⟩) Try.underlying22 (by kernel_rfl) (ow_at (hS20.chq 0 rfl hc_20)) k27 m27) ?_
      refine W_v rfl rfl (V_asg rfl (et rfl)) ?_
      refine W_end ?_
      refine gen_Q (fun A28 hA28 => ?_)
      have hsz28 : SzN A28 25 := by rw [hA28]; infer_instance
      have hdf28 : A28.defers = [] := by rw [hA28]; simp only [df_put]; exact hdf25
      have l4_28 := lookE hA28 4 (et rfl)
      clear hA28 hsz25 hdf25 l4_25 l21_25
      refine then_n (hK22 _ _ ?_)
      clear hK22
      refine wp_seq_k (fun K29 hK29 => ?_)
      -- region 8
      refine region_in ?_
      refine W_v rfl rfl (V_mov rfl l4_28) ?_
      refine W_v rfl rfl (V_asg rfl (et rfl)) ?_
      refine W_v rfl rfl (V_asg rfl rfl) ?_
      refine W_end ?_
      refine gen_Q (fun A30 hA30 => ?_)
      have hsz30 : SzN A30 25 := by rw [hA30]; infer_instance
      have hdf30 : A30.defers = [] := by rw [hA30]; simp only [df_put]; exact hdf28
      have l2_30 := lookE hA30 2 (es rfl (et rfl))
      have l3_30 := lookE hA30 3 (et rfl)
      clear hA30 hsz28 hdf28 l4_28
      refine then_n (hK29 _ _ ?_)
      clear hK29
      refine wp_ret ?_
      refine ret_in (results_2 Try.results15 (rv_tmp l2_30) (rv_tmp l3_30)) hdf30 ?_
      -- leaf FT
      have h := tg_zero hin0 (hT ▸ hy24) c26
      rw [hck]
      exact ⟨_, rfl, (hS27.fin1 0 rfl (hc27.trans (by rw [tgT_ok hck, ← h, hT])))⟩
    · skip
      refine wp_skip ?_
      refine then_n (hK22 _ _ ?_)
      clear hK22
      refine wp_seq_k (fun K31 hK31 => ?_)
      -- region 8
      refine region_in ?_
      refine W_v rfl rfl (V_mov rfl l4_25) ?_
      refine W_v rfl rfl (V_asg rfl (et rfl)) ?_
      refine W_v rfl rfl (V_asg rfl rfl) ?_
      refine W_end ?_
      refine gen_Q (fun A32 hA32 => ?_)
      have hsz32 : SzN A32 25 := by rw [hA32]; infer_instance
      have hdf32 : A32.defers = [] := by rw [hA32]; simp only [df_put]; exact hdf25
      have l2_32 := lookE hA32 2 (es rfl (et rfl))
      have l3_32 := lookE hA32 3 (et rfl)
      clear hA32 hsz25 hdf25 l4_25 l21_25
      refine then_n (hK31 _ _ ?_)
      clear hK31
      refine wp_ret ?_
      refine ret_in (results_2 Try.results15 (rv_tmp l2_32) (rv_tmp l3_32)) hdf32 ?_
      -- leaf FF
      have h := tg_none hin0 (hT ▸ hy24) c26
      rw [hck]
      exact ⟨_, rfl, (hS20.fin1 0 rfl (hc_20.trans (by rw [tgT_ok hck, ← h, hT])))⟩

set_option maxHeartbeats 4000000 in
theorem qTg_c {rv : Value} {l : List Int} {w : World} (h_rv : Ro w NoX (il .i64 rv l))  :
    Calls Try.prog 16 #[rv] w fun e w' => ∃ v, e = .returned (.tuple #[v, .int .i64 (ckR l).2]) ∧ St w NoX [io .i64 (v) (tgT l)] w' := by
  refine calls_in 43 Try.func16 rfl rfl (by simp) (fun A0 hsz0 hdf0 hargs => ?_)
  have l0_0 := hargs 0 (rv) rfl
  clear hargs; replace hsz0 : SzN A0 43 := ⟨hsz0⟩
  have hS := St.nil w
  have bh_rv := SlN.le (sl_SlN h_rv.at)
  refine wp_seq_k (fun K1 hK1 => ?_)
  -- region 0
  refine region_in ?_
  refine W_v rfl rfl (V_asg rfl rfl) ?_
  refine W_v rfl rfl (V_asg rfl rfl) ?_
  refine W_end ?_
  refine gen_Q (fun A2 hA2 => ?_)
  have hsz2 : SzN A2 43 := by rw [hA2]; infer_instance
  have hdf2 : A2.defers = [] := by rw [hA2]; simp only [df_put]; exact hdf0
  have l0_2 := lookE hA2 0 (es rfl (es rfl l0_0))
  clear hA2 hsz0 hdf0 l0_0
  refine then_n (hK1 _ _ ?_)
  clear hK1
  refine wp_seq_k (fun K3 hK3 => ?_)
  -- region 1
  refine region_in ?_
  refine W_v rfl rfl (V_mov rfl l0_2) ?_
  refine W_call rfl rfl rfl Try.func26 (by kernel_rfl) rfl (args1 (et rfl)) (qCk_c (hS.roC h_rv) ) ?_
  rintro _ w4 ⟨rfl, hP4⟩
  refine ⟨_, rfl, ?_⟩
  have hS4 := hS.join hP4
  replace hS4 : St w NoX [] w4 := hS4
  refine W_v rfl rfl (V_mov rfl (et rfl)) ?_
  refine W_v rfl rfl (V_ext (v := .int .i64 ((ckR l).1)) rfl (et rfl) rfl) ?_
  refine W_v rfl rfl (V_ext (v := .int .i64 ((ckR l).2)) rfl (es rfl (et rfl)) rfl) ?_
  refine W_v rfl rfl (V_asg rfl (es rfl (et rfl))) ?_
  refine W_v rfl rfl (V_asg rfl (es rfl (et rfl))) ?_
  refine W_end ?_
  refine gen_Q (fun A5 hA5 => ?_)
  have hsz5 : SzN A5 43 := by rw [hA5]; infer_instance
  have hdf5 : A5.defers = [] := by rw [hA5]; simp only [df_put]; exact hdf2
  have l0_5 := lookE hA5 0 (es rfl (es rfl (es rfl (es rfl (es rfl (es rfl (es rfl l0_2)))))))
  have l5_5 := lookE hA5 5 (et rfl)
  clear hA5 hsz2 hdf2 l0_2
  refine then_n (hK3 _ _ ?_)
  clear hK3
  refine wp_seq_k (fun K6 hK6 => ?_)
  refine wp_seq_k (fun K7 hK7 => ?_)
  -- region 2
  refine region_in ?_
  refine W_v rfl rfl (V_mov rfl l5_5) ?_
  refine W_v rfl rfl (V_neq rfl (et rfl) rfl) ?_
  refine W_end ?_
  refine gen_Q (fun A8 hA8 => ?_)
  have hsz8 : SzN A8 43 := by rw [hA8]; infer_instance
  have hdf8 : A8.defers = [] := by rw [hA8]; simp only [df_put]; exact hdf5
  have l0_8 := lookE hA8 0 (es rfl (es rfl l0_5))
  have l5_8 := lookE hA8 5 (es rfl (es rfl l5_5))
  have l16_8 := lookE hA8 16 (et rfl)
  clear hA8 hsz5 hdf5 l0_5 l5_5
  refine then_n (hK7 _ _ ?_)
  clear hK7
  refine cond_dec l16_8 (fun c9 => ?_) (fun c9 => ?_)
  · skip
    refine wp_seq_k (fun K10 hK10 => ?_)
    -- region 3
    refine region_in ?_
    refine W_v rfl rfl (V_mov rfl l5_8) ?_
    refine W_v rfl rfl (V_asg rfl rfl) ?_
    refine W_v rfl rfl (V_asg rfl (es rfl (et rfl))) ?_
    refine W_end ?_
    refine gen_Q (fun A11 hA11 => ?_)
    have hsz11 : SzN A11 43 := by rw [hA11]; infer_instance
    have hdf11 : A11.defers = [] := by rw [hA11]; simp only [df_put]; exact hdf8
    have l2_11 := lookE hA11 2 (es rfl (et rfl))
    have l3_11 := lookE hA11 3 (et rfl)
    clear hA11 hsz8 hdf8 l0_8 l5_8 l16_8
    refine then_n (hK10 _ _ ?_)
    clear hK10
    refine wp_ret ?_
    refine then_ret ?_
    refine ret_in (results_2 Try.results16 (rv_tmp l2_11) (rv_tmp l3_11)) hdf11 ?_
    -- leaf T
    obtain ⟨c12, hc12, hS12⟩ := hS4.pnil (s := 1)
    have hn : (ckR l).2 = (ckR l).2 := by first | rfl | exact (nmE_nil l).symm
    have h := tgT_err (l := l) (by rw [hn]; exact c9)
    rw [hn]
    exact ⟨_, rfl, (hS12.fin1 0 rfl (hc12.trans (by rw [h] <;> rfl)))⟩
  · skip
    have hck : (ckR l).2 = 0 := by simpa using c9
    obtain ⟨hl1, hl8, hin0⟩ := ckR_good hck
    refine wp_skip ?_
    refine then_n (hK6 _ _ ?_)
    clear hK6
    refine wp_seq_k (fun K13 hK13 => ?_)
    -- region 4
    refine region_in ?_
    refine W_v rfl rfl (V_asg rfl rfl) ?_
    refine W_end ?_
    refine gen_Q (fun A14 hA14 => ?_)
    have hsz14 : SzN A14 43 := by rw [hA14]; infer_instance
    have hdf14 : A14.defers = [] := by rw [hA14]; simp only [df_put]; exact hdf8
    have l0_14 := lookE hA14 0 (es rfl l0_8)
    have l6_14 := lookE hA14 6 (et rfl)
    clear hA14 hsz8 hdf8 l0_8 l5_8 l16_8
    refine then_n (hK13 _ _ ?_)
    clear hK13
    refine wp_seq_k (fun K15 hK15 => ?_)
    refine wp_seq_k (fun K16 hK16 => ?_)
    -- region 5
    refine region_in ?_
    refine W_v rfl rfl (V_asg rfl rfl) ?_
    refine W_end ?_
    refine gen_Q (fun A17 hA17 => ?_)
    have hsz17 : SzN A17 43 := by rw [hA17]; infer_instance
    have hdf17 : A17.defers = [] := by rw [hA17]; simp only [df_put]; exact hdf14
    have l0_17 := lookE hA17 0 (es rfl l0_14)
    have l6_17 := lookE hA17 6 (es rfl l6_14)
    have l7_17 := lookE hA17 7 (et rfl)
    clear hA17 hsz14 hdf14 l0_14 l6_14
    refine then_n (hK16 _ _ ?_)
    clear hK16
    refine wp_block ?_
    obtain ⟨c18, hc18, hS18⟩ := hS4.pnil (s := 1)
    -- loop 6
    refine loopX (fun mz A' w' => SzN A' 43 ∧ A'.defers = [] ∧ (∃ (k : Nat) (vo : Value), (mz = 1600 - k) ∧ (k ≤ 1600) ∧ (EV A' (.tmp 7) = .int .i64 ((k : Int) + 1)) ∧ (EV A' (.tmp 6) = vo) ∧ (EV A' (.tmp 0) = EV A17 (.tmp 0)) ∧ (St w NoX [io .i64 vo (tgK l k)] w'))) (1600 - 0) ⟨hsz17, hdf17, 0, (.slice none 0 0), rfl, (by omega), ((l7_17).trans (by first | rfl | (simp; done) | (congr 1; omega))), ((l6_17).trans (by first | rfl | (simp; done) | (congr 1; omega))), rfl, (by have q0 : c18 = io .i64 (.slice none 0 0) (tgK l 0) := hc18.trans (rfl); subst q0; exact hS18)⟩ ?_
    clear hS18 hc18
    rintro n19 A19 w19 ⟨hsz19, hdf19, k, vo, hm19, hk, l7_19, l6_19, u0_19, hS19⟩
    have l0_19 := u0_19.trans l0_17
    obtain ⟨c18_19, hc18_19, hS19⟩ := gen1 hS19
    refine wp_seq_k (fun K20 hK20 => ?_)
    refine wp_seq_k (fun K21 hK21 => ?_)
    -- region 6
    refine region_in ?_
    refine W_v rfl rfl (V_mov rfl l7_19) ?_
    refine W_v rfl rfl (V_leq rfl (et rfl) rfl) ?_
    refine W_end ?_
    refine gen_Q (fun A22 hA22 => ?_)
    have hsz22 : SzN A22 43 := by rw [hA22]; infer_instance
    have hdf22 : A22.defers = [] := by rw [hA22]; simp only [df_put]; exact hdf19
    have l0_22 := lookE hA22 0 (es rfl (es rfl l0_19))
    have l6_22 := lookE hA22 6 (es rfl (es rfl l6_19))
    have l7_22 := lookE hA22 7 (es rfl (es rfl l7_19))
    have l19_22 := lookE hA22 19 (et rfl)
    clear hA22 hsz19 hdf19 l7_19 l6_19 l0_19
    refine then_n (hK21 _ _ ?_)
    clear hK21
    refine cond_dec l19_22 (fun c23 => ?_) (fun c23 => ?_)
    · skip
      refine wp_skip ?_
      refine then_n (hK20 _ _ ?_)
      clear hK20
      refine wp_seq_k (fun K24 hK24 => ?_)
      refine wp_block ?_
      refine wp_seq_k (fun K25 hK25 => ?_)
      -- region 8
      refine region_in ?_
      refine W_v rfl rfl (V_asg rfl rfl) ?_
      refine W_end ?_
      refine gen_Q (fun A26 hA26 => ?_)
      have hsz26 : SzN A26 43 := by rw [hA26]; infer_instance
      have hdf26 : A26.defers = [] := by rw [hA26]; simp only [df_put]; exact hdf22
      have l0_26 := lookE hA26 0 (es rfl l0_22)
      have l6_26 := lookE hA26 6 (es rfl l6_22)
      have l7_26 := lookE hA26 7 (es rfl l7_22)
      have l8_26 := lookE hA26 8 (et rfl)
      clear hA26 hsz22 hdf22 l0_22 l6_22 l7_22 l19_22
      refine then_n (hK25 _ _ ?_)
      clear hK25
      refine wp_seq_k (fun K27 hK27 => ?_)
      refine wp_seq_k (fun K28 hK28 => ?_)
      -- region 9
      refine region_in ?_
      refine W_v rfl rfl (V_asg rfl rfl) ?_
      refine W_end ?_
      refine gen_Q (fun A29 hA29 => ?_)
      have hsz29 : SzN A29 43 := by rw [hA29]; infer_instance
      have hdf29 : A29.defers = [] := by rw [hA29]; simp only [df_put]; exact hdf26
      have l0_29 := lookE hA29 0 (es rfl l0_26)
      have l6_29 := lookE hA29 6 (es rfl l6_26)
      have l7_29 := lookE hA29 7 (es rfl l7_26)
      have l8_29 := lookE hA29 8 (es rfl l8_26)
      have l9_29 := lookE hA29 9 (et rfl)
      clear hA29 hsz26 hdf26 l0_26 l6_26 l7_26 l8_26
      refine then_n (hK28 _ _ ?_)
      clear hK28
      refine wp_block ?_
      -- loop 10
      refine loopX (fun mz A' w' => SzN A' 43 ∧ A'.defers = [] ∧ (∃ (j : Nat) (hb : Bool), (mz = l.length - j) ∧ (j ≤ l.length) ∧ (hb = decide (((k : Int) + 1) ∈ l.take j)) ∧ (EV A' (.tmp 9) = .int .i64 (j : Int)) ∧ (EV A' (.tmp 8) = .bool hb) ∧ (EV A' (.tmp 0) = EV A29 (.tmp 0)) ∧ (EV A' (.tmp 6) = EV A29 (.tmp 6)) ∧ (EV A' (.tmp 7) = EV A29 (.tmp 7)) ∧ (St w NoX [io .i64 vo (tgK l k)] w'))) (l.length - 0) ⟨hsz29, hdf29, 0, false, rfl, (by omega), (by simp), ((l9_29).trans (by first | rfl | (simp; done) | (congr 1; omega))), ((l8_29).trans (by first | rfl | (simp; done) | (congr 1; omega))), rfl, rfl, rfl, (by subst hc18_19; exact hS19)⟩ ?_
      clear hS19 hc18_19
      rintro n30 A30 w30 ⟨hsz30, hdf30, j, hb, hm30, hj, hhb, l9_30, l8_30, u0_30, u6_30, u7_30, hS30⟩
      have l0_30 := u0_30.trans l0_29
      have l6_30 := u6_30.trans l6_29
      have l7_30 := u7_30.trans l7_29
      obtain ⟨c18_30, hc18_30, hS30⟩ := gen1 hS30
      refine wp_seq_k (fun K31 hK31 => ?_)
      refine wp_seq_k (fun K32 hK32 => ?_)
      -- region 10
      refine region_in ?_
      refine W_v rfl rfl (V_mov rfl l9_30) ?_
      refine W_v rfl rfl (V_mov rfl (es rfl l0_30)) ?_
      refine W_v rfl rfl (V_lenS rfl (et rfl) (sl_SlN h_rv.at) Try.underlying22) ?_
      refine W_v rfl rfl (V_lss rfl (es rfl (es rfl (et rfl))) (et rfl)) ?_
      refine W_end ?_
      refine gen_Q (fun A33 hA33 => ?_)
      have hsz33 : SzN A33 43 := by rw [hA33]; infer_instance
      have hdf33 : A33.defers = [] := by rw [hA33]; simp only [df_put]; exact hdf30
      have l0_33 := lookE hA33 0 (es rfl (es rfl (es rfl (es rfl l0_30))))
      have l6_33 := lookE hA33 6 (es rfl (es rfl (es rfl (es rfl l6_30))))
      have l7_33 := lookE hA33 7 (es rfl (es rfl (es rfl (es rfl l7_30))))
      have l8_33 := lookE hA33 8 (es rfl (es rfl (es rfl (es rfl l8_30))))
      have l9_33 := lookE hA33 9 (es rfl (es rfl (es rfl (es rfl l9_30))))
      have l25_33 := lookE hA33 25 (et rfl)
      clear hA33 hsz30 hdf30 l9_30 l8_30 l0_30 l6_30 l7_30
      refine then_n (hK32 _ _ ?_)
      clear hK32
      refine cond_dec l25_33 (fun c34 => ?_) (fun c34 => ?_)
      · skip
        refine wp_skip ?_
        refine then_n (hK31 _ _ ?_)
        clear hK31
        refine wp_seq_k (fun K35 hK35 => ?_)
        refine wp_block ?_
        -- region 12
        refine region_in ?_
        refine W_v rfl rfl (V_mov rfl l8_33) ?_
        refine W_splitB rfl rfl (V_mov rfl (et rfl)) (fun c36 => ?_) (fun c36 => ?_)
        · skip
          refine W_off rfl (wanted_f rfl rfl (et rfl) (ez rfl) rfl) ?_
          refine W_off rfl (wanted_f rfl rfl (es rfl (et rfl)) (ez rfl) rfl) ?_
          refine W_off rfl (wanted_f rfl rfl (es rfl (es rfl (et rfl))) (ez rfl) rfl) ?_
          refine W_off rfl (wanted_f rfl rfl (es rfl (es rfl (es rfl (et rfl)))) (ez rfl) rfl) ?_
          refine W_off rfl (wanted_f rfl rfl (es rfl (es rfl (es rfl (es rfl (et rfl))))) (ez rfl) rfl) ?_
          refine W_off rfl (wanted_f rfl rfl (es rfl (es rfl (es rfl (es rfl (es rfl (et rfl)))))) (ez rfl) rfl) ?_
          refine W_v rfl rfl (V_pickT rfl (es rfl (es rfl (es rfl (es rfl (es rfl (es rfl (et rfl))))))) rfl) ?_
          refine W_v rfl rfl (V_asg rfl (et rfl)) ?_
          refine W_end ?_
          refine gen_Q (fun A37 hA37 => ?_)
          have hsz37 : SzN A37 43 := by rw [hA37]; infer_instance
          have hdf37 : A37.defers = [] := by rw [hA37]; simp only [df_put]; exact hdf33
          have l0_37 := lookE hA37 0 (es rfl (es rfl (es rfl (es rfl (es rfl (es rfl (es rfl (es rfl (es rfl (es rfl l0_33))))))))))
          have l6_37 := lookE hA37 6 (es rfl (es rfl (es rfl (es rfl (es rfl (es rfl (es rfl (es rfl (es rfl (es rfl l6_33))))))))))
          have l7_37 := lookE hA37 7 (es rfl (es rfl (es rfl (es rfl (es rfl (es rfl (es rfl (es rfl (es rfl (es rfl l7_33))))))))))
          have l8_37 := lookE hA37 8 (et rfl)
          have l9_37 := lookE hA37 9 (es rfl (es rfl (es rfl (es rfl (es rfl (es rfl (es rfl (es rfl (es rfl (es rfl l9_33))))))))))
          have l30_37 := lookE hA37 30 (es rfl (es rfl (es rfl (es rfl (es rfl (es rfl (es rfl (et rfl))))))))
          have l31_37 := lookE hA37 31 (es rfl (es rfl (es rfl (es rfl (es rfl (es rfl (et rfl)))))))
          have l32_37 := lookE hA37 32 (es rfl (es rfl (es rfl (es rfl (es rfl (et rfl))))))
          have l33_37 := lookE hA37 33 (es rfl (es rfl (es rfl (es rfl (et rfl)))))
          have l34_37 := lookE hA37 34 (es rfl (es rfl (es rfl (et rfl))))
          have l35_37 := lookE hA37 35 (es rfl (es rfl (et rfl)))
          clear hA37 hsz33 hdf33 l0_33 l6_33 l7_33 l8_33 l9_33 l25_33
          refine inb_n ?_
          refine then_n (hK35 _ _ ?_)
          clear hK35
          -- region 11
          refine region_in ?_
          refine W_v rfl rfl (V_mov rfl l9_37) ?_
          refine W_v rfl rfl (V_add rfl (et rfl) rfl (by omega) (by omega)) ?_
          refine W_v rfl rfl (V_asg rfl (et rfl)) ?_
          refine W_end ?_
          refine gen_Q (fun A38 hA38 => ?_)
          have hsz38 : SzN A38 43 := by rw [hA38]; infer_instance
          have hdf38 : A38.defers = [] := by rw [hA38]; simp only [df_put]; exact hdf37
          have l0_38 := lookE hA38 0 (es rfl (es rfl (es rfl l0_37)))
          have l6_38 := lookE hA38 6 (es rfl (es rfl (es rfl l6_37)))
          have l7_38 := lookE hA38 7 (es rfl (es rfl (es rfl l7_37)))
          have l8_38 := lookE hA38 8 (es rfl (es rfl (es rfl l8_37)))
          have l9_38 := lookE hA38 9 (et rfl)
          have l30_38 := lookE hA38 30 (es rfl (es rfl (es rfl l30_37)))
          have l31_38 := lookE hA38 31 (es rfl (es rfl (es rfl l31_37)))
          have l32_38 := lookE hA38 32 (es rfl (es rfl (es rfl l32_37)))
          have l33_38 := lookE hA38 33 (es rfl (es rfl (es rfl l33_37)))
          have l34_38 := lookE hA38 34 (es rfl (es rfl (es rfl l34_37)))
          have l35_38 := lookE hA38 35 (es rfl (es rfl (es rfl l35_37)))
          clear hA38 hsz37 hdf37 l0_37 l6_37 l7_37 l8_37 l9_37 l30_37 l31_37 l32_37 l33_37 l34_37 l35_37
          refine then_n ⟨l.length - (j + 1), by simp only [hm30]; omega, hsz38, hdf38, (j + 1), true, rfl, (by omega), (hd_t hhb c36), ((l9_38).trans (by first | rfl | (simp; done) | (congr 1; omega))), ((l8_38).trans (by first | rfl | (simp; done) | (congr 1; omega))), ((l0_38).trans l0_29.symm), ((l6_38).trans l6_29.symm), ((l7_38).trans l7_29.symm), (by subst hc18_30; exact hS30)⟩
        · skip
          refine W_v rfl (wanted_t rfl rfl (et rfl) (ez rfl)) (V_mov rfl (es rfl (es rfl l0_33))) ?_
          refine W_v rfl (wanted_t rfl rfl (es rfl (et rfl)) (ez rfl)) (V_mov rfl (es rfl (es rfl (es rfl l9_33)))) ?_
          have k39 : j < l.length := by first | omega | (simp only [List.length_cons, List.length_nil]; omega)
          obtain ⟨y39, hy39⟩ := get_some (xs := l) (k := j) k39
          obtain ⟨B39, O39, C39, hv39⟩ := (SlN.blk (sl_SlN h_rv.at) (by first | omega | (simp only [List.length_cons, List.length_nil]; omega)))
          refine W_v rfl (wanted_t rfl rfl (es rfl (es rfl (et rfl))) (ez rfl)) (V_ixS (off := O39 + j) 1 (j) rfl (es rfl (et rfl)) (et rfl) hv39 (by omega) k39 Try.underlying22 (by kernel_rfl) (congrArg _ (Nat.mul_one _))) ?_
          refine W_r rfl (wanted_t rfl rfl (es rfl (es rfl (es rfl (et rfl)))) (ez rfl)) (VR_ldC rfl (et rfl) ((sl_SlN (hS30.ro h_rv)).cell hv39 (map_get hy39)) Try.underlying3 rfl) ?_
          refine W_v rfl (wanted_t rfl rfl (es rfl (es rfl (es rfl (es rfl (et rfl))))) (ez rfl)) (V_mov rfl (es rfl (es rfl (es rfl (es rfl (es rfl (es rfl l7_33))))))) ?_
          refine W_v rfl (wanted_t rfl rfl (es rfl (es rfl (es rfl (es rfl (es rfl (et rfl)))))) (ez rfl)) (V_eql rfl (es rfl (et rfl)) (et rfl)) ?_
          refine W_v rfl rfl (V_pickF rfl (es rfl (es rfl (es rfl (es rfl (es rfl (es rfl (et rfl))))))) (et rfl)) ?_
          refine W_v rfl rfl (V_asg rfl (et rfl)) ?_
          refine W_end ?_
          refine gen_Q (fun A40 hA40 => ?_)
          have hsz40 : SzN A40 43 := by rw [hA40]; infer_instance
          have hdf40 : A40.defers = [] := by rw [hA40]; simp only [df_put]; exact hdf33
          have l0_40 := lookE hA40 0 (es rfl (es rfl (es rfl (es rfl (es rfl (es rfl (es rfl (es rfl (es rfl (es rfl l0_33))))))))))
          have l6_40 := lookE hA40 6 (es rfl (es rfl (es rfl (es rfl (es rfl (es rfl (es rfl (es rfl (es rfl (es rfl l6_33))))))))))
          have l7_40 := lookE hA40 7 (es rfl (es rfl (es rfl (es rfl (es rfl (es rfl (es rfl (es rfl (es rfl (es rfl l7_33))))))))))
          have l8_40 := lookE hA40 8 (et rfl)
          have l9_40 := lookE hA40 9 (es rfl (es rfl (es rfl (es rfl (es rfl (es rfl (es rfl (es rfl (es rfl (es rfl l9_33))))))))))
          have l30_40 := lookE hA40 30 (es rfl (es rfl (es rfl (es rfl (es rfl (es rfl (es rfl (et rfl))))))))
          have l31_40 := lookE hA40 31 (es rfl (es rfl (es rfl (es rfl (es rfl (es rfl (et rfl)))))))
          have l32_40 := lookE hA40 32 (es rfl (es rfl (es rfl (es rfl (es rfl (et rfl))))))
          have l33_40 := lookE hA40 33 (es rfl (es rfl (es rfl (es rfl (et rfl)))))
          have l34_40 := lookE hA40 34 (es rfl (es rfl (es rfl (et rfl))))
          have l35_40 := lookE hA40 35 (es rfl (es rfl (et rfl)))
          clear hA40 hsz33 hdf33 l0_33 l6_33 l7_33 l8_33 l9_33 l25_33
          refine inb_n ?_
          refine then_n (hK35 _ _ ?_)
          clear hK35
          -- region 11
          refine region_in ?_
          refine W_v rfl rfl (V_mov rfl l9_40) ?_
          refine W_v rfl rfl (V_add rfl (et rfl) rfl (by omega) (by omega)) ?_
          refine W_v rfl rfl (V_asg rfl (et rfl)) ?_
          refine W_end ?_
          refine gen_Q (fun A41 hA41 => ?_)
          have hsz41 : SzN A41 43 := by rw [hA41]; infer_instance
          have hdf41 : A41.defers = [] := by rw [hA41]; simp only [df_put]; exact hdf40
          have l0_41 := lookE hA41 0 (es rfl (es rfl (es rfl l0_40)))
          have l6_41 := lookE hA41 6 (es rfl (es rfl (es rfl l6_40)))
          have l7_41 := lookE hA41 7 (es rfl (es rfl (es rfl l7_40)))
          have l8_41 := lookE hA41 8 (es rfl (es rfl (es rfl l8_40)))
          have l9_41 := lookE hA41 9 (et rfl)
          have l30_41 := lookE hA41 30 (es rfl (es rfl (es rfl l30_40)))
          have l31_41 := lookE hA41 31 (es rfl (es rfl (es rfl l31_40)))
          have l32_41 := lookE hA41 32 (es rfl (es rfl (es rfl l32_40)))
          have l33_41 := lookE hA41 33 (es rfl (es rfl (es rfl l33_40)))
          have l34_41 := lookE hA41 34 (es rfl (es rfl (es rfl l34_40)))
          have l35_41 := lookE hA41 35 (es rfl (es rfl (es rfl l35_40)))
          clear hA41 hsz40 hdf40 l0_40 l6_40 l7_40 l8_40 l9_40 l30_40 l31_40 l32_40 l33_40 l34_40 l35_40
          refine then_n ⟨l.length - (j + 1), by simp only [hm30]; omega, hsz41, hdf41, (j + 1), (decide (y39 = ((k : Int) + 1))), rfl, (by omega), (hd_f hhb c36 hy39), ((l9_41).trans (by first | rfl | (simp; done) | (congr 1; omega))), ((l8_41).trans (by first | rfl | (simp; done) | (congr 1; omega))), ((l0_41).trans l0_29.symm), ((l6_41).trans l6_29.symm), ((l7_41).trans l7_29.symm), (by subst hc18_30; exact hS30)⟩
      · skip
        refine wp_exit ?_
        refine then_exit ?_
        refine then_exit ?_
        refine inb_hit ?_
        refine then_n (hK27 _ _ ?_)
        clear hK27
        refine wp_seq_k (fun K42 hK42 => ?_)
        -- region 13
        refine region_in ?_
        refine W_v rfl rfl (V_mov rfl l8_33) ?_
        refine W_end ?_
        refine gen_Q (fun A43 hA43 => ?_)
        have hsz43 : SzN A43 43 := by rw [hA43]; infer_instance
        have hdf43 : A43.defers = [] := by rw [hA43]; simp only [df_put]; exact hdf33
        have l0_43 := lookE hA43 0 (es rfl l0_33)
        have l6_43 := lookE hA43 6 (es rfl l6_33)
        have l7_43 := lookE hA43 7 (es rfl l7_33)
        have l37_43 := lookE hA43 37 (et rfl)
        clear hA43 hsz33 hdf33 l0_33 l6_33 l7_33 l8_33 l9_33 l25_33
        refine then_n (hK42 _ _ ?_)
        clear hK42
        refine cond_b l37_43 (fun c44 => ?_) (fun c44 => ?_)
        · skip
          -- region 14
          refine region_in ?_
          refine W_v rfl rfl (V_mov rfl l6_43) ?_
          refine W_v rfl rfl (V_mov rfl (es rfl l7_43)) ?_
          have hll45 : [((k : Int) + 1)].length = 1 := rfl
          refine W_litS (vs := [.int .i64 (((k : Int) + 1))]) (xs := ([((k : Int) + 1)].map (Value.int .i64))) 1 hS30 rfl rfl rfl (parts1 (et rfl)) rfl Try.underlying22 (by kernel_rfl) (by decide) (by intro v hv; simp only [List.mem_cons, List.not_mem_nil, or_false] at hv; rcases hv with rfl <;> rfl) (by rfl) (fun g45 w45 c45 hc45 hS45 => ?_)
          replace hc45 : c45 = io .i64 (.slice (some ⟨g45, 0, none⟩) 1 1) [((k : Int) + 1)] := hc45
          replace hS45 : St w NoX [c45, c18_30] w45 := hS45
          refine W_appS 1 1 hS45 rfl hc18_30 rfl rfl rfl (es rfl (es rfl (et rfl))) (et rfl) Try.underlying22 Try.underlying22 (z := .int .i64 0) (bytes := 8) (by kernel_rfl) rfl (by decide) (ow_at (hS45.chq 0 rfl hc45)) ones_i (by have := tgK_len l k; simp; omega) (by have := tgK_len l k; simp; omega) (fun v46 w46 c46 hc46 hS46 => ?_)
          replace hc46 : c46 = io .i64 v46 ((tgK l k) ++ [((k : Int) + 1)]) := hc46.trans (app_eq (by simp))
          replace hS46 : St w NoX [c45, c46] w46 := hS46
          refine W_v rfl rfl (V_asg rfl (et rfl)) ?_
          refine W_end ?_
          refine gen_Q (fun A47 hA47 => ?_)
          have hsz47 : SzN A47 43 := by rw [hA47]; infer_instance
          have hdf47 : A47.defers = [] := by rw [hA47]; simp only [df_put]; exact hdf43
          have l0_47 := lookE hA47 0 (es rfl (es rfl (es rfl (es rfl (es rfl l0_43)))))
          have l6_47 := lookE hA47 6 (et rfl)
          have l7_47 := lookE hA47 7 (es rfl (es rfl (es rfl (es rfl (es rfl l7_43)))))
          clear hA47 hsz43 hdf43 l0_43 l6_43 l7_43 l37_43
          have hS48 : St w NoX [c46] w46 := hS46.sel [1] (by decide) rfl
          refine inb_n ?_
          refine then_n (hK24 _ _ ?_)
          clear hK24
          -- region 7
          refine region_in ?_
          refine W_v rfl rfl (V_mov rfl l7_47) ?_
          refine W_v rfl rfl (V_add rfl (et rfl) rfl (by omega) (by omega)) ?_
          refine W_v rfl rfl (V_asg rfl (et rfl)) ?_
          refine W_end ?_
          refine gen_Q (fun A49 hA49 => ?_)
          have hsz49 : SzN A49 43 := by rw [hA49]; infer_instance
          have hdf49 : A49.defers = [] := by rw [hA49]; simp only [df_put]; exact hdf47
          have l0_49 := lookE hA49 0 (es rfl (es rfl (es rfl l0_47)))
          have l6_49 := lookE hA49 6 (es rfl (es rfl (es rfl l6_47)))
          have l7_49 := lookE hA49 7 (et rfl)
          clear hA49 hsz47 hdf47 l0_47 l6_47 l7_47
          refine then_n ⟨1600 - (k + 1), by simp only [hm19]; omega, hsz49, hdf49, (k + 1), v46, rfl, (by omega), ((l7_49).trans (by first | rfl | (simp; done) | (congr 1; omega))), ((l6_49).trans (by first | rfl | (simp; done) | (congr 1; omega))), ((l0_49).trans l0_17.symm), (by have q0 : c46 = io .i64 v46 (tgK l (k + 1)) := hc46.trans ((congrArg (io .i64 _) (tgK_in (hd_T hhb c44 (by omega))))); subst q0; exact hS48)⟩
        · skip
          refine wp_skip ?_
          refine inb_n ?_
          refine then_n (hK24 _ _ ?_)
          clear hK24
          -- region 7
          refine region_in ?_
          refine W_v rfl rfl (V_mov rfl l7_43) ?_
          refine W_v rfl rfl (V_add rfl (et rfl) rfl (by omega) (by omega)) ?_
          refine W_v rfl rfl (V_asg rfl (et rfl)) ?_
          refine W_end ?_
          refine gen_Q (fun A50 hA50 => ?_)
          have hsz50 : SzN A50 43 := by rw [hA50]; infer_instance
          have hdf50 : A50.defers = [] := by rw [hA50]; simp only [df_put]; exact hdf43
          have l0_50 := lookE hA50 0 (es rfl (es rfl (es rfl l0_43)))
          have l6_50 := lookE hA50 6 (es rfl (es rfl (es rfl l6_43)))
          have l7_50 := lookE hA50 7 (et rfl)
          clear hA50 hsz43 hdf43 l0_43 l6_43 l7_43 l37_43
          refine then_n ⟨1600 - (k + 1), by simp only [hm19]; omega, hsz50, hdf50, (k + 1), vo, rfl, (by omega), ((l7_50).trans (by first | rfl | (simp; done) | (congr 1; omega))), ((l6_50).trans (by first | rfl | (simp; done) | (congr 1; omega))), ((l0_50).trans l0_17.symm), (by have q0 : c18_30 = io .i64 vo (tgK l (k + 1)) := hc18_30.trans ((congrArg (io .i64 _) (tgK_out (hd_F hhb c44 (by omega))))); subst q0; exact hS30)⟩
    · skip
      refine wp_exit ?_
      refine then_exit ?_
      refine then_exit ?_
      refine inb_hit ?_
      refine then_n (hK15 _ _ ?_)
      clear hK15
      refine wp_seq_k (fun K51 hK51 => ?_)
      -- region 15
      refine region_in ?_
      refine W_v rfl rfl (V_mov rfl l6_22) ?_
      refine W_v rfl rfl (V_asg rfl (et rfl)) ?_
      refine W_v rfl rfl (V_asg rfl rfl) ?_
      refine W_end ?_
      refine gen_Q (fun A52 hA52 => ?_)
      have hsz52 : SzN A52 43 := by rw [hA52]; infer_instance
      have hdf52 : A52.defers = [] := by rw [hA52]; simp only [df_put]; exact hdf22
      have l2_52 := lookE hA52 2 (es rfl (et rfl))
      have l3_52 := lookE hA52 3 (et rfl)
      clear hA52 hsz22 hdf22 l0_22 l6_22 l7_22 l19_22
      refine then_n (hK51 _ _ ?_)
      clear hK51
      refine wp_ret ?_
      refine ret_in (results_2 Try.results16 (rv_tmp l2_52) (rv_tmp l3_52)) hdf52 ?_
      -- leaf FF
      have hk16 : k = 1600 := by omega
      rw [hck]
      exact ⟨_, rfl, (hS19.fin1 0 rfl (hc18_19.trans (by rw [tgT_ok hck, hk16])))⟩

end Go.Proofs.Ytbnijekjaafoaaa