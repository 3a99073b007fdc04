import Derived.Test.YtdilbnmaihmgnaaProg
import Derived.Test.YtdilbnmaihmgnaaGh6
import Derived.Test.YtdilbnmaihmgnaaPl15h
namespace Go.Proofs.Ytdilbnmaihmgnaa
open Go.RowKit Go.Own Go.Own.R Go.Own.G Go.Own.Gr


set_option maxHeartbeats 4000000 in
theorem kNw_c {n : Int} {w : World}   :
    Calls Try.prog 12 #[.int .i64 n] w fun e w' => ∃ hv H qv, e = .returned (.tuple #[.agg #[hv, qv], .int .i64 (nwE n)]) ∧ (H.map ab = []) ∧ St w NoX [ro 2 obC hv H, owl .i64 (H.map (·.1)), owl .u64 (H.map (·.2)), io .i64 (qv) (nwR n)] w' := by
  refine calls_in 14 Try.func12 rfl rfl (by simp) (fun A0 hsz0 hdf0 hargs => ?_)
  have l0_0 := hargs 0 (.int .i64 n) rfl
  clear hargs; replace hsz0 : SzN A0 14 := ⟨hsz0⟩
  have hS := St.nil w
  refine wp_seq_k (fun K1 hK1 => ?_)
  refine region_in ?_
  refine W_allocS (z := .agg #[.slice none 0 0, .slice none 0 0]) (zs := #[.slice none 0 0, .slice none 0 0]) hS rfl rfl rfl (by kernel_rfl) (by rfl) (fun g2 w2 c2 hc2 hS2 => ?_)
  replace hS2 : St w NoX [c2] w2 := hS2
  refine W_v rfl rfl (V_asg rfl rfl) ?_
  refine W_end ?_
  refine gen_Q (fun A3 hA3 => ?_)
  have hsz3 := szq hA3
  have hdf3 : A3.defers = [] := by rw [hA3]; simp only [df_put]; exact hdf0
  have l0_3 := lookE hA3 0 (es rfl (es rfl l0_0))
  have l2_3 := lookE hA3 2 (es rfl (et rfl))
  clear hA3 hsz0 hdf0 l0_0
  refine then_n (hK1 _ _ ?_)
  clear hK1
  refine wp_seq_k (fun K4 hK4 => ?_)
  refine wp_seq_k (fun K5 hK5 => ?_)
  refine region_in ?_
  refine W_v rfl rfl (V_mov rfl l0_3) ?_
  refine W_v rfl rfl (V_lss rfl (et rfl) rfl) ?_
  refine W_split rfl rfl (V_mov rfl (et rfl)) (fun c6 => ?_) (fun c6 => ?_)
  · skip
    refine W_off rfl (wanted_f rfl rfl (et rfl) (ez rfl) rfl) ?_
    refine W_off rfl (wanted_f rfl rfl (es rfl (et rfl)) (ez rfl) rfl) ?_
    refine W_v rfl rfl (V_pickT rfl (e2 rfl (et rfl)) rfl) ?_
    refine W_end ?_
    refine gen_Q (fun A7 hA7 => ?_)
    have hsz7 := szq hA7
    have hdf7 : A7.defers = [] := by rw [hA7]; simp only [df_put]; exact hdf3
    have l0_7 := lookE hA7 0 (e5 rfl (es rfl l0_3))
    have l2_7 := lookE hA7 2 (e5 rfl (es rfl l2_3))
    have l9_7 := lookE hA7 9 (et rfl)
    clear hA7 hsz3 hdf3 l0_3 l2_3
    refine then_n (hK5 _ _ ?_)
    clear hK5
    refine cond_t l9_7 ?_
    refine wp_seq_k (fun K8 hK8 => ?_)
    refine region_in ?_
    refine W_v rfl rfl (V_bldS (n := 2) (z := .agg #[.slice none 0 0, .slice none 0 0]) rfl (parts0) (by kernel_rfl) (by simp only [List.all_cons, List.all_nil, Bool.and_true] <;> rfl) (by kernel_rfl) (by simp only [List.foldl_cons, List.foldl_nil, Value.cells, List.setIfInBounds_toArray, List.set_cons_succ, List.set_cons_zero] <;> rfl)) ?_
    refine W_stAS 0 hS2 rfl hc2 rfl rfl rfl (es rfl l2_7) (et rfl) (by first | (rw [List.all_toArray] <;> rfl) | (simp only [List.all_toArray, List.all_cons, List.all_nil] <;> rfl)) (by rfl) (by kernel_rfl) (fun w9 c9 hc9 hS9 => ?_)
    replace hS9 : St w NoX [c9] w9 := hS9
    refine W_v rfl rfl (V_asg rfl rfl) ?_
    refine W_end ?_
    refine gen_Q (fun A10 hA10 => ?_)
    have hsz10 := szq hA10
    have hdf10 : A10.defers = [] := by rw [hA10]; simp only [df_put]; exact hdf7
    have l2_10 := lookE hA10 2 (es rfl (es rfl l2_7))
    have l3_10 := lookE hA10 3 (et rfl)
    clear hA10 hsz7 hdf7 l0_7 l2_7 l9_7
    refine then_n (hK8 _ _ ?_)
    clear hK8
    refine wp_ret ?_
    refine then_ret ?_
    refine ret_in (results_2 Try.results12 (rv_cellA l2_10 (hS9.obj 0 rfl hc9) Try.underlying25 rfl (by kernel_rfl)) (rv_tmp l3_10)) hdf10 ?_
    -- leaf T
    obtain ⟨c11, hc11, hS11⟩ := hS9.pnil (s := 2)
    replace hc11 : c11 = ro 2 obC (.slice none 0 0) ([] : List Ob) := hc11
    obtain ⟨c12, cb12, hc12, hcb12, hS12⟩ := gen2 (nst_nils hS11)
    replace hS12 : St w NoX [c12, cb12, c11, c9] w9 := hS12
    obtain ⟨c13, hc13, hS13⟩ := hS12.pnil (s := 1)
    have h := nw_e (n := n) (by omega)
    rw [h.1, h.2]
    exact ⟨_, ([] : List Ob), _, rfl, rfl, (hS13.fin4 3 rfl (hc11) 1 rfl (hc12) 2 rfl (hcb12) 0 rfl (hc13) (by decide))⟩
  · skip
    refine W_v rfl (wanted_t rfl rfl (et rfl) (ez rfl)) (V_mov rfl (e2 rfl (es rfl l0_3))) ?_
    refine W_v rfl (wanted_t rfl rfl (es rfl (et rfl)) (ez rfl)) (V_gtr rfl (et rfl) rfl) ?_
    refine W_v rfl rfl (V_pickF rfl (e2 rfl (et rfl)) (et rfl)) ?_
    refine W_end ?_
    refine gen_Q (fun A14 hA14 => ?_)
    have hsz14 := szq hA14
    have hdf14 : A14.defers = [] := by rw [hA14]; simp only [df_put]; exact hdf3
    have l0_14 := lookE hA14 0 (e5 rfl (es rfl l0_3))
    have l2_14 := lookE hA14 2 (e5 rfl (es rfl l2_3))
    have l9_14 := lookE hA14 9 (et rfl)
    clear hA14 hsz3 hdf3 l0_3 l2_3
    refine then_n (hK5 _ _ ?_)
    clear hK5
    refine cond_dec l9_14 (fun c15 => ?_) (fun c15 => ?_)
    · skip
      refine wp_seq_k (fun K16 hK16 => ?_)
      refine region_in ?_
      refine W_v rfl rfl (V_bldS (n := 2) (z := .agg #[.slice none 0 0, .slice none 0 0]) rfl (parts0) (by kernel_rfl) (by simp only [List.all_cons, List.all_nil, Bool.and_true] <;> rfl) (by kernel_rfl) (by simp only [List.foldl_cons, List.foldl_nil, Value.cells, List.setIfInBounds_toArray, List.set_cons_succ, List.set_cons_zero] <;> rfl)) ?_
      refine W_stAS 0 hS2 rfl hc2 rfl rfl rfl (es rfl l2_14) (et rfl) (by first | (rw [List.all_toArray] <;> rfl) | (simp only [List.all_toArray, List.all_cons, List.all_nil] <;> rfl)) (by rfl) (by kernel_rfl) (fun w17 c17 hc17 hS17 => ?_)
      replace hS17 : St w NoX [c17] w17 := hS17
      refine W_v rfl rfl (V_asg rfl rfl) ?_
      refine W_end ?_
      refine gen_Q (fun A18 hA18 => ?_)
      have hsz18 := szq hA18
      have hdf18 : A18.defers = [] := by rw [hA18]; simp only [df_put]; exact hdf14
      have l2_18 := lookE hA18 2 (es rfl (es rfl l2_14))
      have l3_18 := lookE hA18 3 (et rfl)
      clear hA18 hsz14 hdf14 l0_14 l2_14 l9_14
      refine then_n (hK16 _ _ ?_)
      clear hK16
      refine wp_ret ?_
      refine then_ret ?_
      refine ret_in (results_2 Try.results12 (rv_cellA l2_18 (hS17.obj 0 rfl hc17) Try.underlying25 rfl (by kernel_rfl)) (rv_tmp l3_18)) hdf18 ?_
      -- leaf FT
      obtain ⟨c19, hc19, hS19⟩ := hS17.pnil (s := 2)
      replace hc19 : c19 = ro 2 obC (.slice none 0 0) ([] : List Ob) := hc19
      obtain ⟨c20, cb20, hc20, hcb20, hS20⟩ := gen2 (nst_nils hS19)
      replace hS20 : St w NoX [c20, cb20, c19, c17] w17 := hS20
      obtain ⟨c21, hc21, hS21⟩ := hS20.pnil (s := 1)
      have h := nw_e (n := n) (by omega)
      rw [h.1, h.2]
      exact ⟨_, ([] : List Ob), _, rfl, rfl, (hS21.fin4 3 rfl (hc19) 1 rfl (hc20) 2 rfl (hcb20) 0 rfl (hc21) (by decide))⟩
    · skip
      refine wp_skip ?_
      refine then_n (hK4 _ _ ?_)
      clear hK4
      refine wp_seq_k (fun K22 hK22 => ?_)
      refine region_in ?_
      refine W_v rfl rfl (V_mov rfl l0_14) ?_
      refine W_mkS (z := .int .i64 0) (bytes := 8) n.toNat hS2 rfl rfl rfl (et rfl) (et rfl) (by omega) Try.underlying23 (by kernel_rfl) (by omega) rfl (fun v23 w23 c23 hc23 hS23 => ?_)
      replace hc23 : c23 = io .i64 v23 (List.replicate n.toNat (0 : Int)) := hc23.trans (by simp only [io, bo, List.map_replicate, List.length_replicate])
      replace hS23 : St w NoX [c23, c2] w23 := hS23
      refine W_v rfl rfl (V_bldS (n := 2) (z := .agg #[.slice none 0 0, .slice none 0 0]) rfl (parts1 (et rfl)) (by kernel_rfl) (by simp only [List.all_cons, List.all_nil, SlN_one (ow_at (hS23.chq 0 rfl hc23)), Bool.and_true] <;> rfl) (by kernel_rfl) (by simp only [List.foldl_cons, List.foldl_nil, Value.cells, List.setIfInBounds_toArray, List.set_cons_succ, List.set_cons_zero] <;> rfl)) ?_
      refine W_stAS 1 hS23 rfl hc2 rfl rfl rfl (e2 rfl (es rfl l2_14)) (et rfl) (by simp only [List.all_toArray, List.all_cons, List.all_nil, SlN_one (ow_at (hS23.chq 0 rfl hc23))] <;> rfl) (by rfl) (by kernel_rfl) (fun w24 c24 hc24 hS24 => ?_)
      replace hS24 : St w NoX [c23, c24] w24 := hS24
      refine W_v rfl rfl (V_asg rfl rfl) ?_
      refine W_end ?_
      refine gen_Q (fun A25 hA25 => ?_)
      have hsz25 := szq hA25
      have hdf25 : A25.defers = [] := by rw [hA25]; simp only [df_put]; exact hdf14
      have l2_25 := lookE hA25 2 (e3 rfl (es rfl l2_14))
      have l3_25 := lookE hA25 3 (et rfl)
      clear hA25 hsz14 hdf14 l0_14 l2_14 l9_14
      refine then_n (hK22 _ _ ?_)
      clear hK22
      refine wp_ret ?_
      refine ret_in (results_2 Try.results12 (rv_cellA l2_25 (hS24.obj 1 rfl hc24) Try.underlying25 rfl (by kernel_rfl)) (rv_tmp l3_25)) hdf25 ?_
      -- leaf FF
      obtain ⟨c26, hc26, hS26⟩ := hS24.pnil (s := 2)
      replace hc26 : c26 = ro 2 obC (.slice none 0 0) ([] : List Ob) := hc26
      obtain ⟨c27, cb27, hc27, hcb27, hS27⟩ := gen2 (nst_nils hS26)
      replace hS27 : St w NoX [c27, cb27, c26, c23, c24] w24 := hS27
      have h := nw_k (n := n) (by omega)
      rw [h.1, h.2]
      exact ⟨_, ([] : List Ob), _, rfl, rfl, (hS27.fin4 2 rfl (hc26) 0 rfl (hc27) 1 rfl (hcb27) 3 rfl (hc23) (by decide))⟩

end Go.Proofs.Ytdilbnmaihmgnaa