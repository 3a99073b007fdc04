import Derived.Test.YtbnijekjaafoaaaProg
import Derived.Test.YtbnijekjaafoaaaRt1
namespace Go.Proofs.Ytbnijekjaafoaaa
open Go.RowKit Go.Own Go.Own.R


set_option maxHeartbeats 4000000 in
theorem kGt_c {rv : Value} {l : List Int} {a : Int} {w : World} (h_rv : Ro w NoX (il .i64 rv l))  :
    Calls Try.prog 27 #[rv, .int .i64 a] w fun e w' => e = .returned (.tuple #[.int .i64 (gtN l a), .int .i64 (nmE l [a])]) ∧ St w NoX [] w' := by
  refine calls_in 21 Try.func27 rfl rfl (by simp) (fun A0 hsz0 hdf0 hargs => ?_)
  have l0_0 := hargs 0 (rv) rfl
  have l1_0 := hargs 1 (.int .i64 a) rfl
  clear hargs; replace hsz0 : SzN A0 21 := ⟨hsz0⟩
  have hS := St.nil w
  have bh_rv := SlN.le (sl_SlN h_rv.at)
  refine wp_seq_k (fun K1 hK1 => ?_)
  -- region 0
  refine region_in ?_
  refine W_v rfl rfl (V_asg rfl rfl) ?_
  refine W_v rfl rfl (V_asg rfl rfl) ?_
  refine W_end ?_
  refine gen_Q (fun A2 hA2 => ?_)
  have hsz2 : SzN A2 21 := by rw [hA2]; infer_instance
  have hdf2 : A2.defers = [] := by rw [hA2]; simp only [df_put]; exact hdf0
  have l0_2 := lookE hA2 0 (es rfl (es rfl l0_0))
  have l1_2 := lookE hA2 1 (es rfl (es rfl l1_0))
  clear hA2 hsz0 hdf0 l0_0 l1_0
  refine then_n (hK1 _ _ ?_)
  clear hK1
  refine wp_seq_k (fun K3 hK3 => ?_)
  -- region 1
  refine region_in ?_
  refine W_v rfl rfl (V_mov rfl l0_2) ?_
  refine W_v rfl rfl (V_mov rfl (es rfl l1_2)) ?_
  have hll4 : [a].length = 1 := rfl
  refine W_litS (vs := [.int .i64 (a)]) (xs := ([a].map (Value.int .i64))) 1 hS rfl rfl rfl (parts1 (et rfl)) rfl Try.underlying22 (by kernel_rfl) (by decide) (by intro v hv; simp only [List.mem_cons, List.not_mem_nil, or_false] at hv; rcases hv with rfl <;> rfl) (by rfl) (fun g4 w4 c4 hc4 hS4 => ?_)
  replace hc4 : c4 = io .i64 (.slice (some ⟨g4, 0, none⟩) 1 1) [a] := hc4
  replace hS4 : St w NoX [c4] w4 := hS4
  refine W_call rfl rfl rfl Try.func35 (by kernel_rfl) rfl (args2 (es rfl (es rfl (et rfl))) (et rfl)) (nm_c (hS4.roC h_rv) (hS4.chC 0 rfl hc4).own ) ?_
  rintro _ w5 ⟨v_5, rfl, hP5⟩
  refine ⟨_, rfl, ?_⟩
  obtain ⟨c_5, hc_5, hP5⟩ := gen1 hP5
  have hS5 := hS4.join hP5
  replace hS5 : St w NoX [c_5, c4] w5 := hS5
  refine W_v rfl rfl (V_mov rfl (et rfl)) ?_
  refine W_v rfl rfl (V_ext (v := v_5) rfl (et rfl) rfl) ?_
  refine W_v rfl rfl (V_ext (v := .int .i64 ((nmE l [a]))) rfl (es rfl (et rfl)) rfl) ?_
  refine W_v rfl rfl (V_asg rfl (es rfl (et rfl))) ?_
  refine W_v rfl rfl (V_asg rfl (es rfl (et rfl))) ?_
  refine W_end ?_
  refine gen_Q (fun A6 hA6 => ?_)
  have hsz6 : SzN A6 21 := by rw [hA6]; infer_instance
  have hdf6 : A6.defers = [] := by rw [hA6]; simp only [df_put]; exact hdf2
  have l1_6 := lookE hA6 1 (es rfl (es rfl (es rfl (es rfl (es rfl (es rfl (es rfl (es rfl (es rfl l1_2)))))))))
  have l5_6 := lookE hA6 5 (et rfl)
  have l6_6 := lookE hA6 6 (es rfl (et rfl))
  clear hA6 hsz2 hdf2 l0_2 l1_2
  have hS7 : St w NoX [c_5] w5 := hS5.sel [0] (by decide) rfl
  refine then_n (hK3 _ _ ?_)
  clear hK3
  refine wp_seq_k (fun K8 hK8 => ?_)
  refine wp_seq_k (fun K9 hK9 => ?_)
  -- region 2
  refine region_in ?_
  refine W_v rfl rfl (V_mov rfl l5_6) ?_
  refine W_v rfl rfl (V_neq rfl (et rfl) rfl) ?_
  refine W_end ?_
  refine gen_Q (fun A10 hA10 => ?_)
  have hsz10 : SzN A10 21 := by rw [hA10]; infer_instance
  have hdf10 : A10.defers = [] := by rw [hA10]; simp only [df_put]; exact hdf6
  have l1_10 := lookE hA10 1 (es rfl (es rfl l1_6))
  have l5_10 := lookE hA10 5 (es rfl (es rfl l5_6))
  have l6_10 := lookE hA10 6 (es rfl (es rfl l6_6))
  have l15_10 := lookE hA10 15 (et rfl)
  clear hA10 hsz6 hdf6 l1_6 l5_6 l6_6
  refine then_n (hK9 _ _ ?_)
  clear hK9
  refine cond_dec l15_10 (fun c11 => ?_) (fun c11 => ?_)
  · skip
    refine wp_seq_k (fun K12 hK12 => ?_)
    -- region 3
    refine region_in ?_
    refine W_v rfl rfl (V_mov rfl l5_10) ?_
    refine W_v rfl rfl (V_asg rfl rfl) ?_
    refine W_v rfl rfl (V_asg rfl (es rfl (et rfl))) ?_
    refine W_end ?_
    refine gen_Q (fun A13 hA13 => ?_)
    have hsz13 : SzN A13 21 := by rw [hA13]; infer_instance
    have hdf13 : A13.defers = [] := by rw [hA13]; simp only [df_put]; exact hdf10
    have l4_13 := lookE hA13 4 (es rfl (et rfl))
    have l5_13 := lookE hA13 5 (et rfl)
    clear hA13 hsz10 hdf10 l1_10 l5_10 l6_10 l15_10
    have hS14 : St w NoX [] w5 := hS7.sel [] (by decide) rfl
    refine then_n (hK12 _ _ ?_)
    clear hK12
    refine wp_ret ?_
    refine then_ret ?_
    refine ret_in (results_2 Try.results27 (rv_tmp l4_13) (rv_tmp l5_13)) hdf13 ?_
    -- leaf T
    have h := gtN_err (l := l) (a := a) c11
    rw [h]
    exact ⟨rfl, hS14.fin0⟩
  · skip
    have hE : nmE l [a] = 0 := by simpa using c11
    obtain ⟨hck, hin⟩ := nmE_good hE
    obtain ⟨hl1, hl8, hin0⟩ := ckR_good hck
    have ha := hin a (by simp)
    have hT := nmT_ok hE
    have hTl : (nmT l [a]).length = l.length := by rw [hT]
    refine wp_skip ?_
    refine then_n (hK8 _ _ ?_)
    clear hK8
    refine wp_seq_k (fun K15 hK15 => ?_)
    -- region 4
    refine region_in ?_
    refine W_v rfl rfl (V_mov rfl l6_10) ?_
    refine W_v rfl rfl (V_mov rfl (es rfl l1_10)) ?_
    have k16 : a.toNat < (nmT l [a]).length := by first | omega | (simp only [List.length_cons, List.length_nil]; omega)
    obtain ⟨y16, hy16⟩ := get_some (xs := (nmT l [a])) (k := a.toNat) k16
    obtain ⟨B16, O16, C16, hv16⟩ := (SlN.blk (ow_at (hS7.chq 0 rfl hc_5)) (by first | omega | (simp only [List.length_cons, List.length_nil]; omega)))
    refine W_v rfl rfl (V_ixS (off := O16 + a.toNat) 1 (a.toNat) rfl (es rfl (et rfl)) (et rfl) hv16 (by omega) k16 Try.underlying22 (by kernel_rfl) (congrArg _ (Nat.mul_one _))) ?_
    refine W_r rfl rfl (VR_ldC rfl (et rfl) ((ow_at (hS7.chq 0 rfl hc_5)).cell hv16 (map_get hy16)) Try.underlying3 rfl) ?_
    refine W_v rfl rfl (V_asg rfl (et rfl)) ?_
    refine W_v rfl rfl (V_asg rfl rfl) ?_
    refine W_end ?_
    refine gen_Q (fun A17 hA17 => ?_)
    have hsz17 : SzN A17 21 := by rw [hA17]; infer_instance
    have hdf17 : A17.defers = [] := by rw [hA17]; simp only [df_put]; exact hdf10
    have l4_17 := lookE hA17 4 (es rfl (et rfl))
    have l5_17 := lookE hA17 5 (et rfl)
    clear hA17 hsz10 hdf10 l1_10 l5_10 l6_10 l15_10
    have hS18 : St w NoX [] w5 := hS7.sel [] (by decide) rfl
    refine then_n (hK15 _ _ ?_)
    clear hK15
    refine wp_ret ?_
    refine ret_in (results_2 Try.results27 (rv_tmp l4_17) (rv_tmp l5_17)) hdf17 ?_
    -- leaf F
    have h := gtN_ok hE (show l[a.toNat]? = some y16 from hT ▸ hy16)
    rw [h, hE]
    exact ⟨rfl, hS18.fin0⟩

set_option maxHeartbeats 4000000 in
theorem kSt_c {rv : Value} {l : List Int} {a : Int} {x : Int} {w : World} (h_rv : Ro w NoX (il .i64 rv l))  :
    Calls Try.prog 24 #[rv, .int .i64 a, .int .i64 x] w fun e w' => ∃ v, e = .returned (.tuple #[v, .int .i64 (stE l a x)]) ∧ St w NoX [io .i64 (v) (stT l a x)] w' := by
  refine calls_in 29 Try.func24 rfl rfl (by simp) (fun A0 hsz0 hdf0 hargs => ?_)
  have l0_0 := hargs 0 (rv) rfl
  have l1_0 := hargs 1 (.int .i64 a) rfl
  have l2_0 := hargs 2 (.int .i64 x) rfl
  clear hargs; replace hsz0 : SzN A0 29 := ⟨hsz0⟩
  have hS := St.nil w
  have bh_rv := SlN.le (sl_SlN h_rv.at)
  refine wp_seq_k (fun K1 hK1 => ?_)
  -- region 0
  refine region_in ?_
  refine W_v rfl rfl (V_asg rfl rfl) ?_
  refine W_v rfl rfl (V_asg rfl rfl) ?_
  refine W_end ?_
  refine gen_Q (fun A2 hA2 => ?_)
  have hsz2 : SzN A2 29 := by rw [hA2]; infer_instance
  have hdf2 : A2.defers = [] := by rw [hA2]; simp only [df_put]; exact hdf0
  have l0_2 := lookE hA2 0 (es rfl (es rfl l0_0))
  have l1_2 := lookE hA2 1 (es rfl (es rfl l1_0))
  have l2_2 := lookE hA2 2 (es rfl (es rfl l2_0))
  clear hA2 hsz0 hdf0 l0_0 l1_0 l2_0
  refine then_n (hK1 _ _ ?_)
  clear hK1
  refine wp_seq_k (fun K3 hK3 => ?_)
  -- region 1
  refine region_in ?_
  refine W_v rfl rfl (V_mov rfl l0_2) ?_
  refine W_v rfl rfl (V_mov rfl (es rfl l1_2)) ?_
  have hll4 : [a].length = 1 := rfl
  refine W_litS (vs := [.int .i64 (a)]) (xs := ([a].map (Value.int .i64))) 1 hS rfl rfl rfl (parts1 (et rfl)) rfl Try.underlying22 (by kernel_rfl) (by decide) (by intro v hv; simp only [List.mem_cons, List.not_mem_nil, or_false] at hv; rcases hv with rfl <;> rfl) (by rfl) (fun g4 w4 c4 hc4 hS4 => ?_)
  replace hc4 : c4 = io .i64 (.slice (some ⟨g4, 0, none⟩) 1 1) [a] := hc4
  replace hS4 : St w NoX [c4] w4 := hS4
  refine W_call rfl rfl rfl Try.func35 (by kernel_rfl) rfl (args2 (es rfl (es rfl (et rfl))) (et rfl)) (nm_c (hS4.roC h_rv) (hS4.chC 0 rfl hc4).own ) ?_
  rintro _ w5 ⟨v_5, rfl, hP5⟩
  refine ⟨_, rfl, ?_⟩
  obtain ⟨c_5, hc_5, hP5⟩ := gen1 hP5
  have hS5 := hS4.join hP5
  replace hS5 : St w NoX [c_5, c4] w5 := hS5
  refine W_v rfl rfl (V_mov rfl (et rfl)) ?_
  refine W_v rfl rfl (V_ext (v := v_5) rfl (et rfl) rfl) ?_
  refine W_v rfl rfl (V_ext (v := .int .i64 ((nmE l [a]))) rfl (es rfl (et rfl)) rfl) ?_
  refine W_v rfl rfl (V_asg rfl (es rfl (et rfl))) ?_
  refine W_v rfl rfl (V_asg rfl (es rfl (et rfl))) ?_
  refine W_end ?_
  refine gen_Q (fun A6 hA6 => ?_)
  have hsz6 : SzN A6 29 := by rw [hA6]; infer_instance
  have hdf6 : A6.defers = [] := by rw [hA6]; simp only [df_put]; exact hdf2
  have l1_6 := lookE hA6 1 (es rfl (es rfl (es rfl (es rfl (es rfl (es rfl (es rfl (es rfl (es rfl l1_2)))))))))
  have l2_6 := lookE hA6 2 (es rfl (es rfl (es rfl (es rfl (es rfl (es rfl (es rfl (es rfl (es rfl l2_2)))))))))
  have l8_6 := lookE hA6 8 (es rfl (et rfl))
  have l9_6 := lookE hA6 9 (et rfl)
  clear hA6 hsz2 hdf2 l0_2 l1_2 l2_2
  have hS7 : St w NoX [c_5] w5 := hS5.sel [0] (by decide) rfl
  refine then_n (hK3 _ _ ?_)
  clear hK3
  refine wp_seq_k (fun K8 hK8 => ?_)
  refine wp_block ?_
  refine wp_seq_k (fun K9 hK9 => ?_)
  -- region 2
  refine region_in ?_
  refine W_v rfl rfl (V_mov rfl l9_6) ?_
  refine W_v rfl rfl (V_neq rfl (et rfl) rfl) ?_
  refine W_v rfl rfl (V_asg rfl (et rfl)) ?_
  refine W_end ?_
  refine gen_Q (fun A10 hA10 => ?_)
  have hsz10 : SzN A10 29 := by rw [hA10]; infer_instance
  have hdf10 : A10.defers = [] := by rw [hA10]; simp only [df_put]; exact hdf6
  have l1_10 := lookE hA10 1 (es rfl (es rfl (es rfl l1_6)))
  have l2_10 := lookE hA10 2 (es rfl (es rfl (es rfl l2_6)))
  have l8_10 := lookE hA10 8 (es rfl (es rfl (es rfl l8_6)))
  have l9_10 := lookE hA10 9 (es rfl (es rfl (es rfl l9_6)))
  have l17_10 := lookE hA10 17 (et rfl)
  clear hA10 hsz6 hdf6 l1_6 l2_6 l8_6 l9_6
  refine then_n (hK9 _ _ ?_)
  clear hK9
  refine cond_dec l17_10 (fun c11 => ?_) (fun c11 => ?_)
  · skip
    refine wp_seq_k (fun K12 hK12 => ?_)
    -- region 3
    refine region_in ?_
    refine W_v rfl rfl (V_mov rfl l9_10) ?_
    refine W_v rfl rfl (V_asg rfl rfl) ?_
    refine W_v rfl rfl (V_asg rfl (es rfl (et rfl))) ?_
    refine W_end ?_
    refine gen_Q (fun A13 hA13 => ?_)
    have hsz13 : SzN A13 29 := by rw [hA13]; infer_instance
    have hdf13 : A13.defers = [] := by rw [hA13]; simp only [df_put]; exact hdf10
    have l6_13 := lookE hA13 6 (es rfl (et rfl))
    have l7_13 := lookE hA13 7 (et rfl)
    clear hA13 hsz10 hdf10 l1_10 l2_10 l8_10 l9_10 l17_10
    have hS14 : St w NoX [] w5 := hS7.sel [] (by decide) rfl
    refine then_n (hK12 _ _ ?_)
    clear hK12
    refine wp_ret ?_
    refine inb_ret ?_
    refine then_ret ?_
    refine ret_in (results_2 Try.results24 (rv_tmp l6_13) (rv_tmp l7_13)) hdf13 ?_
    -- leaf T
    obtain ⟨c15, hc15, hS15⟩ := hS14.pnil (s := 1)
    have h : stE l a x = (nmE l [a]) := stE_nm c11
    have h2 := stT_err (l := l) (a := a) (x := x) (by rw [h]; exact c11)
    rw [h]
    exact ⟨_, rfl, (hS15.fin1 0 rfl (hc15.trans (by rw [h2] <;> rfl)))⟩
  · skip
    have hE : nmE l [a] = 0 := by simpa using c11
    obtain ⟨hck, hin⟩ := nmE_good hE
    obtain ⟨hl1, hl8, hin0⟩ := ckR_good hck
    have ha := hin a (by simp)
    have hT := nmT_ok hE
    have hTl : (nmT l [a]).length = l.length := by rw [hT]
    refine wp_seq_k (fun K16 hK16 => ?_)
    -- region 4
    refine region_in ?_
    refine W_v rfl rfl (V_mov rfl l2_10) ?_
    refine W_call rfl rfl rfl Try.func40 (by kernel_rfl) rfl (args1 (et rfl)) (out_c (a := x)  ) ?_
    rintro _ w17 ⟨rfl, hP17⟩
    refine ⟨_, rfl, ?_⟩
    have hS17 := hS7.join hP17
    replace hS17 : St w NoX [c_5] w17 := hS17
    refine W_v rfl rfl (V_asg rfl (et rfl)) ?_
    refine W_end ?_
    refine gen_Q (fun A18 hA18 => ?_)
    have hsz18 : SzN A18 29 := by rw [hA18]; infer_instance
    have hdf18 : A18.defers = [] := by rw [hA18]; simp only [df_put]; exact hdf10
    have l1_18 := lookE hA18 1 (es rfl (es rfl (es rfl l1_10)))
    have l2_18 := lookE hA18 2 (es rfl (es rfl (es rfl l2_10)))
    have l8_18 := lookE hA18 8 (es rfl (es rfl (es rfl l8_10)))
    have l21_18 := lookE hA18 21 (et rfl)
    clear hA18 hsz10 hdf10 l1_10 l2_10 l8_10 l9_10 l17_10
    refine then_n (hK16 _ _ ?_)
    clear hK16
    refine cond_dec l21_18 (fun c19 => ?_) (fun c19 => ?_)
    · skip
      refine wp_seq_k (fun K20 hK20 => ?_)
      -- region 5
      refine region_in ?_
      refine W_v rfl rfl (V_asg rfl rfl) ?_
      refine W_v rfl rfl (V_asg rfl rfl) ?_
      refine W_end ?_
      refine gen_Q (fun A21 hA21 => ?_)
      have hsz21 : SzN A21 29 := by rw [hA21]; infer_instance
      have hdf21 : A21.defers = [] := by rw [hA21]; simp only [df_put]; exact hdf18
      have l6_21 := lookE hA21 6 (es rfl (et rfl))
      have l7_21 := lookE hA21 7 (et rfl)
      clear hA21 hsz18 hdf18 l1_18 l2_18 l8_18 l21_18
      have hS22 : St w NoX [] w17 := hS17.sel [] (by decide) rfl
      refine then_n (hK20 _ _ ?_)
      clear hK20
      refine wp_ret ?_
      refine inb_ret ?_
      refine then_ret ?_
      refine ret_in (results_2 Try.results24 (rv_tmp l6_21) (rv_tmp l7_21)) hdf21 ?_
      -- leaf FT
      obtain ⟨c23, hc23, hS23⟩ := hS22.pnil (s := 1)
      have h : stE l a x = 7 := stE_out hE c19
      have h2 := stT_err (l := l) (a := a) (x := x) (by rw [h]; decide)
      rw [h]
      exact ⟨_, rfl, (hS23.fin1 0 rfl (hc23.trans (by rw [h2] <;> rfl)))⟩
    · skip
      refine wp_skip ?_
      refine inb_n ?_
      refine then_n (hK8 _ _ ?_)
      clear hK8
      refine wp_seq_k (fun K24 hK24 => ?_)
      -- region 6
      refine region_in ?_
      refine W_v rfl rfl (V_mov rfl l8_18) ?_
      refine W_v rfl rfl (V_mov rfl (es rfl l1_18)) ?_
      refine W_v rfl rfl (V_mov rfl (es rfl (es rfl l2_18))) ?_
      have k25 : a.toNat < (nmT l [a]).length := by first | omega | (simp only [List.length_cons, List.length_nil]; omega)
      obtain ⟨y25, hy25⟩ := get_some (xs := (nmT l [a])) (k := a.toNat) k25
      obtain ⟨B25, O25, C25, hv25⟩ := (SlN.blk (ow_at (hS17.chq 0 rfl hc_5)) (by first | omega | (simp only [List.length_cons, List.length_nil]; omega)))
      refine W_v rfl rfl (V_ixS (off := O25 + a.toNat) 1 (a.toNat) rfl (es rfl (es rfl (et rfl))) (es rfl (et rfl)) hv25 (by omega) k25 Try.underlying22 (by kernel_rfl) (congrArg _ (Nat.mul_one _))) ?_
      refine W_stE 0 hS17 rfl hc_5 hv25 rfl rfl rfl (et rfl) (es rfl (et rfl)) (by rfl) rfl (by first | (simp only [List.length_map]; omega) | omega) (by kernel_rfl) (fun w26 c26 hc26 hS26 => ?_)
      replace hc26 : c26 = io .i64 v_5 ((nmT l [a]).set a.toNat x) := hc26.trans (by simp [io, bo, List.map_set] <;> rfl)
      replace hS26 : St w NoX [c26] w26 := hS26
      refine W_end ?_
      refine gen_Q (fun A27 hA27 => ?_)
      have hsz27 : SzN A27 29 := by rw [hA27]; infer_instance
      have hdf27 : A27.defers = [] := by rw [hA27]; simp only [df_put]; exact hdf18
      have l8_27 := lookE hA27 8 (es rfl (es rfl (es rfl (es rfl l8_18))))
      clear hA27 hsz18 hdf18 l1_18 l2_18 l8_18 l21_18
      refine then_n (hK24 _ _ ?_)
      clear hK24
      refine wp_seq_k (fun K28 hK28 => ?_)
      -- region 7
      refine region_in ?_
      refine W_v rfl rfl (V_mov rfl l8_27) ?_
      refine W_v rfl rfl (V_asg rfl (et rfl)) ?_
      refine W_v rfl rfl (V_asg rfl rfl) ?_
      refine W_end ?_
      refine gen_Q (fun A29 hA29 => ?_)
      have hsz29 : SzN A29 29 := by rw [hA29]; infer_instance
      have hdf29 : A29.defers = [] := by rw [hA29]; simp only [df_put]; exact hdf27
      have l6_29 := lookE hA29 6 (es rfl (et rfl))
      have l7_29 := lookE hA29 7 (et rfl)
      clear hA29 hsz27 hdf27 l8_27
      refine then_n (hK28 _ _ ?_)
      clear hK28
      refine wp_ret ?_
      refine ret_in (results_2 Try.results24 (rv_tmp l6_29) (rv_tmp l7_29)) hdf29 ?_
      -- leaf FF
      have h := stE_ok hE c19
      have h2 := stT_ok h
      rw [h]
      exact ⟨_, rfl, (hS26.fin1 0 rfl (hc26.trans (by rw [h2, hT])))⟩

set_option maxHeartbeats 4000000 in
theorem kMv_c {rv : Value} {l : List Int} {a : Int} {b : Int} {w : World} (h_rv : Ro w NoX (il .i64 rv l))  :
    Calls Try.prog 25 #[rv, .int .i64 a, .int .i64 b] w fun e w' => ∃ v, e = .returned (.tuple #[v, .int .i64 (nmE l [a, b])]) ∧ St w NoX [io .i64 (v) (mvT l a b)] w' := by
  refine calls_in 29 Try.func25 rfl rfl (by simp) (fun A0 hsz0 hdf0 hargs => ?_)
  have l0_0 := hargs 0 (rv) rfl
  have l1_0 := hargs 1 (.int .i64 a) rfl
  have l2_0 := hargs 2 (.int .i64 b) rfl
  clear hargs; replace hsz0 : SzN A0 29 := ⟨hsz0⟩
  have hS := St.nil w
  have bh_rv := SlN.le (sl_SlN h_rv.at)
  refine wp_seq_k (fun K1 hK1 => ?_)
  -- region 0
  refine region_in ?_
  refine W_v rfl rfl (V_asg rfl rfl) ?_
  refine W_v rfl rfl (V_asg rfl rfl) ?_
  refine W_end ?_
  refine gen_Q (fun A2 hA2 => ?_)
  have hsz2 : SzN A2 29 := by rw [hA2]; infer_instance
  have hdf2 : A2.defers = [] := by rw [hA2]; simp only [df_put]; exact hdf0
  have l0_2 := lookE hA2 0 (es rfl (es rfl l0_0))
  have l1_2 := lookE hA2 1 (es rfl (es rfl l1_0))
  have l2_2 := lookE hA2 2 (es rfl (es rfl l2_0))
  clear hA2 hsz0 hdf0 l0_0 l1_0 l2_0
  refine then_n (hK1 _ _ ?_)
  clear hK1
  refine wp_seq_k (fun K3 hK3 => ?_)
  -- region 1
  refine region_in ?_
  refine W_v rfl rfl (V_mov rfl l0_2) ?_
  refine W_v rfl rfl (V_mov rfl (es rfl l1_2)) ?_
  refine W_v rfl rfl (V_mov rfl (es rfl (es rfl l2_2))) ?_
  have hll4 : [a, b].length = 2 := rfl
  refine W_litS (vs := [.int .i64 (a), .int .i64 (b)]) (xs := ([a, b].map (Value.int .i64))) 1 hS rfl rfl rfl (parts2 (es rfl (et rfl)) (et rfl)) rfl Try.underlying22 (by kernel_rfl) (by decide) (by intro v hv; simp only [List.mem_cons, List.not_mem_nil, or_false] at hv; rcases hv with rfl | rfl <;> rfl) (by rfl) (fun g4 w4 c4 hc4 hS4 => ?_)
  replace hc4 : c4 = io .i64 (.slice (some ⟨g4, 0, none⟩) 2 2) [a, b] := hc4
  replace hS4 : St w NoX [c4] w4 := hS4
  refine W_call rfl rfl rfl Try.func35 (by kernel_rfl) rfl (args2 (es rfl (es rfl (es rfl (et rfl)))) (et rfl)) (nm_c (hS4.roC h_rv) (hS4.chC 0 rfl hc4).own ) ?_
  rintro _ w5 ⟨v_5, rfl, hP5⟩
  refine ⟨_, rfl, ?_⟩
  obtain ⟨c_5, hc_5, hP5⟩ := gen1 hP5
  have hS5 := hS4.join hP5
  replace hS5 : St w NoX [c_5, c4] w5 := hS5
  refine W_v rfl rfl (V_mov rfl (et rfl)) ?_
  refine W_v rfl rfl (V_ext (v := v_5) rfl (et rfl) rfl) ?_
  refine W_v rfl rfl (V_ext (v := .int .i64 ((nmE l [a, b]))) rfl (es rfl (et rfl)) rfl) ?_
  refine W_v rfl rfl (V_asg rfl (es rfl (et rfl))) ?_
  refine W_v rfl rfl (V_asg rfl (es rfl (et rfl))) ?_
  refine W_end ?_
  refine gen_Q (fun A6 hA6 => ?_)
  have hsz6 : SzN A6 29 := by rw [hA6]; infer_instance
  have hdf6 : A6.defers = [] := by rw [hA6]; simp only [df_put]; exact hdf2
  have l1_6 := lookE hA6 1 (es rfl (es rfl (es rfl (es rfl (es rfl (es rfl (es rfl (es rfl (es rfl (es rfl l1_2))))))))))
  have l2_6 := lookE hA6 2 (es rfl (es rfl (es rfl (es rfl (es rfl (es rfl (es rfl (es rfl (es rfl (es rfl l2_2))))))))))
  have l8_6 := lookE hA6 8 (es rfl (et rfl))
  have l9_6 := lookE hA6 9 (et rfl)
  clear hA6 hsz2 hdf2 l0_2 l1_2 l2_2
  have hS7 : St w NoX [c_5] w5 := hS5.sel [0] (by decide) rfl
  refine then_n (hK3 _ _ ?_)
  clear hK3
  refine wp_seq_k (fun K8 hK8 => ?_)
  refine wp_seq_k (fun K9 hK9 => ?_)
  -- region 2
  refine region_in ?_
  refine W_v rfl rfl (V_mov rfl l9_6) ?_
  refine W_v rfl rfl (V_neq rfl (et rfl) rfl) ?_
  refine W_end ?_
  refine gen_Q (fun A10 hA10 => ?_)
  have hsz10 : SzN A10 29 := by rw [hA10]; infer_instance
  have hdf10 : A10.defers = [] := by rw [hA10]; simp only [df_put]; exact hdf6
  have l1_10 := lookE hA10 1 (es rfl (es rfl l1_6))
  have l2_10 := lookE hA10 2 (es rfl (es rfl l2_6))
  have l8_10 := lookE hA10 8 (es rfl (es rfl l8_6))
  have l9_10 := lookE hA10 9 (es rfl (es rfl l9_6))
  have l19_10 := lookE hA10 19 (et rfl)
  clear hA10 hsz6 hdf6 l1_6 l2_6 l8_6 l9_6
  refine then_n (hK9 _ _ ?_)
  clear hK9
  refine cond_dec l19_10 (fun c11 => ?_) (fun c11 => ?_)
  · skip
    refine wp_seq_k (fun K12 hK12 => ?_)
    -- region 3
    refine region_in ?_
    refine W_v rfl rfl (V_mov rfl l9_10) ?_
    refine W_v rfl rfl (V_asg rfl rfl) ?_
    refine W_v rfl rfl (V_asg rfl (es rfl (et rfl))) ?_
    refine W_end ?_
    refine gen_Q (fun A13 hA13 => ?_)
    have hsz13 : SzN A13 29 := by rw [hA13]; infer_instance
    have hdf13 : A13.defers = [] := by rw [hA13]; simp only [df_put]; exact hdf10
    have l6_13 := lookE hA13 6 (es rfl (et rfl))
    have l7_13 := lookE hA13 7 (et rfl)
    clear hA13 hsz10 hdf10 l1_10 l2_10 l8_10 l9_10 l19_10
    have hS14 : St w NoX [] w5 := hS7.sel [] (by decide) rfl
    refine then_n (hK12 _ _ ?_)
    clear hK12
    refine wp_ret ?_
    refine then_ret ?_
    refine ret_in (results_2 Try.results25 (rv_tmp l6_13) (rv_tmp l7_13)) hdf13 ?_
    -- leaf T
    obtain ⟨c15, hc15, hS15⟩ := hS14.pnil (s := 1)
    have h := mvT_err (l := l) (a := a) (b := b) c11
    exact ⟨_, rfl, (hS15.fin1 0 rfl (hc15.trans (by rw [h] <;> rfl)))⟩
  · skip
    have hE : nmE l [a, b] = 0 := by simpa using c11
    obtain ⟨hck, hin⟩ := nmE_good hE
    obtain ⟨hl1, hl8, hin0⟩ := ckR_good hck
    have ha := hin a (by simp)
    have hb := hin b (by simp)
    have hT := nmT_ok hE
    have hTl : (nmT l [a, b]).length = l.length := by rw [hT]
    refine wp_skip ?_
    refine then_n (hK8 _ _ ?_)
    clear hK8
    refine wp_seq_k (fun K16 hK16 => ?_)
    -- region 4
    refine region_in ?_
    refine W_v rfl rfl (V_mov rfl l8_10) ?_
    refine W_v rfl rfl (V_mov rfl (es rfl l1_10)) ?_
    refine W_v rfl rfl (V_mov rfl (es rfl (es rfl l8_10))) ?_
    refine W_v rfl rfl (V_mov rfl (es rfl (es rfl (es rfl l2_10)))) ?_
    have k17 : b.toNat < (nmT l [a, b]).length := by first | omega | (simp only [List.length_cons, List.length_nil]; omega)
    obtain ⟨y17, hy17⟩ := get_some (xs := (nmT l [a, b])) (k := b.toNat) k17
    obtain ⟨B17, O17, C17, hv17⟩ := (SlN.blk (ow_at (hS7.chq 0 rfl hc_5)) (by first | omega | (simp only [List.length_cons, List.length_nil]; omega)))
    refine W_v rfl rfl (V_ixS (off := O17 + b.toNat) 1 (b.toNat) rfl (es rfl (et rfl)) (et rfl) hv17 (by omega) k17 Try.underlying22 (by kernel_rfl) (congrArg _ (Nat.mul_one _))) ?_
    refine W_r rfl rfl (VR_ldC rfl (et rfl) ((ow_at (hS7.chq 0 rfl hc_5)).cell hv17 (map_get hy17)) Try.underlying3 rfl) ?_
    have k18 : a.toNat < (nmT l [a, b]).length := by first | omega | (simp only [List.length_cons, List.length_nil]; omega)
    obtain ⟨y18, hy18⟩ := get_some (xs := (nmT l [a, b])) (k := a.toNat) k18
    refine W_v rfl rfl (V_ixS (off := O17 + a.toNat) 1 (a.toNat) rfl (es rfl (es rfl (es rfl (es rfl (es rfl (et rfl)))))) (es rfl (es rfl (es rfl (es rfl (et rfl))))) hv17 (by omega) k18 Try.underlying22 (by kernel_rfl) (congrArg _ (Nat.mul_one _))) ?_
    refine W_stE 0 hS7 rfl hc_5 hv17 rfl rfl rfl (et rfl) (es rfl (et rfl)) (by rfl) rfl (by first | (simp only [List.length_map]; omega) | omega) (by kernel_rfl) (fun w19 c19 hc19 hS19 => ?_)
    replace hc19 : c19 = io .i64 v_5 ((nmT l [a, b]).set a.toNat y17) := hc19.trans (by simp [io, bo, List.map_set] <;> rfl)
    replace hS19 : St w NoX [c19] w19 := hS19
    refine W_end ?_
    refine gen_Q (fun A20 hA20 => ?_)
    have hsz20 : SzN A20 29 := by rw [hA20]; infer_instance
    have hdf20 : A20.defers = [] := by rw [hA20]; simp only [df_put]; exact hdf10
    have l8_20 := lookE hA20 8 (es rfl (es rfl (es rfl (es rfl (es rfl (es rfl (es rfl l8_10)))))))
    clear hA20 hsz10 hdf10 l1_10 l2_10 l8_10 l9_10 l19_10
    refine then_n (hK16 _ _ ?_)
    clear hK16
    refine wp_seq_k (fun K21 hK21 => ?_)
    -- region 5
    refine region_in ?_
    refine W_v rfl rfl (V_mov rfl l8_20) ?_
    refine W_v rfl rfl (V_asg rfl (et rfl)) ?_
    refine W_v rfl rfl (V_asg rfl rfl) ?_
    refine W_end ?_
    refine gen_Q (fun A22 hA22 => ?_)
    have hsz22 : SzN A22 29 := by rw [hA22]; infer_instance
    have hdf22 : A22.defers = [] := by rw [hA22]; simp only [df_put]; exact hdf20
    have l6_22 := lookE hA22 6 (es rfl (et rfl))
    have l7_22 := lookE hA22 7 (et rfl)
    clear hA22 hsz20 hdf20 l8_20
    refine then_n (hK21 _ _ ?_)
    clear hK21
    refine wp_ret ?_
    refine ret_in (results_2 Try.results25 (rv_tmp l6_22) (rv_tmp l7_22)) hdf22 ?_
    -- leaf F
    have h := mvT_ok hE (show l[b.toNat]? = some y17 from hT ▸ hy17)
    rw [hE]
    exact ⟨_, rfl, (hS19.fin1 0 rfl (hc19.trans (by rw [h, hT])))⟩

set_option maxHeartbeats 4000000 in
theorem kCl_c {rv : Value} {l : List Int} {a : Int} {w : World} (h_rv : Ro w NoX (il .i64 rv l))  :
    Calls Try.prog 31 #[rv, .int .i64 a] w fun e w' => ∃ v, e = .returned (.tuple #[v, .int .i64 (stE l a 0)]) ∧ St w NoX [io .i64 (v) (stT l a 0)] w' := by
  refine calls_in 11 Try.func31 rfl rfl (by simp) (fun A0 hsz0 hdf0 hargs => ?_)
  have l0_0 := hargs 0 (rv) rfl
  have l1_0 := hargs 1 (.int .i64 a) rfl
  clear hargs; replace hsz0 : SzN A0 11 := ⟨hsz0⟩
  have hS := St.nil w
  have bh_rv := SlN.le (sl_SlN h_rv.at)
  refine wp_seq_k (fun K1 hK1 => ?_)
  -- region 0
  refine region_in ?_
  refine W_v rfl rfl (V_asg rfl rfl) ?_
  refine W_v rfl rfl (V_asg rfl rfl) ?_
  refine W_end ?_
  refine gen_Q (fun A2 hA2 => ?_)
  have hsz2 : SzN A2 11 := by rw [hA2]; infer_instance
  have hdf2 : A2.defers = [] := by rw [hA2]; simp only [df_put]; exact hdf0
  have l0_2 := lookE hA2 0 (es rfl (es rfl l0_0))
  have l1_2 := lookE hA2 1 (es rfl (es rfl l1_0))
  clear hA2 hsz0 hdf0 l0_0 l1_0
  refine then_n (hK1 _ _ ?_)
  clear hK1
  refine wp_seq_k (fun K3 hK3 => ?_)
  -- region 1
  refine region_in ?_
  refine W_v rfl rfl (V_mov rfl l0_2) ?_
  refine W_v rfl rfl (V_mov rfl (es rfl l1_2)) ?_
  refine W_call rfl rfl rfl Try.func24 (by kernel_rfl) rfl (args3 (es rfl (et rfl)) (et rfl) rfl) (kSt_c (a := a) (x := 0) (hS.roC h_rv) ) ?_
  rintro _ w4 ⟨v_4, rfl, hP4⟩
  refine ⟨_, rfl, ?_⟩
  obtain ⟨c_4, hc_4, hP4⟩ := gen1 hP4
  have hS4 := hS.join hP4
  replace hS4 : St w NoX [c_4] w4 := hS4
  refine W_v rfl rfl (V_ext (v := v_4) rfl (et rfl) rfl) ?_
  refine W_v rfl rfl (V_ext (v := .int .i64 ((stE l a 0))) rfl (es rfl (et rfl)) rfl) ?_
  refine W_v rfl rfl (V_asg rfl (es rfl (et rfl))) ?_
  refine W_v rfl rfl (V_asg rfl (es rfl (et rfl))) ?_
  refine W_end ?_
  refine gen_Q (fun A5 hA5 => ?_)
  have hsz5 : SzN A5 11 := by rw [hA5]; infer_instance
  have hdf5 : A5.defers = [] := by rw [hA5]; simp only [df_put]; exact hdf2
  have l4_5 := lookE hA5 4 (es rfl (et rfl))
  have l5_5 := lookE hA5 5 (et rfl)
  clear hA5 hsz2 hdf2 l0_2 l1_2
  refine then_n (hK3 _ _ ?_)
  clear hK3
  refine wp_ret ?_
  refine ret_in (results_2 Try.results31 (rv_tmp l4_5) (rv_tmp l5_5)) hdf5 ?_
  -- leaf 
  exact ⟨_, rfl, (hS4.fin1 0 rfl (hc_4))⟩

set_option maxHeartbeats 4000000 in
theorem kAl_c {rv : Value} {l : List Int} {a : Int} {b : Int} {w : World} (h_rv : Ro w NoX (il .i64 rv l))  :
    Calls Try.prog 33 #[rv, .int .i64 a, .int .i64 b] w fun e w' => e = .returned (.tuple #[.bool (alB l a b), .int .i64 (nmE l [a, b])]) ∧ St w NoX [] w' := by
  refine calls_in 32 Try.func33 rfl rfl (by simp) (fun A0 hsz0 hdf0 hargs => ?_)
  have l0_0 := hargs 0 (rv) rfl
  have l1_0 := hargs 1 (.int .i64 a) rfl
  have l2_0 := hargs 2 (.int .i64 b) rfl
  clear hargs; replace hsz0 : SzN A0 32 := ⟨hsz0⟩
  have hS := St.nil w
  have bh_rv := SlN.le (sl_SlN h_rv.at)
  refine wp_seq_k (fun K1 hK1 => ?_)
  -- region 0
  refine region_in ?_
  refine W_v rfl rfl (V_asg rfl rfl) ?_
  refine W_v rfl rfl (V_asg rfl rfl) ?_
  refine W_end ?_
  refine gen_Q (fun A2 hA2 => ?_)
  have hsz2 : SzN A2 32 := by rw [hA2]; infer_instance
  have hdf2 : A2.defers = [] := by rw [hA2]; simp only [df_put]; exact hdf0
  have l0_2 := lookE hA2 0 (es rfl (es rfl l0_0))
  have l1_2 := lookE hA2 1 (es rfl (es rfl l1_0))
  have l2_2 := lookE hA2 2 (es rfl (es rfl l2_0))
  clear hA2 hsz0 hdf0 l0_0 l1_0 l2_0
  refine then_n (hK1 _ _ ?_)
  clear hK1
  refine wp_seq_k (fun K3 hK3 => ?_)
  -- region 1
  refine region_in ?_
  refine W_v rfl rfl (V_mov rfl l0_2) ?_
  refine W_v rfl rfl (V_mov rfl (es rfl l1_2)) ?_
  refine W_v rfl rfl (V_mov rfl (es rfl (es rfl l2_2))) ?_
  have hll4 : [a, b].length = 2 := rfl
  refine W_litS (vs := [.int .i64 (a), .int .i64 (b)]) (xs := ([a, b].map (Value.int .i64))) 1 hS rfl rfl rfl (parts2 (es rfl (et rfl)) (et rfl)) rfl Try.underlying22 (by kernel_rfl) (by decide) (by intro v hv; simp only [List.mem_cons, List.not_mem_nil, or_false] at hv; rcases hv with rfl | rfl <;> rfl) (by rfl) (fun g4 w4 c4 hc4 hS4 => ?_)
  replace hc4 : c4 = io .i64 (.slice (some ⟨g4, 0, none⟩) 2 2) [a, b] := hc4
  replace hS4 : St w NoX [c4] w4 := hS4
  refine W_call rfl rfl rfl Try.func35 (by kernel_rfl) rfl (args2 (es rfl (es rfl (es rfl (et rfl)))) (et rfl)) (nm_c (hS4.roC h_rv) (hS4.chC 0 rfl hc4).own ) ?_
  rintro _ w5 ⟨v_5, rfl, hP5⟩
  refine ⟨_, rfl, ?_⟩
  obtain ⟨c_5, hc_5, hP5⟩ := gen1 hP5
  have hS5 := hS4.join hP5
  replace hS5 : St w NoX [c_5, c4] w5 := hS5
  refine W_v rfl rfl (V_mov rfl (et rfl)) ?_
  refine W_v rfl rfl (V_ext (v := v_5) rfl (et rfl) rfl) ?_
  refine W_v rfl rfl (V_ext (v := .int .i64 ((nmE l [a, b]))) rfl (es rfl (et rfl)) rfl) ?_
  refine W_v rfl rfl (V_asg rfl (es rfl (et rfl))) ?_
  refine W_v rfl rfl (V_asg rfl (es rfl (et rfl))) ?_
  refine W_end ?_
  refine gen_Q (fun A6 hA6 => ?_)
  have hsz6 : SzN A6 32 := by rw [hA6]; infer_instance
  have hdf6 : A6.defers = [] := by rw [hA6]; simp only [df_put]; exact hdf2
  have l1_6 := lookE hA6 1 (es rfl (es rfl (es rfl (es rfl (es rfl (es rfl (es rfl (es rfl (es rfl (es rfl l1_2))))))))))
  have l2_6 := lookE hA6 2 (es rfl (es rfl (es rfl (es rfl (es rfl (es rfl (es rfl (es rfl (es rfl (es rfl l2_2))))))))))
  have l8_6 := lookE hA6 8 (es rfl (et rfl))
  have l9_6 := lookE hA6 9 (et rfl)
  clear hA6 hsz2 hdf2 l0_2 l1_2 l2_2
  have hS7 : St w NoX [c_5] w5 := hS5.sel [0] (by decide) rfl
  refine then_n (hK3 _ _ ?_)
  clear hK3
  refine wp_seq_k (fun K8 hK8 => ?_)
  -- region 2
  refine region_monoS 16 16 [] (by kernel_rfl) (by kernel_rfl) ?_
  refine D_v rfl rfl (V_mov rfl l9_6) rfl rfl ?_
  refine D_v rfl rfl (V_eql rfl (et rfl) rfl) rfl rfl ?_
  refine D_split rfl rfl (V_mov rfl (et rfl)) rfl rfl (fun c9 => ?_) (fun c9 => ?_)
  · skip
    have hE : nmE l [a, b] = 0 := by simpa using c9
    obtain ⟨hck, hin⟩ := nmE_good hE
    obtain ⟨hl1, hl8, hin0⟩ := ckR_good hck
    have ha := hin a (by simp)
    have hb := hin b (by simp)
    have hT := nmT_ok hE
    have hTl : (nmT l [a, b]).length = l.length := by rw [hT]
    refine D_v rfl (wanted_t rfl rfl (et rfl) (ez rfl)) (V_mov rfl (es rfl (es rfl (es rfl l8_6)))) rfl rfl ?_
    refine D_v rfl (wanted_t rfl rfl (es rfl (et rfl)) (ez rfl)) (V_mov rfl (es rfl (es rfl (es rfl (es rfl l1_6))))) rfl rfl ?_
    have k10 : a.toNat < (nmT l [a, b]).length := by first | omega | (simp only [List.length_cons, List.length_nil]; omega)
    obtain ⟨y10, hy10⟩ := get_some (xs := (nmT l [a, b])) (k := a.toNat) k10
    obtain ⟨B10, O10, C10, hv10⟩ := (SlN.blk (ow_at (hS7.chq 0 rfl hc_5)) (by first | omega | (simp only [List.length_cons, List.length_nil]; omega)))
    refine D_v rfl (wanted_t rfl rfl (es rfl (es rfl (et rfl))) (ez rfl)) (V_ixS (off := O10 + a.toNat) 1 (a.toNat) rfl (es rfl (et rfl)) (et rfl) hv10 (by omega) k10 Try.underlying22 (by kernel_rfl) (congrArg _ (Nat.mul_one _))) rfl rfl ?_
    refine D_r rfl (wanted_t rfl rfl (es rfl (es rfl (es rfl (et rfl)))) (ez rfl)) (by kernel_rfl) (fun sx hx hF => (VR_ldC rfl (et rfl) ((ow_at ((hS7.grow hx).chq 0 rfl hc_5)).cell hv10 (map_get hy10)) Try.underlying3 rfl)) rfl rfl ?_
    refine D_v rfl (wanted_t rfl rfl (es rfl (es rfl (es rfl (es rfl (et rfl))))) (ez rfl)) (V_mov rfl (es rfl (es rfl (es rfl (es rfl (es rfl (es rfl (es rfl l8_6)))))))) rfl rfl ?_
    refine D_v rfl (wanted_t rfl rfl (es rfl (es rfl (es rfl (es rfl (es rfl (et rfl)))))) (ez rfl)) (V_mov rfl (es rfl (es rfl (es rfl (es rfl (es rfl (es rfl (es rfl (es rfl l2_6))))))))) rfl rfl ?_
    have k11 : b.toNat < (nmT l [a, b]).length := by first | omega | (simp only [List.length_cons, List.length_nil]; omega)
    obtain ⟨y11, hy11⟩ := get_some (xs := (nmT l [a, b])) (k := b.toNat) k11
    refine D_v rfl (wanted_t rfl rfl (es rfl (es rfl (es rfl (es rfl (es rfl (es rfl (et rfl))))))) (ez rfl)) (V_ixS (off := O10 + b.toNat) 1 (b.toNat) rfl (es rfl (et rfl)) (et rfl) hv10 (by omega) k11 Try.underlying22 (by kernel_rfl) (congrArg _ (Nat.mul_one _))) rfl rfl ?_
    refine D_r rfl (wanted_t rfl rfl (es rfl (es rfl (es rfl (es rfl (es rfl (es rfl (es rfl (et rfl)))))))) (ez rfl)) (by kernel_rfl) (fun sx hx hF => (VR_ldC rfl (et rfl) ((ow_at ((hS7.grow hx).chq 0 rfl hc_5)).cell hv10 (map_get hy11)) Try.underlying3 rfl)) rfl rfl ?_
    refine D_v rfl (wanted_t rfl rfl (es rfl (es rfl (es rfl (es rfl (es rfl (es rfl (es rfl (es rfl (et rfl))))))))) (ez rfl)) (V_eql rfl (es rfl (es rfl (es rfl (es rfl (et rfl))))) (et rfl)) rfl rfl ?_
    refine D_v rfl rfl (V_pickT rfl (es rfl (es rfl (es rfl (es rfl (es rfl (es rfl (es rfl (es rfl (es rfl (et rfl)))))))))) (et rfl)) rfl rfl ?_
    refine D_v rfl rfl (V_mov rfl (es rfl (es rfl (es rfl (es rfl (es rfl (es rfl (es rfl (es rfl (es rfl (es rfl (es rfl (es rfl (es rfl l9_6)))))))))))))) rfl rfl ?_
    refine D_v rfl rfl (V_asg rfl (es rfl (et rfl))) rfl rfl ?_
    refine D_v rfl rfl (V_asg rfl (es rfl (et rfl))) rfl rfl ?_
    refine ZS_none hS7 (Nat.le_refl _) (Nat.le_refl _) (fun s12 hJ12 hL12 hF12 => ?_)
    have hS12 := hJ12.st; clear hF12 hJ12 hL12
    generalize s12.1 = w12 at *
    replace hS12 : St w NoX [c_5] w12 := hS12
    refine gen_Q (fun A13 hA13 => ?_)
    have hsz13 : SzN A13 32 := by rw [hA13]; infer_instance
    have hdf13 : A13.defers = [] := by rw [hA13]; simp only [df_put]; exact hdf6
    have l6_13 := lookE hA13 6 (es rfl (et rfl))
    have l7_13 := lookE hA13 7 (et rfl)
    clear hA13 hsz6 hdf6 l1_6 l2_6 l8_6 l9_6
    have hS14 : St w NoX [] w12 := hS12.sel [] (by decide) rfl
    refine then_n (hK8 _ _ ?_)
    clear hK8
    refine wp_ret ?_
    refine ret_in (results_2 Try.results33 (rv_tmp l6_13) (rv_tmp l7_13)) hdf13 ?_
    -- leaf T
    have h := alB_ok hE (show l[a.toNat]? = some y10 from hT ▸ hy10) (show l[b.toNat]? = some y11 from hT ▸ hy11)
    rw [h]
    exact ⟨rfl, hS14.fin0⟩
  · skip
    refine D_off rfl (wanted_f rfl rfl (et rfl) (ez rfl) rfl) rfl ?_
    refine D_off rfl (wanted_f rfl rfl (es rfl (et rfl)) (ez rfl) rfl) rfl ?_
    refine D_off rfl (wanted_f rfl rfl (es rfl (es rfl (et rfl))) (ez rfl) rfl) rfl ?_
    refine D_off rfl (wanted_f rfl rfl (es rfl (es rfl (es rfl (et rfl)))) (ez rfl) rfl) rfl ?_
    refine D_off rfl (wanted_f rfl rfl (es rfl (es rfl (es rfl (es rfl (et rfl))))) (ez rfl) rfl) rfl ?_
    refine D_off rfl (wanted_f rfl rfl (es rfl (es rfl (es rfl (es rfl (es rfl (et rfl)))))) (ez rfl) rfl) rfl ?_
    refine D_off rfl (wanted_f rfl rfl (es rfl (es rfl (es rfl (es rfl (es rfl (es rfl (et rfl))))))) (ez rfl) rfl) rfl ?_
    refine D_off rfl (wanted_f rfl rfl (es rfl (es rfl (es rfl (es rfl (es rfl (es rfl (es rfl (et rfl)))))))) (ez rfl) rfl) rfl ?_
    refine D_off rfl (wanted_f rfl rfl (es rfl (es rfl (es rfl (es rfl (es rfl (es rfl (es rfl (es rfl (et rfl))))))))) (ez rfl) rfl) rfl ?_
    refine D_v rfl rfl (V_pickF rfl (es rfl (es rfl (es rfl (es rfl (es rfl (es rfl (es rfl (es rfl (es rfl (et rfl)))))))))) rfl) rfl rfl ?_
    refine D_v rfl rfl (V_mov rfl (es rfl (es rfl (es rfl (es rfl (es rfl (es rfl (es rfl (es rfl (es rfl (es rfl (es rfl (es rfl (es rfl l9_6)))))))))))))) rfl rfl ?_
    refine D_v rfl rfl (V_asg rfl (es rfl (et rfl))) rfl rfl ?_
    refine D_v rfl rfl (V_asg rfl (es rfl (et rfl))) rfl rfl ?_
    refine ZS_none hS7 (Nat.le_refl _) (Nat.le_refl _) (fun s15 hJ15 hL15 hF15 => ?_)
    have hS15 := hJ15.st; clear hF15 hJ15 hL15
    generalize s15.1 = w15 at *
    replace hS15 : St w NoX [c_5] w15 := hS15
    refine gen_Q (fun A16 hA16 => ?_)
    have hsz16 : SzN A16 32 := by rw [hA16]; infer_instance
    have hdf16 : A16.defers = [] := by rw [hA16]; simp only [df_put]; exact hdf6
    have l6_16 := lookE hA16 6 (es rfl (et rfl))
    have l7_16 := lookE hA16 7 (et rfl)
    clear hA16 hsz6 hdf6 l1_6 l2_6 l8_6 l9_6
    have hS17 : St w NoX [] w15 := hS15.sel [] (by decide) rfl
    refine then_n (hK8 _ _ ?_)
    clear hK8
    refine wp_ret ?_
    refine ret_in (results_2 Try.results33 (rv_tmp l6_16) (rv_tmp l7_16)) hdf16 ?_
    -- leaf F
    have h := alB_err (l := l) (a := a) (b := b) c9
    rw [h]
    exact ⟨rfl, hS17.fin0⟩

set_option maxHeartbeats 4000000 in
theorem qas_c {rv : Value} {l : List Int} {nv : Value} {ns : List Int} {w : World} (h_rv : Ro w NoX (il .i64 rv l)) (h_nv : Ro w NoX (il .i64 nv ns))  :
    Calls Try.prog 41 #[rv, nv] w fun e w' => e = .returned (.int .i64 (nmE l ns)) ∧ St w NoX [] w' := by
  refine calls_in 38 Try.func41 rfl rfl (by simp) (fun A0 hsz0 hdf0 hargs => ?_)
  have l0_0 := hargs 0 (rv) rfl
  have l1_0 := hargs 1 (nv) rfl
  clear hargs; replace hsz0 : SzN A0 38 := ⟨hsz0⟩
  have hS := St.nil w
  have bh_rv := SlN.le (sl_SlN h_rv.at)
  have bh_nv := SlN.le (sl_SlN h_nv.at)
  refine wp_seq_k (fun K1 hK1 => ?_)
  -- region 0
  refine region_in ?_
  refine W_v rfl rfl (V_asg rfl rfl) ?_
  refine W_end ?_
  refine gen_Q (fun A2 hA2 => ?_)
  have hsz2 : SzN A2 38 := by rw [hA2]; infer_instance
  have hdf2 : A2.defers = [] := by rw [hA2]; simp only [df_put]; exact hdf0
  have l0_2 := lookE hA2 0 (es rfl l0_0)
  have l1_2 := lookE hA2 1 (es rfl l1_0)
  clear hA2 hsz0 hdf0 l0_0 l1_0
  refine then_n (hK1 _ _ ?_)
  clear hK1
  refine wp_seq_k (fun K3 hK3 => ?_)
  -- region 1
  refine region_in ?_
  refine W_v rfl rfl (V_mov rfl l0_2) ?_
  refine W_call rfl rfl rfl Try.func26 (by kernel_rfl) rfl (args1 (et rfl)) (qCk_c (hS.roC h_rv) ) ?_
  rintro _ w4 ⟨rfl, hP4⟩
  refine ⟨_, rfl, ?_⟩
  have hS4 := hS.join hP4
  replace hS4 : St w NoX [] w4 := hS4
  refine W_v rfl rfl (V_mov rfl (et rfl)) ?_
  refine W_v rfl rfl (V_ext (v := .int .i64 ((ckR l).1)) rfl (et rfl) rfl) ?_
  refine W_v rfl rfl (V_ext (v := .int .i64 ((ckR l).2)) rfl (es rfl (et rfl)) rfl) ?_
  refine W_v rfl rfl (V_asg rfl (es rfl (et rfl))) ?_
  refine W_v rfl rfl (V_asg rfl (es rfl (et rfl))) ?_
  refine W_end ?_
  refine gen_Q (fun A5 hA5 => ?_)
  have hsz5 : SzN A5 38 := by rw [hA5]; infer_instance
  have hdf5 : A5.defers = [] := by rw [hA5]; simp only [df_put]; exact hdf2
  have l0_5 := lookE hA5 0 (es rfl (es rfl (es rfl (es rfl (es rfl (es rfl (es rfl l0_2)))))))
  have l1_5 := lookE hA5 1 (es rfl (es rfl (es rfl (es rfl (es rfl (es rfl (es rfl l1_2)))))))
  have l6_5 := lookE hA5 6 (et rfl)
  clear hA5 hsz2 hdf2 l0_2 l1_2
  refine then_n (hK3 _ _ ?_)
  clear hK3
  refine wp_seq_k (fun K6 hK6 => ?_)
  refine wp_seq_k (fun K7 hK7 => ?_)
  -- region 2
  refine region_in ?_
  refine W_v rfl rfl (V_asg rfl rfl) ?_
  refine W_end ?_
  refine gen_Q (fun A8 hA8 => ?_)
  have hsz8 : SzN A8 38 := by rw [hA8]; infer_instance
  have hdf8 : A8.defers = [] := by rw [hA8]; simp only [df_put]; exact hdf5
  have l0_8 := lookE hA8 0 (es rfl l0_5)
  have l1_8 := lookE hA8 1 (es rfl l1_5)
  have l6_8 := lookE hA8 6 (es rfl l6_5)
  have l7_8 := lookE hA8 7 (et rfl)
  clear hA8 hsz5 hdf5 l0_5 l1_5 l6_5
  refine then_n (hK7 _ _ ?_)
  clear hK7
  refine wp_block ?_
  -- loop 3
  refine loopX (fun mz A' w' => SzN A' 38 ∧ A'.defers = [] ∧ (∃ (j : Nat) (e0 : Int), (mz = ns.length - j) ∧ (j ≤ ns.length) ∧ (e0 = if (ckR l).2 ≠ 0 then (ckR l).2 else if (ns.take j).all (inB l.length) then 0 else 10) ∧ (EV A' (.tmp 7) = .int .i64 (j : Int)) ∧ (EV A' (.tmp 6) = .int .i64 e0) ∧ (EV A' (.tmp 0) = EV A8 (.tmp 0)) ∧ (EV A' (.tmp 1) = EV A8 (.tmp 1)) ∧ (St w NoX [] w'))) (ns.length - 0) ⟨hsz8, hdf8, 0, (ckR l).2, rfl, (Nat.zero_le _), (as_init l ns), ((l7_8).trans (by first | rfl | (simp; done) | (congr 1; omega))), ((l6_8).trans (by first | rfl | (simp; done) | (congr 1; omega))), rfl, rfl, hS4⟩ ?_
  clear hS4
  rintro n9 A9 w9 ⟨hsz9, hdf9, j, e0, hm9, hj, he0, l7_9, l6_9, u0_9, u1_9, hS9⟩
  have l0_9 := u0_9.trans l0_8
  have l1_9 := u1_9.trans l1_8
  refine wp_seq_k (fun K10 hK10 => ?_)
  refine wp_seq_k (fun K11 hK11 => ?_)
  -- region 3
  refine region_in ?_
  refine W_v rfl rfl (V_mov rfl l7_9) ?_
  refine W_v rfl rfl (V_mov rfl (es rfl l1_9)) ?_
  refine W_v rfl rfl (V_lenS rfl (et rfl) (sl_SlN h_nv.at) Try.underlying22) ?_
  refine W_v rfl rfl (V_lss rfl (es rfl (es rfl (et rfl))) (et rfl)) ?_
  refine W_split rfl rfl (V_mov rfl (et rfl)) (fun c12 => ?_) (fun c12 => ?_)
  · skip
    refine W_v rfl (wanted_t rfl rfl (et rfl) (ez rfl)) (V_mov rfl (es rfl (es rfl (es rfl (es rfl (es rfl l6_9)))))) ?_
    refine W_v rfl (wanted_t rfl rfl (es rfl (et rfl)) (ez rfl)) (V_eql rfl (et rfl) rfl) ?_
    refine W_v rfl rfl (V_pickT rfl (es rfl (es rfl (et rfl))) (et rfl)) ?_
    refine W_end ?_
    refine gen_Q (fun A13 hA13 => ?_)
    have hsz13 : SzN A13 38 := by rw [hA13]; infer_instance
    have hdf13 : A13.defers = [] := by rw [hA13]; simp only [df_put]; exact hdf9
    have l0_13 := lookE hA13 0 (es rfl (es rfl (es rfl (es rfl (es rfl (es rfl (es rfl (es rfl l0_9))))))))
    have l1_13 := lookE hA13 1 (es rfl (es rfl (es rfl (es rfl (es rfl (es rfl (es rfl (es rfl l1_9))))))))
    have l6_13 := lookE hA13 6 (es rfl (es rfl (es rfl (es rfl (es rfl (es rfl (es rfl (es rfl l6_9))))))))
    have l7_13 := lookE hA13 7 (es rfl (es rfl (es rfl (es rfl (es rfl (es rfl (es rfl (es rfl l7_9))))))))
    have l18_13 := lookE hA13 18 (es rfl (es rfl (et rfl)))
    have l19_13 := lookE hA13 19 (es rfl (et rfl))
    have l20_13 := lookE hA13 20 (et rfl)
    clear hA13 hsz9 hdf9 l7_9 l6_9 l0_9 l1_9
    refine then_n (hK11 _ _ ?_)
    clear hK11
    refine cond_dec l20_13 (fun c14 => ?_) (fun c14 => ?_)
    · skip
      refine wp_skip ?_
      refine then_n (hK10 _ _ ?_)
      clear hK10
      refine wp_seq_k (fun K15 hK15 => ?_)
      refine wp_block ?_
      refine wp_seq_k (fun K16 hK16 => ?_)
      -- region 5
      refine region_in ?_
      refine W_v rfl rfl (V_mov rfl l1_13) ?_
      refine W_v rfl rfl (V_mov rfl (es rfl l7_13)) ?_
      have k17 : j < ns.length := by first | omega | (simp only [List.length_cons, List.length_nil]; omega)
      obtain ⟨y17, hy17⟩ := get_some (xs := ns) (k := j) k17
      obtain ⟨B17, O17, C17, hv17⟩ := (SlN.blk (sl_SlN h_nv.at) (by first | omega | (simp only [List.length_cons, List.length_nil]; omega)))
      refine W_v rfl rfl (V_ixS (off := O17 + j) 1 (j) rfl (es rfl (et rfl)) (et rfl) hv17 (by omega) k17 Try.underlying22 (by kernel_rfl) (congrArg _ (Nat.mul_one _))) ?_
      refine W_r rfl rfl (VR_ldC rfl (et rfl) ((sl_SlN (hS9.ro h_nv)).cell hv17 (map_get hy17)) Try.underlying3 rfl) ?_
      refine W_v rfl rfl (V_lss rfl (et rfl) rfl) ?_
      refine W_split rfl rfl (V_mov rfl (et rfl)) (fun c18 => ?_) (fun c18 => ?_)
      · skip
        refine W_off rfl (wanted_f rfl rfl (et rfl) (ez rfl) rfl) ?_
        refine W_off rfl (wanted_f rfl rfl (es rfl (et rfl)) (ez rfl) rfl) ?_
        refine W_off rfl (wanted_f rfl rfl (es rfl (es rfl (et rfl))) (ez rfl) rfl) ?_
        refine W_off rfl (wanted_f rfl rfl (es rfl (es rfl (es rfl (et rfl)))) (ez rfl) rfl) ?_
        refine W_off rfl (wanted_f rfl rfl (es rfl (es rfl (es rfl (es rfl (et rfl))))) (ez rfl) rfl) ?_
        refine W_off rfl (wanted_f rfl rfl (es rfl (es rfl (es rfl (es rfl (es rfl (et rfl)))))) (ez rfl) rfl) ?_
        refine W_off rfl (wanted_f rfl rfl (es rfl (es rfl (es rfl (es rfl (es rfl (es rfl (et rfl))))))) (ez rfl) rfl) ?_
        refine W_v rfl rfl (V_pickT rfl (es rfl (es rfl (es rfl (es rfl (es rfl (es rfl (es rfl (et rfl)))))))) rfl) ?_
        refine W_end ?_
        refine gen_Q (fun A19 hA19 => ?_)
        have hsz19 : SzN A19 38 := by rw [hA19]; infer_instance
        have hdf19 : A19.defers = [] := by rw [hA19]; simp only [df_put]; exact hdf13
        have l0_19 := lookE hA19 0 (es rfl (es rfl (es rfl (es rfl (es rfl (es rfl (es rfl (es rfl (es rfl (es rfl (es rfl (es rfl (es rfl (es rfl l0_13))))))))))))))
        have l1_19 := lookE hA19 1 (es rfl (es rfl (es rfl (es rfl (es rfl (es rfl (es rfl (es rfl (es rfl (es rfl (es rfl (es rfl (es rfl (es rfl l1_13))))))))))))))
        have l6_19 := lookE hA19 6 (es rfl (es rfl (es rfl (es rfl (es rfl (es rfl (es rfl (es rfl (es rfl (es rfl (es rfl (es rfl (es rfl (es rfl l6_13))))))))))))))
        have l7_19 := lookE hA19 7 (es rfl (es rfl (es rfl (es rfl (es rfl (es rfl (es rfl (es rfl (es rfl (es rfl (es rfl (es rfl (es rfl (es rfl l7_13))))))))))))))
        have l18_19 := lookE hA19 18 (es rfl (es rfl (es rfl (es rfl (es rfl (es rfl (es rfl (es rfl (es rfl (es rfl (es rfl (es rfl (es rfl (es rfl l18_13))))))))))))))
        have l19_19 := lookE hA19 19 (es rfl (es rfl (es rfl (es rfl (es rfl (es rfl (es rfl (es rfl (es rfl (es rfl (es rfl (es rfl (es rfl (es rfl l19_13))))))))))))))
        have l29_19 := lookE hA19 29 (es rfl (es rfl (es rfl (es rfl (es rfl (es rfl (es rfl (et rfl))))))))
        have l30_19 := lookE hA19 30 (es rfl (es rfl (es rfl (es rfl (es rfl (es rfl (et rfl)))))))
        have l31_19 := lookE hA19 31 (es rfl (es rfl (es rfl (es rfl (es rfl (et rfl))))))
        have l32_19 := lookE hA19 32 (es rfl (es rfl (es rfl (es rfl (et rfl)))))
        have l33_19 := lookE hA19 33 (es rfl (es rfl (es rfl (et rfl))))
        have l34_19 := lookE hA19 34 (es rfl (es rfl (et rfl)))
        have l35_19 := lookE hA19 35 (es rfl (et rfl))
        have l36_19 := lookE hA19 36 (et rfl)
        clear hA19 hsz13 hdf13 l0_13 l1_13 l6_13 l7_13 l18_13 l19_13 l20_13
        refine then_n (hK16 _ _ ?_)
        clear hK16
        refine cond_t l36_19 ?_
        -- region 6
        refine region_in ?_
        refine W_v rfl rfl (V_asg rfl rfl) ?_
        refine W_end ?_
        refine gen_Q (fun A20 hA20 => ?_)
        have hsz20 : SzN A20 38 := by rw [hA20]; infer_instance
        have hdf20 : A20.defers = [] := by rw [hA20]; simp only [df_put]; exact hdf19
        have l0_20 := lookE hA20 0 (es rfl l0_19)
        have l1_20 := lookE hA20 1 (es rfl l1_19)
        have l6_20 := lookE hA20 6 (et rfl)
        have l7_20 := lookE hA20 7 (es rfl l7_19)
        have l18_20 := lookE hA20 18 (es rfl l18_19)
        have l19_20 := lookE hA20 19 (es rfl l19_19)
        have l29_20 := lookE hA20 29 (es rfl l29_19)
        have l30_20 := lookE hA20 30 (es rfl l30_19)
        have l31_20 := lookE hA20 31 (es rfl l31_19)
        have l32_20 := lookE hA20 32 (es rfl l32_19)
        have l33_20 := lookE hA20 33 (es rfl l33_19)
        have l34_20 := lookE hA20 34 (es rfl l34_19)
        have l35_20 := lookE hA20 35 (es rfl l35_19)
        clear hA20 hsz19 hdf19 l0_19 l1_19 l6_19 l7_19 l18_19 l19_19 l29_19 l30_19 l31_19 l32_19 l33_19 l34_19 l35_19 l36_19
        refine inb_n ?_
        refine then_n (hK15 _ _ ?_)
        clear hK15
        -- region 4
        refine region_in ?_
        refine W_v rfl rfl (V_mov rfl l7_20) ?_
        refine W_v rfl rfl (V_add rfl (et rfl) rfl (by omega) (by omega)) ?_
        refine W_v rfl rfl (V_asg rfl (et rfl)) ?_
        refine W_end ?_
        refine gen_Q (fun A21 hA21 => ?_)
        have hsz21 : SzN A21 38 := by rw [hA21]; infer_instance
        have hdf21 : A21.defers = [] := by rw [hA21]; simp only [df_put]; exact hdf20
        have l0_21 := lookE hA21 0 (es rfl (es rfl (es rfl l0_20)))
        have l1_21 := lookE hA21 1 (es rfl (es rfl (es rfl l1_20)))
        have l6_21 := lookE hA21 6 (es rfl (es rfl (es rfl l6_20)))
        have l7_21 := lookE hA21 7 (et rfl)
        have l18_21 := lookE hA21 18 (es rfl (es rfl (es rfl l18_20)))
        have l19_21 := lookE hA21 19 (es rfl (es rfl (es rfl l19_20)))
        have l29_21 := lookE hA21 29 (es rfl (es rfl (es rfl l29_20)))
        have l30_21 := lookE hA21 30 (es rfl (es rfl (es rfl l30_20)))
        have l31_21 := lookE hA21 31 (es rfl (es rfl (es rfl l31_20)))
        have l32_21 := lookE hA21 32 (es rfl (es rfl (es rfl l32_20)))
        have l33_21 := lookE hA21 33 (es rfl (es rfl (es rfl l33_20)))
        have l34_21 := lookE hA21 34 (es rfl (es rfl (es rfl l34_20)))
        have l35_21 := lookE hA21 35 (es rfl (es rfl (es rfl l35_20)))
        clear hA21 hsz20 hdf20 l0_20 l1_20 l6_20 l7_20 l18_20 l19_20 l29_20 l30_20 l31_20 l32_20 l33_20 l34_20 l35_20
        refine then_n ⟨ns.length - (j + 1), by simp only [hm9]; omega, hsz21, hdf21, (j + 1), 10, rfl, (by omega), (as_step he0 (by assumption) hy17 _ (fun h => by first | rfl | omega) (fun h => by first | omega | rfl)), ((l7_21).trans (by first | rfl | (simp; done) | (congr 1; omega))), ((l6_21).trans (by first | rfl | (simp; done) | (congr 1; omega))), ((l0_21).trans l0_8.symm), ((l1_21).trans l1_8.symm), hS9⟩
      · skip
        refine W_v rfl (wanted_t rfl rfl (et rfl) (ez rfl)) (V_mov rfl (es rfl (es rfl (es rfl (es rfl (es rfl (es rfl l1_13))))))) ?_
        refine W_v rfl (wanted_t rfl rfl (es rfl (et rfl)) (ez rfl)) (V_mov rfl (es rfl (es rfl (es rfl (es rfl (es rfl (es rfl (es rfl l7_13)))))))) ?_
        refine W_v rfl (wanted_t rfl rfl (es rfl (es rfl (et rfl))) (ez rfl)) (V_ixS (off := O17 + j) 1 (j) rfl (es rfl (et rfl)) (et rfl) hv17 (by omega) k17 Try.underlying22 (by kernel_rfl) (congrArg _ (Nat.mul_one _))) ?_
        refine W_r rfl (wanted_t rfl rfl (es rfl (es rfl (es rfl (et rfl)))) (ez rfl)) (VR_ldC rfl (et rfl) ((sl_SlN (hS9.ro h_nv)).cell hv17 (map_get hy17)) Try.underlying3 rfl) ?_
        refine W_v rfl (wanted_t rfl rfl (es rfl (es rfl (es rfl (es rfl (et rfl))))) (ez rfl)) (V_mov rfl (es rfl (es rfl (es rfl (es rfl (es rfl (es rfl (es rfl (es rfl (es rfl (es rfl l0_13))))))))))) ?_
        refine W_v rfl (wanted_t rfl rfl (es rfl (es rfl (es rfl (es rfl (es rfl (et rfl)))))) (ez rfl)) (V_lenS rfl (et rfl) (sl_SlN h_rv.at) Try.underlying22) ?_
        refine W_v rfl (wanted_t rfl rfl (es rfl (es rfl (es rfl (es rfl (es rfl (es rfl (et rfl))))))) (ez rfl)) (V_geq rfl (es rfl (es rfl (et rfl))) (et rfl)) ?_
        refine W_v rfl rfl (V_pickF rfl (es rfl (es rfl (es rfl (es rfl (es rfl (es rfl (es rfl (et rfl)))))))) (et rfl)) ?_
        refine W_end ?_
        refine gen_Q (fun A23 hA23 => ?_)
        have hsz23 : SzN A23 38 := by rw [hA23]; infer_instance
        have hdf23 : A23.defers = [] := by rw [hA23]; simp only [df_put]; exact hdf13
        have l0_23 := lookE hA23 0 (es rfl (es rfl (es rfl (es rfl (es rfl (es rfl (es rfl (es rfl (es rfl (es rfl (es rfl (es rfl (es rfl (es rfl l0_13))))))))))))))
        have l1_23 := lookE hA23 1 (es rfl (es rfl (es rfl (es rfl (es rfl (es rfl (es rfl (es rfl (es rfl (es rfl (es rfl (es rfl (es rfl (es rfl l1_13))))))))))))))
        have l6_23 := lookE hA23 6 (es rfl (es rfl (es rfl (es rfl (es rfl (es rfl (es rfl (es rfl (es rfl (es rfl (es rfl (es rfl (es rfl (es rfl l6_13))))))))))))))
        have l7_23 := lookE hA23 7 (es rfl (es rfl (es rfl (es rfl (es rfl (es rfl (es rfl (es rfl (es rfl (es rfl (es rfl (es rfl (es rfl (es rfl l7_13))))))))))))))
        have l18_23 := lookE hA23 18 (es rfl (es rfl (es rfl (es rfl (es rfl (es rfl (es rfl (es rfl (es rfl (es rfl (es rfl (es rfl (es rfl (es rfl l18_13))))))))))))))
        have l19_23 := lookE hA23 19 (es rfl (es rfl (es rfl (es rfl (es rfl (es rfl (es rfl (es rfl (es rfl (es rfl (es rfl (es rfl (es rfl (es rfl l19_13))))))))))))))
        have l29_23 := lookE hA23 29 (es rfl (es rfl (es rfl (es rfl (es rfl (es rfl (es rfl (et rfl))))))))
        have l30_23 := lookE hA23 30 (es rfl (es rfl (es rfl (es rfl (es rfl (es rfl (et rfl)))))))
        have l31_23 := lookE hA23 31 (es rfl (es rfl (es rfl (es rfl (es rfl (et rfl))))))
        have l32_23 := lookE hA23 32 (es rfl (es rfl (es rfl (es rfl (et rfl)))))
        have l33_23 := lookE hA23 33 (es rfl (es rfl (es rfl (et rfl))))
        have l34_23 := lookE hA23 34 (es rfl (es rfl (et rfl)))
        have l35_23 := lookE hA23 35 (es rfl (et rfl))
        have l36_23 := lookE hA23 36 (et rfl)
        clear hA23 hsz13 hdf13 l0_13 l1_13 l6_13 l7_13 l18_13 l19_13 l20_13
        refine then_n (hK16 _ _ ?_)
        clear hK16
        refine cond_dec l36_23 (fun c24 => ?_) (fun c24 => ?_)
        · skip
          -- region 6
          refine region_in ?_
          refine W_v rfl rfl (V_asg rfl rfl) ?_
          refine W_end ?_
          refine gen_Q (fun A25 hA25 => ?_)
          have hsz25 : SzN A25 38 := by rw [hA25]; infer_instance
          have hdf25 : A25.defers = [] := by rw [hA25]; simp only [df_put]; exact hdf23
          have l0_25 := lookE hA25 0 (es rfl l0_23)
          have l1_25 := lookE hA25 1 (es rfl l1_23)
          have l6_25 := lookE hA25 6 (et rfl)
          have l7_25 := lookE hA25 7 (es rfl l7_23)
          have l18_25 := lookE hA25 18 (es rfl l18_23)
          have l19_25 := lookE hA25 19 (es rfl l19_23)
          have l29_25 := lookE hA25 29 (es rfl l29_23)
          have l30_25 := lookE hA25 30 (es rfl l30_23)
          have l31_25 := lookE hA25 31 (es rfl l31_23)
          have l32_25 := lookE hA25 32 (es rfl l32_23)
          have l33_25 := lookE hA25 33 (es rfl l33_23)
          have l34_25 := lookE hA25 34 (es rfl l34_23)
          have l35_25 := lookE hA25 35 (es rfl l35_23)
          clear hA25 hsz23 hdf23 l0_23 l1_23 l6_23 l7_23 l18_23 l19_23 l29_23 l30_23 l31_23 l32_23 l33_23 l34_23 l35_23 l36_23
          refine inb_n ?_
          refine then_n (hK15 _ _ ?_)
          clear hK15
          -- region 4
          refine region_in ?_
          refine W_v rfl rfl (V_mov rfl l7_25) ?_
          refine W_v rfl rfl (V_add rfl (et rfl) rfl (by omega) (by omega)) ?_
          refine W_v rfl rfl (V_asg rfl (et rfl)) ?_
          refine W_end ?_
          refine gen_Q (fun A26 hA26 => ?_)
          have hsz26 : SzN A26 38 := by rw [hA26]; infer_instance
          have hdf26 : A26.defers = [] := by rw [hA26]; simp only [df_put]; exact hdf25
          have l0_26 := lookE hA26 0 (es rfl (es rfl (es rfl l0_25)))
          have l1_26 := lookE hA26 1 (es rfl (es rfl (es rfl l1_25)))
          have l6_26 := lookE hA26 6 (es rfl (es rfl (es rfl l6_25)))
          have l7_26 := lookE hA26 7 (et rfl)
          have l18_26 := lookE hA26 18 (es rfl (es rfl (es rfl l18_25)))
          have l19_26 := lookE hA26 19 (es rfl (es rfl (es rfl l19_25)))
          have l29_26 := lookE hA26 29 (es rfl (es rfl (es rfl l29_25)))
          have l30_26 := lookE hA26 30 (es rfl (es rfl (es rfl l30_25)))
          have l31_26 := lookE hA26 31 (es rfl (es rfl (es rfl l31_25)))
          have l32_26 := lookE hA26 32 (es rfl (es rfl (es rfl l32_25)))
          have l33_26 := lookE hA26 33 (es rfl (es rfl (es rfl l33_25)))
          have l34_26 := lookE hA26 34 (es rfl (es rfl (es rfl l34_25)))
          have l35_26 := lookE hA26 35 (es rfl (es rfl (es rfl l35_25)))
          clear hA26 hsz25 hdf25 l0_25 l1_25 l6_25 l7_25 l18_25 l19_25 l29_25 l30_25 l31_25 l32_25 l33_25 l34_25 l35_25
          refine then_n ⟨ns.length - (j + 1), by simp only [hm9]; omega, hsz26, hdf26, (j + 1), 10, rfl, (by omega), (as_step he0 (by assumption) hy17 _ (fun h => by first | rfl | omega) (fun h => by first | omega | rfl)), ((l7_26).trans (by first | rfl | (simp; done) | (congr 1; omega))), ((l6_26).trans (by first | rfl | (simp; done) | (congr 1; omega))), ((l0_26).trans l0_8.symm), ((l1_26).trans l1_8.symm), hS9⟩
        · skip
          refine wp_skip ?_
          refine inb_n ?_
          refine then_n (hK15 _ _ ?_)
          clear hK15
          -- region 4
          refine region_in ?_
          refine W_v rfl rfl (V_mov rfl l7_23) ?_
          refine W_v rfl rfl (V_add rfl (et rfl) rfl (by omega) (by omega)) ?_
          refine W_v rfl rfl (V_asg rfl (et rfl)) ?_
          refine W_end ?_
          refine gen_Q (fun A27 hA27 => ?_)
          have hsz27 : SzN A27 38 := by rw [hA27]; infer_instance
          have hdf27 : A27.defers = [] := by rw [hA27]; simp only [df_put]; exact hdf23
          have l0_27 := lookE hA27 0 (es rfl (es rfl (es rfl l0_23)))
          have l1_27 := lookE hA27 1 (es rfl (es rfl (es rfl l1_23)))
          have l6_27 := lookE hA27 6 (es rfl (es rfl (es rfl l6_23)))
          have l7_27 := lookE hA27 7 (et rfl)
          have l18_27 := lookE hA27 18 (es rfl (es rfl (es rfl l18_23)))
          have l19_27 := lookE hA27 19 (es rfl (es rfl (es rfl l19_23)))
          have l29_27 := lookE hA27 29 (es rfl (es rfl (es rfl l29_23)))
          have l30_27 := lookE hA27 30 (es rfl (es rfl (es rfl l30_23)))
          have l31_27 := lookE hA27 31 (es rfl (es rfl (es rfl l31_23)))
          have l32_27 := lookE hA27 32 (es rfl (es rfl (es rfl l32_23)))
          have l33_27 := lookE hA27 33 (es rfl (es rfl (es rfl l33_23)))
          have l34_27 := lookE hA27 34 (es rfl (es rfl (es rfl l34_23)))
          have l35_27 := lookE hA27 35 (es rfl (es rfl (es rfl l35_23)))
          clear hA27 hsz23 hdf23 l0_23 l1_23 l6_23 l7_23 l18_23 l19_23 l29_23 l30_23 l31_23 l32_23 l33_23 l34_23 l35_23 l36_23
          refine then_n ⟨ns.length - (j + 1), by simp only [hm9]; omega, hsz27, hdf27, (j + 1), e0, rfl, (by omega), (as_step he0 (by assumption) hy17 _ (fun h => by first | rfl | omega) (fun h => by first | omega | rfl)), ((l7_27).trans (by first | rfl | (simp; done) | (congr 1; omega))), ((l6_27).trans (by first | rfl | (simp; done) | (congr 1; omega))), ((l0_27).trans l0_8.symm), ((l1_27).trans l1_8.symm), hS9⟩
    · skip
      refine wp_exit ?_
      refine then_exit ?_
      refine then_exit ?_
      refine inb_hit ?_
      refine then_n (hK6 _ _ ?_)
      clear hK6
      refine wp_seq_k (fun K28 hK28 => ?_)
      -- region 7
      refine region_in ?_
      refine W_v rfl rfl (V_mov rfl l6_13) ?_
      refine W_v rfl rfl (V_asg rfl (et rfl)) ?_
      refine W_end ?_
      refine gen_Q (fun A29 hA29 => ?_)
      have hsz29 : SzN A29 38 := by rw [hA29]; infer_instance
      have hdf29 : A29.defers = [] := by rw [hA29]; simp only [df_put]; exact hdf13
      have l4_29 := lookE hA29 4 (et rfl)
      clear hA29 hsz13 hdf13 l0_13 l1_13 l6_13 l7_13 l18_13 l19_13 l20_13
      refine then_n (hK28 _ _ ?_)
      clear hK28
      refine wp_ret ?_
      refine ret_in (results_1 Try.results41 (rv_tmp l4_29)) hdf29 ?_
      -- leaf TF
      have h := as_done he0 (by omega) hj
      rw [← h]
      exact ⟨rfl, hS9.fin0⟩
  · skip
    refine W_off rfl (wanted_f rfl rfl (et rfl) (ez rfl) rfl) ?_
    refine W_off rfl (wanted_f rfl rfl (es rfl (et rfl)) (ez rfl) rfl) ?_
    refine W_v rfl rfl (V_pickF rfl (es rfl (es rfl (et rfl))) rfl) ?_
    refine W_end ?_
    refine gen_Q (fun A30 hA30 => ?_)
    have hsz30 : SzN A30 38 := by rw [hA30]; infer_instance
    have hdf30 : A30.defers = [] := by rw [hA30]; simp only [df_put]; exact hdf9
    have l0_30 := lookE hA30 0 (es rfl (es rfl (es rfl (es rfl (es rfl (es rfl (es rfl (es rfl l0_9))))))))
    have l1_30 := lookE hA30 1 (es rfl (es rfl (es rfl (es rfl (es rfl (es rfl (es rfl (es rfl l1_9))))))))
    have l6_30 := lookE hA30 6 (es rfl (es rfl (es rfl (es rfl (es rfl (es rfl (es rfl (es rfl l6_9))))))))
    have l7_30 := lookE hA30 7 (es rfl (es rfl (es rfl (es rfl (es rfl (es rfl (es rfl (es rfl l7_9))))))))
    have l18_30 := lookE hA30 18 (es rfl (es rfl (et rfl)))
    have l19_30 := lookE hA30 19 (es rfl (et rfl))
    have l20_30 := lookE hA30 20 (et rfl)
    clear hA30 hsz9 hdf9 l7_9 l6_9 l0_9 l1_9
    refine then_n (hK11 _ _ ?_)
    clear hK11
    refine cond_f l20_30 ?_
    refine wp_exit ?_
    refine then_exit ?_
    refine then_exit ?_
    refine inb_hit ?_
    refine then_n (hK6 _ _ ?_)
    clear hK6
    refine wp_seq_k (fun K31 hK31 => ?_)
    -- region 7
    refine region_in ?_
    refine W_v rfl rfl (V_mov rfl l6_30) ?_
    refine W_v rfl rfl (V_asg rfl (et rfl)) ?_
    refine W_end ?_
    refine gen_Q (fun A32 hA32 => ?_)
    have hsz32 : SzN A32 38 := by rw [hA32]; infer_instance
    have hdf32 : A32.defers = [] := by rw [hA32]; simp only [df_put]; exact hdf30
    have l4_32 := lookE hA32 4 (et rfl)
    clear hA32 hsz30 hdf30 l0_30 l1_30 l6_30 l7_30 l18_30 l19_30 l20_30
    refine then_n (hK31 _ _ ?_)
    clear hK31
    refine wp_ret ?_
    refine ret_in (results_1 Try.results41 (rv_tmp l4_32)) hdf32 ?_
    -- leaf F
    have h := as_done he0 (by omega) hj
    rw [← h]
    exact ⟨rfl, hS9.fin0⟩

set_option maxHeartbeats 4000000 in
theorem qwi_c {rv : Value} {l : List Int} {a : Int} {x : Int} {w : World} (h_rv : Ro w NoX (il .i64 rv l)) (ha0 : 0 ≤ a) (ha1 : a < (l.length : Int)) (h8 : l.length ≤ 1000) :
    Calls Try.prog 42 #[rv, .int .i64 a, .int .i64 x] w fun e w' => ∃ v, e = .returned (v) ∧ St w NoX [io .i64 (v) (l.set a.toNat x)] w' := by
  refine calls_in 16 Try.func42 rfl rfl (by simp) (fun A0 hsz0 hdf0 hargs => ?_)
  have l0_0 := hargs 0 (rv) rfl
  have l1_0 := hargs 1 (.int .i64 a) rfl
  have l2_0 := hargs 2 (.int .i64 x) rfl
  clear hargs; replace hsz0 : SzN A0 16 := ⟨hsz0⟩
  have hS := St.nil w
  have bh_rv := SlN.le (sl_SlN h_rv.at)
  refine wp_seq_k (fun K1 hK1 => ?_)
  -- region 0
  refine region_in ?_
  refine W_v rfl rfl (V_asg rfl rfl) ?_
  refine W_end ?_
  refine gen_Q (fun A2 hA2 => ?_)
  have hsz2 : SzN A2 16 := by rw [hA2]; infer_instance
  have hdf2 : A2.defers = [] := by rw [hA2]; simp only [df_put]; exact hdf0
  have l0_2 := lookE hA2 0 (es rfl l0_0)
  have l1_2 := lookE hA2 1 (es rfl l1_0)
  have l2_2 := lookE hA2 2 (es rfl l2_0)
  clear hA2 hsz0 hdf0 l0_0 l1_0 l2_0
  refine then_n (hK1 _ _ ?_)
  clear hK1
  refine wp_seq_k (fun K3 hK3 => ?_)
  -- region 1
  refine region_in ?_
  refine W_litS (vs := []) (xs := []) 1 hS rfl rfl rfl (parts0) rfl Try.underlying22 (by kernel_rfl) (by decide) (by intro v hv; cases hv) (by rfl) (fun g4 w4 c4 hc4 hS4 => ?_)
  replace hc4 : c4 = io .i64 (.slice (some ⟨g4, 0, none⟩) 0 0) [] := hc4
  replace hS4 : St w NoX [c4] w4 := hS4
  refine W_v rfl rfl (V_mov rfl (es rfl l0_2)) ?_
  refine W_appS 1 0 hS4 rfl hc4 rfl rfl rfl (es rfl (et rfl)) (et rfl) Try.underlying22 Try.underlying22 (z := .int .i64 0) (bytes := 8) (by kernel_rfl) rfl (by decide) (sl_SlN (hS4.ro h_rv)) ones_i (by first | omega | (simp; done) | (simp; omega)) (by first | omega | (simp; done) | (simp; omega)) (fun v5 w5 c5 hc5 hS5 => ?_)
  replace hc5 : c5 = io .i64 v5 l := hc5.trans (app_eq (by simp))
  replace hS5 : St w NoX [c5] w5 := hS5
  refine W_v rfl rfl (V_asg rfl (et rfl)) ?_
  refine W_end ?_
  refine gen_Q (fun A6 hA6 => ?_)
  have hsz6 : SzN A6 16 := by rw [hA6]; infer_instance
  have hdf6 : A6.defers = [] := by rw [hA6]; simp only [df_put]; exact hdf2
  have l1_6 := lookE hA6 1 (es rfl (es rfl (es rfl (es rfl l1_2))))
  have l2_6 := lookE hA6 2 (es rfl (es rfl (es rfl (es rfl l2_2))))
  have l7_6 := lookE hA6 7 (et rfl)
  clear hA6 hsz2 hdf2 l0_2 l1_2 l2_2
  refine then_n (hK3 _ _ ?_)
  clear hK3
  refine wp_seq_k (fun K7 hK7 => ?_)
  -- region 2
  refine region_in ?_
  refine W_v rfl rfl (V_mov rfl l7_6) ?_
  refine W_v rfl rfl (V_mov rfl (es rfl l1_6)) ?_
  refine W_v rfl rfl (V_mov rfl (es rfl (es rfl l2_6))) ?_
  have k8 : a.toNat < l.length := by first | omega | (simp only [List.length_cons, List.length_nil]; omega)
  obtain ⟨y8, hy8⟩ := get_some (xs := l) (k := a.toNat) k8
  obtain ⟨B8, O8, C8, hv8⟩ := (SlN.blk (ow_at (hS5.chq 0 rfl hc5)) (by first | omega | (simp only [List.length_cons, List.length_nil]; omega)))
  refine W_v rfl rfl (V_ixS (off := O8 + a.toNat) 1 (a.toNat) rfl (es rfl (es rfl (et rfl))) (es rfl (et rfl)) hv8 (by omega) k8 Try.underlying22 (by kernel_rfl) (congrArg _ (Nat.mul_one _))) ?_
  refine W_stE 0 hS5 rfl hc5 hv8 rfl rfl rfl (et rfl) (es rfl (et rfl)) (by rfl) rfl (by first | (simp only [List.length_map]; omega) | omega) (by kernel_rfl) (fun w9 c9 hc9 hS9 => ?_)
  replace hc9 : c9 = io .i64 v5 (l.set a.toNat x) := hc9.trans (by simp [io, bo, List.map_set] <;> rfl)
  replace hS9 : St w NoX [c9] w9 := hS9
  refine W_end ?_
  refine gen_Q (fun A10 hA10 => ?_)
  have hsz10 : SzN A10 16 := by rw [hA10]; infer_instance
  have hdf10 : A10.defers = [] := by rw [hA10]; simp only [df_put]; exact hdf6
  have l7_10 := lookE hA10 7 (es rfl (es rfl (es rfl (es rfl l7_6))))
  clear hA10 hsz6 hdf6 l1_6 l2_6 l7_6
  refine then_n (hK7 _ _ ?_)
  clear hK7
  refine wp_seq_k (fun K11 hK11 => ?_)
  -- region 3
  refine region_in ?_
  refine W_v rfl rfl (V_mov rfl l7_10) ?_
  refine W_v rfl rfl (V_asg rfl (et rfl)) ?_
  refine W_end ?_
  refine gen_Q (fun A12 hA12 => ?_)
  have hsz12 : SzN A12 16 := by rw [hA12]; infer_instance
  have hdf12 : A12.defers = [] := by rw [hA12]; simp only [df_put]; exact hdf10
  have l6_12 := lookE hA12 6 (et rfl)
  clear hA12 hsz10 hdf10 l7_10
  refine then_n (hK11 _ _ ?_)
  clear hK11
  refine wp_ret ?_
  refine ret_in (results_1 Try.results42 (rv_tmp l6_12)) hdf12 ?_
  -- leaf 
  exact ⟨_, rfl, (hS9.fin1 0 rfl (hc9))⟩

set_option maxHeartbeats 4000000 in
theorem qGt_c {rv : Value} {l : List Int} {a : Int} {w : World} (h_rv : Ro w NoX (il .i64 rv l))  :
    Calls Try.prog 28 #[rv, .int .i64 a] w fun e w' => e = .returned (.tuple #[.int .i64 (gtN l a), .int .i64 (nmE l [a])]) ∧ St w NoX [] w' := by
  refine calls_in 18 Try.func28 rfl rfl (by simp) (fun A0 hsz0 hdf0 hargs => ?_)
  have l0_0 := hargs 0 (rv) rfl
  have l1_0 := hargs 1 (.int .i64 a) rfl
  clear hargs; replace hsz0 : SzN A0 18 := ⟨hsz0⟩
  have hS := St.nil w
  have bh_rv := SlN.le (sl_SlN h_rv.at)
  refine wp_seq_k (fun K1 hK1 => ?_)
  -- region 0
  refine region_in ?_
  refine W_v rfl rfl (V_asg rfl rfl) ?_
  refine W_v rfl rfl (V_asg rfl rfl) ?_
  refine W_end ?_
  refine gen_Q (fun A2 hA2 => ?_)
  have hsz2 : SzN A2 18 := by rw [hA2]; infer_instance
  have hdf2 : A2.defers = [] := by rw [hA2]; simp only [df_put]; exact hdf0
  have l0_2 := lookE hA2 0 (es rfl (es rfl l0_0))
  have l1_2 := lookE hA2 1 (es rfl (es rfl l1_0))
  clear hA2 hsz0 hdf0 l0_0 l1_0
  refine then_n (hK1 _ _ ?_)
  clear hK1
  refine wp_seq_k (fun K3 hK3 => ?_)
  -- region 1
  refine region_in ?_
  refine W_v rfl rfl (V_mov rfl l0_2) ?_
  refine W_v rfl rfl (V_mov rfl (es rfl l1_2)) ?_
  have hll4 : [a].length = 1 := rfl
  refine W_litS (vs := [.int .i64 (a)]) (xs := ([a].map (Value.int .i64))) 1 hS rfl rfl rfl (parts1 (et rfl)) rfl Try.underlying22 (by kernel_rfl) (by decide) (by intro v hv; simp only [List.mem_cons, List.not_mem_nil, or_false] at hv; rcases hv with rfl <;> rfl) (by rfl) (fun g4 w4 c4 hc4 hS4 => ?_)
  replace hc4 : c4 = io .i64 (.slice (some ⟨g4, 0, none⟩) 1 1) [a] := hc4
  replace hS4 : St w NoX [c4] w4 := hS4
  refine W_call rfl rfl rfl Try.func41 (by kernel_rfl) rfl (args2 (es rfl (es rfl (et rfl))) (et rfl)) (qas_c (hS4.roC h_rv) (hS4.chC 0 rfl hc4).own ) ?_
  rintro _ w5 ⟨rfl, hP5⟩
  refine ⟨_, rfl, ?_⟩
  have hS5 := hS4.join hP5
  replace hS5 : St w NoX [c4] w5 := hS5
  refine W_v rfl rfl (V_asg rfl (et rfl)) ?_
  refine W_end ?_
  refine gen_Q (fun A6 hA6 => ?_)
  have hsz6 : SzN A6 18 := by rw [hA6]; infer_instance
  have hdf6 : A6.defers = [] := by rw [hA6]; simp only [df_put]; exact hdf2
  have l0_6 := lookE hA6 0 (es rfl (es rfl (es rfl (es rfl (es rfl l0_2)))))
  have l1_6 := lookE hA6 1 (es rfl (es rfl (es rfl (es rfl (es rfl l1_2)))))
  have l6_6 := lookE hA6 6 (et rfl)
  clear hA6 hsz2 hdf2 l0_2 l1_2
  have hS7 : St w NoX [] w5 := hS5.sel [] (by decide) rfl
  refine then_n (hK3 _ _ ?_)
  clear hK3
  refine wp_seq_k (fun K8 hK8 => ?_)
  refine wp_seq_k (fun K9 hK9 => ?_)
  -- region 2
  refine region_in ?_
  refine W_v rfl rfl (V_mov rfl l6_6) ?_
  refine W_v rfl rfl (V_neq rfl (et rfl) rfl) ?_
  refine W_end ?_
  refine gen_Q (fun A10 hA10 => ?_)
  have hsz10 : SzN A10 18 := by rw [hA10]; infer_instance
  have hdf10 : A10.defers = [] := by rw [hA10]; simp only [df_put]; exact hdf6
  have l0_10 := lookE hA10 0 (es rfl (es rfl l0_6))
  have l1_10 := lookE hA10 1 (es rfl (es rfl l1_6))
  have l6_10 := lookE hA10 6 (es rfl (es rfl l6_6))
  have l12_10 := lookE hA10 12 (et rfl)
  clear hA10 hsz6 hdf6 l0_6 l1_6 l6_6
  refine then_n (hK9 _ _ ?_)
  clear hK9
  refine cond_dec l12_10 (fun c11 => ?_) (fun c11 => ?_)
  · skip
    refine wp_seq_k (fun K12 hK12 => ?_)
    -- region 3
    refine region_in ?_
    refine W_v rfl rfl (V_mov rfl l6_10) ?_
    refine W_v rfl rfl (V_asg rfl rfl) ?_
    refine W_v rfl rfl (V_asg rfl (es rfl (et rfl))) ?_
    refine W_end ?_
    refine gen_Q (fun A13 hA13 => ?_)
    have hsz13 : SzN A13 18 := by rw [hA13]; infer_instance
    have hdf13 : A13.defers = [] := by rw [hA13]; simp only [df_put]; exact hdf10
    have l4_13 := lookE hA13 4 (es rfl (et rfl))
    have l5_13 := lookE hA13 5 (et rfl)
    clear hA13 hsz10 hdf10 l0_10 l1_10 l6_10 l12_10
    refine then_n (hK12 _ _ ?_)
    clear hK12
    refine wp_ret ?_
    refine then_ret ?_
    refine ret_in (results_2 Try.results28 (rv_tmp l4_13) (rv_tmp l5_13)) hdf13 ?_
    -- leaf T
    have h := gtN_err (l := l) (a := a) c11
    rw [h]
    exact ⟨rfl, hS7.fin0⟩
  · skip
    have hE : nmE l [a] = 0 := by simpa using c11
    obtain ⟨hck, hin⟩ := nmE_good hE
    obtain ⟨hl1, hl8, hin0⟩ := ckR_good hck
    have ha := hin a (by simp)
    refine wp_skip ?_
    refine then_n (hK8 _ _ ?_)
    clear hK8
    refine wp_seq_k (fun K14 hK14 => ?_)
    -- region 4
    refine region_in ?_
    refine W_v rfl rfl (V_mov rfl l0_10) ?_
    refine W_v rfl rfl (V_mov rfl (es rfl l1_10)) ?_
    have k15 : a.toNat < l.length := by first | omega | (simp only [List.length_cons, List.length_nil]; omega)
    obtain ⟨y15, hy15⟩ := get_some (xs := l) (k := a.toNat) k15
    obtain ⟨B15, O15, C15, hv15⟩ := (SlN.blk (sl_SlN h_rv.at) (by first | omega | (simp only [List.length_cons, List.length_nil]; omega)))
    refine W_v rfl rfl (V_ixS (off := O15 + a.toNat) 1 (a.toNat) rfl (es rfl (et rfl)) (et rfl) hv15 (by omega) k15 Try.underlying22 (by kernel_rfl) (congrArg _ (Nat.mul_one _))) ?_
    refine W_r rfl rfl (VR_ldC rfl (et rfl) ((sl_SlN (hS7.ro h_rv)).cell hv15 (map_get hy15)) Try.underlying3 rfl) ?_
    refine W_v rfl rfl (V_asg rfl (et rfl)) ?_
    refine W_v rfl rfl (V_asg rfl rfl) ?_
    refine W_end ?_
    refine gen_Q (fun A16 hA16 => ?_)
    have hsz16 : SzN A16 18 := by rw [hA16]; infer_instance
    have hdf16 : A16.defers = [] := by rw [hA16]; simp only [df_put]; exact hdf10
    have l4_16 := lookE hA16 4 (es rfl (et rfl))
    have l5_16 := lookE hA16 5 (et rfl)
    clear hA16 hsz10 hdf10 l0_10 l1_10 l6_10 l12_10
    refine then_n (hK14 _ _ ?_)
    clear hK14
    refine wp_ret ?_
    refine ret_in (results_2 Try.results28 (rv_tmp l4_16) (rv_tmp l5_16)) hdf16 ?_
    -- leaf F
    have h := gtN_ok hE (show l[a.toNat]? = some y15 from hy15)
    rw [h, hE]
    exact ⟨rfl, hS7.fin0⟩

set_option maxHeartbeats 4000000 in
theorem qSt_c {rv : Value} {l : List Int} {a : Int} {x : Int} {w : World} (h_rv : Ro w NoX (il .i64 rv l))  :
    Calls Try.prog 29 #[rv, .int .i64 a, .int .i64 x] w fun e w' => ∃ v, e = .returned (.tuple #[v, .int .i64 (stE l a x)]) ∧ St w NoX [io .i64 (v) (stT l a x)] w' := by
  refine calls_in 30 Try.func29 rfl rfl (by simp) (fun A0 hsz0 hdf0 hargs => ?_)
  have l0_0 := hargs 0 (rv) rfl
  have l1_0 := hargs 1 (.int .i64 a) rfl
  have l2_0 := hargs 2 (.int .i64 x) rfl
  clear hargs; replace hsz0 : SzN A0 30 := ⟨hsz0⟩
  have hS := St.nil w
  have bh_rv := SlN.le (sl_SlN h_rv.at)
  refine wp_seq_k (fun K1 hK1 => ?_)
  -- region 0
  refine region_in ?_
  refine W_v rfl rfl (V_asg rfl rfl) ?_
  refine W_v rfl rfl (V_asg rfl rfl) ?_
  refine W_end ?_
  refine gen_Q (fun A2 hA2 => ?_)
  have hsz2 : SzN A2 30 := by rw [hA2]; infer_instance
  have hdf2 : A2.defers = [] := by rw [hA2]; simp only [df_put]; exact hdf0
  have l0_2 := lookE hA2 0 (es rfl (es rfl l0_0))
  have l1_2 := lookE hA2 1 (es rfl (es rfl l1_0))
  have l2_2 := lookE hA2 2 (es rfl (es rfl l2_0))
  clear hA2 hsz0 hdf0 l0_0 l1_0 l2_0
  refine then_n (hK1 _ _ ?_)
  clear hK1
  refine wp_seq_k (fun K3 hK3 => ?_)
  -- region 1
  refine region_in ?_
  refine W_v rfl rfl (V_mov rfl l0_2) ?_
  refine W_v rfl rfl (V_mov rfl (es rfl l1_2)) ?_
  have hll4 : [a].length = 1 := rfl
  refine W_litS (vs := [.int .i64 (a)]) (xs := ([a].map (Value.int .i64))) 1 hS rfl rfl rfl (parts1 (et rfl)) rfl Try.underlying22 (by kernel_rfl) (by decide) (by intro v hv; simp only [List.mem_cons, List.not_mem_nil, or_false] at hv; rcases hv with rfl <;> rfl) (by rfl) (fun g4 w4 c4 hc4 hS4 => ?_)
  replace hc4 : c4 = io .i64 (.slice (some ⟨g4, 0, none⟩) 1 1) [a] := hc4
  replace hS4 : St w NoX [c4] w4 := hS4
  refine W_call rfl rfl rfl Try.func41 (by kernel_rfl) rfl (args2 (es rfl (es rfl (et rfl))) (et rfl)) (qas_c (hS4.roC h_rv) (hS4.chC 0 rfl hc4).own ) ?_
  rintro _ w5 ⟨rfl, hP5⟩
  refine ⟨_, rfl, ?_⟩
  have hS5 := hS4.join hP5
  replace hS5 : St w NoX [c4] w5 := hS5
  refine W_v rfl rfl (V_asg rfl (et rfl)) ?_
  refine W_end ?_
  refine gen_Q (fun A6 hA6 => ?_)
  have hsz6 : SzN A6 30 := by rw [hA6]; infer_instance
  have hdf6 : A6.defers = [] := by rw [hA6]; simp only [df_put]; exact hdf2
  have l0_6 := lookE hA6 0 (es rfl (es rfl (es rfl (es rfl (es rfl l0_2)))))
  have l1_6 := lookE hA6 1 (es rfl (es rfl (es rfl (es rfl (es rfl l1_2)))))
  have l2_6 := lookE hA6 2 (es rfl (es rfl (es rfl (es rfl (es rfl l2_2)))))
  have l8_6 := lookE hA6 8 (et rfl)
  clear hA6 hsz2 hdf2 l0_2 l1_2 l2_2
  have hS7 : St w NoX [] w5 := hS5.sel [] (by decide) rfl
  refine then_n (hK3 _ _ ?_)
  clear hK3
  refine wp_seq_k (fun K8 hK8 => ?_)
  refine wp_seq_k (fun K9 hK9 => ?_)
  -- region 2
  refine region_in ?_
  refine W_v rfl rfl (V_mov rfl l8_6) ?_
  refine W_v rfl rfl (V_eql rfl (et rfl) rfl) ?_
  refine W_split rfl rfl (V_mov rfl (et rfl)) (fun c10 => ?_) (fun c10 => ?_)
  · skip
    have hE : nmE l [a] = 0 := by simpa using c10
    obtain ⟨hck, hin⟩ := nmE_good hE
    obtain ⟨hl1, hl8, hin0⟩ := ckR_good hck
    have ha := hin a (by simp)
    refine W_v rfl (wanted_t rfl rfl (et rfl) (ez rfl)) (V_mov rfl (es rfl (es rfl (es rfl l2_6)))) ?_
    refine W_v rfl (wanted_t rfl rfl (es rfl (et rfl)) (ez rfl)) (V_lss rfl (et rfl) rfl) ?_
    refine W_split rfl (wanted_t rfl rfl (es rfl (es rfl (et rfl))) (ez rfl)) (V_mov rfl (et rfl)) (fun c11 => ?_) (fun c11 => ?_)
    · skip
      refine W_off rfl (wanted_f rfl rfl (et rfl) (ez rfl) rfl) ?_
      refine W_off rfl (wanted_f rfl rfl (es rfl (et rfl)) (ez rfl) rfl) ?_
      refine W_v rfl (wanted_t rfl rfl (es rfl (es rfl (es rfl (es rfl (es rfl (et rfl)))))) (ez rfl)) (V_pickT rfl (es rfl (es rfl (et rfl))) rfl) ?_
      refine W_v rfl rfl (V_pickT rfl (es rfl (es rfl (es rfl (es rfl (es rfl (es rfl (et rfl))))))) (et rfl)) ?_
      refine W_end ?_
      refine gen_Q (fun A12 hA12 => ?_)
      have hsz12 : SzN A12 30 := by rw [hA12]; infer_instance
      have hdf12 : A12.defers = [] := by rw [hA12]; simp only [df_put]; exact hdf6
      have l0_12 := lookE hA12 0 (es rfl (es rfl (es rfl (es rfl (es rfl (es rfl (es rfl (es rfl (es rfl (es rfl l0_6))))))))))
      have l1_12 := lookE hA12 1 (es rfl (es rfl (es rfl (es rfl (es rfl (es rfl (es rfl (es rfl (es rfl (es rfl l1_6))))))))))
      have l2_12 := lookE hA12 2 (es rfl (es rfl (es rfl (es rfl (es rfl (es rfl (es rfl (es rfl (es rfl (es rfl l2_6))))))))))
      have l8_12 := lookE hA12 8 (es rfl (es rfl (es rfl (es rfl (es rfl (es rfl (es rfl (es rfl (es rfl (es rfl l8_6))))))))))
      have l22_12 := lookE hA12 22 (et rfl)
      clear hA12 hsz6 hdf6 l0_6 l1_6 l2_6 l8_6
      refine then_n (hK9 _ _ ?_)
      clear hK9
      refine cond_t l22_12 ?_
      -- region 3
      refine region_in ?_
      refine W_v rfl rfl (V_asg rfl rfl) ?_
      refine W_end ?_
      refine gen_Q (fun A13 hA13 => ?_)
      have hsz13 : SzN A13 30 := by rw [hA13]; infer_instance
      have hdf13 : A13.defers = [] := by rw [hA13]; simp only [df_put]; exact hdf12
      have l0_13 := lookE hA13 0 (es rfl l0_12)
      have l1_13 := lookE hA13 1 (es rfl l1_12)
      have l2_13 := lookE hA13 2 (es rfl l2_12)
      have l8_13 := lookE hA13 8 (et rfl)
      clear hA13 hsz12 hdf12 l0_12 l1_12 l2_12 l8_12 l22_12
      refine then_n (hK8 _ _ ?_)
      clear hK8
      refine wp_seq_k (fun K14 hK14 => ?_)
      refine wp_seq_k (fun K15 hK15 => ?_)
      -- region 4
      refine region_in ?_
      refine W_v rfl rfl (V_mov rfl l8_13) ?_
      refine W_v rfl rfl (V_neq rfl (et rfl) rfl) ?_
      refine W_end ?_
      refine gen_Q (fun A16 hA16 => ?_)
      have hsz16 : SzN A16 30 := by rw [hA16]; infer_instance
      have hdf16 : A16.defers = [] := by rw [hA16]; simp only [df_put]; exact hdf13
      have l0_16 := lookE hA16 0 (es rfl (es rfl l0_13))
      have l1_16 := lookE hA16 1 (es rfl (es rfl l1_13))
      have l2_16 := lookE hA16 2 (es rfl (es rfl l2_13))
      have l8_16 := lookE hA16 8 (es rfl (es rfl l8_13))
      have l24_16 := lookE hA16 24 (et rfl)
      clear hA16 hsz13 hdf13 l0_13 l1_13 l2_13 l8_13
      refine then_n (hK15 _ _ ?_)
      clear hK15
      refine cond_sure l24_16 (by decide) ?_
      refine wp_seq_k (fun K17 hK17 => ?_)
      -- region 5
      refine region_in ?_
      refine W_v rfl rfl (V_mov rfl l8_16) ?_
      refine W_v rfl rfl (V_asg rfl rfl) ?_
      refine W_v rfl rfl (V_asg rfl (es rfl (et rfl))) ?_
      refine W_end ?_
      refine gen_Q (fun A18 hA18 => ?_)
      have hsz18 : SzN A18 30 := by rw [hA18]; infer_instance
      have hdf18 : A18.defers = [] := by rw [hA18]; simp only [df_put]; exact hdf16
      have l6_18 := lookE hA18 6 (es rfl (et rfl))
      have l7_18 := lookE hA18 7 (et rfl)
      clear hA18 hsz16 hdf16 l0_16 l1_16 l2_16 l8_16 l24_16
      refine then_n (hK17 _ _ ?_)
      clear hK17
      refine wp_ret ?_
      refine then_ret ?_
      refine ret_in (results_2 Try.results29 (rv_tmp l6_18) (rv_tmp l7_18)) hdf18 ?_
      -- leaf TT
      obtain ⟨c19, hc19, hS19⟩ := hS7.pnil (s := 1)
      have h : stE l a x = 7 := by first | exact stE_nm (by assumption) | exact stE_out (by assumption) (by omega) | exact stE_out (by omega) (by omega)
      have h2 := stT_err (l := l) (a := a) (x := x) (by rw [h]; first | assumption | decide)
      rw [h]
      exact ⟨_, rfl, (hS19.fin1 0 rfl (hc19.trans (by rw [h2] <;> rfl)))⟩
    · skip
      refine W_v rfl (wanted_t rfl rfl (et rfl) (ez rfl)) (V_mov rfl (es rfl (es rfl (es rfl (es rfl (es rfl (es rfl l2_6))))))) ?_
      refine W_v rfl (wanted_t rfl rfl (es rfl (et rfl)) (ez rfl)) (V_gtr rfl (et rfl) rfl) ?_
      refine W_v rfl (wanted_t rfl rfl (es rfl (es rfl (es rfl (es rfl (es rfl (et rfl)))))) (ez rfl)) (V_pickF rfl (es rfl (es rfl (et rfl))) (et rfl)) ?_
      refine W_v rfl rfl (V_pickT rfl (es rfl (es rfl (es rfl (es rfl (es rfl (es rfl (et rfl))))))) (et rfl)) ?_
      refine W_end ?_
      refine gen_Q (fun A20 hA20 => ?_)
      have hsz20 : SzN A20 30 := by rw [hA20]; infer_instance
      have hdf20 : A20.defers = [] := by rw [hA20]; simp only [df_put]; exact hdf6
      have l0_20 := lookE hA20 0 (es rfl (es rfl (es rfl (es rfl (es rfl (es rfl (es rfl (es rfl (es rfl (es rfl l0_6))))))))))
      have l1_20 := lookE hA20 1 (es rfl (es rfl (es rfl (es rfl (es rfl (es rfl (es rfl (es rfl (es rfl (es rfl l1_6))))))))))
      have l2_20 := lookE hA20 2 (es rfl (es rfl (es rfl (es rfl (es rfl (es rfl (es rfl (es rfl (es rfl (es rfl l2_6))))))))))
      have l8_20 := lookE hA20 8 (es rfl (es rfl (es rfl (es rfl (es rfl (es rfl (es rfl (es rfl (es rfl (es rfl l8_6))))))))))
      have l22_20 := lookE hA20 22 (et rfl)
      clear hA20 hsz6 hdf6 l0_6 l1_6 l2_6 l8_6
      refine then_n (hK9 _ _ ?_)
      clear hK9
      refine cond_dec l22_20 (fun c21 => ?_) (fun c21 => ?_)
      · skip
        -- region 3
        refine region_in ?_
        refine W_v rfl rfl (V_asg rfl rfl) ?_
        refine W_end ?_
        refine gen_Q (fun A22 hA22 => ?_)
        have hsz22 : SzN A22 30 := by rw [hA22]; infer_instance
        have hdf22 : A22.defers = [] := by rw [hA22]; simp only [df_put]; exact hdf20
        have l0_22 := lookE hA22 0 (es rfl l0_20)
        have l1_22 := lookE hA22 1 (es rfl l1_20)
        have l2_22 := lookE hA22 2 (es rfl l2_20)
        have l8_22 := lookE hA22 8 (et rfl)
        clear hA22 hsz20 hdf20 l0_20 l1_20 l2_20 l8_20 l22_20
        refine then_n (hK8 _ _ ?_)
        clear hK8
        refine wp_seq_k (fun K23 hK23 => ?_)
        refine wp_seq_k (fun K24 hK24 => ?_)
        -- region 4
        refine region_in ?_
        refine W_v rfl rfl (V_mov rfl l8_22) ?_
        refine W_v rfl rfl (V_neq rfl (et rfl) rfl) ?_
        refine W_end ?_
        refine gen_Q (fun A25 hA25 => ?_)
        have hsz25 : SzN A25 30 := by rw [hA25]; infer_instance
        have hdf25 : A25.defers = [] := by rw [hA25]; simp only [df_put]; exact hdf22
        have l0_25 := lookE hA25 0 (es rfl (es rfl l0_22))
        have l1_25 := lookE hA25 1 (es rfl (es rfl l1_22))
        have l2_25 := lookE hA25 2 (es rfl (es rfl l2_22))
        have l8_25 := lookE hA25 8 (es rfl (es rfl l8_22))
        have l24_25 := lookE hA25 24 (et rfl)
        clear hA25 hsz22 hdf22 l0_22 l1_22 l2_22 l8_22
        refine then_n (hK24 _ _ ?_)
        clear hK24
        refine cond_sure l24_25 (by decide) ?_
        refine wp_seq_k (fun K26 hK26 => ?_)
        -- region 5
        refine region_in ?_
        refine W_v rfl rfl (V_mov rfl l8_25) ?_
        refine W_v rfl rfl (V_asg rfl rfl) ?_
        refine W_v rfl rfl (V_asg rfl (es rfl (et rfl))) ?_
        refine W_end ?_
        refine gen_Q (fun A27 hA27 => ?_)
        have hsz27 : SzN A27 30 := by rw [hA27]; infer_instance
        have hdf27 : A27.defers = [] := by rw [hA27]; simp only [df_put]; exact hdf25
        have l6_27 := lookE hA27 6 (es rfl (et rfl))
        have l7_27 := lookE hA27 7 (et rfl)
        clear hA27 hsz25 hdf25 l0_25 l1_25 l2_25 l8_25 l24_25
        refine then_n (hK26 _ _ ?_)
        clear hK26
        refine wp_ret ?_
        refine then_ret ?_
        refine ret_in (results_2 Try.results29 (rv_tmp l6_27) (rv_tmp l7_27)) hdf27 ?_
        -- leaf TFT
        obtain ⟨c28, hc28, hS28⟩ := hS7.pnil (s := 1)
        have h : stE l a x = 7 := by first | exact stE_nm (by assumption) | exact stE_out (by assumption) (by omega) | exact stE_out (by omega) (by omega)
        have h2 := stT_err (l := l) (a := a) (x := x) (by rw [h]; first | assumption | decide)
        rw [h]
        exact ⟨_, rfl, (hS28.fin1 0 rfl (hc28.trans (by rw [h2] <;> rfl)))⟩
      · skip
        refine wp_skip ?_
        refine then_n (hK8 _ _ ?_)
        clear hK8
        refine wp_seq_k (fun K29 hK29 => ?_)
        refine wp_seq_k (fun K30 hK30 => ?_)
        -- region 4
        refine region_in ?_
        refine W_v rfl rfl (V_mov rfl l8_20) ?_
        refine W_v rfl rfl (V_neq rfl (et rfl) rfl) ?_
        refine W_end ?_
        refine gen_Q (fun A31 hA31 => ?_)
        have hsz31 : SzN A31 30 := by rw [hA31]; infer_instance
        have hdf31 : A31.defers = [] := by rw [hA31]; simp only [df_put]; exact hdf20
        have l0_31 := lookE hA31 0 (es rfl (es rfl l0_20))
        have l1_31 := lookE hA31 1 (es rfl (es rfl l1_20))
        have l2_31 := lookE hA31 2 (es rfl (es rfl l2_20))
        have l8_31 := lookE hA31 8 (es rfl (es rfl l8_20))
        have l24_31 := lookE hA31 24 (et rfl)
        clear hA31 hsz20 hdf20 l0_20 l1_20 l2_20 l8_20 l22_20
        refine then_n (hK30 _ _ ?_)
        clear hK30
        refine cond_not l24_31 (by simp [c10]) ?_
        refine wp_skip ?_
        refine then_n (hK29 _ _ ?_)
        clear hK29
        refine wp_seq_k (fun K32 hK32 => ?_)
        -- region 6
        refine region_in ?_
        refine W_v rfl rfl (V_mov rfl l0_31) ?_
        refine W_v rfl rfl (V_mov rfl (es rfl l1_31)) ?_
        refine W_v rfl rfl (V_mov rfl (es rfl (es rfl l2_31))) ?_
        refine W_call rfl rfl rfl Try.func42 (by kernel_rfl) rfl (args3 (es rfl (es rfl (et rfl))) (es rfl (et rfl)) (et rfl)) (qwi_c (a := a) (x := x) (hS7.roC h_rv) (by first | omega | (simp; done)) (by first | omega | (simp; done)) (by first | omega | (simp; done))) ?_
        rintro _ w33 ⟨v_33, rfl, hP33⟩
        refine ⟨_, rfl, ?_⟩
        obtain ⟨c_33, hc_33, hP33⟩ := gen1 hP33
        have hS33 := hS7.join hP33
        replace hS33 : St w NoX [c_33] w33 := hS33
        refine W_v rfl rfl (V_asg rfl (et rfl)) ?_
        refine W_v rfl rfl (V_asg rfl rfl) ?_
        refine W_end ?_
        refine gen_Q (fun A34 hA34 => ?_)
        have hsz34 : SzN A34 30 := by rw [hA34]; infer_instance
        have hdf34 : A34.defers = [] := by rw [hA34]; simp only [df_put]; exact hdf31
        have l6_34 := lookE hA34 6 (es rfl (et rfl))
        have l7_34 := lookE hA34 7 (et rfl)
        clear hA34 hsz31 hdf31 l0_31 l1_31 l2_31 l8_31 l24_31
        refine then_n (hK32 _ _ ?_)
        clear hK32
        refine wp_ret ?_
        refine ret_in (results_2 Try.results29 (rv_tmp l6_34) (rv_tmp l7_34)) hdf34 ?_
        -- leaf TFF
        have hE : nmE l [a] = 0 := by first | assumption | omega
        have h := stE_ok (l := l) (a := a) (x := x) hE (by omega)
        have h2 := stT_ok h
        rw [h]
        exact ⟨_, rfl, (hS33.fin1 0 rfl (hc_33.trans (by rw [h2])))⟩
  · skip
    refine W_off rfl (wanted_f rfl rfl (et rfl) (ez rfl) rfl) ?_
    refine W_off rfl (wanted_f rfl rfl (es rfl (et rfl)) (ez rfl) rfl) ?_
    refine W_off rfl (wanted_f rfl rfl (es rfl (es rfl (et rfl))) (ez rfl) rfl) ?_
    refine W_off rfl (wanted_u rfl rfl (et rfl) (ez rfl)) ?_
    refine W_off rfl (wanted_u rfl rfl (es rfl (et rfl)) (ez rfl)) ?_
    refine W_off rfl (wanted_f rfl rfl (es rfl (es rfl (es rfl (es rfl (es rfl (et rfl)))))) (ez rfl) rfl) ?_
    refine W_v rfl rfl (V_pickF rfl (es rfl (es rfl (es rfl (es rfl (es rfl (es rfl (et rfl))))))) rfl) ?_
    refine W_end ?_
    refine gen_Q (fun A35 hA35 => ?_)
    have hsz35 : SzN A35 30 := by rw [hA35]; infer_instance
    have hdf35 : A35.defers = [] := by rw [hA35]; simp only [df_put]; exact hdf6
    have l0_35 := lookE hA35 0 (es rfl (es rfl (es rfl (es rfl (es rfl (es rfl (es rfl (es rfl (es rfl (es rfl l0_6))))))))))
    have l1_35 := lookE hA35 1 (es rfl (es rfl (es rfl (es rfl (es rfl (es rfl (es rfl (es rfl (es rfl (es rfl l1_6))))))))))
    have l2_35 := lookE hA35 2 (es rfl (es rfl (es rfl (es rfl (es rfl (es rfl (es rfl (es rfl (es rfl (es rfl l2_6))))))))))
    have l8_35 := lookE hA35 8 (es rfl (es rfl (es rfl (es rfl (es rfl (es rfl (es rfl (es rfl (es rfl (es rfl l8_6))))))))))
    have l22_35 := lookE hA35 22 (et rfl)
    clear hA35 hsz6 hdf6 l0_6 l1_6 l2_6 l8_6
    refine then_n (hK9 _ _ ?_)
    clear hK9
    refine cond_f l22_35 ?_
    refine wp_skip ?_
    refine then_n (hK8 _ _ ?_)
    clear hK8
    refine wp_seq_k (fun K36 hK36 => ?_)
    refine wp_seq_k (fun K37 hK37 => ?_)
    -- region 4
    refine region_in ?_
    refine W_v rfl rfl (V_mov rfl l8_35) ?_
    refine W_v rfl rfl (V_neq rfl (et rfl) rfl) ?_
    refine W_end ?_
    refine gen_Q (fun A38 hA38 => ?_)
    have hsz38 : SzN A38 30 := by rw [hA38]; infer_instance
    have hdf38 : A38.defers = [] := by rw [hA38]; simp only [df_put]; exact hdf35
    have l0_38 := lookE hA38 0 (es rfl (es rfl l0_35))
    have l1_38 := lookE hA38 1 (es rfl (es rfl l1_35))
    have l2_38 := lookE hA38 2 (es rfl (es rfl l2_35))
    have l8_38 := lookE hA38 8 (es rfl (es rfl l8_35))
    have l24_38 := lookE hA38 24 (et rfl)
    clear hA38 hsz35 hdf35 l0_35 l1_35 l2_35 l8_35 l22_35
    refine then_n (hK37 _ _ ?_)
    clear hK37
    refine cond_sure l24_38 (by simp [c10]) ?_
    refine wp_seq_k (fun K39 hK39 => ?_)
    -- region 5
    refine region_in ?_
    refine W_v rfl rfl (V_mov rfl l8_38) ?_
    refine W_v rfl rfl (V_asg rfl rfl) ?_
    refine W_v rfl rfl (V_asg rfl (es rfl (et rfl))) ?_
    refine W_end ?_
    refine gen_Q (fun A40 hA40 => ?_)
    have hsz40 : SzN A40 30 := by rw [hA40]; infer_instance
    have hdf40 : A40.defers = [] := by rw [hA40]; simp only [df_put]; exact hdf38
    have l6_40 := lookE hA40 6 (es rfl (et rfl))
    have l7_40 := lookE hA40 7 (et rfl)
    clear hA40 hsz38 hdf38 l0_38 l1_38 l2_38 l8_38 l24_38
    refine then_n (hK39 _ _ ?_)
    clear hK39
    refine wp_ret ?_
    refine then_ret ?_
    refine ret_in (results_2 Try.results29 (rv_tmp l6_40) (rv_tmp l7_40)) hdf40 ?_
    -- leaf F
    obtain ⟨c41, hc41, hS41⟩ := hS7.pnil (s := 1)
    have h : stE l a x = (nmE l [a]) := by first | exact stE_nm (by assumption) | exact stE_out (by assumption) (by omega) | exact stE_out (by omega) (by omega)
    have h2 := stT_err (l := l) (a := a) (x := x) (by rw [h]; first | assumption | decide)
    rw [h]
    exact ⟨_, rfl, (hS41.fin1 0 rfl (hc41.trans (by rw [h2] <;> rfl)))⟩

set_option maxHeartbeats 4000000 in
theorem qMv_c {rv : Value} {l : List Int} {a : Int} {b : Int} {w : World} (h_rv : Ro w NoX (il .i64 rv l))  :
    Calls Try.prog 30 #[rv, .int .i64 a, .int .i64 b] w fun e w' => ∃ v, e = .returned (.tuple #[v, .int .i64 (nmE l [a, b])]) ∧ St w NoX [io .i64 (v) (mvT l a b)] w' := by
  refine calls_in 24 Try.func30 rfl rfl (by simp) (fun A0 hsz0 hdf0 hargs => ?_)
  have l0_0 := hargs 0 (rv) rfl
  have l1_0 := hargs 1 (.int .i64 a) rfl
  have l2_0 := hargs 2 (.int .i64 b) rfl
  clear hargs; replace hsz0 : SzN A0 24 := ⟨hsz0⟩
  have hS := St.nil w
  have bh_rv := SlN.le (sl_SlN h_rv.at)
  refine wp_seq_k (fun K1 hK1 => ?_)
  -- region 0
  refine region_in ?_
  refine W_v rfl rfl (V_asg rfl rfl) ?_
  refine W_v rfl rfl (V_asg rfl rfl) ?_
  refine W_end ?_
  refine gen_Q (fun A2 hA2 => ?_)
  have hsz2 : SzN A2 24 := by rw [hA2]; infer_instance
  have hdf2 : A2.defers = [] := by rw [hA2]; simp only [df_put]; exact hdf0
  have l0_2 := lookE hA2 0 (es rfl (es rfl l0_0))
  have l1_2 := lookE hA2 1 (es rfl (es rfl l1_0))
  have l2_2 := lookE hA2 2 (es rfl (es rfl l2_0))
  clear hA2 hsz0 hdf0 l0_0 l1_0 l2_0
  refine then_n (hK1 _ _ ?_)
  clear hK1
  refine wp_seq_k (fun K3 hK3 => ?_)
  -- region 1
  refine region_in ?_
  refine W_v rfl rfl (V_mov rfl l0_2) ?_
  refine W_v rfl rfl (V_mov rfl (es rfl l1_2)) ?_
  refine W_v rfl rfl (V_mov rfl (es rfl (es rfl l2_2))) ?_
  have hll4 : [a, b].length = 2 := rfl
  refine W_litS (vs := [.int .i64 (a), .int .i64 (b)]) (xs := ([a, b].map (Value.int .i64))) 1 hS rfl rfl rfl (parts2 (es rfl (et rfl)) (et rfl)) rfl Try.underlying22 (by kernel_rfl) (by decide) (by intro v hv; simp only [List.mem_cons, List.not_mem_nil, or_false] at hv; rcases hv with rfl | rfl <;> rfl) (by rfl) (fun g4 w4 c4 hc4 hS4 => ?_)
  replace hc4 : c4 = io .i64 (.slice (some ⟨g4, 0, none⟩) 2 2) [a, b] := hc4
  replace hS4 : St w NoX [c4] w4 := hS4
  refine W_call rfl rfl rfl Try.func41 (by kernel_rfl) rfl (args2 (es rfl (es rfl (es rfl (et rfl)))) (et rfl)) (qas_c (hS4.roC h_rv) (hS4.chC 0 rfl hc4).own ) ?_
  rintro _ w5 ⟨rfl, hP5⟩
  refine ⟨_, rfl, ?_⟩
  have hS5 := hS4.join hP5
  replace hS5 : St w NoX [c4] w5 := hS5
  refine W_v rfl rfl (V_asg rfl (et rfl)) ?_
  refine W_end ?_
  refine gen_Q (fun A6 hA6 => ?_)
  have hsz6 : SzN A6 24 := by rw [hA6]; infer_instance
  have hdf6 : A6.defers = [] := by rw [hA6]; simp only [df_put]; exact hdf2
  have l0_6 := lookE hA6 0 (es rfl (es rfl (es rfl (es rfl (es rfl (es rfl l0_2))))))
  have l1_6 := lookE hA6 1 (es rfl (es rfl (es rfl (es rfl (es rfl (es rfl l1_2))))))
  have l2_6 := lookE hA6 2 (es rfl (es rfl (es rfl (es rfl (es rfl (es rfl l2_2))))))
  have l8_6 := lookE hA6 8 (et rfl)
  clear hA6 hsz2 hdf2 l0_2 l1_2 l2_2
  have hS7 : St w NoX [] w5 := hS5.sel [] (by decide) rfl
  refine then_n (hK3 _ _ ?_)
  clear hK3
  refine wp_seq_k (fun K8 hK8 => ?_)
  refine wp_seq_k (fun K9 hK9 => ?_)
  -- region 2
  refine region_in ?_
  refine W_v rfl rfl (V_mov rfl l8_6) ?_
  refine W_v rfl rfl (V_neq rfl (et rfl) rfl) ?_
  refine W_end ?_
  refine gen_Q (fun A10 hA10 => ?_)
  have hsz10 : SzN A10 24 := by rw [hA10]; infer_instance
  have hdf10 : A10.defers = [] := by rw [hA10]; simp only [df_put]; exact hdf6
  have l0_10 := lookE hA10 0 (es rfl (es rfl l0_6))
  have l1_10 := lookE hA10 1 (es rfl (es rfl l1_6))
  have l2_10 := lookE hA10 2 (es rfl (es rfl l2_6))
  have l8_10 := lookE hA10 8 (es rfl (es rfl l8_6))
  have l15_10 := lookE hA10 15 (et rfl)
  clear hA10 hsz6 hdf6 l0_6 l1_6 l2_6 l8_6
  refine then_n (hK9 _ _ ?_)
  clear hK9
  refine cond_dec l15_10 (fun c11 => ?_) (fun c11 => ?_)
  · skip
    refine wp_seq_k (fun K12 hK12 => ?_)
    -- region 3
    refine region_in ?_
    refine W_v rfl rfl (V_mov rfl l8_10) ?_
    refine W_v rfl rfl (V_asg rfl rfl) ?_
    refine W_v rfl rfl (V_asg rfl (es rfl (et rfl))) ?_
    refine W_end ?_
    refine gen_Q (fun A13 hA13 => ?_)
    have hsz13 : SzN A13 24 := by rw [hA13]; infer_instance
    have hdf13 : A13.defers = [] := by rw [hA13]; simp only [df_put]; exact hdf10
    have l6_13 := lookE hA13 6 (es rfl (et rfl))
    have l7_13 := lookE hA13 7 (et rfl)
    clear hA13 hsz10 hdf10 l0_10 l1_10 l2_10 l8_10 l15_10
    refine then_n (hK12 _ _ ?_)
    clear hK12
    refine wp_ret ?_
    refine then_ret ?_
    refine ret_in (results_2 Try.results30 (rv_tmp l6_13) (rv_tmp l7_13)) hdf13 ?_
    -- leaf T
    obtain ⟨c14, hc14, hS14⟩ := hS7.pnil (s := 1)
    have h := mvT_err (l := l) (a := a) (b := b) c11
    exact ⟨_, rfl, (hS14.fin1 0 rfl (hc14.trans (by rw [h] <;> rfl)))⟩
  · skip
    have hE : nmE l [a, b] = 0 := by simpa using c11
    obtain ⟨hck, hin⟩ := nmE_good hE
    obtain ⟨hl1, hl8, hin0⟩ := ckR_good hck
    have ha := hin a (by simp)
    have hb := hin b (by simp)
    refine wp_skip ?_
    refine then_n (hK8 _ _ ?_)
    clear hK8
    refine wp_seq_k (fun K15 hK15 => ?_)
    -- region 4
    refine region_in ?_
    refine W_v rfl rfl (V_mov rfl l0_10) ?_
    refine W_v rfl rfl (V_mov rfl (es rfl l1_10)) ?_
    refine W_v rfl rfl (V_mov rfl (es rfl (es rfl l0_10))) ?_
    refine W_v rfl rfl (V_mov rfl (es rfl (es rfl (es rfl l2_10)))) ?_
    have k16 : b.toNat < l.length := by first | omega | (simp only [List.length_cons, List.length_nil]; omega)
    obtain ⟨y16, hy16⟩ := get_some (xs := l) (k := b.toNat) k16
    obtain ⟨B16, O16, C16, hv16⟩ := (SlN.blk (sl_SlN h_rv.at) (by first | omega | (simp only [List.length_cons, List.length_nil]; omega)))
    refine W_v rfl rfl (V_ixS (off := O16 + b.toNat) 1 (b.toNat) rfl (es rfl (et rfl)) (et rfl) hv16 (by omega) k16 Try.underlying22 (by kernel_rfl) (congrArg _ (Nat.mul_one _))) ?_
    refine W_r rfl rfl (VR_ldC rfl (et rfl) ((sl_SlN (hS7.ro h_rv)).cell hv16 (map_get hy16)) Try.underlying3 rfl) ?_
    refine W_call rfl rfl rfl Try.func42 (by kernel_rfl) rfl (args3 (es rfl (es rfl (es rfl (es rfl (es rfl (et rfl)))))) (es rfl (es rfl (es rfl (es rfl (et rfl))))) (et rfl)) (qwi_c (a := a) (x := y16) (hS7.roC h_rv) (by first | omega | (simp; done)) (by first | omega | (simp; done)) (by first | omega | (simp; done))) ?_
    rintro _ w17 ⟨v_17, rfl, hP17⟩
    refine ⟨_, rfl, ?_⟩
    obtain ⟨c_17, hc_17, hP17⟩ := gen1 hP17
    have hS17 := hS7.join hP17
    replace hS17 : St w NoX [c_17] w17 := hS17
    refine W_v rfl rfl (V_asg rfl (et rfl)) ?_
    refine W_v rfl rfl (V_asg rfl rfl) ?_
    refine W_end ?_
    refine gen_Q (fun A18 hA18 => ?_)
    have hsz18 : SzN A18 24 := by rw [hA18]; infer_instance
    have hdf18 : A18.defers = [] := by rw [hA18]; simp only [df_put]; exact hdf10
    have l6_18 := lookE hA18 6 (es rfl (et rfl))
    have l7_18 := lookE hA18 7 (et rfl)
    clear hA18 hsz10 hdf10 l0_10 l1_10 l2_10 l8_10 l15_10
    refine then_n (hK15 _ _ ?_)
    clear hK15
    refine wp_ret ?_
    refine ret_in (results_2 Try.results30 (rv_tmp l6_18) (rv_tmp l7_18)) hdf18 ?_
    -- leaf F
    have h := mvT_ok hE (show l[b.toNat]? = some y16 from hy16)
    rw [hE]
    exact ⟨_, rfl, (hS17.fin1 0 rfl (hc_17.trans (by rw [h])))⟩

set_option maxHeartbeats 4000000 in
theorem qCl_c {rv : Value} {l : List Int} {a : Int} {w : World} (h_rv : Ro w NoX (il .i64 rv l))  :
    Calls Try.prog 32 #[rv, .int .i64 a] w fun e w' => ∃ v, e = .returned (.tuple #[v, .int .i64 (stE l a 0)]) ∧ St w NoX [io .i64 (v) (stT l a 0)] w' := by
  refine calls_in 11 Try.func32 rfl rfl (by simp) (fun A0 hsz0 hdf0 hargs => ?_)
  have l0_0 := hargs 0 (rv) rfl
  have l1_0 := hargs 1 (.int .i64 a) rfl
  clear hargs; replace hsz0 : SzN A0 11 := ⟨hsz0⟩
  have hS := St.nil w
  have bh_rv := SlN.le (sl_SlN h_rv.at)
  refine wp_seq_k (fun K1 hK1 => ?_)
  -- region 0
  refine region_in ?_
  refine W_v rfl rfl (V_asg rfl rfl) ?_
  refine W_v rfl rfl (V_asg rfl rfl) ?_
  refine W_end ?_
  refine gen_Q (fun A2 hA2 => ?_)
  have hsz2 : SzN A2 11 := by rw [hA2]; infer_instance
  have hdf2 : A2.defers = [] := by rw [hA2]; simp only [df_put]; exact hdf0
  have l0_2 := lookE hA2 0 (es rfl (es rfl l0_0))
  have l1_2 := lookE hA2 1 (es rfl (es rfl l1_0))
  clear hA2 hsz0 hdf0 l0_0 l1_0
  refine then_n (hK1 _ _ ?_)
  clear hK1
  refine wp_seq_k (fun K3 hK3 => ?_)
  -- region 1
  refine region_in ?_
  refine W_v rfl rfl (V_mov rfl l0_2) ?_
  refine W_v rfl rfl (V_mov rfl (es rfl l1_2)) ?_
  refine W_call rfl rfl rfl Try.func29 (by kernel_rfl) rfl (args3 (es rfl (et rfl)) (et rfl) rfl) (qSt_c (a := a) (x := 0) (hS.roC h_rv) ) ?_
  rintro _ w4 ⟨v_4, rfl, hP4⟩
  refine ⟨_, rfl, ?_⟩
  obtain ⟨c_4, hc_4, hP4⟩ := gen1 hP4
  have hS4 := hS.join hP4
  replace hS4 : St w NoX [c_4] w4 := hS4
  refine W_v rfl rfl (V_ext (v := v_4) rfl (et rfl) rfl) ?_
  refine W_v rfl rfl (V_ext (v := .int .i64 ((stE l a 0))) rfl (es rfl (et rfl)) rfl) ?_
  refine W_v rfl rfl (V_asg rfl (es rfl (et rfl))) ?_
  refine W_v rfl rfl (V_asg rfl (es rfl (et rfl))) ?_
  refine W_end ?_
  refine gen_Q (fun A5 hA5 => ?_)
  have hsz5 : SzN A5 11 := by rw [hA5]; infer_instance
  have hdf5 : A5.defers = [] := by rw [hA5]; simp only [df_put]; exact hdf2
  have l4_5 := lookE hA5 4 (es rfl (et rfl))
  have l5_5 := lookE hA5 5 (et rfl)
  clear hA5 hsz2 hdf2 l0_2 l1_2
  refine then_n (hK3 _ _ ?_)
  clear hK3
  refine wp_ret ?_
  refine ret_in (results_2 Try.results32 (rv_tmp l4_5) (rv_tmp l5_5)) hdf5 ?_
  -- leaf 
  exact ⟨_, rfl, (hS4.fin1 0 rfl (hc_4))⟩

set_option maxHeartbeats 4000000 in
theorem qAl_c {rv : Value} {l : List Int} {a : Int} {b : Int} {w : World} (h_rv : Ro w NoX (il .i64 rv l))  :
    Calls Try.prog 34 #[rv, .int .i64 a, .int .i64 b] w fun e w' => e = .returned (.tuple #[.bool (alB l a b), .int .i64 (nmE l [a, b])]) ∧ St w NoX [] w' := by
  refine calls_in 28 Try.func34 rfl rfl (by simp) (fun A0 hsz0 hdf0 hargs => ?_)
  have l0_0 := hargs 0 (rv) rfl
  have l1_0 := hargs 1 (.int .i64 a) rfl
  have l2_0 := hargs 2 (.int .i64 b) rfl
  clear hargs; replace hsz0 : SzN A0 28 := ⟨hsz0⟩
  have hS := St.nil w
  have bh_rv := SlN.le (sl_SlN h_rv.at)
  refine wp_seq_k (fun K1 hK1 => ?_)
  -- region 0
  refine region_in ?_
  refine W_v rfl rfl (V_asg rfl rfl) ?_
  refine W_v rfl rfl (V_asg rfl rfl) ?_
  refine W_end ?_
  refine gen_Q (fun A2 hA2 => ?_)
  have hsz2 : SzN A2 28 := by rw [hA2]; infer_instance
  have hdf2 : A2.defers = [] := by rw [hA2]; simp only [df_put]; exact hdf0
  have l0_2 := lookE hA2 0 (es rfl (es rfl l0_0))
  have l1_2 := lookE hA2 1 (es rfl (es rfl l1_0))
  have l2_2 := lookE hA2 2 (es rfl (es rfl l2_0))
  clear hA2 hsz0 hdf0 l0_0 l1_0 l2_0
  refine then_n (hK1 _ _ ?_)
  clear hK1
  refine wp_seq_k (fun K3 hK3 => ?_)
  -- region 1
  refine region_in ?_
  refine W_v rfl rfl (V_mov rfl l0_2) ?_
  refine W_v rfl rfl (V_mov rfl (es rfl l1_2)) ?_
  refine W_v rfl rfl (V_mov rfl (es rfl (es rfl l2_2))) ?_
  have hll4 : [a, b].length = 2 := rfl
  refine W_litS (vs := [.int .i64 (a), .int .i64 (b)]) (xs := ([a, b].map (Value.int .i64))) 1 hS rfl rfl rfl (parts2 (es rfl (et rfl)) (et rfl)) rfl Try.underlying22 (by kernel_rfl) (by decide) (by intro v hv; simp only [List.mem_cons, List.not_mem_nil, or_false] at hv; rcases hv with rfl | rfl <;> rfl) (by rfl) (fun g4 w4 c4 hc4 hS4 => ?_)
  replace hc4 : c4 = io .i64 (.slice (some ⟨g4, 0, none⟩) 2 2) [a, b] := hc4
  replace hS4 : St w NoX [c4] w4 := hS4
  refine W_call rfl rfl rfl Try.func41 (by kernel_rfl) rfl (args2 (es rfl (es rfl (es rfl (et rfl)))) (et rfl)) (qas_c (hS4.roC h_rv) (hS4.chC 0 rfl hc4).own ) ?_
  rintro _ w5 ⟨rfl, hP5⟩
  refine ⟨_, rfl, ?_⟩
  have hS5 := hS4.join hP5
  replace hS5 : St w NoX [c4] w5 := hS5
  refine W_v rfl rfl (V_asg rfl (et rfl)) ?_
  refine W_end ?_
  refine gen_Q (fun A6 hA6 => ?_)
  have hsz6 : SzN A6 28 := by rw [hA6]; infer_instance
  have hdf6 : A6.defers = [] := by rw [hA6]; simp only [df_put]; exact hdf2
  have l0_6 := lookE hA6 0 (es rfl (es rfl (es rfl (es rfl (es rfl (es rfl l0_2))))))
  have l1_6 := lookE hA6 1 (es rfl (es rfl (es rfl (es rfl (es rfl (es rfl l1_2))))))
  have l2_6 := lookE hA6 2 (es rfl (es rfl (es rfl (es rfl (es rfl (es rfl l2_2))))))
  have l8_6 := lookE hA6 8 (et rfl)
  clear hA6 hsz2 hdf2 l0_2 l1_2 l2_2
  have hS7 : St w NoX [] w5 := hS5.sel [] (by decide) rfl
  refine then_n (hK3 _ _ ?_)
  clear hK3
  refine wp_seq_k (fun K8 hK8 => ?_)
  -- region 2
  refine region_monoS 16 16 [] (by kernel_rfl) (by kernel_rfl) ?_
  refine D_v rfl rfl (V_mov rfl l8_6) rfl rfl ?_
  refine D_v rfl rfl (V_eql rfl (et rfl) rfl) rfl rfl ?_
  refine D_split rfl rfl (V_mov rfl (et rfl)) rfl rfl (fun c9 => ?_) (fun c9 => ?_)
  · skip
    have hE : nmE l [a, b] = 0 := by simpa using c9
    obtain ⟨hck, hin⟩ := nmE_good hE
    obtain ⟨hl1, hl8, hin0⟩ := ckR_good hck
    have ha := hin a (by simp)
    have hb := hin b (by simp)
    refine D_v rfl (wanted_t rfl rfl (et rfl) (ez rfl)) (V_mov rfl (es rfl (es rfl (es rfl l0_6)))) rfl rfl ?_
    refine D_v rfl (wanted_t rfl rfl (es rfl (et rfl)) (ez rfl)) (V_mov rfl (es rfl (es rfl (es rfl (es rfl l1_6))))) rfl rfl ?_
    have k10 : a.toNat < l.length := by first | omega | (simp only [List.length_cons, List.length_nil]; omega)
    obtain ⟨y10, hy10⟩ := get_some (xs := l) (k := a.toNat) k10
    obtain ⟨B10, O10, C10, hv10⟩ := (SlN.blk (sl_SlN h_rv.at) (by first | omega | (simp only [List.length_cons, List.length_nil]; omega)))
    refine D_v rfl (wanted_t rfl rfl (es rfl (es rfl (et rfl))) (ez rfl)) (V_ixS (off := O10 + a.toNat) 1 (a.toNat) rfl (es rfl (et rfl)) (et rfl) hv10 (by omega) k10 Try.underlying22 (by kernel_rfl) (congrArg _ (Nat.mul_one _))) rfl rfl ?_
    refine D_r rfl (wanted_t rfl rfl (es rfl (es rfl (es rfl (et rfl)))) (ez rfl)) (by kernel_rfl) (fun sx hx hF => (VR_ldC rfl (et rfl) ((sl_SlN ((hS7.grow hx).ro h_rv)).cell hv10 (map_get hy10)) Try.underlying3 rfl)) rfl rfl ?_
    refine D_v rfl (wanted_t rfl rfl (es rfl (es rfl (es rfl (es rfl (et rfl))))) (ez rfl)) (V_mov rfl (es rfl (es rfl (es rfl (es rfl (es rfl (es rfl (es rfl l0_6)))))))) rfl rfl ?_
    refine D_v rfl (wanted_t rfl rfl (es rfl (es rfl (es rfl (es rfl (es rfl (et rfl)))))) (ez rfl)) (V_mov rfl (es rfl (es rfl (es rfl (es rfl (es rfl (es rfl (es rfl (es rfl l2_6))))))))) rfl rfl ?_
    have k11 : b.toNat < l.length := by first | omega | (simp only [List.length_cons, List.length_nil]; omega)
    obtain ⟨y11, hy11⟩ := get_some (xs := l) (k := b.toNat) k11
    refine D_v rfl (wanted_t rfl rfl (es rfl (es rfl (es rfl (es rfl (es rfl (es rfl (et rfl))))))) (ez rfl)) (V_ixS (off := O10 + b.toNat) 1 (b.toNat) rfl (es rfl (et rfl)) (et rfl) hv10 (by omega) k11 Try.underlying22 (by kernel_rfl) (congrArg _ (Nat.mul_one _))) rfl rfl ?_
    refine D_r rfl (wanted_t rfl rfl (es rfl (es rfl (es rfl (es rfl (es rfl (es rfl (es rfl (et rfl)))))))) (ez rfl)) (by kernel_rfl) (fun sx hx hF => (VR_ldC rfl (et rfl) ((sl_SlN ((hS7.grow hx).ro h_rv)).cell hv10 (map_get hy11)) Try.underlying3 rfl)) rfl rfl ?_
    refine D_v rfl (wanted_t rfl rfl (es rfl (es rfl (es rfl (es rfl (es rfl (es rfl (es rfl (es rfl (et rfl))))))))) (ez rfl)) (V_eql rfl (es rfl (es rfl (es rfl (es rfl (et rfl))))) (et rfl)) rfl rfl ?_
    refine D_v rfl rfl (V_pickT rfl (es rfl (es rfl (es rfl (es rfl (es rfl (es rfl (es rfl (es rfl (es rfl (et rfl)))))))))) (et rfl)) rfl rfl ?_
    refine D_v rfl rfl (V_mov rfl (es rfl (es rfl (es rfl (es rfl (es rfl (es rfl (es rfl (es rfl (es rfl (es rfl (es rfl (es rfl (es rfl l8_6)))))))))))))) rfl rfl ?_
    refine D_v rfl rfl (V_asg rfl (es rfl (et rfl))) rfl rfl ?_
    refine D_v rfl rfl (V_asg rfl (es rfl (et rfl))) rfl rfl ?_
    refine ZS_none hS7 (Nat.le_refl _) (Nat.le_refl _) (fun s12 hJ12 hL12 hF12 => ?_)
    have hS12 := hJ12.st; clear hF12 hJ12 hL12
    generalize s12.1 = w12 at *
    replace hS12 : St w NoX [] w12 := hS12
    refine gen_Q (fun A13 hA13 => ?_)
    have hsz13 : SzN A13 28 := by rw [hA13]; infer_instance
    have hdf13 : A13.defers = [] := by rw [hA13]; simp only [df_put]; exact hdf6
    have l6_13 := lookE hA13 6 (es rfl (et rfl))
    have l7_13 := lookE hA13 7 (et rfl)
    clear hA13 hsz6 hdf6 l0_6 l1_6 l2_6 l8_6
    refine then_n (hK8 _ _ ?_)
    clear hK8
    refine wp_ret ?_
    refine ret_in (results_2 Try.results34 (rv_tmp l6_13) (rv_tmp l7_13)) hdf13 ?_
    -- leaf T
    have h := alB_ok hE (show l[a.toNat]? = some y10 from hy10) (show l[b.toNat]? = some y11 from hy11)
    rw [h]
    exact ⟨rfl, hS12.fin0⟩
  · skip
    refine D_off rfl (wanted_f rfl rfl (et rfl) (ez rfl) rfl) rfl ?_
    refine D_off rfl (wanted_f rfl rfl (es rfl (et rfl)) (ez rfl) rfl) rfl ?_
    refine D_off rfl (wanted_f rfl rfl (es rfl (es rfl (et rfl))) (ez rfl) rfl) rfl ?_
    refine D_off rfl (wanted_f rfl rfl (es rfl (es rfl (es rfl (et rfl)))) (ez rfl) rfl) rfl ?_
    refine D_off rfl (wanted_f rfl rfl (es rfl (es rfl (es rfl (es rfl (et rfl))))) (ez rfl) rfl) rfl ?_
    refine D_off rfl (wanted_f rfl rfl (es rfl (es rfl (es rfl (es rfl (es rfl (et rfl)))))) (ez rfl) rfl) rfl ?_
    refine D_off rfl (wanted_f rfl rfl (es rfl (es rfl (es rfl (es rfl (es rfl (es rfl (et rfl))))))) (ez rfl) rfl) rfl ?_
    refine D_off rfl (wanted_f rfl rfl (es rfl (es rfl (es rfl (es rfl (es rfl (es rfl (es rfl (et rfl)))))))) (ez rfl) rfl) rfl ?_
    refine D_off rfl (wanted_f rfl rfl (es rfl (es rfl (es rfl (es rfl (es rfl (es rfl (es rfl (es rfl (et rfl))))))))) (ez rfl) rfl) rfl ?_
    refine D_v rfl rfl (V_pickF rfl (es rfl (es rfl (es rfl (es rfl (es rfl (es rfl (es rfl (es rfl (es rfl (et rfl)))))))))) rfl) rfl rfl ?_
    refine D_v rfl rfl (V_mov rfl (es rfl (es rfl (es rfl (es rfl (es rfl (es rfl (es rfl (es rfl (es rfl (es rfl (es rfl (es rfl (es rfl l8_6)))))))))))))) rfl rfl ?_
    refine D_v rfl rfl (V_asg rfl (es rfl (et rfl))) rfl rfl ?_
    refine D_v rfl rfl (V_asg rfl (es rfl (et rfl))) rfl rfl ?_
    refine ZS_none hS7 (Nat.le_refl _) (Nat.le_refl _) (fun s14 hJ14 hL14 hF14 => ?_)
    have hS14 := hJ14.st; clear hF14 hJ14 hL14
    generalize s14.1 = w14 at *
    replace hS14 : St w NoX [] w14 := hS14
    refine gen_Q (fun A15 hA15 => ?_)
    have hsz15 : SzN A15 28 := by rw [hA15]; infer_instance
    have hdf15 : A15.defers = [] := by rw [hA15]; simp only [df_put]; exact hdf6
    have l6_15 := lookE hA15 6 (es rfl (et rfl))
    have l7_15 := lookE hA15 7 (et rfl)
    clear hA15 hsz6 hdf6 l0_6 l1_6 l2_6 l8_6
    refine then_n (hK8 _ _ ?_)
    clear hK8
    refine wp_ret ?_
    refine ret_in (results_2 Try.results34 (rv_tmp l6_15) (rv_tmp l7_15)) hdf15 ?_
    -- leaf F
    have h := alB_err (l := l) (a := a) (b := b) c9
    rw [h]
    exact ⟨rfl, hS14.fin0⟩

set_option maxHeartbeats 4000000 in
theorem qInts_c {xv : Value} {xs : List Int} {yv : Value} {ys : List Int} {w : World} (h_xv : Ro w NoX (il .i64 xv xs)) (h_yv : Ro w NoX (il .i64 yv ys))  :
    Calls Try.prog 17 #[xv, yv] w fun e w' => e = .returned (.bool (decide (xs = ys))) ∧ St w NoX [] w' := by
  refine calls_in 26 Try.func17 rfl rfl (by simp) (fun A0 hsz0 hdf0 hargs => ?_)
  have l0_0 := hargs 0 (xv) rfl
  have l1_0 := hargs 1 (yv) rfl
  clear hargs; replace hsz0 : SzN A0 26 := ⟨hsz0⟩
  have hS := St.nil w
  have bh_xv := SlN.le (sl_SlN h_xv.at)
  have bh_yv := SlN.le (sl_SlN h_yv.at)
  refine wp_seq_k (fun K1 hK1 => ?_)
  -- region 0
  refine region_in ?_
  refine W_v rfl rfl (V_asg rfl rfl) ?_
  refine W_end ?_
  refine gen_Q (fun A2 hA2 => ?_)
  have hsz2 : SzN A2 26 := by rw [hA2]; infer_instance
  have hdf2 : A2.defers = [] := by rw [hA2]; simp only [df_put]; exact hdf0
  have l0_2 := lookE hA2 0 (es rfl l0_0)
  have l1_2 := lookE hA2 1 (es rfl l1_0)
  clear hA2 hsz0 hdf0 l0_0 l1_0
  refine then_n (hK1 _ _ ?_)
  clear hK1
  refine wp_seq_k (fun K3 hK3 => ?_)
  refine wp_seq_k (fun K4 hK4 => ?_)
  -- region 1
  refine region_in ?_
  refine W_v rfl rfl (V_mov rfl l0_2) ?_
  refine W_v rfl rfl (V_lenS rfl (et rfl) (sl_SlN h_xv.at) Try.underlying22) ?_
  refine W_v rfl rfl (V_mov rfl (es rfl (es rfl l1_2))) ?_
  refine W_v rfl rfl (V_lenS rfl (et rfl) (sl_SlN h_yv.at) Try.underlying22) ?_
  refine W_v rfl rfl (V_neq rfl (es rfl (es rfl (et rfl))) (et rfl)) ?_
  refine W_end ?_
  refine gen_Q (fun A5 hA5 => ?_)
  have hsz5 : SzN A5 26 := by rw [hA5]; infer_instance
  have hdf5 : A5.defers = [] := by rw [hA5]; simp only [df_put]; exact hdf2
  have l0_5 := lookE hA5 0 (es rfl (es rfl (es rfl (es rfl (es rfl l0_2)))))
  have l1_5 := lookE hA5 1 (es rfl (es rfl (es rfl (es rfl (es rfl l1_2)))))
  have l10_5 := lookE hA5 10 (et rfl)
  clear hA5 hsz2 hdf2 l0_2 l1_2
  refine then_n (hK4 _ _ ?_)
  clear hK4
  refine cond_dec l10_5 (fun c6 => ?_) (fun c6 => ?_)
  · skip
    refine wp_seq_k (fun K7 hK7 => ?_)
    -- region 2
    refine region_in ?_
    refine W_v rfl rfl (V_asg rfl rfl) ?_
    refine W_end ?_
    refine gen_Q (fun A8 hA8 => ?_)
    have hsz8 : SzN A8 26 := by rw [hA8]; infer_instance
    have hdf8 : A8.defers = [] := by rw [hA8]; simp only [df_put]; exact hdf5
    have l4_8 := lookE hA8 4 (et rfl)
    clear hA8 hsz5 hdf5 l0_5 l1_5 l10_5
    refine then_n (hK7 _ _ ?_)
    clear hK7
    refine wp_ret ?_
    refine then_ret ?_
    refine ret_in (results_1 Try.results17 (rv_tmp l4_8)) hdf8 ?_
    -- leaf T
    rw [decide_eq_false (show ¬ xs = ys from fun e => absurd (congrArg List.length e) (by omega))]
    exact ⟨rfl, hS.fin0⟩
  · skip
    have hl : xs.length = ys.length := by omega
    refine wp_skip ?_
    refine then_n (hK3 _ _ ?_)
    clear hK3
    refine wp_seq_k (fun K9 hK9 => ?_)
    refine wp_seq_k (fun K10 hK10 => ?_)
    -- region 3
    refine region_in ?_
    refine W_v rfl rfl (V_asg rfl rfl) ?_
    refine W_end ?_
    refine gen_Q (fun A11 hA11 => ?_)
    have hsz11 : SzN A11 26 := by rw [hA11]; infer_instance
    have hdf11 : A11.defers = [] := by rw [hA11]; simp only [df_put]; exact hdf5
    have l0_11 := lookE hA11 0 (es rfl l0_5)
    have l1_11 := lookE hA11 1 (es rfl l1_5)
    have l5_11 := lookE hA11 5 (et rfl)
    clear hA11 hsz5 hdf5 l0_5 l1_5 l10_5
    refine then_n (hK10 _ _ ?_)
    clear hK10
    refine wp_block ?_
    -- loop 4
    refine loopX (fun mz A' w' => SzN A' 26 ∧ A'.defers = [] ∧ (∃ (k : Nat), (mz = xs.length - k) ∧ (k ≤ xs.length) ∧ (∀ i, i < k → xs[i]? = ys[i]?) ∧ (EV A' (.tmp 5) = .int .i64 (k : Int)) ∧ (EV A' (.tmp 0) = EV A11 (.tmp 0)) ∧ (EV A' (.tmp 1) = EV A11 (.tmp 1)) ∧ (St w NoX [] w'))) (xs.length - 0) ⟨hsz11, hdf11, 0, rfl, (by omega), (fun i hi => by omega), ((l5_11).trans (by first | rfl | (simp; done) | (congr 1; omega))), rfl, rfl, hS⟩ ?_
    clear hS
    rintro n12 A12 w12 ⟨hsz12, hdf12, k, hm12, hk, hz, l5_12, u0_12, u1_12, hS12⟩
    have l0_12 := u0_12.trans l0_11
    have l1_12 := u1_12.trans l1_11
    refine wp_seq_k (fun K13 hK13 => ?_)
    refine wp_seq_k (fun K14 hK14 => ?_)
    -- region 4
    refine region_in ?_
    refine W_v rfl rfl (V_mov rfl l5_12) ?_
    refine W_v rfl rfl (V_mov rfl (es rfl l0_12)) ?_
    refine W_v rfl rfl (V_lenS rfl (et rfl) (sl_SlN h_xv.at) Try.underlying22) ?_
    refine W_v rfl rfl (V_lss rfl (es rfl (es rfl (et rfl))) (et rfl)) ?_
    refine W_end ?_
    refine gen_Q (fun A15 hA15 => ?_)
    have hsz15 : SzN A15 26 := by rw [hA15]; infer_instance
    have hdf15 : A15.defers = [] := by rw [hA15]; simp only [df_put]; exact hdf12
    have l0_15 := lookE hA15 0 (es rfl (es rfl (es rfl (es rfl l0_12))))
    have l1_15 := lookE hA15 1 (es rfl (es rfl (es rfl (es rfl l1_12))))
    have l5_15 := lookE hA15 5 (es rfl (es rfl (es rfl (es rfl l5_12))))
    have l14_15 := lookE hA15 14 (et rfl)
    clear hA15 hsz12 hdf12 l5_12 l0_12 l1_12
    refine then_n (hK14 _ _ ?_)
    clear hK14
    refine cond_dec l14_15 (fun c16 => ?_) (fun c16 => ?_)
    · skip
      refine wp_skip ?_
      refine then_n (hK13 _ _ ?_)
      clear hK13
      refine wp_seq_k (fun K17 hK17 => ?_)
      refine wp_block ?_
      refine wp_seq_k (fun K18 hK18 => ?_)
      -- region 6
      refine region_monoS 9 9 [] (by kernel_rfl) (by kernel_rfl) ?_
      refine D_v rfl rfl (V_mov rfl l0_15) rfl rfl ?_
      refine D_v rfl rfl (V_mov rfl (es rfl l5_15)) rfl rfl ?_
      have k19 : k < xs.length := by first | omega | (simp only [List.length_cons, List.length_nil]; omega)
      obtain ⟨y19, hy19⟩ := get_some (xs := xs) (k := k) k19
      obtain ⟨B19, O19, C19, hv19⟩ := (SlN.blk (sl_SlN h_xv.at) (by first | omega | (simp only [List.length_cons, List.length_nil]; omega)))
      refine D_v rfl rfl (V_ixS (off := O19 + k) 1 (k) rfl (es rfl (et rfl)) (et rfl) hv19 (by omega) k19 Try.underlying22 (by kernel_rfl) (congrArg _ (Nat.mul_one _))) rfl rfl ?_
      refine D_r rfl rfl (by kernel_rfl) (fun sx hx hF => (VR_ldC rfl (et rfl) ((sl_SlN ((hS12.grow hx).ro h_xv)).cell hv19 (map_get hy19)) Try.underlying3 rfl)) rfl rfl ?_
      refine D_v rfl rfl (V_mov rfl (es rfl (es rfl (es rfl (es rfl l1_15))))) rfl rfl ?_
      refine D_v rfl rfl (V_mov rfl (es rfl (es rfl (es rfl (es rfl (es rfl l5_15)))))) rfl rfl ?_
      have k20 : k < ys.length := by first | omega | (simp only [List.length_cons, List.length_nil]; omega)
      obtain ⟨y20, hy20⟩ := get_some (xs := ys) (k := k) k20
      obtain ⟨B20, O20, C20, hv20⟩ := (SlN.blk (sl_SlN h_yv.at) (by first | omega | (simp only [List.length_cons, List.length_nil]; omega)))
      refine D_v rfl rfl (V_ixS (off := O20 + k) 1 (k) rfl (es rfl (et rfl)) (et rfl) hv20 (by omega) k20 Try.underlying22 (by kernel_rfl) (congrArg _ (Nat.mul_one _))) rfl rfl ?_
      refine D_r rfl rfl (by kernel_rfl) (fun sx hx hF => (VR_ldC rfl (et rfl) ((sl_SlN ((hS12.grow hx).ro h_yv)).cell hv20 (map_get hy20)) Try.underlying3 rfl)) rfl rfl ?_
      refine D_v rfl rfl (V_neq rfl (es rfl (es rfl (es rfl (es rfl (et rfl))))) (et rfl)) rfl rfl ?_
      refine ZS_none hS12 (Nat.le_refl _) (Nat.le_refl _) (fun s21 hJ21 hL21 hF21 => ?_)
      have hS21 := hJ21.st; clear hF21 hJ21 hL21
      generalize s21.1 = w21 at *
      replace hS21 : St w NoX [] w21 := hS21
      refine gen_Q (fun A22 hA22 => ?_)
      have hsz22 : SzN A22 26 := by rw [hA22]; infer_instance
      have hdf22 : A22.defers = [] := by rw [hA22]; simp only [df_put]; exact hdf15
      have l0_22 := lookE hA22 0 (es rfl (es rfl (es rfl (es rfl (es rfl (es rfl (es rfl (es rfl (es rfl l0_15)))))))))
      have l1_22 := lookE hA22 1 (es rfl (es rfl (es rfl (es rfl (es rfl (es rfl (es rfl (es rfl (es rfl l1_15)))))))))
      have l5_22 := lookE hA22 5 (es rfl (es rfl (es rfl (es rfl (es rfl (es rfl (es rfl (es rfl (es rfl l5_15)))))))))
      have l25_22 := lookE hA22 25 (et rfl)
      clear hA22 hsz15 hdf15 l0_15 l1_15 l5_15 l14_15
      refine then_n (hK18 _ _ ?_)
      clear hK18
      refine cond_dec l25_22 (fun c23 => ?_) (fun c23 => ?_)
      · skip
        refine wp_seq_k (fun K24 hK24 => ?_)
        -- region 7
        refine region_in ?_
        refine W_v rfl rfl (V_asg rfl rfl) ?_
        refine W_end ?_
        refine gen_Q (fun A25 hA25 => ?_)
        have hsz25 : SzN A25 26 := by rw [hA25]; infer_instance
        have hdf25 : A25.defers = [] := by rw [hA25]; simp only [df_put]; exact hdf22
        have l4_25 := lookE hA25 4 (et rfl)
        clear hA25 hsz22 hdf22 l0_22 l1_22 l5_22 l25_22
        refine then_n (hK24 _ _ ?_)
        clear hK24
        refine wp_ret ?_
        refine inb_ret ?_
        refine then_ret ?_
        refine then_ret ?_
        refine inb_ret ?_
        refine then_ret ?_
        refine ret_in (results_1 Try.results17 (rv_tmp l4_25)) hdf25 ?_
        -- leaf FTT
        rw [decide_eq_false (show ¬ xs = ys from eq_ne hy19 hy20 c23)]
        exact ⟨rfl, hS21.fin0⟩
      · skip
        refine wp_skip ?_
        refine inb_n ?_
        refine then_n (hK17 _ _ ?_)
        clear hK17
        -- region 5
        refine region_in ?_
        refine W_v rfl rfl (V_mov rfl l5_22) ?_
        refine W_v rfl rfl (V_add rfl (et rfl) rfl (by omega) (by omega)) ?_
        refine W_v rfl rfl (V_asg rfl (et rfl)) ?_
        refine W_end ?_
        refine gen_Q (fun A26 hA26 => ?_)
        have hsz26 : SzN A26 26 := by rw [hA26]; infer_instance
        have hdf26 : A26.defers = [] := by rw [hA26]; simp only [df_put]; exact hdf22
        have l0_26 := lookE hA26 0 (es rfl (es rfl (es rfl l0_22)))
        have l1_26 := lookE hA26 1 (es rfl (es rfl (es rfl l1_22)))
        have l5_26 := lookE hA26 5 (et rfl)
        clear hA26 hsz22 hdf22 l0_22 l1_22 l5_22 l25_22
        refine then_n ⟨xs.length - (k + 1), by simp only [hm12]; omega, hsz26, hdf26, (k + 1), rfl, (by omega), (eq_step hz hy19 hy20 (by omega)), ((l5_26).trans (by first | rfl | (simp; done) | (congr 1; omega))), ((l0_26).trans l0_11.symm), ((l1_26).trans l1_11.symm), hS21⟩
    · skip
      refine wp_exit ?_
      refine then_exit ?_
      refine then_exit ?_
      refine inb_hit ?_
      refine then_n (hK9 _ _ ?_)
      clear hK9
      refine wp_seq_k (fun K27 hK27 => ?_)
      -- region 8
      refine region_in ?_
      refine W_v rfl rfl (V_asg rfl rfl) ?_
      refine W_end ?_
      refine gen_Q (fun A28 hA28 => ?_)
      have hsz28 : SzN A28 26 := by rw [hA28]; infer_instance
      have hdf28 : A28.defers = [] := by rw [hA28]; simp only [df_put]; exact hdf15
      have l4_28 := lookE hA28 4 (et rfl)
      clear hA28 hsz15 hdf15 l0_15 l1_15 l5_15 l14_15
      refine then_n (hK27 _ _ ?_)
      clear hK27
      refine wp_ret ?_
      refine ret_in (results_1 Try.results17 (rv_tmp l4_28)) hdf28 ?_
      -- leaf FF
      rw [decide_eq_true (show xs = ys from eq_all hl (by omega) hz)]
      exact ⟨rfl, hS12.fin0⟩

end Go.Proofs.Ytbnijekjaafoaaa