import Derived.Test.YtnfgeekaeegolaaProg
import Derived.Test.YtnfgeekaeegolaaRd3
import Derived.Test.YtnfgeekaeegolaaSepW
namespace Go.Proofs.Ytnfgeekaeegolaa
open Go.RowKit Go.Own Go.Own.R Go.Own.S Go.Own.F


set_option maxHeartbeats 4000000 in
theorem awk_c  {w : World}   :
    Calls Try.prog 12 #[] w fun e w' => e = .returned (.bool true) ∧ St w NoX [] w' := by
  have hu0 : ∀ x ∈ ((((List.replicate 20 (0 : Int)).set 3 9).set 4 9).set 5 7), 0 ≤ x ∧ x ≤ 18446744073709551615 := by decide +kernel
  refine calls_in 117 Try.func12 rfl rfl (by simp) (fun A0 hsz0 hdf0 hargs => ?_)
  clear hargs; replace hsz0 : SzN A0 117 := ⟨hsz0⟩
  have hS := St.nil w
  refine wp_seq_k (fun K1 hK1 => ?_)
  refine region_in ?_
  refine W_v rfl rfl (V_asg rfl rfl) ?_
  refine W_end ?_
  refine gen_Q (fun A2 hA2 => ?_)
  have hsz2 := szq hA2
  have hdf2 : A2.defers = [] := by rw [hA2]; simp only [df_put]; exact hdf0
  clear hA2 hsz0 hdf0
  refine then_n (hK1 _ _ ?_)
  clear hK1
  refine wp_seq_k (fun K3 hK3 => ?_)
  refine region_in ?_
  refine W_mkS (z := .int .u64 0) (bytes := 8) 20 hS rfl rfl rfl rfl rfl (by omega) Try.underlying22 (by kernel_rfl) (by omega) rfl (fun v4 w4 c4 hc4 hS4 => ?_)
  replace hc4 : c4 = io .u64 v4 (List.replicate 20 (0 : Int)) := hc4.trans (by simp only [io, bo, List.map_replicate, List.length_replicate])
  replace hS4 : St w NoX [c4] w4 := hS4
  refine W_v rfl rfl (V_asg rfl (et rfl)) ?_
  refine W_end ?_
  refine gen_Q (fun A5 hA5 => ?_)
  have hsz5 := szq hA5
  have hdf5 : A5.defers = [] := by rw [hA5]; simp only [df_put]; exact hdf2
  have l1_5 := lookE hA5 1 (et rfl)
  clear hA5 hsz2 hdf2
  refine then_n (hK3 _ _ ?_)
  clear hK3
  refine wp_seq_k (fun K6 hK6 => ?_)
  refine region_in ?_
  refine W_v rfl rfl (V_mov rfl l1_5) ?_
  refine W_v rfl rfl (V_mov rfl (es rfl l1_5)) ?_
  refine W_v rfl rfl (V_mov rfl (es rfl (es rfl l1_5))) ?_
  have k7 : 3 < (List.replicate 20 (0 : Int)).length := by first | omega | (simp only [List.length_cons, List.length_nil]; omega) | (simp only [List.length_set]; omega) | decide
  obtain ⟨y7, hy7⟩ := get_some (xs := (List.replicate 20 (0 : Int))) (k := 3) k7
  obtain ⟨B7, O7, C7, hv7⟩ := (SlN.blk (ow_at (hS4.chq 0 rfl hc4)) (by first | omega | (simp only [List.length_cons, List.length_nil]; omega) | (simp only [List.length_set]; omega) | decide))
  refine W_v rfl rfl (V_ixS (off := O7 + 3) 1 (3) rfl (e2 rfl (et rfl)) rfl hv7 (by omega) k7 Try.underlying22 (by kernel_rfl) (congrArg _ (Nat.mul_one _))) ?_
  refine W_stE 0 hS4 rfl hc4 hv7 rfl rfl rfl (et rfl) rfl (by rfl) rfl (by first | (simp only [List.length_map]; omega) | omega) (by kernel_rfl) (fun w8 c8 hc8 hS8 => ?_)
  replace hc8 : c8 = io .u64 v4 ((List.replicate 20 (0 : Int)).set 3 9) := hc8.trans (by simp [io, bo, List.map_set] <;> rfl)
  replace hS8 : St w NoX [c8] w8 := hS8
  have k9 : 4 < ((List.replicate 20 (0 : Int)).set 3 9).length := by first | omega | (simp only [List.length_cons, List.length_nil]; omega) | (simp only [List.length_set]; omega) | decide
  obtain ⟨y9, hy9⟩ := get_some (xs := ((List.replicate 20 (0 : Int)).set 3 9)) (k := 4) k9
  obtain ⟨B9, O9, C9, hv9⟩ := (SlN.blk (ow_at (hS8.chq 0 rfl hc8)) (by first | omega | (simp only [List.length_cons, List.length_nil]; omega) | (simp only [List.length_set]; omega) | decide))
  refine W_v rfl rfl (V_ixS (off := O9 + 4) 1 (4) rfl (e2 rfl (et rfl)) rfl hv9 (by omega) k9 Try.underlying22 (by kernel_rfl) (congrArg _ (Nat.mul_one _))) ?_
  refine W_stE 0 hS8 rfl hc8 hv9 rfl rfl rfl (et rfl) rfl (by rfl) rfl (by first | (simp only [List.length_map]; omega) | omega) (by kernel_rfl) (fun w10 c10 hc10 hS10 => ?_)
  replace hc10 : c10 = io .u64 v4 (((List.replicate 20 (0 : Int)).set 3 9).set 4 9) := hc10.trans (by simp [io, bo, List.map_set] <;> rfl)
  replace hS10 : St w NoX [c10] w10 := hS10
  have k11 : 5 < (((List.replicate 20 (0 : Int)).set 3 9).set 4 9).length := by first | omega | (simp only [List.length_cons, List.length_nil]; omega) | (simp only [List.length_set]; omega) | decide
  obtain ⟨y11, hy11⟩ := get_some (xs := (((List.replicate 20 (0 : Int)).set 3 9).set 4 9)) (k := 5) k11
  obtain ⟨B11, O11, C11, hv11⟩ := (SlN.blk (ow_at (hS10.chq 0 rfl hc10)) (by first | omega | (simp only [List.length_cons, List.length_nil]; omega) | (simp only [List.length_set]; omega) | decide))
  refine W_v rfl rfl (V_ixS (off := O11 + 5) 1 (5) rfl (e2 rfl (et rfl)) rfl hv11 (by omega) k11 Try.underlying22 (by kernel_rfl) (congrArg _ (Nat.mul_one _))) ?_
  refine W_stE 0 hS10 rfl hc10 hv11 rfl rfl rfl (et rfl) rfl (by rfl) rfl (by first | (simp only [List.length_map]; omega) | omega) (by kernel_rfl) (fun w12 c12 hc12 hS12 => ?_)
  replace hc12 : c12 = io .u64 v4 ((((List.replicate 20 (0 : Int)).set 3 9).set 4 9).set 5 7) := hc12.trans (by simp [io, bo, List.map_set] <;> rfl)
  replace hS12 : St w NoX [c12] w12 := hS12
  refine W_end ?_
  refine gen_Q (fun A13 hA13 => ?_)
  have hsz13 := szq hA13
  have hdf13 : A13.defers = [] := by rw [hA13]; simp only [df_put]; exact hdf5
  have l1_13 := lookE hA13 1 (e5 rfl (es rfl l1_5))
  clear hA13 hsz5 hdf5 l1_5
  refine then_n (hK6 _ _ ?_)
  clear hK6
  refine wp_seq_k (fun K14 hK14 => ?_)
  refine region_in ?_
  have hll15 : [3, 4, 5, 6].length = 4 := rfl
  refine W_litS (vs := [.int .i64 3, .int .i64 4, .int .i64 5, .int .i64 6]) (xs := ([3, 4, 5, 6].map (Value.int .i64))) 1 hS12 rfl rfl rfl (parts4 rfl rfl rfl rfl) rfl Try.underlying23 (by kernel_rfl) (by decide) (by intro v hv; simp only [List.mem_cons, List.not_mem_nil, or_false] at hv; rcases hv with rfl | rfl | rfl | rfl <;> rfl) (by rfl) (fun g15 w15 c15 hc15 hS15 => ?_)
  replace hc15 : c15 = io .i64 (.slice (some ⟨g15, 0, none⟩) 4 4) [3, 4, 5, 6] := hc15
  replace hS15 : St w NoX [c15, c12] w15 := hS15
  refine W_call rfl rfl rfl Try.func36 (by kernel_rfl) rfl (args1 (et rfl)) (qOf_c (hS15.chC 0 rfl hc15).own ) ?_
  rintro _ w16 ⟨v_16, rfl, hP16⟩
  refine ⟨_, rfl, ?_⟩
  obtain ⟨c_16, hc_16, hP16⟩ := gen1 hP16
  have hS16 := hS15.join hP16
  replace hS16 : St w NoX [c_16, c15, c12] w16 := hS16
  refine W_v rfl rfl (V_mov rfl (et rfl)) ?_
  refine W_v rfl rfl (V_ext (v := .agg #[v_16]) rfl (et rfl) rfl) ?_
  refine W_v rfl rfl (V_ext (v := .int .i64 ((ofE [3, 4, 5, 6]))) rfl (es rfl (et rfl)) rfl) ?_
  refine W_allocS (z := .agg #[.slice none 0 0]) (zs := #[.slice none 0 0]) hS16 rfl rfl rfl (by kernel_rfl) (by rfl) (fun g17 w17 c17 hc17 hS17 => ?_)
  replace hS17 : St w NoX [c17, c_16, c15, c12] w17 := hS17
  refine W_stAS 0 hS17 rfl hc17 rfl rfl rfl (et rfl) (e2 rfl (et rfl)) (by simp only [List.all_toArray, List.all_cons, List.all_nil, SlN_one (ow_at (hS17.chq 1 rfl hc_16))] <;> rfl) (by rfl) (by kernel_rfl) (fun w18 c18 hc18 hS18 => ?_)
  replace hS18 : St w NoX [c18, c_16, c15, c12] w18 := hS18
  refine W_v rfl rfl (V_asg rfl (es rfl (et rfl))) ?_
  refine W_end ?_
  refine gen_Q (fun A19 hA19 => ?_)
  have hsz19 := szq hA19
  have hdf19 : A19.defers = [] := by rw [hA19]; simp only [df_put]; exact hdf13
  have l1_19 := lookE hA19 1 (e6 rfl (es rfl l1_13))
  have l2_19 := lookE hA19 2 (es rfl (et rfl))
  clear hA19 hsz13 hdf13 l1_13
  have hS20 : St w NoX [c18, c_16, c12] w18 := hS18.sel [0, 1, 3] (by decide) rfl
  refine then_n (hK14 _ _ ?_)
  clear hK14
  refine wp_seq_k (fun K21 hK21 => ?_)
  refine region_in ?_
  have hll22 : [20].length = 1 := rfl
  refine W_litS (vs := [.int .i64 20]) (xs := ([20].map (Value.int .i64))) 1 hS20 rfl rfl rfl (parts1 rfl) rfl Try.underlying23 (by kernel_rfl) (by decide) (by intro v hv; simp only [List.mem_cons, List.not_mem_nil, or_false] at hv; rcases hv with rfl <;> rfl) (by rfl) (fun g22 w22 c22 hc22 hS22 => ?_)
  replace hc22 : c22 = io .i64 (.slice (some ⟨g22, 0, none⟩) 1 1) [20] := hc22
  replace hS22 : St w NoX [c22, c18, c_16, c12] w22 := hS22
  refine W_call rfl rfl rfl Try.func36 (by kernel_rfl) rfl (args1 (et rfl)) (qOf_c (hS22.chC 0 rfl hc22).own ) ?_
  rintro _ w23 ⟨v_23, rfl, hP23⟩
  refine ⟨_, rfl, ?_⟩
  obtain ⟨c_23, hc_23, hP23⟩ := gen1 hP23
  have hS23 := hS22.join hP23
  replace hS23 : St w NoX [c_23, c22, c18, c_16, c12] w23 := hS23
  refine W_v rfl rfl (V_mov rfl (et rfl)) ?_
  refine W_v rfl rfl (V_ext (v := .agg #[v_23]) rfl (et rfl) rfl) ?_
  refine W_v rfl rfl (V_ext (v := .int .i64 ((ofE [20]))) rfl (es rfl (et rfl)) rfl) ?_
  refine W_allocS (z := .agg #[.slice none 0 0]) (zs := #[.slice none 0 0]) hS23 rfl rfl rfl (by kernel_rfl) (by rfl) (fun g24 w24 c24 hc24 hS24 => ?_)
  replace hS24 : St w NoX [c24, c_23, c22, c18, c_16, c12] w24 := hS24
  refine W_stAS 0 hS24 rfl hc24 rfl rfl rfl (et rfl) (e2 rfl (et rfl)) (by simp only [List.all_toArray, List.all_cons, List.all_nil, SlN_one (ow_at (hS24.chq 1 rfl hc_23))] <;> rfl) (by rfl) (by kernel_rfl) (fun w25 c25 hc25 hS25 => ?_)
  replace hS25 : St w NoX [c25, c_23, c22, c18, c_16, c12] w25 := hS25
  refine W_v rfl rfl (V_asg rfl (es rfl (et rfl))) ?_
  refine W_end ?_
  refine gen_Q (fun A26 hA26 => ?_)
  have hsz26 := szq hA26
  have hdf26 : A26.defers = [] := by rw [hA26]; simp only [df_put]; exact hdf19
  have l1_26 := lookE hA26 1 (e6 rfl (es rfl l1_19))
  have l2_26 := lookE hA26 2 (e6 rfl (es rfl l2_19))
  have l4_26 := lookE hA26 4 (es rfl (et rfl))
  clear hA26 hsz19 hdf19 l1_19 l2_19
  have hS27 : St w NoX [c25, c_23, c18, c_16, c12] w25 := hS25.sel [0, 1, 3, 4, 5] (by decide) rfl
  refine then_n (hK21 _ _ ?_)
  clear hK21
  refine wp_seq_k (fun K28 hK28 => ?_)
  refine region_in ?_
  refine W_v rfl rfl (V_mov rfl l1_26) ?_
  refine W_r rfl rfl (VR_ldA rfl (es rfl l2_26) (hS27.obj 2 rfl hc18) Try.underlying25 rfl (by kernel_rfl)) ?_
  refine W_call rfl rfl rfl Try.func13 (by kernel_rfl) rfl (args2 (es rfl (et rfl)) (et rfl)) (kct_c (hS27.chC 4 rfl hc12).own (hS27.chC 3 rfl hc_16).own (by with_reducible assumption)) ?_
  rintro _ w29 ⟨v_29, rfl, hP29⟩
  refine ⟨_, rfl, ?_⟩
  obtain ⟨c_29, hc_29, hP29⟩ := gen1 hP29
  have hS29 := hS27.join hP29
  replace hS29 : St w NoX [c_29, c25, c_23, c18, c_16, c12] w29 := hS29
  refine W_v rfl rfl (V_mov rfl (et rfl)) ?_
  refine W_v rfl rfl (V_ext (v := v_29) rfl (et rfl) rfl) ?_
  refine W_v rfl rfl (V_ext (v := .int .i64 ((slE ((((List.replicate 20 (0 : Int)).set 3 9).set 4 9).set 5 7) (ofT [3, 4, 5, 6])))) rfl (es rfl (et rfl)) rfl) ?_
  refine W_v rfl rfl (V_asg rfl (es rfl (et rfl))) ?_
  refine W_v rfl rfl (V_asg rfl (es rfl (et rfl))) ?_
  refine W_end ?_
  refine gen_Q (fun A30 hA30 => ?_)
  have hsz30 := szq hA30
  have hdf30 : A30.defers = [] := by rw [hA30]; simp only [df_put]; exact hdf26
  have l1_30 := lookE hA30 1 (e7 rfl (es rfl l1_26))
  have l2_30 := lookE hA30 2 (e7 rfl (es rfl l2_26))
  have l4_30 := lookE hA30 4 (e7 rfl (es rfl l4_26))
  have l6_30 := lookE hA30 6 (es rfl (et rfl))
  have l7_30 := lookE hA30 7 (et rfl)
  clear hA30 hsz26 hdf26 l1_26 l2_26 l4_26
  refine then_n (hK28 _ _ ?_)
  clear hK28
  refine wp_seq_k (fun K31 hK31 => ?_)
  refine region_in ?_
  refine W_v rfl rfl (V_mov rfl l1_30) ?_
  refine W_r rfl rfl (VR_ldA rfl (es rfl l2_30) (hS29.obj 3 rfl hc18) Try.underlying25 rfl (by kernel_rfl)) ?_
  refine W_call rfl rfl rfl Try.func15 (by kernel_rfl) rfl (args3 (es rfl (et rfl)) (et rfl) rfl) (kof_c (t := 9) (hS29.chC 5 rfl hc12).own (hS29.chC 4 rfl hc_16).own (by with_reducible assumption)) ?_
  rintro _ w32 ⟨rfl, hP32⟩
  refine ⟨_, rfl, ?_⟩
  have hS32 := hS29.join hP32
  replace hS32 : St w NoX [c_29, c25, c_23, c18, c_16, c12] w32 := hS32
  refine W_v rfl rfl (V_mov rfl (et rfl)) ?_
  refine W_v rfl rfl (V_ext (v := .int .i64 (((hoT ((((List.replicate 20 (0 : Int)).set 3 9).set 4 9).set 5 7) (ofT [3, 4, 5, 6]) 9).length : Int))) rfl (et rfl) rfl) ?_
  refine W_v rfl rfl (V_ext (v := .int .i64 ((hoE ((((List.replicate 20 (0 : Int)).set 3 9).set 4 9).set 5 7) (ofT [3, 4, 5, 6]) 9))) rfl (es rfl (et rfl)) rfl) ?_
  refine W_v rfl rfl (V_asg rfl (es rfl (et rfl))) ?_
  refine W_v rfl rfl (V_asg rfl (es rfl (et rfl))) ?_
  refine W_end ?_
  refine gen_Q (fun A33 hA33 => ?_)
  have hsz33 := szq hA33
  have hdf33 : A33.defers = [] := by rw [hA33]; simp only [df_put]; exact hdf30
  have l1_33 := lookE hA33 1 (e7 rfl (es rfl l1_30))
  have l2_33 := lookE hA33 2 (e7 rfl (es rfl l2_30))
  have l4_33 := lookE hA33 4 (e7 rfl (es rfl l4_30))
  have l6_33 := lookE hA33 6 (e7 rfl (es rfl l6_30))
  have l7_33 := lookE hA33 7 (e7 rfl (es rfl l7_30))
  have l8_33 := lookE hA33 8 (es rfl (et rfl))
  have l9_33 := lookE hA33 9 (et rfl)
  clear hA33 hsz30 hdf30 l1_30 l2_30 l4_30 l6_30 l7_30
  refine then_n (hK31 _ _ ?_)
  clear hK31
  refine wp_seq_k (fun K34 hK34 => ?_)
  refine region_in ?_
  refine W_v rfl rfl (V_mov rfl l1_33) ?_
  refine W_r rfl rfl (VR_ldA rfl (es rfl l2_33) (hS32.obj 3 rfl hc18) Try.underlying25 rfl (by kernel_rfl)) ?_
  refine W_call rfl rfl rfl Try.func18 (by kernel_rfl) rfl (args3 (es rfl (et rfl)) (et rfl) rfl) (kho_c (t := 9) (hS32.chC 5 rfl hc12).own (hS32.chC 4 rfl hc_16).own (by with_reducible assumption)) ?_
  rintro _ w35 ⟨v_35, rfl, hP35⟩
  refine ⟨_, rfl, ?_⟩
  obtain ⟨c_35, hc_35, hP35⟩ := gen1 hP35
  have hS35 := hS32.join hP35
  replace hS35 : St w NoX [c_35, c_29, c25, c_23, c18, c_16, c12] w35 := hS35
  refine W_v rfl rfl (V_mov rfl (et rfl)) ?_
  refine W_v rfl rfl (V_ext (v := v_35) rfl (et rfl) rfl) ?_
  refine W_v rfl rfl (V_ext (v := .int .i64 ((hoE ((((List.replicate 20 (0 : Int)).set 3 9).set 4 9).set 5 7) (ofT [3, 4, 5, 6]) 9))) rfl (es rfl (et rfl)) rfl) ?_
  refine W_v rfl rfl (V_asg rfl (es rfl (et rfl))) ?_
  refine W_v rfl rfl (V_asg rfl (es rfl (et rfl))) ?_
  refine W_end ?_
  refine gen_Q (fun A36 hA36 => ?_)
  have hsz36 := szq hA36
  have hdf36 : A36.defers = [] := by rw [hA36]; simp only [df_put]; exact hdf33
  have l1_36 := lookE hA36 1 (e7 rfl (es rfl l1_33))
  have l4_36 := lookE hA36 4 (e7 rfl (es rfl l4_33))
  have l6_36 := lookE hA36 6 (e7 rfl (es rfl l6_33))
  have l7_36 := lookE hA36 7 (e7 rfl (es rfl l7_33))
  have l8_36 := lookE hA36 8 (e7 rfl (es rfl l8_33))
  have l9_36 := lookE hA36 9 (e7 rfl (es rfl l9_33))
  have l10_36 := lookE hA36 10 (es rfl (et rfl))
  have l11_36 := lookE hA36 11 (et rfl)
  clear hA36 hsz33 hdf33 l1_33 l2_33 l4_33 l6_33 l7_33 l8_33 l9_33
  have hS37 : St w NoX [c_35, c_29, c25, c_23, c12] w35 := hS35.sel [0, 1, 2, 3, 6] (by decide) rfl
  refine then_n (hK34 _ _ ?_)
  clear hK34
  refine wp_seq_k (fun K38 hK38 => ?_)
  refine region_in ?_
  refine W_v rfl rfl (V_mov rfl l6_36) ?_
  refine W_call rfl rfl rfl Try.func26 (by kernel_rfl) rfl (args2 (et rfl) rfl) (kpp_c (q := 2) (hS37.chC 1 rfl hc_29).own ) ?_
  rintro _ w39 ⟨v_39, rfl, hP39⟩
  refine ⟨_, rfl, ?_⟩
  obtain ⟨c_39, hc_39, hP39⟩ := gen1 hP39
  have hS39 := hS37.join hP39
  replace hS39 : St w NoX [c_39, c_35, c_29, c25, c_23, c12] w39 := hS39
  refine W_v rfl rfl (V_mov rfl (et rfl)) ?_
  refine W_v rfl rfl (V_ext (v := v_39) rfl (et rfl) rfl) ?_
  refine W_v rfl rfl (V_ext (v := .int .i64 ((ppE (coT ((((List.replicate 20 (0 : Int)).set 3 9).set 4 9).set 5 7) (ofT [3, 4, 5, 6])) 2))) rfl (es rfl (et rfl)) rfl) ?_
  refine W_v rfl rfl (V_asg rfl (es rfl (et rfl))) ?_
  refine W_v rfl rfl (V_asg rfl (es rfl (et rfl))) ?_
  refine W_end ?_
  refine gen_Q (fun A40 hA40 => ?_)
  have hsz40 := szq hA40
  have hdf40 : A40.defers = [] := by rw [hA40]; simp only [df_put]; exact hdf36
  have l1_40 := lookE hA40 1 (e6 rfl (es rfl l1_36))
  have l4_40 := lookE hA40 4 (e6 rfl (es rfl l4_36))
  have l6_40 := lookE hA40 6 (e6 rfl (es rfl l6_36))
  have l7_40 := lookE hA40 7 (e6 rfl (es rfl l7_36))
  have l8_40 := lookE hA40 8 (e6 rfl (es rfl l8_36))
  have l9_40 := lookE hA40 9 (e6 rfl (es rfl l9_36))
  have l10_40 := lookE hA40 10 (e6 rfl (es rfl l10_36))
  have l11_40 := lookE hA40 11 (e6 rfl (es rfl l11_36))
  have l12_40 := lookE hA40 12 (es rfl (et rfl))
  have l13_40 := lookE hA40 13 (et rfl)
  clear hA40 hsz36 hdf36 l1_36 l4_36 l6_36 l7_36 l8_36 l9_36 l10_36 l11_36
  refine then_n (hK38 _ _ ?_)
  clear hK38
  refine wp_seq_k (fun K41 hK41 => ?_)
  refine region_in ?_
  refine W_v rfl rfl (V_mov rfl l6_40) ?_
  refine W_call rfl rfl rfl Try.func25 (by kernel_rfl) rfl (args1 (et rfl)) (kmx_c (hS39.chC 2 rfl hc_29).own ) ?_
  rintro _ w42 ⟨rfl, hP42⟩
  refine ⟨_, rfl, ?_⟩
  have hS42 := hS39.join hP42
  replace hS42 : St w NoX [c_39, c_35, c_29, c25, c_23, c12] w42 := hS42
  generalize hmx : mxT (coT ((((List.replicate 20 (0 : Int)).set 3 9).set 4 9).set 5 7) (ofT [3, 4, 5, 6])) = mx
  refine W_v rfl rfl (V_mov rfl (et rfl)) ?_
  refine W_v rfl rfl (V_ext (v := .agg #[.int .i64 (mx.1), .int .i64 (mx.2)]) rfl (et rfl) rfl) ?_
  refine W_v rfl rfl (V_ext (v := .int .i64 ((mxE (coT ((((List.replicate 20 (0 : Int)).set 3 9).set 4 9).set 5 7) (ofT [3, 4, 5, 6]))))) rfl (es rfl (et rfl)) rfl) ?_
  refine W_allocS (z := .agg #[.int .i64 0, .int .i64 0]) (zs := #[.int .i64 0, .int .i64 0]) hS42 rfl rfl rfl (by kernel_rfl) (by rfl) (fun g43 w43 c43 hc43 hS43 => ?_)
  replace hS43 : St w NoX [c43, c_39, c_35, c_29, c25, c_23, c12] w43 := hS43
  refine W_stAS 0 hS43 rfl hc43 rfl rfl rfl (et rfl) (e2 rfl (et rfl)) (by first | (rw [List.all_toArray] <;> rfl) | (simp only [List.all_toArray, List.all_cons, List.all_nil] <;> rfl)) (by rfl) (by kernel_rfl) (fun w44 c44 hc44 hS44 => ?_)
  replace hS44 : St w NoX [c44, c_39, c_35, c_29, c25, c_23, c12] w44 := hS44
  refine W_v rfl rfl (V_asg rfl (es rfl (et rfl))) ?_
  refine W_end ?_
  refine gen_Q (fun A45 hA45 => ?_)
  have hsz45 := szq hA45
  have hdf45 : A45.defers = [] := by rw [hA45]; simp only [df_put]; exact hdf40
  have l1_45 := lookE hA45 1 (e6 rfl (es rfl l1_40))
  have l4_45 := lookE hA45 4 (e6 rfl (es rfl l4_40))
  have l6_45 := lookE hA45 6 (e6 rfl (es rfl l6_40))
  have l7_45 := lookE hA45 7 (e6 rfl (es rfl l7_40))
  have l8_45 := lookE hA45 8 (e6 rfl (es rfl l8_40))
  have l9_45 := lookE hA45 9 (e6 rfl (es rfl l9_40))
  have l10_45 := lookE hA45 10 (e6 rfl (es rfl l10_40))
  have l11_45 := lookE hA45 11 (e6 rfl (es rfl l11_40))
  have l12_45 := lookE hA45 12 (e6 rfl (es rfl l12_40))
  have l13_45 := lookE hA45 13 (e6 rfl (es rfl l13_40))
  have l14_45 := lookE hA45 14 (es rfl (et rfl))
  have l15_45 := lookE hA45 15 (et rfl)
  clear hA45 hsz40 hdf40 l1_40 l4_40 l6_40 l7_40 l8_40 l9_40 l10_40 l11_40 l12_40 l13_40
  refine then_n (hK41 _ _ ?_)
  clear hK41
  refine wp_seq_k (fun K46 hK46 => ?_)
  refine region_in ?_
  refine W_v rfl rfl (V_mov rfl l1_45) ?_
  refine W_r rfl rfl (VR_ldA rfl (es rfl l4_45) (hS44.obj 4 rfl hc25) Try.underlying25 rfl (by kernel_rfl)) ?_
  refine W_call rfl rfl rfl Try.func13 (by kernel_rfl) rfl (args2 (es rfl (et rfl)) (et rfl)) (kct_c (hS44.chC 6 rfl hc12).own (hS44.chC 5 rfl hc_23).own (by with_reducible assumption)) ?_
  rintro _ w47 ⟨v_47, rfl, hP47⟩
  refine ⟨_, rfl, ?_⟩
  obtain ⟨c_47, hc_47, hP47⟩ := gen1 hP47
  have hS47 := hS44.join hP47
  replace hS47 : St w NoX [c_47, c44, c_39, c_35, c_29, c25, c_23, c12] w47 := hS47
  refine W_v rfl rfl (V_mov rfl (et rfl)) ?_
  refine W_v rfl rfl (V_ext (v := v_47) rfl (et rfl) rfl) ?_
  refine W_v rfl rfl (V_ext (v := .int .i64 ((slE ((((List.replicate 20 (0 : Int)).set 3 9).set 4 9).set 5 7) (ofT [20])))) rfl (es rfl (et rfl)) rfl) ?_
  refine W_v rfl rfl (V_asg rfl (es rfl (et rfl))) ?_
  refine W_v rfl rfl (V_asg rfl (es rfl (et rfl))) ?_
  refine W_end ?_
  refine gen_Q (fun A48 hA48 => ?_)
  have hsz48 := szq hA48
  have hdf48 : A48.defers = [] := by rw [hA48]; simp only [df_put]; exact hdf45
  have l6_48 := lookE hA48 6 (e7 rfl (es rfl l6_45))
  have l7_48 := lookE hA48 7 (e7 rfl (es rfl l7_45))
  have l8_48 := lookE hA48 8 (e7 rfl (es rfl l8_45))
  have l9_48 := lookE hA48 9 (e7 rfl (es rfl l9_45))
  have l10_48 := lookE hA48 10 (e7 rfl (es rfl l10_45))
  have l11_48 := lookE hA48 11 (e7 rfl (es rfl l11_45))
  have l12_48 := lookE hA48 12 (e7 rfl (es rfl l12_45))
  have l13_48 := lookE hA48 13 (e7 rfl (es rfl l13_45))
  have l14_48 := lookE hA48 14 (e7 rfl (es rfl l14_45))
  have l15_48 := lookE hA48 15 (e7 rfl (es rfl l15_45))
  have l17_48 := lookE hA48 17 (et rfl)
  clear hA48 hsz45 hdf45 l1_45 l4_45 l6_45 l7_45 l8_45 l9_45 l10_45 l11_45 l12_45 l13_45 l14_45 l15_45
  have hS49 : St w NoX [c44, c_39, c_35, c_29] w47 := hS47.sel [1, 2, 3, 4] (by decide) rfl
  refine then_n (hK46 _ _ ?_)
  clear hK46
  refine wp_seq_k (fun K50 hK50 => ?_)
  refine region_in ?_
  refine W_v rfl rfl (V_mov rfl l6_48) ?_
  refine W_v rfl rfl (V_bldS (n := 2) (z := .agg #[.int .i64 0, .int .i64 0]) rfl (parts2 rfl rfl) (by kernel_rfl) (by simp only [List.all_cons, List.all_nil, Bool.and_true] <;> rfl) (by kernel_rfl) (by simp only [List.foldl_cons, List.foldl_nil, Value.cells, List.setIfInBounds_toArray, List.set_cons_succ, List.set_cons_zero] <;> rfl)) ?_
  refine W_v rfl rfl (V_bldS (n := 2) (z := .agg #[.int .i64 0, .int .i64 0]) rfl (parts2 rfl rfl) (by kernel_rfl) (by simp only [List.all_cons, List.all_nil, Bool.and_true] <;> rfl) (by kernel_rfl) (by simp only [List.foldl_cons, List.foldl_nil, Value.cells, List.setIfInBounds_toArray, List.set_cons_succ, List.set_cons_zero] <;> rfl)) ?_
  have hll51 : [(7, 1), (9, 2)].length = 2 := rfl
  refine W_litS (vs := [.agg #[.int .i64 7, .int .i64 1], .agg #[.int .i64 9, .int .i64 2]]) (xs := ([(7, 1), (9, 2)].flatMap rcC)) 2 hS49 rfl rfl rfl (parts2 (es rfl (et rfl)) (et rfl)) rfl Try.underlying28 (by kernel_rfl) (by decide) (by intro v hv; simp only [List.mem_cons, List.not_mem_nil, or_false] at hv; rcases hv with rfl | rfl <;> rfl) (by rfl) (fun g51 w51 c51 hc51 hS51 => ?_)
  replace hc51 : c51 = ro 2 rcC (.slice (some ⟨g51, 0, none⟩) 2 2) [(7, 1), (9, 2)] := hc51
  replace hS51 : St w NoX [c51, c44, c_39, c_35, c_29] w51 := hS51
  refine W_call rfl rfl rfl Try.func17 (by kernel_rfl) rfl (args2 (e3 rfl (et rfl)) (et rfl)) (qSm9_c (hS51.chC 4 rfl hc_29).own (hS51.chC 0 rfl hc51).own ) ?_
  rintro _ w52 ⟨rfl, hP52⟩
  refine ⟨_, rfl, ?_⟩
  have hS52 := hS51.join hP52
  replace hS52 : St w NoX [c51, c44, c_39, c_35, c_29] w52 := hS52
  refine W_sure (c' := true) rfl rfl (V_mov rfl (et rfl)) (by decide +kernel) ?_
  refine W_v rfl (wanted_t rfl rfl (et rfl) (ez rfl)) (V_mov rfl (e5 rfl (es rfl l7_48))) ?_
  refine W_v rfl (wanted_t rfl rfl (es rfl (et rfl)) (ez rfl)) (V_eql rfl (et rfl) rfl) ?_
  refine W_v rfl rfl (V_pickT rfl (e2 rfl (et rfl)) (et rfl)) ?_
  refine W_sure (c' := true) rfl rfl (V_mov rfl (et rfl)) (by decide +kernel) ?_
  refine W_v rfl (wanted_t rfl rfl (et rfl) (ez rfl)) (V_mov rfl (e9 rfl (es rfl l8_48))) ?_
  refine W_v rfl (wanted_t rfl rfl (es rfl (et rfl)) (ez rfl)) (V_eql rfl (et rfl) rfl) ?_
  refine W_v rfl rfl (V_pickT rfl (e2 rfl (et rfl)) (et rfl)) ?_
  refine W_sure (c' := true) rfl rfl (V_mov rfl (et rfl)) (by decide +kernel) ?_
  refine W_v rfl (wanted_t rfl rfl (et rfl) (ez rfl)) (V_mov rfl (e13 rfl (es rfl l9_48))) ?_
  refine W_v rfl (wanted_t rfl rfl (es rfl (et rfl)) (ez rfl)) (V_eql rfl (et rfl) rfl) ?_
  refine W_v rfl rfl (V_pickT rfl (e2 rfl (et rfl)) (et rfl)) ?_
  refine W_sure (c' := true) rfl rfl (V_mov rfl (et rfl)) (by decide +kernel) ?_
  refine W_v rfl (wanted_t rfl rfl (et rfl) (ez rfl)) (V_mov rfl (e17 rfl (es rfl l10_48))) ?_
  have hll53 : [3, 4].length = 2 := rfl
  refine W_litS (vs := [.int .i64 3, .int .i64 4]) (xs := ([3, 4].map (Value.int .i64))) 1 hS52 rfl (wanted_t rfl rfl (es rfl (et rfl)) (ez rfl)) rfl (parts2 rfl rfl) rfl Try.underlying23 (by kernel_rfl) (by decide) (by intro v hv; simp only [List.mem_cons, List.not_mem_nil, or_false] at hv; rcases hv with rfl | rfl <;> rfl) (by rfl) (fun g53 w53 c53 hc53 hS53 => ?_)
  replace hc53 : c53 = io .i64 (.slice (some ⟨g53, 0, none⟩) 2 2) [3, 4] := hc53
  replace hS53 : St w NoX [c53, c51, c44, c_39, c_35, c_29] w53 := hS53
  refine W_call rfl (wanted_t rfl rfl (e2 rfl (et rfl)) (ez rfl)) rfl Try.func20 (by kernel_rfl) rfl (args2 (es rfl (et rfl)) (et rfl)) (qInts_c (hS53.chC 4 rfl hc_35).own (hS53.chC 0 rfl hc53).own ) ?_
  rintro _ w54 ⟨rfl, hP54⟩
  refine ⟨_, rfl, ?_⟩
  have hS54 := hS53.join hP54
  replace hS54 : St w NoX [c53, c51, c44, c_39, c_35, c_29] w54 := hS54
  refine W_v rfl rfl (V_pickT rfl (e3 rfl (et rfl)) (et rfl)) ?_
  refine W_sure (c' := true) rfl rfl (V_mov rfl (et rfl)) (by decide +kernel) ?_
  refine W_v rfl (wanted_t rfl rfl (et rfl) (ez rfl)) (V_mov rfl (e22 rfl (es rfl l11_48))) ?_
  refine W_v rfl (wanted_t rfl rfl (es rfl (et rfl)) (ez rfl)) (V_eql rfl (et rfl) rfl) ?_
  refine W_v rfl rfl (V_pickT rfl (e2 rfl (et rfl)) (et rfl)) ?_
  refine W_sure (c' := true) rfl rfl (V_mov rfl (et rfl)) (by decide +kernel) ?_
  refine W_v rfl (wanted_t rfl rfl (et rfl) (ez rfl)) (V_mov rfl (e25 rfl (es rfl (es rfl l12_48)))) ?_
  have hll55 : [9].length = 1 := rfl
  refine W_litS (vs := [.int .i64 9]) (xs := ([9].map (Value.int .i64))) 1 hS54 rfl (wanted_t rfl rfl (es rfl (et rfl)) (ez rfl)) rfl (parts1 rfl) rfl Try.underlying23 (by kernel_rfl) (by decide) (by intro v hv; simp only [List.mem_cons, List.not_mem_nil, or_false] at hv; rcases hv with rfl <;> rfl) (by rfl) (fun g55 w55 c55 hc55 hS55 => ?_)
  replace hc55 : c55 = io .i64 (.slice (some ⟨g55, 0, none⟩) 1 1) [9] := hc55
  replace hS55 : St w NoX [c55, c53, c51, c44, c_39, c_35, c_29] w55 := hS55
  refine W_call rfl (wanted_t rfl rfl (e2 rfl (et rfl)) (ez rfl)) rfl Try.func20 (by kernel_rfl) rfl (args2 (es rfl (et rfl)) (et rfl)) (qInts_c (hS55.chC 4 rfl hc_39).own (hS55.chC 0 rfl hc55).own ) ?_
  rintro _ w56 ⟨rfl, hP56⟩
  refine ⟨_, rfl, ?_⟩
  have hS56 := hS55.join hP56
  replace hS56 : St w NoX [c55, c53, c51, c44, c_39, c_35, c_29] w56 := hS56
  refine W_v rfl rfl (V_pickT rfl (e3 rfl (et rfl)) (et rfl)) ?_
  refine W_sure (c' := true) rfl rfl (V_mov rfl (et rfl)) (by decide +kernel) ?_
  refine W_v rfl (wanted_t rfl rfl (et rfl) (ez rfl)) (V_mov rfl (e25 rfl (es rfl (es rfl (es rfl (es rfl (es rfl (es rfl (es rfl l13_48))))))))) ?_
  refine W_v rfl (wanted_t rfl rfl (es rfl (et rfl)) (ez rfl)) (V_eql rfl (et rfl) rfl) ?_
  refine W_v rfl rfl (V_pickT rfl (e2 rfl (et rfl)) (et rfl)) ?_
  refine W_sure (c' := true) rfl rfl (V_mov rfl (et rfl)) (by decide +kernel) ?_
  refine W_r rfl (wanted_t rfl rfl (et rfl) (ez rfl)) (VR_ldA rfl (e25 rfl (es rfl (es rfl (es rfl (es rfl (es rfl (es rfl (es rfl (es rfl (es rfl (es rfl (es rfl l14_48)))))))))))) (hS56.obj 3 rfl hc44) Try.underlying42 rfl (by kernel_rfl)) ?_
  refine W_v rfl (wanted_t rfl rfl (es rfl (et rfl)) (ez rfl)) (V_bldS (n := 2) (z := .agg #[.int .i64 0, .int .i64 0]) rfl (parts2 rfl rfl) (by kernel_rfl) (by simp only [List.all_cons, List.all_nil, Bool.and_true] <;> rfl) (by kernel_rfl) (by simp only [List.foldl_cons, List.foldl_nil, Value.cells, List.setIfInBounds_toArray, List.set_cons_succ, List.set_cons_zero] <;> rfl)) ?_
  refine W_v rfl (wanted_t rfl rfl (e2 rfl (et rfl)) (ez rfl)) (V_eqSt2 rfl (es rfl (et rfl)) (et rfl) (by kernel_rfl)) ?_
  refine W_v rfl rfl (V_pickT rfl (e3 rfl (et rfl)) (et rfl)) ?_
  refine W_sure (c' := true) rfl rfl (V_mov rfl (et rfl)) (by rw [← hmx]; decide +kernel) ?_
  refine W_v rfl (wanted_t rfl rfl (et rfl) (ez rfl)) (V_mov rfl (e25 rfl (es rfl (es rfl (es rfl (es rfl (es rfl (es rfl (es rfl (es rfl (es rfl (es rfl (es rfl (es rfl (es rfl (es rfl (es rfl (es rfl l15_48)))))))))))))))))) ?_
  refine W_v rfl (wanted_t rfl rfl (es rfl (et rfl)) (ez rfl)) (V_eql rfl (et rfl) rfl) ?_
  refine W_v rfl rfl (V_pickT rfl (e2 rfl (et rfl)) (et rfl)) ?_
  refine W_sure (c' := true) rfl rfl (V_mov rfl (et rfl)) (by decide +kernel) ?_
  refine W_v rfl (wanted_t rfl rfl (et rfl) (ez rfl)) (V_mov rfl (e25 rfl (es rfl (es rfl (es rfl (es rfl (es rfl (es rfl (es rfl (es rfl (es rfl (es rfl (es rfl (es rfl (es rfl (es rfl (es rfl (es rfl (es rfl (es rfl (es rfl (es rfl l17_48)))))))))))))))))))))) ?_
  refine W_v rfl (wanted_t rfl rfl (es rfl (et rfl)) (ez rfl)) (V_eql rfl (et rfl) rfl) ?_
  refine W_v rfl rfl (V_pickT rfl (e2 rfl (et rfl)) (et rfl)) ?_
  refine W_v rfl rfl (V_asg rfl (et rfl)) ?_
  refine W_end ?_
  refine gen_Q (fun A57 hA57 => ?_)
  have hsz57 := szq hA57
  have hdf57 : A57.defers = [] := by rw [hA57]; simp only [df_put]; exact hdf48
  have l0_57 := lookE hA57 0 (et rfl)
  clear hA57 hsz48 hdf48 l6_48 l7_48 l8_48 l9_48 l10_48 l11_48 l12_48 l13_48 l14_48 l15_48 l17_48
  have hS58 : St w NoX [] w56 := hS56.sel [] (by decide) rfl
  refine then_n (hK50 _ _ ?_)
  clear hK50
  refine wp_ret ?_
  refine ret_in (results_1 Try.results12 (rv_tmp l0_57)) hdf57 ?_
  -- leaf 
  rw [show true = decide ((slE ((((List.replicate 20 (0 : Int)).set 3 9).set 4 9).set 5 7) (ofT [20])) = 7) by decide +kernel]
  exact ⟨rfl, hS58.fin0⟩

end Go.Proofs.Ytnfgeekaeegolaa