import Derived.Test.YtnfgeekaeegolaaProg
import Derived.Test.YtnfgeekaeegolaaRc6
import Derived.Test.YtnfgeekaeegolaaSh09
import Derived.Test.YtnfgeekaeegolaaSepB
namespace Go.Proofs.Ytnfgeekaeegolaa
open Go.RowKit Go.Own Go.Own.R Go.Own.S Go.Own.F


set_option maxHeartbeats 4000000 in
theorem kkeys_c {v : Value} {m : List (Int × Int)} {ent : Array MapEntry} {ck : Nat} {w : World} (hp_v : Ro w NoX (mop .i64 v ent ck (iM m)))  :
    Calls Try.prog 70 #[v] w fun e w' => ∃ gb, e = .returned (.func (.func 77) #[] #[.pointer (some ⟨gb, 0, none⟩)]) ∧ St w NoX [bx gb 67 #[v]] w' := by
  refine calls_in 4 Try.func70 rfl rfl (by simp) (fun A0 hsz0 hdf0 hargs => ?_)
  have l0_0 := hargs 0 (v) rfl
  clear hargs; replace hsz0 : SzN A0 4 := ⟨hsz0⟩
  have hS := St.nil w
  refine wp_seq_k (fun K1 hK1 => ?_)
  refine region_in ?_
  refine W_boxS (zs := #[v]) hS rfl rfl rfl l0_0 (mop_cells (hS.ro hp_v)) (fun g2 w2 c2 hc2 hS2 => ?_)
  replace hS2 : St w NoX [c2] w2 := hS2
  refine W_v rfl rfl (V_asg rfl rfl) ?_
  refine W_end ?_
  refine gen_Q (fun A3 hA3 => ?_)
  have hsz3 := szq hA3
  have hdf3 : A3.defers = [] := by rw [hA3]; simp only [df_put]; exact hdf0
  have l1_3 := lookE hA3 1 (es rfl (et rfl))
  clear hA3 hsz0 hdf0 l0_0
  refine then_n (hK1 _ _ ?_)
  clear hK1
  refine wp_seq_k (fun K4 hK4 => ?_)
  refine region_in ?_
  refine W_v rfl rfl (V_mkf rfl (args0) (args1 l1_3)) ?_
  refine W_v rfl rfl (V_asg rfl (et rfl)) ?_
  refine W_end ?_
  refine gen_Q (fun A5 hA5 => ?_)
  have hsz5 := szq hA5
  have hdf5 : A5.defers = [] := by rw [hA5]; simp only [df_put]; exact hdf3
  have l2_5 := lookE hA5 2 (et rfl)
  clear hA5 hsz3 hdf3 l1_3
  refine then_n (hK4 _ _ ?_)
  clear hK4
  refine wp_ret ?_
  refine ret_in (results_1 Try.results70 (rv_tmp l2_5)) hdf5 ?_
  -- leaf 
  exact ⟨_, rfl, (hS2.fin1 0 rfl (hc2))⟩

set_option maxHeartbeats 4000000 in
theorem kas_c {v : Value} {m : List (Int × Int)} {ent : Array MapEntry} {ck : Nat} {gv : Nat} {w : World} (hb_v : Ro w NoX (bx gv 67 #[v])) (hp_v : Ro w NoX (mop .i64 v ent ck (iM m))) (hml : m.length ≤ 1000000) :
    Calls Try.prog 82 #[.slice none 0 0, .func (.func 77) #[] #[.pointer (some ⟨gv, 0, none⟩)]] w fun e w' => ∃ v1 xs, e = .returned (v1) ∧ (xs.Perm (m.map (·.1))) ∧ (xs = [] → v1 = .slice none 0 0) ∧ St w NoX [io .i64 (v1) (xs)] w' := by
  refine calls_inR 13 Try.func82 rfl rfl (by simp) (fun A0 hsz0 hdf0 hargs => ?_)
  have l0_0 := hargs 0 (.slice none 0 0) rfl
  have l1_0 := hargs 1 (.func (.func 77) #[] #[.pointer (some ⟨gv, 0, none⟩)]) rfl
  clear hargs; replace hsz0 : SzN A0 13 := ⟨hsz0⟩
  have hS := St.nil w
  refine R_seq (fun K1 hK1 => ?_)
  refine R_region (by kernel_rfl) ?_
  refine W_boxS (zs := #[.slice none 0 0]) hS rfl rfl rfl l0_0 (by rfl) (fun g2 w2 c2 hc2 hS2 => ?_)
  replace hS2 : St w NoX [c2] w2 := hS2
  refine W_v rfl rfl (V_asg rfl rfl) ?_
  refine W_end ?_
  refine Qo_normal ?_
  refine gen_Q (fun A3 hA3 => ?_)
  have hsz3 := szq hA3
  have hdf3 : A3.defers = [] := by rw [hA3]; simp only [df_put]; exact hdf0
  have l1_3 := lookE hA3 1 (es rfl (es rfl l1_0))
  have l2_3 := lookE hA3 2 (es rfl (et rfl))
  clear hA3 hsz0 hdf0 l0_0 l1_0
  refine then_n (hK1 _ _ ?_)
  clear hK1
  refine R_seq (fun K4 hK4 => ?_)
  refine R_seq (fun K5 hK5 => ?_)
  refine R_region (by kernel_rfl) ?_
  refine W_v rfl rfl (V_mov rfl l1_3) ?_
  refine W_end ?_
  refine Qo_normal ?_
  refine gen_Q (fun A6 hA6 => ?_)
  have hsz6 := szq hA6
  have hdf6 : A6.defers = [] := by rw [hA6]; simp only [df_put]; exact hdf3
  have l2_6 := lookE hA6 2 (es rfl l2_3)
  have l6_6 := lookE hA6 6 (et rfl)
  clear hA6 hsz3 hdf3 l1_3 l2_3
  refine then_n (hK5 _ _ ?_)
  clear hK5
  refine R_block ?_
  obtain ⟨c7, hc7, hS7⟩ := hS2.pnil (s := 1)
  refine R_rangeS (α := Int) l6_6 (fun args w => calls_enter Try.func77 rfl rfl args w) (kky_it (gv := gv) (v := v) (m := m) (ent := ent) (ck := ck) (Rd := fun W => (bx gv 67 #[v]).at W ∧ (mop .i64 v ent ck (iM m)).at W) (fun _ h => h)) (fun _ => rfl) (fun pre => pk (fun l => ∃ (bv : Value), (pre = [] → bv = .slice none 0 0) ∧ (pre.length ≤ 1000000) ∧ l = [io .i64 bv pre, bx g2 23 #[bv]])) (fun cQ pre => pk (fun l => False)) (St.pack (l := [io .i64 (.slice none 0 0) [], bx g2 23 #[(.slice none 0 0)]]) (fr := []) (by have q0 : c7 = io .i64 (.slice none 0 0) [] := hc7; have q1 : c2 = bx g2 23 #[(.slice none 0 0)] := hc2; subst q0 q1; exact hS7) ⟨(.slice none 0 0), (fun _ => rfl), (by simp), rfl⟩)
    (fun pre W l' hS => by obtain ⟨l, ⟨bv, hv0, hpl, rfl⟩, hl⟩ := pk_at (hS.ch 0 rfl); exact ⟨hS.ro hb_v, hS.ro hp_v⟩)
    (fun x a' cQ => SzN a' 13 ∧ a'.defers = [] ∧ EV a' (.tmp 2) = EV A6 (.tmp 2) ∧ EV a' (.tmp 5) = .int .i64 (x) ∧ cQ = pk (· = [])) ?_ ?_ ?_ ?_
  · intro la8 pre x wa8 fr K hSa8 hK
    simp only [id]
    rw [rnd1]
    obtain ⟨A9, hA9⟩ : ∃ A, A = (PT { tmps := A6.tmps, defers := [] } 7 (.int .i64 x)) := ⟨_, rfl⟩
    rw [← hA9]
    have hsz9 := szq hA9
    have hdf9 : A9.defers = [] := by rw [hA9]; rfl
    have l2_9 := lookE hA9 2 (es rfl (rnd_l l2_6))
    have l7_9 := lookE hA9 7 (et rfl)
    clear hA9
    obtain ⟨cI, hcI, hSa8⟩ := gen1 hSa8
    refine R_region (by kernel_rfl) ?_
    refine W_v rfl rfl (V_asg rfl l7_9) ?_
    refine W_end ?_
    refine Qo_normal ?_
    refine gen_Q (fun A10 hA10 => ?_)
    have hsz10 := szq hA10
    have hdf10 : A10.defers = [] := by rw [hA10]; simp only [df_put]; exact hdf9
    have l2_10 := lookE hA10 2 (es rfl l2_9)
    have l5_10 := lookE hA10 5 (et rfl)
    clear hA10 hsz9 hdf9 l2_9 l7_9
    refine then_n ?_
    refine hK _ _ _ ⟨hsz10, hdf10, (l2_10.trans l2_6.symm), l5_10, rfl⟩ ?_
    subst hcI; exact hSa8.asg0
  · rintro lb11 pre x A11 w11 cQ fr hAx hlr hS11 hVd
    obtain ⟨hsz11, hdf11, u2_11, l5_11, rfl⟩ := hAx
    have l2_11 := u2_11.trans l2_6
    obtain ⟨_, _, ⟨bv, hv0, hpl, rfl⟩, rfl, hS11⟩ := hS11.body2
    replace hS11 : St w NoX ((io .i64 bv pre) :: (bx g2 23 #[bv]) :: fr) w11 := hS11
    obtain ⟨c7_12, c2_12, hc7_12, hc2_12, hS11⟩ := gen2 hS11
    have hvl := vd_len hVd
    rw [List.length_append, List.length_singleton, List.length_map] at hvl
    refine R_block ?_
    refine R_region (by kernel_rfl) ?_
    refine W_r rfl rfl (VR_ldC rfl l2_11 (cell_box (v := bv) (hS11.obj 1 rfl hc2_12) rfl) Try.underlying23 rfl) ?_
    refine W_v rfl rfl (V_mov rfl (es rfl l5_11)) ?_
    have hll13 : [x].length = 1 := rfl
    refine W_litS (vs := [.int .i64 (x)]) (xs := ([x].map (Value.int .i64))) 1 hS11 rfl rfl rfl (parts1 (et rfl)) rfl Try.underlying23 (by kernel_rfl) (by decide) (by intro v hv; simp only [List.mem_cons, List.not_mem_nil, or_false] at hv; rcases hv with rfl <;> rfl) (by rfl) (fun g13 w13 c13 hc13 hS13 => ?_)
    replace hc13 : c13 = io .i64 (.slice (some ⟨g13, 0, none⟩) 1 1) [x] := hc13
    replace hS13 : St w NoX (c13 :: c7_12 :: c2_12 :: fr) w13 := hS13
    refine W_appS 1 1 hS13 rfl hc7_12 rfl rfl rfl (e2 rfl (et rfl)) (et rfl) Try.underlying23 Try.underlying23 (z := .int .i64 0) (bytes := 8) (by kernel_rfl) rfl (by decide) (ow_at (hS13.chq 0 rfl hc13)) ones_i (by first | omega | (simp; done) | (simp; omega)) (by first | omega | (simp; done) | (simp; omega)) (fun v14 w14 c14 hc14 hS14 => ?_)
    replace hc14 : c14 = io .i64 v14 (pre ++ [x]) := hc14.trans (app_eq (by simp))
    replace hS14 : St w NoX (c13 :: c14 :: c2_12 :: fr) w14 := hS14
    refine W_stCS (zs' := #[v14]) 2 hS14 rfl hc2_12 rfl rfl rfl (e3 rfl (es rfl l2_11)) (et rfl) (SlN_one (ow_at (hS14.chq 1 rfl hc14))) (by rfl) (by kernel_rfl) (by first | rfl | (simp only [List.setIfInBounds_toArray, List.set_cons_succ, List.set_cons_zero] <;> rfl)) (fun w15 c15 hc15 hS15 => ?_)
    replace hS15 : St w NoX (c13 :: c14 :: c15 :: fr) w15 := hS15
    refine W_end ?_
    refine Qo_normal ?_
    refine gen_Q (fun A16 hA16 => ?_)
    have hsz16 := szq hA16
    have hdf16 : A16.defers = [] := by rw [hA16]; simp only [df_put]; exact hdf11
    clear hA16 hsz11 hdf11 l2_11 l5_11
    have hS18 := hS15.del 0
    replace hS18 : St w NoX (c14 :: c15 :: fr) w15 := hS18
    refine inb_n ?_
    exact (St.pack (l := [io .i64 v14 (pre ++ [x]), bx g2 23 #[v14]]) (fr := fr) (by have q0 : c14 = io .i64 v14 (pre ++ [x]) := hc14; have q1 : c15 = bx g2 23 #[v14] := hc15; subst q0 q1; exact hS18) (⟨v14, (fun e => by simp at e), (by rw [List.length_append, List.length_singleton]; omega), rfl⟩))
  · intro D19 xs19 w19 hxs19 hS19
    obtain ⟨_, ⟨bv, hv0, hpl, rfl⟩, hS19⟩ := hS19.unpack
    replace hS19 : St w NoX ((io .i64 bv xs19) :: (bx g2 23 #[bv]) :: (ob D19 (.deferred (some []))) :: []) w19 := hS19
    obtain ⟨c7_19, c2_19, cD19, hc7_19, hc2_19, hcD19, hS19⟩ := gen3 hS19
    refine gen_Q (fun A19 hA19 => ?_)
    have hsz19 := szq hA19
    have hdf19 : A19.defers = [{ target := .collected D19, args := #[] }] := by rw [hA19, df_mk, hdf6] <;> rfl
    have l2_19 := lookE hA19 2 (mk_l l2_6)
    clear hA19
    refine inb_n ?_
    refine then_n (hK4 _ _ ?_)
    clear hK4
    refine R_seq (fun K20 hK20 => ?_)
    refine R_region (by kernel_rfl) ?_
    refine W_r rfl rfl (VR_ldC rfl l2_19 (cell_box (v := bv) (hS19.obj 1 rfl hc2_19) rfl) Try.underlying23 rfl) ?_
    refine W_v rfl rfl (V_asg rfl (et rfl)) ?_
    refine W_end ?_
    refine Qo_normal ?_
    refine gen_Q (fun A21 hA21 => ?_)
    have hsz21 := szq hA21
    have hdf21 : A21.defers = [{ target := .collected D19, args := #[] }] := by rw [hA21]; simp only [df_put]; exact hdf19
    have l4_21 := lookE hA21 4 (et rfl)
    clear hA21 hsz19 hdf19 l2_19
    have hS22 : St w NoX [c7_19, cD19] w19 := hS19.sel [0, 2] (by decide) rfl
    refine then_n (hK20 _ _ ?_)
    clear hK20
    refine R_ret ?_
    have hD23 := hS22.obj 1 rfl hcD19
    have hS23 := hS22.put (o' := .deferred none) 1 rfl hcD19
    obtain ⟨w23, hw23⟩ : ∃ w', w' = w19.putObj D19 (.deferred none) := ⟨_, rfl⟩
    rw [← hw23] at hS23
    replace hS23 : St w NoX [c7_19, (ob D19 (.deferred none))] w23 := hS23
    refine ret_inR1' (D := D19) (w1 := w23) hw23 (results_1 Try.results82 (rv_tmp l4_21)) hdf21 hD23 ?_
    -- leaf d
    exact ⟨_, _, rfl, hxs19, hv0, (hS23.fin1 0 rfl (hc7_19))⟩
  · intro D24 cQ pre w24 hpre hS24
    obtain ⟨_, h, _⟩ := hS24.unpack; exact h.elim

set_option maxHeartbeats 4000000 in
theorem kco_c {v : Value} {m : List (Int × Int)} {ent : Array MapEntry} {ck : Nat} {gv : Nat} {w : World} (hb_v : Ro w NoX (bx gv 67 #[v])) (hp_v : Ro w NoX (mop .i64 v ent ck (iM m))) (hml : m.length ≤ 1000000) :
    Calls Try.prog 76 #[.func (.func 77) #[] #[.pointer (some ⟨gv, 0, none⟩)]] w fun e w' => ∃ v1 xs, e = .returned (v1) ∧ (xs.Perm (m.map (·.1))) ∧ (xs = [] → v1 = .slice none 0 0) ∧ St w NoX [io .i64 (v1) (xs)] w' := by
  refine calls_in 5 Try.func76 rfl rfl (by simp) (fun A0 hsz0 hdf0 hargs => ?_)
  have l0_0 := hargs 0 (.func (.func 77) #[] #[.pointer (some ⟨gv, 0, none⟩)]) rfl
  clear hargs; replace hsz0 : SzN A0 5 := ⟨hsz0⟩
  have hS := St.nil w
  refine wp_seq_k (fun K1 hK1 => ?_)
  refine region_in ?_
  refine W_v rfl rfl (V_asg rfl rfl) ?_
  refine W_end ?_
  refine gen_Q (fun A2 hA2 => ?_)
  have hsz2 := szq hA2
  have hdf2 : A2.defers = [] := by rw [hA2]; simp only [df_put]; exact hdf0
  have l0_2 := lookE hA2 0 (es rfl l0_0)
  clear hA2 hsz0 hdf0 l0_0
  refine then_n (hK1 _ _ ?_)
  clear hK1
  refine wp_seq_k (fun K3 hK3 => ?_)
  refine region_in ?_
  refine W_v rfl rfl (V_mov rfl l0_2) ?_
  refine W_call rfl rfl rfl Try.func82 (by kernel_rfl) rfl (args2 rfl (et rfl)) (kas_c (gv := gv) (hS.roC hb_v) (hS.roC hp_v) (by first | with_reducible assumption | omega)) ?_
  rintro _ w4 ⟨v1_4, xs_4, rfl, hpm_4, hv0_4, hP4⟩
  refine ⟨_, rfl, ?_⟩
  obtain ⟨c_4, hc_4, hP4⟩ := gen1 hP4
  have hS4 := hS.join hP4
  replace hS4 : St w NoX [c_4] w4 := hS4
  refine W_v rfl rfl (V_asg rfl (et rfl)) ?_
  refine W_end ?_
  refine gen_Q (fun A5 hA5 => ?_)
  have hsz5 := szq hA5
  have hdf5 : A5.defers = [] := by rw [hA5]; simp only [df_put]; exact hdf2
  have l2_5 := lookE hA5 2 (et rfl)
  clear hA5 hsz2 hdf2 l0_2
  refine then_n (hK3 _ _ ?_)
  clear hK3
  refine wp_ret ?_
  refine ret_in (results_1 Try.results76 (rv_tmp l2_5)) hdf5 ?_
  -- leaf 
  exact ⟨_, _, rfl, hpm_4, hv0_4, (hS4.fin1 0 rfl (hc_4))⟩

set_option maxHeartbeats 4000000 in
theorem kso_c {v : Value} {m : List (Int × Int)} {ent : Array MapEntry} {ck : Nat} {gv : Nat} {w : World} (hb_v : Ro w NoX (bx gv 67 #[v])) (hp_v : Ro w NoX (mop .i64 v ent ck (iM m))) (hml : m.length ≤ 1000000) :
    Calls Try.prog 69 #[.func (.func 77) #[] #[.pointer (some ⟨gv, 0, none⟩)]] w fun e w' => ∃ v1, e = .returned (v1) ∧ St w NoX [io .i64 (v1) (sortL (m.map (·.1)))] w' := by
  refine calls_in 9 Try.func69 rfl rfl (by simp) (fun A0 hsz0 hdf0 hargs => ?_)
  have l0_0 := hargs 0 (.func (.func 77) #[] #[.pointer (some ⟨gv, 0, none⟩)]) rfl
  clear hargs; replace hsz0 : SzN A0 9 := ⟨hsz0⟩
  have hS := St.nil w
  refine wp_seq_k (fun K1 hK1 => ?_)
  refine region_in ?_
  refine W_v rfl rfl (V_asg rfl rfl) ?_
  refine W_end ?_
  refine gen_Q (fun A2 hA2 => ?_)
  have hsz2 := szq hA2
  have hdf2 : A2.defers = [] := by rw [hA2]; simp only [df_put]; exact hdf0
  have l0_2 := lookE hA2 0 (es rfl l0_0)
  clear hA2 hsz0 hdf0 l0_0
  refine then_n (hK1 _ _ ?_)
  clear hK1
  refine wp_seq_k (fun K3 hK3 => ?_)
  refine region_in ?_
  refine W_v rfl rfl (V_mov rfl l0_2) ?_
  refine W_call rfl rfl rfl Try.func76 (by kernel_rfl) rfl (args1 (et rfl)) (kco_c (gv := gv) (hS.roC hb_v) (hS.roC hp_v) (by first | with_reducible assumption | omega)) ?_
  rintro _ w4 ⟨v1_4, xs_4, rfl, hpm_4, hv0_4, hP4⟩
  refine ⟨_, rfl, ?_⟩
  obtain ⟨c_4, hc_4, hP4⟩ := gen1 hP4
  have hS4 := hS.join hP4
  replace hS4 : St w NoX [c_4] w4 := hS4
  refine W_v rfl rfl (V_asg rfl (et rfl)) ?_
  refine W_end ?_
  refine gen_Q (fun A5 hA5 => ?_)
  have hsz5 := szq hA5
  have hdf5 : A5.defers = [] := by rw [hA5]; simp only [df_put]; exact hdf2
  have l3_5 := lookE hA5 3 (et rfl)
  clear hA5 hsz2 hdf2 l0_2
  refine then_n (hK3 _ _ ?_)
  clear hK3
  refine wp_seq_k (fun K6 hK6 => ?_)
  refine region_in ?_
  refine W_v rfl rfl (V_mov rfl l3_5) ?_
  obtain ⟨Y7, hP7, hR7, hF7, hB7⟩ := St.call (pre := [c_4]) (fr := []) hS4
  rw [hc_4] at hP7
  refine W_call rfl rfl rfl Try.func75 (by kernel_rfl) rfl (args1 (et rfl)) ((sort_St3 (us := sortL xs_4) hP7 hv0_4 (sortL_len xs_4) (fun g off cap hH hg => Try.slices_Sort_int g off cap xs_4 _ hH hg (by have := hpm_4.length_eq; rw [List.length_map] at this; omega)) Try.slices_Sort_int_none)) ?_
  rintro _ w8 ⟨rfl, hP8⟩
  refine ⟨_, rfl, ?_⟩
  obtain ⟨c_8, hc_8, hP8⟩ := gen1 hP8
  have hS8 := hB7 _ _ hP8
  replace hS8 : St w NoX [c_8] w8 := hS8
  refine W_end ?_
  refine gen_Q (fun A9 hA9 => ?_)
  have hsz9 := szq hA9
  have hdf9 : A9.defers = [] := by rw [hA9]; simp only [df_put]; exact hdf5
  have l3_9 := lookE hA9 3 (es rfl (es rfl l3_5))
  clear hA9 hsz5 hdf5 l3_5
  refine then_n (hK6 _ _ ?_)
  clear hK6
  refine wp_seq_k (fun K10 hK10 => ?_)
  refine region_in ?_
  refine W_v rfl rfl (V_mov rfl l3_9) ?_
  refine W_v rfl rfl (V_asg rfl (et rfl)) ?_
  refine W_end ?_
  refine gen_Q (fun A11 hA11 => ?_)
  have hsz11 := szq hA11
  have hdf11 : A11.defers = [] := by rw [hA11]; simp only [df_put]; exact hdf9
  have l2_11 := lookE hA11 2 (et rfl)
  clear hA11 hsz9 hdf9 l3_9
  refine then_n (hK10 _ _ ?_)
  clear hK10
  refine wp_ret ?_
  refine ret_in (results_1 Try.results69 (rv_tmp l2_11)) hdf11 ?_
  -- leaf 
  exact ⟨_, rfl, (hS8.fin1 0 rfl (hc_8.trans (congrArg (io .i64 _) (sortL_pm (by assumption)))))⟩

set_option maxHeartbeats 4000000 in
theorem ksd_c {v : Value} {m : List (Int × Int)} {w : World} (h_v : Ro w NoX (mi v m)) (hml : m.length ≤ 1000000) :
    Calls Try.prog 59 #[v] w fun e w' => ∃ v1, e = .returned (v1) ∧ St w NoX [io .i64 (v1) (sortL (m.map (·.1)))] w' := by
  obtain ⟨ent, ck, hp_v⟩ := Ro_mop h_v
  refine calls_in 6 Try.func59 rfl rfl (by simp) (fun A0 hsz0 hdf0 hargs => ?_)
  have l0_0 := hargs 0 (v) rfl
  clear hargs; replace hsz0 : SzN A0 6 := ⟨hsz0⟩
  have hS := St.nil w
  refine wp_seq_k (fun K1 hK1 => ?_)
  refine region_in ?_
  refine W_v rfl rfl (V_asg rfl rfl) ?_
  refine W_end ?_
  refine gen_Q (fun A2 hA2 => ?_)
  have hsz2 := szq hA2
  have hdf2 : A2.defers = [] := by rw [hA2]; simp only [df_put]; exact hdf0
  have l0_2 := lookE hA2 0 (es rfl l0_0)
  clear hA2 hsz0 hdf0 l0_0
  refine then_n (hK1 _ _ ?_)
  clear hK1
  refine wp_seq_k (fun K3 hK3 => ?_)
  refine region_in ?_
  refine W_v rfl rfl (V_mov rfl l0_2) ?_
  refine W_call rfl rfl rfl Try.func70 (by kernel_rfl) rfl (args1 (et rfl)) (kkeys_c (hS.roC hp_v) ) ?_
  rintro _ w4 ⟨gb_4, rfl, hP4⟩
  refine ⟨_, rfl, ?_⟩
  obtain ⟨cb_4, hcb_4, hP4⟩ := gen1 hP4
  have hS4 := hS.join hP4
  replace hS4 : St w NoX [cb_4] w4 := hS4
  refine W_call rfl rfl rfl Try.func69 (by kernel_rfl) rfl (args1 (et rfl)) (kso_c (gv := gb_4) (hS4.chC 0 rfl hcb_4) (hS4.roC hp_v) (by first | with_reducible assumption | omega)) ?_
  rintro _ w5 ⟨v1_5, rfl, hP5⟩
  refine ⟨_, rfl, ?_⟩
  obtain ⟨c_5, hc_5, hP5⟩ := gen1 hP5
  have hS5 := hS4.join hP5
  replace hS5 : St w NoX [c_5, cb_4] w5 := hS5
  refine W_v rfl rfl (V_asg rfl (et rfl)) ?_
  refine W_end ?_
  refine gen_Q (fun A6 hA6 => ?_)
  have hsz6 := szq hA6
  have hdf6 : A6.defers = [] := by rw [hA6]; simp only [df_put]; exact hdf2
  have l2_6 := lookE hA6 2 (et rfl)
  clear hA6 hsz2 hdf2 l0_2
  have hS7 : St w NoX [c_5] w5 := hS5.sel [0] (by decide) rfl
  refine then_n (hK3 _ _ ?_)
  clear hK3
  refine wp_ret ?_
  refine ret_in (results_1 Try.results59 (rv_tmp l2_6)) hdf6 ?_
  -- leaf 
  exact ⟨_, rfl, (hS7.fin1 0 rfl (hc_5))⟩

end Go.Proofs.Ytnfgeekaeegolaa