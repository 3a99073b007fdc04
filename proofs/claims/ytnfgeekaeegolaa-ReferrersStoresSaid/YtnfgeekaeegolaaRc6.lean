import Derived.Test.YtnfgeekaeegolaaProg
import Derived.Test.YtnfgeekaeegolaaRc5
namespace Go.Proofs.Ytnfgeekaeegolaa
open Go.RowKit Go.Own Go.Own.R Go.Own.S Go.Own.F


set_option maxHeartbeats 4000000 in
theorem kky_it {gv : Nat} {v : Value} {m : List (Int × Int)} {ent : Array MapEntry} {ck : Nat} {Rd : World → Prop} (hRd : ∀ W, Rd W → (bx gv 67 #[v]).at W ∧ (mop .i64 v ent ck (iM m)).at W)  :
    Iter (α := Int) Try.prog 77 #[.pointer (some ⟨gv, 0, none⟩)] (fun x : Int => #[.int .i64 x]) (fun xs => List.Perm xs (m.map (·.1))) (fun xs => ∃ t, List.Perm (xs ++ t) (m.map (·.1))) (fun xs => ∃ t, List.Perm (xs ++ t) (m.map (·.1))) Rd := by
  intro l wb X cs ij J Jx w hij hR hY hS
  obtain ⟨hS, hback⟩ := hS.front hij
  clear hij
  generalize cs.eraseIdx ij = rest at hS hback
  obtain ⟨cj, hcj⟩ : ∃ c, c = J [] := ⟨_, rfl⟩
  rw [← hcj] at hS
  refine calls_inR 14 Try.func77 rfl rfl (by simp) (fun A0 hsz0 hdf0 hargs => ?_)
  have l0_0 := hargs 0 (.func (.yield l) #[] #[]) rfl
  have l1_0 := hargs 1 (.pointer (some ⟨gv, 0, none⟩)) rfl
  clear hargs; replace hsz0 : SzN A0 14 := ⟨hsz0⟩
  refine R_seq (fun K1 hK1 => ?_)
  refine R_region (by kernel_rfl) ?_
  refine W_r rfl rfl (VR_ldC rfl l1_0 (cell_box (v := v) (ob_at (hRd _ (hR _ _ _ 0 hS (congrArg some hcj))).1) rfl) Try.underlying67 rfl) ?_
  refine W_rangeV hS (hRd _ (hR _ _ _ 0 hS (congrArg some hcj))).2 rfl rfl rfl (et rfl) Try.underlying67 (fun r3 w3 c3 hc3 hS3 => ?_)
  replace hS3 : St wb X (c3 :: cj :: rest) w3 := hS3
  refine W_end ?_
  refine Qo_normal ?_
  refine gen_Q (fun A4 hA4 => ?_)
  have hsz4 := szq hA4
  have hdf4 : A4.defers = [] := by rw [hA4]; simp only [df_put]; exact hdf0
  have l0_4 := lookE hA4 0 (es rfl (es rfl l0_0))
  have l5_4 := lookE hA4 5 (et rfl)
  clear hA4 hsz0 hdf0 l0_0 l1_0
  refine then_n (hK1 _ _ ?_)
  clear hK1
  refine R_block ?_
  -- loop 1
  refine R_loop (fun mz A' w' => SzN A' 14 ∧ A'.defers = [] ∧ (∃ (L : List (Int × Int)) (D : List Int) (cu : Option (Int × Value)), (mz = L.length) ∧ ((D ++ L.map (·.1)).Perm (m.map (·.1))) ∧ (EV A' (.tmp 0) = EV A4 (.tmp 0)) ∧ (EV A' (.tmp 5) = EV A4 (.tmp 5)) ∧ (St wb X ((miv .i64 r3 v ent ck cu (kmap (fun n : Int => Value.int .i64 n) L)) :: (J D) :: rest) w'))) (m.length) ⟨hsz4, hdf4, m, [], none, rfl, (List.Perm.refl _), rfl, rfl, (by have q0 : c3 = miv .i64 r3 v ent ck none (kmap (fun n : Int => Value.int .i64 n) m) := hc3.trans (rfl); have q1 : cj = J [] := hcj.trans (rfl); subst q0 q1; exact hS3)⟩ ?_
  clear hS3 hc3 hcj
  rintro n5 A5 w5 ⟨hsz5, hdf5, L, D, cu, hm5, hpm, u0_5, u5_5, hS5⟩
  have l0_5 := u0_5.trans l0_4
  have l5_5 := u5_5.trans l5_4
  obtain ⟨c3_5, cj_5, hc3_5, hcj_5, hS5⟩ := gen2 hS5
  refine R_seq (fun K6 hK6 => ?_)
  refine R_region (by kernel_rfl) ?_
  refine W_nextK (f := (fun n : Int => Value.int .i64 n)) (L := L) 0 hS5 rfl hc3_5 (hRd _ (hR _ _ _ 1 hS5 (congrArg some hcj_5))).2 rfl rfl rfl l5_5 ?_ ?_
  · intro hL7
    refine W_v rfl rfl (V_ext (v := .bool false) rfl (et rfl) rfl) ?_
    refine W_end ?_
    refine Qo_normal ?_
    refine gen_Q (fun A8 hA8 => ?_)
    have hsz8 := szq hA8
    have hdf8 : A8.defers = [] := by rw [hA8]; simp only [df_put]; exact hdf5
    have l0_8 := lookE hA8 0 (es rfl (es rfl l0_5))
    have l5_8 := lookE hA8 5 (es rfl (es rfl l5_5))
    have l7_8 := lookE hA8 7 (et rfl)
    clear hA8 hsz5 hdf5 l0_5 l5_5
    refine then_n (hK6 _ _ ?_)
    clear hK6
    refine R_seq (fun K9 hK9 => ?_)
    refine R_cond_f l7_8 ?_
    refine R_exit ?_
    refine then_exit ?_
    refine then_exit ?_
    refine inb_hit ?_
    refine ret_inR0 (results_0 Try.results77 ) hdf8 ?_
    -- leaf N
    have hS11 := hS5.del 0
    replace hS11 : St wb X (cj_5 :: rest) w5 := hS11
    exact ⟨⟨_, rfl⟩, .inl ⟨_, (pm_done (f := (·.1)) hpm hL7), hback _ _ (hcj_5 ▸ hS11)⟩⟩
  · intro j7 q7 y7 w7 c7 hj7 hc7 hS7
    replace hc7 : c7 = miv .i64 r3 v ent ck (some (q7, .int .i64 y7)) (kmap (fun n : Int => Value.int .i64 n) (L.eraseIdx j7)) := hc7
    replace hS7 : St wb X (c7 :: cj_5 :: rest) w7 := hS7
    have hle7 := er_len hj7
    refine W_v rfl rfl (V_ext (v := .bool true) rfl (et rfl) rfl) ?_
    refine W_end ?_
    refine Qo_normal ?_
    refine gen_Q (fun A12 hA12 => ?_)
    have hsz12 := szq hA12
    have hdf12 : A12.defers = [] := by rw [hA12]; simp only [df_put]; exact hdf5
    have l0_12 := lookE hA12 0 (es rfl (es rfl l0_5))
    have l5_12 := lookE hA12 5 (es rfl (es rfl l5_5))
    have l7_12 := lookE hA12 7 (et rfl)
    clear hA12 hsz5 hdf5 l0_5 l5_5
    refine then_n (hK6 _ _ ?_)
    clear hK6
    refine R_seq (fun K13 hK13 => ?_)
    refine R_cond_t l7_12 ?_
    refine R_skip ?_
    refine then_n (hK13 _ _ ?_)
    clear hK13
    refine R_block ?_
    refine R_seq (fun K14 hK14 => ?_)
    refine R_region (by kernel_rfl) ?_
    refine W_r rfl rfl (VR_entry rfl l5_12 (hS7.chq 0 rfl hc7) (hRd _ (hR _ _ _ 1 hS7 (congrArg some hcj_5))).2) ?_
    refine W_v rfl rfl (V_ext (v := .int .i64 (q7)) rfl (et rfl) rfl) ?_
    refine W_v rfl rfl (V_asg rfl (et rfl)) ?_
    refine W_end ?_
    refine Qo_normal ?_
    refine gen_Q (fun A15 hA15 => ?_)
    have hsz15 := szq hA15
    have hdf15 : A15.defers = [] := by rw [hA15]; simp only [df_put]; exact hdf12
    have l0_15 := lookE hA15 0 (e2 rfl (es rfl l0_12))
    have l3_15 := lookE hA15 3 (et rfl)
    have l5_15 := lookE hA15 5 (e2 rfl (es rfl l5_12))
    clear hA15 hsz12 hdf12 l0_12 l5_12 l7_12
    refine then_n (hK14 _ _ ?_)
    clear hK14
    refine R_seq (fun K16 hK16 => ?_)
    refine R_regionI ?_
    refine I_v rfl rfl (by rfl) (V_mov rfl l0_15) ?_
    refine I_v rfl rfl (by rfl) (V_mov rfl (es rfl l3_15)) ?_
    refine I_yield rfl rfl (by rfl) (hY D q7 _ _ 1 hS7 (congrArg some hcj_5) (⟨_, pm_step (f := (·.1)) hpm hj7⟩)) (fun res hr => run_yield1 rfl (es rfl (et rfl)) (et rfl) hr) ?_
    rintro _ w17 (⟨rfl, hS17⟩ | ⟨rfl, hS17⟩)
    · refine ⟨_, rfl, ?_⟩
      obtain ⟨cj17, hcj17⟩ : ∃ c_, c_ = J (D ++ [q7]) := ⟨_, rfl⟩
      rw [← hcj17] at hS17
      replace hS17 : St wb X (c7 :: cj17 :: rest) w17 := hS17
      refine I_up (by kernel_rfl) ?_
      refine W_v rfl rfl (V_notT rfl (et rfl)) ?_
      refine W_end ?_
      refine Qo_normal ?_
      refine gen_Q (fun A18 hA18 => ?_)
      have hsz18 := szq hA18
      have hdf18 : A18.defers = [] := by rw [hA18]; simp only [df_put]; exact hdf15
      have l0_18 := lookE hA18 0 (e3 rfl (es rfl l0_15))
      have l5_18 := lookE hA18 5 (e3 rfl (es rfl l5_15))
      have l13_18 := lookE hA18 13 (et rfl)
      clear hA18 hsz15 hdf15 l0_15 l3_15 l5_15
      refine then_n (hK16 _ _ ?_)
      clear hK16
      refine R_cond_f l13_18 ?_
      refine R_skip ?_
      refine inb_n ?_
      refine then_n ⟨(L.eraseIdx j7).length, by simp only [hm5]; omega, hsz18, hdf18, (L.eraseIdx j7), (D ++ [q7]), (some (q7, .int .i64 y7)), rfl, (pm_step (f := (·.1)) hpm hj7), ((l0_18).trans l0_4.symm), ((l5_18).trans l5_4.symm), (by have q0 := hc7; have q1 : cj17 = J (D ++ [q7]) := hcj17.trans (rfl); subst q0 q1; exact hS17)⟩
    · refine ⟨_, rfl, ?_⟩
      obtain ⟨cj17, hcj17⟩ : ∃ c_, c_ = Jx (D ++ [q7]) := ⟨_, rfl⟩
      rw [← hcj17] at hS17
      replace hS17 : St wb X (c7 :: cj17 :: rest) w17 := hS17
      refine I_up (by kernel_rfl) ?_
      refine W_v rfl rfl (V_notF rfl (et rfl)) ?_
      refine W_end ?_
      refine Qo_normal ?_
      refine gen_Q (fun A19 hA19 => ?_)
      have hsz19 := szq hA19
      have hdf19 : A19.defers = [] := by rw [hA19]; simp only [df_put]; exact hdf15
      have l0_19 := lookE hA19 0 (e3 rfl (es rfl l0_15))
      have l5_19 := lookE hA19 5 (e3 rfl (es rfl l5_15))
      have l13_19 := lookE hA19 13 (et rfl)
      clear hA19 hsz15 hdf15 l0_15 l3_15 l5_15
      refine then_n (hK16 _ _ ?_)
      clear hK16
      refine R_cond_t l13_19 ?_
      refine R_ret ?_
      refine inb_ret ?_
      refine then_ret ?_
      refine inb_ret ?_
      refine ret_inR0 (results_0 Try.results77 ) hdf19 ?_
      -- leaf EN
      have hS21 := hS17.del 0
      replace hS21 : St wb X (cj17 :: rest) w17 := hS21
      exact ⟨⟨_, rfl⟩, .inr ⟨_, ⟨_, pm_step (f := (·.1)) hpm hj7⟩, hback _ _ (hcj17 ▸ hS21)⟩⟩

end Go.Proofs.Ytnfgeekaeegolaa