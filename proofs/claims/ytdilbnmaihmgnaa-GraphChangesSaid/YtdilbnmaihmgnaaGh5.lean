import Derived.Test.YtdilbnmaihmgnaaProg
import Derived.Test.YtdilbnmaihmgnaaGh4
import Derived.Test.YtdilbnmaihmgnaaPl15f
import Derived.Test.YtdilbnmaihmgnaaSepB
import Derived.Test.YtdilbnmaihmgnaaSh15
namespace Go.Proofs.Ytdilbnmaihmgnaa
open Go.RowKit Go.Own Go.Own.R Go.Own.G Go.Own.Gr


set_option maxHeartbeats 4000000 in
theorem krc_it {gov : Nat} {ov : Value} {O : List Ob} {rv : Value} {rs : List Int} {Rd : World → Prop} (hRd : ∀ W, Rd W → (bx gov 25 #[ov, rv]).at W ∧ (rl 2 obC ov O).at W ∧ (nst O).at W ∧ (il .i64 rv rs).at W) (hG : GG (O.map ab) rs) (hsm : SM (O.map ab)) :
    Iter (α := Int) Try.prog 66 #[.pointer (some ⟨gov, 0, none⟩)] (fun x : Int => #[.int .i64 x]) (· = (rcL (O.map ab) rs)) (· <+: (rcL (O.map ab) rs)) (· <+: (rcL (O.map ab) rs)) Rd := by
  have hwl := wt_le (M := ([] : List Int)) hsm hG.o4
  have hr8 := hG.r8
  intro l wb X cs ij J Jx w hij hR hY hS
  obtain ⟨hS, hback⟩ := hS.front hij
  clear hij
  generalize cs.eraseIdx ij = rest at hS hback
  obtain ⟨cj, hcj⟩ : ∃ c, c = J [] := ⟨_, rfl⟩
  rw [← hcj] at hS
  refine calls_inR 43 Try.func66 rfl rfl (by simp) (fun A0 hsz0 hdf0 hargs => ?_)
  have l0_0 := hargs 0 (.func (.yield l) #[] #[]) rfl
  have l1_0 := hargs 1 (.pointer (some ⟨gov, 0, none⟩)) rfl
  clear hargs; replace hsz0 : SzN A0 43 := ⟨hsz0⟩
  have bh_ov := SlN.le (sl_SlN (hRd _ (hR _ _ _ 0 hS (congrArg some hcj))).2.1)
  have bh_rv := SlN.le (sl_SlN (hRd _ (hR _ _ _ 0 hS (congrArg some hcj))).2.2.2)
  refine R_seq (fun K1 hK1 => ?_)
  refine R_region (by kernel_rfl) ?_
  refine W_mkMapS .i64 hS rfl rfl rfl (fun g2 w2 c2 hc2 hS2 => ?_)
  replace hc2 : c2 = ms (.map (some g2)) [] := hc2
  replace hS2 : St wb X (c2 :: cj :: rest) w2 := hS2
  refine W_mapInsB 0 hS2 rfl hc2 rfl rfl rfl rfl (et rfl) rfl rfl Try.underlying85 Try.underlying3 (by simp) (fun w3 c3 hc3 hS3 => ?_)
  replace hc3 : c3 = ms (.map (some g2)) ([] ++ [0]) := hc3
  replace hS3 : St wb X (c3 :: cj :: rest) w3 := hS3
  refine W_v rfl rfl (V_mov rfl (et rfl)) ?_
  refine W_v rfl rfl (V_asg rfl (et rfl)) ?_
  refine W_end ?_
  refine Qo_normal ?_
  refine gen_Q (fun A4 hA4 => ?_)
  have hsz4 := szq hA4
  have hdf4 : A4.defers = [] := by rw [hA4]; simp only [df_put]; exact hdf0
  have l0_4 := lookE hA4 0 (e2 rfl (es rfl l0_0))
  have l1_4 := lookE hA4 1 (e2 rfl (es rfl l1_0))
  have l3_4 := lookE hA4 3 (et rfl)
  clear hA4 hsz0 hdf0 l0_0 l1_0
  refine then_n (hK1 _ _ ?_)
  clear hK1
  refine R_seq (fun K5 hK5 => ?_)
  refine R_region (by kernel_rfl) ?_
  refine W_v rfl rfl (V_fa (off' := 1) rfl l1_4 Try.underlying25 rfl (by decide +kernel) rfl) ?_
  refine W_r rfl rfl (VR_ldC rfl (et rfl) (cell_box (v := rv) (ob_at (hRd _ (hR _ _ _ 1 hS3 (congrArg some hcj))).1) rfl) Try.underlying23 rfl) ?_
  refine W_call rfl rfl rfl Try.func67 (by kernel_rfl) rfl (args1 (et rfl)) (kcl_c (SlN.ro (sl_SlN (hRd _ (hR _ _ _ 1 hS3 (congrArg some hcj))).2.2.2)) (by first | omega | with_reducible assumption)) ?_
  rintro _ w6 ⟨v_6, rfl, hP6⟩
  refine ⟨_, rfl, ?_⟩
  obtain ⟨c_6, hc_6, hP6⟩ := gen1 hP6
  have hS6 := hS3.join hP6
  replace hS6 : St wb X (c_6 :: c3 :: cj :: rest) w6 := hS6
  refine W_v rfl rfl (V_asg rfl (et rfl)) ?_
  refine W_end ?_
  refine Qo_normal ?_
  refine gen_Q (fun A7 hA7 => ?_)
  have hsz7 := szq hA7
  have hdf7 : A7.defers = [] := by rw [hA7]; simp only [df_put]; exact hdf4
  have l0_7 := lookE hA7 0 (e3 rfl (es rfl l0_4))
  have l1_7 := lookE hA7 1 (e3 rfl (es rfl l1_4))
  have l3_7 := lookE hA7 3 (e3 rfl (es rfl l3_4))
  have l4_7 := lookE hA7 4 (et rfl)
  clear hA7 hsz4 hdf4 l0_4 l1_4 l3_4
  refine then_n (hK5 _ _ ?_)
  clear hK5
  refine R_block ?_
  -- loop 2
  refine R_loop (fun mz A' w' => SzN A' 43 ∧ A'.defers = [] ∧ (∃ (T : List Int) (M : List Int) (tv : Value), (mz = T.length + wt (O.map ab) M) ∧ (RcAt (O.map ab) rs T M) ∧ (EV A' (.tmp 4) = tv) ∧ (EV A' (.tmp 0) = EV A7 (.tmp 0)) ∧ (EV A' (.tmp 1) = EV A7 (.tmp 1)) ∧ (EV A' (.tmp 3) = EV A7 (.tmp 3)) ∧ (St wb X ((io .i64 tv T) :: (ms (.map (some g2)) ([0] ++ M)) :: (J M) :: rest) w'))) (rs.length + wt (O.map ab) []) ⟨hsz7, hdf7, rs, [], v_6, rfl, (RcAt.init (O.map ab) rs), ((l4_7).trans (by first | rfl | (simp; done) | (congr 1; omega))), rfl, rfl, rfl, (by subst hc_6 hc3 hcj; exact hS6)⟩ ?_
  clear hS6 hc_6 hc3 hcj
  rintro n8 A8 w8 ⟨hsz8, hdf8, T, M, tv, hm8, hrc, l4_8, u0_8, u1_8, u3_8, hS8⟩
  have l0_8 := u0_8.trans l0_7
  have l1_8 := u1_8.trans l1_7
  have l3_8 := u3_8.trans l3_7
  obtain ⟨c_8, c3_8, cj_8, hc_8, hc3_8, hcj_8, hS8⟩ := gen3 hS8
  refine R_seq (fun K9 hK9 => ?_)
  refine R_seq (fun K10 hK10 => ?_)
  refine R_region (by kernel_rfl) ?_
  refine W_v rfl rfl (V_mov rfl l4_8) ?_
  refine W_v rfl rfl (V_lenS rfl (et rfl) (ow_at (hS8.chq 0 rfl hc_8)) Try.underlying23) ?_
  refine W_v rfl rfl (V_gtr rfl (et rfl) rfl) ?_
  refine W_end ?_
  refine Qo_normal ?_
  refine gen_Q (fun A11 hA11 => ?_)
  have hsz11 := szq hA11
  have hdf11 : A11.defers = [] := by rw [hA11]; simp only [df_put]; exact hdf8
  have l0_11 := lookE hA11 0 (e2 rfl (es rfl l0_8))
  have l1_11 := lookE hA11 1 (e2 rfl (es rfl l1_8))
  have l3_11 := lookE hA11 3 (e2 rfl (es rfl l3_8))
  have l4_11 := lookE hA11 4 (e2 rfl (es rfl l4_8))
  have l13_11 := lookE hA11 13 (et rfl)
  clear hA11 hsz8 hdf8 l4_8 l0_8 l1_8 l3_8
  refine then_n (hK10 _ _ ?_)
  clear hK10
  refine R_cond_dec l13_11 (fun c12 => ?_) (fun c12 => ?_)
  · skip
    have hbd := hrc.bd
    refine R_skip ?_
    refine then_n (hK9 _ _ ?_)
    clear hK9
    refine R_block ?_
    refine R_seq (fun K13 hK13 => ?_)
    refine R_region (by kernel_rfl) ?_
    refine W_v rfl rfl (V_mov rfl l4_11) ?_
    refine W_v rfl rfl (V_mov rfl (es rfl l4_11)) ?_
    refine W_v rfl rfl (V_lenS rfl (et rfl) (ow_at (hS8.chq 0 rfl hc_8)) Try.underlying23) ?_
    refine W_v rfl rfl (V_sb rfl (et rfl) rfl (by omega) (by omega)) ?_
    have k14 : (T.length - 1) < T.length := by first | omega | (simp only [List.length_cons, List.length_nil]; omega) | (simp only [List.length_set]; omega)
    obtain ⟨y14, hy14⟩ := get_some (xs := T) (k := (T.length - 1)) k14
    obtain ⟨B14, O14, C14, hv14⟩ := (SlN.blk (ow_at (hS8.chq 0 rfl hc_8)) (by first | omega | (simp only [List.length_cons, List.length_nil]; omega) | (simp only [List.length_set]; omega)))
    refine W_v rfl rfl (V_ixS (off := O14 + (T.length - 1)) 1 ((T.length - 1)) rfl (e3 rfl (et rfl)) (et rfl) hv14 (by omega) k14 Try.underlying23 (by kernel_rfl) (congrArg _ (Nat.mul_one _))) ?_
    refine W_r rfl rfl (VR_ldC rfl (et rfl) ((ow_at (hS8.chq 0 rfl hc_8)).cell hv14 (map_get hy14)) Try.underlying3 rfl) ?_
    refine W_v rfl rfl (V_asg rfl (et rfl)) ?_
    refine W_end ?_
    refine Qo_normal ?_
    refine gen_Q (fun A15 hA15 => ?_)
    have hsz15 := szq hA15
    have hdf15 : A15.defers = [] := by rw [hA15]; simp only [df_put]; exact hdf11
    have l0_15 := lookE hA15 0 (e6 rfl (es rfl l0_11))
    have l1_15 := lookE hA15 1 (e6 rfl (es rfl l1_11))
    have l3_15 := lookE hA15 3 (e6 rfl (es rfl l3_11))
    have l4_15 := lookE hA15 4 (e6 rfl (es rfl l4_11))
    have l5_15 := lookE hA15 5 (et rfl)
    clear hA15 hsz11 hdf11 l0_11 l1_11 l3_11 l4_11 l13_11
    refine then_n (hK13 _ _ ?_)
    clear hK13
    refine R_seq (fun K16 hK16 => ?_)
    refine R_region (by kernel_rfl) ?_
    refine W_v rfl rfl (V_mov rfl l4_15) ?_
    refine W_v rfl rfl (V_mov rfl (es rfl l4_15)) ?_
    refine W_v rfl rfl (V_lenS rfl (et rfl) (ow_at (hS8.chq 0 rfl hc_8)) Try.underlying23) ?_
    refine W_v rfl rfl (V_sb rfl (et rfl) rfl (by omega) (by omega)) ?_
    have k17 : 0 ≤ (T.length - 1) := by omega
    have m17 : (T.length - 1) ≤ T.length := by omega
    obtain ⟨c17, hc17, hS17⟩ := hS8.sub 0 rfl hc_8 (0) ((T.length - 1)) k17 m17
    replace hc17 : c17 = io .i64 (subS 1 tv 0 (T.length - 1)) (T.take (T.length - 1)) := hc17.trans (part_eq k17 m17 (by first | (simp; done) | exact List.take_of_length_le (by rw [List.length_drop]; omega)))
    replace hS17 : St wb X (c17 :: c3_8 :: cj_8 :: rest) w8 := hS17
    refine W_v rfl rfl (V_subS 1 (0) ((T.length - 1)) rfl (e3 rfl (et rfl)) (.inl ⟨rfl, rfl⟩) (.inr ⟨_, _, rfl, (et rfl), by omega⟩) Try.underlying23 (by kernel_rfl) (ow_at (hS8.chq 0 rfl hc_8)) k17 m17) ?_
    refine W_v rfl rfl (V_asg rfl (et rfl)) ?_
    refine W_end ?_
    refine Qo_normal ?_
    refine gen_Q (fun A18 hA18 => ?_)
    have hsz18 := szq hA18
    have hdf18 : A18.defers = [] := by rw [hA18]; simp only [df_put]; exact hdf15
    have l0_18 := lookE hA18 0 (e5 rfl (es rfl l0_15))
    have l1_18 := lookE hA18 1 (e5 rfl (es rfl l1_15))
    have l3_18 := lookE hA18 3 (e5 rfl (es rfl l3_15))
    have l4_18 := lookE hA18 4 (et rfl)
    have l5_18 := lookE hA18 5 (e5 rfl (es rfl l5_15))
    clear hA18 hsz15 hdf15 l0_15 l1_15 l3_15 l4_15 l5_15
    refine then_n (hK16 _ _ ?_)
    clear hK16
    refine R_seq (fun K19 hK19 => ?_)
    refine R_seq (fun K20 hK20 => ?_)
    refine R_region (by kernel_rfl) ?_
    refine W_v rfl rfl (V_mov rfl l3_18) ?_
    refine W_v rfl rfl (V_mov rfl (es rfl l5_18)) ?_
    refine W_r rfl rfl (VR_lookB rfl (es rfl (et rfl)) (et rfl) (hS17.chq 1 rfl hc3_8) Try.underlying85 Try.underlying3 (by kernel_rfl)) ?_
    refine W_end ?_
    refine Qo_normal ?_
    refine gen_Q (fun A21 hA21 => ?_)
    have hsz21 := szq hA21
    have hdf21 : A21.defers = [] := by rw [hA21]; simp only [df_put]; exact hdf18
    have l0_21 := lookE hA21 0 (e2 rfl (es rfl l0_18))
    have l1_21 := lookE hA21 1 (e2 rfl (es rfl l1_18))
    have l3_21 := lookE hA21 3 (e2 rfl (es rfl l3_18))
    have l4_21 := lookE hA21 4 (e2 rfl (es rfl l4_18))
    have l5_21 := lookE hA21 5 (e2 rfl (es rfl l5_18))
    have l27_21 := lookE hA21 27 (et rfl)
    clear hA21 hsz18 hdf18 l0_18 l1_18 l3_18 l4_18 l5_18
    refine then_n (hK20 _ _ ?_)
    clear hK20
    refine R_cond_dec l27_21 (fun c22 => ?_) (fun c22 => ?_)
    · skip
      have hin : y14 = 0 ∨ y14 ∈ M := by simpa using c22
      refine R_exit ?_
      refine then_exit ?_
      refine inb_hit ?_
      refine then_n ⟨(T.take (T.length - 1)).length + wt (O.map ab) M, by first | (simp only [hm8, List.length_append, List.length_take]; omega) | (simp only [hm8, List.length_take]; omega), hsz21, hdf21, (T.take (T.length - 1)), M, (subS 1 tv 0 (T.length - 1)), rfl, (hrc.skip hy14 hin), ((l4_21).trans (by first | rfl | (simp; done) | (congr 1; omega))), ((l0_21).trans l0_7.symm), ((l1_21).trans l1_7.symm), ((l3_21).trans l3_7.symm), (by subst hc17 hc3_8 hcj_8; exact hS17)⟩
    · skip
      have hn0 : ¬ (y14 = 0 ∨ y14 ∈ M) := by simpa using c22
      have hrg := hrc.rng hG hy14 hn0
      have hwt := wt_mark hrg (fun q => hn0 (.inr q))
      rw [List.length_map] at hrg
      refine R_skip ?_
      refine then_n (hK19 _ _ ?_)
      clear hK19
      refine R_seq (fun K23 hK23 => ?_)
      refine R_region (by kernel_rfl) ?_
      refine W_v rfl rfl (V_mov rfl l3_21) ?_
      refine W_v rfl rfl (V_mov rfl (es rfl l5_21)) ?_
      refine W_mapNewB 1 hS17 rfl hc3_8 rfl rfl rfl rfl (es rfl (et rfl)) (et rfl) rfl Try.underlying85 Try.underlying3 (by simpa using hn0) (fun w24 c24 hc24 hS24 => ?_)
      replace hc24 : c24 = ms (.map (some g2)) (([0] ++ M) ++ [y14]) := hc24
      replace hS24 : St wb X (c17 :: c24 :: cj_8 :: rest) w24 := hS24
      refine W_end ?_
      refine Qo_normal ?_
      refine gen_Q (fun A25 hA25 => ?_)
      have hsz25 := szq hA25
      have hdf25 : A25.defers = [] := by rw [hA25]; simp only [df_put]; exact hdf21
      have l0_25 := lookE hA25 0 (es rfl (es rfl l0_21))
      have l1_25 := lookE hA25 1 (es rfl (es rfl l1_21))
      have l3_25 := lookE hA25 3 (es rfl (es rfl l3_21))
      have l4_25 := lookE hA25 4 (es rfl (es rfl l4_21))
      have l5_25 := lookE hA25 5 (es rfl (es rfl l5_21))
      clear hA25 hsz21 hdf21 l0_21 l1_21 l3_21 l4_21 l5_21 l27_21
      refine then_n (hK23 _ _ ?_)
      clear hK23
      refine R_seq (fun K26 hK26 => ?_)
      refine R_seq (fun K27 hK27 => ?_)
      refine R_regionI ?_
      refine I_v rfl rfl (by rfl) (V_mov rfl l0_25) ?_
      refine I_v rfl rfl (by rfl) (V_mov rfl (es rfl l5_25)) ?_
      refine I_yield rfl rfl (by rfl) (hY M y14 _ _ 2 hS24 (congrArg some hcj_8) ((hrc.pre hG hy14 hn0))) (fun res hr => run_yield1 rfl (es rfl (et rfl)) (et rfl) hr) ?_
      rintro _ w28 (⟨rfl, hS28⟩ | ⟨rfl, hS28⟩)
      · refine ⟨_, rfl, ?_⟩
        obtain ⟨cj28, hcj28⟩ : ∃ c_, c_ = J (M ++ [y14]) := ⟨_, rfl⟩
        rw [← hcj28] at hS28
        replace hS28 : St wb X (c17 :: c24 :: cj28 :: rest) w28 := hS28
        refine I_up (by kernel_rfl) ?_
        refine W_v rfl rfl (V_notT rfl (et rfl)) ?_
        refine W_end ?_
        refine Qo_normal ?_
        refine gen_Q (fun A29 hA29 => ?_)
        have hsz29 := szq hA29
        have hdf29 : A29.defers = [] := by rw [hA29]; simp only [df_put]; exact hdf25
        have l0_29 := lookE hA29 0 (e3 rfl (es rfl l0_25))
        have l1_29 := lookE hA29 1 (e3 rfl (es rfl l1_25))
        have l3_29 := lookE hA29 3 (e3 rfl (es rfl l3_25))
        have l4_29 := lookE hA29 4 (e3 rfl (es rfl l4_25))
        have l5_29 := lookE hA29 5 (e3 rfl (es rfl l5_25))
        have l33_29 := lookE hA29 33 (et rfl)
        clear hA29 hsz25 hdf25 l0_25 l1_25 l3_25 l4_25 l5_25
        refine then_n (hK27 _ _ ?_)
        clear hK27
        refine R_cond_f l33_29 ?_
        refine R_skip ?_
        refine then_n (hK26 _ _ ?_)
        clear hK26
        refine R_region (by kernel_rfl) ?_
        refine W_v rfl rfl (V_mov rfl l4_29) ?_
        refine W_v rfl rfl (V_fa (off' := 0) rfl (es rfl l1_29) Try.underlying25 rfl (by decide +kernel) rfl) ?_
        refine W_r rfl rfl (VR_ldC rfl (et rfl) (cell_box (v := ov) (ob_at (hRd _ (hR _ _ _ 2 hS28 (congrArg some hcj28))).1) rfl) Try.underlying22 rfl) ?_
        refine W_v rfl rfl (V_mov rfl (e2 rfl (es rfl l5_29))) ?_
        refine W_v rfl rfl (V_sb rfl (et rfl) rfl (by omega) (by omega)) ?_
        have k30 : (y14 - 1).toNat < O.length := by first | omega | (simp only [List.length_cons, List.length_nil]; omega) | (simp only [List.length_set]; omega)
        obtain ⟨y30, hy30⟩ := get_some (xs := O) (k := (y14 - 1).toNat) k30
        have hpt := pt_at hy30
        rw [hpt] at hwt
        obtain ⟨B30, O30, C30, hv30⟩ := (SlN.blk (sl_SlN (hRd _ (hR _ _ _ 2 hS28 (congrArg some hcj28))).2.1) (by first | omega | (simp only [List.length_cons, List.length_nil]; omega) | (simp only [List.length_set]; omega)))
        refine W_v rfl rfl (V_ixS (off := O30 + ((y14 - 1).toNat) * 2) 2 ((y14 - 1).toNat) rfl (e2 rfl (et rfl)) (et rfl) hv30 (by omega) k30 Try.underlying22 (by kernel_rfl) rfl) ?_
        refine W_v rfl rfl (V_fa (off' := O30 + ((y14 - 1).toNat) * 2 + 0) rfl (et rfl) Try.underlying40 rfl (by decide +kernel) rfl) ?_
        have bfn31 := SlN.le (sl_SlN (nst_at1 ((hRd _ (hR _ _ _ 2 hS28 (congrArg some hcj28))).2.2.1) hy30))
        have bfn32 := SlN.le (sl_SlN (nst_at2 ((hRd _ (hR _ _ _ 2 hS28 (congrArg some hcj28))).2.2.1) hy30))
        refine W_r rfl rfl (VR_ldC (v := y30.1.1) rfl (et rfl) (SlN.row obC_len (sl_SlN (hRd _ (hR _ _ _ 2 hS28 (congrArg some hcj28))).2.1) hv30 hy30 rfl 0 _ rfl) Try.underlying23 rfl) ?_
        refine W_appS 1 0 hS28 rfl hc17 rfl rfl rfl (e7 rfl (et rfl)) (et rfl) Try.underlying23 Try.underlying23 (z := .int .i64 0) (bytes := 8) (by kernel_rfl) rfl (by decide) (sl_SlN (nst_at1 ((hRd _ (hR _ _ _ 2 hS28 (congrArg some hcj28))).2.2.1) hy30)) ones_i (by first | omega | (simp; done) | (simp; omega)) (by first | omega | (simp; done) | (simp; omega)) (fun v33 w33 c33 hc33 hS33 => ?_)
        replace hc33 : c33 = io .i64 v33 ((T.take (T.length - 1)) ++ y30.1.2) := hc33.trans (app_eq (by simp))
        replace hS33 : St wb X (c33 :: c24 :: cj28 :: rest) w33 := hS33
        refine W_v rfl rfl (V_asg rfl (et rfl)) ?_
        refine W_end ?_
        refine Qo_normal ?_
        refine gen_Q (fun A34 hA34 => ?_)
        have hsz34 := szq hA34
        have hdf34 : A34.defers = [] := by rw [hA34]; simp only [df_put]; exact hdf29
        have l0_34 := lookE hA34 0 (e9 rfl (es rfl l0_29))
        have l1_34 := lookE hA34 1 (e9 rfl (es rfl l1_29))
        have l3_34 := lookE hA34 3 (e9 rfl (es rfl l3_29))
        have l4_34 := lookE hA34 4 (et rfl)
        clear hA34 hsz29 hdf29 l0_29 l1_29 l3_29 l4_29 l5_29 l33_29
        refine inb_n ?_
        refine then_n ⟨(T.take (T.length - 1) ++ y30.1.2).length + wt (O.map ab) (M ++ [y14]), by first | (simp only [hm8, List.length_append, List.length_take]; omega) | (simp only [hm8, List.length_take]; omega), hsz34, hdf34, (T.take (T.length - 1) ++ y30.1.2), (M ++ [y14]), v33, rfl, (by have q := hrc.mark hG hy14 hn0; rw [hpt] at q; exact q), ((l4_34).trans (by first | rfl | (simp; done) | (congr 1; omega))), ((l0_34).trans l0_7.symm), ((l1_34).trans l1_7.symm), ((l3_34).trans l3_7.symm), (by have q0 := hc33; have q1 : c24 = ms (.map (some g2)) ([0] ++ (M ++ [y14])) := hc24.trans (by rw [List.append_assoc]); have q2 := hcj28; subst q0 q1 q2; exact hS33)⟩
      · refine ⟨_, rfl, ?_⟩
        obtain ⟨cj28, hcj28⟩ : ∃ c_, c_ = Jx (M ++ [y14]) := ⟨_, rfl⟩
        rw [← hcj28] at hS28
        replace hS28 : St wb X (c17 :: c24 :: cj28 :: rest) w28 := hS28
        refine I_up (by kernel_rfl) ?_
        refine W_v rfl rfl (V_notF rfl (et rfl)) ?_
        refine W_end ?_
        refine Qo_normal ?_
        refine gen_Q (fun A35 hA35 => ?_)
        have hsz35 := szq hA35
        have hdf35 : A35.defers = [] := by rw [hA35]; simp only [df_put]; exact hdf25
        have l0_35 := lookE hA35 0 (e3 rfl (es rfl l0_25))
        have l1_35 := lookE hA35 1 (e3 rfl (es rfl l1_25))
        have l3_35 := lookE hA35 3 (e3 rfl (es rfl l3_25))
        have l4_35 := lookE hA35 4 (e3 rfl (es rfl l4_25))
        have l5_35 := lookE hA35 5 (e3 rfl (es rfl l5_25))
        have l33_35 := lookE hA35 33 (et rfl)
        clear hA35 hsz25 hdf25 l0_25 l1_25 l3_25 l4_25 l5_25
        refine then_n (hK27 _ _ ?_)
        clear hK27
        refine R_cond_t l33_35 ?_
        refine R_ret ?_
        refine then_ret ?_
        refine inb_ret ?_
        refine then_ret ?_
        refine inb_ret ?_
        refine ret_inR0 (results_0 Try.results66 ) hdf35 ?_
        -- leaf TFN
        have hS37 := hS28.del 0
        replace hS37 : St wb X (c24 :: cj28 :: rest) w28 := hS37
        have hS38 := hS37.del 0
        replace hS38 : St wb X (cj28 :: rest) w28 := hS38
        exact ⟨⟨_, rfl⟩, .inr ⟨_, (hrc.pre hG hy14 hn0), hback _ _ (hcj28 ▸ hS38)⟩⟩
  · skip
    refine R_exit ?_
    refine then_exit ?_
    refine then_exit ?_
    refine inb_hit ?_
    refine ret_inR0 (results_0 Try.results66 ) hdf11 ?_
    -- leaf F
    have hS40 := hS8.del 0
    replace hS40 : St wb X (c3_8 :: cj_8 :: rest) w8 := hS40
    have hS41 := hS40.del 0
    replace hS41 : St wb X (cj_8 :: rest) w8 := hS41
    exact ⟨⟨_, rfl⟩, .inl ⟨_, (hrc.done (by omega)).1, hback _ _ (hcj_8 ▸ hS41)⟩⟩

set_option maxHeartbeats 4000000 in
theorem krc_c {ov : Value} {O : List Ob} {rv : Value} {rs : List Int} {w : World} (h_ov : Ro w NoX (rl 2 obC ov O)) (n_ov : Ro w NoX (nst O)) (h_rv : Ro w NoX (il .i64 rv rs))  :
    Calls Try.prog 49 #[.agg #[ov, rv]] w fun e w' => ∃ gb, e = .returned (.func (.func 66) #[] #[.pointer (some ⟨gb, 0, none⟩)]) ∧ St w NoX [bx gb 25 #[ov, rv]] w' := by
  refine calls_in 4 Try.func49 rfl rfl (by simp) (fun A0 hsz0 hdf0 hargs => ?_)
  have l0_0 := hargs 0 (.agg #[ov, rv]) rfl
  clear hargs; replace hsz0 : SzN A0 4 := ⟨hsz0⟩
  have hS := St.nil w
  have bh_ov := SlN.le (sl_SlN h_ov.at)
  have bh_rv := SlN.le (sl_SlN h_rv.at)
  refine wp_seq_k (fun K1 hK1 => ?_)
  refine region_in ?_
  refine W_boxS (zs := #[ov, rv]) hS rfl rfl rfl l0_0 (by rfl) (fun g2 w2 c2 hc2 hS2 => ?_)
  replace hS2 : St w NoX [c2] w2 := hS2
  refine W_v rfl rfl (V_asg rfl rfl) ?_
  refine W_end ?_
  refine gen_Q (fun A3 hA3 => ?_)
  have hsz3 := szq hA3
  have hdf3 : A3.defers = [] := by rw [hA3]; simp only [df_put]; exact hdf0
  have l1_3 := lookE hA3 1 (es rfl (et rfl))
  clear hA3 hsz0 hdf0 l0_0
  refine then_n (hK1 _ _ ?_)
  clear hK1
  refine wp_seq_k (fun K4 hK4 => ?_)
  refine region_in ?_
  refine W_v rfl rfl (V_mkf rfl (args0) (args1 l1_3)) ?_
  refine W_v rfl rfl (V_asg rfl (et rfl)) ?_
  refine W_end ?_
  refine gen_Q (fun A5 hA5 => ?_)
  have hsz5 := szq hA5
  have hdf5 : A5.defers = [] := by rw [hA5]; simp only [df_put]; exact hdf3
  have l2_5 := lookE hA5 2 (et rfl)
  clear hA5 hsz3 hdf3 l1_3
  refine then_n (hK4 _ _ ?_)
  clear hK4
  refine wp_ret ?_
  refine ret_in (results_1 Try.results49 (rv_tmp l2_5)) hdf5 ?_
  -- leaf 
  exact ⟨_, rfl, (hS2.fin1 0 rfl (hc2))⟩

set_option maxHeartbeats 4000000 in
theorem kas_c {ov : Value} {O : List Ob} {rv : Value} {rs : List Int} {gov : Nat} {w : World} (hb_ov : Ro w NoX (bx gov 25 #[ov, rv])) (h_ov : Ro w NoX (rl 2 obC ov O)) (n_ov : Ro w NoX (nst O)) (h_rv : Ro w NoX (il .i64 rv rs)) (hG : GG (O.map ab) rs) (hsm : SM (O.map ab)) :
    Calls Try.prog 69 #[.slice none 0 0, .func (.func 66) #[] #[.pointer (some ⟨gov, 0, none⟩)]] w fun e w' => ∃ v, e = .returned (v) ∧ ((rcL (O.map ab) rs) = [] → v = .slice none 0 0) ∧ St w NoX [io .i64 (v) (rcL (O.map ab) rs)] w' := by
  refine calls_inR 13 Try.func69 rfl rfl (by simp) (fun A0 hsz0 hdf0 hargs => ?_)
  have l0_0 := hargs 0 (.slice none 0 0) rfl
  have l1_0 := hargs 1 (.func (.func 66) #[] #[.pointer (some ⟨gov, 0, none⟩)]) rfl
  clear hargs; replace hsz0 : SzN A0 13 := ⟨hsz0⟩
  have hS := St.nil w
  have bh_ov := SlN.le (sl_SlN h_ov.at)
  have bh_rv := SlN.le (sl_SlN h_rv.at)
  refine R_seq (fun K1 hK1 => ?_)
  refine R_region (by kernel_rfl) ?_
  refine W_boxS (zs := #[.slice none 0 0]) hS rfl rfl rfl l0_0 (by rfl) (fun g2 w2 c2 hc2 hS2 => ?_)
  replace hS2 : St w NoX [c2] w2 := hS2
  refine W_v rfl rfl (V_asg rfl rfl) ?_
  refine W_end ?_
  refine Qo_normal ?_
  refine gen_Q (fun A3 hA3 => ?_)
  have hsz3 := szq hA3
  have hdf3 : A3.defers = [] := by rw [hA3]; simp only [df_put]; exact hdf0
  have l1_3 := lookE hA3 1 (es rfl (es rfl l1_0))
  have l2_3 := lookE hA3 2 (es rfl (et rfl))
  clear hA3 hsz0 hdf0 l0_0 l1_0
  refine then_n (hK1 _ _ ?_)
  clear hK1
  refine R_seq (fun K4 hK4 => ?_)
  refine R_seq (fun K5 hK5 => ?_)
  refine R_region (by kernel_rfl) ?_
  refine W_v rfl rfl (V_mov rfl l1_3) ?_
  refine W_end ?_
  refine Qo_normal ?_
  refine gen_Q (fun A6 hA6 => ?_)
  have hsz6 := szq hA6
  have hdf6 : A6.defers = [] := by rw [hA6]; simp only [df_put]; exact hdf3
  have l2_6 := lookE hA6 2 (es rfl l2_3)
  have l6_6 := lookE hA6 6 (et rfl)
  clear hA6 hsz3 hdf3 l1_3 l2_3
  refine then_n (hK5 _ _ ?_)
  clear hK5
  refine R_block ?_
  obtain ⟨c7, hc7, hS7⟩ := hS2.pnil (s := 1)
  refine R_rangeS (α := Int) l6_6 (fun args w => calls_enter Try.func66 rfl rfl args w) (krc_it (gov := gov) (ov := ov) (O := O) (rv := rv) (rs := rs) (Rd := fun W => (bx gov 25 #[ov, rv]).at W ∧ (rl 2 obC ov O).at W ∧ (nst O).at W ∧ (il .i64 rv rs).at W) (fun _ h => h) (hG) (hsm)) (fun _ => rfl) (fun pre => pk (fun l => ∃ (v : Value), (pre = [] → v = .slice none 0 0) ∧ (pre.length ≤ 400) ∧ l = [io .i64 v pre, bx g2 23 #[v]])) (fun cQ pre => pk (fun l => False)) (St.pack (l := [io .i64 (.slice none 0 0) [], bx g2 23 #[(.slice none 0 0)]]) (fr := []) (by have q0 : c7 = io .i64 (.slice none 0 0) [] := hc7; have q1 : c2 = bx g2 23 #[(.slice none 0 0)] := hc2; subst q0 q1; exact hS7) ⟨(.slice none 0 0), (fun _ => rfl), (by simp), rfl⟩)
    (fun pre W l' hS => by obtain ⟨l, ⟨v, hv0, hpl, rfl⟩, hl⟩ := pk_at (hS.ch 0 rfl); exact ⟨hS.ro hb_ov, hS.ro h_ov, hS.ro n_ov, hS.ro h_rv⟩)
    (fun x a' cQ => SzN a' 13 ∧ a'.defers = [] ∧ EV a' (.tmp 2) = EV A6 (.tmp 2) ∧ EV a' (.tmp 5) = .int .i64 (x) ∧ cQ = pk (· = [])) ?_ ?_ ?_ ?_
  · intro la8 pre x wa8 fr K hSa8 hK
    simp only [id]
    rw [rnd1]
    obtain ⟨A9, hA9⟩ : ∃ A, A = (PT { tmps := A6.tmps, defers := [] } 7 (.int .i64 x)) := ⟨_, rfl⟩
    rw [← hA9]
    have hsz9 := szq hA9
    have hdf9 : A9.defers = [] := by rw [hA9]; rfl
    have l2_9 := lookE hA9 2 (es rfl (rnd_l l2_6))
    have l7_9 := lookE hA9 7 (et rfl)
    clear hA9
    obtain ⟨cI, hcI, hSa8⟩ := gen1 hSa8
    refine R_region (by kernel_rfl) ?_
    refine W_v rfl rfl (V_asg rfl l7_9) ?_
    refine W_end ?_
    refine Qo_normal ?_
    refine gen_Q (fun A10 hA10 => ?_)
    have hsz10 := szq hA10
    have hdf10 : A10.defers = [] := by rw [hA10]; simp only [df_put]; exact hdf9
    have l2_10 := lookE hA10 2 (es rfl l2_9)
    have l5_10 := lookE hA10 5 (et rfl)
    clear hA10 hsz9 hdf9 l2_9 l7_9
    refine then_n ?_
    refine hK _ _ _ ⟨hsz10, hdf10, (l2_10.trans l2_6.symm), l5_10, rfl⟩ ?_
    subst hcI; exact hSa8.asg0
  · rintro lb11 pre x A11 w11 cQ fr hAx hlr hS11 hVd
    obtain ⟨hsz11, hdf11, u2_11, l5_11, rfl⟩ := hAx
    have l2_11 := u2_11.trans l2_6
    obtain ⟨_, _, ⟨v, hv0, hpl, rfl⟩, rfl, hS11⟩ := hS11.body2
    replace hS11 : St w NoX ((io .i64 v pre) :: (bx g2 23 #[v]) :: fr) w11 := hS11
    obtain ⟨c7_12, c2_12, hc7_12, hc2_12, hS11⟩ := gen2 hS11
    have hvl := hVd.length_le
    have hrl := rcL_len hG
    rw [List.length_append, List.length_singleton] at hvl
    have ho4 := hG.o4
    refine R_block ?_
    refine R_region (by kernel_rfl) ?_
    refine W_r rfl rfl (VR_ldC rfl l2_11 (cell_box (v := v) (hS11.obj 1 rfl hc2_12) rfl) Try.underlying23 rfl) ?_
    refine W_v rfl rfl (V_mov rfl (es rfl l5_11)) ?_
    have hll13 : [x].length = 1 := rfl
    refine W_litS (vs := [.int .i64 (x)]) (xs := ([x].map (Value.int .i64))) 1 hS11 rfl rfl rfl (parts1 (et rfl)) rfl Try.underlying23 (by kernel_rfl) (by decide) (by intro v hv; simp only [List.mem_cons, List.not_mem_nil, or_false] at hv; rcases hv with rfl <;> rfl) (by rfl) (fun g13 w13 c13 hc13 hS13 => ?_)
    replace hc13 : c13 = io .i64 (.slice (some ⟨g13, 0, none⟩) 1 1) [x] := hc13
    replace hS13 : St w NoX (c13 :: c7_12 :: c2_12 :: fr) w13 := hS13
    refine W_appS 1 1 hS13 rfl hc7_12 rfl rfl rfl (e2 rfl (et rfl)) (et rfl) Try.underlying23 Try.underlying23 (z := .int .i64 0) (bytes := 8) (by kernel_rfl) rfl (by decide) (ow_at (hS13.chq 0 rfl hc13)) ones_i (by first | omega | (simp; done) | (simp; omega)) (by first | omega | (simp; done) | (simp; omega)) (fun v14 w14 c14 hc14 hS14 => ?_)
    replace hc14 : c14 = io .i64 v14 (pre ++ [x]) := hc14.trans (app_eq (by simp))
    replace hS14 : St w NoX (c13 :: c14 :: c2_12 :: fr) w14 := hS14
    refine W_stCS (zs' := #[v14]) 2 hS14 rfl hc2_12 rfl rfl rfl (e3 rfl (es rfl l2_11)) (et rfl) (SlN_one (ow_at (hS14.chq 1 rfl hc14))) (by rfl) (by kernel_rfl) (by first | rfl | (simp only [List.setIfInBounds_toArray, List.set_cons_succ, List.set_cons_zero] <;> rfl)) (fun w15 c15 hc15 hS15 => ?_)
    replace hS15 : St w NoX (c13 :: c14 :: c15 :: fr) w15 := hS15
    refine W_end ?_
    refine Qo_normal ?_
    refine gen_Q (fun A16 hA16 => ?_)
    have hsz16 := szq hA16
    have hdf16 : A16.defers = [] := by rw [hA16]; simp only [df_put]; exact hdf11
    clear hA16 hsz11 hdf11 l2_11 l5_11
    have hS18 := hS15.del 0
    replace hS18 : St w NoX (c14 :: c15 :: fr) w15 := hS18
    refine inb_n ?_
    exact (St.pack (l := [io .i64 v14 (pre ++ [x]), bx g2 23 #[v14]]) (fr := fr) (by have q0 : c14 = io .i64 v14 (pre ++ [x]) := hc14; have q1 : c15 = bx g2 23 #[v14] := hc15; subst q0 q1; exact hS18) (⟨v14, (fun e => by simp at e), (by rw [List.length_append, List.length_singleton]; omega), rfl⟩))
  · intro D19 xs w19 hxs hS19
    have hxs' : xs = (rcL (O.map ab) rs) := hxs; subst hxs'; clear hxs
    obtain ⟨_, ⟨v, hv0, hpl, rfl⟩, hS19⟩ := hS19.unpack
    replace hS19 : St w NoX ((io .i64 v (rcL (O.map ab) rs)) :: (bx g2 23 #[v]) :: (ob D19 (.deferred (some []))) :: []) w19 := hS19
    obtain ⟨c7_19, c2_19, cD19, hc7_19, hc2_19, hcD19, hS19⟩ := gen3 hS19
    refine gen_Q (fun A19 hA19 => ?_)
    have hsz19 := szq hA19
    have hdf19 : A19.defers = [{ target := .collected D19, args := #[] }] := by rw [hA19, df_mk, hdf6] <;> rfl
    have l2_19 := lookE hA19 2 (mk_l l2_6)
    clear hA19
    refine inb_n ?_
    refine then_n (hK4 _ _ ?_)
    clear hK4
    refine R_seq (fun K20 hK20 => ?_)
    refine R_region (by kernel_rfl) ?_
    refine W_r rfl rfl (VR_ldC rfl l2_19 (cell_box (v := v) (hS19.obj 1 rfl hc2_19) rfl) Try.underlying23 rfl) ?_
    refine W_v rfl rfl (V_asg rfl (et rfl)) ?_
    refine W_end ?_
    refine Qo_normal ?_
    refine gen_Q (fun A21 hA21 => ?_)
    have hsz21 := szq hA21
    have hdf21 : A21.defers = [{ target := .collected D19, args := #[] }] := by rw [hA21]; simp only [df_put]; exact hdf19
    have l4_21 := lookE hA21 4 (et rfl)
    clear hA21 hsz19 hdf19 l2_19
    have hS22 : St w NoX [c7_19, cD19] w19 := hS19.sel [0, 2] (by decide) rfl
    refine then_n (hK20 _ _ ?_)
    clear hK20
    refine R_ret ?_
    have hD23 := hS22.obj 1 rfl hcD19
    have hS23 := hS22.put (o' := .deferred none) 1 rfl hcD19
    obtain ⟨w23, hw23⟩ : ∃ w', w' = w19.putObj D19 (.deferred none) := ⟨_, rfl⟩
    rw [← hw23] at hS23
    replace hS23 : St w NoX [c7_19, (ob D19 (.deferred none))] w23 := hS23
    refine ret_inR1' (D := D19) (w1 := w23) hw23 (results_1 Try.results69 (rv_tmp l4_21)) hdf21 hD23 ?_
    -- leaf d
    exact ⟨_, rfl, hv0, (hS23.fin1 0 rfl (hc7_19))⟩
  · intro D24 cQ pre w24 hpre hS24
    obtain ⟨_, h, _⟩ := hS24.unpack; exact h.elim

set_option maxHeartbeats 4000000 in
theorem kco_c {ov : Value} {O : List Ob} {rv : Value} {rs : List Int} {gov : Nat} {w : World} (hb_ov : Ro w NoX (bx gov 25 #[ov, rv])) (h_ov : Ro w NoX (rl 2 obC ov O)) (n_ov : Ro w NoX (nst O)) (h_rv : Ro w NoX (il .i64 rv rs)) (hG : GG (O.map ab) rs) (hsm : SM (O.map ab)) :
    Calls Try.prog 64 #[.func (.func 66) #[] #[.pointer (some ⟨gov, 0, none⟩)]] w fun e w' => ∃ v, e = .returned (v) ∧ ((rcL (O.map ab) rs) = [] → v = .slice none 0 0) ∧ St w NoX [io .i64 (v) (rcL (O.map ab) rs)] w' := by
  refine calls_in 5 Try.func64 rfl rfl (by simp) (fun A0 hsz0 hdf0 hargs => ?_)
  have l0_0 := hargs 0 (.func (.func 66) #[] #[.pointer (some ⟨gov, 0, none⟩)]) rfl
  clear hargs; replace hsz0 : SzN A0 5 := ⟨hsz0⟩
  have hS := St.nil w
  have bh_ov := SlN.le (sl_SlN h_ov.at)
  have bh_rv := SlN.le (sl_SlN h_rv.at)
  refine wp_seq_k (fun K1 hK1 => ?_)
  refine region_in ?_
  refine W_v rfl rfl (V_asg rfl rfl) ?_
  refine W_end ?_
  refine gen_Q (fun A2 hA2 => ?_)
  have hsz2 := szq hA2
  have hdf2 : A2.defers = [] := by rw [hA2]; simp only [df_put]; exact hdf0
  have l0_2 := lookE hA2 0 (es rfl l0_0)
  clear hA2 hsz0 hdf0 l0_0
  refine then_n (hK1 _ _ ?_)
  clear hK1
  refine wp_seq_k (fun K3 hK3 => ?_)
  refine region_in ?_
  refine W_v rfl rfl (V_mov rfl l0_2) ?_
  refine W_call rfl rfl rfl Try.func69 (by kernel_rfl) rfl (args2 rfl (et rfl)) (kas_c (gov := gov) (hS.roC hb_ov) (hS.roC h_ov) (hS.roC n_ov) (hS.roC h_rv) (by first | with_reducible assumption | with_reducible exact hG0) (by first | with_reducible assumption)) ?_
  rintro _ w4 ⟨v_4, rfl, hv0_4, hP4⟩
  refine ⟨_, rfl, ?_⟩
  obtain ⟨c_4, hc_4, hP4⟩ := gen1 hP4
  have hS4 := hS.join hP4
  replace hS4 : St w NoX [c_4] w4 := hS4
  refine W_v rfl rfl (V_asg rfl (et rfl)) ?_
  refine W_end ?_
  refine gen_Q (fun A5 hA5 => ?_)
  have hsz5 := szq hA5
  have hdf5 : A5.defers = [] := by rw [hA5]; simp only [df_put]; exact hdf2
  have l2_5 := lookE hA5 2 (et rfl)
  clear hA5 hsz2 hdf2 l0_2
  refine then_n (hK3 _ _ ?_)
  clear hK3
  refine wp_ret ?_
  refine ret_in (results_1 Try.results64 (rv_tmp l2_5)) hdf5 ?_
  -- leaf 
  exact ⟨_, rfl, hv0_4, (hS4.fin1 0 rfl (hc_4))⟩

set_option maxHeartbeats 4000000 in
theorem kso_c {ov : Value} {O : List Ob} {rv : Value} {rs : List Int} {gov : Nat} {w : World} (hb_ov : Ro w NoX (bx gov 25 #[ov, rv])) (h_ov : Ro w NoX (rl 2 obC ov O)) (n_ov : Ro w NoX (nst O)) (h_rv : Ro w NoX (il .i64 rv rs)) (hG : GG (O.map ab) rs) (hsm : SM (O.map ab)) :
    Calls Try.prog 48 #[.func (.func 66) #[] #[.pointer (some ⟨gov, 0, none⟩)]] w fun e w' => ∃ v, e = .returned (v) ∧ St w NoX [io .i64 (v) (lvL (O.map ab) rs)] w' := by
  refine calls_in 9 Try.func48 rfl rfl (by simp) (fun A0 hsz0 hdf0 hargs => ?_)
  have l0_0 := hargs 0 (.func (.func 66) #[] #[.pointer (some ⟨gov, 0, none⟩)]) rfl
  clear hargs; replace hsz0 : SzN A0 9 := ⟨hsz0⟩
  have hS := St.nil w
  have bh_ov := SlN.le (sl_SlN h_ov.at)
  have bh_rv := SlN.le (sl_SlN h_rv.at)
  refine wp_seq_k (fun K1 hK1 => ?_)
  refine region_in ?_
  refine W_v rfl rfl (V_asg rfl rfl) ?_
  refine W_end ?_
  refine gen_Q (fun A2 hA2 => ?_)
  have hsz2 := szq hA2
  have hdf2 : A2.defers = [] := by rw [hA2]; simp only [df_put]; exact hdf0
  have l0_2 := lookE hA2 0 (es rfl l0_0)
  clear hA2 hsz0 hdf0 l0_0
  refine then_n (hK1 _ _ ?_)
  clear hK1
  refine wp_seq_k (fun K3 hK3 => ?_)
  refine region_in ?_
  refine W_v rfl rfl (V_mov rfl l0_2) ?_
  refine W_call rfl rfl rfl Try.func64 (by kernel_rfl) rfl (args1 (et rfl)) (kco_c (gov := gov) (hS.roC hb_ov) (hS.roC h_ov) (hS.roC n_ov) (hS.roC h_rv) (by first | with_reducible assumption | with_reducible exact hG0) (by first | with_reducible assumption)) ?_
  rintro _ w4 ⟨v_4, rfl, hv0_4, hP4⟩
  refine ⟨_, rfl, ?_⟩
  obtain ⟨c_4, hc_4, hP4⟩ := gen1 hP4
  have hS4 := hS.join hP4
  replace hS4 : St w NoX [c_4] w4 := hS4
  refine W_v rfl rfl (V_asg rfl (et rfl)) ?_
  refine W_end ?_
  refine gen_Q (fun A5 hA5 => ?_)
  have hsz5 := szq hA5
  have hdf5 : A5.defers = [] := by rw [hA5]; simp only [df_put]; exact hdf2
  have l3_5 := lookE hA5 3 (et rfl)
  clear hA5 hsz2 hdf2 l0_2
  refine then_n (hK3 _ _ ?_)
  clear hK3
  refine wp_seq_k (fun K6 hK6 => ?_)
  refine region_in ?_
  refine W_v rfl rfl (V_mov rfl l3_5) ?_
  obtain ⟨Y7, hP7, hR7, hF7, hB7⟩ := St.call (pre := [c_4]) (fr := []) hS4
  rw [hc_4] at hP7
  refine W_call rfl rfl rfl Try.func65 (by kernel_rfl) rfl (args1 (et rfl)) ((sort_St3 (us := sortL (rcL (O.map ab) rs)) hP7 hv0_4 (sortL_len (rcL (O.map ab) rs)) (fun g off cap hH hg => Try.slices_Sort_int g off cap (rcL (O.map ab) rs) _ hH hg (by have h1 := rcL_len hG; have h2 := hG.o4; omega)) Try.slices_Sort_int_none)) ?_
  rintro _ w8 ⟨rfl, hP8⟩
  refine ⟨_, rfl, ?_⟩
  obtain ⟨c_8, hc_8, hP8⟩ := gen1 hP8
  have hS8 := hB7 _ _ hP8
  replace hS8 : St w NoX [c_8] w8 := hS8
  refine W_end ?_
  refine gen_Q (fun A9 hA9 => ?_)
  have hsz9 := szq hA9
  have hdf9 : A9.defers = [] := by rw [hA9]; simp only [df_put]; exact hdf5
  have l3_9 := lookE hA9 3 (es rfl (es rfl l3_5))
  clear hA9 hsz5 hdf5 l3_5
  refine then_n (hK6 _ _ ?_)
  clear hK6
  refine wp_seq_k (fun K10 hK10 => ?_)
  refine region_in ?_
  refine W_v rfl rfl (V_mov rfl l3_9) ?_
  refine W_v rfl rfl (V_asg rfl (et rfl)) ?_
  refine W_end ?_
  refine gen_Q (fun A11 hA11 => ?_)
  have hsz11 := szq hA11
  have hdf11 : A11.defers = [] := by rw [hA11]; simp only [df_put]; exact hdf9
  have l2_11 := lookE hA11 2 (et rfl)
  clear hA11 hsz9 hdf9 l3_9
  refine then_n (hK10 _ _ ?_)
  clear hK10
  refine wp_ret ?_
  refine ret_in (results_1 Try.results48 (rv_tmp l2_11)) hdf11 ?_
  -- leaf 
  exact ⟨_, rfl, (hS8.fin1 0 rfl (hc_8.trans (by rw [rcL_sort hG])))⟩

end Go.Proofs.Ytdilbnmaihmgnaa