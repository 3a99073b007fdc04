import Derived.Test.YteppjefmlibmoaaProg
import Derived.Test.YteppjefmlibmoaaSl3
import Derived.Test.YteppjefmlibmoaaPl7e
namespace Go.Proofs.Yteppjefmlibmoaa
open Go.RowKit Go.Own Go.Own.R Go.Own.S


set_option maxHeartbeats 4000000 in
theorem qCk_c {cv : Value} {c : List Int} {w : World} (h_cv : Ro w NoX (il .i64 cv c))  :
  Calls Try.prog 84 #[.agg #[cv]] w fun e w' => e = .returned (.tuple #[.int .i64 (ckS c).1, .int .i64 (ckS c).2]) ∧ St w NoX [] w' := by
 refine calls_in 87 Try.func84 rfl rfl (by simp) (fun A0 hsz0 hdf0 hargs => ?_)
 have l0_0 := hargs 0 (.agg #[cv]) rfl
 clear hargs; replace hsz0 : SzN A0 87 := ⟨hsz0⟩
 have hS := St.nil w
 have bh_cv := SlN.le (sl_SlN h_cv.at)
 refine wp_seq_k fun K1 hK1 => ?_
 refine region_in ?_
 refine W_boxS (zs := #[cv]) hS rfl rfl rfl l0_0 (by rfl) (fun g2 w2 c2 hc2 hS2 => ?_)
 replace hS2 : St w NoX [c2] w2 := hS2
 refine W_v rfl rfl (V_asg rfl rfl) ?_
 refine W_v rfl rfl (V_asg rfl rfl) ?_
 refine W_end (gen_Q fun A3 hA3 => ?_)
 have hsz3 := szq hA3
 have hdf3 := dfE hA3 hdf0
 have l1_3 := lookE hA3 1 (e2 rfl (et rfl))
 clear hA3 hsz0 hdf0 l0_0
 refine then_n (hK1 _ _ ?_)
 clear hK1
 refine wp_seq_k fun K4 hK4 => ?_
 refine region_in ?_
 refine W_v rfl rfl (V_fa (off' := 0) rfl l1_3 Try.underlying27 rfl (by decide +kernel) rfl) ?_
 refine W_r rfl rfl (VR_ldC rfl (et rfl) (cell_box (v := cv) (hS2.obj 0 rfl hc2) rfl) Try.underlying25 rfl) ?_
 refine W_v rfl rfl (V_asg rfl (et rfl)) ?_
 refine W_end (gen_Q fun A5 hA5 => ?_)
 have hsz5 := szq hA5
 have hdf5 := dfE hA5 hdf3
 have l4_5 := lookE hA5 4 (et rfl)
 clear hA5 hsz3 hdf3 l1_3
 have hS6 : St w NoX [] w2 := hS2.sel [] (by decide) rfl
 refine then_n (hK4 _ _ ?_)
 clear hK4
 refine wp_seq_k fun K7 hK7 => ?_
 refine wp_seq_k fun K8 hK8 => ?_
 refine region_in ?_
 refine W_v rfl rfl (V_mov rfl l4_5) ?_
 refine W_v rfl rfl (V_lenS rfl (et rfl) (sl_SlN h_cv.at) Try.underlying25) ?_
 refine W_v rfl rfl (V_gtr rfl (et rfl) rfl) ?_
 refine W_end (gen_Q fun A9 hA9 => ?_)
 have hsz9 := szq hA9
 have hdf9 := dfE hA9 hdf5
 have l4_9 := ek3 hA9 4 rfl l4_5
 have l14_9 := lookE hA9 14 (et rfl)
 clear hA9 hsz5 hdf5 l4_5
 refine then_n (hK8 _ _ ?_)
 clear hK8
 refine cond_dec l14_9 (fun c10 => ?_) (fun c10 => ?_)
 ·refine wp_seq_k fun K11 hK11 => ?_
  refine region_in ?_
  refine W_v rfl rfl (V_asg rfl rfl) ?_
  refine W_v rfl rfl (V_asg rfl rfl) ?_
  refine W_end (gen_Q fun A12 hA12 => ?_)
  have hsz12 := szq hA12
  have hdf12 := dfE hA12 hdf9
  have l2_12 := lookE hA12 2 (es rfl (et rfl))
  have l3_12 := lookE hA12 3 (et rfl)
  clear hA12 hsz9 hdf9 l4_9 l14_9
  refine then_n (hK11 _ _ ?_)
  clear hK11
  refine wp_ret ?_
  refine then_ret ?_
  refine ret_in (results_2 Try.results84 (rv_tmp l2_12) (rv_tmp l3_12)) hdf12 ?_
  have h : ckS c = ((-1), 3) := ck_long (by omega)
  rw [h]
  exact ⟨rfl, hS6.fin0⟩
 ·refine wp_skip ?_
  refine then_n (hK7 _ _ ?_)
  clear hK7
  refine wp_seq_k fun K13 hK13 => ?_
  refine region_in ?_
  refine W_v rfl rfl (V_asg rfl rfl) ?_
  refine W_end (gen_Q fun A14 hA14 => ?_)
  have hsz14 := szq hA14
  have hdf14 := dfE hA14 hdf9
  have l4_14 := lookE hA14 4 (es rfl l4_9)
  have l5_14 := lookE hA14 5 (et rfl)
  clear hA14 hsz9 hdf9 l4_9 l14_9
  refine then_n (hK13 _ _ ?_)
  clear hK13
  refine wp_seq_k fun K15 hK15 => ?_
  refine wp_block ?_
  -- loop 5
  refine loopX (fun mz A' w' => SzN A' 87 ∧ A'.defers = [] ∧ (∃ (m : Nat), (mz = 8192 - m) ∧ (P2 m) ∧ (m = 8 ∨ m < 2 * c.length) ∧ (8 ≤ m ∧ m ≤ 8192) ∧ (EV A' (.tmp 5) = .int .i64 (m : Int)) ∧ (EV A' (.tmp 4) = EV A14 (.tmp 4)) ∧ (St w NoX [] w'))) (8192 - 8) ⟨hsz14, hdf14, 8, rfl, (by decide), (.inl rfl), (by omega), ((l5_14).trans (by first | rfl | (simp; done) | (congr 1; omega))), rfl, hS6⟩ ?_
  clear hS6
  rintro n16 A16 w16 ⟨hsz16, hdf16, m, hm16, hpm, hlo, hmb, l5_16, u4_16, hS16⟩
  have l4_16 := u4_16.trans l4_14
  refine wp_seq_k fun K17 hK17 => ?_
  refine wp_seq_k fun K18 hK18 => ?_
  refine region_in ?_
  refine W_v rfl rfl (V_mov rfl l5_16) ?_
  refine W_v rfl rfl (V_mov rfl (es rfl l4_16)) ?_
  refine W_v rfl rfl (V_lenS rfl (et rfl) (sl_SlN h_cv.at) Try.underlying25) ?_
  refine W_v rfl rfl (V_lss rfl (e2 rfl (et rfl)) (et rfl)) ?_
  refine W_end (gen_Q fun A19 hA19 => ?_)
  have hsz19 := szq hA19
  have hdf19 := dfE hA19 hdf16
  have l4_19 := ek4 hA19 4 rfl l4_16
  have l5_19 := ek4 hA19 5 rfl l5_16
  have l18_19 := lookE hA19 18 (et rfl)
  clear hA19 hsz16 hdf16 l5_16 l4_16
  refine then_n (hK18 _ _ ?_)
  clear hK18
  refine cond_dec l18_19 (fun c20 => ?_) (fun c20 => ?_)
  ·refine wp_skip ?_
   refine then_n (hK17 _ _ ?_)
   clear hK17
   refine wp_block ?_
   refine region_in ?_
   refine W_v rfl rfl (V_mov rfl l5_19) ?_
   refine W_v rfl rfl (V_mul rfl (et rfl) rfl (by omega) (by omega)) ?_
   refine W_v rfl rfl (V_asg rfl (et rfl)) ?_
   refine W_end (gen_Q fun A21 hA21 => ?_)
   have hsz21 := szq hA21
   have hdf21 := dfE hA21 hdf19
   have l4_21 := ek3 hA21 4 rfl l4_19
   have l5_21 := lookE hA21 5 (et rfl)
   clear hA21 hsz19 hdf19 l4_19 l5_19 l18_19
   refine inb_n ?_
   refine then_n ⟨8192 - (m * 2), by simp only [hm16]; omega, hsz21, hdf21, (m * 2), rfl, (p2_dbl hpm (by omega)), (by omega), (by have := (p2_dbl hpm (by omega)).bd; omega), ((l5_21).trans (by first | rfl | (simp; done) | (congr 1; omega))), ((l4_21).trans l4_14.symm), hS16⟩
  ·refine wp_exit ?_
   refine then_exit ?_
   refine then_exit ?_
   refine inb_hit ?_
   refine then_n (hK15 _ _ ?_)
   clear hK15
   refine wp_seq_k fun K22 hK22 => ?_
   refine wp_seq_k fun K23 hK23 => ?_
   refine region_in ?_
   refine W_v rfl rfl (V_mov rfl l5_19) ?_
   refine W_v rfl rfl (V_mov rfl (es rfl l4_19)) ?_
   refine W_v rfl rfl (V_lenS rfl (et rfl) (sl_SlN h_cv.at) Try.underlying25) ?_
   refine W_v rfl rfl (V_neq rfl (e2 rfl (et rfl)) (et rfl)) ?_
   refine W_end (gen_Q fun A24 hA24 => ?_)
   have hsz24 := szq hA24
   have hdf24 := dfE hA24 hdf19
   have l4_24 := ek4 hA24 4 rfl l4_19
   have l24_24 := lookE hA24 24 (et rfl)
   clear hA24 hsz19 hdf19 l4_19 l5_19 l18_19
   refine then_n (hK23 _ _ ?_)
   clear hK23
   refine cond_dec l24_24 (fun c25 => ?_) (fun c25 => ?_)
   ·refine wp_seq_k fun K26 hK26 => ?_
    refine region_in ?_
    refine W_v rfl rfl (V_asg rfl rfl) ?_
    refine W_v rfl rfl (V_asg rfl rfl) ?_
    refine W_end (gen_Q fun A27 hA27 => ?_)
    have hsz27 := szq hA27
    have hdf27 := dfE hA27 hdf24
    have l2_27 := lookE hA27 2 (es rfl (et rfl))
    have l3_27 := lookE hA27 3 (et rfl)
    clear hA27 hsz24 hdf24 l4_24 l24_24
    refine then_n (hK26 _ _ ?_)
    clear hK26
    refine wp_ret ?_
    refine then_ret ?_
    refine ret_in (results_2 Try.results84 (rv_tmp l2_27) (rv_tmp l3_27)) hdf27 ?_
    have h : ckS c = ((-1), 6) := ck_form (by omega) (form_no hpm hlo (by omega) (by omega))
    rw [h]
    exact ⟨rfl, hS16.fin0⟩
   ·have hp2 : P2 c.length := (show m = c.length by omega) ▸ hpm
    have hp2b := hp2.bd
    refine wp_skip ?_
    refine then_n (hK22 _ _ ?_)
    clear hK22
    refine wp_seq_k fun K28 hK28 => ?_
    refine wp_seq_k fun K29 hK29 => ?_
    refine region_in ?_
    refine W_v rfl rfl (V_asg rfl rfl) ?_
    refine W_end (gen_Q fun A30 hA30 => ?_)
    have hsz30 := szq hA30
    have hdf30 := dfE hA30 hdf24
    have l4_30 := lookE hA30 4 (es rfl l4_24)
    have l6_30 := lookE hA30 6 (et rfl)
    clear hA30 hsz24 hdf24 l4_24 l24_24
    refine then_n (hK29 _ _ ?_)
    clear hK29
    refine wp_block ?_
    -- loop 10
    refine loopX (fun mz A' w' => SzN A' 87 ∧ A'.defers = [] ∧ (∃ (i : Nat), (mz = c.length - i) ∧ (i ≤ c.length) ∧ (bdGo [] c 0 = bdGo (c.take i) (c.drop i) i) ∧ (EV A' (.tmp 6) = .int .i64 (i : Int)) ∧ (EV A' (.tmp 4) = EV A30 (.tmp 4)) ∧ (St w NoX [] w'))) (c.length - 0) ⟨hsz30, hdf30, 0, rfl, (by omega), (bd_init _), ((l6_30).trans (by first | rfl | (simp; done) | (congr 1; omega))), rfl, hS16⟩ ?_
    clear hS16
    rintro n31 A31 w31 ⟨hsz31, hdf31, i, hm31, hi, hz, l6_31, u4_31, hS31⟩
    have l4_31 := u4_31.trans l4_30
    refine wp_seq_k fun K32 hK32 => ?_
    refine wp_seq_k fun K33 hK33 => ?_
    refine region_in ?_
    refine W_v rfl rfl (V_mov rfl l6_31) ?_
    refine W_v rfl rfl (V_mov rfl (es rfl l4_31)) ?_
    refine W_v rfl rfl (V_lenS rfl (et rfl) (sl_SlN h_cv.at) Try.underlying25) ?_
    refine W_v rfl rfl (V_lss rfl (e2 rfl (et rfl)) (et rfl)) ?_
    refine W_end (gen_Q fun A34 hA34 => ?_)
    have hsz34 := szq hA34
    have hdf34 := dfE hA34 hdf31
    have l4_34 := ek4 hA34 4 rfl l4_31
    have l6_34 := ek4 hA34 6 rfl l6_31
    have l28_34 := lookE hA34 28 (et rfl)
    clear hA34 hsz31 hdf31 l6_31 l4_31
    refine then_n (hK33 _ _ ?_)
    clear hK33
    refine cond_dec l28_34 (fun c35 => ?_) (fun c35 => ?_)
    ·refine wp_skip ?_
     refine then_n (hK32 _ _ ?_)
     clear hK32
     refine wp_seq_k fun K36 hK36 => ?_
     refine wp_block ?_
     refine wp_seq_k fun K37 hK37 => ?_
     refine wp_seq_k fun K38 hK38 => ?_
     refine region_in ?_
     refine W_v rfl rfl (V_mov rfl l4_34) ?_
     refine W_v rfl rfl (V_mov rfl (es rfl l6_34)) ?_
     have k39 : i < c.length := by first | omega | (simp only [List.length_cons, List.length_nil]; omega) | (simp only [List.length_set]; omega) | decide
     obtain ⟨y39, hy39⟩ := get_some (xs := c) (k := i) k39
     obtain ⟨B39, O39, C39, hv39⟩ := (SlN.blk (sl_SlN h_cv.at) (by first | omega | (simp only [List.length_cons, List.length_nil]; omega) | (simp only [List.length_set]; omega) | decide))
     refine W_v rfl rfl (V_ixS (off := O39 + i) 1 (i) rfl (es rfl (et rfl)) (et rfl) hv39 (by omega) k39 Try.underlying25 (by kernel_rfl) (congrArg _ (Nat.mul_one _))) ?_
     refine W_r rfl rfl (VR_ldC rfl (et rfl) ((sl_SlN (hS31.ro h_cv)).cell hv39 (map_get hy39)) Try.underlying3 rfl) ?_
     refine W_v rfl rfl (V_lss rfl (et rfl) rfl) ?_
     refine W_split rfl rfl (V_mov rfl (et rfl)) (fun c40 => ?_) (fun c40 => ?_)
     ·refine W_off rfl (wanted_f rfl rfl (et rfl) (ez rfl) rfl) ?_
      refine W_off rfl (wanted_f rfl rfl (es rfl (et rfl)) (ez rfl) rfl) ?_
      refine W_off rfl (wanted_f rfl rfl (e2 rfl (et rfl)) (ez rfl) rfl) ?_
      refine W_off rfl (wanted_f rfl rfl (e3 rfl (et rfl)) (ez rfl) rfl) ?_
      refine W_off rfl (wanted_f rfl rfl (e4 rfl (et rfl)) (ez rfl) rfl) ?_
      refine W_v rfl rfl (V_pickT rfl (e5 rfl (et rfl)) rfl) ?_
      refine W_end (gen_Q fun A41 hA41 => ?_)
      have hsz41 := szq hA41
      have hdf41 := dfE hA41 hdf34
      have l4_41 := ek12 hA41 4 rfl l4_34
      have l6_41 := ek12 hA41 6 rfl l6_34
      have l37_41 := lookE hA41 37 (e5 rfl (et rfl))
      have l38_41 := lookE hA41 38 (e4 rfl (et rfl))
      have l39_41 := lookE hA41 39 (e3 rfl (et rfl))
      have l40_41 := lookE hA41 40 (e2 rfl (et rfl))
      have l41_41 := lookE hA41 41 (es rfl (et rfl))
      have l42_41 := lookE hA41 42 (et rfl)
      clear hA41 hsz34 hdf34 l4_34 l6_34 l28_34
      refine then_n (hK38 _ _ ?_)
      clear hK38
      refine cond_t l42_41 ?_
      refine wp_seq_k fun K42 hK42 => ?_
      refine region_in ?_
      refine W_v rfl rfl (V_mov rfl l6_41) ?_
      refine W_v rfl rfl (V_asg rfl (et rfl)) ?_
      refine W_v rfl rfl (V_asg rfl rfl) ?_
      refine W_end (gen_Q fun A43 hA43 => ?_)
      have hsz43 := szq hA43
      have hdf43 := dfE hA43 hdf41
      have l2_43 := lookE hA43 2 (es rfl (et rfl))
      have l3_43 := lookE hA43 3 (et rfl)
      clear hA43 hsz41 hdf41 l4_41 l6_41 l37_41 l38_41 l39_41 l40_41 l41_41 l42_41
      refine then_n (hK42 _ _ ?_)
      clear hK42
      refine wp_ret ?_
      refine then_ret ?_
      refine inb_ret ?_
      refine then_ret ?_
      refine then_ret ?_
      refine inb_ret ?_
      refine then_ret ?_
      refine ret_in (results_2 Try.results84 (rv_tmp l2_43) (rv_tmp l3_43)) hdf43 ?_
      have h : ckS c = ((i : Int), 7) := ck_bd hp2 (bd_rng hz hy39 (by omega))
      rw [h]
      exact ⟨rfl, hS31.fin0⟩
     ·refine W_v rfl (wanted_t rfl rfl (et rfl) (ez rfl)) (V_mov rfl (e6 rfl l4_34)) ?_
      refine W_v rfl (wanted_t rfl rfl (es rfl (et rfl)) (ez rfl)) (V_mov rfl (e7 rfl l6_34)) ?_
      refine W_v rfl (wanted_t rfl rfl (e2 rfl (et rfl)) (ez rfl)) (V_ixS (off := O39 + i) 1 (i) rfl (es rfl (et rfl)) (et rfl) hv39 (by omega) k39 Try.underlying25 (by kernel_rfl) (congrArg _ (Nat.mul_one _))) ?_
      refine W_r rfl (wanted_t rfl rfl (e3 rfl (et rfl)) (ez rfl)) (VR_ldC rfl (et rfl) ((sl_SlN (hS31.ro h_cv)).cell hv39 (map_get hy39)) Try.underlying3 rfl) ?_
      refine W_v rfl (wanted_t rfl rfl (e4 rfl (et rfl)) (ez rfl)) (V_gtr rfl (et rfl) rfl) ?_
      refine W_v rfl rfl (V_pickF rfl (e5 rfl (et rfl)) (et rfl)) ?_
      refine W_end (gen_Q fun A45 hA45 => ?_)
      have hsz45 := szq hA45
      have hdf45 := dfE hA45 hdf34
      have l4_45 := ek12 hA45 4 rfl l4_34
      have l6_45 := ek12 hA45 6 rfl l6_34
      have l37_45 := lookE hA45 37 (e5 rfl (et rfl))
      have l38_45 := lookE hA45 38 (e4 rfl (et rfl))
      have l39_45 := lookE hA45 39 (e3 rfl (et rfl))
      have l40_45 := lookE hA45 40 (e2 rfl (et rfl))
      have l41_45 := lookE hA45 41 (es rfl (et rfl))
      have l42_45 := lookE hA45 42 (et rfl)
      clear hA45 hsz34 hdf34 l4_34 l6_34 l28_34
      refine then_n (hK38 _ _ ?_)
      clear hK38
      refine cond_dec l42_45 (fun c46 => ?_) (fun c46 => ?_)
      ·refine wp_seq_k fun K47 hK47 => ?_
       refine region_in ?_
       refine W_v rfl rfl (V_mov rfl l6_45) ?_
       refine W_v rfl rfl (V_asg rfl (et rfl)) ?_
       refine W_v rfl rfl (V_asg rfl rfl) ?_
       refine W_end (gen_Q fun A48 hA48 => ?_)
       have hsz48 := szq hA48
       have hdf48 := dfE hA48 hdf45
       have l2_48 := lookE hA48 2 (es rfl (et rfl))
       have l3_48 := lookE hA48 3 (et rfl)
       clear hA48 hsz45 hdf45 l4_45 l6_45 l37_45 l38_45 l39_45 l40_45 l41_45 l42_45
       refine then_n (hK47 _ _ ?_)
       clear hK47
       refine wp_ret ?_
       refine then_ret ?_
       refine inb_ret ?_
       refine then_ret ?_
       refine then_ret ?_
       refine inb_ret ?_
       refine then_ret ?_
       refine ret_in (results_2 Try.results84 (rv_tmp l2_48) (rv_tmp l3_48)) hdf48 ?_
       have h : ckS c = ((i : Int), 7) := ck_bd hp2 (bd_rng hz hy39 (by omega))
       rw [h]
       exact ⟨rfl, hS31.fin0⟩
      ·refine wp_skip ?_
       refine then_n (hK37 _ _ ?_)
       clear hK37
       refine wp_seq_k fun K49 hK49 => ?_
       refine region_in ?_
       refine W_v rfl rfl (V_mov rfl l4_45) ?_
       refine W_v rfl rfl (V_mov rfl (es rfl l6_45)) ?_
       refine W_v rfl rfl (V_ixS (off := O39 + i) 1 (i) rfl (es rfl (et rfl)) (et rfl) hv39 (by omega) k39 Try.underlying25 (by kernel_rfl) (congrArg _ (Nat.mul_one _))) ?_
       refine W_r rfl rfl (VR_ldC rfl (et rfl) ((sl_SlN (hS31.ro h_cv)).cell hv39 (map_get hy39)) Try.underlying3 rfl) ?_
       refine W_v rfl rfl (V_gtr rfl (et rfl) rfl) ?_
       refine W_split rfl rfl (V_mov rfl (et rfl)) (fun c51 => ?_) (fun c51 => ?_)
       ·refine W_v rfl (wanted_t rfl rfl (et rfl) (ez rfl)) (V_mov rfl (e6 rfl l4_45)) ?_
        refine W_v rfl (wanted_t rfl rfl (es rfl (et rfl)) (ez rfl)) (V_mov rfl (e7 rfl l6_45)) ?_
        refine W_call rfl (wanted_t rfl rfl (e2 rfl (et rfl)) (ez rfl)) rfl Try.func113 (by kernel_rfl) rfl (args2 (es rfl (et rfl)) (et rfl)) (qbef_c (i := (i : Int)) (hS31.roC h_cv) (by omega)) ?_
        rintro _ w52 ⟨rfl, hP52⟩
        refine ⟨_, rfl, ?_⟩
        have hS52 := hS31.join hP52
        replace hS52 : St w NoX [] w52 := hS52
        refine W_v rfl rfl (V_pickT rfl (e3 rfl (et rfl)) (et rfl)) ?_
        refine W_end (gen_Q fun A53 hA53 => ?_)
        have hsz53 := szq hA53
        have hdf53 := dfE hA53 hdf45
        have l4_53 := ek10 hA53 4 rfl l4_45
        have l6_53 := ek10 hA53 6 rfl l6_45
        have l37_53 := ek10 hA53 37 rfl l37_45
        have l38_53 := ek10 hA53 38 rfl l38_45
        have l39_53 := ek10 hA53 39 rfl l39_45
        have l40_53 := ek10 hA53 40 rfl l40_45
        have l41_53 := ek10 hA53 41 rfl l41_45
        have l50_53 := lookE hA53 50 (e3 rfl (et rfl))
        have l51_53 := lookE hA53 51 (e2 rfl (et rfl))
        have l52_53 := lookE hA53 52 (es rfl (et rfl))
        have l53_53 := lookE hA53 53 (et rfl)
        clear hA53 hsz45 hdf45 l4_45 l6_45 l37_45 l38_45 l39_45 l40_45 l41_45 l42_45
        refine then_n (hK49 _ _ ?_)
        clear hK49
        refine cond_b l53_53 (fun c54 => ?_) (fun c54 => ?_)
        ·refine wp_seq_k fun K55 hK55 => ?_
         refine region_in ?_
         refine W_v rfl rfl (V_mov rfl l6_53) ?_
         refine W_v rfl rfl (V_asg rfl (et rfl)) ?_
         refine W_v rfl rfl (V_asg rfl rfl) ?_
         refine W_end (gen_Q fun A56 hA56 => ?_)
         have hsz56 := szq hA56
         have hdf56 := dfE hA56 hdf53
         have l2_56 := lookE hA56 2 (es rfl (et rfl))
         have l3_56 := lookE hA56 3 (et rfl)
         clear hA56 hsz53 hdf53 l4_53 l6_53 l37_53 l38_53 l39_53 l40_53 l41_53 l50_53 l51_53 l52_53 l53_53
         refine then_n (hK55 _ _ ?_)
         clear hK55
         refine wp_ret ?_
         refine inb_ret ?_
         refine then_ret ?_
         refine then_ret ?_
         refine inb_ret ?_
         refine then_ret ?_
         refine ret_in (results_2 Try.results84 (rv_tmp l2_56) (rv_tmp l3_56)) hdf56 ?_
         have h : ckS c = ((i : Int), 8) := ck_bd hp2 (bd_twice hz hy39 (by omega) (by have hb := c54; rw [bef_at hy39] at hb; exact ⟨by omega, by simpa using hb⟩))
         rw [h]
         exact ⟨rfl, hS52.fin0⟩
        ·refine wp_skip ?_
         refine inb_n ?_
         refine then_n (hK36 _ _ ?_)
         clear hK36
         refine region_in ?_
         refine W_v rfl rfl (V_mov rfl l6_53) ?_
         refine W_v rfl rfl (V_add rfl (et rfl) rfl (by omega) (by omega)) ?_
         refine W_v rfl rfl (V_asg rfl (et rfl)) ?_
         refine W_end (gen_Q fun A57 hA57 => ?_)
         have hsz57 := szq hA57
         have hdf57 := dfE hA57 hdf53
         have l4_57 := ek3 hA57 4 rfl l4_53
         have l6_57 := lookE hA57 6 (et rfl)
         have l37_57 := ek3 hA57 37 rfl l37_53
         have l38_57 := ek3 hA57 38 rfl l38_53
         have l39_57 := ek3 hA57 39 rfl l39_53
         have l40_57 := ek3 hA57 40 rfl l40_53
         have l41_57 := ek3 hA57 41 rfl l41_53
         have l50_57 := ek3 hA57 50 rfl l50_53
         have l51_57 := ek3 hA57 51 rfl l51_53
         have l52_57 := ek3 hA57 52 rfl l52_53
         clear hA57 hsz53 hdf53 l4_53 l6_53 l37_53 l38_53 l39_53 l40_53 l41_53 l50_53 l51_53 l52_53 l53_53
         refine then_n ⟨c.length - (i + 1), by simp only [hm31]; omega, hsz57, hdf57, (i + 1), rfl, (by omega), (bd_step hz hy39 (by omega) (fun q => by have hb := c54; rw [bef_at hy39] at hb; exact absurd q.2 (by simpa using hb))), ((l6_57).trans (by first | rfl | (simp; done) | (congr 1; omega))), ((l4_57).trans l4_30.symm), hS52⟩
       ·refine W_off rfl (wanted_f rfl rfl (et rfl) (ez rfl) rfl) ?_
        refine W_off rfl (wanted_f rfl rfl (es rfl (et rfl)) (ez rfl) rfl) ?_
        refine W_off rfl (wanted_f rfl rfl (e2 rfl (et rfl)) (ez rfl) rfl) ?_
        refine W_v rfl rfl (V_pickF rfl (e3 rfl (et rfl)) rfl) ?_
        refine W_end (gen_Q fun A58 hA58 => ?_)
        have hsz58 := szq hA58
        have hdf58 := dfE hA58 hdf45
        have l4_58 := ek10 hA58 4 rfl l4_45
        have l6_58 := ek10 hA58 6 rfl l6_45
        have l37_58 := ek10 hA58 37 rfl l37_45
        have l38_58 := ek10 hA58 38 rfl l38_45
        have l39_58 := ek10 hA58 39 rfl l39_45
        have l40_58 := ek10 hA58 40 rfl l40_45
        have l41_58 := ek10 hA58 41 rfl l41_45
        have l50_58 := lookE hA58 50 (e3 rfl (et rfl))
        have l51_58 := lookE hA58 51 (e2 rfl (et rfl))
        have l52_58 := lookE hA58 52 (es rfl (et rfl))
        have l53_58 := lookE hA58 53 (et rfl)
        clear hA58 hsz45 hdf45 l4_45 l6_45 l37_45 l38_45 l39_45 l40_45 l41_45 l42_45
        refine then_n (hK49 _ _ ?_)
        clear hK49
        refine cond_f l53_58 ?_
        refine wp_skip ?_
        refine inb_n ?_
        refine then_n (hK36 _ _ ?_)
        clear hK36
        refine region_in ?_
        refine W_v rfl rfl (V_mov rfl l6_58) ?_
        refine W_v rfl rfl (V_add rfl (et rfl) rfl (by omega) (by omega)) ?_
        refine W_v rfl rfl (V_asg rfl (et rfl)) ?_
        refine W_end (gen_Q fun A59 hA59 => ?_)
        have hsz59 := szq hA59
        have hdf59 := dfE hA59 hdf58
        have l4_59 := ek3 hA59 4 rfl l4_58
        have l6_59 := lookE hA59 6 (et rfl)
        have l37_59 := ek3 hA59 37 rfl l37_58
        have l38_59 := ek3 hA59 38 rfl l38_58
        have l39_59 := ek3 hA59 39 rfl l39_58
        have l40_59 := ek3 hA59 40 rfl l40_58
        have l41_59 := ek3 hA59 41 rfl l41_58
        have l50_59 := ek3 hA59 50 rfl l50_58
        have l51_59 := ek3 hA59 51 rfl l51_58
        have l52_59 := ek3 hA59 52 rfl l52_58
        clear hA59 hsz58 hdf58 l4_58 l6_58 l37_58 l38_58 l39_58 l40_58 l41_58 l50_58 l51_58 l52_58 l53_58
        refine then_n ⟨c.length - (i + 1), by simp only [hm31]; omega, hsz59, hdf59, (i + 1), rfl, (by omega), (bd_step hz hy39 (by omega) (fun q => by omega)), ((l6_59).trans (by first | rfl | (simp; done) | (congr 1; omega))), ((l4_59).trans l4_30.symm), hS31⟩
    ·have hbn := bd_done hz (by omega)
     obtain ⟨hrg, hdt⟩ := bd_iff.1 hbn
     have hul := usd_le c
     refine wp_exit ?_
     refine then_exit ?_
     refine then_exit ?_
     refine inb_hit ?_
     refine then_n (hK28 _ _ ?_)
     clear hK28
     refine wp_seq_k fun K60 hK60 => ?_
     refine region_in ?_
     refine W_v rfl rfl (V_mov rfl l4_34) ?_
     refine W_call rfl rfl rfl Try.func85 (by kernel_rfl) rfl (args1 (et rfl)) (qcnt_c (hS31.roC h_cv) ) ?_
     rintro _ w61 ⟨rfl, hP61⟩
     refine ⟨_, rfl, ?_⟩
     have hS61 := hS31.join hP61
     replace hS61 : St w NoX [] w61 := hS61
     refine W_v rfl rfl (V_mov rfl (et rfl)) ?_
     refine W_v rfl rfl (V_ext (v := .int .i64 (((usd c : Nat) : Int))) rfl (et rfl) rfl) ?_
     refine W_v rfl rfl (V_ext (v := .int .i64 (((adr c : Nat) : Int))) rfl (es rfl (et rfl)) rfl) ?_
     refine W_v rfl rfl (V_asg rfl (es rfl (et rfl))) ?_
     refine W_v rfl rfl (V_asg rfl (es rfl (et rfl))) ?_
     refine W_end (gen_Q fun A62 hA62 => ?_)
     have hsz62 := szq hA62
     have hdf62 := dfE hA62 hdf34
     have l4_62 := ek7 hA62 4 rfl l4_34
     have l7_62 := lookE hA62 7 (es rfl (et rfl))
     clear hA62 hsz34 hdf34 l4_34 l6_34 l28_34
     refine then_n (hK60 _ _ ?_)
     clear hK60
     refine wp_seq_k fun K63 hK63 => ?_
     refine wp_seq_k fun K64 hK64 => ?_
     refine region_in ?_
     refine W_v rfl rfl (V_mov rfl l7_62) ?_
     refine W_v rfl rfl (V_mul rfl rfl (et rfl) (by omega) (by omega)) ?_
     refine W_v rfl rfl (V_mov rfl (e2 rfl l4_62)) ?_
     refine W_v rfl rfl (V_lenS rfl (et rfl) (sl_SlN h_cv.at) Try.underlying25) ?_
     refine W_v rfl rfl (V_mul rfl rfl (et rfl) (by omega) (by omega)) ?_
     refine W_v rfl rfl (V_gtr rfl (e3 rfl (et rfl)) (et rfl)) ?_
     refine W_end (gen_Q fun A65 hA65 => ?_)
     have hsz65 := szq hA65
     have hdf65 := dfE hA65 hdf62
     have l4_65 := ek6 hA65 4 rfl l4_62
     have l65_65 := lookE hA65 65 (et rfl)
     clear hA65 hsz62 hdf62 l4_62 l7_62
     refine then_n (hK64 _ _ ?_)
     clear hK64
     refine cond_dec l65_65 (fun c66 => ?_) (fun c66 => ?_)
     ·refine wp_seq_k fun K67 hK67 => ?_
      refine region_in ?_
      refine W_v rfl rfl (V_asg rfl rfl) ?_
      refine W_v rfl rfl (V_asg rfl rfl) ?_
      refine W_end (gen_Q fun A68 hA68 => ?_)
      have hsz68 := szq hA68
      have hdf68 := dfE hA68 hdf65
      have l2_68 := lookE hA68 2 (es rfl (et rfl))
      have l3_68 := lookE hA68 3 (et rfl)
      clear hA68 hsz65 hdf65 l4_65 l65_65
      refine then_n (hK67 _ _ ?_)
      clear hK67
      refine wp_ret ?_
      refine then_ret ?_
      refine ret_in (results_2 Try.results84 (rv_tmp l2_68) (rv_tmp l3_68)) hdf68 ?_
      have h : ckS c = ((-1), 5) := ck_full hp2 hbn (by omega)
      rw [h]
      exact ⟨rfl, hS61.fin0⟩
     ·have hfu : ¬ 3 * c.length < 4 * usd c := by omega
      refine wp_skip ?_
      refine then_n (hK63 _ _ ?_)
      clear hK63
      refine wp_seq_k fun K69 hK69 => ?_
      refine wp_seq_k fun K70 hK70 => ?_
      refine region_in ?_
      refine W_v rfl rfl (V_asg rfl rfl) ?_
      refine W_end (gen_Q fun A71 hA71 => ?_)
      have hsz71 := szq hA71
      have hdf71 := dfE hA71 hdf65
      have l4_71 := lookE hA71 4 (es rfl l4_65)
      have l9_71 := lookE hA71 9 (et rfl)
      clear hA71 hsz65 hdf65 l4_65 l65_65
      refine then_n (hK70 _ _ ?_)
      clear hK70
      refine wp_block ?_
      -- loop 20
      refine loopX (fun mz A' w' => SzN A' 87 ∧ A'.defers = [] ∧ (∃ (i2 : Nat), (mz = c.length - i2) ∧ (i2 ≤ c.length) ∧ (∀ q, q < i2 → ∀ x, c[q]? = some x → 0 < x → 0 ≤ fnd c x) ∧ (EV A' (.tmp 9) = .int .i64 (i2 : Int)) ∧ (EV A' (.tmp 4) = EV A71 (.tmp 4)) ∧ (St w NoX [] w'))) (c.length - 0) ⟨hsz71, hdf71, 0, rfl, (by omega), (fun q hq => by omega), ((l9_71).trans (by first | rfl | (simp; done) | (congr 1; omega))), rfl, hS61⟩ ?_
      clear hS61
      rintro n72 A72 w72 ⟨hsz72, hdf72, i2, hm72, hi2, hn, l9_72, u4_72, hS72⟩
      have l4_72 := u4_72.trans l4_71
      refine wp_seq_k fun K73 hK73 => ?_
      refine wp_seq_k fun K74 hK74 => ?_
      refine region_in ?_
      refine W_v rfl rfl (V_mov rfl l9_72) ?_
      refine W_v rfl rfl (V_mov rfl (es rfl l4_72)) ?_
      refine W_v rfl rfl (V_lenS rfl (et rfl) (sl_SlN h_cv.at) Try.underlying25) ?_
      refine W_v rfl rfl (V_lss rfl (e2 rfl (et rfl)) (et rfl)) ?_
      refine W_end (gen_Q fun A75 hA75 => ?_)
      have hsz75 := szq hA75
      have hdf75 := dfE hA75 hdf72
      have l4_75 := ek4 hA75 4 rfl l4_72
      have l9_75 := ek4 hA75 9 rfl l9_72
      have l69_75 := lookE hA75 69 (et rfl)
      clear hA75 hsz72 hdf72 l9_72 l4_72
      refine then_n (hK74 _ _ ?_)
      clear hK74
      refine cond_dec l69_75 (fun c76 => ?_) (fun c76 => ?_)
      ·refine wp_skip ?_
       refine then_n (hK73 _ _ ?_)
       clear hK73
       refine wp_seq_k fun K77 hK77 => ?_
       refine wp_block ?_
       refine wp_seq_k fun K78 hK78 => ?_
       refine region_in ?_
       refine W_v rfl rfl (V_mov rfl l4_75) ?_
       refine W_v rfl rfl (V_mov rfl (es rfl l9_75)) ?_
       have k79 : i2 < c.length := by first | omega | (simp only [List.length_cons, List.length_nil]; omega) | (simp only [List.length_set]; omega) | decide
       obtain ⟨y79, hy79⟩ := get_some (xs := c) (k := i2) k79
       have hry79 := hrg y79 (List.mem_of_getElem? hy79)
       obtain ⟨B79, O79, C79, hv79⟩ := (SlN.blk (sl_SlN h_cv.at) (by first | omega | (simp only [List.length_cons, List.length_nil]; omega) | (simp only [List.length_set]; omega) | decide))
       refine W_v rfl rfl (V_ixS (off := O79 + i2) 1 (i2) rfl (es rfl (et rfl)) (et rfl) hv79 (by omega) k79 Try.underlying25 (by kernel_rfl) (congrArg _ (Nat.mul_one _))) ?_
       refine W_r rfl rfl (VR_ldC rfl (et rfl) ((sl_SlN (hS72.ro h_cv)).cell hv79 (map_get hy79)) Try.underlying3 rfl) ?_
       refine W_v rfl rfl (V_gtr rfl (et rfl) rfl) ?_
       refine W_split rfl rfl (V_mov rfl (et rfl)) (fun c80 => ?_) (fun c80 => ?_)
       ·refine W_v rfl (wanted_t rfl rfl (et rfl) (ez rfl)) (V_mov rfl (e6 rfl l4_75)) ?_
        refine W_v rfl (wanted_t rfl rfl (es rfl (et rfl)) (ez rfl)) (V_mov rfl (e7 rfl l4_75)) ?_
        refine W_v rfl (wanted_t rfl rfl (e2 rfl (et rfl)) (ez rfl)) (V_mov rfl (e8 rfl l9_75)) ?_
        refine W_v rfl (wanted_t rfl rfl (e3 rfl (et rfl)) (ez rfl)) (V_ixS (off := O79 + i2) 1 (i2) rfl (es rfl (et rfl)) (et rfl) hv79 (by omega) k79 Try.underlying25 (by kernel_rfl) (congrArg _ (Nat.mul_one _))) ?_
        refine W_r rfl (wanted_t rfl rfl (e4 rfl (et rfl)) (ez rfl)) (VR_ldC rfl (et rfl) ((sl_SlN (hS72.ro h_cv)).cell hv79 (map_get hy79)) Try.underlying3 rfl) ?_
        refine W_call rfl (wanted_t rfl rfl (e5 rfl (et rfl)) (ez rfl)) rfl Try.func62 (by kernel_rfl) rfl (args2 (e4 rfl (et rfl)) (et rfl)) (qfind_c (a := y79) (hS72.roC h_cv) (by first | with_reducible assumption | with_reducible exact hG.p2 | with_reducible exact hG2.p2 | (rw [hbl]; exact n1) | (simp only [List.length_set, List.length_replicate] <;> assumption)) (by first | omega | with_reducible assumption) (by first | omega | with_reducible assumption)) ?_
        rintro _ w82 ⟨rfl, hP82⟩
        refine ⟨_, rfl, ?_⟩
        have hS82 := hS72.join hP82
        replace hS82 : St w NoX [] w82 := hS82
        refine W_v rfl (wanted_t rfl rfl (e6 rfl (et rfl)) (ez rfl)) (V_lss rfl (et rfl) rfl) ?_
        refine W_v rfl rfl (V_pickT rfl (e7 rfl (et rfl)) (et rfl)) ?_
        refine W_end (gen_Q fun A83 hA83 => ?_)
        have hsz83 := szq hA83
        have hdf83 := dfE hA83 hdf75
        have l4_83 := ek14 hA83 4 rfl l4_75
        have l9_83 := ek14 hA83 9 rfl l9_75
        have l78_83 := lookE hA83 78 (e7 rfl (et rfl))
        have l79_83 := lookE hA83 79 (e6 rfl (et rfl))
        have l80_83 := lookE hA83 80 (e5 rfl (et rfl))
        have l81_83 := lookE hA83 81 (e4 rfl (et rfl))
        have l82_83 := lookE hA83 82 (e3 rfl (et rfl))
        have l83_83 := lookE hA83 83 (e2 rfl (et rfl))
        have l84_83 := lookE hA83 84 (es rfl (et rfl))
        have l85_83 := lookE hA83 85 (et rfl)
        clear hA83 hsz75 hdf75 l4_75 l9_75 l69_75
        refine then_n (hK78 _ _ ?_)
        clear hK78
        refine cond_dec l85_83 (fun c84 => ?_) (fun c84 => ?_)
        ·refine wp_seq_k fun K85 hK85 => ?_
         refine region_in ?_
         refine W_v rfl rfl (V_mov rfl l9_83) ?_
         refine W_v rfl rfl (V_asg rfl (et rfl)) ?_
         refine W_v rfl rfl (V_asg rfl rfl) ?_
         refine W_end (gen_Q fun A86 hA86 => ?_)
         have hsz86 := szq hA86
         have hdf86 := dfE hA86 hdf83
         have l2_86 := lookE hA86 2 (es rfl (et rfl))
         have l3_86 := lookE hA86 3 (et rfl)
         clear hA86 hsz83 hdf83 l4_83 l9_83 l78_83 l79_83 l80_83 l81_83 l82_83 l83_83 l84_83 l85_83
         refine then_n (hK85 _ _ ?_)
         clear hK85
         refine wp_ret ?_
         refine inb_ret ?_
         refine then_ret ?_
         refine then_ret ?_
         refine inb_ret ?_
         refine then_ret ?_
         refine ret_in (results_2 Try.results84 (rv_tmp l2_86) (rv_tmp l3_86)) hdf86 ?_
         have h : ckS c = ((i2 : Int), 6) := ck_bad2 hp2 hbn hfu hn hy79 (by omega) (by omega)
         rw [h]
         exact ⟨rfl, hS82.fin0⟩
        ·refine wp_skip ?_
         refine inb_n ?_
         refine then_n (hK77 _ _ ?_)
         clear hK77
         refine region_in ?_
         refine W_v rfl rfl (V_mov rfl l9_83) ?_
         refine W_v rfl rfl (V_add rfl (et rfl) rfl (by omega) (by omega)) ?_
         refine W_v rfl rfl (V_asg rfl (et rfl)) ?_
         refine W_end (gen_Q fun A87 hA87 => ?_)
         have hsz87 := szq hA87
         have hdf87 := dfE hA87 hdf83
         have l4_87 := ek3 hA87 4 rfl l4_83
         have l9_87 := lookE hA87 9 (et rfl)
         have l78_87 := ek3 hA87 78 rfl l78_83
         have l79_87 := ek3 hA87 79 rfl l79_83
         have l80_87 := ek3 hA87 80 rfl l80_83
         have l81_87 := ek3 hA87 81 rfl l81_83
         have l82_87 := ek3 hA87 82 rfl l82_83
         have l83_87 := ek3 hA87 83 rfl l83_83
         have l84_87 := ek3 hA87 84 rfl l84_83
         clear hA87 hsz83 hdf83 l4_83 l9_83 l78_83 l79_83 l80_83 l81_83 l82_83 l83_83 l84_83 l85_83
         refine then_n ⟨c.length - (i2 + 1), by simp only [hm72]; omega, hsz87, hdf87, (i2 + 1), rfl, (by omega), (hn_step hn hy79 (fun _ => by omega)), ((l9_87).trans (by first | rfl | (simp; done) | (congr 1; omega))), ((l4_87).trans l4_71.symm), hS82⟩
       ·refine W_off rfl (wanted_f rfl rfl (et rfl) (ez rfl) rfl) ?_
        refine W_off rfl (wanted_f rfl rfl (es rfl (et rfl)) (ez rfl) rfl) ?_
        refine W_off rfl (wanted_f rfl rfl (e2 rfl (et rfl)) (ez rfl) rfl) ?_
        refine W_off rfl (wanted_f rfl rfl (e3 rfl (et rfl)) (ez rfl) rfl) ?_
        refine W_off rfl (wanted_f rfl rfl (e4 rfl (et rfl)) (ez rfl) rfl) ?_
        refine W_off rfl (wanted_f rfl rfl (e5 rfl (et rfl)) (ez rfl) rfl) ?_
        refine W_off rfl (wanted_f rfl rfl (e6 rfl (et rfl)) (ez rfl) rfl) ?_
        refine W_v rfl rfl (V_pickF rfl (e7 rfl (et rfl)) rfl) ?_
        refine W_end (gen_Q fun A88 hA88 => ?_)
        have hsz88 := szq hA88
        have hdf88 := dfE hA88 hdf75
        have l4_88 := ek14 hA88 4 rfl l4_75
        have l9_88 := ek14 hA88 9 rfl l9_75
        have l78_88 := lookE hA88 78 (e7 rfl (et rfl))
        have l79_88 := lookE hA88 79 (e6 rfl (et rfl))
        have l80_88 := lookE hA88 80 (e5 rfl (et rfl))
        have l81_88 := lookE hA88 81 (e4 rfl (et rfl))
        have l82_88 := lookE hA88 82 (e3 rfl (et rfl))
        have l83_88 := lookE hA88 83 (e2 rfl (et rfl))
        have l84_88 := lookE hA88 84 (es rfl (et rfl))
        have l85_88 := lookE hA88 85 (et rfl)
        clear hA88 hsz75 hdf75 l4_75 l9_75 l69_75
        refine then_n (hK78 _ _ ?_)
        clear hK78
        refine cond_f l85_88 ?_
        refine wp_skip ?_
        refine inb_n ?_
        refine then_n (hK77 _ _ ?_)
        clear hK77
        refine region_in ?_
        refine W_v rfl rfl (V_mov rfl l9_88) ?_
        refine W_v rfl rfl (V_add rfl (et rfl) rfl (by omega) (by omega)) ?_
        refine W_v rfl rfl (V_asg rfl (et rfl)) ?_
        refine W_end (gen_Q fun A89 hA89 => ?_)
        have hsz89 := szq hA89
        have hdf89 := dfE hA89 hdf88
        have l4_89 := ek3 hA89 4 rfl l4_88
        have l9_89 := lookE hA89 9 (et rfl)
        have l78_89 := ek3 hA89 78 rfl l78_88
        have l79_89 := ek3 hA89 79 rfl l79_88
        have l80_89 := ek3 hA89 80 rfl l80_88
        have l81_89 := ek3 hA89 81 rfl l81_88
        have l82_89 := ek3 hA89 82 rfl l82_88
        have l83_89 := ek3 hA89 83 rfl l83_88
        have l84_89 := ek3 hA89 84 rfl l84_88
        clear hA89 hsz88 hdf88 l4_88 l9_88 l78_88 l79_88 l80_88 l81_88 l82_88 l83_88 l84_88 l85_88
        refine then_n ⟨c.length - (i2 + 1), by simp only [hm72]; omega, hsz89, hdf89, (i2 + 1), rfl, (by omega), (hn_step hn hy79 (fun _ => by omega)), ((l9_89).trans (by first | rfl | (simp; done) | (congr 1; omega))), ((l4_89).trans l4_71.symm), hS72⟩
      ·refine wp_exit ?_
       refine then_exit ?_
       refine then_exit ?_
       refine inb_hit ?_
       refine then_n (hK69 _ _ ?_)
       clear hK69
       refine wp_seq_k fun K90 hK90 => ?_
       refine region_in ?_
       refine W_v rfl rfl (V_asg rfl rfl) ?_
       refine W_v rfl rfl (V_asg rfl rfl) ?_
       refine W_end (gen_Q fun A91 hA91 => ?_)
       have hsz91 := szq hA91
       have hdf91 := dfE hA91 hdf75
       have l2_91 := lookE hA91 2 (es rfl (et rfl))
       have l3_91 := lookE hA91 3 (et rfl)
       clear hA91 hsz75 hdf75 l4_75 l9_75 l69_75
       refine then_n (hK90 _ _ ?_)
       clear hK90
       refine wp_ret ?_
       refine ret_in (results_2 Try.results84 (rv_tmp l2_91) (rv_tmp l3_91)) hdf91 ?_
       have h : ckS c = (0, 0) := ck_ok hp2 hbn hfu hn (by omega)
       rw [h]
       exact ⟨rfl, hS72.fin0⟩

set_option maxHeartbeats 4000000 in
theorem kCk_c {cv : Value} {c : List Int} {w : World} (h_cv : Ro w NoX (il .i64 cv c))  :
  Calls Try.prog 42 #[.agg #[cv]] w fun e w' => e = .returned (.tuple #[.int .i64 (ckS c).1, .int .i64 (ckS c).2]) ∧ St w NoX [] w' := by
 refine calls_inR 90 Try.func42 rfl rfl (by simp) (fun A0 hsz0 hdf0 hargs => ?_)
 have l0_0 := hargs 0 (.agg #[cv]) rfl
 clear hargs; replace hsz0 : SzN A0 90 := ⟨hsz0⟩
 have hS := St.nil w
 replace hdf0 : A0.defers = (([] : List Nat).map coll) := hdf0
 replace hS : St w NoX (dsC ([] : List Nat)) w := hS
 have bh_cv := SlN.le (sl_SlN h_cv.at)
 refine R_seq (fun K1 hK1 => ?_)
 refine R_region (by kernel_rfl) ?_
 refine W_boxS (zs := #[cv]) hS rfl rfl rfl l0_0 (by rfl) (fun g2 w2 c2 hc2 hS2 => ?_)
 replace hS2 : St w NoX (c2 :: (dsC ([] : List Nat))) w2 := hS2
 refine W_v rfl rfl (V_asg rfl rfl) ?_
 refine W_v rfl rfl (V_asg rfl rfl) ?_
 refine W_end ?_
 refine Qo_normal ?_
 refine gen_Q (fun A3 hA3 => ?_)
 have hsz3 := szq hA3
 have hdf3 : A3.defers = (([] : List Nat).map coll) := by rw [hA3]; simp only [df_put]; exact hdf0
 have l1_3 := lookE hA3 1 (e2 rfl (et rfl))
 clear hA3 hsz0 hdf0 l0_0
 refine then_n (hK1 _ _ ?_)
 clear hK1
 refine R_scope ?_
 refine R_seq (fun K4 hK4 => ?_)
 refine R_region (by kernel_rfl) ?_
 refine W_v rfl rfl (V_fa (off' := 0) rfl l1_3 Try.underlying27 rfl (by decide +kernel) rfl) ?_
 refine W_r rfl rfl (VR_ldC rfl (et rfl) (cell_box (v := cv) (hS2.obj 0 rfl hc2) rfl) Try.underlying25 rfl) ?_
 refine W_v rfl rfl (V_lenS rfl (et rfl) (sl_SlN h_cv.at) Try.underlying25) ?_
 refine W_v rfl rfl (V_asg rfl (et rfl)) ?_
 refine W_end ?_
 refine Qo_normal ?_
 refine gen_Q (fun A5 hA5 => ?_)
 have hsz5 := szq hA5
 have hdf5 : A5.defers = (([] : List Nat).map coll) := by rw [hA5]; simp only [df_put]; exact hdf3
 have l1_5 := ek4 hA5 1 rfl l1_3
 have l4_5 := lookE hA5 4 (et rfl)
 clear hA5 hsz3 hdf3 l1_3
 refine then_n (hK4 _ _ ?_)
 clear hK4
 refine R_seq (fun K6 hK6 => ?_)
 refine R_block ?_
 refine R_seq (fun K7 hK7 => ?_)
 refine R_region (by kernel_rfl) ?_
 refine W_v rfl rfl (V_mov rfl l4_5) ?_
 refine W_v rfl rfl (V_gtr rfl (et rfl) rfl) ?_
 refine W_v rfl rfl (V_asg rfl (et rfl)) ?_
 refine W_end ?_
 refine Qo_normal ?_
 refine gen_Q (fun A8 hA8 => ?_)
 have hsz8 := szq hA8
 have hdf8 : A8.defers = (([] : List Nat).map coll) := by rw [hA8]; simp only [df_put]; exact hdf5
 have l1_8 := ek3 hA8 1 rfl l1_5
 have l4_8 := ek3 hA8 4 rfl l4_5
 have l15_8 := lookE hA8 15 (et rfl)
 clear hA8 hsz5 hdf5 l1_5 l4_5
 refine then_n (hK7 _ _ ?_)
 clear hK7
 refine R_cond_dec l15_8 (fun c9 => ?_) (fun c9 => ?_)
 ·refine R_seq (fun K10 hK10 => ?_)
  refine R_region (by kernel_rfl) ?_
  refine W_v rfl rfl (V_asg rfl rfl) ?_
  refine W_v rfl rfl (V_asg rfl rfl) ?_
  refine W_end ?_
  refine Qo_normal ?_
  refine gen_Q (fun A11 hA11 => ?_)
  have hsz11 := szq hA11
  have hdf11 : A11.defers = (([] : List Nat).map coll) := by rw [hA11]; simp only [df_put]; exact hdf8
  have l2_11 := lookE hA11 2 (es rfl (et rfl))
  have l3_11 := lookE hA11 3 (et rfl)
  clear hA11 hsz8 hdf8 l1_8 l4_8 l15_8
  have hS13 := hS2.del 0
  replace hS13 : St w NoX (dsC ([] : List Nat)) w2 := hS13
  refine then_n (hK10 _ _ ?_)
  clear hK10
  refine R_ret ?_
  refine inb_ret ?_
  refine then_ret ?_
  refine ng_ret ?_
  obtain ⟨w14, hu14, hS14⟩ := St.und (l := []) (ds := ([] : List Nat)) hS13
  refine ret_inRs hu14 (results_2 Try.results42 (rv_tmp l2_11) (rv_tmp l3_11)) hdf11 ?_
  have h : ckS c = ((-1), 3) := ck_long (by omega)
  rw [h]
  exact ⟨rfl, hS14.fin0⟩
 ·refine R_seq (fun K15 hK15 => ?_)
  refine R_region (by kernel_rfl) ?_
  refine W_v rfl rfl (V_mov rfl l4_8) ?_
  refine W_v rfl rfl (V_lss rfl (et rfl) rfl) ?_
  refine W_split rfl rfl (V_mov rfl (et rfl)) (fun c16 => ?_) (fun c16 => ?_)
  ·refine W_off rfl (wanted_f rfl rfl (et rfl) (ez rfl) rfl) ?_
   refine W_off rfl (wanted_f rfl rfl (es rfl (et rfl)) (ez rfl) rfl) ?_
   refine W_off rfl (wanted_f rfl rfl (e2 rfl (et rfl)) (ez rfl) rfl) ?_
   refine W_off rfl (wanted_f rfl rfl (e3 rfl (et rfl)) (ez rfl) rfl) ?_
   refine W_off rfl (wanted_f rfl rfl (e4 rfl (et rfl)) (ez rfl) rfl) ?_
   refine W_v rfl rfl (V_pickT rfl (e5 rfl (et rfl)) rfl) ?_
   refine W_v rfl rfl (V_asg rfl (et rfl)) ?_
   refine W_end ?_
   refine Qo_normal ?_
   refine gen_Q (fun A17 hA17 => ?_)
   have hsz17 := szq hA17
   have hdf17 : A17.defers = (([] : List Nat).map coll) := by rw [hA17]; simp only [df_put]; exact hdf8
   have l1_17 := ek10 hA17 1 rfl l1_8
   have l4_17 := ek10 hA17 4 rfl l4_8
   have l18_17 := lookE hA17 18 (et rfl)
   clear hA17 hsz8 hdf8 l1_8 l4_8 l15_8
   refine then_n (hK15 _ _ ?_)
   clear hK15
   refine R_cond_t l18_17 ?_
   refine R_seq (fun K18 hK18 => ?_)
   refine R_region (by kernel_rfl) ?_
   refine W_v rfl rfl (V_asg rfl rfl) ?_
   refine W_v rfl rfl (V_asg rfl rfl) ?_
   refine W_end ?_
   refine Qo_normal ?_
   refine gen_Q (fun A19 hA19 => ?_)
   have hsz19 := szq hA19
   have hdf19 : A19.defers = (([] : List Nat).map coll) := by rw [hA19]; simp only [df_put]; exact hdf17
   have l2_19 := lookE hA19 2 (es rfl (et rfl))
   have l3_19 := lookE hA19 3 (et rfl)
   clear hA19 hsz17 hdf17 l1_17 l4_17 l18_17
   have hS21 := hS2.del 0
   replace hS21 : St w NoX (dsC ([] : List Nat)) w2 := hS21
   refine then_n (hK18 _ _ ?_)
   clear hK18
   refine R_ret ?_
   refine inb_ret ?_
   refine then_ret ?_
   refine ng_ret ?_
   obtain ⟨w22, hu22, hS22⟩ := St.und (l := []) (ds := ([] : List Nat)) hS21
   refine ret_inRs hu22 (results_2 Try.results42 (rv_tmp l2_19) (rv_tmp l3_19)) hdf19 ?_
   have h : ckS c = ((-1), 6) := ck_form (by omega) (fun q => by have := q.bd; omega)
   rw [h]
   exact ⟨rfl, hS22.fin0⟩
  ·refine W_v rfl (wanted_t rfl rfl (et rfl) (ez rfl)) (V_mov rfl (e3 rfl l4_8)) ?_
   refine W_v rfl (wanted_t rfl rfl (es rfl (et rfl)) (ez rfl)) (V_mov rfl (e4 rfl l4_8)) ?_
   refine W_v rfl (wanted_t rfl rfl (e2 rfl (et rfl)) (ez rfl)) (V_sb rfl (et rfl) rfl (by omega) (by omega)) ?_
   refine W_v rfl (wanted_t rfl rfl (e3 rfl (et rfl)) (ez rfl)) (V_and rfl (e2 rfl (et rfl)) (et rfl) (by omega) (by omega) (rfl)) ?_
   refine W_v rfl (wanted_t rfl rfl (e4 rfl (et rfl)) (ez rfl)) (V_neq rfl (et rfl) rfl) ?_
   refine W_v rfl rfl (V_pickF rfl (e5 rfl (et rfl)) (et rfl)) ?_
   refine W_v rfl rfl (V_asg rfl (et rfl)) ?_
   refine W_end ?_
   refine Qo_normal ?_
   refine gen_Q (fun A23 hA23 => ?_)
   have hsz23 := szq hA23
   have hdf23 : A23.defers = (([] : List Nat).map coll) := by rw [hA23]; simp only [df_put]; exact hdf8
   have l1_23 := ek10 hA23 1 rfl l1_8
   have l4_23 := ek10 hA23 4 rfl l4_8
   have l18_23 := lookE hA23 18 (et rfl)
   clear hA23 hsz8 hdf8 l1_8 l4_8 l15_8
   refine then_n (hK15 _ _ ?_)
   clear hK15
   refine R_cond_dec l18_23 (fun c24 => ?_) (fun c24 => ?_)
   ·refine R_seq (fun K25 hK25 => ?_)
    refine R_region (by kernel_rfl) ?_
    refine W_v rfl rfl (V_asg rfl rfl) ?_
    refine W_v rfl rfl (V_asg rfl rfl) ?_
    refine W_end ?_
    refine Qo_normal ?_
    refine gen_Q (fun A26 hA26 => ?_)
    have hsz26 := szq hA26
    have hdf26 : A26.defers = (([] : List Nat).map coll) := by rw [hA26]; simp only [df_put]; exact hdf23
    have l2_26 := lookE hA26 2 (es rfl (et rfl))
    have l3_26 := lookE hA26 3 (et rfl)
    clear hA26 hsz23 hdf23 l1_23 l4_23 l18_23
    have hS28 := hS2.del 0
    replace hS28 : St w NoX (dsC ([] : List Nat)) w2 := hS28
    refine then_n (hK25 _ _ ?_)
    clear hK25
    refine R_ret ?_
    refine inb_ret ?_
    refine then_ret ?_
    refine ng_ret ?_
    obtain ⟨w29, hu29, hS29⟩ := St.und (l := []) (ds := ([] : List Nat)) hS28
    refine ret_inRs hu29 (results_2 Try.results42 (rv_tmp l2_26) (rv_tmp l3_26)) hdf26 ?_
    have h : ckS c = ((-1), 6) := ck_form (by omega) (fun q => c24 ((and_form (by omega) (by omega)).2 q))
    rw [h]
    exact ⟨rfl, hS29.fin0⟩
   ·have hp2 : P2 c.length := (and_form (by omega) (by omega)).1 (by simpa using c24)
    have hp2b := hp2.bd
    refine R_skip ?_
    refine inb_n ?_
    refine then_n (hK6 _ _ ?_)
    clear hK6
    refine R_seq (fun K30 hK30 => ?_)
    refine R_region (by kernel_rfl) ?_
    refine W_allocS (z := .agg (((List.replicate 1601 false).map Value.bool).toArray)) (zs := ((((List.replicate 1601 false).map Value.bool).toArray))) hS2 rfl rfl rfl (by kernel_rfl) (by rfl) (fun g31 w31 c31 hc31 hS31 => ?_)
    replace hS31 : St w NoX (c31 :: c2 :: (dsC ([] : List Nat))) w31 := hS31
    refine W_end ?_
    refine Qo_normal ?_
    refine gen_Q (fun A32 hA32 => ?_)
    have hsz32 := szq hA32
    have hdf32 : A32.defers = (([] : List Nat).map coll) := by rw [hA32]; simp only [df_put]; exact hdf23
    have l1_32 := lookE hA32 1 (es rfl l1_23)
    have l4_32 := lookE hA32 4 (es rfl l4_23)
    have l5_32 := lookE hA32 5 (et rfl)
    clear hA32 hsz23 hdf23 l1_23 l4_23 l18_23
    refine then_n (hK30 _ _ ?_)
    clear hK30
    refine R_seq (fun K33 hK33 => ?_)
    refine R_region (by kernel_rfl) ?_
    refine W_v rfl rfl (V_asg rfl rfl) ?_
    refine W_end ?_
    refine Qo_normal ?_
    refine gen_Q (fun A34 hA34 => ?_)
    have hsz34 := szq hA34
    have hdf34 : A34.defers = (([] : List Nat).map coll) := by rw [hA34]; simp only [df_put]; exact hdf32
    have l1_34 := lookE hA34 1 (es rfl l1_32)
    have l4_34 := lookE hA34 4 (es rfl l4_32)
    have l5_34 := lookE hA34 5 (es rfl l5_32)
    have l6_34 := lookE hA34 6 (et rfl)
    clear hA34 hsz32 hdf32 l1_32 l4_32 l5_32
    refine then_n (hK33 _ _ ?_)
    clear hK33
    refine R_seq (fun K35 hK35 => ?_)
    refine R_seq (fun K36 hK36 => ?_)
    refine R_region (by kernel_rfl) ?_
    refine W_v rfl rfl (V_fa (off' := 0) rfl l1_34 Try.underlying27 rfl (by decide +kernel) rfl) ?_
    refine W_r rfl rfl (VR_ldC rfl (et rfl) (cell_box (v := cv) (hS31.obj 1 rfl hc2) rfl) Try.underlying25 rfl) ?_
    refine W_v rfl rfl (V_lenS rfl (et rfl) (sl_SlN h_cv.at) Try.underlying25) ?_
    refine W_v rfl rfl (V_mov rfl rfl) ?_
    refine W_end ?_
    refine Qo_normal ?_
    refine gen_Q (fun A37 hA37 => ?_)
    have hsz37 := szq hA37
    have hdf37 : A37.defers = (([] : List Nat).map coll) := by rw [hA37]; simp only [df_put]; exact hdf34
    have l1_37 := ek4 hA37 1 rfl l1_34
    have l4_37 := ek4 hA37 4 rfl l4_34
    have l5_37 := ek4 hA37 5 rfl l5_34
    have l6_37 := ek4 hA37 6 rfl l6_34
    have l29_37 := lookE hA37 29 (e2 rfl (et rfl))
    have l30_37 := lookE hA37 30 (es rfl (et rfl))
    have l31_37 := lookE hA37 31 (et rfl)
    clear hA37 hsz34 hdf34 l1_34 l4_34 l5_34 l6_34
    refine then_n (hK36 _ _ ?_)
    clear hK36
    refine R_block ?_
    -- loop 9
    refine R_loop (fun mz A' w' => SzN A' 90 ∧ A'.defers = (([] : List Nat).map coll) ∧ (∃ (k : Nat), (mz = c.length - k) ∧ (k ≤ c.length) ∧ (bdGo [] c 0 = bdGo (c.take k) (c.drop k) k) ∧ (usd (c.take k) ≤ k ∧ adr (c.take k) ≤ k) ∧ (EV A' (.tmp 31) = .int .i64 (k : Int)) ∧ (EV A' (.tmp 6) = .int .i64 ((usd (c.take k) : Nat) : Int)) ∧ (EV A' (.tmp 1) = EV A37 (.tmp 1)) ∧ (EV A' (.tmp 4) = EV A37 (.tmp 4)) ∧ (EV A' (.tmp 5) = EV A37 (.tmp 5)) ∧ (EV A' (.tmp 29) = EV A37 (.tmp 29)) ∧ (EV A' (.tmp 30) = EV A37 (.tmp 30)) ∧ (St w NoX ((bx g31 102 (((mtS (c.take k)).map Value.bool).toArray)) :: (bx g2 27 #[cv]) :: (dsC ([] : List Nat))) w'))) (c.length - 0) ⟨hsz37, hdf37, 0, rfl, (by omega), (bd_init _), (cnt_bd _ _), ((l31_37).trans (by first | rfl | (simp; done) | (congr 1; omega))), ((l6_37).trans (rfl)), rfl, rfl, rfl, rfl, rfl, (by have q0 : c31 = bx g31 102 (((mtS (c.take 0)).map Value.bool).toArray) := hc31.trans ((by rw [mtS_nil]; rfl)); have q1 := hc2; subst q0 q1; exact hS31)⟩ ?_
    clear hS31 hc31 hc2
    rintro n38 A38 w38 ⟨hsz38, hdf38, k, hm38, hk, hz, hcb, l31_38, l6_38, u1_38, u4_38, u5_38, u29_38, u30_38, hS38⟩
    have l1_38 := u1_38.trans l1_37
    have l4_38 := u4_38.trans l4_37
    have l5_38 := u5_38.trans l5_37
    have l29_38 := u29_38.trans l29_37
    have l30_38 := u30_38.trans l30_37
    obtain ⟨c31_38, c2_38, hc31_38, hc2_38, hS38⟩ := gen2 hS38
    refine R_seq (fun K39 hK39 => ?_)
    refine R_region (by kernel_rfl) ?_
    refine W_v rfl rfl (V_lss rfl l31_38 l30_38) ?_
    refine W_end ?_
    refine Qo_normal ?_
    refine gen_Q (fun A40 hA40 => ?_)
    have hsz40 := szq hA40
    have hdf40 : A40.defers = (([] : List Nat).map coll) := by rw [hA40]; simp only [df_put]; exact hdf38
    have l1_40 := lookE hA40 1 (es rfl l1_38)
    have l4_40 := lookE hA40 4 (es rfl l4_38)
    have l5_40 := lookE hA40 5 (es rfl l5_38)
    have l6_40 := lookE hA40 6 (es rfl l6_38)
    have l29_40 := lookE hA40 29 (es rfl l29_38)
    have l30_40 := lookE hA40 30 (es rfl l30_38)
    have l31_40 := lookE hA40 31 (es rfl l31_38)
    have l32_40 := lookE hA40 32 (et rfl)
    clear hA40 hsz38 hdf38 l31_38 l6_38 l1_38 l4_38 l5_38 l29_38 l30_38
    refine then_n (hK39 _ _ ?_)
    clear hK39
    refine R_seq (fun K41 hK41 => ?_)
    refine R_cond_dec l32_40 (fun c42 => ?_) (fun c42 => ?_)
    ·refine R_skip ?_
     refine then_n (hK41 _ _ ?_)
     clear hK41
     refine R_seq (fun K43 hK43 => ?_)
     refine R_block ?_
     refine R_seq (fun K44 hK44 => ?_)
     refine R_region (by kernel_rfl) ?_
     refine W_v rfl rfl (V_mov rfl l31_40) ?_
     have k45 : k < c.length := by first | omega | (simp only [List.length_cons, List.length_nil]; omega) | (simp only [List.length_set]; omega) | decide
     obtain ⟨y45, hy45⟩ := get_some (xs := c) (k := k) k45
     obtain ⟨B45, O45, C45, hv45⟩ := (SlN.blk (sl_SlN h_cv.at) (by first | omega | (simp only [List.length_cons, List.length_nil]; omega) | (simp only [List.length_set]; omega) | decide))
     refine W_v rfl rfl (V_ixS (off := O45 + k) 1 (k) rfl (es rfl l29_40) (es rfl l31_40) hv45 (by omega) k45 Try.underlying25 (by kernel_rfl) (congrArg _ (Nat.mul_one _))) ?_
     refine W_r rfl rfl (VR_ldC rfl (et rfl) ((sl_SlN (hS38.ro h_cv)).cell hv45 (map_get hy45)) Try.underlying3 rfl) ?_
     refine W_v rfl rfl (V_asg rfl (e2 rfl (et rfl))) ?_
     refine W_v rfl rfl (V_asg rfl (es rfl (et rfl))) ?_
     refine W_end ?_
     refine Qo_normal ?_
     refine gen_Q (fun A46 hA46 => ?_)
     have hsz46 := szq hA46
     have hdf46 : A46.defers = (([] : List Nat).map coll) := by rw [hA46]; simp only [df_put]; exact hdf40
     have l1_46 := ek5 hA46 1 rfl l1_40
     have l4_46 := ek5 hA46 4 rfl l4_40
     have l5_46 := ek5 hA46 5 rfl l5_40
     have l6_46 := ek5 hA46 6 rfl l6_40
     have l7_46 := lookE hA46 7 (es rfl (et rfl))
     have l8_46 := lookE hA46 8 (et rfl)
     have l29_46 := ek5 hA46 29 rfl l29_40
     have l30_46 := ek5 hA46 30 rfl l30_40
     have l31_46 := ek5 hA46 31 rfl l31_40
     clear hA46 hsz40 hdf40 l1_40 l4_40 l5_40 l6_40 l29_40 l30_40 l31_40 l32_40
     refine then_n (hK44 _ _ ?_)
     clear hK44
     refine R_seq (fun K47 hK47 => ?_)
     refine R_block ?_
     refine R_seq (fun K48 hK48 => ?_)
     refine R_region (by kernel_rfl) ?_
     refine W_v rfl rfl (V_mov rfl l8_46) ?_
     refine W_v rfl rfl (V_eql rfl (et rfl) rfl) ?_
     refine W_v rfl rfl (V_asg rfl (et rfl)) ?_
     refine W_end ?_
     refine Qo_normal ?_
     refine gen_Q (fun A49 hA49 => ?_)
     have hsz49 := szq hA49
     have hdf49 : A49.defers = (([] : List Nat).map coll) := by rw [hA49]; simp only [df_put]; exact hdf46
     have l1_49 := ek3 hA49 1 rfl l1_46
     have l4_49 := ek3 hA49 4 rfl l4_46
     have l5_49 := ek3 hA49 5 rfl l5_46
     have l6_49 := ek3 hA49 6 rfl l6_46
     have l7_49 := ek3 hA49 7 rfl l7_46
     have l8_49 := ek3 hA49 8 rfl l8_46
     have l29_49 := ek3 hA49 29 rfl l29_46
     have l30_49 := ek3 hA49 30 rfl l30_46
     have l31_49 := ek3 hA49 31 rfl l31_46
     have l36_49 := lookE hA49 36 (et rfl)
     clear hA49 hsz46 hdf46 l1_46 l4_46 l5_46 l6_46 l7_46 l8_46 l29_46 l30_46 l31_46
     refine then_n (hK48 _ _ ?_)
     clear hK48
     refine R_cond_dec l36_49 (fun c50 => ?_) (fun c50 => ?_)
     ·refine R_exit ?_
      refine inb_miss rfl ?_
      refine then_exit ?_
      refine inb_hit ?_
      refine then_n (hK43 _ _ ?_)
      clear hK43
      refine R_region (by kernel_rfl) ?_
      refine W_v rfl rfl (V_add rfl l31_49 rfl (by omega) (by omega)) ?_
      refine W_v rfl rfl (V_mov rfl (et rfl)) ?_
      refine W_end ?_
      refine Qo_normal ?_
      refine gen_Q (fun A51 hA51 => ?_)
      have hsz51 := szq hA51
      have hdf51 : A51.defers = (([] : List Nat).map coll) := by rw [hA51]; simp only [df_put]; exact hdf49
      have l1_51 := ek2 hA51 1 rfl l1_49
      have l4_51 := ek2 hA51 4 rfl l4_49
      have l5_51 := ek2 hA51 5 rfl l5_49
      have l6_51 := ek2 hA51 6 rfl l6_49
      have l29_51 := ek2 hA51 29 rfl l29_49
      have l30_51 := ek2 hA51 30 rfl l30_49
      have l31_51 := lookE hA51 31 (et rfl)
      clear hA51 hsz49 hdf49 l1_49 l4_49 l5_49 l6_49 l7_49 l8_49 l29_49 l30_49 l31_49 l36_49
      refine then_n ⟨c.length - (k + 1), by simp only [hm38]; omega, hsz51, hdf51, (k + 1), rfl, (by omega), (bd_step hz hy45 (by omega) (fun q => by omega)), (cnt_bd _ _), ((l31_51).trans (by first | rfl | (simp; done) | (congr 1; omega))), ((l6_51).trans ((by rw [usd_snoc hy45]; first | (rw [if_pos (by omega)]; rfl) | (rw [if_neg (by omega)]; rfl)))), ((l1_51).trans l1_37.symm), ((l4_51).trans l4_37.symm), ((l5_51).trans l5_37.symm), ((l29_51).trans l29_37.symm), ((l30_51).trans l30_37.symm), (by have q0 : c31_38 = bx g31 102 (((mtS (c.take (k + 1))).map Value.bool).toArray) := hc31_38.trans ((by rw [mtS_skip hy45 (by omega)])); have q1 := hc2_38; subst q0 q1; exact hS38)⟩
     ·refine R_seq (fun K52 hK52 => ?_)
      refine R_region (by kernel_rfl) ?_
      refine W_v rfl rfl (V_mov rfl l8_49) ?_
      refine W_v rfl rfl (V_lss rfl (et rfl) rfl) ?_
      refine W_split rfl rfl (V_mov rfl (et rfl)) (fun c53 => ?_) (fun c53 => ?_)
      ·refine W_off rfl (wanted_f rfl rfl (et rfl) (ez rfl) rfl) ?_
       refine W_off rfl (wanted_f rfl rfl (es rfl (et rfl)) (ez rfl) rfl) ?_
       refine W_v rfl rfl (V_pickT rfl (e2 rfl (et rfl)) rfl) ?_
       refine W_v rfl rfl (V_asg rfl (et rfl)) ?_
       refine W_end ?_
       refine Qo_normal ?_
       refine gen_Q (fun A54 hA54 => ?_)
       have hsz54 := szq hA54
       have hdf54 : A54.defers = (([] : List Nat).map coll) := by rw [hA54]; simp only [df_put]; exact hdf49
       have l1_54 := ek7 hA54 1 rfl l1_49
       have l4_54 := ek7 hA54 4 rfl l4_49
       have l5_54 := ek7 hA54 5 rfl l5_49
       have l6_54 := ek7 hA54 6 rfl l6_49
       have l7_54 := ek7 hA54 7 rfl l7_49
       have l8_54 := ek7 hA54 8 rfl l8_49
       have l29_54 := ek7 hA54 29 rfl l29_49
       have l30_54 := ek7 hA54 30 rfl l30_49
       have l31_54 := ek7 hA54 31 rfl l31_49
       have l39_54 := lookE hA54 39 (et rfl)
       have l43_54 := lookE hA54 43 (e3 rfl (et rfl))
       have l44_54 := lookE hA54 44 (e2 rfl (et rfl))
       clear hA54 hsz49 hdf49 l1_49 l4_49 l5_49 l6_49 l7_49 l8_49 l29_49 l30_49 l31_49 l36_49
       refine then_n (hK52 _ _ ?_)
       clear hK52
       refine R_cond_t l39_54 ?_
       refine R_seq (fun K55 hK55 => ?_)
       refine R_region (by kernel_rfl) ?_
       refine W_v rfl rfl (V_mov rfl l7_54) ?_
       refine W_v rfl rfl (V_asg rfl (et rfl)) ?_
       refine W_v rfl rfl (V_asg rfl rfl) ?_
       refine W_end ?_
       refine Qo_normal ?_
       refine gen_Q (fun A56 hA56 => ?_)
       have hsz56 := szq hA56
       have hdf56 : A56.defers = (([] : List Nat).map coll) := by rw [hA56]; simp only [df_put]; exact hdf54
       have l2_56 := lookE hA56 2 (es rfl (et rfl))
       have l3_56 := lookE hA56 3 (et rfl)
       clear hA56 hsz54 hdf54 l1_54 l4_54 l5_54 l6_54 l7_54 l8_54 l29_54 l30_54 l31_54 l39_54 l43_54 l44_54
       have hS58 := hS38.del 0
       replace hS58 : St w NoX (c2_38 :: (dsC ([] : List Nat))) w38 := hS58
       have hS59 := hS58.del 0
       replace hS59 : St w NoX (dsC ([] : List Nat)) w38 := hS59
       refine then_n (hK55 _ _ ?_)
       clear hK55
       refine R_ret ?_
       refine inb_ret ?_
       refine then_ret ?_
       refine inb_ret ?_
       refine then_ret ?_
       refine then_ret ?_
       refine inb_ret ?_
       refine then_ret ?_
       refine ng_ret ?_
       obtain ⟨w60, hu60, hS60⟩ := St.und (l := []) (ds := ([] : List Nat)) hS59
       refine ret_inRs hu60 (results_2 Try.results42 (rv_tmp l2_56) (rv_tmp l3_56)) hdf56 ?_
       have h : ckS c = ((k : Int), 7) := ck_bd hp2 (bd_rng hz hy45 (by omega))
       rw [h]
       exact ⟨rfl, hS60.fin0⟩
      ·refine W_v rfl (wanted_t rfl rfl (et rfl) (ez rfl)) (V_mov rfl (e3 rfl l8_49)) ?_
       refine W_v rfl (wanted_t rfl rfl (es rfl (et rfl)) (ez rfl)) (V_gtr rfl (et rfl) rfl) ?_
       refine W_v rfl rfl (V_pickF rfl (e2 rfl (et rfl)) (et rfl)) ?_
       refine W_v rfl rfl (V_asg rfl (et rfl)) ?_
       refine W_end ?_
       refine Qo_normal ?_
       refine gen_Q (fun A61 hA61 => ?_)
       have hsz61 := szq hA61
       have hdf61 : A61.defers = (([] : List Nat).map coll) := by rw [hA61]; simp only [df_put]; exact hdf49
       have l1_61 := ek7 hA61 1 rfl l1_49
       have l4_61 := ek7 hA61 4 rfl l4_49
       have l5_61 := ek7 hA61 5 rfl l5_49
       have l6_61 := ek7 hA61 6 rfl l6_49
       have l7_61 := ek7 hA61 7 rfl l7_49
       have l8_61 := ek7 hA61 8 rfl l8_49
       have l29_61 := ek7 hA61 29 rfl l29_49
       have l30_61 := ek7 hA61 30 rfl l30_49
       have l31_61 := ek7 hA61 31 rfl l31_49
       have l39_61 := lookE hA61 39 (et rfl)
       have l43_61 := lookE hA61 43 (e3 rfl (et rfl))
       have l44_61 := lookE hA61 44 (e2 rfl (et rfl))
       clear hA61 hsz49 hdf49 l1_49 l4_49 l5_49 l6_49 l7_49 l8_49 l29_49 l30_49 l31_49 l36_49
       refine then_n (hK52 _ _ ?_)
       clear hK52
       refine R_cond_dec l39_61 (fun c62 => ?_) (fun c62 => ?_)
       ·refine R_seq (fun K63 hK63 => ?_)
        refine R_region (by kernel_rfl) ?_
        refine W_v rfl rfl (V_mov rfl l7_61) ?_
        refine W_v rfl rfl (V_asg rfl (et rfl)) ?_
        refine W_v rfl rfl (V_asg rfl rfl) ?_
        refine W_end ?_
        refine Qo_normal ?_
        refine gen_Q (fun A64 hA64 => ?_)
        have hsz64 := szq hA64
        have hdf64 : A64.defers = (([] : List Nat).map coll) := by rw [hA64]; simp only [df_put]; exact hdf61
        have l2_64 := lookE hA64 2 (es rfl (et rfl))
        have l3_64 := lookE hA64 3 (et rfl)
        clear hA64 hsz61 hdf61 l1_61 l4_61 l5_61 l6_61 l7_61 l8_61 l29_61 l30_61 l31_61 l39_61 l43_61 l44_61
        have hS66 := hS38.del 0
        replace hS66 : St w NoX (c2_38 :: (dsC ([] : List Nat))) w38 := hS66
        have hS67 := hS66.del 0
        replace hS67 : St w NoX (dsC ([] : List Nat)) w38 := hS67
        refine then_n (hK63 _ _ ?_)
        clear hK63
        refine R_ret ?_
        refine inb_ret ?_
        refine then_ret ?_
        refine inb_ret ?_
        refine then_ret ?_
        refine then_ret ?_
        refine inb_ret ?_
        refine then_ret ?_
        refine ng_ret ?_
        obtain ⟨w68, hu68, hS68⟩ := St.und (l := []) (ds := ([] : List Nat)) hS67
        refine ret_inRs hu68 (results_2 Try.results42 (rv_tmp l2_64) (rv_tmp l3_64)) hdf64 ?_
        have h : ckS c = ((k : Int), 7) := ck_bd hp2 (bd_rng hz hy45 (by omega))
        rw [h]
        exact ⟨rfl, hS68.fin0⟩
       ·refine R_seq (fun K69 hK69 => ?_)
        refine R_region (by kernel_rfl) ?_
        refine W_v rfl rfl (V_mov rfl l8_61) ?_
        refine W_v rfl rfl (V_gtr rfl (et rfl) rfl) ?_
        refine W_split rfl rfl (V_mov rfl (et rfl)) (fun c70 => ?_) (fun c70 => ?_)
        ·refine W_v rfl (wanted_t rfl rfl (et rfl) (ez rfl)) (V_mov rfl (e3 rfl l8_61)) ?_
         have k71 : y45.toNat < 1601 := by omega
         refine W_v rfl (wanted_t rfl rfl (es rfl (et rfl)) (ez rfl)) (V_ixA (sz := 1) (off' := y45.toNat) (y45.toNat) rfl (e4 rfl l5_61) (et rfl) (by omega) Try.underlying102 k71 (by kernel_rfl) (by omega)) ?_
         obtain ⟨y72, hy72⟩ := get_some (xs := (mtS (c.take k))) (k := y45.toNat) (by rw [(mtS_len _)]; omega)
         refine W_r rfl (wanted_t rfl rfl (e2 rfl (et rfl)) (ez rfl)) (VR_ldC rfl (et rfl) (cell_box (hS38.obj 0 rfl hc31_38) (arrT_get hy72)) Try.underlying4 rfl) ?_
         refine W_v rfl rfl (V_pickT rfl (e3 rfl (et rfl)) (et rfl)) ?_
         refine W_v rfl rfl (V_asg rfl (et rfl)) ?_
         refine W_end ?_
         refine Qo_normal ?_
         refine gen_Q (fun A73 hA73 => ?_)
         have hsz73 := szq hA73
         have hdf73 : A73.defers = (([] : List Nat).map coll) := by rw [hA73]; simp only [df_put]; exact hdf61
         have l1_73 := ek8 hA73 1 rfl l1_61
         have l4_73 := ek8 hA73 4 rfl l4_61
         have l5_73 := ek8 hA73 5 rfl l5_61
         have l6_73 := ek8 hA73 6 rfl l6_61
         have l7_73 := ek8 hA73 7 rfl l7_61
         have l8_73 := ek8 hA73 8 rfl l8_61
         have l29_73 := ek8 hA73 29 rfl l29_61
         have l30_73 := ek8 hA73 30 rfl l30_61
         have l31_73 := ek8 hA73 31 rfl l31_61
         have l43_73 := ek8 hA73 43 rfl l43_61
         have l44_73 := ek8 hA73 44 rfl l44_61
         have l47_73 := lookE hA73 47 (et rfl)
         have l51_73 := lookE hA73 51 (e4 rfl (et rfl))
         have l52_73 := lookE hA73 52 (e3 rfl (et rfl))
         have l53_73 := lookE hA73 53 (e2 rfl (et rfl))
         clear hA73 hsz61 hdf61 l1_61 l4_61 l5_61 l6_61 l7_61 l8_61 l29_61 l30_61 l31_61 l39_61 l43_61 l44_61
         refine then_n (hK69 _ _ ?_)
         clear hK69
         refine R_cond_b l47_73 (fun c74 => ?_) (fun c74 => ?_)
         ·refine R_seq (fun K75 hK75 => ?_)
          refine R_region (by kernel_rfl) ?_
          refine W_v rfl rfl (V_mov rfl l7_73) ?_
          refine W_v rfl rfl (V_asg rfl (et rfl)) ?_
          refine W_v rfl rfl (V_asg rfl rfl) ?_
          refine W_end ?_
          refine Qo_normal ?_
          refine gen_Q (fun A76 hA76 => ?_)
          have hsz76 := szq hA76
          have hdf76 : A76.defers = (([] : List Nat).map coll) := by rw [hA76]; simp only [df_put]; exact hdf73
          have l2_76 := lookE hA76 2 (es rfl (et rfl))
          have l3_76 := lookE hA76 3 (et rfl)
          clear hA76 hsz73 hdf73 l1_73 l4_73 l5_73 l6_73 l7_73 l8_73 l29_73 l30_73 l31_73 l43_73 l44_73 l47_73 l51_73 l52_73 l53_73
          have hS78 := hS38.del 0
          replace hS78 : St w NoX (c2_38 :: (dsC ([] : List Nat))) w38 := hS78
          have hS79 := hS78.del 0
          replace hS79 : St w NoX (dsC ([] : List Nat)) w38 := hS79
          refine then_n (hK75 _ _ ?_)
          clear hK75
          refine R_ret ?_
          refine inb_ret ?_
          refine then_ret ?_
          refine inb_ret ?_
          refine then_ret ?_
          refine then_ret ?_
          refine inb_ret ?_
          refine then_ret ?_
          refine ng_ret ?_
          obtain ⟨w80, hu80, hS80⟩ := St.und (l := []) (ds := ([] : List Nat)) hS79
          refine ret_inRs hu80 (results_2 Try.results42 (rv_tmp l2_76) (rv_tmp l3_76)) hdf76 ?_
          have h : ckS c = ((k : Int), 8) := ck_bd hp2 (bd_twice hz hy45 (by omega) ((mtS_twice (by omega) hy72).1 c74))
          rw [h]
          exact ⟨rfl, hS80.fin0⟩
         ·refine R_seq (fun K81 hK81 => ?_)
          refine R_region (by kernel_rfl) ?_
          refine W_v rfl rfl (V_mov rfl l8_73) ?_
          refine W_v rfl rfl (V_gtr rfl (et rfl) rfl) ?_
          refine W_v rfl rfl (V_asg rfl (et rfl)) ?_
          refine W_end ?_
          refine Qo_normal ?_
          refine gen_Q (fun A82 hA82 => ?_)
          have hsz82 := szq hA82
          have hdf82 : A82.defers = (([] : List Nat).map coll) := by rw [hA82]; simp only [df_put]; exact hdf73
          have l1_82 := ek3 hA82 1 rfl l1_73
          have l4_82 := ek3 hA82 4 rfl l4_73
          have l5_82 := ek3 hA82 5 rfl l5_73
          have l6_82 := ek3 hA82 6 rfl l6_73
          have l8_82 := ek3 hA82 8 rfl l8_73
          have l29_82 := ek3 hA82 29 rfl l29_73
          have l30_82 := ek3 hA82 30 rfl l30_73
          have l31_82 := ek3 hA82 31 rfl l31_73
          have l43_82 := ek3 hA82 43 rfl l43_73
          have l44_82 := ek3 hA82 44 rfl l44_73
          have l51_82 := ek3 hA82 51 rfl l51_73
          have l52_82 := ek3 hA82 52 rfl l52_73
          have l53_82 := ek3 hA82 53 rfl l53_73
          have l56_82 := lookE hA82 56 (et rfl)
          clear hA82 hsz73 hdf73 l1_73 l4_73 l5_73 l6_73 l7_73 l8_73 l29_73 l30_73 l31_73 l43_73 l44_73 l47_73 l51_73 l52_73 l53_73
          refine then_n (hK81 _ _ ?_)
          clear hK81
          refine R_cond_sure l56_82 (by first | exact decide_eq_true (by omega) | exact decide_eq_false (by omega)) ?_
          refine R_region (by kernel_rfl) ?_
          refine W_v rfl rfl (V_mov rfl l8_82) ?_
          have k83 : y45.toNat < 1601 := by omega
          refine W_v rfl rfl (V_ixA (sz := 1) (off' := y45.toNat) (y45.toNat) rfl (es rfl l5_82) (et rfl) (by omega) Try.underlying102 k83 (by kernel_rfl) (by omega)) ?_
          refine W_stCS 0 hS38 rfl hc31_38 rfl rfl rfl (et rfl) rfl (by rfl) (arrT_lt (mtS_len _) k83) (by kernel_rfl) (arrT_set _ _ _ _) (fun w84 c84 hc84 hS84 => ?_)
          have hlen84 : ((mtS (c.take k)).set y45.toNat true).length = 1601 := by rw [List.length_set]; exact (mtS_len _)
          replace hS84 : St w NoX (c84 :: c2_38 :: (dsC ([] : List Nat))) w84 := hS84
          refine W_end ?_
          refine Qo_normal ?_
          refine gen_Q (fun A85 hA85 => ?_)
          have hsz85 := szq hA85
          have hdf85 : A85.defers = (([] : List Nat).map coll) := by rw [hA85]; simp only [df_put]; exact hdf82
          have l1_85 := ek2 hA85 1 rfl l1_82
          have l4_85 := ek2 hA85 4 rfl l4_82
          have l5_85 := ek2 hA85 5 rfl l5_82
          have l6_85 := ek2 hA85 6 rfl l6_82
          have l29_85 := ek2 hA85 29 rfl l29_82
          have l30_85 := ek2 hA85 30 rfl l30_82
          have l31_85 := ek2 hA85 31 rfl l31_82
          have l43_85 := ek2 hA85 43 rfl l43_82
          have l44_85 := ek2 hA85 44 rfl l44_82
          have l51_85 := ek2 hA85 51 rfl l51_82
          have l52_85 := ek2 hA85 52 rfl l52_82
          have l53_85 := ek2 hA85 53 rfl l53_82
          clear hA85 hsz82 hdf82 l1_82 l4_82 l5_82 l6_82 l8_82 l29_82 l30_82 l31_82 l43_82 l44_82 l51_82 l52_82 l53_82 l56_82
          refine inb_n ?_
          refine then_n (hK47 _ _ ?_)
          clear hK47
          refine R_region (by kernel_rfl) ?_
          refine W_v rfl rfl (V_mov rfl l6_85) ?_
          refine W_v rfl rfl (V_add rfl (et rfl) rfl (by omega) (by omega)) ?_
          refine W_v rfl rfl (V_asg rfl (et rfl)) ?_
          refine W_end ?_
          refine Qo_normal ?_
          refine gen_Q (fun A86 hA86 => ?_)
          have hsz86 := szq hA86
          have hdf86 : A86.defers = (([] : List Nat).map coll) := by rw [hA86]; simp only [df_put]; exact hdf85
          have l1_86 := ek3 hA86 1 rfl l1_85
          have l4_86 := ek3 hA86 4 rfl l4_85
          have l5_86 := ek3 hA86 5 rfl l5_85
          have l6_86 := lookE hA86 6 (et rfl)
          have l29_86 := ek3 hA86 29 rfl l29_85
          have l30_86 := ek3 hA86 30 rfl l30_85
          have l31_86 := ek3 hA86 31 rfl l31_85
          have l43_86 := ek3 hA86 43 rfl l43_85
          have l44_86 := ek3 hA86 44 rfl l44_85
          have l51_86 := ek3 hA86 51 rfl l51_85
          have l52_86 := ek3 hA86 52 rfl l52_85
          have l53_86 := ek3 hA86 53 rfl l53_85
          clear hA86 hsz85 hdf85 l1_85 l4_85 l5_85 l6_85 l29_85 l30_85 l31_85 l43_85 l44_85 l51_85 l52_85 l53_85
          refine inb_n ?_
          refine then_n (hK43 _ _ ?_)
          clear hK43
          refine R_region (by kernel_rfl) ?_
          refine W_v rfl rfl (V_add rfl l31_86 rfl (by omega) (by omega)) ?_
          refine W_v rfl rfl (V_mov rfl (et rfl)) ?_
          refine W_end ?_
          refine Qo_normal ?_
          refine gen_Q (fun A87 hA87 => ?_)
          have hsz87 := szq hA87
          have hdf87 : A87.defers = (([] : List Nat).map coll) := by rw [hA87]; simp only [df_put]; exact hdf86
          have l1_87 := ek2 hA87 1 rfl l1_86
          have l4_87 := ek2 hA87 4 rfl l4_86
          have l5_87 := ek2 hA87 5 rfl l5_86
          have l6_87 := ek2 hA87 6 rfl l6_86
          have l29_87 := ek2 hA87 29 rfl l29_86
          have l30_87 := ek2 hA87 30 rfl l30_86
          have l31_87 := lookE hA87 31 (et rfl)
          have l43_87 := ek2 hA87 43 rfl l43_86
          have l44_87 := ek2 hA87 44 rfl l44_86
          have l51_87 := ek2 hA87 51 rfl l51_86
          have l52_87 := ek2 hA87 52 rfl l52_86
          have l53_87 := ek2 hA87 53 rfl l53_86
          clear hA87 hsz86 hdf86 l1_86 l4_86 l5_86 l6_86 l29_86 l30_86 l31_86 l43_86 l44_86 l51_86 l52_86 l53_86
          refine then_n ⟨c.length - (k + 1), by simp only [hm38]; omega, hsz87, hdf87, (k + 1), rfl, (by omega), (bd_step hz hy45 (by omega) ((mtS_twice (by omega) hy72).2 c74)), (cnt_bd _ _), ((l31_87).trans (by first | rfl | (simp; done) | (congr 1; omega))), ((l6_87).trans ((by rw [usd_snoc hy45]; first | (rw [if_pos (by omega)]; rfl) | (rw [if_neg (by omega)]; rfl)))), ((l1_87).trans l1_37.symm), ((l4_87).trans l4_37.symm), ((l5_87).trans l5_37.symm), ((l29_87).trans l29_37.symm), ((l30_87).trans l30_37.symm), (by have q0 : c84 = bx g31 102 (((mtS (c.take (k + 1))).map Value.bool).toArray) := hc84.trans ((by rw [mtS_set hy45 (by omega)])); have q1 := hc2_38; subst q0 q1; exact hS84)⟩
        ·refine W_off rfl (wanted_f rfl rfl (et rfl) (ez rfl) rfl) ?_
         refine W_off rfl (wanted_f rfl rfl (es rfl (et rfl)) (ez rfl) rfl) ?_
         refine W_off rfl (wanted_f rfl rfl (e2 rfl (et rfl)) (ez rfl) rfl) ?_
         refine W_v rfl rfl (V_pickF rfl (e3 rfl (et rfl)) rfl) ?_
         refine W_v rfl rfl (V_asg rfl (et rfl)) ?_
         refine W_end ?_
         refine Qo_normal ?_
         refine gen_Q (fun A88 hA88 => ?_)
         have hsz88 := szq hA88
         have hdf88 : A88.defers = (([] : List Nat).map coll) := by rw [hA88]; simp only [df_put]; exact hdf61
         have l1_88 := ek8 hA88 1 rfl l1_61
         have l4_88 := ek8 hA88 4 rfl l4_61
         have l5_88 := ek8 hA88 5 rfl l5_61
         have l6_88 := ek8 hA88 6 rfl l6_61
         have l7_88 := ek8 hA88 7 rfl l7_61
         have l8_88 := ek8 hA88 8 rfl l8_61
         have l29_88 := ek8 hA88 29 rfl l29_61
         have l30_88 := ek8 hA88 30 rfl l30_61
         have l31_88 := ek8 hA88 31 rfl l31_61
         have l43_88 := ek8 hA88 43 rfl l43_61
         have l44_88 := ek8 hA88 44 rfl l44_61
         have l47_88 := lookE hA88 47 (et rfl)
         have l51_88 := lookE hA88 51 (e4 rfl (et rfl))
         have l52_88 := lookE hA88 52 (e3 rfl (et rfl))
         have l53_88 := lookE hA88 53 (e2 rfl (et rfl))
         clear hA88 hsz61 hdf61 l1_61 l4_61 l5_61 l6_61 l7_61 l8_61 l29_61 l30_61 l31_61 l39_61 l43_61 l44_61
         refine then_n (hK69 _ _ ?_)
         clear hK69
         refine R_cond_f l47_88 ?_
         refine R_seq (fun K89 hK89 => ?_)
         refine R_region (by kernel_rfl) ?_
         refine W_v rfl rfl (V_mov rfl l8_88) ?_
         refine W_v rfl rfl (V_gtr rfl (et rfl) rfl) ?_
         refine W_v rfl rfl (V_asg rfl (et rfl)) ?_
         refine W_end ?_
         refine Qo_normal ?_
         refine gen_Q (fun A90 hA90 => ?_)
         have hsz90 := szq hA90
         have hdf90 : A90.defers = (([] : List Nat).map coll) := by rw [hA90]; simp only [df_put]; exact hdf88
         have l1_90 := ek3 hA90 1 rfl l1_88
         have l4_90 := ek3 hA90 4 rfl l4_88
         have l5_90 := ek3 hA90 5 rfl l5_88
         have l6_90 := ek3 hA90 6 rfl l6_88
         have l8_90 := ek3 hA90 8 rfl l8_88
         have l29_90 := ek3 hA90 29 rfl l29_88
         have l30_90 := ek3 hA90 30 rfl l30_88
         have l31_90 := ek3 hA90 31 rfl l31_88
         have l43_90 := ek3 hA90 43 rfl l43_88
         have l44_90 := ek3 hA90 44 rfl l44_88
         have l51_90 := ek3 hA90 51 rfl l51_88
         have l52_90 := ek3 hA90 52 rfl l52_88
         have l53_90 := ek3 hA90 53 rfl l53_88
         have l56_90 := lookE hA90 56 (et rfl)
         clear hA90 hsz88 hdf88 l1_88 l4_88 l5_88 l6_88 l7_88 l8_88 l29_88 l30_88 l31_88 l43_88 l44_88 l47_88 l51_88 l52_88 l53_88
         refine then_n (hK89 _ _ ?_)
         clear hK89
         refine R_cond_not l56_90 (by first | exact decide_eq_true (by omega) | exact decide_eq_false (by omega)) ?_
         refine R_skip ?_
         refine inb_n ?_
         refine then_n (hK47 _ _ ?_)
         clear hK47
         refine R_region (by kernel_rfl) ?_
         refine W_v rfl rfl (V_mov rfl l6_90) ?_
         refine W_v rfl rfl (V_add rfl (et rfl) rfl (by omega) (by omega)) ?_
         refine W_v rfl rfl (V_asg rfl (et rfl)) ?_
         refine W_end ?_
         refine Qo_normal ?_
         refine gen_Q (fun A91 hA91 => ?_)
         have hsz91 := szq hA91
         have hdf91 : A91.defers = (([] : List Nat).map coll) := by rw [hA91]; simp only [df_put]; exact hdf90
         have l1_91 := ek3 hA91 1 rfl l1_90
         have l4_91 := ek3 hA91 4 rfl l4_90
         have l5_91 := ek3 hA91 5 rfl l5_90
         have l6_91 := lookE hA91 6 (et rfl)
         have l29_91 := ek3 hA91 29 rfl l29_90
         have l30_91 := ek3 hA91 30 rfl l30_90
         have l31_91 := ek3 hA91 31 rfl l31_90
         have l43_91 := ek3 hA91 43 rfl l43_90
         have l44_91 := ek3 hA91 44 rfl l44_90
         have l51_91 := ek3 hA91 51 rfl l51_90
         have l52_91 := ek3 hA91 52 rfl l52_90
         have l53_91 := ek3 hA91 53 rfl l53_90
         clear hA91 hsz90 hdf90 l1_90 l4_90 l5_90 l6_90 l8_90 l29_90 l30_90 l31_90 l43_90 l44_90 l51_90 l52_90 l53_90 l56_90
         refine inb_n ?_
         refine then_n (hK43 _ _ ?_)
         clear hK43
         refine R_region (by kernel_rfl) ?_
         refine W_v rfl rfl (V_add rfl l31_91 rfl (by omega) (by omega)) ?_
         refine W_v rfl rfl (V_mov rfl (et rfl)) ?_
         refine W_end ?_
         refine Qo_normal ?_
         refine gen_Q (fun A92 hA92 => ?_)
         have hsz92 := szq hA92
         have hdf92 : A92.defers = (([] : List Nat).map coll) := by rw [hA92]; simp only [df_put]; exact hdf91
         have l1_92 := ek2 hA92 1 rfl l1_91
         have l4_92 := ek2 hA92 4 rfl l4_91
         have l5_92 := ek2 hA92 5 rfl l5_91
         have l6_92 := ek2 hA92 6 rfl l6_91
         have l29_92 := ek2 hA92 29 rfl l29_91
         have l30_92 := ek2 hA92 30 rfl l30_91
         have l31_92 := lookE hA92 31 (et rfl)
         have l43_92 := ek2 hA92 43 rfl l43_91
         have l44_92 := ek2 hA92 44 rfl l44_91
         have l51_92 := ek2 hA92 51 rfl l51_91
         have l52_92 := ek2 hA92 52 rfl l52_91
         have l53_92 := ek2 hA92 53 rfl l53_91
         clear hA92 hsz91 hdf91 l1_91 l4_91 l5_91 l6_91 l29_91 l30_91 l31_91 l43_91 l44_91 l51_91 l52_91 l53_91
         refine then_n ⟨c.length - (k + 1), by simp only [hm38]; omega, hsz92, hdf92, (k + 1), rfl, (by omega), (bd_step hz hy45 (by omega) (fun q => by omega)), (cnt_bd _ _), ((l31_92).trans (by first | rfl | (simp; done) | (congr 1; omega))), ((l6_92).trans ((by rw [usd_snoc hy45]; first | (rw [if_pos (by omega)]; rfl) | (rw [if_neg (by omega)]; rfl)))), ((l1_92).trans l1_37.symm), ((l4_92).trans l4_37.symm), ((l5_92).trans l5_37.symm), ((l29_92).trans l29_37.symm), ((l30_92).trans l30_37.symm), (by have q0 : c31_38 = bx g31 102 (((mtS (c.take (k + 1))).map Value.bool).toArray) := hc31_38.trans ((by rw [mtS_skip hy45 (by omega)])); have q1 := hc2_38; subst q0 q1; exact hS38)⟩
    ·have hbn := bd_done hz (by omega)
     obtain ⟨hrg, hdt⟩ := bd_iff.1 hbn
     have hul := usd_le c
     have hck : c.take k = c := List.take_of_length_le (by omega)
     have hue : usd (c.take k) = usd c := by rw [hck]
     refine R_exit ?_
     refine then_exit ?_
     refine then_exit ?_
     refine inb_hit ?_
     refine then_n (hK35 _ _ ?_)
     clear hK35
     refine R_seq (fun K93 hK93 => ?_)
     refine R_seq (fun K94 hK94 => ?_)
     refine R_region (by kernel_rfl) ?_
     refine W_v rfl rfl (V_mov rfl l6_40) ?_
     refine W_v rfl rfl (V_mul rfl rfl (et rfl) (by omega) (by omega)) ?_
     refine W_v rfl rfl (V_mov rfl (e2 rfl l4_40)) ?_
     refine W_v rfl rfl (V_mul rfl rfl (et rfl) (by omega) (by omega)) ?_
     refine W_v rfl rfl (V_gtr rfl (e2 rfl (et rfl)) (et rfl)) ?_
     refine W_end ?_
     refine Qo_normal ?_
     refine gen_Q (fun A95 hA95 => ?_)
     have hsz95 := szq hA95
     have hdf95 : A95.defers = (([] : List Nat).map coll) := by rw [hA95]; simp only [df_put]; exact hdf40
     have l1_95 := ek5 hA95 1 rfl l1_40
     have l68_95 := lookE hA95 68 (et rfl)
     clear hA95 hsz40 hdf40 l1_40 l4_40 l5_40 l6_40 l29_40 l30_40 l31_40 l32_40
     have hS97 := hS38.del 0
     replace hS97 : St w NoX (c2_38 :: (dsC ([] : List Nat))) w38 := hS97
     refine then_n (hK94 _ _ ?_)
     clear hK94
     refine R_cond_dec l68_95 (fun c98 => ?_) (fun c98 => ?_)
     ·refine R_seq (fun K99 hK99 => ?_)
      refine R_region (by kernel_rfl) ?_
      refine W_v rfl rfl (V_asg rfl rfl) ?_
      refine W_v rfl rfl (V_asg rfl rfl) ?_
      refine W_end ?_
      refine Qo_normal ?_
      refine gen_Q (fun A100 hA100 => ?_)
      have hsz100 := szq hA100
      have hdf100 : A100.defers = (([] : List Nat).map coll) := by rw [hA100]; simp only [df_put]; exact hdf95
      have l2_100 := lookE hA100 2 (es rfl (et rfl))
      have l3_100 := lookE hA100 3 (et rfl)
      clear hA100 hsz95 hdf95 l1_95 l68_95
      have hS102 := hS97.del 0
      replace hS102 : St w NoX (dsC ([] : List Nat)) w38 := hS102
      refine then_n (hK99 _ _ ?_)
      clear hK99
      refine R_ret ?_
      refine then_ret ?_
      refine ng_ret ?_
      obtain ⟨w103, hu103, hS103⟩ := St.und (l := []) (ds := ([] : List Nat)) hS102
      refine ret_inRs hu103 (results_2 Try.results42 (rv_tmp l2_100) (rv_tmp l3_100)) hdf100 ?_
      have h : ckS c = ((-1), 5) := ck_full hp2 hbn (by omega)
      rw [h]
      exact ⟨rfl, hS103.fin0⟩
     ·have hfu : ¬ 3 * c.length < 4 * usd c := by omega
      refine R_skip ?_
      refine then_n (hK93 _ _ ?_)
      clear hK93
      refine R_seq (fun K104 hK104 => ?_)
      refine R_label ?_
      refine then_n (hK104 _ _ ?_)
      clear hK104
      refine R_seq (fun K105 hK105 => ?_)
      refine R_seq (fun K106 hK106 => ?_)
      refine R_region (by kernel_rfl) ?_
      refine W_v rfl rfl (V_fa (off' := 0) rfl l1_95 Try.underlying27 rfl (by decide +kernel) rfl) ?_
      refine W_r rfl rfl (VR_ldC rfl (et rfl) (cell_box (v := cv) (hS97.obj 0 rfl hc2_38) rfl) Try.underlying25 rfl) ?_
      refine W_v rfl rfl (V_lenS rfl (et rfl) (sl_SlN h_cv.at) Try.underlying25) ?_
      refine W_v rfl rfl (V_mov rfl rfl) ?_
      refine W_end ?_
      refine Qo_normal ?_
      refine gen_Q (fun A107 hA107 => ?_)
      have hsz107 := szq hA107
      have hdf107 : A107.defers = (([] : List Nat).map coll) := by rw [hA107]; simp only [df_put]; exact hdf95
      have l1_107 := ek4 hA107 1 rfl l1_95
      have l70_107 := lookE hA107 70 (e2 rfl (et rfl))
      have l71_107 := lookE hA107 71 (es rfl (et rfl))
      have l72_107 := lookE hA107 72 (et rfl)
      clear hA107 hsz95 hdf95 l1_95 l68_95
      refine then_n (hK106 _ _ ?_)
      clear hK106
      refine R_block ?_
      -- loop 23
      refine R_loop (fun mz A' w' => SzN A' 90 ∧ True ∧ (∃ (ds108 : List Nat) (i2 : Nat), (A'.defers = (ds108.map coll)) ∧ (mz = c.length - i2) ∧ (i2 ≤ c.length) ∧ (∀ q, q < i2 → ∀ x, c[q]? = some x → 0 < x → 0 ≤ fnd c x) ∧ (EV A' (.tmp 72) = .int .i64 (i2 : Int)) ∧ (EV A' (.tmp 1) = EV A107 (.tmp 1)) ∧ (EV A' (.tmp 70) = EV A107 (.tmp 70)) ∧ (EV A' (.tmp 71) = EV A107 (.tmp 71)) ∧ (St w NoX ((bx g2 27 #[cv]) :: (dsC ds108)) w'))) (c.length - 0) ⟨hsz107, trivial, ([] : List Nat), 0, hdf107, rfl, (by omega), (fun q hq => by omega), ((l72_107).trans (by first | rfl | (simp; done) | (congr 1; omega))), rfl, rfl, rfl, (by subst hc2_38; exact hS97)⟩ ?_
      clear hS97 hc2_38
      rintro n108 A108 w108 ⟨hsz108, -, ds108, i2, hdf108, hm108, hi2, hn, l72_108, u1_108, u70_108, u71_108, hS108⟩
      have l1_108 := u1_108.trans l1_107
      have l70_108 := u70_108.trans l70_107
      have l71_108 := u71_108.trans l71_107
      obtain ⟨c2_108, hc2_108, hS108⟩ := gen1 hS108
      refine R_seq (fun K109 hK109 => ?_)
      refine R_region (by kernel_rfl) ?_
      refine W_v rfl rfl (V_lss rfl l72_108 l71_108) ?_
      refine W_end ?_
      refine Qo_normal ?_
      refine gen_Q (fun A110 hA110 => ?_)
      have hsz110 := szq hA110
      have hdf110 : A110.defers = (ds108.map coll) := by rw [hA110]; simp only [df_put]; exact hdf108
      have l1_110 := lookE hA110 1 (es rfl l1_108)
      have l70_110 := lookE hA110 70 (es rfl l70_108)
      have l71_110 := lookE hA110 71 (es rfl l71_108)
      have l72_110 := lookE hA110 72 (es rfl l72_108)
      have l73_110 := lookE hA110 73 (et rfl)
      clear hA110 hsz108 hdf108 l72_108 l1_108 l70_108 l71_108
      refine then_n (hK109 _ _ ?_)
      clear hK109
      refine R_seq (fun K111 hK111 => ?_)
      refine R_cond_dec l73_110 (fun c112 => ?_) (fun c112 => ?_)
      ·refine R_skip ?_
       refine then_n (hK111 _ _ ?_)
       clear hK111
       refine R_seq (fun K113 hK113 => ?_)
       refine R_block ?_
       refine R_seq (fun K114 hK114 => ?_)
       refine R_region (by kernel_rfl) ?_
       refine W_v rfl rfl (V_mov rfl l72_110) ?_
       have k115 : i2 < c.length := by first | omega | (simp only [List.length_cons, List.length_nil]; omega) | (simp only [List.length_set]; omega) | decide
       obtain ⟨y115, hy115⟩ := get_some (xs := c) (k := i2) k115
       have hry115 := hrg y115 (List.mem_of_getElem? hy115)
       obtain ⟨B115, O115, C115, hv115⟩ := (SlN.blk (sl_SlN h_cv.at) (by first | omega | (simp only [List.length_cons, List.length_nil]; omega) | (simp only [List.length_set]; omega) | decide))
       refine W_v rfl rfl (V_ixS (off := O115 + i2) 1 (i2) rfl (es rfl l70_110) (es rfl l72_110) hv115 (by omega) k115 Try.underlying25 (by kernel_rfl) (congrArg _ (Nat.mul_one _))) ?_
       refine W_r rfl rfl (VR_ldC rfl (et rfl) ((sl_SlN (hS108.ro h_cv)).cell hv115 (map_get hy115)) Try.underlying3 rfl) ?_
       refine W_allocS (z := .int .i64 0) (zs := #[.int .i64 0]) hS108 rfl rfl rfl (by kernel_rfl) (by rfl) (fun g116 w116 c116 hc116 hS116 => ?_)
       replace hS116 : St w NoX (c116 :: c2_108 :: (dsC ds108)) w116 := hS116
       refine W_stCS (zs' := #[.int .i64 ((i2 : Int))]) 0 hS116 rfl hc116 rfl rfl rfl (et rfl) (e3 rfl (et rfl)) (by rfl) (by rfl) (by kernel_rfl) (by first | rfl | (simp only [List.setIfInBounds_toArray, List.set_cons_succ, List.set_cons_zero] <;> rfl)) (fun w117 c117 hc117 hS117 => ?_)
       replace hS117 : St w NoX (c117 :: c2_108 :: (dsC ds108)) w117 := hS117
       refine W_v rfl rfl (V_asg rfl (es rfl (et rfl))) ?_
       refine W_end ?_
       refine Qo_normal ?_
       refine gen_Q (fun A118 hA118 => ?_)
       have hsz118 := szq hA118
       have hdf118 : A118.defers = (ds108.map coll) := by rw [hA118]; simp only [df_put]; exact hdf110
       have l1_118 := ek5 hA118 1 rfl l1_110
       have l9_118 := lookE hA118 9 (es rfl (et rfl))
       have l10_118 := lookE hA118 10 (et rfl)
       have l70_118 := ek5 hA118 70 rfl l70_110
       have l71_118 := ek5 hA118 71 rfl l71_110
       have l72_118 := ek5 hA118 72 rfl l72_110
       clear hA118 hsz110 hdf110 l1_110 l70_110 l71_110 l72_110 l73_110
       refine then_n (hK114 _ _ ?_)
       clear hK114
       refine R_seq (fun K119 hK119 => ?_)
       refine R_seq (fun K120 hK120 => ?_)
       refine R_region (by kernel_rfl) ?_
       refine W_v rfl rfl (V_mov rfl l10_118) ?_
       refine W_v rfl rfl (V_leq rfl (et rfl) rfl) ?_
       refine W_end ?_
       refine Qo_normal ?_
       refine gen_Q (fun A121 hA121 => ?_)
       have hsz121 := szq hA121
       have hdf121 : A121.defers = (ds108.map coll) := by rw [hA121]; simp only [df_put]; exact hdf118
       have l1_121 := ek2 hA121 1 rfl l1_118
       have l9_121 := ek2 hA121 9 rfl l9_118
       have l10_121 := ek2 hA121 10 rfl l10_118
       have l70_121 := ek2 hA121 70 rfl l70_118
       have l71_121 := ek2 hA121 71 rfl l71_118
       have l72_121 := ek2 hA121 72 rfl l72_118
       have l78_121 := lookE hA121 78 (et rfl)
       clear hA121 hsz118 hdf118 l1_118 l9_118 l10_118 l70_118 l71_118 l72_118
       refine then_n (hK120 _ _ ?_)
       clear hK120
       refine R_cond_dec l78_121 (fun c122 => ?_) (fun c122 => ?_)
       ·refine R_exit ?_
        refine then_exit ?_
        refine inb_hit ?_
        refine then_n (hK113 _ _ ?_)
        clear hK113
        refine R_region (by kernel_rfl) ?_
        refine W_v rfl rfl (V_add rfl l72_121 rfl (by omega) (by omega)) ?_
        refine W_v rfl rfl (V_mov rfl (et rfl)) ?_
        refine W_end ?_
        refine Qo_normal ?_
        refine gen_Q (fun A123 hA123 => ?_)
        have hsz123 := szq hA123
        have hdf123 : A123.defers = (ds108.map coll) := by rw [hA123]; simp only [df_put]; exact hdf121
        have l1_123 := ek2 hA123 1 rfl l1_121
        have l70_123 := ek2 hA123 70 rfl l70_121
        have l71_123 := ek2 hA123 71 rfl l71_121
        have l72_123 := lookE hA123 72 (et rfl)
        clear hA123 hsz121 hdf121 l1_121 l9_121 l10_121 l70_121 l71_121 l72_121 l78_121
        have hS125 := hS117.del 0
        replace hS125 : St w NoX (c2_108 :: (dsC ds108)) w117 := hS125
        refine then_n ⟨c.length - (i2 + 1), by simp only [hm108]; omega, hsz123, trivial, ds108, (i2 + 1), hdf123, rfl, (by omega), (hn_step hn hy115 (fun _ => by omega)), ((l72_123).trans (by first | rfl | (simp; done) | (congr 1; omega))), ((l1_123).trans l1_107.symm), ((l70_123).trans l70_107.symm), ((l71_123).trans l71_107.symm), (by subst hc2_108; exact hS125)⟩
       ·refine R_skip ?_
        refine then_n (hK119 _ _ ?_)
        clear hK119
        refine R_seq (fun K126 hK126 => ?_)
        refine R_seq (fun K127 hK127 => ?_)
        refine R_region (by kernel_rfl) ?_
        refine W_v rfl rfl (V_fa (off' := 0) rfl l1_121 Try.underlying27 rfl (by decide +kernel) rfl) ?_
        refine W_r rfl rfl (VR_ldC rfl (et rfl) (cell_box (v := cv) (hS117.obj 1 rfl hc2_108) rfl) Try.underlying25 rfl) ?_
        refine W_v rfl rfl (V_mov rfl (e2 rfl l10_121)) ?_
        refine W_call rfl rfl rfl Try.func72 (by kernel_rfl) rfl (args2 (es rfl (et rfl)) (et rfl)) (kpath_c (a := y115) (hS117.roC h_cv) ) ?_
        rintro _ w128 ⟨ga_128, gc_128, rfl, hP128⟩
        refine ⟨_, rfl, ?_⟩
        obtain ⟨ca_128, cc_128, hca_128, hcc_128, hP128⟩ := gen2 hP128
        have hS128 := hS117.join hP128
        replace hS128 : St w NoX (ca_128 :: cc_128 :: c117 :: c2_108 :: (dsC ds108)) w128 := hS128
        refine W_end ?_
        refine Qo_normal ?_
        refine gen_Q (fun A129 hA129 => ?_)
        have hsz129 := szq hA129
        have hdf129 : A129.defers = (ds108.map coll) := by rw [hA129]; simp only [df_put]; exact hdf121
        have l1_129 := ek4 hA129 1 rfl l1_121
        have l9_129 := ek4 hA129 9 rfl l9_121
        have l70_129 := ek4 hA129 70 rfl l70_121
        have l71_129 := ek4 hA129 71 rfl l71_121
        have l72_129 := ek4 hA129 72 rfl l72_121
        have l82_129 := lookE hA129 82 (et rfl)
        clear hA129 hsz121 hdf121 l1_121 l9_121 l10_121 l70_121 l71_121 l72_121 l78_121
        refine then_n (hK127 _ _ ?_)
        clear hK127
        refine R_block ?_
        refine R_rangeS (α := Int × Int) l82_129 (fun args w => calls_enter Try.func98 rfl rfl args w) (kpath_it (g0 := ga_128) (g1 := gc_128) (v := cv) (c := c) (a := y115) (Rd := fun W => (bx ga_128 3 #[.int .i64 y115]).at W ∧ (bx gc_128 25 #[cv]).at W ∧ (il .i64 cv c).at W) (fun _ h => h) (hp2) (by omega)) (fun _ => rfl) (fun pre => pk (fun l => (∀ e ∈ pre, ¬ e.1 = (i2 : Int)) ∧ l = [bx ga_128 3 #[.int .i64 (y115)], bx gc_128 25 #[cv], bx g116 3 #[.int .i64 ((i2 : Int))], bx g2 27 #[cv]])) (fun cQ pre => pk (fun l => (cQ = .exit 5 ∧ (0 ≤ fnd c y115) ∧ l = [bx ga_128 3 #[.int .i64 (y115)], bx gc_128 25 #[cv], bx g116 3 #[.int .i64 ((i2 : Int))], bx g2 27 #[cv]]))) (St.pack (l := [bx ga_128 3 #[.int .i64 (y115)], bx gc_128 25 #[cv], bx g116 3 #[.int .i64 ((i2 : Int))], bx g2 27 #[cv]]) (fr := (dsC ds108)) (by have q0 : ca_128 = bx ga_128 3 #[.int .i64 (y115)] := hca_128; have q1 : cc_128 = bx gc_128 25 #[cv] := hcc_128; have q2 : c117 = bx g116 3 #[.int .i64 ((i2 : Int))] := hc117; have q3 : c2_108 = bx g2 27 #[cv] := hc2_108; subst q0 q1 q2 q3; exact hS128) ⟨(fun e he => by cases he), rfl⟩)
         (fun pre W l' hS => by obtain ⟨l, ⟨hno, rfl⟩, hl⟩ := pk_at (hS.ch 0 rfl); exact ⟨(hl 0 _ rfl), (hl 1 _ rfl), hS.ro h_cv⟩)
         (fun x a' cQ => match x with | (x1, x2) => SzN a' 90 ∧ a'.defers = [] ∧ EV a' (.tmp 9) = EV A129 (.tmp 9) ∧ EV a' (.tmp 11) = .int .i64 (x1) ∧ cQ = pk (·= [])) ?_ ?_ ?_ ?_
        ·rintro la130 pre ⟨x1, x2⟩ wa130 fr K hSa130 hK
         simp only [encP]
         rw [rnd2]
         obtain ⟨A131, hA131⟩ : ∃ A, A = (PT (PT { tmps := A129.tmps, defers := [] } 83 (.int .i64 x1)) 84 (.int .i64 x2)) := ⟨_, rfl⟩
         rw [← hA131]
         have hsz131 := szq hA131
         have hdf131 : A131.defers = [] := by rw [hA131]; rfl
         have l9_131 := lookE hA131 9 (e2 rfl (rnd_l l9_129))
         have l83_131 := lookE hA131 83 (es rfl (et rfl))
         have l84_131 := lookE hA131 84 (et rfl)
         clear hA131
         obtain ⟨cI, hcI, hSa130⟩ := gen1 hSa130
         refine R_region (by kernel_rfl) ?_
         refine W_v rfl rfl (V_asg rfl l83_131) ?_
         refine W_end ?_
         refine Qo_normal ?_
         refine gen_Q (fun A132 hA132 => ?_)
         have hsz132 := szq hA132
         have hdf132 := dfE hA132 hdf131
         have l9_132 := lookE hA132 9 (es rfl l9_131)
         have l11_132 := lookE hA132 11 (et rfl)
         clear hA132 hsz131 hdf131 l9_131 l83_131 l84_131
         refine then_n ?_
         refine hK _ _ _ ⟨hsz132, hdf132, (l9_132.trans l9_129.symm), l11_132, rfl⟩ ?_
         subst hcI; exact hSa130.asg0
        ·rintro lb133 pre ⟨x1, x2⟩ A133 w133 cQ fr hAx hlr hS133 hVd
         obtain ⟨hsz133, hdf133, u9_133, l11_133, rfl⟩ := hAx
         have l9_133 := u9_133.trans l9_129
         obtain ⟨_, _, ⟨hno, rfl⟩, rfl, hS133⟩ := hS133.body2
         replace hS133 : St w NoX ((bx ga_128 3 #[.int .i64 (y115)]) :: (bx gc_128 25 #[cv]) :: (bx g116 3 #[.int .i64 ((i2 : Int))]) :: (bx g2 27 #[cv]) :: fr) w133 := hS133
         obtain ⟨ca_134, cc_134, c117_134, c2_134, hca_134, hcc_134, hc117_134, hc2_134, hS133⟩ := gen4 hS133
         refine R_block ?_
         refine R_seq (fun K135 hK135 => ?_)
         refine R_region (by kernel_rfl) ?_
         refine W_v rfl rfl (V_mov rfl l11_133) ?_
         refine W_r rfl rfl (VR_ldC rfl (es rfl l9_133) (cell_box (v := .int .i64 ((i2 : Int))) (hS133.obj 2 rfl hc117_134) rfl) Try.underlying3 rfl) ?_
         refine W_v rfl rfl (V_eql rfl (es rfl (et rfl)) (et rfl)) ?_
         refine W_end ?_
         refine Qo_normal ?_
         refine gen_Q (fun A136 hA136 => ?_)
         have hsz136 := szq hA136
         have hdf136 := dfE hA136 hdf133
         have l87_136 := lookE hA136 87 (et rfl)
         clear hA136 hsz133 hdf133 l9_133 l11_133
         refine then_n (hK135 _ _ ?_)
         clear hK135
         refine R_cond_dec l87_136 (fun c137 => ?_) (fun c137 => ?_)
         ·refine R_exit ?_
          refine inb_miss rfl ?_
          exact (St.pack (l := [bx ga_128 3 #[.int .i64 (y115)], bx gc_128 25 #[cv], bx g116 3 #[.int .i64 ((i2 : Int))], bx g2 27 #[cv]]) (fr := fr) (by have q0 : ca_134 = bx ga_128 3 #[.int .i64 (y115)] := hca_134; have q1 : cc_134 = bx gc_128 25 #[cv] := hcc_134; have q2 : c117_134 = bx g116 3 #[.int .i64 ((i2 : Int))] := hc117_134; have q3 : c2_134 = bx g2 27 #[cv] := hc2_134; subst q0 q1 q2 q3; exact hS133) (⟨rfl, (hit_pth hVd c137 hy115 (by omega)), rfl⟩))
         ·refine R_skip ?_
          refine inb_n ?_
          exact (St.pack (l := [bx ga_128 3 #[.int .i64 (y115)], bx gc_128 25 #[cv], bx g116 3 #[.int .i64 ((i2 : Int))], bx g2 27 #[cv]]) (fr := fr) (by have q0 : ca_134 = bx ga_128 3 #[.int .i64 (y115)] := hca_134; have q1 : cc_134 = bx gc_128 25 #[cv] := hcc_134; have q2 : c117_134 = bx g116 3 #[.int .i64 ((i2 : Int))] := hc117_134; have q3 : c2_134 = bx g2 27 #[cv] := hc2_134; subst q0 q1 q2 q3; exact hS133) (⟨(all_snoc (p := fun e => e.1 = (i2 : Int)) hno c137), rfl⟩))
        ·intro D138 xs w138 hxs hS138
         have hxs' : xs = pthL c y115 := hxs; subst hxs'; clear hxs
         obtain ⟨_, ⟨hno, rfl⟩, hS138⟩ := hS138.unpack
         replace hS138 : St w NoX ((bx ga_128 3 #[.int .i64 (y115)]) :: (bx gc_128 25 #[cv]) :: (bx g116 3 #[.int .i64 ((i2 : Int))]) :: (bx g2 27 #[cv]) :: (dsC (D138 :: ds108))) w138 := hS138
         obtain ⟨ca_138, cc_138, c117_138, c2_138, hca_138, hcc_138, hc117_138, hc2_138, hS138⟩ := gen4 hS138
         refine gen_Q (fun A138 hA138 => ?_)
         have hsz138 := szq hA138
         have hdf138 : A138.defers = ((D138 :: ds108).map coll) := by rw [hA138, df_mk, hdf129] <;> rfl
         have l9_138 := lookE hA138 9 (mk_l l9_129)
         clear hA138
         refine inb_n ?_
         refine then_n (hK126 _ _ ?_)
         clear hK126
         refine R_seq (fun K139 hK139 => ?_)
         refine R_region (by kernel_rfl) ?_
         refine W_r rfl rfl (VR_ldC rfl l9_138 (cell_box (v := .int .i64 ((i2 : Int))) (hS138.obj 2 rfl hc117_138) rfl) Try.underlying3 rfl) ?_
         refine W_v rfl rfl (V_asg rfl (et rfl)) ?_
         refine W_v rfl rfl (V_asg rfl rfl) ?_
         refine W_end ?_
         refine Qo_normal ?_
         refine gen_Q (fun A140 hA140 => ?_)
         have hsz140 := szq hA140
         have hdf140 : A140.defers = ((D138 :: ds108).map coll) := by rw [hA140]; simp only [df_put]; exact hdf138
         have l2_140 := lookE hA140 2 (es rfl (et rfl))
         have l3_140 := lookE hA140 3 (et rfl)
         clear hA140 hsz138 hdf138 l9_138
         have hS142 := hS138.del 0
         replace hS142 : St w NoX (cc_138 :: c117_138 :: c2_138 :: (dsC (D138 :: ds108))) w138 := hS142
         have hS143 := hS142.del 0
         replace hS143 : St w NoX (c117_138 :: c2_138 :: (dsC (D138 :: ds108))) w138 := hS143
         have hS144 := hS143.del 0
         replace hS144 : St w NoX (c2_138 :: (dsC (D138 :: ds108))) w138 := hS144
         have hS145 := hS144.del 0
         replace hS145 : St w NoX (dsC (D138 :: ds108)) w138 := hS145
         refine then_n (hK139 _ _ ?_)
         clear hK139
         refine R_ret ?_
         refine inb_ret ?_
         refine then_ret ?_
         refine then_ret ?_
         refine inb_ret ?_
         refine then_ret ?_
         refine ng_ret ?_
         obtain ⟨w146, hu146, hS146⟩ := St.und (l := []) (ds := (D138 :: ds108)) hS145
         refine ret_inRs hu146 (results_2 Try.results42 (rv_tmp l2_140) (rv_tmp l3_140)) hdf140 ?_
         have h : ckS c = ((i2 : Int), 6) := ck_bad2 hp2 hbn hfu hn hy115 (by omega) (no_pth hno hy115 (by omega) hdt)
         rw [h]
         exact ⟨rfl, hS146.fin0⟩
        ·intro D147 cQ pre w147 hpre hS147
         obtain ⟨_, hx, hS147⟩ := hS147.unpack
         rcases hx with ⟨rfl, hx, rfl⟩
         ·replace hS147 : St w NoX ((bx ga_128 3 #[.int .i64 (y115)]) :: (bx gc_128 25 #[cv]) :: (bx g116 3 #[.int .i64 ((i2 : Int))]) :: (bx g2 27 #[cv]) :: (dsC (D147 :: ds108))) w147 := hS147
          obtain ⟨ca_147, cc_147, c117_147, c2_147, hca_147, hcc_147, hc117_147, hc2_147, hS147⟩ := gen4 hS147
          refine gen_w (fun A147 hA147 => ?_)
          have hsz147 := szq hA147
          have hdf147 : A147.defers = ((D147 :: ds108).map coll) := by rw [hA147, df_mk, hdf129] <;> rfl
          have l1_147 := lookE hA147 1 (mk_l l1_129)
          have l70_147 := lookE hA147 70 (mk_l l70_129)
          have l71_147 := lookE hA147 71 (mk_l l71_129)
          have l72_147 := lookE hA147 72 (mk_l l72_129)
          clear hA147
          refine R_exit ?_
          refine inb_miss rfl ?_
          refine then_exit ?_
          refine inb_hit ?_
          refine then_n (hK113 _ _ ?_)
          clear hK113
          refine R_region (by kernel_rfl) ?_
          refine W_v rfl rfl (V_add rfl l72_147 rfl (by omega) (by omega)) ?_
          refine W_v rfl rfl (V_mov rfl (et rfl)) ?_
          refine W_end ?_
          refine Qo_normal ?_
          refine gen_Q (fun A148 hA148 => ?_)
          have hsz148 := szq hA148
          have hdf148 : A148.defers = ((D147 :: ds108).map coll) := by rw [hA148]; simp only [df_put]; exact hdf147
          have l1_148 := ek2 hA148 1 rfl l1_147
          have l70_148 := ek2 hA148 70 rfl l70_147
          have l71_148 := ek2 hA148 71 rfl l71_147
          have l72_148 := lookE hA148 72 (et rfl)
          clear hA148 hsz147 hdf147 l1_147 l70_147 l71_147 l72_147
          have hS150 := hS147.del 0
          replace hS150 : St w NoX (cc_147 :: c117_147 :: c2_147 :: (dsC (D147 :: ds108))) w147 := hS150
          have hS151 := hS150.del 0
          replace hS151 : St w NoX (c117_147 :: c2_147 :: (dsC (D147 :: ds108))) w147 := hS151
          have hS152 := hS151.del 0
          replace hS152 : St w NoX (c2_147 :: (dsC (D147 :: ds108))) w147 := hS152
          refine then_n ⟨c.length - (i2 + 1), by simp only [hm108]; omega, hsz148, trivial, (D147 :: ds108), (i2 + 1), hdf148, rfl, (by omega), (hn_step hn hy115 (fun _ => hx)), ((l72_148).trans (by first | rfl | (simp; done) | (congr 1; omega))), ((l1_148).trans l1_107.symm), ((l70_148).trans l70_107.symm), ((l71_148).trans l71_107.symm), (by subst hc2_147; exact hS152)⟩
      ·refine R_exit ?_
       refine then_exit ?_
       refine then_exit ?_
       refine inb_hit ?_
       refine then_n (hK105 _ _ ?_)
       clear hK105
       refine R_seq (fun K153 hK153 => ?_)
       refine R_region (by kernel_rfl) ?_
       refine W_v rfl rfl (V_asg rfl rfl) ?_
       refine W_v rfl rfl (V_asg rfl rfl) ?_
       refine W_end ?_
       refine Qo_normal ?_
       refine gen_Q (fun A154 hA154 => ?_)
       have hsz154 := szq hA154
       have hdf154 : A154.defers = (ds108.map coll) := by rw [hA154]; simp only [df_put]; exact hdf110
       have l2_154 := lookE hA154 2 (es rfl (et rfl))
       have l3_154 := lookE hA154 3 (et rfl)
       clear hA154 hsz110 hdf110 l1_110 l70_110 l71_110 l72_110 l73_110
       have hS156 := hS108.del 0
       replace hS156 : St w NoX (dsC ds108) w108 := hS156
       refine then_n (hK153 _ _ ?_)
       clear hK153
       refine R_ret ?_
       refine ng_ret ?_
       obtain ⟨w157, hu157, hS157⟩ := St.und (l := []) (ds := ds108) hS156
       refine ret_inRs hu157 (results_2 Try.results42 (rv_tmp l2_154) (rv_tmp l3_154)) hdf154 ?_
       have h : ckS c = (0, 0) := ck_ok hp2 hbn hfu hn (by omega)
       rw [h]
       exact ⟨rfl, hS157.fin0⟩

end Go.Proofs.Yteppjefmlibmoaa