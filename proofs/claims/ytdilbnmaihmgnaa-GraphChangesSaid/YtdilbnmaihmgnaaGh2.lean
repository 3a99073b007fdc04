import Derived.Test.YtdilbnmaihmgnaaProg
import Derived.Test.YtdilbnmaihmgnaaGh1
import Derived.Test.YtdilbnmaihmgnaaPl15d
namespace Go.Proofs.Ytdilbnmaihmgnaa
open Go.RowKit Go.Own Go.Own.R Go.Own.G Go.Own.Gr


set_option maxHeartbeats 4000000 in
theorem khd_c {ov : Value} {O : List Ob} {rv : Value} {rs : List Int} {gov : Nat} {a : Int} {w : World} (h_ov : Ro w NoX (rl 2 obC ov O)) (n_ov : Ro w NoX (nst O)) (h_rv : Ro w NoX (il .i64 rv rs)) (hb_ov : Ro w NoX (bx gov 25 #[ov, rv])) (hrg : ∀ p ∈ rs, 0 ≤ p ∧ p ≤ (O.length : Int)) (ha : 0 ≤ a ∧ a < (rs.length : Int)) :
    Calls Try.prog 61 #[.pointer (some ⟨gov, 0, none⟩), .int .i64 a] w fun e w' => (e = .returned (.pointer none) ∧ (rg rs a = 0) ∧ St w NoX [] w') ∨ (∃ B Of C y, e = .returned (.pointer (some ⟨B, Of + (rg rs a - 1).toNat * 2, none⟩)) ∧ (ov = .slice (some ⟨B, Of, none⟩) O.length C) ∧ (O[(rg rs a - 1).toNat]? = some y) ∧ (¬ rg rs a = 0) ∧ St w NoX [] w') := by
  refine calls_in 26 Try.func61 rfl rfl (by simp) (fun A0 hsz0 hdf0 hargs => ?_)
  have l0_0 := hargs 0 (.pointer (some ⟨gov, 0, none⟩)) rfl
  have l1_0 := hargs 1 (.int .i64 a) rfl
  clear hargs; replace hsz0 : SzN A0 26 := ⟨hsz0⟩
  have hS := St.nil w
  have bh_ov := SlN.le (sl_SlN h_ov.at)
  have bh_rv := SlN.le (sl_SlN h_rv.at)
  refine wp_seq_k (fun K1 hK1 => ?_)
  refine region_in ?_
  refine W_v rfl rfl (V_asg rfl rfl) ?_
  refine W_end ?_
  refine gen_Q (fun A2 hA2 => ?_)
  have hsz2 := szq hA2
  have hdf2 : A2.defers = [] := by rw [hA2]; simp only [df_put]; exact hdf0
  have l0_2 := lookE hA2 0 (es rfl l0_0)
  have l1_2 := lookE hA2 1 (es rfl l1_0)
  clear hA2 hsz0 hdf0 l0_0 l1_0
  refine then_n (hK1 _ _ ?_)
  clear hK1
  refine wp_seq_k (fun K3 hK3 => ?_)
  refine wp_seq_k (fun K4 hK4 => ?_)
  refine region_in ?_
  refine W_v rfl rfl (V_mov rfl l0_2) ?_
  refine W_v rfl rfl (V_nil rfl (et rfl)) ?_
  refine W_v rfl rfl (V_fa (off' := 1) rfl (et rfl) Try.underlying25 rfl (by decide +kernel) rfl) ?_
  refine W_r rfl rfl (VR_ldC rfl (et rfl) (cell_box (v := rv) (ob_at (hS.ro hb_ov)) rfl) Try.underlying23 rfl) ?_
  refine W_v rfl rfl (V_mov rfl (e3 rfl (es rfl l1_2))) ?_
  have k5 : a.toNat < rs.length := by first | omega | (simp only [List.length_cons, List.length_nil]; omega) | (simp only [List.length_set]; omega)
  obtain ⟨y5, hy5⟩ := get_some (xs := rs) (k := a.toNat) k5
  have hrg5 := hrg y5 (List.mem_of_getElem? hy5)
  have hq5 : rg rs a = y5 := rg_at hy5
  obtain ⟨B5, O5, C5, hv5⟩ := (SlN.blk (sl_SlN h_rv.at) (by first | omega | (simp only [List.length_cons, List.length_nil]; omega) | (simp only [List.length_set]; omega)))
  refine W_v rfl rfl (V_ixS (off := O5 + a.toNat) 1 (a.toNat) rfl (es rfl (et rfl)) (et rfl) hv5 (by omega) k5 Try.underlying23 (by kernel_rfl) (congrArg _ (Nat.mul_one _))) ?_
  refine W_r rfl rfl (VR_ldC rfl (et rfl) ((sl_SlN (hS.ro h_rv)).cell hv5 (map_get hy5)) Try.underlying3 rfl) ?_
  refine W_v rfl rfl (V_eql rfl (et rfl) rfl) ?_
  refine W_end ?_
  refine gen_Q (fun A6 hA6 => ?_)
  have hsz6 := szq hA6
  have hdf6 : A6.defers = [] := by rw [hA6]; simp only [df_put]; exact hdf2
  have l0_6 := lookE hA6 0 (e7 rfl (es rfl l0_2))
  have l1_6 := lookE hA6 1 (e7 rfl (es rfl l1_2))
  have l12_6 := lookE hA6 12 (et rfl)
  clear hA6 hsz2 hdf2 l0_2 l1_2
  refine then_n (hK4 _ _ ?_)
  clear hK4
  refine cond_dec l12_6 (fun c7 => ?_) (fun c7 => ?_)
  · skip
    refine wp_seq_k (fun K8 hK8 => ?_)
    refine region_in ?_
    refine W_v rfl rfl (V_asg rfl rfl) ?_
    refine W_end ?_
    refine gen_Q (fun A9 hA9 => ?_)
    have hsz9 := szq hA9
    have hdf9 : A9.defers = [] := by rw [hA9]; simp only [df_put]; exact hdf6
    have l4_9 := lookE hA9 4 (et rfl)
    clear hA9 hsz6 hdf6 l0_6 l1_6 l12_6
    refine then_n (hK8 _ _ ?_)
    clear hK8
    refine wp_ret ?_
    refine then_ret ?_
    refine ret_in (results_1 Try.results61 (rv_tmp l4_9)) hdf9 ?_
    -- leaf T
    exact .inl ⟨rfl, by omega, hS.fin0⟩
  · skip
    refine wp_skip ?_
    refine then_n (hK3 _ _ ?_)
    clear hK3
    refine wp_seq_k (fun K10 hK10 => ?_)
    refine region_monoS 14 14 [] (by kernel_rfl) (by kernel_rfl) ?_
    refine D_v rfl rfl (V_mov rfl l0_6) rfl rfl ?_
    refine D_v rfl rfl (V_nil rfl (et rfl)) rfl rfl ?_
    refine D_v rfl rfl (V_fa (off' := 0) rfl (et rfl) Try.underlying25 rfl (by decide +kernel) rfl) rfl rfl ?_
    refine D_r rfl rfl (by kernel_rfl) (fun sx hx hF => (VR_ldC rfl (et rfl) (cell_box (v := ov) (ob_at ((hS.grow hx).ro hb_ov)) rfl) Try.underlying22 rfl)) rfl rfl ?_
    refine D_v rfl rfl (V_mov rfl (e3 rfl (es rfl l0_6))) rfl rfl ?_
    refine D_v rfl rfl (V_nil rfl (et rfl)) rfl rfl ?_
    refine D_v rfl rfl (V_fa (off' := 1) rfl (et rfl) Try.underlying25 rfl (by decide +kernel) rfl) rfl rfl ?_
    refine D_r rfl rfl (by kernel_rfl) (fun sx hx hF => (VR_ldC rfl (et rfl) (cell_box (v := rv) (ob_at ((hS.grow hx).ro hb_ov)) rfl) Try.underlying23 rfl)) rfl rfl ?_
    refine D_v rfl rfl (V_mov rfl (e7 rfl (es rfl l1_6))) rfl rfl ?_
    refine D_v rfl rfl (V_ixS (off := O5 + a.toNat) 1 (a.toNat) rfl (es rfl (et rfl)) (et rfl) hv5 (by omega) k5 Try.underlying23 (by kernel_rfl) (congrArg _ (Nat.mul_one _))) rfl rfl ?_
    refine D_r rfl rfl (by kernel_rfl) (fun sx hx hF => (VR_ldC rfl (et rfl) ((sl_SlN ((hS.grow hx).ro h_rv)).cell hv5 (map_get hy5)) Try.underlying3 rfl)) rfl rfl ?_
    refine D_v rfl rfl (V_sb rfl (et rfl) rfl (by omega) (by omega)) rfl rfl ?_
    have k12 : (y5 - 1).toNat < O.length := by first | omega | (simp only [List.length_cons, List.length_nil]; omega) | (simp only [List.length_set]; omega)
    obtain ⟨y12, hy12⟩ := get_some (xs := O) (k := (y5 - 1).toNat) k12
    obtain ⟨B12, O12, C12, hv12⟩ := (SlN.blk (sl_SlN h_ov.at) (by first | omega | (simp only [List.length_cons, List.length_nil]; omega) | (simp only [List.length_set]; omega)))
    refine D_v rfl rfl (V_ixS (off := O12 + ((y5 - 1).toNat) * 2) 2 ((y5 - 1).toNat) rfl (e8 rfl (et rfl)) (et rfl) hv12 (by omega) k12 Try.underlying22 (by kernel_rfl) rfl) rfl rfl ?_
    refine D_v rfl rfl (V_asg rfl (et rfl)) rfl rfl ?_
    refine ZS_none hS (Nat.le_refl _) (Nat.le_refl _) (fun s13 hJ13 hL13 hF13 => ?_)
    have hS13 := hJ13.st; clear hF13 hJ13 hL13
    generalize s13.1 = w13 at *
    replace hS13 : St w NoX [] w13 := hS13
    refine gen_Q (fun A14 hA14 => ?_)
    have hsz14 := szq hA14
    have hdf14 : A14.defers = [] := by rw [hA14]; simp only [df_put]; exact hdf6
    have l4_14 := lookE hA14 4 (et rfl)
    clear hA14 hsz6 hdf6 l0_6 l1_6 l12_6
    refine then_n (hK10 _ _ ?_)
    clear hK10
    refine wp_ret ?_
    refine ret_in (results_1 Try.results61 (rv_tmp l4_14)) hdf14 ?_
    -- leaf F
    have hkk : ((y5 - 1).toNat : Nat) = (rg rs a - 1).toNat := by omega
    rw [hkk] at hy12
    exact .inr ⟨B12, O12, C12, y12, by rw [hkk], hv12, hy12, by omega, hS13.fin0⟩

set_option maxHeartbeats 4000000 in
theorem kpt_c {ov : Value} {O : List Ob} {rv : Value} {rs : List Int} {gov : Nat} {a : Int} {f : Int} {w : World} (h_ov : Ro w NoX (rl 2 obC ov O)) (n_ov : Ro w NoX (nst O)) (h_rv : Ro w NoX (il .i64 rv rs)) (hb_ov : Ro w NoX (bx gov 25 #[ov, rv])) (hrg : ∀ p ∈ rs, 0 ≤ p ∧ p ≤ (O.length : Int)) (ha : 0 ≤ a ∧ a < (rs.length : Int)) :
    Calls Try.prog 54 #[.pointer (some ⟨gov, 0, none⟩), .int .i64 a, .int .i64 f] w fun e w' => (e = .returned (.pointer none) ∧ (rg rs a = 0 ∨ f < 0 ∨ ((ob (O.map ab) rs a).1.length : Int) ≤ f) ∧ St w NoX [] w') ∨ (∃ B Of C y x, e = .returned (.pointer (some ⟨B, Of + f.toNat, none⟩)) ∧ (y.1.1 = .slice (some ⟨B, Of, none⟩) y.1.2.length C) ∧ (O[(rg rs a - 1).toNat]? = some y) ∧ (y.1.2[f.toNat]? = some x) ∧ (¬ (rg rs a = 0 ∨ f < 0 ∨ ((ob (O.map ab) rs a).1.length : Int) ≤ f)) ∧ (ob (O.map ab) rs a = ab y) ∧ St w NoX [] w') := by
  refine calls_in 32 Try.func54 rfl rfl (by simp) (fun A0 hsz0 hdf0 hargs => ?_)
  have l0_0 := hargs 0 (.pointer (some ⟨gov, 0, none⟩)) rfl
  have l1_0 := hargs 1 (.int .i64 a) rfl
  have l2_0 := hargs 2 (.int .i64 f) rfl
  clear hargs; replace hsz0 : SzN A0 32 := ⟨hsz0⟩
  have hS := St.nil w
  have bh_ov := SlN.le (sl_SlN h_ov.at)
  have bh_rv := SlN.le (sl_SlN h_rv.at)
  refine wp_seq_k (fun K1 hK1 => ?_)
  refine region_in ?_
  refine W_v rfl rfl (V_asg rfl rfl) ?_
  refine W_end ?_
  refine gen_Q (fun A2 hA2 => ?_)
  have hsz2 := szq hA2
  have hdf2 : A2.defers = [] := by rw [hA2]; simp only [df_put]; exact hdf0
  have l0_2 := lookE hA2 0 (es rfl l0_0)
  have l1_2 := lookE hA2 1 (es rfl l1_0)
  have l2_2 := lookE hA2 2 (es rfl l2_0)
  clear hA2 hsz0 hdf0 l0_0 l1_0 l2_0
  refine then_n (hK1 _ _ ?_)
  clear hK1
  refine wp_seq_k (fun K3 hK3 => ?_)
  refine region_in ?_
  refine W_v rfl rfl (V_mov rfl l0_2) ?_
  refine W_v rfl rfl (V_mov rfl (es rfl l1_2)) ?_
  refine W_call rfl rfl rfl Try.func61 (by kernel_rfl) rfl (args2 (es rfl (et rfl)) (et rfl)) (khd_c (gov := gov) (a := a) (hS.roC h_ov) (hS.roC n_ov) (hS.roC h_rv) (hS.roC hb_ov) (by first | with_reducible assumption | (have q := hG.reg; simpa using q)) (by first | omega | with_reducible assumption)) ?_
  rintro _ w4 (⟨rfl, hz_4, hP4⟩ | ⟨B_4, O_4, C_4, y_4, rfl, hv_4, hy_4, hz_4, hP4⟩)
  · refine ⟨_, rfl, ?_⟩
    have hS4 := hS.join hP4
    replace hS4 : St w NoX [] w4 := hS4
    refine W_v rfl rfl (V_asg rfl (et rfl)) ?_
    refine W_end ?_
    refine gen_Q (fun A5 hA5 => ?_)
    have hsz5 := szq hA5
    have hdf5 : A5.defers = [] := by rw [hA5]; simp only [df_put]; exact hdf2
    have l2_5 := lookE hA5 2 (e3 rfl (es rfl l2_2))
    have l7_5 := lookE hA5 7 (et rfl)
    clear hA5 hsz2 hdf2 l0_2 l1_2 l2_2
    refine then_n (hK3 _ _ ?_)
    clear hK3
    refine wp_seq_k (fun K6 hK6 => ?_)
    refine wp_seq_k (fun K7 hK7 => ?_)
    refine region_in ?_
    refine W_v rfl rfl (V_mov rfl l7_5) ?_
    refine W_v rfl rfl (V_eqNN rfl (et rfl) rfl Try.underlying81) ?_
    refine W_v rfl rfl (V_mov rfl (et rfl)) ?_
    refine W_off rfl (wanted_f rfl rfl (et rfl) (ez rfl) rfl) ?_
    refine W_off rfl (wanted_f rfl rfl (es rfl (et rfl)) (ez rfl) rfl) ?_
    refine W_v rfl rfl (V_pickT rfl (e2 rfl (et rfl)) rfl) ?_
    refine W_v rfl rfl (V_mov rfl (et rfl)) ?_
    refine W_off rfl (wanted_f rfl rfl (et rfl) (ez rfl) rfl) ?_
    refine W_off rfl (wanted_f rfl rfl (es rfl (et rfl)) (ez rfl) rfl) ?_
    refine W_off rfl (wanted_f rfl rfl (e2 rfl (et rfl)) (ez rfl) rfl) ?_
    refine W_off rfl (wanted_f rfl rfl (e3 rfl (et rfl)) (ez rfl) rfl) ?_
    refine W_off rfl (wanted_f rfl rfl (e4 rfl (et rfl)) (ez rfl) rfl) ?_
    refine W_off rfl (wanted_f rfl rfl (e5 rfl (et rfl)) (ez rfl) rfl) ?_
    refine W_off rfl (wanted_f rfl rfl (e6 rfl (et rfl)) (ez rfl) rfl) ?_
    refine W_v rfl rfl (V_pickT rfl (e7 rfl (et rfl)) rfl) ?_
    refine W_end ?_
    refine gen_Q (fun A8 hA8 => ?_)
    have hsz8 := szq hA8
    have hdf8 : A8.defers = [] := by rw [hA8]; simp only [df_put]; exact hdf5
    have l2_8 := lookE hA8 2 (e14 rfl (es rfl l2_5))
    have l7_8 := lookE hA8 7 (e14 rfl (es rfl l7_5))
    have l25_8 := lookE hA8 25 (et rfl)
    clear hA8 hsz5 hdf5 l2_5 l7_5
    refine then_n (hK7 _ _ ?_)
    clear hK7
    refine cond_t l25_8 ?_
    refine wp_seq_k (fun K9 hK9 => ?_)
    refine region_in ?_
    refine W_v rfl rfl (V_asg rfl rfl) ?_
    refine W_end ?_
    refine gen_Q (fun A10 hA10 => ?_)
    have hsz10 := szq hA10
    have hdf10 : A10.defers = [] := by rw [hA10]; simp only [df_put]; exact hdf8
    have l6_10 := lookE hA10 6 (et rfl)
    clear hA10 hsz8 hdf8 l2_8 l7_8 l25_8
    refine then_n (hK9 _ _ ?_)
    clear hK9
    refine wp_ret ?_
    refine then_ret ?_
    refine ret_in (results_1 Try.results54 (rv_tmp l6_10)) hdf10 ?_
    -- leaf n
    exact .inl ⟨rfl, by first | exact .inl (by assumption) | exact .inr (.inl (by omega)) | (rw [ob_at (by assumption)]; exact .inr (.inr (by simp only [ab]; omega))), hS4.fin0⟩
  · refine ⟨_, rfl, ?_⟩
    have hS4 := hS.join hP4
    replace hS4 : St w NoX [] w4 := hS4
    refine W_v rfl rfl (V_asg rfl (et rfl)) ?_
    refine W_end ?_
    refine gen_Q (fun A11 hA11 => ?_)
    have hsz11 := szq hA11
    have hdf11 : A11.defers = [] := by rw [hA11]; simp only [df_put]; exact hdf2
    have l2_11 := lookE hA11 2 (e3 rfl (es rfl l2_2))
    have l7_11 := lookE hA11 7 (et rfl)
    clear hA11 hsz2 hdf2 l0_2 l1_2 l2_2
    refine then_n (hK3 _ _ ?_)
    clear hK3
    refine wp_seq_k (fun K12 hK12 => ?_)
    refine wp_seq_k (fun K13 hK13 => ?_)
    refine region_in ?_
    refine W_v rfl rfl (V_mov rfl l7_11) ?_
    refine W_v rfl rfl (V_eqPN rfl (et rfl) rfl Try.underlying81) ?_
    refine W_v rfl rfl (V_mov rfl (et rfl)) ?_
    refine W_v rfl (wanted_t rfl rfl (et rfl) (ez rfl)) (V_mov rfl (e2 rfl (es rfl l2_11))) ?_
    refine W_v rfl (wanted_t rfl rfl (es rfl (et rfl)) (ez rfl)) (V_lss rfl (et rfl) rfl) ?_
    refine W_v rfl rfl (V_pickF rfl (e2 rfl (et rfl)) (et rfl)) ?_
    refine W_split rfl rfl (V_mov rfl (et rfl)) (fun c14 => ?_) (fun c14 => ?_)
    · skip
      refine W_off rfl (wanted_f rfl rfl (et rfl) (ez rfl) rfl) ?_
      refine W_off rfl (wanted_f rfl rfl (es rfl (et rfl)) (ez rfl) rfl) ?_
      refine W_off rfl (wanted_f rfl rfl (e2 rfl (et rfl)) (ez rfl) rfl) ?_
      refine W_off rfl (wanted_f rfl rfl (e3 rfl (et rfl)) (ez rfl) rfl) ?_
      refine W_off rfl (wanted_f rfl rfl (e4 rfl (et rfl)) (ez rfl) rfl) ?_
      refine W_off rfl (wanted_f rfl rfl (e5 rfl (et rfl)) (ez rfl) rfl) ?_
      refine W_off rfl (wanted_f rfl rfl (e6 rfl (et rfl)) (ez rfl) rfl) ?_
      refine W_v rfl rfl (V_pickT rfl (e7 rfl (et rfl)) rfl) ?_
      refine W_end ?_
      refine gen_Q (fun A15 hA15 => ?_)
      have hsz15 := szq hA15
      have hdf15 : A15.defers = [] := by rw [hA15]; simp only [df_put]; exact hdf11
      have l2_15 := lookE hA15 2 (e14 rfl (es rfl l2_11))
      have l7_15 := lookE hA15 7 (e14 rfl (es rfl l7_11))
      have l25_15 := lookE hA15 25 (et rfl)
      clear hA15 hsz11 hdf11 l2_11 l7_11
      refine then_n (hK13 _ _ ?_)
      clear hK13
      refine cond_t l25_15 ?_
      refine wp_seq_k (fun K16 hK16 => ?_)
      refine region_in ?_
      refine W_v rfl rfl (V_asg rfl rfl) ?_
      refine W_end ?_
      refine gen_Q (fun A17 hA17 => ?_)
      have hsz17 := szq hA17
      have hdf17 : A17.defers = [] := by rw [hA17]; simp only [df_put]; exact hdf15
      have l6_17 := lookE hA17 6 (et rfl)
      clear hA17 hsz15 hdf15 l2_15 l7_15 l25_15
      refine then_n (hK16 _ _ ?_)
      clear hK16
      refine wp_ret ?_
      refine then_ret ?_
      refine ret_in (results_1 Try.results54 (rv_tmp l6_17)) hdf17 ?_
      -- leaf sT
      exact .inl ⟨rfl, by first | exact .inl (by assumption) | exact .inr (.inl (by omega)) | (rw [ob_at (by assumption)]; exact .inr (.inr (by simp only [ab]; omega))), hS4.fin0⟩
    · skip
      refine W_v rfl (wanted_t rfl rfl (et rfl) (ez rfl)) (V_mov rfl (e6 rfl (es rfl l2_11))) ?_
      refine W_v rfl (wanted_t rfl rfl (es rfl (et rfl)) (ez rfl)) (V_mov rfl (e7 rfl (es rfl l7_11))) ?_
      refine W_v rfl (wanted_t rfl rfl (e2 rfl (et rfl)) (ez rfl)) (V_nil rfl (et rfl)) ?_
      refine W_v rfl (wanted_t rfl rfl (e3 rfl (et rfl)) (ez rfl)) (V_fa (off' := O_4 + ((rg rs a - 1).toNat) * 2 + 0) rfl (et rfl) Try.underlying40 rfl (by decide +kernel) rfl) ?_
      have fn18 : Ro w NoX (il .i64 y_4.1.1 y_4.1.2) := nst_ro1 n_ov hy_4
      have bfn18 := SlN.le (sl_SlN (hS4.ro fn18))
      have fn19 : Ro w NoX (il .u64 y_4.2.1 y_4.2.2) := nst_ro2 n_ov hy_4
      have bfn19 := SlN.le (sl_SlN (hS4.ro fn19))
      refine W_r rfl (wanted_t rfl rfl (e4 rfl (et rfl)) (ez rfl)) (VR_ldC (v := y_4.1.1) rfl (et rfl) (SlN.row obC_len (sl_SlN (hS4.ro h_ov)) hv_4 hy_4 rfl 0 _ rfl) Try.underlying23 rfl) ?_
      refine W_v rfl (wanted_t rfl rfl (e5 rfl (et rfl)) (ez rfl)) (V_lenS rfl (et rfl) (sl_SlN fn18.at) Try.underlying23) ?_
      refine W_v rfl (wanted_t rfl rfl (e6 rfl (et rfl)) (ez rfl)) (V_geq rfl (e5 rfl (et rfl)) (et rfl)) ?_
      refine W_v rfl rfl (V_pickF rfl (e7 rfl (et rfl)) (et rfl)) ?_
      refine W_end ?_
      refine gen_Q (fun A20 hA20 => ?_)
      have hsz20 := szq hA20
      have hdf20 : A20.defers = [] := by rw [hA20]; simp only [df_put]; exact hdf11
      have l2_20 := lookE hA20 2 (e14 rfl (es rfl l2_11))
      have l7_20 := lookE hA20 7 (e14 rfl (es rfl l7_11))
      have l25_20 := lookE hA20 25 (et rfl)
      clear hA20 hsz11 hdf11 l2_11 l7_11
      refine then_n (hK13 _ _ ?_)
      clear hK13
      refine cond_dec l25_20 (fun c21 => ?_) (fun c21 => ?_)
      · skip
        refine wp_seq_k (fun K22 hK22 => ?_)
        refine region_in ?_
        refine W_v rfl rfl (V_asg rfl rfl) ?_
        refine W_end ?_
        refine gen_Q (fun A23 hA23 => ?_)
        have hsz23 := szq hA23
        have hdf23 : A23.defers = [] := by rw [hA23]; simp only [df_put]; exact hdf20
        have l6_23 := lookE hA23 6 (et rfl)
        clear hA23 hsz20 hdf20 l2_20 l7_20 l25_20
        refine then_n (hK22 _ _ ?_)
        clear hK22
        refine wp_ret ?_
        refine then_ret ?_
        refine ret_in (results_1 Try.results54 (rv_tmp l6_23)) hdf23 ?_
        -- leaf sFT
        exact .inl ⟨rfl, by first | exact .inl (by assumption) | exact .inr (.inl (by omega)) | (rw [ob_at (by assumption)]; exact .inr (.inr (by simp only [ab]; omega))), hS4.fin0⟩
      · skip
        refine wp_skip ?_
        refine then_n (hK12 _ _ ?_)
        clear hK12
        refine wp_seq_k (fun K24 hK24 => ?_)
        refine region_in ?_
        refine W_v rfl rfl (V_mov rfl l7_20) ?_
        refine W_v rfl rfl (V_nil rfl (et rfl)) ?_
        refine W_v rfl rfl (V_fa (off' := O_4 + ((rg rs a - 1).toNat) * 2 + 0) rfl (et rfl) Try.underlying40 rfl (by decide +kernel) rfl) ?_
        refine W_r rfl rfl (VR_ldC (v := y_4.1.1) rfl (et rfl) (SlN.row obC_len (sl_SlN (hS4.ro h_ov)) hv_4 hy_4 rfl 0 _ rfl) Try.underlying23 rfl) ?_
        refine W_v rfl rfl (V_mov rfl (e3 rfl (es rfl l2_20))) ?_
        have k25 : f.toNat < y_4.1.2.length := by first | omega | (simp only [List.length_cons, List.length_nil]; omega) | (simp only [List.length_set]; omega)
        obtain ⟨y25, hy25⟩ := get_some (xs := y_4.1.2) (k := f.toNat) k25
        obtain ⟨B25, O25, C25, hv25⟩ := (SlN.blk (sl_SlN fn18.at) (by first | omega | (simp only [List.length_cons, List.length_nil]; omega) | (simp only [List.length_set]; omega)))
        refine W_v rfl rfl (V_ixS (off := O25 + f.toNat) 1 (f.toNat) rfl (es rfl (et rfl)) (et rfl) hv25 (by omega) k25 Try.underlying23 (by kernel_rfl) (congrArg _ (Nat.mul_one _))) ?_
        refine W_v rfl rfl (V_asg rfl (et rfl)) ?_
        refine W_end ?_
        refine gen_Q (fun A26 hA26 => ?_)
        have hsz26 := szq hA26
        have hdf26 : A26.defers = [] := by rw [hA26]; simp only [df_put]; exact hdf20
        have l6_26 := lookE hA26 6 (et rfl)
        clear hA26 hsz20 hdf20 l2_20 l7_20 l25_20
        refine then_n (hK24 _ _ ?_)
        clear hK24
        refine wp_ret ?_
        refine ret_in (results_1 Try.results54 (rv_tmp l6_26)) hdf26 ?_
        -- leaf sFF
        have hob := ob_at hy_4
        exact .inr ⟨B25, O25, C25, y_4, y25, rfl, hv25, hy_4, hy25, (by rw [hob]; simp only [ab]; omega), hob, hS4.fin0⟩

set_option maxHeartbeats 4000000 in
theorem krw_c {ov : Value} {O : List Ob} {rv : Value} {rs : List Int} {gov : Nat} {a : Int} {f : Int} {w : World} (h_ov : Ro w NoX (rl 2 obC ov O)) (n_ov : Ro w NoX (nst O)) (h_rv : Ro w NoX (il .i64 rv rs)) (hb_ov : Ro w NoX (bx gov 25 #[ov, rv])) (hrg : ∀ p ∈ rs, 0 ≤ p ∧ p ≤ (O.length : Int)) (ha : 0 ≤ a ∧ a < (rs.length : Int)) :
    Calls Try.prog 55 #[.pointer (some ⟨gov, 0, none⟩), .int .i64 a, .int .i64 f] w fun e w' => (e = .returned (.pointer none) ∧ (rg rs a = 0 ∨ f < 0 ∨ ((ob (O.map ab) rs a).2.length : Int) ≤ f) ∧ St w NoX [] w') ∨ (∃ B Of C y x, e = .returned (.pointer (some ⟨B, Of + f.toNat, none⟩)) ∧ (y.2.1 = .slice (some ⟨B, Of, none⟩) y.2.2.length C) ∧ (O[(rg rs a - 1).toNat]? = some y) ∧ (y.2.2[f.toNat]? = some x) ∧ (¬ (rg rs a = 0 ∨ f < 0 ∨ ((ob (O.map ab) rs a).2.length : Int) ≤ f)) ∧ (ob (O.map ab) rs a = ab y) ∧ St w NoX [] w') := by
  refine calls_in 32 Try.func55 rfl rfl (by simp) (fun A0 hsz0 hdf0 hargs => ?_)
  have l0_0 := hargs 0 (.pointer (some ⟨gov, 0, none⟩)) rfl
  have l1_0 := hargs 1 (.int .i64 a) rfl
  have l2_0 := hargs 2 (.int .i64 f) rfl
  clear hargs; replace hsz0 : SzN A0 32 := ⟨hsz0⟩
  have hS := St.nil w
  have bh_ov := SlN.le (sl_SlN h_ov.at)
  have bh_rv := SlN.le (sl_SlN h_rv.at)
  refine wp_seq_k (fun K1 hK1 => ?_)
  refine region_in ?_
  refine W_v rfl rfl (V_asg rfl rfl) ?_
  refine W_end ?_
  refine gen_Q (fun A2 hA2 => ?_)
  have hsz2 := szq hA2
  have hdf2 : A2.defers = [] := by rw [hA2]; simp only [df_put]; exact hdf0
  have l0_2 := lookE hA2 0 (es rfl l0_0)
  have l1_2 := lookE hA2 1 (es rfl l1_0)
  have l2_2 := lookE hA2 2 (es rfl l2_0)
  clear hA2 hsz0 hdf0 l0_0 l1_0 l2_0
  refine then_n (hK1 _ _ ?_)
  clear hK1
  refine wp_seq_k (fun K3 hK3 => ?_)
  refine region_in ?_
  refine W_v rfl rfl (V_mov rfl l0_2) ?_
  refine W_v rfl rfl (V_mov rfl (es rfl l1_2)) ?_
  refine W_call rfl rfl rfl Try.func61 (by kernel_rfl) rfl (args2 (es rfl (et rfl)) (et rfl)) (khd_c (gov := gov) (a := a) (hS.roC h_ov) (hS.roC n_ov) (hS.roC h_rv) (hS.roC hb_ov) (by first | with_reducible assumption | (have q := hG.reg; simpa using q)) (by first | omega | with_reducible assumption)) ?_
  rintro _ w4 (⟨rfl, hz_4, hP4⟩ | ⟨B_4, O_4, C_4, y_4, rfl, hv_4, hy_4, hz_4, hP4⟩)
  · refine ⟨_, rfl, ?_⟩
    have hS4 := hS.join hP4
    replace hS4 : St w NoX [] w4 := hS4
    refine W_v rfl rfl (V_asg rfl (et rfl)) ?_
    refine W_end ?_
    refine gen_Q (fun A5 hA5 => ?_)
    have hsz5 := szq hA5
    have hdf5 : A5.defers = [] := by rw [hA5]; simp only [df_put]; exact hdf2
    have l2_5 := lookE hA5 2 (e3 rfl (es rfl l2_2))
    have l7_5 := lookE hA5 7 (et rfl)
    clear hA5 hsz2 hdf2 l0_2 l1_2 l2_2
    refine then_n (hK3 _ _ ?_)
    clear hK3
    refine wp_seq_k (fun K6 hK6 => ?_)
    refine wp_seq_k (fun K7 hK7 => ?_)
    refine region_in ?_
    refine W_v rfl rfl (V_mov rfl l7_5) ?_
    refine W_v rfl rfl (V_eqNN rfl (et rfl) rfl Try.underlying81) ?_
    refine W_v rfl rfl (V_mov rfl (et rfl)) ?_
    refine W_off rfl (wanted_f rfl rfl (et rfl) (ez rfl) rfl) ?_
    refine W_off rfl (wanted_f rfl rfl (es rfl (et rfl)) (ez rfl) rfl) ?_
    refine W_v rfl rfl (V_pickT rfl (e2 rfl (et rfl)) rfl) ?_
    refine W_v rfl rfl (V_mov rfl (et rfl)) ?_
    refine W_off rfl (wanted_f rfl rfl (et rfl) (ez rfl) rfl) ?_
    refine W_off rfl (wanted_f rfl rfl (es rfl (et rfl)) (ez rfl) rfl) ?_
    refine W_off rfl (wanted_f rfl rfl (e2 rfl (et rfl)) (ez rfl) rfl) ?_
    refine W_off rfl (wanted_f rfl rfl (e3 rfl (et rfl)) (ez rfl) rfl) ?_
    refine W_off rfl (wanted_f rfl rfl (e4 rfl (et rfl)) (ez rfl) rfl) ?_
    refine W_off rfl (wanted_f rfl rfl (e5 rfl (et rfl)) (ez rfl) rfl) ?_
    refine W_off rfl (wanted_f rfl rfl (e6 rfl (et rfl)) (ez rfl) rfl) ?_
    refine W_v rfl rfl (V_pickT rfl (e7 rfl (et rfl)) rfl) ?_
    refine W_end ?_
    refine gen_Q (fun A8 hA8 => ?_)
    have hsz8 := szq hA8
    have hdf8 : A8.defers = [] := by rw [hA8]; simp only [df_put]; exact hdf5
    have l2_8 := lookE hA8 2 (e14 rfl (es rfl l2_5))
    have l7_8 := lookE hA8 7 (e14 rfl (es rfl l7_5))
    have l25_8 := lookE hA8 25 (et rfl)
    clear hA8 hsz5 hdf5 l2_5 l7_5
    refine then_n (hK7 _ _ ?_)
    clear hK7
    refine cond_t l25_8 ?_
    refine wp_seq_k (fun K9 hK9 => ?_)
    refine region_in ?_
    refine W_v rfl rfl (V_asg rfl rfl) ?_
    refine W_end ?_
    refine gen_Q (fun A10 hA10 => ?_)
    have hsz10 := szq hA10
    have hdf10 : A10.defers = [] := by rw [hA10]; simp only [df_put]; exact hdf8
    have l6_10 := lookE hA10 6 (et rfl)
    clear hA10 hsz8 hdf8 l2_8 l7_8 l25_8
    refine then_n (hK9 _ _ ?_)
    clear hK9
    refine wp_ret ?_
    refine then_ret ?_
    refine ret_in (results_1 Try.results55 (rv_tmp l6_10)) hdf10 ?_
    -- leaf n
    exact .inl ⟨rfl, by first | exact .inl (by assumption) | exact .inr (.inl (by omega)) | (rw [ob_at (by assumption)]; exact .inr (.inr (by simp only [ab]; omega))), hS4.fin0⟩
  · refine ⟨_, rfl, ?_⟩
    have hS4 := hS.join hP4
    replace hS4 : St w NoX [] w4 := hS4
    refine W_v rfl rfl (V_asg rfl (et rfl)) ?_
    refine W_end ?_
    refine gen_Q (fun A11 hA11 => ?_)
    have hsz11 := szq hA11
    have hdf11 : A11.defers = [] := by rw [hA11]; simp only [df_put]; exact hdf2
    have l2_11 := lookE hA11 2 (e3 rfl (es rfl l2_2))
    have l7_11 := lookE hA11 7 (et rfl)
    clear hA11 hsz2 hdf2 l0_2 l1_2 l2_2
    refine then_n (hK3 _ _ ?_)
    clear hK3
    refine wp_seq_k (fun K12 hK12 => ?_)
    refine wp_seq_k (fun K13 hK13 => ?_)
    refine region_in ?_
    refine W_v rfl rfl (V_mov rfl l7_11) ?_
    refine W_v rfl rfl (V_eqPN rfl (et rfl) rfl Try.underlying81) ?_
    refine W_v rfl rfl (V_mov rfl (et rfl)) ?_
    refine W_v rfl (wanted_t rfl rfl (et rfl) (ez rfl)) (V_mov rfl (e2 rfl (es rfl l2_11))) ?_
    refine W_v rfl (wanted_t rfl rfl (es rfl (et rfl)) (ez rfl)) (V_lss rfl (et rfl) rfl) ?_
    refine W_v rfl rfl (V_pickF rfl (e2 rfl (et rfl)) (et rfl)) ?_
    refine W_split rfl rfl (V_mov rfl (et rfl)) (fun c14 => ?_) (fun c14 => ?_)
    · skip
      refine W_off rfl (wanted_f rfl rfl (et rfl) (ez rfl) rfl) ?_
      refine W_off rfl (wanted_f rfl rfl (es rfl (et rfl)) (ez rfl) rfl) ?_
      refine W_off rfl (wanted_f rfl rfl (e2 rfl (et rfl)) (ez rfl) rfl) ?_
      refine W_off rfl (wanted_f rfl rfl (e3 rfl (et rfl)) (ez rfl) rfl) ?_
      refine W_off rfl (wanted_f rfl rfl (e4 rfl (et rfl)) (ez rfl) rfl) ?_
      refine W_off rfl (wanted_f rfl rfl (e5 rfl (et rfl)) (ez rfl) rfl) ?_
      refine W_off rfl (wanted_f rfl rfl (e6 rfl (et rfl)) (ez rfl) rfl) ?_
      refine W_v rfl rfl (V_pickT rfl (e7 rfl (et rfl)) rfl) ?_
      refine W_end ?_
      refine gen_Q (fun A15 hA15 => ?_)
      have hsz15 := szq hA15
      have hdf15 : A15.defers = [] := by rw [hA15]; simp only [df_put]; exact hdf11
      have l2_15 := lookE hA15 2 (e14 rfl (es rfl l2_11))
      have l7_15 := lookE hA15 7 (e14 rfl (es rfl l7_11))
      have l25_15 := lookE hA15 25 (et rfl)
      clear hA15 hsz11 hdf11 l2_11 l7_11
      refine then_n (hK13 _ _ ?_)
      clear hK13
      refine cond_t l25_15 ?_
      refine wp_seq_k (fun K16 hK16 => ?_)
      refine region_in ?_
      refine W_v rfl rfl (V_asg rfl rfl) ?_
      refine W_end ?_
      refine gen_Q (fun A17 hA17 => ?_)
      have hsz17 := szq hA17
      have hdf17 : A17.defers = [] := by rw [hA17]; simp only [df_put]; exact hdf15
      have l6_17 := lookE hA17 6 (et rfl)
      clear hA17 hsz15 hdf15 l2_15 l7_15 l25_15
      refine then_n (hK16 _ _ ?_)
      clear hK16
      refine wp_ret ?_
      refine then_ret ?_
      refine ret_in (results_1 Try.results55 (rv_tmp l6_17)) hdf17 ?_
      -- leaf sT
      exact .inl ⟨rfl, by first | exact .inl (by assumption) | exact .inr (.inl (by omega)) | (rw [ob_at (by assumption)]; exact .inr (.inr (by simp only [ab]; omega))), hS4.fin0⟩
    · skip
      refine W_v rfl (wanted_t rfl rfl (et rfl) (ez rfl)) (V_mov rfl (e6 rfl (es rfl l2_11))) ?_
      refine W_v rfl (wanted_t rfl rfl (es rfl (et rfl)) (ez rfl)) (V_mov rfl (e7 rfl (es rfl l7_11))) ?_
      refine W_v rfl (wanted_t rfl rfl (e2 rfl (et rfl)) (ez rfl)) (V_nil rfl (et rfl)) ?_
      refine W_v rfl (wanted_t rfl rfl (e3 rfl (et rfl)) (ez rfl)) (V_fa (off' := O_4 + ((rg rs a - 1).toNat) * 2 + 1) rfl (et rfl) Try.underlying40 rfl (by decide +kernel) rfl) ?_
      have fn18 : Ro w NoX (il .i64 y_4.1.1 y_4.1.2) := nst_ro1 n_ov hy_4
      have bfn18 := SlN.le (sl_SlN (hS4.ro fn18))
      have fn19 : Ro w NoX (il .u64 y_4.2.1 y_4.2.2) := nst_ro2 n_ov hy_4
      have bfn19 := SlN.le (sl_SlN (hS4.ro fn19))
      refine W_r rfl (wanted_t rfl rfl (e4 rfl (et rfl)) (ez rfl)) (VR_ldC (v := y_4.2.1) rfl (et rfl) (SlN.row obC_len (sl_SlN (hS4.ro h_ov)) hv_4 hy_4 rfl 1 _ rfl) Try.underlying38 rfl) ?_
      refine W_v rfl (wanted_t rfl rfl (e5 rfl (et rfl)) (ez rfl)) (V_lenS rfl (et rfl) (sl_SlN fn19.at) Try.underlying38) ?_
      refine W_v rfl (wanted_t rfl rfl (e6 rfl (et rfl)) (ez rfl)) (V_geq rfl (e5 rfl (et rfl)) (et rfl)) ?_
      refine W_v rfl rfl (V_pickF rfl (e7 rfl (et rfl)) (et rfl)) ?_
      refine W_end ?_
      refine gen_Q (fun A20 hA20 => ?_)
      have hsz20 := szq hA20
      have hdf20 : A20.defers = [] := by rw [hA20]; simp only [df_put]; exact hdf11
      have l2_20 := lookE hA20 2 (e14 rfl (es rfl l2_11))
      have l7_20 := lookE hA20 7 (e14 rfl (es rfl l7_11))
      have l25_20 := lookE hA20 25 (et rfl)
      clear hA20 hsz11 hdf11 l2_11 l7_11
      refine then_n (hK13 _ _ ?_)
      clear hK13
      refine cond_dec l25_20 (fun c21 => ?_) (fun c21 => ?_)
      · skip
        refine wp_seq_k (fun K22 hK22 => ?_)
        refine region_in ?_
        refine W_v rfl rfl (V_asg rfl rfl) ?_
        refine W_end ?_
        refine gen_Q (fun A23 hA23 => ?_)
        have hsz23 := szq hA23
        have hdf23 : A23.defers = [] := by rw [hA23]; simp only [df_put]; exact hdf20
        have l6_23 := lookE hA23 6 (et rfl)
        clear hA23 hsz20 hdf20 l2_20 l7_20 l25_20
        refine then_n (hK22 _ _ ?_)
        clear hK22
        refine wp_ret ?_
        refine then_ret ?_
        refine ret_in (results_1 Try.results55 (rv_tmp l6_23)) hdf23 ?_
        -- leaf sFT
        exact .inl ⟨rfl, by first | exact .inl (by assumption) | exact .inr (.inl (by omega)) | (rw [ob_at (by assumption)]; exact .inr (.inr (by simp only [ab]; omega))), hS4.fin0⟩
      · skip
        refine wp_skip ?_
        refine then_n (hK12 _ _ ?_)
        clear hK12
        refine wp_seq_k (fun K24 hK24 => ?_)
        refine region_in ?_
        refine W_v rfl rfl (V_mov rfl l7_20) ?_
        refine W_v rfl rfl (V_nil rfl (et rfl)) ?_
        refine W_v rfl rfl (V_fa (off' := O_4 + ((rg rs a - 1).toNat) * 2 + 1) rfl (et rfl) Try.underlying40 rfl (by decide +kernel) rfl) ?_
        refine W_r rfl rfl (VR_ldC (v := y_4.2.1) rfl (et rfl) (SlN.row obC_len (sl_SlN (hS4.ro h_ov)) hv_4 hy_4 rfl 1 _ rfl) Try.underlying38 rfl) ?_
        refine W_v rfl rfl (V_mov rfl (e3 rfl (es rfl l2_20))) ?_
        have k25 : f.toNat < y_4.2.2.length := by first | omega | (simp only [List.length_cons, List.length_nil]; omega) | (simp only [List.length_set]; omega)
        obtain ⟨y25, hy25⟩ := get_some (xs := y_4.2.2) (k := f.toNat) k25
        obtain ⟨B25, O25, C25, hv25⟩ := (SlN.blk (sl_SlN fn19.at) (by first | omega | (simp only [List.length_cons, List.length_nil]; omega) | (simp only [List.length_set]; omega)))
        refine W_v rfl rfl (V_ixS (off := O25 + f.toNat) 1 (f.toNat) rfl (es rfl (et rfl)) (et rfl) hv25 (by omega) k25 Try.underlying38 (by kernel_rfl) (congrArg _ (Nat.mul_one _))) ?_
        refine W_v rfl rfl (V_asg rfl (et rfl)) ?_
        refine W_end ?_
        refine gen_Q (fun A26 hA26 => ?_)
        have hsz26 := szq hA26
        have hdf26 : A26.defers = [] := by rw [hA26]; simp only [df_put]; exact hdf20
        have l6_26 := lookE hA26 6 (et rfl)
        clear hA26 hsz20 hdf20 l2_20 l7_20 l25_20
        refine then_n (hK24 _ _ ?_)
        clear hK24
        refine wp_ret ?_
        refine ret_in (results_1 Try.results55 (rv_tmp l6_26)) hdf26 ?_
        -- leaf sFF
        have hob := ob_at hy_4
        exact .inr ⟨B25, O25, C25, y_4, y25, rfl, hv25, hy_4, hy25, (by rw [hob]; simp only [ab]; omega), hob, hS4.fin0⟩

end Go.Proofs.Ytdilbnmaihmgnaa