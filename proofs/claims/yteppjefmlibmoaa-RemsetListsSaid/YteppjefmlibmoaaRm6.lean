import Derived.Test.YteppjefmlibmoaaProg
import Derived.Test.YteppjefmlibmoaaRm5
import Derived.Test.YteppjefmlibmoaaPl8f
import Derived.Test.YteppjefmlibmoaaSep8c
import Derived.Test.YteppjefmlibmoaaSl6
namespace Go.Proofs.Yteppjefmlibmoaa
open Go.RowKit Go.Own Go.Own.R Go.Own.S Go.Own.E


set_option maxHeartbeats 4000000 in
theorem qwt8_c {lv : Value} {l : List Int} {n : Int} {w : World} {Y : Nat → Prop}  (hS : St w Y [io .i64 lv l] w) (hs : l.Pairwise (·< ·)) (hll : l.length ≤ 1000000) :
  Calls Try.prog 68 #[lv, .int .i64 n] w fun e w' => ∃ v, e = .returned (v) ∧ St w Y [io .i64 (v) (wtT l n)] w' := by
 refine calls_in 48 Try.func68 rfl rfl (by simp) (fun A0 Y0 hdf0 hargs => ?_)
 have l0_0 := hargs 0 (lv) rfl
 have l1_0 := hargs 1 (.int .i64 n) rfl
 clear hargs; replace Y0 : SzN A0 48 := ⟨Y0⟩
 obtain ⟨m_lv, hm_lv, hS⟩ := gen1 hS
 replace hS : St w Y [m_lv] w := hS
 have bm_lv := SlN.le (ow_at (hS.chq 0 rfl hm_lv))
 refine wp_seq_k fun K1 H1 => ?_
 refine region_in ?_
 refine W_v rfl rfl (V_asg rfl rfl) ?_
 refine W_end (gen_Q fun A2 E2 => ?_)
 have Y2 := szq E2
 have F2 := ((fsE E2 (cq1 (FS.n hdf0) rfl)).c (lookE E2 0 (es rfl l0_0))).c (lookE E2 1 (es rfl l1_0))
 clear E2 Y0 hdf0 l0_0 l1_0
 refine tk H1 ?_
 refine wp_seq_k fun K3 H3 => ?_
 refine region_in ?_
 refine W_v rfl rfl (V_asg rfl rfl) ?_
 refine W_end (gen_Q fun A4 E4 => ?_)
 have Y4 := szq E4
 have F4 := fsE E4 (ck F2 rfl rfl)
 clear E4 Y2 F2
 refine tk H3 ?_
 refine wp_seq_k fun K5 H5 => ?_
 refine wp_block ?_
 -- loop 2
 refine loopX (fun mz A' w' => SzN A' 48 ∧ A'.defers = [] ∧ (∃ (k : Nat), (mz = l.length - k) ∧ (k ≤ l.length) ∧ (∀ i, i < k → ∀ x, l[i]? = some x → x < n) ∧ (EV A' (.tmp 5) = .int .i64 (k : Int)) ∧ (EV A' (.tmp 0) = EV A4 (.tmp 0)) ∧ (EV A' (.tmp 1) = EV A4 (.tmp 1)) ∧ (St w Y [io .i64 lv l] w'))) (l.length - 0) ⟨Y4, F4.d, 0, rfl, (by omega), (fun i hi => by omega), (((fg0 F4)).trans (by first | rfl | (simp; done) | (congr 1; omega))), rfl, rfl, (by subst hm_lv; exact hS)⟩ ?_
 clear hS hm_lv
 rintro n6 A6 w6 ⟨Y6, hdf6, k, hm6, hk, hz, l5_6, u0_6, u1_6, S6⟩
 have l0_6 := u0_6.trans (fg2 F4)
 have l1_6 := u1_6.trans (fg1 F4)
 obtain ⟨m_lv_6, hm_lv_6, S6⟩ := gen1 S6
 refine wp_seq_k fun K7 H7 => ?_
 refine wp_seq_k fun K8 H8 => ?_
 refine region_in ?_
 refine W_v rfl rfl (V_mov rfl l5_6) ?_
 refine W_v rfl rfl (V_mov rfl (es rfl l0_6)) ?_
 refine W_v rfl rfl (V_lenS rfl (et rfl) (ow_at (S6.chq 0 rfl hm_lv_6)) Try.underlying25) ?_
 refine W_v rfl rfl (V_lss rfl (es2 rfl (et rfl)) (et rfl)) ?_
 refine W_split rfl rfl (V_mov rfl (et rfl)) (fun c9 => ?_) (fun c9 => ?_)
 ·refine W_v rfl (wanted_t rfl rfl (et rfl) (ez rfl)) (V_mov rfl (es5 rfl l0_6)) ?_
  refine W_v rfl (wanted_t rfl rfl (es rfl (et rfl)) (ez rfl)) (V_mov rfl (es6 rfl l5_6)) ?_
  have k10 : k < l.length := by first | omega | (simp only [List.length_cons, List.length_nil]; omega) | (simp only [List.length_set]; omega) | decide
  obtain ⟨y10, hy10⟩ := get_some (xs := l) (k := k) k10
  obtain ⟨B10, O10, C10, hv10⟩ := (SlN.blk (ow_at (S6.chq 0 rfl hm_lv_6)) (by first | omega | (simp only [List.length_cons, List.length_nil]; omega) | (simp only [List.length_set]; omega) | decide))
  refine W_v rfl (wanted_t rfl rfl (es2 rfl (et rfl)) (ez rfl)) (V_ixS (off := O10 + k) 1 (k) rfl (es rfl (et rfl)) (et rfl) hv10 (by omega) k10 Try.underlying25 (by kernel_rfl) (congrArg _ (Nat.mul_one _))) ?_
  refine W_r rfl (wanted_t rfl rfl (es3 rfl (et rfl)) (ez rfl)) (VR_ldC rfl (et rfl) ((ow_at (S6.chq 0 rfl hm_lv_6)).cell hv10 (map_get hy10)) Try.underlying3 rfl) ?_
  refine W_v rfl (wanted_t rfl rfl (es4 rfl (et rfl)) (ez rfl)) (V_mov rfl (es8 rfl (es rfl l1_6))) ?_
  refine W_v rfl (wanted_t rfl rfl (es5 rfl (et rfl)) (ez rfl)) (V_lss rfl (es rfl (et rfl)) (et rfl)) ?_
  refine W_v rfl rfl (V_pickT rfl (es6 rfl (et rfl)) (et rfl)) ?_
  refine W_end (gen_Q fun A11 E11 => ?_)
  have Y11 := szq E11
  have F11 := (((fsE E11 (ck (ck (ck (ck (ck (ck (ck (cq5 (FS.n hdf6) rfl) rfl rfl) rfl rfl) rfl rfl) rfl rfl) rfl rfl) rfl rfl) rfl rfl)).c (lookE E11 0 (es8 rfl (es4 rfl l0_6)))).c (lookE E11 1 (es8 rfl (es4 rfl l1_6)))).c (lookE E11 5 (es8 rfl (es4 rfl l5_6)))
  clear E11 Y6 hdf6 l5_6 l0_6 l1_6
  refine tk H8 ?_
  refine cond_dec (fg3 F11) (fun c12 => ?_) (fun c12 => ?_)
  ·refine wp_skip ?_
   refine tk H7 ?_
   refine wp_block ?_
   refine region_in ?_
   refine W_v rfl rfl (V_mov rfl (fg0 F11)) ?_
   refine W_v rfl rfl (V_add rfl (et rfl) rfl (by omega) (by omega)) ?_
   refine W_v rfl rfl (V_asg rfl (et rfl)) ?_
   refine W_end (gen_Q fun A13 E13 => ?_)
   have Y13 := szq E13
   have F13 := fsE E13 (ck (cq2 (fx0 F11) rfl) rfl rfl)
   clear E13 Y11 F11
   refine inb_n ?_
   refine then_n ⟨l.length - (k + 1), by simp only [hm6]; omega, Y13, F13.d, (k + 1), rfl, (by omega), (lt_stepW hz hy10 (by omega)), (((fg0 F13)).trans (by first | rfl | (simp; done) | (congr 1; omega))), (((fg2 F13)).trans (fg2 F4).symm), (((fg1 F13)).trans (fg1 F4).symm), (by subst hm_lv_6; exact S6)⟩
  refine wp_exit ?_
  refine then_exit ?_
  refine then_exit ?_
  refine inb_hit ?_
  refine tk H5 ?_
  refine wp_seq_k fun K14 H14 => ?_
  refine wp_seq_k fun K15 H15 => ?_
  refine region_in ?_
  refine W_v rfl rfl (V_mov rfl (fg0 F11)) ?_
  refine W_v rfl rfl (V_mov rfl (es rfl (fg2 F11))) ?_
  refine W_v rfl rfl (V_lenS rfl (et rfl) (ow_at (S6.chq 0 rfl hm_lv_6)) Try.underlying25) ?_
  refine W_v rfl rfl (V_lss rfl (es2 rfl (et rfl)) (et rfl)) ?_
  refine W_sure (c' := true) rfl rfl (V_mov rfl (et rfl)) (by first | exact decide_eq_true (by omega) | exact decide_eq_false (by omega)) ?_
  refine W_v rfl (wanted_t rfl rfl (et rfl) (ez rfl)) (V_mov rfl (es5 rfl (fg2 F11))) ?_
  refine W_v rfl (wanted_t rfl rfl (es rfl (et rfl)) (ez rfl)) (V_mov rfl (es6 rfl (fg0 F11))) ?_
  refine W_v rfl (wanted_t rfl rfl (es2 rfl (et rfl)) (ez rfl)) (V_ixS (off := O10 + k) 1 (k) rfl (es rfl (et rfl)) (et rfl) hv10 (by omega) k10 Try.underlying25 (by kernel_rfl) (congrArg _ (Nat.mul_one _))) ?_
  refine W_r rfl (wanted_t rfl rfl (es3 rfl (et rfl)) (ez rfl)) (VR_ldC rfl (et rfl) ((ow_at (S6.chq 0 rfl hm_lv_6)).cell hv10 (map_get hy10)) Try.underlying3 rfl) ?_
  refine W_v rfl (wanted_t rfl rfl (es4 rfl (et rfl)) (ez rfl)) (V_mov rfl (es8 rfl (es rfl (fg1 F11)))) ?_
  refine W_v rfl (wanted_t rfl rfl (es5 rfl (et rfl)) (ez rfl)) (V_eql rfl (es rfl (et rfl)) (et rfl)) ?_
  refine W_v rfl rfl (V_pickT rfl (es6 rfl (et rfl)) (et rfl)) ?_
  refine W_end (gen_Q fun A17 E17 => ?_)
  have Y17 := szq E17
  have F17 := fsE E17 (ck (cq3 (cq8 F11 rfl) rfl) rfl rfl)
  clear E17 Y11 F11
  refine tk H15 ?_
  refine cond_dec (fg0 F17) (fun c18 => ?_) (fun c18 => ?_)
  ·refine wp_seq_k fun K19 H19 => ?_
   refine region_in ?_
   refine W_v rfl rfl (V_mov rfl (fg3 F17)) ?_
   refine W_v rfl rfl (V_asg rfl (et rfl)) ?_
   refine W_end (gen_Q fun A20 E20 => ?_)
   have Y20 := szq E20
   have F20 := fsE E20 (ck (cq1 F17 rfl) rfl rfl)
   clear E20 Y17 F17
   refine tk H19 ?_
   refine wp_ret ?_
   refine then_ret ?_
   refine ret_in (results_1 Try.results68 (rv_tmp (fg0 F20))) F20.d ?_
   exact ⟨_, rfl, (S6.fin1 0 rfl (hm_lv_6.trans (congrArg (io .i64 _) (wt_in hy10 (by omega)).symm)))⟩
  refine wp_skip ?_
  refine tk H14 ?_
  refine wp_seq_k fun K21 H21 => ?_
  refine region_in ?_
  refine W_litS (vs := []) (xs := []) 1 S6 rfl rfl rfl (parts0) rfl Try.underlying25 (by kernel_rfl) (by decide) (by intro v hv; cases hv) (by rfl) (fun g22 w22 c22 hc22 S22 => ?_)
  replace hc22 : c22 = io .i64 (.slice (some ⟨g22, 0, none⟩) 0 0) [] := hc22
  replace S22 : St w Y [c22, m_lv_6] w22 := S22
  refine W_v rfl rfl (V_mov rfl (es rfl (fg3 F17))) ?_
  refine W_v rfl rfl (V_mov rfl (es2 rfl (fg1 F17))) ?_
  have k23 : 0 ≤ k := by omega
  have m23 : k ≤ l.length := by omega
  refine W_v rfl rfl (V_subS 1 (0) (k) rfl (es rfl (et rfl)) (.inl ⟨rfl, rfl⟩) (.inr ⟨_, _, rfl, (et rfl), by omega⟩) Try.underlying25 (by kernel_rfl) (ow_at (S22.chq 1 rfl hm_lv_6)) k23 m23) ?_
  refine W_appS 1 0 S22 rfl hc22 rfl rfl rfl (es3 rfl (et rfl)) (et rfl) Try.underlying25 Try.underlying25 (z := .int .i64 0) (bytes := 8) (by kernel_rfl) rfl (by decide) (SlN_part (ow_at (S22.chq 1 rfl hm_lv_6)) 0 k k23 m23) ones_i (by first | omega | (simp; done) | (simp; omega)) (by first | omega | (simp; done) | (simp; omega)) (fun v24 w24 c24 hc24 S24 => ?_)
  replace hc24 : c24 = io .i64 v24 (l.take k) := hc24.trans (app_eq (by first | (simp; done) | (rw [List.take_of_length_le (l := List.drop _ _) (by rw [List.length_drop]; exact Nat.le_refl _)])))
  replace S24 : St w Y [c24, m_lv_6] w24 := S24
  refine W_v rfl rfl (V_asg rfl (et rfl)) ?_
  refine W_end (gen_Q fun A25 E25 => ?_)
  have Y25 := szq E25
  have F25 := fsE E25 (ck (cq5 F17 rfl) rfl rfl)
  clear E25 Y17 F17
  refine tk H21 ?_
  refine wp_seq_k fun K26 H26 => ?_
  refine region_in ?_
  refine W_v rfl rfl (V_mov rfl (fg0 F25)) ?_
  refine W_v rfl rfl (V_mov rfl (es rfl (fg3 F25))) ?_
  have hll27 : [n].length = 1 := rfl
  refine W_litS (vs := [.int .i64 (n)]) (xs := ([n].map (Value.int .i64))) 1 S24 rfl rfl rfl (parts1 (et rfl)) rfl Try.underlying25 (by kernel_rfl) (by decide) (by intro v hv; simp only [List.mem_cons, List.not_mem_nil, or_false] at hv; rcases hv with rfl <;> rfl) (by rfl) (fun g27 w27 c27 hc27 S27 => ?_)
  replace hc27 : c27 = io .i64 (.slice (some ⟨g27, 0, none⟩) 1 1) [n] := hc27
  replace S27 : St w Y [c27, c24, m_lv_6] w27 := S27
  refine W_appS 1 1 S27 rfl hc24 rfl rfl rfl (es2 rfl (et rfl)) (et rfl) Try.underlying25 Try.underlying25 (z := .int .i64 0) (bytes := 8) (by kernel_rfl) rfl (by decide) (ow_at (S27.chq 0 rfl hc27)) ones_i (by first | omega | (simp; done) | (simp; omega)) (by first | omega | (simp; done) | (simp; omega)) (fun v28 w28 c28 hc28 S28 => ?_)
  replace hc28 : c28 = io .i64 v28 ((l.take k) ++ [n]) := hc28.trans (app_eq (by first | (simp; done) | (rw [List.take_of_length_le (l := List.drop _ _) (by rw [List.length_drop]; exact Nat.le_refl _)])))
  replace S28 : St w Y [c27, c28, m_lv_6] w28 := S28
  refine W_v rfl rfl (V_asg rfl (et rfl)) ?_
  refine W_end (gen_Q fun A29 E29 => ?_)
  have Y29 := szq E29
  have F29 := fsE E29 (ck (cq4 (fx0 F25) rfl) rfl rfl)
  clear E29 Y25 F25
  have S30 : St w Y [c28, m_lv_6] w28 := S28.sel [1, 2] (by decide) rfl
  refine tk H26 ?_
  refine wp_seq_k fun K31 H31 => ?_
  refine region_in ?_
  refine W_v rfl rfl (V_mov rfl (fg0 F29)) ?_
  refine W_v rfl rfl (V_mov rfl (es rfl (fg4 F29))) ?_
  refine W_v rfl rfl (V_mov rfl (es2 rfl (fg2 F29))) ?_
  have k32 : k ≤ l.length := by omega
  have m32 : l.length ≤ l.length := by omega
  refine W_v rfl rfl (V_subS 1 (k) (l.length) rfl (es rfl (et rfl)) (.inr ⟨_, _, rfl, (et rfl), by omega⟩) (.inl ⟨rfl, rfl⟩) Try.underlying25 (by kernel_rfl) (ow_at (S30.chq 1 rfl hm_lv_6)) k32 m32) ?_
  refine W_appS 1 0 S30 rfl hc28 rfl rfl rfl (es3 rfl (et rfl)) (et rfl) Try.underlying25 Try.underlying25 (z := .int .i64 0) (bytes := 8) (by kernel_rfl) rfl (by decide) (SlN_part (ow_at (S30.chq 1 rfl hm_lv_6)) k l.length k32 m32) ones_i (by first | omega | (simp; done) | (simp; omega)) (by first | omega | (simp; done) | (simp; omega)) (fun v33 w33 c33 hc33 S33 => ?_)
  replace hc33 : c33 = io .i64 v33 (((l.take k) ++ [n]) ++ (l.drop k)) := hc33.trans (app_eq (by first | (simp; done) | (rw [List.take_of_length_le (l := List.drop _ _) (by rw [List.length_drop]; exact Nat.le_refl _)])))
  replace S33 : St w Y [c33, m_lv_6] w33 := S33
  refine W_v rfl rfl (V_asg rfl (et rfl)) ?_
  refine W_end (gen_Q fun A34 E34 => ?_)
  have Y34 := szq E34
  have F34 := fsE E34 (ck (cq5 F29 rfl) rfl rfl)
  clear E34 Y29 F29
  refine tk H31 ?_
  refine wp_ret ?_
  refine ret_in (results_1 Try.results68 (rv_tmp (fg0 F34))) F34.d ?_
  exact ⟨_, rfl, (S33.fin1 0 rfl (hc33.trans (congrArg (io .i64 _) (wt_split hs hz hk (fun y hy => by rw [hy10] at hy; cases hy; omega)))))⟩
 refine W_off rfl (wanted_f rfl rfl (et rfl) (ez rfl) rfl) ?_
 refine W_off rfl (wanted_f rfl rfl (es rfl (et rfl)) (ez rfl) rfl) ?_
 refine W_off rfl (wanted_f rfl rfl (es2 rfl (et rfl)) (ez rfl) rfl) ?_
 refine W_off rfl (wanted_f rfl rfl (es3 rfl (et rfl)) (ez rfl) rfl) ?_
 refine W_off rfl (wanted_f rfl rfl (es4 rfl (et rfl)) (ez rfl) rfl) ?_
 refine W_off rfl (wanted_f rfl rfl (es5 rfl (et rfl)) (ez rfl) rfl) ?_
 refine W_v rfl rfl (V_pickF rfl (es6 rfl (et rfl)) rfl) ?_
 refine W_end (gen_Q fun A35 E35 => ?_)
 have Y35 := szq E35
 have F35 := (((fsE E35 (ck (ck (ck (ck (ck (ck (ck (cq5 (FS.n hdf6) rfl) rfl rfl) rfl rfl) rfl rfl) rfl rfl) rfl rfl) rfl rfl) rfl rfl)).c (lookE E35 0 (es8 rfl (es4 rfl l0_6)))).c (lookE E35 1 (es8 rfl (es4 rfl l1_6)))).c (lookE E35 5 (es8 rfl (es4 rfl l5_6)))
 clear E35 Y6 hdf6 l5_6 l0_6 l1_6
 refine tk H8 ?_
 refine cond_f (fg3 F35) ?_
 refine wp_exit ?_
 refine then_exit ?_
 refine then_exit ?_
 refine inb_hit ?_
 refine tk H5 ?_
 refine wp_seq_k fun K36 H36 => ?_
 refine wp_seq_k fun K37 H37 => ?_
 refine region_in ?_
 refine W_v rfl rfl (V_mov rfl (fg0 F35)) ?_
 refine W_v rfl rfl (V_mov rfl (es rfl (fg2 F35))) ?_
 refine W_v rfl rfl (V_lenS rfl (et rfl) (ow_at (S6.chq 0 rfl hm_lv_6)) Try.underlying25) ?_
 refine W_v rfl rfl (V_lss rfl (es2 rfl (et rfl)) (et rfl)) ?_
 refine W_sure (c' := false) rfl rfl (V_mov rfl (et rfl)) (by first | exact decide_eq_true (by omega) | exact decide_eq_false (by omega)) ?_
 refine W_off rfl (wanted_f rfl rfl (et rfl) (ez rfl) rfl) ?_
 refine W_off rfl (wanted_f rfl rfl (es rfl (et rfl)) (ez rfl) rfl) ?_
 refine W_off rfl (wanted_f rfl rfl (es2 rfl (et rfl)) (ez rfl) rfl) ?_
 refine W_off rfl (wanted_f rfl rfl (es3 rfl (et rfl)) (ez rfl) rfl) ?_
 refine W_off rfl (wanted_f rfl rfl (es4 rfl (et rfl)) (ez rfl) rfl) ?_
 refine W_off rfl (wanted_f rfl rfl (es5 rfl (et rfl)) (ez rfl) rfl) ?_
 refine W_v rfl rfl (V_pickF rfl (es6 rfl (et rfl)) rfl) ?_
 refine W_end (gen_Q fun A38 E38 => ?_)
 have Y38 := szq E38
 have F38 := fsE E38 (ck (cq3 (cq8 F35 rfl) rfl) rfl rfl)
 clear E38 Y35 F35
 refine tk H37 ?_
 refine cond_f (fg0 F38) ?_
 refine wp_skip ?_
 refine tk H36 ?_
 refine wp_seq_k fun K39 H39 => ?_
 refine region_in ?_
 refine W_litS (vs := []) (xs := []) 1 S6 rfl rfl rfl (parts0) rfl Try.underlying25 (by kernel_rfl) (by decide) (by intro v hv; cases hv) (by rfl) (fun g40 w40 c40 hc40 S40 => ?_)
 replace hc40 : c40 = io .i64 (.slice (some ⟨g40, 0, none⟩) 0 0) [] := hc40
 replace S40 : St w Y [c40, m_lv_6] w40 := S40
 refine W_v rfl rfl (V_mov rfl (es rfl (fg3 F38))) ?_
 refine W_v rfl rfl (V_mov rfl (es2 rfl (fg1 F38))) ?_
 have k41 : 0 ≤ k := by omega
 have m41 : k ≤ l.length := by omega
 refine W_v rfl rfl (V_subS 1 (0) (k) rfl (es rfl (et rfl)) (.inl ⟨rfl, rfl⟩) (.inr ⟨_, _, rfl, (et rfl), by omega⟩) Try.underlying25 (by kernel_rfl) (ow_at (S40.chq 1 rfl hm_lv_6)) k41 m41) ?_
 refine W_appS 1 0 S40 rfl hc40 rfl rfl rfl (es3 rfl (et rfl)) (et rfl) Try.underlying25 Try.underlying25 (z := .int .i64 0) (bytes := 8) (by kernel_rfl) rfl (by decide) (SlN_part (ow_at (S40.chq 1 rfl hm_lv_6)) 0 k k41 m41) ones_i (by first | omega | (simp; done) | (simp; omega)) (by first | omega | (simp; done) | (simp; omega)) (fun v42 w42 c42 hc42 S42 => ?_)
 replace hc42 : c42 = io .i64 v42 (l.take k) := hc42.trans (app_eq (by first | (simp; done) | (rw [List.take_of_length_le (l := List.drop _ _) (by rw [List.length_drop]; exact Nat.le_refl _)])))
 replace S42 : St w Y [c42, m_lv_6] w42 := S42
 refine W_v rfl rfl (V_asg rfl (et rfl)) ?_
 refine W_end (gen_Q fun A43 E43 => ?_)
 have Y43 := szq E43
 have F43 := fsE E43 (ck (cq5 F38 rfl) rfl rfl)
 clear E43 Y38 F38
 refine tk H39 ?_
 refine wp_seq_k fun K44 H44 => ?_
 refine region_in ?_
 refine W_v rfl rfl (V_mov rfl (fg0 F43)) ?_
 refine W_v rfl rfl (V_mov rfl (es rfl (fg3 F43))) ?_
 have hll45 : [n].length = 1 := rfl
 refine W_litS (vs := [.int .i64 (n)]) (xs := ([n].map (Value.int .i64))) 1 S42 rfl rfl rfl (parts1 (et rfl)) rfl Try.underlying25 (by kernel_rfl) (by decide) (by intro v hv; simp only [List.mem_cons, List.not_mem_nil, or_false] at hv; rcases hv with rfl <;> rfl) (by rfl) (fun g45 w45 c45 hc45 S45 => ?_)
 replace hc45 : c45 = io .i64 (.slice (some ⟨g45, 0, none⟩) 1 1) [n] := hc45
 replace S45 : St w Y [c45, c42, m_lv_6] w45 := S45
 refine W_appS 1 1 S45 rfl hc42 rfl rfl rfl (es2 rfl (et rfl)) (et rfl) Try.underlying25 Try.underlying25 (z := .int .i64 0) (bytes := 8) (by kernel_rfl) rfl (by decide) (ow_at (S45.chq 0 rfl hc45)) ones_i (by first | omega | (simp; done) | (simp; omega)) (by first | omega | (simp; done) | (simp; omega)) (fun v46 w46 c46 hc46 S46 => ?_)
 replace hc46 : c46 = io .i64 v46 ((l.take k) ++ [n]) := hc46.trans (app_eq (by first | (simp; done) | (rw [List.take_of_length_le (l := List.drop _ _) (by rw [List.length_drop]; exact Nat.le_refl _)])))
 replace S46 : St w Y [c45, c46, m_lv_6] w46 := S46
 refine W_v rfl rfl (V_asg rfl (et rfl)) ?_
 refine W_end (gen_Q fun A47 E47 => ?_)
 have Y47 := szq E47
 have F47 := fsE E47 (ck (cq4 (fx0 F43) rfl) rfl rfl)
 clear E47 Y43 F43
 have S48 : St w Y [c46, m_lv_6] w46 := S46.sel [1, 2] (by decide) rfl
 refine tk H44 ?_
 refine wp_seq_k fun K49 H49 => ?_
 refine region_in ?_
 refine W_v rfl rfl (V_mov rfl (fg0 F47)) ?_
 refine W_v rfl rfl (V_mov rfl (es rfl (fg4 F47))) ?_
 refine W_v rfl rfl (V_mov rfl (es2 rfl (fg2 F47))) ?_
 have k50 : k ≤ l.length := by omega
 have m50 : l.length ≤ l.length := by omega
 refine W_v rfl rfl (V_subS 1 (k) (l.length) rfl (es rfl (et rfl)) (.inr ⟨_, _, rfl, (et rfl), by omega⟩) (.inl ⟨rfl, rfl⟩) Try.underlying25 (by kernel_rfl) (ow_at (S48.chq 1 rfl hm_lv_6)) k50 m50) ?_
 refine W_appS 1 0 S48 rfl hc46 rfl rfl rfl (es3 rfl (et rfl)) (et rfl) Try.underlying25 Try.underlying25 (z := .int .i64 0) (bytes := 8) (by kernel_rfl) rfl (by decide) (SlN_part (ow_at (S48.chq 1 rfl hm_lv_6)) k l.length k50 m50) ones_i (by first | omega | (simp; done) | (simp; omega)) (by first | omega | (simp; done) | (simp; omega)) (fun v51 w51 c51 hc51 S51 => ?_)
 replace hc51 : c51 = io .i64 v51 (((l.take k) ++ [n]) ++ (l.drop k)) := hc51.trans (app_eq (by first | (simp; done) | (rw [List.take_of_length_le (l := List.drop _ _) (by rw [List.length_drop]; exact Nat.le_refl _)])))
 replace S51 : St w Y [c51, m_lv_6] w51 := S51
 refine W_v rfl rfl (V_asg rfl (et rfl)) ?_
 refine W_end (gen_Q fun A52 E52 => ?_)
 have Y52 := szq E52
 have F52 := fsE E52 (ck (cq5 F47 rfl) rfl rfl)
 clear E52 Y47 F47
 refine tk H49 ?_
 refine wp_ret ?_
 refine ret_in (results_1 Try.results68 (rv_tmp (fg0 F52))) F52.d ?_
 exact ⟨_, rfl, (S51.fin1 0 rfl (hc51.trans (congrArg (io .i64 _) (wt_split hs hz hk (fun y hy => by have := (List.getElem?_eq_some_iff.1 hy).1; omega)))))⟩

set_option maxHeartbeats 4000000 in
theorem qFr8_c {C : Int} {N : Int} {Z : Int} {K : Int} {Q : Int} {cv : Value} {X : List (List Int)} {nv : Value} {ns : List Int} {i : Int} {w : World} (h_cv : Ro w NoX (rmR cv X)) (h_nv : Ro w NoX (il .i64 nv ns))  :
  Calls Try.prog 36 #[.agg #[.int .i64 C, .int .i64 N, .int .i64 Z, .int .i64 K, .int .i64 Q], .agg #[cv, nv], .int .i64 i] w fun e w' => ∃ v, e = .returned (.tuple #[v, .int .i64 (frE C N Z K Q X ns i)]) ∧ St w NoX [io .i64 (v) (frT C N Z K Q X ns i)] w' := by
 obtain ⟨Xu, hXu, k_cv, n_cv⟩ := rmR_open h_cv
 subst hXu
 have b_cv := SlN.le (sl_SlN k_cv.at)
 refine calls_in 78 Try.func36 rfl rfl (by simp) (fun A0 hsz0 hdf0 hargs => ?_)
 have l0_0 := hargs 0 (.agg #[.int .i64 C, .int .i64 N, .int .i64 Z, .int .i64 K, .int .i64 Q]) rfl
 have l1_0 := hargs 1 (.agg #[cv, nv]) rfl
 have l2_0 := hargs 2 (.int .i64 i) rfl
 clear hargs; replace hsz0 : SzN A0 78 := ⟨hsz0⟩
 have hS := St.nil w
 have bh_nv := SlN.le (sl_SlN h_nv.at)
 have bk_cv := SlN.le (sl_SlN k_cv.at)
 refine wp_seq_k fun K1 H1 => ?_
 refine region_in ?_
 refine W_boxS (zs := #[.int .i64 (C), .int .i64 (N), .int .i64 (Z), .int .i64 (K), .int .i64 (Q)]) hS rfl rfl rfl l0_0 (by rfl) (fun g2 w2 c2 hc2 S2 => ?_)
 replace S2 : St w NoX [c2] w2 := S2
 refine W_boxS (zs := #[cv, nv]) S2 rfl rfl rfl (es rfl l1_0) (by rfl) (fun g3 w3 c3 hc3 S3 => ?_)
 replace S3 : St w NoX [c3, c2] w3 := S3
 refine W_v rfl rfl (V_asg rfl rfl) ?_
 refine W_v rfl rfl (V_asg rfl rfl) ?_
 refine W_end (gen_Q fun A4 E4 => ?_)
 have hsz4 := szq E4
 have F4 := (fsE E4 (cq2 (ck (ck (FS.n hdf0) rfl rfl) rfl rfl) rfl)).c (lookE E4 2 (es4 rfl l2_0))
 clear E4 hsz0 hdf0 l0_0 l1_0 l2_0
 refine tk H1 ?_
 refine wp_seq_k fun K5 H5 => ?_
 refine region_in ?_
 refine W_r rfl rfl (VR_ldA rfl (fg2 F4) (S3.obj 1 rfl hc2) Try.underlying23 rfl (by kernel_rfl)) ?_
 refine W_r rfl rfl (VR_ldA rfl (es rfl (fg1 F4)) (S3.obj 0 rfl hc3) Try.underlying29 rfl (by kernel_rfl)) ?_
 refine W_call rfl rfl rfl Try.func19 (by kernel_rfl) rfl (args2 (es rfl (et rfl)) (et rfl)) (qCk8_c (C := C) (N := N) (Z := Z) (K := K) (Q := Q) (rmR_of (S3.roC k_cv) (S3.roC n_cv)) (S3.roC h_nv) ) ?_
 rintro _ w6 ⟨rfl, hP6⟩
 refine ⟨_, rfl, ?_⟩
 have S6 := S3.join hP6
 replace S6 : St w NoX [c3, c2] w6 := S6
 refine W_v rfl rfl (V_mov rfl (et rfl)) ?_
 refine W_v rfl rfl (V_ext (v := .int .i64 ((rmP C N Z K Q (csF Xu) ns).1)) rfl (et rfl) rfl) ?_
 refine W_v rfl rfl (V_ext (v := .int .i64 ((rmP C N Z K Q (csF Xu) ns).2)) rfl (es rfl (et rfl)) rfl) ?_
 refine W_v rfl rfl (V_asg rfl (es rfl (et rfl))) ?_
 refine W_v rfl rfl (V_asg rfl (es rfl (et rfl))) ?_
 refine W_end (gen_Q fun A7 E7 => ?_)
 have hsz7 := szq E7
 have F7 := fsE E7 (ck (cq7 F4 rfl) rfl rfl)
 clear E7 hsz4 F4
 refine tk H5 ?_
 refine wp_seq_k fun K8 H8 => ?_
 refine wp_seq_k fun K9 H9 => ?_
 refine region_in ?_
 refine W_v rfl rfl (V_mov rfl (fg0 F7)) ?_
 refine W_v rfl rfl (V_eql rfl (et rfl) rfl) ?_
 refine W_split rfl rfl (V_mov rfl (et rfl)) (fun c10 => ?_) (fun c10 => ?_)
 ·refine W_v rfl (wanted_t rfl rfl (et rfl) (ez rfl)) (V_mov rfl (es3 rfl (fg1 F7))) ?_
  refine W_v rfl (wanted_t rfl rfl (es rfl (et rfl)) (ez rfl)) (V_lss rfl (et rfl) rfl) ?_
  refine W_split rfl (wanted_t rfl rfl (es2 rfl (et rfl)) (ez rfl)) (V_mov rfl (et rfl)) (fun c11 => ?_) (fun c11 => ?_)
  ·refine W_off rfl (wanted_f rfl rfl (et rfl) (ez rfl) rfl) ?_
   refine W_off rfl (wanted_f rfl rfl (es rfl (et rfl)) (ez rfl) rfl) ?_
   refine W_off rfl (wanted_f rfl rfl (es2 rfl (et rfl)) (ez rfl) rfl) ?_
   refine W_off rfl (wanted_f rfl rfl (es3 rfl (et rfl)) (ez rfl) rfl) ?_
   refine W_v rfl (wanted_t rfl rfl (es7 rfl (et rfl)) (ez rfl)) (V_pickT rfl (es4 rfl (et rfl)) rfl) ?_
   refine W_v rfl rfl (V_pickT rfl (es8 rfl (et rfl)) (et rfl)) ?_
   refine W_end (gen_Q fun A12 E12 => ?_)
   have hsz12 := szq E12
   have F12 := fsE E12 (ck (cq3 (cq8 F7 rfl) rfl) rfl rfl)
   clear E12 hsz7 F7
   refine tk H9 ?_
   refine cond_t (fg0 F12) ?_
   refine region_in ?_
   refine W_v rfl rfl (V_asg rfl rfl) ?_
   refine W_end (gen_Q fun A13 E13 => ?_)
   have hsz13 := szq E13
   have F13 := fsE E13 (ck (fx1 F12) rfl rfl)
   clear E13 hsz12 F12
   refine tk H8 ?_
   refine wp_seq_k fun K14 H14 => ?_
   refine wp_seq_k fun K15 H15 => ?_
   refine region_in ?_
   refine W_v rfl rfl (V_mov rfl (fg0 F13)) ?_
   refine W_v rfl rfl (V_neq rfl (et rfl) rfl) ?_
   refine W_end (gen_Q fun A16 E16 => ?_)
   have hsz16 := szq E16
   have F16 := fsE E16 (ck (cq1 F13 rfl) rfl rfl)
   clear E16 hsz13 F13
   refine tk H15 ?_
   refine cond_sure (fg0 F16) (by decide) ?_
   refine wp_seq_k fun K17 H17 => ?_
   refine region_in ?_
   refine W_v rfl rfl (V_mov rfl (fg1 F16)) ?_
   refine W_v rfl rfl (V_asg rfl rfl) ?_
   refine W_v rfl rfl (V_asg rfl (es rfl (et rfl))) ?_
   refine W_end (gen_Q fun A18 E18 => ?_)
   have hsz18 := szq E18
   have F18 := fsE E18 (ck (ck (cq1 F16 rfl) rfl rfl) rfl rfl)
   clear E18 hsz16 F16
   have S19 : St w NoX [] w6 := S6.sel [] (by decide) rfl
   refine tk H17 ?_
   refine wp_ret ?_
   refine then_ret ?_
   refine ret_in (results_2 Try.results36 (rv_tmp (fg1 F18)) (rv_tmp (fg0 F18))) F18.d ?_
   obtain ⟨c20, hc20, S20⟩ := S19.pnil (s := 1)
   have he : frE C N Z K Q (csF Xu) ns i = 7 := fr_e2 (by omega) (by omega)
   rw [he]
   exact ⟨_, rfl, (S20.fin1 0 rfl (hc20.trans (by rw [show frT C N Z K Q (csF Xu) ns i = [] by exact frT_bad (by omega)] <;> rfl)))⟩
  refine W_v rfl (wanted_t rfl rfl (et rfl) (ez rfl)) (V_mov rfl (es6 rfl (fg1 F7))) ?_
  refine W_v rfl (wanted_t rfl rfl (es rfl (et rfl)) (ez rfl)) (V_fa (off' := 1) rfl (es7 rfl (fg3 F7)) Try.underlying23 rfl (by decide +kernel) rfl) ?_
  refine W_r rfl (wanted_t rfl rfl (es2 rfl (et rfl)) (ez rfl)) (VR_ldC rfl (et rfl) (cell_box (v := .int .i64 (N)) (S6.obj 1 rfl hc2) rfl) Try.underlying3 rfl) ?_
  refine W_v rfl (wanted_t rfl rfl (es3 rfl (et rfl)) (ez rfl)) (V_geq rfl (es2 rfl (et rfl)) (et rfl)) ?_
  refine W_v rfl (wanted_t rfl rfl (es7 rfl (et rfl)) (ez rfl)) (V_pickF rfl (es4 rfl (et rfl)) (et rfl)) ?_
  refine W_v rfl rfl (V_pickT rfl (es8 rfl (et rfl)) (et rfl)) ?_
  refine W_end (gen_Q fun A21 E21 => ?_)
  have hsz21 := szq E21
  have F21 := fsE E21 (ck (cq3 (cq8 F7 rfl) rfl) rfl rfl)
  clear E21 hsz7 F7
  refine tk H9 ?_
  refine cond_dec (fg0 F21) (fun c22 => ?_) (fun c22 => ?_)
  ·refine region_in ?_
   refine W_v rfl rfl (V_asg rfl rfl) ?_
   refine W_end (gen_Q fun A23 E23 => ?_)
   have hsz23 := szq E23
   have F23 := fsE E23 (ck (fx1 F21) rfl rfl)
   clear E23 hsz21 F21
   refine tk H8 ?_
   refine wp_seq_k fun K24 H24 => ?_
   refine wp_seq_k fun K25 H25 => ?_
   refine region_in ?_
   refine W_v rfl rfl (V_mov rfl (fg0 F23)) ?_
   refine W_v rfl rfl (V_neq rfl (et rfl) rfl) ?_
   refine W_end (gen_Q fun A26 E26 => ?_)
   have hsz26 := szq E26
   have F26 := fsE E26 (ck (cq1 F23 rfl) rfl rfl)
   clear E26 hsz23 F23
   refine tk H25 ?_
   refine cond_sure (fg0 F26) (by decide) ?_
   refine wp_seq_k fun K27 H27 => ?_
   refine region_in ?_
   refine W_v rfl rfl (V_mov rfl (fg1 F26)) ?_
   refine W_v rfl rfl (V_asg rfl rfl) ?_
   refine W_v rfl rfl (V_asg rfl (es rfl (et rfl))) ?_
   refine W_end (gen_Q fun A28 E28 => ?_)
   have hsz28 := szq E28
   have F28 := fsE E28 (ck (ck (cq1 F26 rfl) rfl rfl) rfl rfl)
   clear E28 hsz26 F26
   have S29 : St w NoX [] w6 := S6.sel [] (by decide) rfl
   refine tk H27 ?_
   refine wp_ret ?_
   refine then_ret ?_
   refine ret_in (results_2 Try.results36 (rv_tmp (fg1 F28)) (rv_tmp (fg0 F28))) F28.d ?_
   obtain ⟨c30, hc30, S30⟩ := S29.pnil (s := 1)
   have he : frE C N Z K Q (csF Xu) ns i = 7 := fr_e2 (by omega) (by omega)
   rw [he]
   exact ⟨_, rfl, (S30.fin1 0 rfl (hc30.trans (by rw [show frT C N Z K Q (csF Xu) ns i = [] by exact frT_bad (by omega)] <;> rfl)))⟩
  have he : frE C N Z K Q (csF Xu) ns i = 0 := fr_e0 (by omega) (by omega)
  have hxl := (rm_lens (show (rmP C N Z K Q (csF Xu) ns).2 = 0 by omega)).1
  rw [csF_len] at hxl
  have hl1 := al_len Xu nv ns
  refine wp_skip ?_
  refine tk H8 ?_
  refine wp_seq_k fun K31 H31 => ?_
  refine wp_seq_k fun K32 H32 => ?_
  refine region_in ?_
  refine W_v rfl rfl (V_mov rfl (fg1 F21)) ?_
  refine W_v rfl rfl (V_neq rfl (et rfl) rfl) ?_
  refine W_end (gen_Q fun A33 E33 => ?_)
  have hsz33 := szq E33
  have F33 := fsE E33 (ck (cq1 F21 rfl) rfl rfl)
  clear E33 hsz21 F21
  refine tk H32 ?_
  refine cond_not (fg0 F33) (by first | (simp [c10]; done) | exact decide_eq_true (by omega) | exact decide_eq_false (by omega)) ?_
  refine wp_skip ?_
  refine tk H31 ?_
  refine wp_seq_k fun K34 H34 => ?_
  refine region_in ?_
  refine W_r rfl rfl (VR_ldA rfl (fg5 F33) (S6.obj 1 rfl hc2) Try.underlying23 rfl (by kernel_rfl)) ?_
  refine W_v rfl rfl (V_mov rfl (es rfl (fg3 F33))) ?_
  refine W_call rfl rfl rfl Try.func66 (by kernel_rfl) rfl (args2 (es rfl (et rfl)) (et rfl)) (qsp_c (C := C) (N := N) (Z := Z) (K := K) (Q := Q) (i := i)  ) ?_
  rintro _ w35 ⟨rfl, hP35⟩
  refine ⟨_, rfl, ?_⟩
  have S35 := S6.join hP35
  replace S35 : St w NoX [c3, c2] w35 := S35
  refine W_v rfl rfl (V_mov rfl (et rfl)) ?_
  refine W_v rfl rfl (V_ext (v := .int .i64 ((spA C N Z K Q i))) rfl (et rfl) rfl) ?_
  refine W_v rfl rfl (V_ext (v := .int .i64 ((spB C N Z K Q i))) rfl (es rfl (et rfl)) rfl) ?_
  refine W_v rfl rfl (V_ext (v := .int .i64 ((spE C N Z K Q i))) rfl (es2 rfl (et rfl)) rfl) ?_
  refine W_v rfl rfl (V_asg rfl (es2 rfl (et rfl))) ?_
  refine W_v rfl rfl (V_asg rfl (es2 rfl (et rfl))) ?_
  refine W_v rfl rfl (V_asg rfl (es2 rfl (et rfl))) ?_
  refine W_end (gen_Q fun A36 E36 => ?_)
  have hsz36 := szq E36
  have F36 := fsE E36 (cq1 (ck (ck (cq7 F33 rfl) rfl rfl) rfl rfl) rfl)
  clear E36 hsz33 F33
  have S37 : St w NoX [c3] w35 := S35.sel [0] (by decide) rfl
  refine tk H34 ?_
  refine wp_seq_k fun K38 H38 => ?_
  refine region_in ?_
  refine W_v rfl rfl (V_asg rfl rfl) ?_
  refine W_end (gen_Q fun A39 E39 => ?_)
  have hsz39 := szq E39
  have F39 := fsE E39 (ck F36 rfl rfl)
  clear E39 hsz36 F36
  refine tk H38 ?_
  refine wp_seq_k fun K40 H40 => ?_
  refine region_in ?_
  refine W_r rfl rfl (VR_ldA rfl (fg7 F39) (S37.obj 0 rfl hc3) Try.underlying29 rfl (by kernel_rfl)) ?_
  refine W_call rfl rfl rfl Try.func57 (by kernel_rfl) rfl (args1 (et rfl)) (qall8_c (S37.roC k_cv) (S37.roC n_cv) (S37.roC h_nv) (by first | with_reducible assumption | omega)) ?_
  rintro _ w41 ⟨v_41, rfl, hP41⟩
  refine ⟨_, rfl, ?_⟩
  obtain ⟨c_41, hc_41, hP41⟩ := gen1 hP41
  have S41 := S37.join hP41
  replace S41 : St w NoX [c_41, c3] w41 := S41
  refine W_v rfl rfl (V_asg rfl (et rfl)) ?_
  refine W_end (gen_Q fun A42 E42 => ?_)
  have hsz42 := szq E42
  have F42 := fsE E42 (ck (cq2 F39 rfl) rfl rfl)
  clear E42 hsz39 F39
  have S43 : St w NoX [c_41] w41 := S41.sel [0] (by decide) rfl
  refine tk H40 ?_
  refine wp_seq_k fun K44 H44 => ?_
  refine wp_seq_k fun K45 H45 => ?_
  refine region_in ?_
  refine W_v rfl rfl (V_asg rfl rfl) ?_
  refine W_end (gen_Q fun A46 E46 => ?_)
  have hsz46 := szq E46
  have F46 := fsE E46 (ck F42 rfl rfl)
  clear E46 hsz42 F42
  refine tk H45 ?_
  refine wp_block ?_
  obtain ⟨c47, hc47, S47⟩ := S43.pnil (s := 1)
  -- loop 10
  refine loopX (fun mz A' w' => SzN A' 78 ∧ A'.defers = [] ∧ (∃ (k : Nat) (bv : Value), (mz = (Xu ++ [(nv, ns)]).length - k) ∧ (k ≤ (Xu ++ [(nv, ns)]).length) ∧ (EV A' (.tmp 15) = .int .i64 (k : Int)) ∧ (EV A' (.tmp 13) = bv) ∧ (EV A' (.tmp 10) = EV A46 (.tmp 10)) ∧ (EV A' (.tmp 11) = EV A46 (.tmp 11)) ∧ (EV A' (.tmp 14) = EV A46 (.tmp 14)) ∧ (St w NoX [io .i64 bv (tgK (frD C N Z K Q ((csF Xu ++ [ns]).take k) i) 1600), ro 1 fstC v_41 (Xu ++ [(nv, ns)])] w'))) ((Xu ++ [(nv, ns)]).length - 0) ⟨hsz46, F46.d, 0, (.slice none 0 0), rfl, (by omega), (((fg0 F46)).trans (by first | rfl | (simp; done) | (congr 1; omega))), (((fg2 F46)).trans (by first | rfl | (simp; done) | (congr 1; omega))), rfl, rfl, rfl, (by have q0 : c47 = io .i64 (.slice none 0 0) (tgK (frD C N Z K Q ((csF Xu ++ [ns]).take 0) i) 1600) := hc47.trans ((by rw [tg0] <;> rfl)); have q1 := hc_41; subst q0 q1; exact S47)⟩ ?_
  clear S47 hc47 hc_41
  rintro n48 A48 w48 ⟨hsz48, hdf48, k, bv, hm48, hk, l15_48, l13_48, u10_48, u11_48, u14_48, S48⟩
  have l10_48 := u10_48.trans (fg4 F46)
  have l11_48 := u11_48.trans (fg3 F46)
  have l14_48 := u14_48.trans (fg1 F46)
  obtain ⟨c47_48, c_48, hc47_48, hc_48, S48⟩ := gen2 S48
  refine wp_seq_k fun K49 H49 => ?_
  refine wp_seq_k fun K50 H50 => ?_
  refine region_in ?_
  refine W_v rfl rfl (V_mov rfl l15_48) ?_
  refine W_v rfl rfl (V_mov rfl (es rfl l14_48)) ?_
  refine W_v rfl rfl (V_lenS rfl (et rfl) (ow_at (S48.chq 1 rfl hc_48)) Try.underlying24) ?_
  refine W_v rfl rfl (V_lss rfl (es2 rfl (et rfl)) (et rfl)) ?_
  refine W_end (gen_Q fun A51 E51 => ?_)
  have hsz51 := szq E51
  have F51 := (((((fsE E51 (ck (cq3 (FS.n hdf48) rfl) rfl rfl)).c (lookE E51 10 (es4 rfl l10_48))).c (lookE E51 11 (es4 rfl l11_48))).c (lookE E51 13 (es4 rfl l13_48))).c (lookE E51 14 (es4 rfl l14_48))).c (lookE E51 15 (es4 rfl l15_48))
  clear E51 hsz48 hdf48 l15_48 l13_48 l10_48 l11_48 l14_48
  refine tk H50 ?_
  refine cond_dec (fg5 F51) (fun c52 => ?_) (fun c52 => ?_)
  ·refine wp_skip ?_
   refine tk H49 ?_
   refine wp_seq_k fun K53 H53 => ?_
   refine wp_block ?_
   refine wp_seq_k fun K54 H54 => ?_
   refine region_in ?_
   refine W_v rfl rfl (V_mov rfl (fg1 F51)) ?_
   refine W_v rfl rfl (V_mov rfl (es rfl (fg0 F51))) ?_
   have k55 : k < (Xu ++ [(nv, ns)]).length := by first | omega | (simp only [List.length_cons, List.length_nil]; omega) | (simp only [List.length_set]; omega) | decide
   obtain ⟨y55, hy55⟩ := get_some (xs := (Xu ++ [(nv, ns)])) (k := k) k55
   have ha55 := al_get hy55
   obtain ⟨B55, O55, C55, hv55⟩ := (SlN.blk (ow_at (S48.chq 1 rfl hc_48)) (by first | omega | (simp only [List.length_cons, List.length_nil]; omega) | (simp only [List.length_set]; omega) | decide))
   refine W_v rfl rfl (V_ixS (off := O55 + k * 1) 1 (k) rfl (es rfl (et rfl)) (et rfl) hv55 (by omega) k55 Try.underlying24 (by kernel_rfl) rfl) ?_
   have fn56 : Ro w NoX (il .i64 y55.1 y55.2) := nsi_ro1 (nsi_app n_cv (nsi_one h_nv)) hy55
   have bfn56 := SlN.le (sl_SlN (S48.ro fn56))
   refine W_r rfl rfl (VR_ldR (ys := fstC y55) rfl (et rfl) (SlN.row fstC_len (ow_at (S48.chq 1 rfl hc_48)) hv55 hy55 rfl) Try.underlying27 rfl (by kernel_rfl)) ?_
   refine W_v rfl rfl (V_mov rfl (es4 rfl (fg4 F51))) ?_
   refine W_v rfl rfl (V_mov rfl (es5 rfl (fg3 F51))) ?_
   refine W_call rfl rfl rfl Try.func67 (by kernel_rfl) rfl (args3 (es2 rfl (et rfl)) (es rfl (et rfl)) (et rfl)) (qRange_c (f := (spA C N Z K Q i)) (t := (spB C N Z K Q i)) (S48.roC fn56) ) ?_
   rintro _ w57 ⟨v_57, rfl, hP57⟩
   refine ⟨_, rfl, ?_⟩
   obtain ⟨c_57, hc_57, hP57⟩ := gen1 hP57
   have S57 := S48.join hP57
   replace S57 : St w NoX [c_57, c47_48, c_48] w57 := S57
   refine W_v rfl rfl (V_mov rfl (et rfl)) ?_
   refine W_v rfl rfl (V_ext (v := v_57) rfl (et rfl) rfl) ?_
   refine W_v rfl rfl (V_ext (v := .int .i64 ((ckS y55.2).2)) rfl (es rfl (et rfl)) rfl) ?_
   refine W_v rfl rfl (V_asg rfl (es rfl (et rfl))) ?_
   refine W_v rfl rfl (V_asg rfl (es rfl (et rfl))) ?_
   refine W_end (gen_Q fun A58 E58 => ?_)
   have hsz58 := szq E58
   have F58 := fsE E58 (cq1 (ck (cq2 (cq8 F51 rfl) rfl) rfl rfl) rfl)
   clear E58 hsz51 F51
   refine tk H54 ?_
   refine wp_seq_k fun K59 H59 => ?_
   refine region_in ?_
   refine W_v rfl rfl (V_asg rfl rfl) ?_
   refine W_end (gen_Q fun A60 E60 => ?_)
   have hsz60 := szq E60
   have F60 := fsE E60 (ck F58 rfl rfl)
   clear E60 hsz58 F58
   refine tk H59 ?_
   refine wp_block ?_
   -- loop 14
   have hrl55 := rgT_len y55.2 (spA C N Z K Q i) (spB C N Z K Q i)
   refine loopX (fun mz A' w' => SzN A' 78 ∧ A'.defers = [] ∧ (∃ (j : Nat) (bw : Value), (mz = (rgT y55.2 (spA C N Z K Q i) (spB C N Z K Q i)).length - j) ∧ (j ≤ (rgT y55.2 (spA C N Z K Q i) (spB C N Z K Q i)).length) ∧ (EV A' (.tmp 18) = .int .i64 (j : Int)) ∧ (EV A' (.tmp 13) = bw) ∧ (EV A' (.tmp 10) = EV A60 (.tmp 10)) ∧ (EV A' (.tmp 11) = EV A60 (.tmp 11)) ∧ (EV A' (.tmp 14) = EV A60 (.tmp 14)) ∧ (EV A' (.tmp 15) = EV A60 (.tmp 15)) ∧ (EV A' (.tmp 16) = EV A60 (.tmp 16)) ∧ (St w NoX [io .i64 v_57 (rgT y55.2 (spA C N Z K Q i) (spB C N Z K Q i)), io .i64 bw (tgK (frD C N Z K Q ((csF Xu ++ [ns]).take k) i ++ (rgT y55.2 (spA C N Z K Q i) (spB C N Z K Q i)).take j) 1600), ro 1 fstC v_41 (Xu ++ [(nv, ns)])] w'))) ((rgT y55.2 (spA C N Z K Q i) (spB C N Z K Q i)).length - 0) ⟨hsz60, F60.d, 0, bv, rfl, (by omega), (((fg0 F60)).trans (by first | rfl | (simp; done) | (congr 1; omega))), (((fg4 F60)).trans (by first | rfl | (simp; done) | (congr 1; omega))), rfl, rfl, rfl, rfl, rfl, (by have q0 := hc_57; have q1 : c47_48 = io .i64 bv (tgK (frD C N Z K Q ((csF Xu ++ [ns]).take k) i ++ (rgT y55.2 (spA C N Z K Q i) (spB C N Z K Q i)).take 0) 1600) := hc47_48.trans ((congrArg (io .i64 _) (by simp))); have q2 := hc_48; subst q0 q1 q2; exact S57)⟩ ?_
   clear S57 hc_57 hc47_48 hc_48
   rintro n61 A61 w61 ⟨hsz61, hdf61, j, bw, hm61, hj, l18_61, l13_61, u10_61, u11_61, u14_61, u15_61, u16_61, S61⟩
   have l10_61 := u10_61.trans (fg6 F60)
   have l11_61 := u11_61.trans (fg5 F60)
   have l14_61 := u14_61.trans (fg3 F60)
   have l15_61 := u15_61.trans (fg2 F60)
   have l16_61 := u16_61.trans (fg1 F60)
   obtain ⟨c_61, c47_61, c_61b, hc_61, hc47_61, hc_61b, S61⟩ := gen3 S61
   refine wp_seq_k fun K62 H62 => ?_
   refine wp_seq_k fun K63 H63 => ?_
   refine region_in ?_
   refine W_v rfl rfl (V_mov rfl l18_61) ?_
   refine W_v rfl rfl (V_mov rfl (es rfl l16_61)) ?_
   refine W_v rfl rfl (V_lenS rfl (et rfl) (ow_at (S61.chq 0 rfl hc_61)) Try.underlying25) ?_
   refine W_v rfl rfl (V_lss rfl (es2 rfl (et rfl)) (et rfl)) ?_
   refine W_end (gen_Q fun A64 E64 => ?_)
   have hsz64 := szq E64
   have F64 := (((((((fsE E64 (ck (cq3 (FS.n hdf61) rfl) rfl rfl)).c (lookE E64 10 (es4 rfl l10_61))).c (lookE E64 11 (es4 rfl l11_61))).c (lookE E64 13 (es4 rfl l13_61))).c (lookE E64 14 (es4 rfl l14_61))).c (lookE E64 15 (es4 rfl l15_61))).c (lookE E64 16 (es4 rfl l16_61))).c (lookE E64 18 (es4 rfl l18_61))
   clear E64 hsz61 hdf61 l18_61 l13_61 l10_61 l11_61 l14_61 l15_61 l16_61
   refine tk H63 ?_
   refine cond_dec (fg7 F64) (fun c65 => ?_) (fun c65 => ?_)
   ·refine wp_skip ?_
    refine tk H62 ?_
    refine wp_seq_k fun K66 H66 => ?_
    refine wp_block ?_
    refine region_in ?_
    refine W_v rfl rfl (V_mov rfl (fg4 F64)) ?_
    refine W_v rfl rfl (V_mov rfl (es rfl (fg1 F64))) ?_
    refine W_v rfl rfl (V_mov rfl (es2 rfl (fg0 F64))) ?_
    have k67 : j < (rgT y55.2 (spA C N Z K Q i) (spB C N Z K Q i)).length := by first | omega | (simp only [List.length_cons, List.length_nil]; omega) | (simp only [List.length_set]; omega) | decide
    obtain ⟨y67, hy67⟩ := get_some (xs := (rgT y55.2 (spA C N Z K Q i) (spB C N Z K Q i))) (k := j) k67
    have htl67 := tgK_len (frD C N Z K Q ((csF Xu ++ [ns]).take k) i ++ (rgT y55.2 (spA C N Z K Q i) (spB C N Z K Q i)).take j) 1600
    obtain ⟨B67, O67, C67, hv67⟩ := (SlN.blk (ow_at (S61.chq 0 rfl hc_61)) (by first | omega | (simp only [List.length_cons, List.length_nil]; omega) | (simp only [List.length_set]; omega) | decide))
    refine W_v rfl rfl (V_ixS (off := O67 + j) 1 (j) rfl (es rfl (et rfl)) (et rfl) hv67 (by omega) k67 Try.underlying25 (by kernel_rfl) (congrArg _ (Nat.mul_one _))) ?_
    refine W_r rfl rfl (VR_ldC rfl (et rfl) ((ow_at (S61.chq 0 rfl hc_61)).cell hv67 (map_get hy67)) Try.underlying3 rfl) ?_
    have S68 := S61.sel [1, 0, 2] (by decide) (l' := [c47_61, c_61, c_61b]) rfl
    replace S68 : St w NoX [c47_61, c_61, c_61b] w61 := S68
    obtain ⟨Y69, hP69, hR69, hF69, hB69⟩ := St.call (pre := [c47_61]) (fr := [c_61, c_61b]) S68
    rw [hc47_61] at hP69
    refine W_call rfl rfl rfl Try.func68 (by kernel_rfl) rfl (args2 (es4 rfl (et rfl)) (et rfl)) (qwt8_c (n := y67)  hP69 (by first | with_reducible assumption | exact tgK_asc _ _) (by first | with_reducible assumption | omega)) ?_
    rintro _ w70 ⟨v_70, rfl, hP70⟩
    refine ⟨_, rfl, ?_⟩
    obtain ⟨c_70, hc_70, hP70⟩ := gen1 hP70
    have S70 := hB69 _ _ hP70
    replace S70 : St w NoX [c_70, c_61, c_61b] w70 := S70
    refine W_v rfl rfl (V_asg rfl (et rfl)) ?_
    refine W_end (gen_Q fun A71 E71 => ?_)
    have hsz71 := szq E71
    have F71 := fsE E71 (ck (cq6 (fx4 F64) rfl) rfl rfl)
    clear E71 hsz64 F64
    refine inb_n ?_
    refine tk H66 ?_
    refine region_in ?_
    refine W_v rfl rfl (V_mov rfl (fg1 F71)) ?_
    refine W_v rfl rfl (V_add rfl (et rfl) rfl (by omega) (by omega)) ?_
    refine W_v rfl rfl (V_asg rfl (et rfl)) ?_
    refine W_end (gen_Q fun A72 E72 => ?_)
    have hsz72 := szq E72
    have F72 := fsE E72 (ck (cq2 (fx1 F71) rfl) rfl rfl)
    clear E72 hsz71 F71
    have S73 : St w NoX [c_61, c_70, c_61b] w70 := S70.sel [1, 0, 2] (by decide) rfl
    refine then_n ⟨(rgT y55.2 (spA C N Z K Q i) (spB C N Z K Q i)).length - (j + 1), by simp only [hm61]; omega, hsz72, F72.d, (j + 1), v_70, rfl, (by omega), (((fg0 F72)).trans (by first | rfl | (simp; done) | (congr 1; omega))), (((fg1 F72)).trans (by first | rfl | (simp; done) | (congr 1; omega))), (((fg6 F72)).trans (fg6 F60).symm), (((fg5 F72)).trans (fg5 F60).symm), (((fg4 F72)).trans (fg3 F60).symm), (((fg3 F72)).trans (fg2 F60).symm), (((fg2 F72)).trans (fg1 F60).symm), (by have q0 := hc_61; have q1 : c_70 = io .i64 v_70 (tgK (frD C N Z K Q ((csF Xu ++ [ns]).take k) i ++ (rgT y55.2 (spA C N Z K Q i) (spB C N Z K Q i)).take (j + 1)) 1600) := hc_70.trans ((congrArg (io .i64 _) (by rw [wt_tg (rgT_rng _ (List.mem_of_getElem? hy67)), List.append_assoc, tk_snoc hy67]))); have q2 := hc_61b; subst q0 q1 q2; exact S73)⟩
   refine wp_exit ?_
   refine then_exit ?_
   refine then_exit ?_
   refine inb_hit ?_
   refine inb_n ?_
   refine tk H53 ?_
   refine region_in ?_
   refine W_v rfl rfl (V_mov rfl (fg2 F64)) ?_
   refine W_v rfl rfl (V_add rfl (et rfl) rfl (by omega) (by omega)) ?_
   refine W_v rfl rfl (V_asg rfl (et rfl)) ?_
   refine W_end (gen_Q fun A74 E74 => ?_)
   have hsz74 := szq E74
   have F74 := fsE E74 (ck (cq2 (fx2 F64) rfl) rfl rfl)
   clear E74 hsz64 F64
   have S75 : St w NoX [c47_61, c_61b] w61 := S61.sel [1, 2] (by decide) rfl
   refine then_n ⟨(Xu ++ [(nv, ns)]).length - (k + 1), by simp only [hm48]; omega, hsz74, F74.d, (k + 1), bw, rfl, (by omega), (((fg0 F74)).trans (by first | rfl | (simp; done) | (congr 1; omega))), (((fg4 F74)).trans (by first | rfl | (simp; done) | (congr 1; omega))), (((fg6 F74)).trans (fg4 F46).symm), (((fg5 F74)).trans (fg3 F46).symm), (((fg3 F74)).trans (fg1 F46).symm), (by have q0 : c47_61 = io .i64 bw (tgK (frD C N Z K Q ((csF Xu ++ [ns]).take (k + 1)) i) 1600) := hc47_61.trans ((congrArg (io .i64 _) (by rw [← frD_step ha55, List.take_of_length_le (l := (rgT y55.2 (spA C N Z K Q i) (spB C N Z K Q i))) (by omega)]))); have q1 := hc_61b; subst q0 q1; exact S75)⟩
  refine wp_exit ?_
  refine then_exit ?_
  refine then_exit ?_
  refine inb_hit ?_
  refine tk H44 ?_
  refine wp_seq_k fun K76 H76 => ?_
  refine region_in ?_
  refine W_v rfl rfl (V_mov rfl (fg2 F51)) ?_
  refine W_v rfl rfl (V_asg rfl (et rfl)) ?_
  refine W_v rfl rfl (V_asg rfl rfl) ?_
  refine W_end (gen_Q fun A77 E77 => ?_)
  have hsz77 := szq E77
  have F77 := fsE E77 (ck (ck (cq1 F51 rfl) rfl rfl) rfl rfl)
  clear E77 hsz51 F51
  have S78 : St w NoX [c47_48] w48 := S48.sel [0] (by decide) rfl
  refine tk H76 ?_
  refine wp_ret ?_
  refine ret_in (results_2 Try.results36 (rv_tmp (fg1 F77)) (rv_tmp (fg0 F77))) F77.d ?_
  rw [he]
  exact ⟨_, rfl, (S78.fin1 0 rfl (hc47_48.trans (congrArg (io .i64 _) (by rw [frT_ok he, List.take_of_length_le (by simp only [List.length_append, csF_len, List.length_singleton]; omega)]))))⟩
 refine W_off rfl (wanted_f rfl rfl (et rfl) (ez rfl) rfl) ?_
 refine W_off rfl (wanted_f rfl rfl (es rfl (et rfl)) (ez rfl) rfl) ?_
 refine W_off rfl (wanted_f rfl rfl (es2 rfl (et rfl)) (ez rfl) rfl) ?_
 refine W_off rfl (wanted_u rfl rfl (et rfl) (ez rfl)) ?_
 refine W_off rfl (wanted_u rfl rfl (es rfl (et rfl)) (ez rfl)) ?_
 refine W_off rfl (wanted_u rfl rfl (es2 rfl (et rfl)) (ez rfl)) ?_
 refine W_off rfl (wanted_u rfl rfl (es3 rfl (et rfl)) (ez rfl)) ?_
 refine W_off rfl (wanted_f rfl rfl (es7 rfl (et rfl)) (ez rfl) rfl) ?_
 refine W_v rfl rfl (V_pickF rfl (es8 rfl (et rfl)) rfl) ?_
 refine W_end (gen_Q fun A79 E79 => ?_)
 have hsz79 := szq E79
 have F79 := fsE E79 (ck (cq3 (cq8 F7 rfl) rfl) rfl rfl)
 clear E79 hsz7 F7
 refine tk H9 ?_
 refine cond_f (fg0 F79) ?_
 refine wp_skip ?_
 refine tk H8 ?_
 refine wp_seq_k fun K80 H80 => ?_
 refine wp_seq_k fun K81 H81 => ?_
 refine region_in ?_
 refine W_v rfl rfl (V_mov rfl (fg1 F79)) ?_
 refine W_v rfl rfl (V_neq rfl (et rfl) rfl) ?_
 refine W_end (gen_Q fun A82 E82 => ?_)
 have hsz82 := szq E82
 have F82 := fsE E82 (ck (cq1 F79 rfl) rfl rfl)
 clear E82 hsz79 F79
 refine tk H81 ?_
 refine cond_sure (fg0 F82) (by first | (simp [c10]; done) | exact decide_eq_true (by omega) | exact decide_eq_false (by omega)) ?_
 refine wp_seq_k fun K83 H83 => ?_
 refine region_in ?_
 refine W_v rfl rfl (V_mov rfl (fg2 F82)) ?_
 refine W_v rfl rfl (V_asg rfl rfl) ?_
 refine W_v rfl rfl (V_asg rfl (es rfl (et rfl))) ?_
 refine W_end (gen_Q fun A84 E84 => ?_)
 have hsz84 := szq E84
 have F84 := fsE E84 (ck (ck (cq1 F82 rfl) rfl rfl) rfl rfl)
 clear E84 hsz82 F82
 have S85 : St w NoX [] w6 := S6.sel [] (by decide) rfl
 refine tk H83 ?_
 refine wp_ret ?_
 refine then_ret ?_
 refine ret_in (results_2 Try.results36 (rv_tmp (fg1 F84)) (rv_tmp (fg0 F84))) F84.d ?_
 obtain ⟨c86, hc86, S86⟩ := S85.pnil (s := 1)
 have he : frE C N Z K Q (csF Xu) ns i = (rmP C N Z K Q (csF Xu) ns).2 := fr_e1 (by omega)
 rw [he]
 exact ⟨_, rfl, (S86.fin1 0 rfl (hc86.trans (by rw [show frT C N Z K Q (csF Xu) ns i = [] by exact frT_bad (by omega)] <;> rfl)))⟩

set_option maxHeartbeats 4000000 in
theorem ksg8_c {C : Int} {N : Int} {Z : Int} {K : Int} {Q : Int} {cv : Value} {X : List (List Int)} {nv : Value} {ns : List Int} {i : Int} {w : World} (h_cv : Ro w NoX (rmR cv X)) (h_nv : Ro w NoX (il .i64 nv ns))  :
  Calls Try.prog 45 #[.agg #[.int .i64 C, .int .i64 N, .int .i64 Z, .int .i64 K, .int .i64 Q], .agg #[cv, nv], .int .i64 i] w fun e w' => e = .returned (.tuple #[.int .i64 (sgA C N Z K Q X ns i), .int .i64 (sgB C N Z K Q X ns i), .int .i64 (frE C N Z K Q X ns i)]) ∧ St w NoX [] w' := by
 refine calls_in 34 Try.func45 rfl rfl (by simp) (fun A0 Y0 hdf0 hargs => ?_)
 have l0_0 := hargs 0 (.agg #[.int .i64 C, .int .i64 N, .int .i64 Z, .int .i64 K, .int .i64 Q]) rfl
 have l1_0 := hargs 1 (.agg #[cv, nv]) rfl
 have l2_0 := hargs 2 (.int .i64 i) rfl
 clear hargs; replace Y0 : SzN A0 34 := ⟨Y0⟩
 have hS := St.nil w
 have bh_nv := SlN.le (sl_SlN h_nv.at)
 refine wp_seq_k fun K1 H1 => ?_
 refine region_in ?_
 refine W_boxS (zs := #[.int .i64 (C), .int .i64 (N), .int .i64 (Z), .int .i64 (K), .int .i64 (Q)]) hS rfl rfl rfl l0_0 (by rfl) (fun g2 w2 c2 hc2 S2 => ?_)
 replace S2 : St w NoX [c2] w2 := S2
 refine W_boxS (zs := #[cv, nv]) S2 rfl rfl rfl (es rfl l1_0) (by rfl) (fun g3 w3 c3 hc3 S3 => ?_)
 replace S3 : St w NoX [c3, c2] w3 := S3
 refine W_v rfl rfl (V_asg rfl rfl) ?_
 refine W_v rfl rfl (V_asg rfl rfl) ?_
 refine W_v rfl rfl (V_asg rfl rfl) ?_
 refine W_end (gen_Q fun A4 E4 => ?_)
 have Y4 := szq E4
 have F4 := (fsE E4 (cq3 (ck (ck (FS.n hdf0) rfl rfl) rfl rfl) rfl)).c (lookE E4 2 (es5 rfl l2_0))
 clear E4 Y0 hdf0 l0_0 l1_0 l2_0
 refine tk H1 ?_
 refine wp_seq_k fun K5 H5 => ?_
 refine wp_seq_k fun K6 H6 => ?_
 refine region_in ?_
 refine W_r rfl rfl (VR_ldA rfl (fg2 F4) (S3.obj 1 rfl hc2) Try.underlying23 rfl (by kernel_rfl)) ?_
 refine W_r rfl rfl (VR_ldA rfl (es rfl (fg1 F4)) (S3.obj 0 rfl hc3) Try.underlying29 rfl (by kernel_rfl)) ?_
 refine W_call rfl rfl rfl Try.func11 (by kernel_rfl) rfl (args2 (es rfl (et rfl)) (et rfl)) (kCk8_c (C := C) (N := N) (Z := Z) (K := K) (Q := Q) (S3.roC h_cv) (S3.roC h_nv) ) ?_
 rintro _ w7 ⟨rfl, hP7⟩
 refine ⟨_, rfl, ?_⟩
 have S7 := S3.join hP7
 replace S7 : St w NoX [c3, c2] w7 := S7
 refine W_v rfl rfl (V_mov rfl (et rfl)) ?_
 refine W_v rfl rfl (V_ext (v := .int .i64 ((rmP C N Z K Q X ns).1)) rfl (et rfl) rfl) ?_
 refine W_v rfl rfl (V_ext (v := .int .i64 ((rmP C N Z K Q X ns).2)) rfl (es rfl (et rfl)) rfl) ?_
 refine W_v rfl rfl (V_asg rfl (es rfl (et rfl))) ?_
 refine W_v rfl rfl (V_asg rfl (es rfl (et rfl))) ?_
 refine W_end (gen_Q fun A8 E8 => ?_)
 have Y8 := szq E8
 have F8 := fsE E8 (ck (cq7 F4 rfl) rfl rfl)
 clear E8 Y4 F4
 have S9 : St w NoX [c2] w7 := S7.sel [1] (by decide) rfl
 refine tk H6 ?_
 refine wp_seq_k fun K10 H10 => ?_
 refine region_in ?_
 refine W_v rfl rfl (V_mov rfl (fg0 F8)) ?_
 refine W_v rfl rfl (V_neq rfl (et rfl) rfl) ?_
 refine W_end (gen_Q fun A11 E11 => ?_)
 have Y11 := szq E11
 have F11 := fsE E11 (ck (cq1 F8 rfl) rfl rfl)
 clear E11 Y8 F8
 refine tk H10 ?_
 refine cond_dec (fg0 F11) (fun c12 => ?_) (fun c12 => ?_)
 ·refine wp_seq_k fun K13 H13 => ?_
  refine region_in ?_
  refine W_v rfl rfl (V_mov rfl (fg1 F11)) ?_
  refine W_v rfl rfl (V_asg rfl rfl) ?_
  refine W_v rfl rfl (V_asg rfl rfl) ?_
  refine W_v rfl rfl (V_asg rfl (es2 rfl (et rfl))) ?_
  refine W_end (gen_Q fun A14 E14 => ?_)
  have Y14 := szq E14
  have F14 := fsE E14 (ck (ck (ck (cq1 F11 rfl) rfl rfl) rfl rfl) rfl rfl)
  clear E14 Y11 F11
  have S15 : St w NoX [] w7 := S9.sel [] (by decide) rfl
  refine tk H13 ?_
  refine wp_ret ?_
  refine then_ret ?_
  refine ret_in (results_3 Try.results45 (rv_tmp (fg2 F14)) (rv_tmp (fg1 F14)) (rv_tmp (fg0 F14))) F14.d ?_
  have he : frE C N Z K Q X ns i = (rmP C N Z K Q X ns).2 := fr_e1 (by omega)
  have hb := sg_bad (show frE C N Z K Q X ns i ≠ 0 by omega)
  rw [hb.1, hb.2, he]
  exact ⟨rfl, S15.fin0⟩
 refine wp_skip ?_
 refine tk H5 ?_
 refine wp_seq_k fun K16 H16 => ?_
 refine wp_seq_k fun K17 H17 => ?_
 refine region_in ?_
 refine W_v rfl rfl (V_mov rfl (fg2 F11)) ?_
 refine W_v rfl rfl (V_lss rfl (et rfl) rfl) ?_
 refine W_split rfl rfl (V_mov rfl (et rfl)) (fun c18 => ?_) (fun c18 => ?_)
 ·refine W_off rfl (wanted_f rfl rfl (et rfl) (ez rfl) rfl) ?_
  refine W_off rfl (wanted_f rfl rfl (es rfl (et rfl)) (ez rfl) rfl) ?_
  refine W_off rfl (wanted_f rfl rfl (es2 rfl (et rfl)) (ez rfl) rfl) ?_
  refine W_off rfl (wanted_f rfl rfl (es3 rfl (et rfl)) (ez rfl) rfl) ?_
  refine W_v rfl rfl (V_pickT rfl (es4 rfl (et rfl)) rfl) ?_
  refine W_end (gen_Q fun A19 E19 => ?_)
  have Y19 := szq E19
  have F19 := fsE E19 (ck (cq7 F11 rfl) rfl rfl)
  clear E19 Y11 F11
  refine tk H17 ?_
  refine cond_t (fg0 F19) ?_
  refine wp_seq_k fun K20 H20 => ?_
  refine region_in ?_
  refine W_v rfl rfl (V_asg rfl rfl) ?_
  refine W_v rfl rfl (V_asg rfl rfl) ?_
  refine W_v rfl rfl (V_asg rfl rfl) ?_
  refine W_end (gen_Q fun A21 E21 => ?_)
  have Y21 := szq E21
  have F21 := fsE E21 (ck (ck (ck F19 rfl rfl) rfl rfl) rfl rfl)
  clear E21 Y19 F19
  have S22 : St w NoX [] w7 := S9.sel [] (by decide) rfl
  refine tk H20 ?_
  refine wp_ret ?_
  refine then_ret ?_
  refine ret_in (results_3 Try.results45 (rv_tmp (fg2 F21)) (rv_tmp (fg1 F21)) (rv_tmp (fg0 F21))) F21.d ?_
  have he : frE C N Z K Q X ns i = 7 := fr_e2 (by omega) (by omega)
  have hb := sg_bad (show frE C N Z K Q X ns i ≠ 0 by omega)
  rw [hb.1, hb.2, he]
  exact ⟨rfl, S22.fin0⟩
 refine W_v rfl (wanted_t rfl rfl (et rfl) (ez rfl)) (V_mov rfl (es3 rfl (fg2 F11))) ?_
 refine W_v rfl (wanted_t rfl rfl (es rfl (et rfl)) (ez rfl)) (V_fa (off' := 1) rfl (es4 rfl (fg4 F11)) Try.underlying23 rfl (by decide +kernel) rfl) ?_
 refine W_r rfl (wanted_t rfl rfl (es2 rfl (et rfl)) (ez rfl)) (VR_ldC rfl (et rfl) (cell_box (v := .int .i64 (N)) (S9.obj 0 rfl hc2) rfl) Try.underlying3 rfl) ?_
 refine W_v rfl (wanted_t rfl rfl (es3 rfl (et rfl)) (ez rfl)) (V_geq rfl (es2 rfl (et rfl)) (et rfl)) ?_
 refine W_v rfl rfl (V_pickF rfl (es4 rfl (et rfl)) (et rfl)) ?_
 refine W_end (gen_Q fun A23 E23 => ?_)
 have Y23 := szq E23
 have F23 := fsE E23 (ck (cq7 F11 rfl) rfl rfl)
 clear E23 Y11 F11
 refine tk H17 ?_
 refine cond_dec (fg0 F23) (fun c24 => ?_) (fun c24 => ?_)
 ·refine wp_seq_k fun K25 H25 => ?_
  refine region_in ?_
  refine W_v rfl rfl (V_asg rfl rfl) ?_
  refine W_v rfl rfl (V_asg rfl rfl) ?_
  refine W_v rfl rfl (V_asg rfl rfl) ?_
  refine W_end (gen_Q fun A26 E26 => ?_)
  have Y26 := szq E26
  have F26 := fsE E26 (ck (ck (ck F23 rfl rfl) rfl rfl) rfl rfl)
  clear E26 Y23 F23
  have S27 : St w NoX [] w7 := S9.sel [] (by decide) rfl
  refine tk H25 ?_
  refine wp_ret ?_
  refine then_ret ?_
  refine ret_in (results_3 Try.results45 (rv_tmp (fg2 F26)) (rv_tmp (fg1 F26)) (rv_tmp (fg0 F26))) F26.d ?_
  have he : frE C N Z K Q X ns i = 7 := fr_e2 (by omega) (by omega)
  have hb := sg_bad (show frE C N Z K Q X ns i ≠ 0 by omega)
  rw [hb.1, hb.2, he]
  exact ⟨rfl, S27.fin0⟩
 refine wp_skip ?_
 refine tk H16 ?_
 refine wp_seq_k fun K28 H28 => ?_
 refine region_in ?_
 refine W_r rfl rfl (VR_ldA rfl (fg5 F23) (S9.obj 0 rfl hc2) Try.underlying23 rfl (by kernel_rfl)) ?_
 refine W_v rfl rfl (V_mov rfl (es rfl (fg3 F23))) ?_
 refine W_call rfl rfl rfl Try.func75 (by kernel_rfl) rfl (args2 (es rfl (et rfl)) (et rfl)) (ksp_c (C := C) (N := N) (Z := Z) (K := K) (Q := Q) (i := i)  ) ?_
 rintro _ w29 ⟨rfl, hP29⟩
 refine ⟨_, rfl, ?_⟩
 have S29 := S9.join hP29
 replace S29 : St w NoX [c2] w29 := S29
 refine W_v rfl rfl (V_ext (v := .int .i64 ((spA C N Z K Q i))) rfl (et rfl) rfl) ?_
 refine W_v rfl rfl (V_ext (v := .int .i64 ((spB C N Z K Q i))) rfl (es rfl (et rfl)) rfl) ?_
 refine W_v rfl rfl (V_ext (v := .int .i64 ((spE C N Z K Q i))) rfl (es2 rfl (et rfl)) rfl) ?_
 refine W_v rfl rfl (V_asg rfl (es2 rfl (et rfl))) ?_
 refine W_v rfl rfl (V_asg rfl (es2 rfl (et rfl))) ?_
 refine W_v rfl rfl (V_asg rfl (es2 rfl (et rfl))) ?_
 refine W_end (gen_Q fun A30 E30 => ?_)
 have Y30 := szq E30
 have F30 := fsE E30 (ck (ck (ck (cq6 F23 rfl) rfl rfl) rfl rfl) rfl rfl)
 clear E30 Y23 F23
 have S31 : St w NoX [] w29 := S29.sel [] (by decide) rfl
 refine tk H28 ?_
 refine wp_ret ?_
 refine ret_in (results_3 Try.results45 (rv_tmp (fg2 F30)) (rv_tmp (fg1 F30)) (rv_tmp (fg0 F30))) F30.d ?_
 have he : frE C N Z K Q X ns i = 0 := fr_e0 (by omega) (by omega)
 obtain ⟨s1, s2, s3, s4, s5⟩ := sg_ok he
 rw [s1, s2, he, ← s3]
 exact ⟨rfl, S31.fin0⟩

set_option maxHeartbeats 4000000 in
theorem kFr8_c {C : Int} {N : Int} {Z : Int} {K : Int} {Q : Int} {cv : Value} {X : List (List Int)} {nv : Value} {ns : List Int} {i : Int} {w : World} (h_cv : Ro w NoX (rmR cv X)) (h_nv : Ro w NoX (il .i64 nv ns))  :
  Calls Try.prog 13 #[.agg #[.int .i64 C, .int .i64 N, .int .i64 Z, .int .i64 K, .int .i64 Q], .agg #[cv, nv], .int .i64 i] w fun e w' => ∃ v, e = .returned (.tuple #[v, .int .i64 (frE C N Z K Q X ns i)]) ∧ St w NoX [io .i64 (v) (frT C N Z K Q X ns i)] w' := by
 obtain ⟨Xu, hXu, k_cv, n_cv⟩ := rmR_open h_cv
 subst hXu
 have b_cv := SlN.le (sl_SlN k_cv.at)
 have f_al := nsi_all n_cv h_nv
 refine calls_inR 48 Try.func13 rfl rfl (by simp) (fun A0 hsz0 hdf0 hargs => ?_)
 have l0_0 := hargs 0 (.agg #[.int .i64 C, .int .i64 N, .int .i64 Z, .int .i64 K, .int .i64 Q]) rfl
 have l1_0 := hargs 1 (.agg #[cv, nv]) rfl
 have l2_0 := hargs 2 (.int .i64 i) rfl
 clear hargs; replace hsz0 : SzN A0 48 := ⟨hsz0⟩
 have hS := St.nil w
 have bh_nv := SlN.le (sl_SlN h_nv.at)
 have bk_cv := SlN.le (sl_SlN k_cv.at)
 refine R_seq (fun K1 H1 => ?_)
 refine R_region (by kernel_rfl) ?_
 refine W_boxS (zs := #[.int .i64 (C), .int .i64 (N), .int .i64 (Z), .int .i64 (K), .int .i64 (Q)]) hS rfl rfl rfl l0_0 (by rfl) (fun g2 w2 c2 hc2 S2 => ?_)
 replace S2 : St w NoX [c2] w2 := S2
 refine W_boxS (zs := #[cv, nv]) S2 rfl rfl rfl (es rfl l1_0) (by rfl) (fun g3 w3 c3 hc3 S3 => ?_)
 replace S3 : St w NoX [c3, c2] w3 := S3
 refine W_allocS (z := .slice none 0 0) (zs := #[.slice none 0 0]) S3 rfl rfl rfl (by kernel_rfl) (by rfl) (fun g4 w4 c4 hc4 S4 => ?_)
 replace S4 : St w NoX [c4, c3, c2] w4 := S4
 refine W_allocS (z := .int .i64 0) (zs := #[.int .i64 0]) S4 rfl rfl rfl (by kernel_rfl) (by rfl) (fun g5 w5 c5 hc5 S5 => ?_)
 replace S5 : St w NoX [c5, c4, c3, c2] w5 := S5
 refine W_end ?_
 refine Qo_normal ?_
 refine gen_Q (fun A6 E6 => ?_)
 have hsz6 := szq E6
 have F6 := (fsE E6 (ck (ck (ck (ck (FS.n hdf0) rfl rfl) rfl rfl) rfl rfl) rfl rfl)).c (lookE E6 2 (es4 rfl l2_0))
 clear E6 hsz0 hdf0 l0_0 l1_0 l2_0
 refine tk H1 ?_
 refine R_seq (fun K7 H7 => ?_)
 refine R_region (by kernel_rfl) ?_
 refine W_r rfl rfl (VR_ldA rfl (fg4 F6) (S5.obj 3 rfl hc2) Try.underlying23 rfl (by kernel_rfl)) ?_
 refine W_r rfl rfl (VR_ldA rfl (es rfl (fg3 F6)) (S5.obj 2 rfl hc3) Try.underlying29 rfl (by kernel_rfl)) ?_
 refine W_v rfl rfl (V_mov rfl (es2 rfl (fg0 F6))) ?_
 refine W_call rfl rfl rfl Try.func45 (by kernel_rfl) rfl (args3 (es2 rfl (et rfl)) (es rfl (et rfl)) (et rfl)) (ksg8_c (C := C) (N := N) (Z := Z) (K := K) (Q := Q) (i := i) (rmR_of (S5.roC k_cv) (S5.roC n_cv)) (S5.roC h_nv) ) ?_
 rintro _ w8 ⟨rfl, hP8⟩
 refine ⟨_, rfl, ?_⟩
 have S8 := S5.join hP8
 replace S8 : St w NoX [c5, c4, c3, c2] w8 := S8
 refine W_v rfl rfl (V_mov rfl (et rfl)) ?_
 refine W_v rfl rfl (V_ext (v := .int .i64 ((sgA C N Z K Q (csF Xu) ns i))) rfl (et rfl) rfl) ?_
 refine W_v rfl rfl (V_ext (v := .int .i64 ((sgB C N Z K Q (csF Xu) ns i))) rfl (es rfl (et rfl)) rfl) ?_
 refine W_v rfl rfl (V_ext (v := .int .i64 ((frE C N Z K Q (csF Xu) ns i))) rfl (es2 rfl (et rfl)) rfl) ?_
 refine W_allocS (z := .int .i64 0) (zs := #[.int .i64 0]) S8 rfl rfl rfl (by kernel_rfl) (by rfl) (fun g9 w9 c9 hc9 S9 => ?_)
 replace S9 : St w NoX [c9, c5, c4, c3, c2] w9 := S9
 refine W_allocS (z := .int .i64 0) (zs := #[.int .i64 0]) S9 rfl rfl rfl (by kernel_rfl) (by rfl) (fun g10 w10 c10 hc10 S10 => ?_)
 replace S10 : St w NoX [c10, c9, c5, c4, c3, c2] w10 := S10
 refine W_stCS (zs' := #[.int .i64 ((sgA C N Z K Q (csF Xu) ns i))]) 1 S10 rfl hc9 rfl rfl rfl (es rfl (et rfl)) (es4 rfl (et rfl)) (by rfl) (by rfl) (by kernel_rfl) (by first | rfl | (simp only [List.setIfInBounds_toArray, List.set_cons_succ, List.set_cons_zero] <;> rfl)) (fun w11 c11 hc11 S11 => ?_)
 replace S11 : St w NoX [c10, c11, c5, c4, c3, c2] w11 := S11
 refine W_stCS (zs' := #[.int .i64 ((sgB C N Z K Q (csF Xu) ns i))]) 0 S11 rfl hc10 rfl rfl rfl (et rfl) (es3 rfl (et rfl)) (by rfl) (by rfl) (by kernel_rfl) (by first | rfl | (simp only [List.setIfInBounds_toArray, List.set_cons_succ, List.set_cons_zero] <;> rfl)) (fun w12 c12 hc12 S12 => ?_)
 replace S12 : St w NoX [c12, c11, c5, c4, c3, c2] w12 := S12
 refine W_v rfl rfl (V_asg rfl (es2 rfl (et rfl))) ?_
 refine W_end ?_
 refine Qo_normal ?_
 refine gen_Q (fun A13 E13 => ?_)
 have hsz13 := szq E13
 have F13 := fsE E13 (ck (ck (ck (cq8 F6 rfl) rfl rfl) rfl rfl) rfl rfl)
 clear E13 hsz6 F6
 have S14 : St w NoX [c12, c11, c5, c4, c3] w12 := S12.sel [0, 1, 2, 3, 4] (by decide) rfl
 refine tk H7 ?_
 refine R_seq (fun K15 H15 => ?_)
 refine R_seq (fun K16 H16 => ?_)
 refine R_region (by kernel_rfl) ?_
 refine W_v rfl rfl (V_mov rfl (fg0 F13)) ?_
 refine W_v rfl rfl (V_neq rfl (et rfl) rfl) ?_
 refine W_end ?_
 refine Qo_normal ?_
 refine gen_Q (fun A17 E17 => ?_)
 have hsz17 := szq E17
 have F17 := fsE E17 (ck (cq1 F13 rfl) rfl rfl)
 clear E17 hsz13 F13
 refine tk H16 ?_
 refine R_cond_dec (fg0 F17) (fun c18 => ?_) (fun c18 => ?_)
 ·refine R_seq (fun K19 H19 => ?_)
  refine R_region (by kernel_rfl) ?_
  refine W_v rfl rfl (V_mov rfl (fg1 F17)) ?_
  refine W_stCS (zs' := #[.slice none 0 0]) 3 S14 rfl hc4 rfl rfl rfl (es rfl (fg6 F17)) rfl (by rfl) (by rfl) (by kernel_rfl) (by first | rfl | (simp only [List.setIfInBounds_toArray, List.set_cons_succ, List.set_cons_zero] <;> rfl)) (fun w20 c20 hc20 S20 => ?_)
  replace S20 : St w NoX [c12, c11, c5, c20, c3] w20 := S20
  refine W_stCS (zs' := #[.int .i64 ((frE C N Z K Q (csF Xu) ns i))]) 2 S20 rfl hc5 rfl rfl rfl (es rfl (fg5 F17)) (et rfl) (by rfl) (by rfl) (by kernel_rfl) (by first | rfl | (simp only [List.setIfInBounds_toArray, List.set_cons_succ, List.set_cons_zero] <;> rfl)) (fun w21 c21 hc21 S21 => ?_)
  replace S21 : St w NoX [c12, c11, c21, c20, c3] w21 := S21
  refine W_end ?_
  refine Qo_normal ?_
  refine gen_Q (fun A22 E22 => ?_)
  have hsz22 := szq E22
  have F22 := fsE E22 (cq1 F17 rfl)
  clear E22 hsz17 F17
  have S23 : St w NoX [c21, c20] w21 := S21.sel [2, 3] (by decide) rfl
  refine tk H19 ?_
  refine R_ret ?_
  refine then_ret ?_
  refine ret_inR0 (results_2 Try.results13 (rv_cellC (fg6 F22) (cell_box (S23.obj 1 rfl hc20) rfl) Try.underlying25 rfl) (rv_cellC (fg5 F22) (cell_box (S23.obj 0 rfl hc21) rfl) Try.underlying34 rfl)) F22.d ?_
  obtain ⟨c24, hc24, S24⟩ := S23.pnil (s := 1)
  exact ⟨_, rfl, (S24.fin1 0 rfl (hc24.trans (by rw [show frT C N Z K Q (csF Xu) ns i = [] by exact frT_bad (by omega)] <;> rfl)))⟩
 have he : frE C N Z K Q (csF Xu) ns i = 0 := by omega
 obtain ⟨s1, s2, s3, s4, s5⟩ := sg_ok he
 have hk0 := (fr_0 he).1
 have hx24 := (rm_lens hk0).1
 rw [csF_len] at hx24
 refine R_skip ?_
 refine tk H15 ?_
 refine R_seq (fun K25 H25 => ?_)
 refine R_region (by kernel_rfl) ?_
 refine W_allocS (z := .slice none 0 0) (zs := #[.slice none 0 0]) S14 rfl rfl rfl (by kernel_rfl) (by rfl) (fun g26 w26 c26 hc26 S26 => ?_)
 replace S26 : St w NoX [c26, c12, c11, c5, c4, c3] w26 := S26
 refine W_end ?_
 refine Qo_normal ?_
 refine gen_Q (fun A27 E27 => ?_)
 have hsz27 := szq E27
 have F27 := fsE E27 (ck F17 rfl rfl)
 clear E27 hsz17 F17
 replace hc11 : c11 = bx g9 3 #[.int .i64 ((spA C N Z K Q i))] := hc11.trans (by rw [s1])
 replace hc12 : c12 = bx g10 3 #[.int .i64 ((spB C N Z K Q i))] := hc12.trans (by rw [s2])
 refine tk H25 ?_
 refine R_seq (fun K28 H28 => ?_)
 refine R_seq (fun K29 H29 => ?_)
 refine R_region (by kernel_rfl) ?_
 refine W_r rfl rfl (VR_ldA rfl (fg8 F27) (S26.obj 5 rfl hc3) Try.underlying29 rfl (by kernel_rfl)) ?_
 refine W_call rfl rfl rfl Try.func41 (by kernel_rfl) rfl (args1 (et rfl)) (kall8_c (S26.roC k_cv) (S26.roC n_cv) (S26.roC h_nv) ) ?_
 rintro _ w30 ⟨gb_30, rfl, hP30⟩
 refine ⟨_, rfl, ?_⟩
 obtain ⟨cb_30, hcb_30, hP30⟩ := gen1 hP30
 have S30 := S26.join hP30
 replace S30 : St w NoX [cb_30, c26, c12, c11, c5, c4, c3] w30 := S30
 refine W_end ?_
 refine Qo_normal ?_
 refine gen_Q (fun A31 E31 => ?_)
 have hsz31 := szq E31
 have F31 := fsE E31 (ck (cq1 F27 rfl) rfl rfl)
 clear E31 hsz27 F27
 have S32 : St w NoX [cb_30, c26, c12, c11, c5, c4] w30 := S30.sel [0, 1, 2, 3, 4, 5] (by decide) rfl
 refine tk H29 ?_
 refine R_block ?_
 obtain ⟨c33, hc33, S33⟩ := S32.pnil (s := 1)
 refine R_rangeS (α := Nat) (fg0 F31) (fun args w => calls_enter Try.func71 rfl rfl args w) (kall8_it (gb := gb_30) (cv := cv) (U := Xu) (nv := nv) (ns := ns) (Rd := fun W => (bx gb_30 29 #[cv, nv]).at W ∧ (rl 1 fstC cv Xu).at W ∧ (nsi Xu).at W ∧ (il .i64 nv ns).at W) (fun _ h => h)) (fun _ => rfl) (fun pre => pk (fun l => ∃ (bv : Value), l = [io .i64 bv (frD C N Z K Q ((csF Xu ++ [ns]).take pre.length) i), bx gb_30 29 #[cv, nv], bx g26 25 #[bv], bx g10 3 #[.int .i64 ((spB C N Z K Q i))], bx g9 3 #[.int .i64 ((spA C N Z K Q i))], bx g5 34 #[.int .i64 0], bx g4 25 #[.slice none 0 0]])) (fun cQ pre => pk (fun l => False)) (St.pack (l := [io .i64 (.slice none 0 0) (frD C N Z K Q ((csF Xu ++ [ns]).take ([] : List Nat).length) i), bx gb_30 29 #[cv, nv], bx g26 25 #[(.slice none 0 0)], bx g10 3 #[.int .i64 ((spB C N Z K Q i))], bx g9 3 #[.int .i64 ((spA C N Z K Q i))], bx g5 34 #[.int .i64 0], bx g4 25 #[.slice none 0 0]]) (fr := []) (by have q0 : c33 = io .i64 (.slice none 0 0) (frD C N Z K Q ((csF Xu ++ [ns]).take ([] : List Nat).length) i) := hc33.trans (rfl); have q1 : cb_30 = bx gb_30 29 #[cv, nv] := hcb_30; have q2 : c26 = bx g26 25 #[(.slice none 0 0)] := hc26; have q3 : c12 = bx g10 3 #[.int .i64 ((spB C N Z K Q i))] := hc12; have q4 : c11 = bx g9 3 #[.int .i64 ((spA C N Z K Q i))] := hc11; have q5 : c5 = bx g5 34 #[.int .i64 0] := hc5; have q6 : c4 = bx g4 25 #[.slice none 0 0] := hc4; subst q0 q1 q2 q3 q4 q5 q6; exact S33) ⟨(.slice none 0 0), rfl⟩)
  (fun pre W l' hS => by obtain ⟨l, ⟨bv, rfl⟩, hl⟩ := pk_at (hS.ch 0 rfl); exact ⟨(hl 1 _ rfl), hS.ro k_cv, hS.ro n_cv, hS.ro h_nv⟩)
  (fun x a' cQ => ∃ g36 : Nat, SzN a' 48 ∧ a'.defers = [] ∧ EV a' (.tmp 6) = EV A31 (.tmp 6) ∧ EV a' (.tmp 7) = EV A31 (.tmp 7) ∧ EV a' (.tmp 8) = EV A31 (.tmp 8) ∧ EV a' (.tmp 9) = EV A31 (.tmp 9) ∧ EV a' (.tmp 11) = EV A31 (.tmp 11) ∧ EV a' (.tmp 13) = .pointer (some ⟨g36, 0, none⟩) ∧ cQ = pk (·= [bx g36 27 #[(aS Xu nv ns x).1]])) ?_ ?_ ?_ ?_
 ·intro la34 pre x wa34 fr K hSa34 hK
  simp only [encA]
  rw [rnd2]
  obtain ⟨A35, E35⟩ : ∃ A, A = (PT (PT { tmps := A31.tmps, defers := [] } 29 (.int .i64 (aI Xu x))) 30 (.agg #[(aS Xu nv ns x).1])) := ⟨_, rfl⟩
  rw [← E35]
  have hsz35 := szq E35
  have hdf35 : A35.defers = [] := by rw [E35]; rfl
  have l6_35 := lookE E35 6 (es2 rfl (rnd_l (fg8 F31)))
  have l7_35 := lookE E35 7 (es2 rfl (rnd_l (fg7 F31)))
  have l8_35 := lookE E35 8 (es2 rfl (rnd_l (fg5 F31)))
  have l9_35 := lookE E35 9 (es2 rfl (rnd_l (fg4 F31)))
  have l11_35 := lookE E35 11 (es2 rfl (rnd_l (fg1 F31)))
  have l29_35 := lookE E35 29 (es rfl (et rfl))
  have l30_35 := lookE E35 30 (et rfl)
  clear E35
  obtain ⟨cI, hcI, hSa34⟩ := gen1 hSa34
  refine R_region (by kernel_rfl) ?_
  refine W_allocS (z := .agg #[.slice none 0 0]) (zs := #[.slice none 0 0]) hSa34 rfl rfl rfl (by kernel_rfl) (by rfl) (fun g36 w36 c36 hc36 S36 => ?_)
  replace S36 : St w NoX (c36 :: cI :: fr) w36 := S36
  refine W_stAS 0 S36 rfl hc36 rfl rfl rfl (et rfl) (es rfl l30_35) (by simp only [List.all_toArray, List.all_cons, List.all_nil, SlN_one (sl_SlN (f_al x).at)] <;> rfl) (by rfl) (by kernel_rfl) (fun w37 c37 hc37 S37 => ?_)
  replace S37 : St w NoX (c37 :: cI :: fr) w37 := S37
  refine W_end ?_
  refine Qo_normal ?_
  refine gen_Q (fun A38 E38 => ?_)
  have hsz38 := szq E38
  have F38 := (((((fsE E38 (ck (FS.n hdf35) rfl rfl)).c (lookE E38 6 (es rfl l6_35))).c (lookE E38 7 (es rfl l7_35))).c (lookE E38 8 (es rfl l8_35))).c (lookE E38 9 (es rfl l9_35))).c (lookE E38 11 (es rfl l11_35))
  clear E38 hsz35 hdf35 l6_35 l7_35 l8_35 l9_35 l11_35 l29_35 l30_35
  refine then_n ?_
  refine hK _ _ _ ⟨g36, hsz38, F38.d, ((fg4 F38).trans (fg8 F31).symm), ((fg3 F38).trans (fg7 F31).symm), ((fg2 F38).trans (fg5 F31).symm), ((fg1 F38).trans (fg4 F31).symm), ((fg0 F38).trans (fg1 F31).symm), (fg5 F38), rfl⟩ ?_
  subst hc37 hcI; exact S37.asg1
 ·rintro lb39 pre x A39 w39 cQ fr hAx hlr S39 hVd
  obtain ⟨g36, hsz39, hdf39, u6_39, u7_39, u8_39, u9_39, u11_39, l13_39, rfl⟩ := hAx
  have l6_39 := u6_39.trans (fg8 F31)
  have l7_39 := u7_39.trans (fg7 F31)
  have l8_39 := u8_39.trans (fg5 F31)
  have l9_39 := u9_39.trans (fg4 F31)
  have l11_39 := u11_39.trans (fg1 F31)
  obtain ⟨_, _, ⟨bv, rfl⟩, rfl, S39⟩ := S39.body2
  replace S39 : St w NoX ((io .i64 bv (frD C N Z K Q ((csF Xu ++ [ns]).take pre.length) i)) :: (bx gb_30 29 #[cv, nv]) :: (bx g26 25 #[bv]) :: (bx g10 3 #[.int .i64 ((spB C N Z K Q i))]) :: (bx g9 3 #[.int .i64 ((spA C N Z K Q i))]) :: (bx g5 34 #[.int .i64 0]) :: (bx g4 25 #[.slice none 0 0]) :: (bx g36 27 #[(aS Xu nv ns x).1]) :: fr) w39 := S39
  obtain ⟨c33_40, cb_40, c26_40, c12_40, c11_40, c5_40, c4_40, c37_40, hc33_40, hcb_40, hc26_40, hc12_40, hc11_40, hc5_40, hc4_40, hc37_40, S39⟩ := gen8 S39
  obtain ⟨hxl, hpre⟩ := rng_vd hVd
  have bf_x := SlN.le (sl_SlN (f_al x).at)
  have hcx : (csF Xu ++ [ns]).length = Xu.length + 1 := by simp [csF_len]
  have hck := ck_all (nv := nv) hk0 x hxl
  have hfl := frD_len (C := C) (N := N) (Z := Z) (K := K) (Q := Q) (i := i) (csF Xu ++ [ns])
  have hfp := frD_pre (C := C) (N := N) (Z := Z) (K := K) (Q := Q) (i := i) hpre (L := csF Xu ++ [ns])
  have hrl := rgT_len (aS Xu nv ns x).2 (spA C N Z K Q i) (spB C N Z K Q i)
  refine R_block ?_
  refine R_seq (fun K41 H41 => ?_)
  refine R_region (by kernel_rfl) ?_
  refine W_r rfl rfl (VR_ldA rfl l13_39 (S39.obj 7 rfl hc37_40) Try.underlying27 rfl (by kernel_rfl)) ?_
  refine W_r rfl rfl (VR_ldC rfl (es rfl l8_39) (cell_box (v := .int .i64 ((spA C N Z K Q i))) (S39.obj 4 rfl hc11_40) rfl) Try.underlying3 rfl) ?_
  refine W_r rfl rfl (VR_ldC rfl (es2 rfl l9_39) (cell_box (v := .int .i64 ((spB C N Z K Q i))) (S39.obj 3 rfl hc12_40) rfl) Try.underlying3 rfl) ?_
  refine W_call rfl rfl rfl Try.func46 (by kernel_rfl) rfl (args3 (es2 rfl (et rfl)) (es rfl (et rfl)) (et rfl)) (kRange_c (f := (spA C N Z K Q i)) (t := (spB C N Z K Q i)) (S39.roC (f_al x)) ) ?_
  rintro _ w42 ⟨v_42, rfl, hP42⟩
  refine ⟨_, rfl, ?_⟩
  obtain ⟨c_42, hc_42, hP42⟩ := gen1 hP42
  have S42 := S39.join hP42
  replace S42 : St w NoX (c_42 :: c33_40 :: cb_40 :: c26_40 :: c12_40 :: c11_40 :: c5_40 :: c4_40 :: c37_40 :: fr) w42 := S42
  refine W_v rfl rfl (V_mov rfl (et rfl)) ?_
  refine W_v rfl rfl (V_ext (v := v_42) rfl (et rfl) rfl) ?_
  refine W_v rfl rfl (V_ext (v := .int .i64 ((ckS ((aS Xu nv ns x).2)).2)) rfl (es rfl (et rfl)) rfl) ?_
  refine W_v rfl rfl (V_asg rfl (es rfl (et rfl))) ?_
  refine W_v rfl rfl (V_asg rfl (es rfl (et rfl))) ?_
  refine W_end ?_
  refine Qo_normal ?_
  refine gen_Q (fun A43 E43 => ?_)
  have hsz43 := szq E43
  have F43 := (((fsE E43 (ck (ck (cq7 (FS.n hdf39) rfl) rfl rfl) rfl rfl)).c (lookE E43 6 (es8 rfl (es rfl l6_39)))).c (lookE E43 7 (es8 rfl (es rfl l7_39)))).c (lookE E43 11 (es8 rfl (es rfl l11_39)))
  clear E43 hsz39 hdf39 l6_39 l7_39 l8_39 l9_39 l11_39 l13_39
  have S45 := S42.del 8
  replace S45 : St w NoX (c_42 :: c33_40 :: cb_40 :: c26_40 :: c12_40 :: c11_40 :: c5_40 :: c4_40 :: fr) w42 := S45
  refine tk H41 ?_
  refine R_seq (fun K46 H46 => ?_)
  refine R_seq (fun K47 H47 => ?_)
  refine R_region (by kernel_rfl) ?_
  refine W_v rfl rfl (V_mov rfl (fg3 F43)) ?_
  refine W_v rfl rfl (V_neq rfl (et rfl) rfl) ?_
  refine W_end ?_
  refine Qo_normal ?_
  refine gen_Q (fun A48 E48 => ?_)
  have hsz48 := szq E48
  have F48 := fsE E48 (ck (cq1 F43 rfl) rfl rfl)
  clear E48 hsz43 F43
  refine tk H47 ?_
  refine R_cond_not (fg0 F48) (by rw [decide_eq_false_iff_not, hck]; simp) ?_
  refine R_skip ?_
  refine tk H46 ?_
  refine R_region (by kernel_rfl) ?_
  refine W_r rfl rfl (VR_ldC rfl (fg1 F48) (cell_box (v := bv) (S45.obj 3 rfl hc26_40) rfl) Try.underlying25 rfl) ?_
  refine W_v rfl rfl (V_mov rfl (es rfl (fg5 F48))) ?_
  refine W_appS 1 1 S45 rfl hc33_40 rfl rfl rfl (es rfl (et rfl)) (et rfl) Try.underlying25 Try.underlying25 (z := .int .i64 0) (bytes := 8) (by kernel_rfl) rfl (by decide) (ow_at (S45.chq 0 rfl hc_42)) ones_i (by first | omega | (simp; done) | (simp; omega)) (by first | omega | (simp; done) | (simp; omega)) (fun v49 w49 c49 hc49 S49 => ?_)
  replace hc49 : c49 = io .i64 v49 ((frD C N Z K Q ((csF Xu ++ [ns]).take pre.length) i) ++ (rgT ((aS Xu nv ns x).2) (spA C N Z K Q i) (spB C N Z K Q i))) := hc49.trans (app_eq (by first | (simp; done) | (rw [List.take_of_length_le (l := List.drop _ _) (by rw [List.length_drop]; exact Nat.le_refl _)])))
  replace S49 : St w NoX (c_42 :: c49 :: cb_40 :: c26_40 :: c12_40 :: c11_40 :: c5_40 :: c4_40 :: fr) w49 := S49
  refine W_stCS (zs' := #[v49]) 3 S49 rfl hc26_40 rfl rfl rfl (es3 rfl (fg1 F48)) (et rfl) (SlN_one (ow_at (S49.chq 1 rfl hc49))) (by rfl) (by kernel_rfl) (by first | rfl | (simp only [List.setIfInBounds_toArray, List.set_cons_succ, List.set_cons_zero] <;> rfl)) (fun w50 c50 hc50 S50 => ?_)
  replace S50 : St w NoX (c_42 :: c49 :: cb_40 :: c50 :: c12_40 :: c11_40 :: c5_40 :: c4_40 :: fr) w50 := S50
  refine W_end ?_
  refine Qo_normal ?_
  refine gen_Q (fun A51 E51 => ?_)
  have hsz51 := szq E51
  have F51 := fsE E51 (cq3 F48 rfl)
  clear E51 hsz48 F48
  have S53 := S50.del 0
  replace S53 : St w NoX (c49 :: cb_40 :: c50 :: c12_40 :: c11_40 :: c5_40 :: c4_40 :: fr) w50 := S53
  refine inb_n ?_
  exact (St.pack (l := [io .i64 v49 (frD C N Z K Q ((csF Xu ++ [ns]).take (pre ++ [x]).length) i), bx gb_30 29 #[cv, nv], bx g26 25 #[v49], bx g10 3 #[.int .i64 ((spB C N Z K Q i))], bx g9 3 #[.int .i64 ((spA C N Z K Q i))], bx g5 34 #[.int .i64 0], bx g4 25 #[.slice none 0 0]]) (fr := fr) (by have q0 : c49 = io .i64 v49 (frD C N Z K Q ((csF Xu ++ [ns]).take (pre ++ [x]).length) i) := hc49.trans ((congrArg (io .i64 _) (frD_snoc hpre (al_aS (nv := nv) hxl)))); have q1 : cb_40 = bx gb_30 29 #[cv, nv] := hcb_40; have q2 : c50 = bx g26 25 #[v49] := hc50; have q3 : c12_40 = bx g10 3 #[.int .i64 ((spB C N Z K Q i))] := hc12_40; have q4 : c11_40 = bx g9 3 #[.int .i64 ((spA C N Z K Q i))] := hc11_40; have q5 : c5_40 = bx g5 34 #[.int .i64 0] := hc5_40; have q6 : c4_40 = bx g4 25 #[.slice none 0 0] := hc4_40; subst q0 q1 q2 q3 q4 q5 q6; exact S53) (⟨v49, rfl⟩))
 ·intro D54 xs w54 hxs S54
  have hxs' : xs = (List.range (Xu.length + 1)) := hxs; subst hxs'; clear hxs
  obtain ⟨_, ⟨bv, rfl⟩, S54⟩ := S54.unpack
  replace S54 : St w NoX ((io .i64 bv (frD C N Z K Q ((csF Xu ++ [ns]).take (List.range (Xu.length + 1)).length) i)) :: (bx gb_30 29 #[cv, nv]) :: (bx g26 25 #[bv]) :: (bx g10 3 #[.int .i64 ((spB C N Z K Q i))]) :: (bx g9 3 #[.int .i64 ((spA C N Z K Q i))]) :: (bx g5 34 #[.int .i64 0]) :: (bx g4 25 #[.slice none 0 0]) :: (ob D54 (.deferred (some []))) :: []) w54 := S54
  obtain ⟨c33_54, cb_54, c26_54, c12_54, c11_54, c5_54, c4_54, cD54, hc33_54, hcb_54, hc26_54, hc12_54, hc11_54, hc5_54, hc4_54, hcD54, S54⟩ := gen8 S54
  have hrn : (List.range (Xu.length + 1)).length = Xu.length + 1 := List.length_range
  have hcx : (csF Xu ++ [ns]).length = Xu.length + 1 := by simp [csF_len]
  have hfe := frD_len (C := C) (N := N) (Z := Z) (K := K) (Q := Q) (i := i) ((csF Xu ++ [ns]).take (List.range (Xu.length + 1)).length)
  have hfe2 := List.length_take_le (List.range (Xu.length + 1)).length (csF Xu ++ [ns])
  have hse := sortL_len (frD C N Z K Q ((csF Xu ++ [ns]).take (List.range (Xu.length + 1)).length) i)
  refine gen_Q (fun A54 E54 => ?_)
  have hsz54 := szq E54
  have hdf54 : A54.defers = [{ target := .collected D54, args := #[] }] := by rw [E54, df_mk, F31.d] <;> rfl
  have l6_54 := lookE E54 6 (mk_l (fg8 F31))
  have l7_54 := lookE E54 7 (mk_l (fg7 F31))
  have l11_54 := lookE E54 11 (mk_l (fg1 F31))
  clear E54
  refine inb_n ?_
  refine tk H28 ?_
  refine R_seq (fun K55 H55 => ?_)
  refine R_region (by kernel_rfl) ?_
  refine W_r rfl rfl (VR_ldC rfl l11_54 (cell_box (v := bv) (S54.obj 2 rfl hc26_54) rfl) Try.underlying25 rfl) ?_
  obtain ⟨Y56, hP56, hR56, hF56, hB56⟩ := St.call (pre := [c33_54]) (fr := [cb_54, c26_54, c12_54, c11_54, c5_54, c4_54, cD54]) S54
  rw [hc33_54] at hP56
  refine W_call rfl rfl rfl Try.func47 (by kernel_rfl) rfl (args1 (et rfl)) ((sort_St4 (us := sortL (frD C N Z K Q ((csF Xu ++ [ns]).take (List.range (Xu.length + 1)).length) i)) hP56 (sortL_len (frD C N Z K Q ((csF Xu ++ [ns]).take (List.range (Xu.length + 1)).length) i)) (fun g off cap hH hg => Try.slices_Sort_int g off cap (frD C N Z K Q ((csF Xu ++ [ns]).take (List.range (Xu.length + 1)).length) i) _ hH hg (by omega)) (fun p cap w => Try.slices_Sort_int_none p cap w))) ?_
  rintro _ w57 ⟨rfl, hP57⟩
  refine ⟨_, rfl, ?_⟩
  obtain ⟨c_57, hc_57, hP57⟩ := gen1 hP57
  have S57 := hB56 _ _ hP57
  replace S57 : St w NoX [c_57, cb_54, c26_54, c12_54, c11_54, c5_54, c4_54, cD54] w57 := S57
  refine W_end ?_
  refine Qo_normal ?_
  refine gen_Q (fun A58 E58 => ?_)
  have hsz58 := szq E58
  have F58 := (((fsE E58 (cq2 (FS.n hdf54) rfl)).c (lookE E58 6 (es2 rfl l6_54))).c (lookE E58 7 (es2 rfl l7_54))).c (lookE E58 11 (es2 rfl l11_54))
  clear E58 hsz54 hdf54 l6_54 l7_54 l11_54
  have S59 : St w NoX [c_57, c26_54, c5_54, c4_54, cD54] w57 := S57.sel [0, 2, 5, 6, 7] (by decide) rfl
  refine tk H55 ?_
  refine R_seq (fun K60 H60 => ?_)
  refine R_region (by kernel_rfl) ?_
  refine W_r rfl rfl (VR_ldC rfl (fg0 F58) (cell_box (v := bv) (S59.obj 1 rfl hc26_54) rfl) Try.underlying25 rfl) ?_
  obtain ⟨Y61, hP61, hR61, hF61, hB61⟩ := St.call (pre := [c_57]) (fr := [c26_54, c5_54, c4_54, cD54]) S59
  rw [hc_57] at hP61
  refine W_call rfl rfl rfl Try.func48 (by kernel_rfl) rfl (args1 (et rfl)) ((compact_St4 (us := Lib.compact (sortL (frD C N Z K Q ((csF Xu ++ [ns]).take (List.range (Xu.length + 1)).length) i))) hP61 (cmp_len (sortL (frD C N Z K Q ((csF Xu ++ [ns]).take (List.range (Xu.length + 1)).length) i))) (fun g off cap hH hc => Try.slices_Compact_int g off cap (sortL (frD C N Z K Q ((csF Xu ++ [ns]).take (List.range (Xu.length + 1)).length) i)) _ hH (by omega) hc) (fun p cap w => Try.slices_Compact_int_empty p cap w))) ?_
  rintro _ w62 ⟨v_62, rfl, hP62⟩
  refine ⟨_, rfl, ?_⟩
  obtain ⟨c_62, hc_62, hP62⟩ := gen1 hP62
  have S62 := hB61 _ _ hP62
  replace S62 : St w NoX [c_62, c26_54, c5_54, c4_54, cD54] w62 := S62
  refine W_stCS (zs' := #[v_62]) 3 S62 rfl hc4_54 rfl rfl rfl (es2 rfl (fg2 F58)) (et rfl) (SlN_one (ow_at (S62.chq 0 rfl hc_62))) (by rfl) (by kernel_rfl) (by first | rfl | (simp only [List.setIfInBounds_toArray, List.set_cons_succ, List.set_cons_zero] <;> rfl)) (fun w63 c63 hc63 S63 => ?_)
  replace S63 : St w NoX [c_62, c26_54, c5_54, c63, cD54] w63 := S63
  refine W_stCS (zs' := #[.int .i64 0]) 2 S63 rfl hc5_54 rfl rfl rfl (es2 rfl (fg1 F58)) rfl (by rfl) (by rfl) (by kernel_rfl) (by first | rfl | (simp only [List.setIfInBounds_toArray, List.set_cons_succ, List.set_cons_zero] <;> rfl)) (fun w64 c64 hc64 S64 => ?_)
  replace S64 : St w NoX [c_62, c26_54, c64, c63, cD54] w64 := S64
  refine W_end ?_
  refine Qo_normal ?_
  refine gen_Q (fun A65 E65 => ?_)
  have hsz65 := szq E65
  have F65 := fsE E65 (cq2 F58 rfl)
  clear E65 hsz58 F58
  have S66 : St w NoX [c_62, c64, c63, cD54] w64 := S64.sel [0, 2, 3, 4] (by decide) rfl
  refine tk H60 ?_
  refine R_ret ?_
  have hD67 := S66.obj 3 rfl hcD54
  have S67 := S66.put (o' := .deferred none) 3 rfl hcD54
  obtain ⟨w67, hw67⟩ : ∃ w', w' = w64.putObj D54 (.deferred none) := ⟨_, rfl⟩
  rw [← hw67] at S67
  replace S67 : St w NoX [c_62, c64, c63, (ob D54 (.deferred none))] w67 := S67
  refine ret_inR1' (D := D54) (w1 := w67) hw67 (results_2 Try.results13 (rv_cellC (fg2 F65) (cell_box (S67.obj 2 rfl hc63) rfl) Try.underlying25 rfl) (rv_cellC (fg1 F65) (cell_box (S67.obj 1 rfl hc64) rfl) Try.underlying34 rfl)) F65.d hD67 ?_
  rw [he]
  exact ⟨_, rfl, (S67.fin1 0 rfl (hc_62.trans (congrArg (io .i64 _) (by rw [frT_ok he, cmp_tg frD_rng, List.take_of_length_le (by simp [csF_len])]))))⟩
 intro D68 cQ pre w68 hpre S68
 obtain ⟨_, h, _⟩ := S68.unpack; exact h.elim

end Go.Proofs.Yteppjefmlibmoaa