import Derived.Test.YteppjefmlibmoaaProg
import Derived.Test.YteppjefmlibmoaaRm3
import Derived.Test.YteppjefmlibmoaaPl8d
import Derived.Test.YteppjefmlibmoaaSepV
namespace Go.Proofs.Yteppjefmlibmoaa
open Go.RowKit Go.Own Go.Own.R Go.Own.S Go.Own.E

def pkL (y : Int × Int) : List Value := [.int .i64 y.1, .int .i64 y.2]
theorem pkL_len : ∀ a : Int × Int, (pkL a).length = 2 := fun _ => rfl
set_option maxHeartbeats 4000000 in
theorem kcl8_c {cv : Value} {c : List Int} {w : World} (h_cv : Ro w NoX (il .i64 cv c)) (hl : c.length ≤ 8192) :
  Calls Try.prog 80 #[cv] w fun e w' => ∃ v, e = .returned (v) ∧ St w NoX [io .i64 (v) c] w' := by
 refine calls_in 8 Try.func80 rfl rfl (by simp) (fun A0 Y0 hdf0 hargs => ?_)
 have l0_0 := hargs 0 (cv) rfl
 clear hargs; replace Y0 : SzN A0 8 := ⟨Y0⟩
 have hS := St.nil w
 have bh_cv := SlN.le (sl_SlN h_cv.at)
 refine wp_seq_k fun K1 H1 => ?_
 refine region_in ?_
 refine W_v rfl rfl (V_asg rfl rfl) ?_
 refine W_end (gen_Q fun A2 E2 => ?_)
 have Y2 := szq E2
 have F2 := (fsE E2 (cq1 (FS.n hdf0) rfl)).c (lookE E2 0 (es rfl l0_0))
 clear E2 Y0 hdf0 l0_0
 refine tk H1 ?_
 refine wp_seq_k fun K3 H3 => ?_
 refine wp_seq_k fun K4 H4 => ?_
 refine region_in ?_
 refine W_v rfl rfl (V_mov rfl (fg0 F2)) ?_
 refine W_v rfl rfl (V_eqNilB rfl (et rfl) rfl (sl_SlN h_cv.at) Try.underlying25) ?_
 refine W_end (gen_Q fun A5 E5 => ?_)
 have Y5 := szq E5
 have F5 := fsE E5 (ck (cq1 F2 rfl) rfl rfl)
 clear E5 Y2 F2
 refine tk H4 ?_
 refine cond_b (fg0 F5) (fun c6 => ?_) (fun c6 => ?_)
 ·refine wp_seq_k fun K7 H7 => ?_
  refine region_in ?_
  refine W_v rfl rfl (V_asg rfl rfl) ?_
  refine W_end (gen_Q fun A8 E8 => ?_)
  have Y8 := szq E8
  have F8 := fsE E8 (ck F5 rfl rfl)
  clear E8 Y5 F5
  refine tk H7 ?_
  refine wp_ret ?_
  refine then_ret ?_
  refine ret_in (results_1 Try.results80 (rv_tmp (fg0 F8))) F8.d ?_
  obtain ⟨c9, hc9, S9⟩ := hS.pnil (s := 1)
  obtain rfl : c = [] := List.eq_nil_of_length_eq_zero (nilB_len (sl_SlN h_cv.at) c6)
  exact ⟨_, rfl, (S9.fin1 0 rfl (hc9))⟩
 refine wp_skip ?_
 refine tk H3 ?_
 refine wp_seq_k fun K10 H10 => ?_
 refine region_in ?_
 refine W_litS (vs := []) (xs := []) 1 hS rfl rfl rfl (parts0) rfl Try.underlying25 (by kernel_rfl) (by decide) (by intro v hv; cases hv) (by rfl) (fun g11 w11 c11 hc11 S11 => ?_)
 replace hc11 : c11 = io .i64 (.slice (some ⟨g11, 0, none⟩) 0 0) [] := hc11
 replace S11 : St w NoX [c11] w11 := S11
 refine W_v rfl rfl (V_mov rfl (es rfl (fg1 F5))) ?_
 refine W_appS 1 0 S11 rfl hc11 rfl rfl rfl (es rfl (et rfl)) (et rfl) Try.underlying25 Try.underlying25 (z := .int .i64 0) (bytes := 8) (by kernel_rfl) rfl (by decide) (sl_SlN (S11.ro h_cv)) ones_i (by first | omega | (simp; done) | (simp; omega)) (by first | omega | (simp; done) | (simp; omega)) (fun v12 w12 c12 hc12 S12 => ?_)
 replace hc12 : c12 = io .i64 v12 c := hc12.trans (app_eq (by first | (simp; done) | (rw [List.take_of_length_le (l := List.drop _ _) (by rw [List.length_drop]; exact Nat.le_refl _)])))
 replace S12 : St w NoX [c12] w12 := S12
 refine W_v rfl rfl (V_asg rfl (et rfl)) ?_
 refine W_end (gen_Q fun A13 E13 => ?_)
 have Y13 := szq E13
 have F13 := fsE E13 (ck (cq3 F5 rfl) rfl rfl)
 clear E13 Y5 F5
 refine tk H10 ?_
 refine wp_ret ?_
 refine ret_in (results_1 Try.results80 (rv_tmp (fg0 F13))) F13.d ?_
 exact ⟨_, rfl, (S12.fin1 0 rfl (hc12))⟩

set_option maxHeartbeats 4000000 in
theorem kown8_c {cv : Value} {X : List (List Int)} {nv : Value} {ns : List Int} {w : World} (h_cv : Ro w NoX (rmR cv X)) (h_nv : Ro w NoX (il .i64 nv ns)) (hgl : GL X ns) :
  Calls Try.prog 49 #[.agg #[cv, nv]] w fun e w' => ∃ v z, e = .returned (.agg #[v, z]) ∧ St w NoX [rmO v X, io .i64 (z) ns] w' := by
 obtain ⟨Xu, hXu, k_cv, n_cv⟩ := rmR_open h_cv
 subst hXu
 have b_cv := SlN.le (sl_SlN k_cv.at)
 have hxl := hgl.1
 rw [csF_len] at hxl
 have hgn : ns.length ≤ 8192 := hgl.2.2
 refine calls_in 34 Try.func49 rfl rfl (by simp) (fun A0 Y0 hdf0 hargs => ?_)
 have l0_0 := hargs 0 (.agg #[cv, nv]) rfl
 clear hargs; replace Y0 : SzN A0 34 := ⟨Y0⟩
 have hS := St.nil w
 have bh_nv := SlN.le (sl_SlN h_nv.at)
 have bk_cv := SlN.le (sl_SlN k_cv.at)
 refine wp_seq_k fun K1 H1 => ?_
 refine region_in ?_
 refine W_boxS (zs := #[cv, nv]) hS rfl rfl rfl l0_0 (by rfl) (fun g2 w2 c2 hc2 S2 => ?_)
 replace S2 : St w NoX [c2] w2 := S2
 refine W_allocS (z := .agg #[.slice none 0 0, .slice none 0 0]) (zs := #[.slice none 0 0, .slice none 0 0]) S2 rfl rfl rfl (by kernel_rfl) (by rfl) (fun g3 w3 c3 hc3 S3 => ?_)
 replace S3 : St w NoX [c3, c2] w3 := S3
 refine W_end (gen_Q fun A4 E4 => ?_)
 have Y4 := szq E4
 have F4 := fsE E4 (ck (ck (FS.n hdf0) rfl rfl) rfl rfl)
 clear E4 Y0 hdf0 l0_0
 refine tk H1 ?_
 refine wp_seq_k fun K5 H5 => ?_
 refine region_monoS 11 12 [none, none, none, some (SPv [] (fun _ => fun u l' => ∃ v_s, u = v_s ∧ ∃ c_s, c_s = io .i64 (v_s) ns ∧ l' = [c_s]) 3), none, none, none, none, some (SPv [] (fun _ => fun u l' => ∃ v, u = v ∧ ∃ b, b = owl .i64 (List.replicate Xu.length nilp) ∧ ∃ c, c = ro 1 fstC v (List.replicate Xu.length nilp) ∧ l' = [b, c]) 8), none, some (SPv [] (fun _ => fun u l' => ∃ g_, u = .pointer (some ⟨g_, 0, none⟩) ∧ ∃ c_, c_ = bx g_ 29 #[.slice none 0 0, .slice none 0 0] ∧ l' = [c_]) 10)] (by kernel_rfl) (by kernel_rfl) ?_
 refine D_v rfl rfl (V_fa (off' := 1) rfl (fg1 F4) Try.underlying29 rfl (by decide +kernel) rfl) rfl rfl ?_
 refine D_v rfl rfl (V_fa (off' := 1) rfl (et rfl) Try.underlying27 rfl (by decide +kernel) rfl) rfl rfl ?_
 refine D_r rfl rfl (by kernel_rfl) (fun sx hx hF => (VR_ldC rfl (et rfl) (cell_box (v := nv) ((S3.grow hx).obj 1 rfl hc2) rfl) Try.underlying25 rfl)) rfl rfl ?_
 refine D_call (ts := []) (vs := []) (C0 := fun _ => fun u l' => ∃ v_s, u = v_s ∧ ∃ c_s, c_s = io .i64 (v_s) ns ∧ l' = [c_s]) (C := fun u l' => ∃ v_s, u = v_s ∧ ∃ c_s, c_s = io .i64 (v_s) ns ∧ l' = [c_s]) rfl rfl rfl Try.func80 (by kernel_rfl) rfl (args1 (et rfl)) rfl rfl rfl rfl (fun sx hx hF => ?_) (fun u6 l6 hu6 => ?_)
 ·refine (kcl8_c ((S3.grow hx).roC h_nv) (by first | with_reducible assumption | with_reducible exact hgl.2.2 | omega)).mono ?_
  rintro _ _ ⟨v_6, rfl, hz⟩
  exact ⟨_, rfl, _, ⟨_, rfl, _, rfl, rfl⟩, hz⟩
 obtain ⟨v_6, rfl, c_6, hc_6, hl6⟩ := hu6
 refine D_r rfl rfl (by kernel_rfl) (fun sx hx hF => by obtain ⟨ll6, ws6, we6, ⟨v_6q, hq6, c_6_, hc_6_, hl6_⟩, hm6, k6, e6⟩ := L.ancF_get hF (by kernel_rfl); cases hq6; subst hl6_; exact ((V_bldS (n := 1) (z := .agg #[.slice none 0 0]) rfl (parts1 (et rfl)) (by kernel_rfl) (by simp only [List.all_cons, List.all_nil, SlN_one (ow_at ((k6.grow e6).chq 0 rfl hc_6_)), Bool.and_true] <;> rfl) (by kernel_rfl) (by simp only [List.foldl_cons, List.foldl_nil, Value.cells, List.setIfInBounds_toArray, List.set_cons_succ, List.set_cons_zero] <;> rfl) : Val _ _ _ _) _)) rfl rfl ?_
 refine D_v rfl rfl (V_fa (off' := 0) rfl (es5 rfl (fg1 F4)) Try.underlying29 rfl (by decide +kernel) rfl) rfl rfl ?_
 refine D_r rfl rfl (by kernel_rfl) (fun sx hx hF => (VR_ldC rfl (et rfl) (cell_box (v := cv) ((S3.grow hx).obj 1 rfl hc2) rfl) Try.underlying24 rfl)) rfl rfl ?_
 refine D_v rfl rfl (V_lenS rfl (et rfl) (sl_SlN k_cv.at) Try.underlying24) rfl rfl ?_
 refine D_lay (ts := []) (vs := []) (C0 := fun _ => fun u l' => ∃ v, u = v ∧ ∃ b, b = owl .i64 (List.replicate Xu.length nilp) ∧ ∃ c, c = ro 1 fstC v (List.replicate Xu.length nilp) ∧ l' = [b, c]) (C := fun u l' => ∃ v, u = v ∧ ∃ b, b = owl .i64 (List.replicate Xu.length nilp) ∧ ∃ c, c = ro 1 fstC v (List.replicate Xu.length nilp) ∧ l' = [b, c]) rfl rfl rfl rfl rfl rfl (fun sx hx hF => lay_mkSS (z := .agg #[.slice none 0 0]) (bytes := 24) Xu.length rfl (et rfl) (et rfl) (by omega) Try.underlying24 (by kernel_rfl) (by omega) rfl) (fun u7 l7 hu7 => ?_)
 obtain ⟨v7, rfl, cb7, hcb7, c7, hc7, hl7⟩ := hu7
 refine D_r rfl rfl (by kernel_rfl) (fun sx hx hF => by obtain ⟨ll7, ws7, we7, ⟨v7q, hq7, cb7_, hcb7_, c7_, hc7_, hl7_⟩, hm7, k7, e7⟩ := L.ancF_get hF (by kernel_rfl); cases hq7; subst hl7_; exact ((V_bldC (n := 2) (z := .agg #[.slice none 0 0, .slice none 0 0]) (cs := #[u7, u6]) rfl (parts2 (es4 rfl (et rfl)) (et rfl)) (by kernel_rfl) (by simp only [List.all_cons, List.all_nil, one_cells (SlN_one (ow_at ((k7.grow e7).chq 1 rfl hc7_))), cells_agg] <;> rfl) (by kernel_rfl) (by simp only [List.foldl_cons, List.foldl_nil, one_cells (SlN_one (ow_at ((k7.grow e7).chq 1 rfl hc7_))), cells_agg, getD_one, List.setIfInBounds_toArray, List.set_cons_succ, List.set_cons_zero] <;> rfl) : Val _ _ _ _) _)) rfl rfl ?_
 refine D_lay (ts := []) (vs := []) (C0 := fun _ => fun u l' => ∃ g_, u = .pointer (some ⟨g_, 0, none⟩) ∧ ∃ c_, c_ = bx g_ 29 #[.slice none 0 0, .slice none 0 0] ∧ l' = [c_]) (C := fun u l' => ∃ g_, u = .pointer (some ⟨g_, 0, none⟩) ∧ ∃ c_, c_ = bx g_ 29 #[.slice none 0 0, .slice none 0 0] ∧ l' = [c_]) rfl rfl rfl rfl rfl rfl (fun sx hx hF => lay_alloc (z := .agg #[.slice none 0 0, .slice none 0 0]) rfl (by kernel_rfl) (by rfl)) (fun u8 l8 hu8 => ?_)
 obtain ⟨g8, rfl, c8, hc8, hl8⟩ := hu8
 refine D_eff rfl ?_
 refine ZS_eff S3 rfl rfl (fun s9 hJ9 hL9 hF9 => ?_)
 obtain ⟨ll6, ws6, we6, ⟨v_6q, hq6, c_6r, hc_6r, hl6r⟩, hm6, k6, e6⟩ := L.all_get (L.all_rest (L.all_rest hF9)); cases hq6; subst hl6r
 replace hJ9 := hJ9.add hL9 (i := 3) rfl hm6 k6 e6
 obtain ⟨ll7, ws7, we7, ⟨v7q, hq7, cb7r, hcb7r, c7r, hc7r, hl7r⟩, hm7, k7, e7⟩ := L.all_get (L.all_rest hF9); cases hq7; subst hl7r
 replace hJ9 := hJ9.add hL9 (i := 8) rfl hm7 k7 e7
 obtain ⟨ll8, ws8, we8, ⟨g8q, hq8, c8r, hc8r, hl8r⟩, hm8, k8, e8⟩ := L.all_get hF9; cases hq8; subst hl8r
 replace hJ9 := hJ9.add hL9 (i := 10) rfl hm8 k8 e8
 have S9 := hJ9.st; clear hF9 hJ9 hL9
 generalize s9.1 = w9 at *
 replace S9 : St w NoX [c8r, cb7r, c7r, c_6r, c3, c2] w9 := S9
 refine W_stAS 0 S9 rfl hc8r rfl rfl rfl (et rfl) (es rfl (et rfl)) (by simp only [List.all_toArray, List.all_cons, List.all_nil, SlN_one (ow_at (S9.chq 2 rfl hc7r)), SlN_one (ow_at (S9.chq 3 rfl hc_6r))] <;> rfl) (by rfl) (by kernel_rfl) (fun w10 c10 hc10 S10 => ?_)
 replace S10 : St w NoX [c10, cb7r, c7r, c_6r, c3, c2] w10 := S10
 refine W_end ?_
 refine Qo_normal ?_
 refine gen_Q (fun A11 E11 => ?_)
 have Y11 := szq E11
 have F11 := fsE E11 (ck (cq2 (cq8 F4 rfl) rfl) rfl rfl)
 clear E11 Y4 F4
 refine tk H5 ?_
 refine wp_seq_k fun K12 H12 => ?_
 refine wp_seq_k fun K13 H13 => ?_
 refine region_in ?_
 refine W_v rfl rfl (V_fa (off' := 0) rfl (fg2 F11) Try.underlying29 rfl (by decide +kernel) rfl) ?_
 refine W_r rfl rfl (VR_ldC rfl (et rfl) (cell_box (v := cv) (S10.obj 5 rfl hc2) rfl) Try.underlying24 rfl) ?_
 refine W_v rfl rfl (V_lenS rfl (et rfl) (sl_SlN k_cv.at) Try.underlying24) ?_
 refine W_v rfl rfl (V_mov rfl rfl) ?_
 refine W_end (gen_Q fun A14 E14 => ?_)
 have Y14 := szq E14
 have F14 := fsE E14 (ck (ck (ck (cq1 F11 rfl) rfl rfl) rfl rfl) rfl rfl)
 clear E14 Y11 F11
 have S15 : St w NoX [c10, cb7r, c7r, c_6r, c3] w10 := S10.sel [0, 1, 2, 3, 4] (by decide) rfl
 refine tk H13 ?_
 refine wp_block ?_
 -- loop 3
 refine loopX (fun mz A' w' => SzN A' 34 ∧ A'.defers = [] ∧ (∃ (k : Nat) (U : List SL), (mz = Xu.length - k) ∧ (k ≤ Xu.length) ∧ (csF U = cpK (csF Xu) k) ∧ (EV A' (.tmp 19) = .int .i64 (k : Int)) ∧ (EV A' (.tmp 2) = EV A14 (.tmp 2)) ∧ (EV A' (.tmp 3) = EV A14 (.tmp 3)) ∧ (EV A' (.tmp 17) = EV A14 (.tmp 17)) ∧ (EV A' (.tmp 18) = EV A14 (.tmp 18)) ∧ (St w NoX [bx g8 29 #[u7, u6], owl .i64 U, ro 1 fstC u7 U, io .i64 u6 ns, bx g3 29 #[.slice none 0 0, .slice none 0 0]] w'))) (Xu.length - 0) ⟨Y14, F14.d, 0, (List.replicate Xu.length nilp), rfl, (by omega), (by rw [csF_nils, ← csF_len]; exact cpK_0 _), (((fg0 F14)).trans (by first | rfl | (simp; done) | (congr 1; omega))), rfl, rfl, rfl, rfl, (by have q0 := hc10; have q1 : cb7r = owl .i64 (List.replicate Xu.length nilp) := hcb7r.trans (rfl); have q2 : c7r = ro 1 fstC u7 (List.replicate Xu.length nilp) := hc7r.trans (rfl); have q3 := hc_6r; have q4 := hc3; subst q0 q1 q2 q3 q4; exact S15)⟩ ?_
 clear S15 hc10 hcb7r hc7r hc_6r hc3
 rintro n16 A16 w16 ⟨Y16, hdf16, k, U, hm16, hk, hU, l19_16, u2_16, u3_16, u17_16, u18_16, S16⟩
 have l2_16 := u2_16.trans (fg4 F14)
 have l3_16 := u3_16.trans (fg3 F14)
 have l17_16 := u17_16.trans (fg2 F14)
 have l18_16 := u18_16.trans (fg1 F14)
 obtain ⟨c10_16, cb7r_16, c7r_16, c_6r_16, c3_16, hc10_16, hcb7r_16, hc7r_16, hc_6r_16, hc3_16, S16⟩ := gen5 S16
 refine wp_seq_k fun K17 H17 => ?_
 refine region_in ?_
 refine W_v rfl rfl (V_lss rfl l19_16 l18_16) ?_
 refine W_end (gen_Q fun A18 E18 => ?_)
 have Y18 := szq E18
 have F18 := (((((fsE E18 (ck (FS.n hdf16) rfl rfl)).c (lookE E18 2 (es rfl l2_16))).c (lookE E18 3 (es rfl l3_16))).c (lookE E18 17 (es rfl l17_16))).c (lookE E18 18 (es rfl l18_16))).c (lookE E18 19 (es rfl l19_16))
 clear E18 Y16 hdf16 l19_16 l2_16 l3_16 l17_16 l18_16
 refine tk H17 ?_
 refine wp_seq_k fun K19 H19 => ?_
 refine cond_dec (fg5 F18) (fun c20 => ?_) (fun c20 => ?_)
 ·have hUl := cp_len hU
  refine wp_skip ?_
  refine tk H19 ?_
  refine wp_seq_k fun K21 H21 => ?_
  refine wp_block ?_
  refine wp_seq_k fun K22 H22 => ?_
  refine region_in ?_
  refine W_v rfl rfl (V_mov rfl (fg0 F18)) ?_
  have k23 : k < Xu.length := by first | omega | (simp only [List.length_cons, List.length_nil]; omega) | (simp only [List.length_set]; omega) | decide
  obtain ⟨y23, hy23⟩ := get_some (xs := Xu) (k := k) k23
  have hgy23 := gl_at hgl hy23
  obtain ⟨B23, O23, C23, hv23⟩ := (SlN.blk (sl_SlN k_cv.at) (by first | omega | (simp only [List.length_cons, List.length_nil]; omega) | (simp only [List.length_set]; omega) | decide))
  refine W_v rfl rfl (V_ixS (off := O23 + k * 1) 1 (k) rfl (es rfl (fg2 F18)) (es rfl (fg0 F18)) hv23 (by omega) k23 Try.underlying24 (by kernel_rfl) rfl) ?_
  have fn24 : Ro w NoX (il .i64 y23.1 y23.2) := nsi_ro1 n_cv hy23
  have bfn24 := SlN.le (sl_SlN (S16.ro fn24))
  refine W_r rfl rfl (VR_ldR (ys := fstC y23) rfl (et rfl) (SlN.row fstC_len (sl_SlN (S16.ro k_cv)) hv23 hy23 rfl) Try.underlying27 rfl (by kernel_rfl)) ?_
  refine W_allocS (z := .agg #[.slice none 0 0]) (zs := #[.slice none 0 0]) S16 rfl rfl rfl (by kernel_rfl) (by rfl) (fun g25 w25 c25 hc25 S25 => ?_)
  replace S25 : St w NoX [c25, c10_16, cb7r_16, c7r_16, c_6r_16, c3_16] w25 := S25
  refine W_v rfl rfl (V_asg rfl (es3 rfl (et rfl))) ?_
  refine W_stAS 0 S25 rfl hc25 rfl rfl rfl (es rfl (et rfl)) (es2 rfl (et rfl)) (by simp only [List.all_toArray, List.all_cons, List.all_nil, fstC, SlN_one (sl_SlN fn24.at)] <;> rfl) (by rfl) (by kernel_rfl) (fun w26 c26 hc26 S26 => ?_)
  replace S26 : St w NoX [c26, c10_16, cb7r_16, c7r_16, c_6r_16, c3_16] w26 := S26
  refine W_end (gen_Q fun A27 E27 => ?_)
  have Y27 := szq E27
  have F27 := fsE E27 (ck (ck (cq3 F18 rfl) rfl rfl) rfl rfl)
  clear E27 Y18 F18
  refine tk H22 ?_
  refine region_monoS 8 9 [none, none, none, none, none, some (SPv [] (fun _ => fun u l' => ∃ v_s, u = v_s ∧ ∃ c_s, c_s = io .i64 (v_s) y23.2 ∧ l' = [c_s]) 5)] (by kernel_rfl) (by kernel_rfl) ?_
  refine D_v rfl rfl (V_fa (off' := 0) rfl (fg5 F27) Try.underlying29 rfl (by decide +kernel) rfl) rfl rfl ?_
  refine D_r rfl rfl (by kernel_rfl) (fun sx hx hF => (VR_ldC rfl (et rfl) (cell_box (v := u7) ((S26.grow hx).obj 1 rfl hc10_16) rfl) Try.underlying24 rfl)) rfl rfl ?_
  refine D_v rfl rfl (V_mov rfl (es2 rfl (fg0 F27))) rfl rfl ?_
  refine D_v rfl rfl (V_fa (off' := 0) rfl (es3 rfl (fg1 F27)) Try.underlying27 rfl (by decide +kernel) rfl) rfl rfl ?_
  refine D_r rfl rfl (by kernel_rfl) (fun sx hx hF => (VR_ldC rfl (et rfl) (cell_box (v := y23.1) ((S26.grow hx).obj 0 rfl hc26) rfl) Try.underlying25 rfl)) rfl rfl ?_
  refine D_call (ts := []) (vs := []) (C0 := fun _ => fun u l' => ∃ v_s, u = v_s ∧ ∃ c_s, c_s = io .i64 (v_s) y23.2 ∧ l' = [c_s]) (C := fun u l' => ∃ v_s, u = v_s ∧ ∃ c_s, c_s = io .i64 (v_s) y23.2 ∧ l' = [c_s]) rfl rfl rfl Try.func80 (by kernel_rfl) rfl (args1 (et rfl)) rfl rfl rfl rfl (fun sx hx hF => ?_) (fun u28 l28 hu28 => ?_)
  ·refine (kcl8_c ((S26.grow hx).roC fn24) (by first | with_reducible assumption | with_reducible exact hgl.2.2 | omega)).mono ?_
   rintro _ _ ⟨v_28, rfl, hz⟩
   exact ⟨_, rfl, _, ⟨_, rfl, _, rfl, rfl⟩, hz⟩
  obtain ⟨v_28, rfl, c_28, hc_28, hl28⟩ := hu28
  have k29 : k < U.length := by first | omega | (simp only [List.length_cons, List.length_nil]; omega) | (simp only [List.length_set]; omega) | decide
  obtain ⟨y29, hy29⟩ := get_some (xs := U) (k := k) k29
  obtain ⟨B29, O29, C29, hv29⟩ := (SlN.blk (ow_at (S26.chq 3 rfl hc7r_16)) (by first | omega | (simp only [List.length_cons, List.length_nil]; omega) | (simp only [List.length_set]; omega) | decide))
  refine D_v rfl rfl (V_ixS (off := O29 + k * 1) 1 (k) rfl (es4 rfl (et rfl)) (es3 rfl (et rfl)) hv29 (by omega) k29 Try.underlying24 (by kernel_rfl) rfl) rfl rfl ?_
  refine D_v rfl rfl (V_fa (off' := O29 + k * 1 + 0) rfl (et rfl) Try.underlying27 rfl (by decide +kernel) rfl) rfl rfl ?_
  refine D_eff rfl ?_
  refine ZS_eff S26 rfl rfl (fun s30 hJ30 hL30 hF30 => ?_)
  obtain ⟨ll28, ws28, we28, ⟨v_28q, hq28, c_28r, hc_28r, hl28r⟩, hm28, k28, e28⟩ := L.all_get hF30; cases hq28; subst hl28r
  replace hJ30 := hJ30.add hL30 (i := 5) rfl hm28 k28 e28
  have S30 := hJ30.st; clear hF30 hJ30 hL30
  generalize s30.1 = w30 at *
  replace S30 : St w NoX [c_28r, c26, c10_16, cb7r_16, c7r_16, c_6r_16, c3_16] w30 := S30
  have S32 := S30.sel [0, 3, 4, 1, 2, 5, 6] (by decide) (l' := [c_28r, cb7r_16, c7r_16, c26, c10_16, c_6r_16, c3_16]) rfl
  replace S32 : St w NoX [c_28r, cb7r_16, c7r_16, c26, c10_16, c_6r_16, c3_16] w30 := S32
  refine W_stS2 (j := k) S32 hc_28r hcb7r_16 hc7r_16 hv29 rfl rfl rfl (et rfl) (es2 rfl (et rfl)) (SlN_one (ow_at (S32.chq 0 rfl hc_28r))) rfl (by omega) (by kernel_rfl) (fun w31 ca31 c31 hca31 hc31 S31 => ?_)
  have hsl31 : (U.set k (u28, y23.2)).length = U.length := List.length_set ..
  replace S31 : St w NoX [ca31, c31, c26, c10_16, c_6r_16, c3_16] w31 := S31
  refine W_end ?_
  refine Qo_normal ?_
  refine gen_Q (fun A33 E33 => ?_)
  have Y33 := szq E33
  have F33 := fsE E33 (cq8 F27 rfl)
  clear E33 Y27 F27
  have S34 : St w NoX [ca31, c31, c10_16, c_6r_16, c3_16] w31 := S31.sel [0, 1, 3, 4, 5] (by decide) rfl
  refine inb_n ?_
  refine tk H21 ?_
  refine region_in ?_
  refine W_v rfl rfl (V_add rfl (fg2 F33) rfl (by omega) (by omega)) ?_
  refine W_v rfl rfl (V_mov rfl (et rfl)) ?_
  refine W_end (gen_Q fun A35 E35 => ?_)
  have Y35 := szq E35
  have F35 := fsE E35 (ck (cq1 (fx2 F33) rfl) rfl rfl)
  clear E35 Y33 F33
  have S36 : St w NoX [c10_16, ca31, c31, c_6r_16, c3_16] w31 := S34.sel [2, 0, 1, 3, 4] (by decide) rfl
  refine then_n ⟨Xu.length - (k + 1), by simp only [hm16]; omega, Y35, F35.d, (k + 1), (U.set k (u28, y23.2)), rfl, (by omega), (by rw [csF_set, hU]; have q := csF_at hy23; exact cpK_set q), (((fg0 F35)).trans (by first | rfl | (simp; done) | (congr 1; omega))), (((fg6 F35)).trans (fg4 F14).symm), (((fg5 F35)).trans (fg3 F14).symm), (((fg4 F35)).trans (fg2 F14).symm), (((fg3 F35)).trans (fg1 F14).symm), (by have q0 := hc10_16; have q1 : ca31 = owl .i64 (U.set k (u28, y23.2)) := hca31.trans (rfl); have q2 : c31 = ro 1 fstC u7 (U.set k (u28, y23.2)) := hc31.trans (rfl); have q3 := hc_6r_16; have q4 := hc3_16; subst q0 q1 q2 q3 q4; exact S36)⟩
 refine wp_exit ?_
 refine then_exit ?_
 refine then_exit ?_
 refine inb_hit ?_
 refine tk H12 ?_
 refine wp_seq_k fun K37 H37 => ?_
 refine region_in ?_
 refine W_r rfl rfl (VR_ldA rfl (fg3 F18) (S16.obj 0 rfl hc10_16) Try.underlying29 rfl (by kernel_rfl)) ?_
 refine W_stAS 4 S16 rfl hc3_16 rfl rfl rfl (es rfl (fg4 F18)) (et rfl) (by simp only [List.all_toArray, List.all_cons, List.all_nil, SlN_one (ow_at (S16.chq 2 rfl hc7r_16)), SlN_one (ow_at (S16.chq 3 rfl hc_6r_16))] <;> rfl) (by rfl) (by kernel_rfl) (fun w38 c38 hc38 S38 => ?_)
 replace S38 : St w NoX [c10_16, cb7r_16, c7r_16, c_6r_16, c38] w38 := S38
 refine W_end (gen_Q fun A39 E39 => ?_)
 have Y39 := szq E39
 have F39 := fsE E39 (cq1 F18 rfl)
 clear E39 Y18 F18
 have S40 : St w NoX [cb7r_16, c7r_16, c_6r_16, c38] w38 := S38.sel [1, 2, 3, 4] (by decide) rfl
 refine tk H37 ?_
 refine wp_ret ?_
 refine ret_in (results_1 Try.results49 (rv_cellA (fg4 F39) (S40.obj 3 rfl hc38) Try.underlying29 rfl (by kernel_rfl))) F39.d ?_
 have S42 := S40.sel [1, 0, 2, 3] (by decide) (l' := [c7r_16, cb7r_16, c_6r_16, c38]) rfl
 replace S42 : St w NoX [c7r_16, cb7r_16, c_6r_16, c38] w38 := S42
 obtain ⟨c41, hc41, S41⟩ := St.rmClose S42 hc7r_16 hcb7r_16
 replace S41 : St w NoX [c41, c_6r_16, c38] w38 := S41
 exact ⟨_, _, rfl, (S41.fin2 0 rfl (hc41.trans (by rw [hU, cpK_end (by rw [csF_len]; omega)])) 1 rfl (hc_6r_16) (by decide))⟩

set_option maxHeartbeats 4000000 in
theorem kplc_c {slot : Int} {target : Int} {C : Int} {N : Int} {Z : Int} {K : Int} {Q : Int} {w : World}   :
  Calls Try.prog 86 #[.agg #[.int .i64 slot, .int .i64 target], .agg #[.int .i64 C, .int .i64 N, .int .i64 Z, .int .i64 K, .int .i64 Q]] w fun e w' => e = .returned (.tuple #[.int .i64 (plN C N Z K Q slot target), .int .i64 (plE C N Z K Q slot target)]) ∧ St w NoX [] w' := by
 refine calls_in 44 Try.func86 rfl rfl (by simp) (fun A0 Y0 hdf0 hargs => ?_)
 have l0_0 := hargs 0 (.agg #[.int .i64 slot, .int .i64 target]) rfl
 have l1_0 := hargs 1 (.agg #[.int .i64 C, .int .i64 N, .int .i64 Z, .int .i64 K, .int .i64 Q]) rfl
 clear hargs; replace Y0 : SzN A0 44 := ⟨Y0⟩
 have hS := St.nil w
 refine wp_seq_k fun K1 H1 => ?_
 refine region_in ?_
 refine W_boxS (zs := #[.int .i64 (slot), .int .i64 (target)]) hS rfl rfl rfl l0_0 (by rfl) (fun g2 w2 c2 hc2 S2 => ?_)
 replace S2 : St w NoX [c2] w2 := S2
 refine W_boxS (zs := #[.int .i64 (C), .int .i64 (N), .int .i64 (Z), .int .i64 (K), .int .i64 (Q)]) S2 rfl rfl rfl (es rfl l1_0) (by rfl) (fun g3 w3 c3 hc3 S3 => ?_)
 replace S3 : St w NoX [c3, c2] w3 := S3
 refine W_v rfl rfl (V_asg rfl rfl) ?_
 refine W_v rfl rfl (V_asg rfl rfl) ?_
 refine W_end (gen_Q fun A4 E4 => ?_)
 have Y4 := szq E4
 have F4 := fsE E4 (cq2 (ck (ck (FS.n hdf0) rfl rfl) rfl rfl) rfl)
 clear E4 Y0 hdf0 l0_0 l1_0
 refine tk H1 ?_
 refine wp_seq_k fun K5 H5 => ?_
 refine region_in ?_
 refine W_r rfl rfl (VR_ldA rfl (fg0 F4) (S3.obj 0 rfl hc3) Try.underlying23 rfl (by kernel_rfl)) ?_
 refine W_v rfl rfl (V_fa (off' := 0) rfl (es rfl (fg1 F4)) Try.underlying117 rfl (by decide +kernel) rfl) ?_
 refine W_r rfl rfl (VR_ldC rfl (et rfl) (cell_box (v := .int .i64 (slot)) (S3.obj 1 rfl hc2) rfl) Try.underlying3 rfl) ?_
 refine W_call rfl rfl rfl Try.func43 (by kernel_rfl) rfl (args2 (es2 rfl (et rfl)) (et rfl)) (kca_c (C := C) (N := N) (Z := Z) (K := K) (Q := Q) (a := slot)  ) ?_
 rintro _ w6 ⟨rfl, hP6⟩
 refine ⟨_, rfl, ?_⟩
 have S6 := S3.join hP6
 replace S6 : St w NoX [c3, c2] w6 := S6
 refine W_v rfl rfl (V_mov rfl (et rfl)) ?_
 refine W_v rfl rfl (V_ext (v := .int .i64 ((caN C N Z K Q slot))) rfl (et rfl) rfl) ?_
 refine W_v rfl rfl (V_ext (v := .int .i64 ((caE C N Z K Q slot))) rfl (es rfl (et rfl)) rfl) ?_
 refine W_v rfl rfl (V_asg rfl (es rfl (et rfl))) ?_
 refine W_v rfl rfl (V_asg rfl (es rfl (et rfl))) ?_
 refine W_end (gen_Q fun A7 E7 => ?_)
 have Y7 := szq E7
 have F7 := fsE E7 (ck (ck (cq7 F4 rfl) rfl rfl) rfl rfl)
 clear E7 Y4 F4
 refine tk H5 ?_
 refine wp_seq_k fun K8 H8 => ?_
 refine wp_seq_k fun K9 H9 => ?_
 refine region_in ?_
 refine W_v rfl rfl (V_mov rfl (fg0 F7)) ?_
 refine W_v rfl rfl (V_neq rfl (et rfl) rfl) ?_
 refine W_split rfl rfl (V_mov rfl (et rfl)) (fun c10 => ?_) (fun c10 => ?_)
 ·refine W_off rfl (wanted_f rfl rfl (et rfl) (ez rfl) rfl) ?_
  refine W_off rfl (wanted_f rfl rfl (es rfl (et rfl)) (ez rfl) rfl) ?_
  refine W_off rfl (wanted_f rfl rfl (es2 rfl (et rfl)) (ez rfl) rfl) ?_
  refine W_v rfl rfl (V_pickT rfl (es3 rfl (et rfl)) rfl) ?_
  refine W_end (gen_Q fun A11 E11 => ?_)
  have Y11 := szq E11
  have F11 := fsE E11 (ck (cq6 F7 rfl) rfl rfl)
  clear E11 Y7 F7
  refine tk H9 ?_
  refine cond_t (fg0 F11) ?_
  refine wp_seq_k fun K12 H12 => ?_
  refine region_in ?_
  refine W_v rfl rfl (V_mov rfl (fg1 F11)) ?_
  refine W_v rfl rfl (V_asg rfl rfl) ?_
  refine W_v rfl rfl (V_asg rfl (es rfl (et rfl))) ?_
  refine W_end (gen_Q fun A13 E13 => ?_)
  have Y13 := szq E13
  have F13 := fsE E13 (ck (ck (cq1 F11 rfl) rfl rfl) rfl rfl)
  clear E13 Y11 F11
  have S14 : St w NoX [] w6 := S6.sel [] (by decide) rfl
  refine tk H12 ?_
  refine wp_ret ?_
  refine then_ret ?_
  refine ret_in (results_2 Try.results86 (rv_tmp (fg1 F13)) (rv_tmp (fg0 F13))) F13.d ?_
  have h := pl_bad (C := C) (N := N) (Z := Z) (K := K) (Q := Q) (slot := slot) (target := target) (by omega)
  rw [h.1, h.2]
  exact ⟨rfl, S14.fin0⟩
 refine W_v rfl (wanted_t rfl rfl (et rfl) (ez rfl)) (V_fa (off' := 1) rfl (es3 rfl (fg3 F7)) Try.underlying117 rfl (by decide +kernel) rfl) ?_
 refine W_r rfl (wanted_t rfl rfl (es rfl (et rfl)) (ez rfl)) (VR_ldC rfl (et rfl) (cell_box (v := .int .i64 (target)) (S6.obj 1 rfl hc2) rfl) Try.underlying3 rfl) ?_
 refine W_v rfl (wanted_t rfl rfl (es2 rfl (et rfl)) (ez rfl)) (V_eql rfl (et rfl) rfl) ?_
 refine W_v rfl rfl (V_pickF rfl (es3 rfl (et rfl)) (et rfl)) ?_
 refine W_end (gen_Q fun A15 E15 => ?_)
 have Y15 := szq E15
 have F15 := fsE E15 (ck (cq6 F7 rfl) rfl rfl)
 clear E15 Y7 F7
 refine tk H9 ?_
 refine cond_dec (fg0 F15) (fun c16 => ?_) (fun c16 => ?_)
 ·refine wp_seq_k fun K17 H17 => ?_
  refine region_in ?_
  refine W_v rfl rfl (V_mov rfl (fg1 F15)) ?_
  refine W_v rfl rfl (V_asg rfl rfl) ?_
  refine W_v rfl rfl (V_asg rfl (es rfl (et rfl))) ?_
  refine W_end (gen_Q fun A18 E18 => ?_)
  have Y18 := szq E18
  have F18 := fsE E18 (ck (ck (cq1 F15 rfl) rfl rfl) rfl rfl)
  clear E18 Y15 F15
  have S19 : St w NoX [] w6 := S6.sel [] (by decide) rfl
  refine tk H17 ?_
  refine wp_ret ?_
  refine then_ret ?_
  refine ret_in (results_2 Try.results86 (rv_tmp (fg1 F18)) (rv_tmp (fg0 F18))) F18.d ?_
  have h := pl_zero (C := C) (N := N) (Z := Z) (K := K) (Q := Q) (slot := slot) (target := target) (by omega) (by omega)
  rw [h.1, h.2]
  rw [show (caE C N Z K Q slot) = 0 by omega]
  exact ⟨rfl, S19.fin0⟩
 refine wp_skip ?_
 refine tk H8 ?_
 refine wp_seq_k fun K20 H20 => ?_
 refine region_in ?_
 refine W_r rfl rfl (VR_ldA rfl (fg3 F15) (S6.obj 0 rfl hc3) Try.underlying23 rfl (by kernel_rfl)) ?_
 refine W_v rfl rfl (V_fa (off' := 1) rfl (es rfl (fg4 F15)) Try.underlying117 rfl (by decide +kernel) rfl) ?_
 refine W_r rfl rfl (VR_ldC rfl (et rfl) (cell_box (v := .int .i64 (target)) (S6.obj 1 rfl hc2) rfl) Try.underlying3 rfl) ?_
 refine W_call rfl rfl rfl Try.func43 (by kernel_rfl) rfl (args2 (es2 rfl (et rfl)) (et rfl)) (kca_c (C := C) (N := N) (Z := Z) (K := K) (Q := Q) (a := target)  ) ?_
 rintro _ w21 ⟨rfl, hP21⟩
 refine ⟨_, rfl, ?_⟩
 have S21 := S6.join hP21
 replace S21 : St w NoX [c3, c2] w21 := S21
 refine W_v rfl rfl (V_mov rfl (et rfl)) ?_
 refine W_v rfl rfl (V_ext (v := .int .i64 ((caN C N Z K Q target))) rfl (et rfl) rfl) ?_
 refine W_v rfl rfl (V_ext (v := .int .i64 ((caE C N Z K Q target))) rfl (es rfl (et rfl)) rfl) ?_
 refine W_v rfl rfl (V_asg rfl (es rfl (et rfl))) ?_
 refine W_v rfl rfl (V_asg rfl (es rfl (et rfl))) ?_
 refine W_end (gen_Q fun A22 E22 => ?_)
 have Y22 := szq E22
 have F22 := fsE E22 (ck (ck (cq7 (fx1 F15) rfl) rfl rfl) rfl rfl)
 clear E22 Y15 F15
 have S23 : St w NoX [] w21 := S21.sel [] (by decide) rfl
 refine tk H20 ?_
 refine wp_seq_k fun K24 H24 => ?_
 refine wp_seq_k fun K25 H25 => ?_
 refine region_in ?_
 refine W_v rfl rfl (V_mov rfl (fg0 F22)) ?_
 refine W_v rfl rfl (V_neq rfl (et rfl) rfl) ?_
 refine W_split rfl rfl (V_mov rfl (et rfl)) (fun c26 => ?_) (fun c26 => ?_)
 ·refine W_off rfl (wanted_f rfl rfl (et rfl) (ez rfl) rfl) ?_
  refine W_off rfl (wanted_f rfl rfl (es rfl (et rfl)) (ez rfl) rfl) ?_
  refine W_v rfl rfl (V_pickT rfl (es2 rfl (et rfl)) rfl) ?_
  refine W_v rfl rfl (V_mov rfl (et rfl)) ?_
  refine W_off rfl (wanted_f rfl rfl (et rfl) (ez rfl) rfl) ?_
  refine W_off rfl (wanted_f rfl rfl (es rfl (et rfl)) (ez rfl) rfl) ?_
  refine W_off rfl (wanted_f rfl rfl (es2 rfl (et rfl)) (ez rfl) rfl) ?_
  refine W_v rfl rfl (V_pickT rfl (es3 rfl (et rfl)) rfl) ?_
  refine W_end (gen_Q fun A27 E27 => ?_)
  have Y27 := szq E27
  have F27 := fsE E27 (ck (cq2 (cq8 F22 rfl) rfl) rfl rfl)
  clear E27 Y22 F22
  refine tk H25 ?_
  refine cond_t (fg0 F27) ?_
  refine wp_seq_k fun K28 H28 => ?_
  refine region_in ?_
  refine W_v rfl rfl (V_mov rfl (fg1 F27)) ?_
  refine W_v rfl rfl (V_asg rfl rfl) ?_
  refine W_v rfl rfl (V_asg rfl (es rfl (et rfl))) ?_
  refine W_end (gen_Q fun A29 E29 => ?_)
  have Y29 := szq E29
  have F29 := fsE E29 (ck (ck (cq1 F27 rfl) rfl rfl) rfl rfl)
  clear E29 Y27 F27
  refine tk H28 ?_
  refine wp_ret ?_
  refine then_ret ?_
  refine ret_in (results_2 Try.results86 (rv_tmp (fg1 F29)) (rv_tmp (fg0 F29))) F29.d ?_
  have h := pl_bad2 (C := C) (N := N) (Z := Z) (K := K) (Q := Q) (slot := slot) (target := target) (by omega) (by omega) (by omega)
  rw [h.1, h.2]
  exact ⟨rfl, S23.fin0⟩
 refine W_v rfl (wanted_t rfl rfl (et rfl) (ez rfl)) (V_mov rfl (es3 rfl (fg3 F22))) ?_
 refine W_v rfl (wanted_t rfl rfl (es rfl (et rfl)) (ez rfl)) (V_lss rfl (et rfl) rfl) ?_
 refine W_v rfl rfl (V_pickF rfl (es2 rfl (et rfl)) (et rfl)) ?_
 refine W_split rfl rfl (V_mov rfl (et rfl)) (fun c30 => ?_) (fun c30 => ?_)
 ·refine W_off rfl (wanted_f rfl rfl (et rfl) (ez rfl) rfl) ?_
  refine W_off rfl (wanted_f rfl rfl (es rfl (et rfl)) (ez rfl) rfl) ?_
  refine W_off rfl (wanted_f rfl rfl (es2 rfl (et rfl)) (ez rfl) rfl) ?_
  refine W_v rfl rfl (V_pickT rfl (es3 rfl (et rfl)) rfl) ?_
  refine W_end (gen_Q fun A31 E31 => ?_)
  have Y31 := szq E31
  have F31 := fsE E31 (ck (cq2 (cq8 F22 rfl) rfl) rfl rfl)
  clear E31 Y22 F22
  refine tk H25 ?_
  refine cond_t (fg0 F31) ?_
  refine wp_seq_k fun K32 H32 => ?_
  refine region_in ?_
  refine W_v rfl rfl (V_mov rfl (fg1 F31)) ?_
  refine W_v rfl rfl (V_asg rfl rfl) ?_
  refine W_v rfl rfl (V_asg rfl (es rfl (et rfl))) ?_
  refine W_end (gen_Q fun A33 E33 => ?_)
  have Y33 := szq E33
  have F33 := fsE E33 (ck (ck (cq1 F31 rfl) rfl rfl) rfl rfl)
  clear E33 Y31 F31
  refine tk H32 ?_
  refine wp_ret ?_
  refine then_ret ?_
  refine ret_in (results_2 Try.results86 (rv_tmp (fg1 F33)) (rv_tmp (fg0 F33))) F33.d ?_
  have h := pl_none (C := C) (N := N) (Z := Z) (K := K) (Q := Q) (slot := slot) (target := target) (by omega) (by omega) (by omega) (by omega)
  rw [h.1, h.2]
  rw [show (caE C N Z K Q target) = 0 by omega]
  exact ⟨rfl, S23.fin0⟩
 refine W_v rfl (wanted_t rfl rfl (et rfl) (ez rfl)) (V_mov rfl (es7 rfl (fg3 F22))) ?_
 refine W_v rfl (wanted_t rfl rfl (es rfl (et rfl)) (ez rfl)) (V_mov rfl (es8 rfl (fg1 F22))) ?_
 refine W_v rfl (wanted_t rfl rfl (es2 rfl (et rfl)) (ez rfl)) (V_eql rfl (es rfl (et rfl)) (et rfl)) ?_
 refine W_v rfl rfl (V_pickF rfl (es3 rfl (et rfl)) (et rfl)) ?_
 refine W_end (gen_Q fun A34 E34 => ?_)
 have Y34 := szq E34
 have F34 := fsE E34 (ck (cq2 (cq8 F22 rfl) rfl) rfl rfl)
 clear E34 Y22 F22
 refine tk H25 ?_
 refine cond_dec (fg0 F34) (fun c35 => ?_) (fun c35 => ?_)
 ·refine wp_seq_k fun K36 H36 => ?_
  refine region_in ?_
  refine W_v rfl rfl (V_mov rfl (fg1 F34)) ?_
  refine W_v rfl rfl (V_asg rfl rfl) ?_
  refine W_v rfl rfl (V_asg rfl (es rfl (et rfl))) ?_
  refine W_end (gen_Q fun A37 E37 => ?_)
  have Y37 := szq E37
  have F37 := fsE E37 (ck (ck (cq1 F34 rfl) rfl rfl) rfl rfl)
  clear E37 Y34 F34
  refine tk H36 ?_
  refine wp_ret ?_
  refine then_ret ?_
  refine ret_in (results_2 Try.results86 (rv_tmp (fg1 F37)) (rv_tmp (fg0 F37))) F37.d ?_
  have h := pl_none (C := C) (N := N) (Z := Z) (K := K) (Q := Q) (slot := slot) (target := target) (by omega) (by omega) (by omega) (by omega)
  rw [h.1, h.2]
  rw [show (caE C N Z K Q target) = 0 by omega]
  exact ⟨rfl, S23.fin0⟩
 refine wp_skip ?_
 refine tk H24 ?_
 refine wp_seq_k fun K38 H38 => ?_
 refine region_in ?_
 refine W_v rfl rfl (V_mov rfl (fg2 F34)) ?_
 refine W_v rfl rfl (V_asg rfl (et rfl)) ?_
 refine W_v rfl rfl (V_asg rfl rfl) ?_
 refine W_end (gen_Q fun A39 E39 => ?_)
 have Y39 := szq E39
 have F39 := fsE E39 (ck (ck (cq1 F34 rfl) rfl rfl) rfl rfl)
 clear E39 Y34 F34
 refine tk H38 ?_
 refine wp_ret ?_
 refine ret_in (results_2 Try.results86 (rv_tmp (fg1 F39)) (rv_tmp (fg0 F39))) F39.d ?_
 have h := pl_some (C := C) (N := N) (Z := Z) (K := K) (Q := Q) (slot := slot) (target := target) (by omega) (by omega) (by omega) (by omega)
 rw [h.1, h.2]
 exact ⟨rfl, S23.fin0⟩

set_option maxHeartbeats 4000000 in
theorem kchg_c {cv : Value} {X : List (List Int)} {nz : Value} {i : Int} {slot : Int} {add : Bool} {w : World} {Y : Nat → Prop}  (hS : St w Y [rmO cv X] w) (hi : i = -2 ∨ (0 ≤ i ∧ i < (X.length : Int))) (hch : ∀ c ∈ X, chE c slot = 0) :
  Calls Try.prog 89 #[.agg #[cv, nz], .int .i64 i, .int .i64 slot, .bool add] w fun e w' => e = .returned (.tuple #[]) ∧ St w Y [rmO cv (cgC X i slot add)] w' := by
 refine calls_inR 36 Try.func89 rfl rfl (by simp) (fun A0 Y0 hdf0 hargs => ?_)
 have l0_0 := hargs 0 (.agg #[cv, nz]) rfl
 have l1_0 := hargs 1 (.int .i64 i) rfl
 have l2_0 := hargs 2 (.int .i64 slot) rfl
 have l3_0 := hargs 3 (.bool add) rfl
 clear hargs; replace Y0 : SzN A0 36 := ⟨Y0⟩
 obtain ⟨m_cv, hm_cv, hS⟩ := gen1 hS
 replace hS : St w Y [m_cv] w := hS
 obtain ⟨U1, c1, cb1, hU1, hc1, hcb1, S1⟩ := St.rmOpen hS hm_cv
 replace S1 : St w Y [c1, cb1] w := S1
 have hUl := cs_len hU1
 refine R_seq (fun K2 H2 => ?_)
 refine R_region (by kernel_rfl) ?_
 refine W_boxS (zs := #[cv, nz]) S1 rfl rfl rfl l0_0 (by rfl) (fun g3 w3 c3 hc3 S3 => ?_)
 replace S3 : St w Y [c3, c1, cb1] w3 := S3
 refine W_end ?_
 refine Qo_normal ?_
 refine gen_Q (fun A4 E4 => ?_)
 have Y4 := szq E4
 have F4 := (((fsE E4 (ck (FS.n hdf0) rfl rfl)).c (lookE E4 1 (es rfl l1_0))).c (lookE E4 2 (es rfl l2_0))).c (lookE E4 3 (es rfl l3_0))
 clear E4 Y0 hdf0 l0_0 l1_0 l2_0 l3_0
 refine tk H2 ?_
 refine R_seq (fun K5 H5 => ?_)
 refine R_seq (fun K6 H6 => ?_)
 refine R_region (by kernel_rfl) ?_
 refine W_v rfl rfl (V_mov rfl (fg2 F4)) ?_
 refine W_v rfl rfl (V_eql rfl (et rfl) rfl) ?_
 refine W_end ?_
 refine Qo_normal ?_
 refine gen_Q (fun A7 E7 => ?_)
 have Y7 := szq E7
 have F7 := fsE E7 (ck (cq1 F4 rfl) rfl rfl)
 clear E7 Y4 F4
 refine tk H6 ?_
 refine R_cond_dec (fg0 F7) (fun c8 => ?_) (fun c8 => ?_)
 ·refine R_ret ?_
  refine then_ret ?_
  refine ret_inR0 (results_0 Try.results89 ) F7.d ?_
  have S10 := S3.sel [1, 2, 0] (by decide) (l' := [c1, cb1, c3]) rfl
  replace S10 : St w Y [c1, cb1, c3] w3 := S10
  obtain ⟨c9, hc9, S9⟩ := St.rmClose S10 hc1 hcb1
  replace S9 : St w Y [c9, c3] w3 := S9
  exact ⟨rfl, (S9.fin1 0 rfl (hc9.trans (by rw [hU1, cg_neg (by omega)])))⟩
 have hmx : (if (0 : Int) > i then 0 else i) = i := if_neg (by omega)
 refine R_skip ?_
 refine tk H5 ?_
 refine R_seq (fun K11 H11 => ?_)
 refine R_region (by kernel_rfl) ?_
 refine W_v rfl rfl (V_fa (off' := 0) rfl (fg4 F7) Try.underlying29 rfl (by decide +kernel) rfl) ?_
 refine W_r rfl rfl (VR_ldC rfl (et rfl) (cell_box (v := cv) (S3.obj 0 rfl hc3) rfl) Try.underlying24 rfl) ?_
 refine W_v rfl rfl (V_mov rfl (es2 rfl (fg3 F7))) ?_
 refine W_v rfl rfl (V_max rfl (et rfl) rfl) ?_
 have k12 : i.toNat < U1.length := by first | omega | (simp only [List.length_cons, List.length_nil]; omega) | (simp only [List.length_set]; omega) | decide
 obtain ⟨y12, hy12⟩ := get_some (xs := U1) (k := i.toNat) k12
 obtain ⟨B12, O12, C12, hv12⟩ := (SlN.blk (ow_at (S3.chq 1 rfl hc1)) (by first | omega | (simp only [List.length_cons, List.length_nil]; omega) | (simp only [List.length_set]; omega) | decide))
 refine W_v rfl rfl (V_ixS (off := O12 + i.toNat * 1) 1 (i.toNat) rfl (es2 rfl (et rfl)) (et rfl) hv12 (by omega) k12 Try.underlying24 (by kernel_rfl) rfl) ?_
 refine W_v rfl rfl (V_asg rfl (et rfl)) ?_
 refine W_end ?_
 refine Qo_normal ?_
 refine gen_Q (fun A13 E13 => ?_)
 have Y13 := szq E13
 have F13 := fsE E13 (ck (cq5 F7 rfl) rfl rfl)
 clear E13 Y7 F7
 have S14 : St w Y [c1, cb1] w3 := S3.sel [1, 2] (by decide) rfl
 refine tk H11 ?_
 refine R_seq (fun K15 H15 => ?_)
 refine R_region (by kernel_rfl) ?_
 refine W_v rfl rfl (V_asg rfl rfl) ?_
 refine W_end ?_
 refine Qo_normal ?_
 refine gen_Q (fun A16 E16 => ?_)
 have Y16 := szq E16
 have F16 := fsE E16 (ck F13 rfl rfl)
 clear E16 Y13 F13
 refine tk H15 ?_
 refine R_seq (fun K17 H17 => ?_)
 refine R_seq (fun K18 H18 => ?_)
 refine R_region (by kernel_rfl) ?_
 refine W_v rfl rfl (V_mov rfl (fg3 F16)) ?_
 refine W_end ?_
 refine Qo_normal ?_
 refine gen_Q (fun A19 E19 => ?_)
 have Y19 := szq E19
 have F19 := fsE E19 (ck F16 rfl rfl)
 clear E19 Y16 F16
 refine tk H18 ?_
 refine R_cond_b (fg0 F19) (fun c20 => ?_) (fun c20 => ?_)
 ·refine R_region (by kernel_rfl) ?_
  refine W_v rfl rfl (V_asg rfl rfl) ?_
  refine W_end ?_
  refine Qo_normal ?_
  refine gen_Q (fun A21 E21 => ?_)
  have Y21 := szq E21
  have F21 := fsE E21 (ck (fx1 F19) rfl rfl)
  clear E21 Y19 F19
  refine tk H17 ?_
  refine R_seq (fun K22 H22 => ?_)
  refine R_region (by kernel_rfl) ?_
  refine W_v rfl rfl (V_mov rfl (fg0 F21)) ?_
  refine W_v rfl rfl (V_mov rfl (es rfl (fg2 F21))) ?_
  refine W_v rfl rfl (V_nil rfl (et rfl)) ?_
  have bfn23 := SlN.le (sl_SlN (owl_at hy12 (S14.chq 1 rfl hcb1)))
  refine W_r rfl rfl (VR_ldR (ys := fstC y12) rfl (et rfl) (SlN.row fstC_len (ow_at (S14.chq 0 rfl hc1)) hv12 hy12 rfl) Try.underlying27 rfl (by kernel_rfl)) ?_
  refine W_v rfl rfl (V_mov rfl (es4 rfl (fg5 F21))) ?_
  refine W_callV rfl rfl rfl (es4 rfl (et rfl)) Try.func87 (by kernel_rfl) rfl (args2 (es rfl (et rfl)) (et rfl)) (kAdd_c (a := slot) (owl_ro hy12 (S14.chC 1 rfl hcb1)) ) ?_
  rintro _ w24 ⟨v_24, rfl, hP24⟩
  refine ⟨_, rfl, ?_⟩
  obtain ⟨c_24, hc_24, hP24⟩ := gen1 hP24
  have S24 := S14.join hP24
  replace S24 : St w Y [c_24, c1, cb1] w24 := S24
  refine W_v rfl rfl (V_mov rfl (et rfl)) ?_
  refine W_v rfl rfl (V_ext (v := .agg #[v_24]) rfl (et rfl) rfl) ?_
  refine W_v rfl rfl (V_ext (v := .bool ((adB y12.2 slot))) rfl (es rfl (et rfl)) rfl) ?_
  refine W_v rfl rfl (V_ext (v := .int .i64 ((chE y12.2 slot))) rfl (es2 rfl (et rfl)) rfl) ?_
  refine W_allocS (z := .agg #[.slice none 0 0]) (zs := #[.slice none 0 0]) S24 rfl rfl rfl (by kernel_rfl) (by rfl) (fun g25 w25 c25 hc25 S25 => ?_)
  replace S25 : St w Y [c25, c_24, c1, cb1] w25 := S25
  refine W_stAS 0 S25 rfl hc25 rfl rfl rfl (et rfl) (es3 rfl (et rfl)) (by simp only [List.all_toArray, List.all_cons, List.all_nil, SlN_one (ow_at (S25.chq 1 rfl hc_24))] <;> rfl) (by rfl) (by kernel_rfl) (fun w26 c26 hc26 S26 => ?_)
  replace S26 : St w Y [c26, c_24, c1, cb1] w26 := S26
  refine W_v rfl rfl (V_asg rfl (es2 rfl (et rfl))) ?_
  refine W_v rfl rfl (V_asg rfl (es2 rfl (et rfl))) ?_
  refine W_end ?_
  refine Qo_normal ?_
  refine gen_Q (fun A27 E27 => ?_)
  have Y27 := szq E27
  have F27 := fsE E27 (ck (cq1 (ck (cq2 (cq8 F21 rfl) rfl) rfl rfl) rfl) rfl rfl)
  clear E27 Y21 F21
  refine tk H22 ?_
  refine R_seq (fun K28 H28 => ?_)
  refine R_region (by kernel_rfl) ?_
  refine W_v rfl rfl (V_mov rfl (fg0 F27)) ?_
  refine W_v rfl rfl (V_eql rfl (et rfl) rfl) ?_
  refine W_end ?_
  refine Qo_normal ?_
  refine gen_Q (fun A29 E29 => ?_)
  have Y29 := szq E29
  have F29 := fsE E29 (ck (cq1 F27 rfl) rfl rfl)
  clear E29 Y27 F27
  refine tk H28 ?_
  refine R_cond_sure (fg0 F29) (by rw [decide_eq_true_eq]; exact hch _ (List.mem_of_getElem? (cs_mem hU1 hy12))) ?_
  refine R_region (by kernel_rfl) ?_
  refine W_v rfl rfl (V_mov rfl (fg5 F29)) ?_
  refine W_r rfl rfl (VR_ldA rfl (es rfl (fg2 F29)) (S26.obj 0 rfl hc26) Try.underlying27 rfl (by kernel_rfl)) ?_
  refine W_v rfl rfl (V_nil rfl (es rfl (et rfl))) ?_
  have S31 := S26.sel [1, 3, 2, 0] (by decide) (l' := [c_24, cb1, c1, c26]) rfl
  replace S31 : St w Y [c_24, cb1, c1, c26] w26 := S31
  refine W_stS1 (j := i.toNat) S31 hc_24 hcb1 hc1 hv12 rfl rfl rfl (et rfl) (es rfl (et rfl)) (SlN_one (ow_at (S31.chq 0 rfl hc_24))) rfl (by omega) (by kernel_rfl) (fun w30 ca30 c30 hca30 hc30 S30 => ?_)
  have hsl30 : (U1.set i.toNat (v_24, (adT y12.2 slot))).length = U1.length := List.length_set ..
  replace S30 : St w Y [ca30, c30, c26] w30 := S30
  refine W_end ?_
  refine Qo_normal ?_
  refine gen_Q (fun A32 E32 => ?_)
  have Y32 := szq E32
  have F32 := fsE E32 (cq3 F29 rfl)
  clear E32 Y29 F29
  have S33 : St w Y [ca30, c30] w30 := S30.sel [0, 1] (by decide) rfl
  refine ret_inR0 (results_0 Try.results89 ) F32.d ?_
  have S35 := S33.sel [1, 0] (by decide) (l' := [c30, ca30]) rfl
  replace S35 : St w Y [c30, ca30] w30 := S35
  obtain ⟨c34, hc34, S34⟩ := St.rmClose S35 hc30 hca30
  replace S34 : St w Y [c34] w30 := S34
  exact ⟨rfl, (S34.fin1 0 rfl (hc34.trans (by rw [csF_set, hU1, cg_at (by omega) rfl (cs_mem hU1 hy12)]; simp [stF, c20])))⟩
 refine R_skip ?_
 refine tk H17 ?_
 refine R_seq (fun K36 H36 => ?_)
 refine R_region (by kernel_rfl) ?_
 refine W_v rfl rfl (V_mov rfl (fg1 F19)) ?_
 refine W_v rfl rfl (V_mov rfl (es rfl (fg2 F19))) ?_
 refine W_v rfl rfl (V_nil rfl (et rfl)) ?_
 have bfn37 := SlN.le (sl_SlN (owl_at hy12 (S14.chq 1 rfl hcb1)))
 refine W_r rfl rfl (VR_ldR (ys := fstC y12) rfl (et rfl) (SlN.row fstC_len (ow_at (S14.chq 0 rfl hc1)) hv12 hy12 rfl) Try.underlying27 rfl (by kernel_rfl)) ?_
 refine W_v rfl rfl (V_mov rfl (es4 rfl (fg5 F19))) ?_
 refine W_callV rfl rfl rfl (es4 rfl (et rfl)) Try.func88 (by kernel_rfl) rfl (args2 (es rfl (et rfl)) (et rfl)) (kDrop_c (a := slot) (owl_ro hy12 (S14.chC 1 rfl hcb1)) ) ?_
 rintro _ w38 ⟨v_38, rfl, hP38⟩
 refine ⟨_, rfl, ?_⟩
 obtain ⟨c_38, hc_38, hP38⟩ := gen1 hP38
 have S38 := S14.join hP38
 replace S38 : St w Y [c_38, c1, cb1] w38 := S38
 refine W_v rfl rfl (V_mov rfl (et rfl)) ?_
 refine W_v rfl rfl (V_ext (v := .agg #[v_38]) rfl (et rfl) rfl) ?_
 refine W_v rfl rfl (V_ext (v := .bool ((hsB y12.2 slot))) rfl (es rfl (et rfl)) rfl) ?_
 refine W_v rfl rfl (V_ext (v := .int .i64 ((chE y12.2 slot))) rfl (es2 rfl (et rfl)) rfl) ?_
 refine W_allocS (z := .agg #[.slice none 0 0]) (zs := #[.slice none 0 0]) S38 rfl rfl rfl (by kernel_rfl) (by rfl) (fun g39 w39 c39 hc39 S39 => ?_)
 replace S39 : St w Y [c39, c_38, c1, cb1] w39 := S39
 refine W_stAS 0 S39 rfl hc39 rfl rfl rfl (et rfl) (es3 rfl (et rfl)) (by simp only [List.all_toArray, List.all_cons, List.all_nil, SlN_one (ow_at (S39.chq 1 rfl hc_38))] <;> rfl) (by rfl) (by kernel_rfl) (fun w40 c40 hc40 S40 => ?_)
 replace S40 : St w Y [c40, c_38, c1, cb1] w40 := S40
 refine W_v rfl rfl (V_asg rfl (es2 rfl (et rfl))) ?_
 refine W_v rfl rfl (V_asg rfl (es2 rfl (et rfl))) ?_
 refine W_end ?_
 refine Qo_normal ?_
 refine gen_Q (fun A41 E41 => ?_)
 have Y41 := szq E41
 have F41 := fsE E41 (ck (cq1 (ck (cq2 (cq8 F19 rfl) rfl) rfl rfl) rfl) rfl rfl)
 clear E41 Y19 F19
 refine tk H36 ?_
 refine R_seq (fun K42 H42 => ?_)
 refine R_region (by kernel_rfl) ?_
 refine W_v rfl rfl (V_mov rfl (fg0 F41)) ?_
 refine W_v rfl rfl (V_eql rfl (et rfl) rfl) ?_
 refine W_end ?_
 refine Qo_normal ?_
 refine gen_Q (fun A43 E43 => ?_)
 have Y43 := szq E43
 have F43 := fsE E43 (ck (cq1 F41 rfl) rfl rfl)
 clear E43 Y41 F41
 refine tk H42 ?_
 refine R_cond_sure (fg0 F43) (by rw [decide_eq_true_eq]; exact hch _ (List.mem_of_getElem? (cs_mem hU1 hy12))) ?_
 refine R_region (by kernel_rfl) ?_
 refine W_v rfl rfl (V_mov rfl (fg5 F43)) ?_
 refine W_r rfl rfl (VR_ldA rfl (es rfl (fg2 F43)) (S40.obj 0 rfl hc40) Try.underlying27 rfl (by kernel_rfl)) ?_
 refine W_v rfl rfl (V_nil rfl (es rfl (et rfl))) ?_
 have S45 := S40.sel [1, 3, 2, 0] (by decide) (l' := [c_38, cb1, c1, c40]) rfl
 replace S45 : St w Y [c_38, cb1, c1, c40] w40 := S45
 refine W_stS1 (j := i.toNat) S45 hc_38 hcb1 hc1 hv12 rfl rfl rfl (et rfl) (es rfl (et rfl)) (SlN_one (ow_at (S45.chq 0 rfl hc_38))) rfl (by omega) (by kernel_rfl) (fun w44 ca44 c44 hca44 hc44 S44 => ?_)
 have hsl44 : (U1.set i.toNat (v_38, (drT y12.2 slot))).length = U1.length := List.length_set ..
 replace S44 : St w Y [ca44, c44, c40] w44 := S44
 refine W_end ?_
 refine Qo_normal ?_
 refine gen_Q (fun A46 E46 => ?_)
 have Y46 := szq E46
 have F46 := fsE E46 (cq3 F43 rfl)
 clear E46 Y43 F43
 have S47 : St w Y [ca44, c44] w44 := S44.sel [0, 1] (by decide) rfl
 refine ret_inR0 (results_0 Try.results89 ) F46.d ?_
 have S49 := S47.sel [1, 0] (by decide) (l' := [c44, ca44]) rfl
 replace S49 : St w Y [c44, ca44] w44 := S49
 obtain ⟨c48, hc48, S48⟩ := St.rmClose S49 hc44 hca44
 replace S48 : St w Y [c48] w44 := S48
 exact ⟨rfl, (S48.fin1 0 rfl (hc48.trans (by rw [csF_set, hU1, cg_at (by omega) rfl (cs_mem hU1 hy12)]; simp [stF, c20])))⟩

set_option maxHeartbeats 4000000 in
theorem kchd_c {C : Int} {N : Int} {Z : Int} {K : Int} {Q : Int} {cv : Value} {X : List (List Int)} {nv : Value} {ns : List Int} {slot : Int} {old : Int} {now : Int} {w : World} (h_cv : Ro w NoX (rmR cv X)) (h_nv : Ro w NoX (il .i64 nv ns))  :
  Calls Try.prog 59 #[.agg #[.int .i64 C, .int .i64 N, .int .i64 Z, .int .i64 K, .int .i64 Q], .agg #[cv, nv], .int .i64 slot, .int .i64 old, .int .i64 now] w fun e w' => ∃ v z, e = .returned (.tuple #[.agg #[v, z], .int .i64 (chE8 C N Z K Q X ns slot old now)]) ∧ St w NoX [rmO v (chC C N Z K Q X ns slot old now), io .i64 (z) (chN C N Z K Q X ns slot old now)] w' := by
 refine calls_in 121 Try.func59 rfl rfl (by simp) (fun A0 hsz0 hdf0 hargs => ?_)
 have l0_0 := hargs 0 (.agg #[.int .i64 C, .int .i64 N, .int .i64 Z, .int .i64 K, .int .i64 Q]) rfl
 have l1_0 := hargs 1 (.agg #[cv, nv]) rfl
 have l2_0 := hargs 2 (.int .i64 slot) rfl
 have l3_0 := hargs 3 (.int .i64 old) rfl
 have l4_0 := hargs 4 (.int .i64 now) rfl
 clear hargs; replace hsz0 : SzN A0 121 := ⟨hsz0⟩
 have hS := St.nil w
 have bh_nv := SlN.le (sl_SlN h_nv.at)
 refine wp_seq_k fun K1 H1 => ?_
 refine region_in ?_
 refine W_boxS (zs := #[.int .i64 (C), .int .i64 (N), .int .i64 (Z), .int .i64 (K), .int .i64 (Q)]) hS rfl rfl rfl l0_0 (by rfl) (fun g2 w2 c2 hc2 S2 => ?_)
 replace S2 : St w NoX [c2] w2 := S2
 refine W_boxS (zs := #[cv, nv]) S2 rfl rfl rfl (es rfl l1_0) (by rfl) (fun g3 w3 c3 hc3 S3 => ?_)
 replace S3 : St w NoX [c3, c2] w3 := S3
 refine W_allocS (z := .agg #[.slice none 0 0, .slice none 0 0]) (zs := #[.slice none 0 0, .slice none 0 0]) S3 rfl rfl rfl (by kernel_rfl) (by rfl) (fun g4 w4 c4 hc4 S4 => ?_)
 replace S4 : St w NoX [c4, c3, c2] w4 := S4
 refine W_v rfl rfl (V_asg rfl rfl) ?_
 refine W_end (gen_Q fun A5 E5 => ?_)
 have hsz5 := szq E5
 have F5 := (((fsE E5 (cq1 (ck (ck (ck (FS.n hdf0) rfl rfl) rfl rfl) rfl rfl) rfl)).c (lookE E5 2 (es4 rfl l2_0))).c (lookE E5 3 (es4 rfl l3_0))).c (lookE E5 4 (es4 rfl l4_0))
 clear E5 hsz0 hdf0 l0_0 l1_0 l2_0 l3_0 l4_0
 refine tk H1 ?_
 refine wp_seq_k fun K6 H6 => ?_
 refine wp_seq_k fun K7 H7 => ?_
 refine region_in ?_
 refine W_r rfl rfl (VR_ldA rfl (fg5 F5) (S4.obj 2 rfl hc2) Try.underlying23 rfl (by kernel_rfl)) ?_
 refine W_r rfl rfl (VR_ldA rfl (es rfl (fg4 F5)) (S4.obj 1 rfl hc3) Try.underlying29 rfl (by kernel_rfl)) ?_
 refine W_call rfl rfl rfl Try.func11 (by kernel_rfl) rfl (args2 (es rfl (et rfl)) (et rfl)) (kCk8_c (C := C) (N := N) (Z := Z) (K := K) (Q := Q) (S4.roC h_cv) (S4.roC h_nv) ) ?_
 rintro _ w8 ⟨rfl, hP8⟩
 refine ⟨_, rfl, ?_⟩
 have S8 := S4.join hP8
 replace S8 : St w NoX [c4, c3, c2] w8 := S8
 refine W_v rfl rfl (V_mov rfl (et rfl)) ?_
 refine W_v rfl rfl (V_ext (v := .int .i64 ((rmP C N Z K Q X ns).1)) rfl (et rfl) rfl) ?_
 refine W_v rfl rfl (V_ext (v := .int .i64 ((rmP C N Z K Q X ns).2)) rfl (es rfl (et rfl)) rfl) ?_
 refine W_v rfl rfl (V_asg rfl (es rfl (et rfl))) ?_
 refine W_v rfl rfl (V_asg rfl (es rfl (et rfl))) ?_
 refine W_end (gen_Q fun A9 E9 => ?_)
 have hsz9 := szq E9
 have F9 := fsE E9 (ck (cq7 F5 rfl) rfl rfl)
 clear E9 hsz5 F5
 refine tk H7 ?_
 refine wp_seq_k fun K10 H10 => ?_
 refine region_in ?_
 refine W_v rfl rfl (V_mov rfl (fg0 F9)) ?_
 refine W_v rfl rfl (V_neq rfl (et rfl) rfl) ?_
 refine W_end (gen_Q fun A11 E11 => ?_)
 have hsz11 := szq E11
 have F11 := fsE E11 (ck (cq1 F9 rfl) rfl rfl)
 clear E11 hsz9 F9
 refine tk H10 ?_
 refine cond_dec (fg0 F11) (fun c12 => ?_) (fun c12 => ?_)
 ·refine wp_seq_k fun K13 H13 => ?_
  refine region_in ?_
  refine W_v rfl rfl (V_bldS (n := 2) (z := .agg #[.slice none 0 0, .slice none 0 0]) rfl (parts0) (by kernel_rfl) (by simp only [List.all_cons, List.all_nil, Bool.and_true] <;> rfl) (by kernel_rfl) (by simp only [List.foldl_cons, List.foldl_nil, Value.cells, List.setIfInBounds_toArray, List.set_cons_succ, List.set_cons_zero] <;> rfl)) ?_
  refine W_v rfl rfl (V_mov rfl (es rfl (fg1 F11))) ?_
  refine W_stAS 0 S8 rfl hc4 rfl rfl rfl (es2 rfl (fg5 F11)) (es rfl (et rfl)) (by first | (rw [List.all_toArray] <;> rfl) | (simp only [List.all_toArray, List.all_cons, List.all_nil] <;> rfl)) (by rfl) (by kernel_rfl) (fun w14 c14 hc14 S14 => ?_)
  replace S14 : St w NoX [c14, c3, c2] w14 := S14
  refine W_v rfl rfl (V_asg rfl (et rfl)) ?_
  refine W_end (gen_Q fun A15 E15 => ?_)
  have hsz15 := szq E15
  have F15 := fsE E15 (ck (cq2 F11 rfl) rfl rfl)
  clear E15 hsz11 F11
  have S16 : St w NoX [c14] w14 := S14.sel [0] (by decide) rfl
  refine tk H13 ?_
  refine wp_ret ?_
  refine then_ret ?_
  refine ret_in (results_2 Try.results59 (rv_cellA (fg6 F15) (S16.obj 0 rfl hc14) Try.underlying29 rfl (by kernel_rfl)) (rv_tmp (fg0 F15))) F15.d ?_
  obtain ⟨c17, hc17, S17⟩ := S16.rmNil
  obtain ⟨c18, hc18, S18⟩ := S17.pnil (s := 1)
  have he : chE8 C N Z K Q X ns slot old now = (rmP C N Z K Q X ns).2 := ch8_e1 (by omega)
  have hb := ch_bad (show chE8 C N Z K Q X ns slot old now ≠ 0 by omega)
  rw [he]
  exact ⟨_, _, rfl, (S18.fin2 1 rfl (hc17.trans (by rw [hb.1])) 0 rfl (hc18.trans (by rw [show chN C N Z K Q X ns slot old now = [] by exact hb.2] <;> rfl)) (by decide))⟩
 have hk0 : (rmP C N Z K Q X ns).2 = 0 := by omega
 refine wp_skip ?_
 refine tk H6 ?_
 refine wp_seq_k fun K19 H19 => ?_
 refine region_in ?_
 refine W_mkMapW S8 rfl rfl rfl (fun g20 w20 c20 hc20 S20 => ?_)
 replace S20 : St w NoX [c20, c4, c3, c2] w20 := S20
 refine W_v rfl rfl (V_asg rfl (et rfl)) ?_
 refine W_end (gen_Q fun A21 E21 => ?_)
 have hsz21 := szq E21
 have F21 := fsE E21 (ck (cq1 F11 rfl) rfl rfl)
 clear E21 hsz11 F11
 refine tk H19 ?_
 refine wp_seq_k fun K22 H22 => ?_
 refine wp_seq_k fun K23 H23 => ?_
 refine region_in ?_
 refine W_v rfl rfl (V_mov rfl (fg5 F21)) ?_
 refine W_v rfl rfl (V_mov rfl (es rfl (fg4 F21))) ?_
 refine W_v rfl rfl (V_bldS (n := 2) (z := .agg #[.int .i64 0, .int .i64 0]) rfl (parts2 (es rfl (et rfl)) (et rfl)) (by kernel_rfl) (by simp only [List.all_cons, List.all_nil, Bool.and_true] <;> rfl) (by kernel_rfl) (by simp only [List.foldl_cons, List.foldl_nil, Value.cells, List.setIfInBounds_toArray, List.set_cons_succ, List.set_cons_zero] <;> rfl)) ?_
 refine W_v rfl rfl (V_mov rfl (es3 rfl (fg5 F21))) ?_
 refine W_v rfl rfl (V_mov rfl (es4 rfl (fg3 F21))) ?_
 refine W_v rfl rfl (V_bldS (n := 2) (z := .agg #[.int .i64 0, .int .i64 0]) rfl (parts2 (es rfl (et rfl)) (et rfl)) (by kernel_rfl) (by simp only [List.all_cons, List.all_nil, Bool.and_true] <;> rfl) (by kernel_rfl) (by simp only [List.foldl_cons, List.foldl_nil, Value.cells, List.setIfInBounds_toArray, List.set_cons_succ, List.set_cons_zero] <;> rfl)) ?_
 have hll24 : [(slot, old), (slot, now)].length = 2 := rfl
 refine W_litS (vs := [.agg #[.int .i64 (slot), .int .i64 (old)], .agg #[.int .i64 (slot), .int .i64 (now)]]) (xs := ([(slot, old), (slot, now)].flatMap pkL)) 2 S20 rfl rfl rfl (parts2 (es3 rfl (et rfl)) (et rfl)) rfl Try.underlying118 (by kernel_rfl) (by decide) (by intro v hv; simp only [List.mem_cons, List.not_mem_nil, or_false] at hv; rcases hv with rfl | rfl <;> rfl) (by rfl) (fun g24 w24 c24 hc24 S24 => ?_)
 replace hc24 : c24 = ro 2 pkL (.slice (some ⟨g24, 0, none⟩) 2 2) [(slot, old), (slot, now)] := hc24
 replace S24 : St w NoX [c24, c20, c4, c3, c2] w24 := S24
 refine W_v rfl rfl (V_lenS rfl (et rfl) (ow_at (S24.chq 0 rfl hc24)) Try.underlying118) ?_
 refine W_v rfl rfl (V_mov rfl rfl) ?_
 refine W_end (gen_Q fun A25 E25 => ?_)
 have hsz25 := szq E25
 have F25 := fsE E25 (ck (ck (ck (cq6 F21 rfl) rfl rfl) rfl rfl) rfl rfl)
 clear E25 hsz21 F21
 refine tk H23 ?_
 refine wp_block ?_
 -- loop 6, round by round
 refine loopL ?_
 refine LW_step ?_
 have l42_26 : EV A25 (.tmp 42) = .int .i64 (0 : Int) := (fg0 F25)
 refine wp_seq_k fun K27 H27 => ?_
 refine region_in ?_
 refine W_v rfl rfl (V_lss rfl l42_26 (fg1 F25)) ?_
 refine W_end (gen_Q fun A28 E28 => ?_)
 have hsz28 := szq E28
 have F28 := (fsE E28 (ck (fx0 F25) rfl rfl)).c (lookE E28 42 (es rfl l42_26))
 clear E28 hsz25 F25 l42_26
 refine tk H27 ?_
 refine wp_seq_k fun K29 H29 => ?_
 refine cond_sure (fg1 F28) (by simp) ?_
 refine wp_skip ?_
 refine tk H29 ?_
 refine wp_seq_k fun K30 H30 => ?_
 refine wp_block ?_
 refine wp_seq_k fun K31 H31 => ?_
 refine region_in ?_
 have k32 : 0 < [(slot, old), (slot, now)].length := by first | (simp; done) | decide +kernel
 obtain ⟨B32, O32, C32, hv32⟩ := (SlN.blk (ow_at (S24.chq 0 rfl hc24)) (by first | (simp; done) | decide +kernel))
 refine W_v rfl rfl (V_ixS (off := O32 + 0 * 2) 2 (0) rfl (fg3 F28) (fg0 F28) hv32 (by omega) k32 Try.underlying118 (by kernel_rfl) rfl) ?_
 refine W_r rfl rfl (VR_ldR (ys := pkL (slot, old)) rfl (et rfl) (SlN.row pkL_len (ow_at (S24.chq 0 rfl hc24)) hv32 (show [(slot, old), (slot, now)][0]? = some (slot, old) from rfl) rfl) Try.underlying117 rfl (by kernel_rfl)) ?_
 refine W_allocS (z := .agg #[.int .i64 0, .int .i64 0]) (zs := #[.int .i64 0, .int .i64 0]) S24 rfl rfl rfl (by kernel_rfl) (by rfl) (fun g33 w33 c33 hc33 S33 => ?_)
 replace S33 : St w NoX [c33, c24, c20, c4, c3, c2] w33 := S33
 refine W_stAS 0 S33 rfl hc33 rfl rfl rfl (et rfl) (es rfl (et rfl)) (by first | (rw [List.all_toArray] <;> rfl) | (simp only [List.all_toArray, List.all_cons, List.all_nil] <;> rfl)) (by rfl) (by kernel_rfl) (fun w34 c34 hc34 S34 => ?_)
 replace S34 : St w NoX [c34, c24, c20, c4, c3, c2] w34 := S34
 refine W_end (gen_Q fun A35 E35 => ?_)
 have hsz35 := szq E35
 have F35 := fsE E35 (ck (cq2 F28 rfl) rfl rfl)
 clear E35 hsz28 F28
 refine tk H31 ?_
 refine wp_seq_k fun K36 H36 => ?_
 refine region_in ?_
 refine W_r rfl rfl (VR_ldA rfl (fg0 F35) (S34.obj 0 rfl hc34) Try.underlying117 rfl (by kernel_rfl)) ?_
 refine W_r rfl rfl (VR_ldA rfl (es rfl (fg13 F35)) (S34.obj 5 rfl hc2) Try.underlying23 rfl (by kernel_rfl)) ?_
 refine W_call rfl rfl rfl Try.func86 (by kernel_rfl) rfl (args2 (es rfl (et rfl)) (et rfl)) (kplc_c (slot := slot) (target := old) (C := C) (N := N) (Z := Z) (K := K) (Q := Q)  ) ?_
 rintro _ w37 ⟨rfl, hP37⟩
 refine ⟨_, rfl, ?_⟩
 have S37 := S34.join hP37
 replace S37 : St w NoX [c34, c24, c20, c4, c3, c2] w37 := S37
 refine W_v rfl rfl (V_mov rfl (et rfl)) ?_
 refine W_v rfl rfl (V_ext (v := .int .i64 ((plN C N Z K Q slot old))) rfl (et rfl) rfl) ?_
 refine W_v rfl rfl (V_ext (v := .int .i64 ((plE C N Z K Q slot old))) rfl (es rfl (et rfl)) rfl) ?_
 refine W_v rfl rfl (V_asg rfl (es rfl (et rfl))) ?_
 refine W_v rfl rfl (V_asg rfl (es rfl (et rfl))) ?_
 refine W_end (gen_Q fun A38 E38 => ?_)
 have hsz38 := szq E38
 have F38 := fsE E38 (ck (ck (cq6 F35 rfl) rfl rfl) rfl rfl)
 clear E38 hsz35 F35
 refine tk H36 ?_
 refine wp_seq_k fun K39 H39 => ?_
 refine wp_seq_k fun K40 H40 => ?_
 refine region_in ?_
 refine W_v rfl rfl (V_mov rfl (fg0 F38)) ?_
 refine W_v rfl rfl (V_neq rfl (et rfl) rfl) ?_
 refine W_end (gen_Q fun A41 E41 => ?_)
 have hsz41 := szq E41
 have F41 := fsE E41 (ck (cq1 F38 rfl) rfl rfl)
 clear E41 hsz38 F38
 refine tk H40 ?_
 refine cond_dec (fg0 F41) (fun c42 => ?_) (fun c42 => ?_)
 ·refine wp_seq_k fun K43 H43 => ?_
  refine region_in ?_
  refine W_v rfl rfl (V_bldS (n := 2) (z := .agg #[.slice none 0 0, .slice none 0 0]) rfl (parts0) (by kernel_rfl) (by simp only [List.all_cons, List.all_nil, Bool.and_true] <;> rfl) (by kernel_rfl) (by simp only [List.foldl_cons, List.foldl_nil, Value.cells, List.setIfInBounds_toArray, List.set_cons_succ, List.set_cons_zero] <;> rfl)) ?_
  refine W_v rfl rfl (V_mov rfl (es rfl (fg1 F41))) ?_
  refine W_stAS 3 S37 rfl hc4 rfl rfl rfl (es2 rfl (fg14 F41)) (es rfl (et rfl)) (by first | (rw [List.all_toArray] <;> rfl) | (simp only [List.all_toArray, List.all_cons, List.all_nil] <;> rfl)) (by rfl) (by kernel_rfl) (fun w44 c44 hc44 S44 => ?_)
  replace S44 : St w NoX [c34, c24, c20, c44, c3, c2] w44 := S44
  refine W_v rfl rfl (V_asg rfl (et rfl)) ?_
  refine W_end (gen_Q fun A45 E45 => ?_)
  have hsz45 := szq E45
  have F45 := fsE E45 (ck (cq2 F41 rfl) rfl rfl)
  clear E45 hsz41 F41
  have S46 : St w NoX [c44] w44 := S44.sel [3] (by decide) rfl
  refine tk H43 ?_
  refine wp_ret ?_
  refine then_ret ?_
  refine inb_ret ?_
  refine then_ret ?_
  refine then_ret ?_
  refine inb_ret ?_
  refine then_ret ?_
  refine ret_in (results_2 Try.results59 (rv_cellA (fg15 F45) (S46.obj 0 rfl hc44) Try.underlying29 rfl (by kernel_rfl)) (rv_tmp (fg0 F45))) F45.d ?_
  obtain ⟨c47, hc47, S47⟩ := S46.rmNil
  obtain ⟨c48, hc48, S48⟩ := S47.pnil (s := 1)
  have he : chE8 C N Z K Q X ns slot old now = (plE C N Z K Q slot old) := ch8_e2 (by omega) (by omega)
  have hb := ch_bad (show chE8 C N Z K Q X ns slot old now ≠ 0 by omega)
  rw [he]
  exact ⟨_, _, rfl, (S48.fin2 1 rfl (hc47.trans (by rw [hb.1])) 0 rfl (hc48.trans (by rw [show chN C N Z K Q X ns slot old now = [] by exact hb.2] <;> rfl)) (by decide))⟩
 refine wp_skip ?_
 refine tk H39 ?_
 refine region_in ?_
 refine W_v rfl rfl (V_mov rfl (fg8 F41)) ?_
 refine W_r rfl rfl (VR_ldA rfl (es rfl (fg3 F41)) (S37.obj 0 rfl hc34) Try.underlying117 rfl (by kernel_rfl)) ?_
 refine W_v rfl rfl (V_mov rfl (es2 rfl (fg2 F41))) ?_
 refine W_mapSetW (q := (slot, old)) 2 S37 rfl hc20 rfl rfl rfl rfl (es2 rfl (et rfl)) (es rfl (et rfl)) (et rfl) Try.underlying115 (by kernel_rfl) (fun w49 c49 hc49 S49 => ?_)
 replace hc49 : c49 = mw (.map (some g20)) (wset [] (slot, old) (plN C N Z K Q slot old)) := hc49
 replace S49 : St w NoX [c34, c24, c49, c4, c3, c2] w49 := S49
 refine W_end (gen_Q fun A50 E50 => ?_)
 have hsz50 := szq E50
 have F50 := fsE E50 (cq3 F41 rfl)
 clear E50 hsz41 F41
 have S51 : St w NoX [c24, c49, c4, c3, c2] w49 := S49.sel [1, 2, 3, 4, 5] (by decide) rfl
 refine inb_n ?_
 refine tk H30 ?_
 refine region_in ?_
 refine W_v rfl rfl (V_add rfl (fg4 F50) rfl (by omega) (by omega)) ?_
 refine W_v rfl rfl (V_mov rfl (et rfl)) ?_
 refine W_end (gen_Q fun A52 E52 => ?_)
 have hsz52 := szq E52
 have F52 := fsE E52 (ck (cq1 (fx4 F50) rfl) rfl rfl)
 clear E52 hsz50 F50
 refine then_n ?_
 refine LW_step ?_
 have l42_53 : EV A52 (.tmp 42) = .int .i64 (1 : Int) := (fg0 F52)
 refine wp_seq_k fun K54 H54 => ?_
 refine region_in ?_
 refine W_v rfl rfl (V_lss rfl l42_53 (fg6 F52)) ?_
 refine W_end (gen_Q fun A55 E55 => ?_)
 have hsz55 := szq E55
 have F55 := (fsE E55 (ck (fx4 (fx0 F52)) rfl rfl)).c (lookE E55 42 (es rfl l42_53))
 clear E55 hsz52 F52 l42_53
 refine tk H54 ?_
 refine wp_seq_k fun K56 H56 => ?_
 refine cond_sure (fg1 F55) (by simp) ?_
 refine wp_skip ?_
 refine tk H56 ?_
 refine wp_seq_k fun K57 H57 => ?_
 refine wp_block ?_
 refine wp_seq_k fun K58 H58 => ?_
 refine region_in ?_
 have k59 : 1 < [(slot, old), (slot, now)].length := by first | (simp; done) | decide +kernel
 refine W_v rfl rfl (V_ixS (off := O32 + 1 * 2) 2 (1) rfl (fg7 F55) (fg0 F55) hv32 (by omega) k59 Try.underlying118 (by kernel_rfl) rfl) ?_
 refine W_r rfl rfl (VR_ldR (ys := pkL (slot, now)) rfl (et rfl) (SlN.row pkL_len (ow_at (S51.chq 0 rfl hc24)) hv32 (show [(slot, old), (slot, now)][1]? = some (slot, now) from rfl) rfl) Try.underlying117 rfl (by kernel_rfl)) ?_
 refine W_allocS (z := .agg #[.int .i64 0, .int .i64 0]) (zs := #[.int .i64 0, .int .i64 0]) S51 rfl rfl rfl (by kernel_rfl) (by rfl) (fun g60 w60 c60 hc60 S60 => ?_)
 replace S60 : St w NoX [c60, c24, c49, c4, c3, c2] w60 := S60
 refine W_stAS 0 S60 rfl hc60 rfl rfl rfl (et rfl) (es rfl (et rfl)) (by first | (rw [List.all_toArray] <;> rfl) | (simp only [List.all_toArray, List.all_cons, List.all_nil] <;> rfl)) (by rfl) (by kernel_rfl) (fun w61 c61 hc61 S61 => ?_)
 replace S61 : St w NoX [c61, c24, c49, c4, c3, c2] w61 := S61
 refine W_end (gen_Q fun A62 E62 => ?_)
 have hsz62 := szq E62
 have F62 := fsE E62 (ck (cq2 (fx5 F55) rfl) rfl rfl)
 clear E62 hsz55 F55
 refine tk H58 ?_
 refine wp_seq_k fun K63 H63 => ?_
 refine region_in ?_
 refine W_r rfl rfl (VR_ldA rfl (fg0 F62) (S61.obj 0 rfl hc61) Try.underlying117 rfl (by kernel_rfl)) ?_
 refine W_r rfl rfl (VR_ldA rfl (es rfl (fg16 F62)) (S61.obj 5 rfl hc2) Try.underlying23 rfl (by kernel_rfl)) ?_
 refine W_call rfl rfl rfl Try.func86 (by kernel_rfl) rfl (args2 (es rfl (et rfl)) (et rfl)) (kplc_c (slot := slot) (target := now) (C := C) (N := N) (Z := Z) (K := K) (Q := Q)  ) ?_
 rintro _ w64 ⟨rfl, hP64⟩
 refine ⟨_, rfl, ?_⟩
 have S64 := S61.join hP64
 replace S64 : St w NoX [c61, c24, c49, c4, c3, c2] w64 := S64
 refine W_v rfl rfl (V_mov rfl (et rfl)) ?_
 refine W_v rfl rfl (V_ext (v := .int .i64 ((plN C N Z K Q slot now))) rfl (et rfl) rfl) ?_
 refine W_v rfl rfl (V_ext (v := .int .i64 ((plE C N Z K Q slot now))) rfl (es rfl (et rfl)) rfl) ?_
 refine W_v rfl rfl (V_asg rfl (es rfl (et rfl))) ?_
 refine W_v rfl rfl (V_asg rfl (es rfl (et rfl))) ?_
 refine W_end (gen_Q fun A65 E65 => ?_)
 have hsz65 := szq E65
 have F65 := fsE E65 (ck (ck (cq6 (fx4 (fx4 F62)) rfl) rfl rfl) rfl rfl)
 clear E65 hsz62 F62
 refine tk H63 ?_
 refine wp_seq_k fun K66 H66 => ?_
 refine wp_seq_k fun K67 H67 => ?_
 refine region_in ?_
 refine W_v rfl rfl (V_mov rfl (fg0 F65)) ?_
 refine W_v rfl rfl (V_neq rfl (et rfl) rfl) ?_
 refine W_end (gen_Q fun A68 E68 => ?_)
 have hsz68 := szq E68
 have F68 := fsE E68 (ck (cq1 (fx5 F65) rfl) rfl rfl)
 clear E68 hsz65 F65
 refine tk H67 ?_
 refine cond_dec (fg0 F68) (fun c69 => ?_) (fun c69 => ?_)
 ·refine wp_seq_k fun K70 H70 => ?_
  refine region_in ?_
  refine W_v rfl rfl (V_bldS (n := 2) (z := .agg #[.slice none 0 0, .slice none 0 0]) rfl (parts0) (by kernel_rfl) (by simp only [List.all_cons, List.all_nil, Bool.and_true] <;> rfl) (by kernel_rfl) (by simp only [List.foldl_cons, List.foldl_nil, Value.cells, List.setIfInBounds_toArray, List.set_cons_succ, List.set_cons_zero] <;> rfl)) ?_
  refine W_v rfl rfl (V_mov rfl (es rfl (fg1 F68))) ?_
  refine W_stAS 3 S64 rfl hc4 rfl rfl rfl (es2 rfl (fg14 F68)) (es rfl (et rfl)) (by first | (rw [List.all_toArray] <;> rfl) | (simp only [List.all_toArray, List.all_cons, List.all_nil] <;> rfl)) (by rfl) (by kernel_rfl) (fun w71 c71 hc71 S71 => ?_)
  replace S71 : St w NoX [c61, c24, c49, c71, c3, c2] w71 := S71
  refine W_v rfl rfl (V_asg rfl (et rfl)) ?_
  refine W_end (gen_Q fun A72 E72 => ?_)
  have hsz72 := szq E72
  have F72 := fsE E72 (ck (cq2 F68 rfl) rfl rfl)
  clear E72 hsz68 F68
  have S73 : St w NoX [c71] w71 := S71.sel [3] (by decide) rfl
  refine tk H70 ?_
  refine wp_ret ?_
  refine then_ret ?_
  refine inb_ret ?_
  refine then_ret ?_
  refine then_ret ?_
  refine inb_ret ?_
  refine then_ret ?_
  refine ret_in (results_2 Try.results59 (rv_cellA (fg15 F72) (S73.obj 0 rfl hc71) Try.underlying29 rfl (by kernel_rfl)) (rv_tmp (fg0 F72))) F72.d ?_
  obtain ⟨c74, hc74, S74⟩ := S73.rmNil
  obtain ⟨c75, hc75, S75⟩ := S74.pnil (s := 1)
  have he : chE8 C N Z K Q X ns slot old now = (plE C N Z K Q slot now) := ch8_e3 (by omega) (by omega)
  have hb := ch_bad (show chE8 C N Z K Q X ns slot old now ≠ 0 by omega)
  rw [he]
  exact ⟨_, _, rfl, (S75.fin2 1 rfl (hc74.trans (by rw [hb.1])) 0 rfl (hc75.trans (by rw [show chN C N Z K Q X ns slot old now = [] by exact hb.2] <;> rfl)) (by decide))⟩
 refine wp_skip ?_
 refine tk H66 ?_
 refine region_in ?_
 refine W_v rfl rfl (V_mov rfl (fg8 F68)) ?_
 refine W_r rfl rfl (VR_ldA rfl (es rfl (fg3 F68)) (S64.obj 0 rfl hc61) Try.underlying117 rfl (by kernel_rfl)) ?_
 refine W_v rfl rfl (V_mov rfl (es2 rfl (fg2 F68))) ?_
 refine W_mapSetW (q := (slot, now)) 2 S64 rfl hc49 rfl rfl rfl rfl (es2 rfl (et rfl)) (es rfl (et rfl)) (et rfl) Try.underlying115 (by kernel_rfl) (fun w76 c76 hc76 S76 => ?_)
 replace hc76 : c76 = mw (.map (some g20)) (wset (wset [] (slot, old) (plN C N Z K Q slot old)) (slot, now) (plN C N Z K Q slot now)) := hc76
 replace S76 : St w NoX [c61, c24, c76, c4, c3, c2] w76 := S76
 refine W_end (gen_Q fun A77 E77 => ?_)
 have hsz77 := szq E77
 have F77 := fsE E77 (cq3 F68 rfl)
 clear E77 hsz68 F68
 have S78 : St w NoX [c24, c76, c4, c3, c2] w76 := S76.sel [1, 2, 3, 4, 5] (by decide) rfl
 refine inb_n ?_
 refine tk H57 ?_
 refine region_in ?_
 refine W_v rfl rfl (V_add rfl (fg4 F77) rfl (by omega) (by omega)) ?_
 refine W_v rfl rfl (V_mov rfl (et rfl)) ?_
 refine W_end (gen_Q fun A79 E79 => ?_)
 have hsz79 := szq E79
 have F79 := fsE E79 (ck (cq1 (fx4 F77) rfl) rfl rfl)
 clear E79 hsz77 F77
 refine then_n ?_
 refine LW_step ?_
 have l42_80 : EV A79 (.tmp 42) = .int .i64 (2 : Int) := (fg0 F79)
 refine wp_seq_k fun K81 H81 => ?_
 refine region_in ?_
 refine W_v rfl rfl (V_lss rfl l42_80 (fg6 F79)) ?_
 refine W_end (gen_Q fun A82 E82 => ?_)
 have hsz82 := szq E82
 have F82 := (fsE E82 (ck (fx4 (fx0 F79)) rfl rfl)).c (lookE E82 42 (es rfl l42_80))
 clear E82 hsz79 F79 l42_80
 refine tk H81 ?_
 refine wp_seq_k fun K83 H83 => ?_
 refine cond_not (fg1 F82) (by simp) ?_
 refine wp_exit ?_
 refine then_exit ?_
 refine then_exit ?_
 refine inb_hit ?_
 refine tk H22 ?_
 refine wp_seq_k fun K84 H84 => ?_
 refine region_in ?_
 refine W_r rfl rfl (VR_ldA rfl (fg15 F82) (S78.obj 3 rfl hc3) Try.underlying29 rfl (by kernel_rfl)) ?_
 refine W_call rfl rfl rfl Try.func49 (by kernel_rfl) rfl (args1 (et rfl)) (kown8_c (S78.roC h_cv) (S78.roC h_nv) (by first | with_reducible assumption | exact gl_of (by omega))) ?_
 rintro _ w85 ⟨v_85, z_85, rfl, hP85⟩
 refine ⟨_, rfl, ?_⟩
 obtain ⟨c_85, cz_85, hc_85, hcz_85, hP85⟩ := gen2 hP85
 have S85 := S78.join hP85
 replace S85 : St w NoX [c_85, cz_85, c24, c76, c4, c3, c2] w85 := S85
 refine W_allocS (z := .agg #[.slice none 0 0, .slice none 0 0]) (zs := #[.slice none 0 0, .slice none 0 0]) S85 rfl rfl rfl (by kernel_rfl) (by rfl) (fun g86 w86 c86 hc86 S86 => ?_)
 replace S86 : St w NoX [c86, c_85, cz_85, c24, c76, c4, c3, c2] w86 := S86
 refine W_stAS 0 S86 rfl hc86 rfl rfl rfl (et rfl) (es rfl (et rfl)) (by simp only [List.all_toArray, List.all_cons, List.all_nil, rmO_one (S86.chq 1 rfl hc_85), SlN_one (ow_at (S86.chq 2 rfl hcz_85))] <;> rfl) (by rfl) (by kernel_rfl) (fun w87 c87 hc87 S87 => ?_)
 replace S87 : St w NoX [c87, c_85, cz_85, c24, c76, c4, c3, c2] w87 := S87
 refine W_end (gen_Q fun A88 E88 => ?_)
 have hsz88 := szq E88
 have F88 := fsE E88 (ck (cq2 F82 rfl) rfl rfl)
 clear E88 hsz82 F82
 have S89 : St w NoX [c87, c_85, cz_85, c76, c4] w87 := S87.sel [0, 1, 2, 4, 5] (by decide) rfl
 refine tk H84 ?_
 refine wp_seq_k fun K90 H90 => ?_
 refine wp_seq_k fun K91 H91 => ?_
 refine region_in ?_
 refine W_v rfl rfl (V_mov rfl (fg13 F88)) ?_
 refine W_v rfl rfl (V_mov rfl (es rfl (fg12 F88))) ?_
 refine W_v rfl rfl (V_eql rfl (es rfl (et rfl)) (et rfl)) ?_
 refine W_end (gen_Q fun A92 E92 => ?_)
 have hsz92 := szq E92
 have F92 := fsE E92 (ck (cq2 F88 rfl) rfl rfl)
 clear E92 hsz88 F88
 refine tk H91 ?_
 refine cond_dec (fg0 F92) (fun c93 => ?_) (fun c93 => ?_)
 ·refine wp_seq_k fun K94 H94 => ?_
  refine region_in ?_
  refine W_r rfl rfl (VR_ldA rfl (fg1 F92) (S89.obj 0 rfl hc87) Try.underlying29 rfl (by kernel_rfl)) ?_
  refine W_stAS 4 S89 rfl hc4 rfl rfl rfl (es rfl (fg16 F92)) (et rfl) (by simp only [List.all_toArray, List.all_cons, List.all_nil, rmO_one (S89.chq 1 rfl hc_85), SlN_one (ow_at (S89.chq 2 rfl hcz_85))] <;> rfl) (by rfl) (by kernel_rfl) (fun w95 c95 hc95 S95 => ?_)
  replace S95 : St w NoX [c87, c_85, cz_85, c76, c95] w95 := S95
  refine W_v rfl rfl (V_asg rfl rfl) ?_
  refine W_end (gen_Q fun A96 E96 => ?_)
  have hsz96 := szq E96
  have F96 := fsE E96 (ck (cq1 F92 rfl) rfl rfl)
  clear E96 hsz92 F92
  have S97 : St w NoX [c_85, cz_85, c95] w95 := S95.sel [1, 2, 4] (by decide) rfl
  refine tk H94 ?_
  refine wp_ret ?_
  refine then_ret ?_
  refine ret_in (results_2 Try.results59 (rv_cellA (fg17 F96) (S97.obj 2 rfl hc95) Try.underlying29 rfl (by kernel_rfl)) (rv_tmp (fg0 F96))) F96.d ?_
  have he : chE8 C N Z K Q X ns slot old now = 0 := (ch8_e3 (by omega) (by omega)).trans (by omega)
  have hb := ch_same he (by omega)
  rw [he]
  exact ⟨_, _, rfl, (S97.fin2 0 rfl (hc_85.trans (by rw [hb.1])) 1 rfl (hcz_85.trans (congrArg (io .i64 _) (by rw [hb.2]))) (by decide))⟩
 refine wp_skip ?_
 refine tk H90 ?_
 refine wp_seq_k fun K98 H98 => ?_
 refine wp_seq_k fun K99 H99 => ?_
 refine region_in ?_
 refine W_v rfl rfl (V_mov rfl (fg15 F92)) ?_
 refine W_v rfl rfl (V_mov rfl (es rfl (fg14 F92))) ?_
 refine W_v rfl rfl (V_bldS (n := 2) (z := .agg #[.int .i64 0, .int .i64 0]) rfl (parts2 (es rfl (et rfl)) (et rfl)) (by kernel_rfl) (by simp only [List.all_cons, List.all_nil, Bool.and_true] <;> rfl) (by kernel_rfl) (by simp only [List.foldl_cons, List.foldl_nil, Value.cells, List.setIfInBounds_toArray, List.set_cons_succ, List.set_cons_zero] <;> rfl)) ?_
 refine W_v rfl rfl (V_mov rfl (es3 rfl (fg15 F92))) ?_
 refine W_v rfl rfl (V_mov rfl (es4 rfl (fg13 F92))) ?_
 refine W_v rfl rfl (V_bldS (n := 2) (z := .agg #[.int .i64 0, .int .i64 0]) rfl (parts2 (es rfl (et rfl)) (et rfl)) (by kernel_rfl) (by simp only [List.all_cons, List.all_nil, Bool.and_true] <;> rfl) (by kernel_rfl) (by simp only [List.foldl_cons, List.foldl_nil, Value.cells, List.setIfInBounds_toArray, List.set_cons_succ, List.set_cons_zero] <;> rfl)) ?_
 have hll100 : [(slot, old), (slot, now)].length = 2 := rfl
 refine W_litS (vs := [.agg #[.int .i64 (slot), .int .i64 (old)], .agg #[.int .i64 (slot), .int .i64 (now)]]) (xs := ([(slot, old), (slot, now)].flatMap pkL)) 2 S89 rfl rfl rfl (parts2 (es3 rfl (et rfl)) (et rfl)) rfl Try.underlying118 (by kernel_rfl) (by decide) (by intro v hv; simp only [List.mem_cons, List.not_mem_nil, or_false] at hv; rcases hv with rfl | rfl <;> rfl) (by rfl) (fun g100 w100 c100 hc100 S100 => ?_)
 replace hc100 : c100 = ro 2 pkL (.slice (some ⟨g100, 0, none⟩) 2 2) [(slot, old), (slot, now)] := hc100
 replace S100 : St w NoX [c100, c87, c_85, cz_85, c76, c4] w100 := S100
 refine W_v rfl rfl (V_lenS rfl (et rfl) (ow_at (S100.chq 0 rfl hc100)) Try.underlying118) ?_
 refine W_v rfl rfl (V_mov rfl rfl) ?_
 refine W_end (gen_Q fun A101 E101 => ?_)
 have hsz101 := szq E101
 have F101 := fsE E101 (ck (ck (ck (cq6 F92 rfl) rfl rfl) rfl rfl) rfl rfl)
 clear E101 hsz92 F92
 refine tk H99 ?_
 refine wp_block ?_
 -- loop 17, round by round
 refine loopL ?_
 refine LW_step ?_
 have l74_102 : EV A101 (.tmp 74) = .int .i64 (0 : Int) := (fg0 F101)
 have hne : old ≠ now := by omega
 have hs0 := pl_slot (show plE C N Z K Q slot old = 0 by omega)
 obtain ⟨hch0, hchn⟩ := ch_all hk0 hs0
 have hch1 := ch_cg (i := (plN C N Z K Q slot old)) (add := decide (old = now)) hch0
 have hlen := (rm_0 hk0).2.1
 have hlen1 := cgC_len X (plN C N Z K Q slot old) slot (decide (old = now))
 have hp1 := pl_rng C N Z K Q slot old
 have hp2 := pl_rng C N Z K Q slot now
 have hdF : decide (old = now) = false := decide_eq_false hne
 have hdT : decide (now = now) = true := decide_eq_true rfl
 refine wp_seq_k fun K103 H103 => ?_
 refine region_in ?_
 refine W_v rfl rfl (V_lss rfl l74_102 (fg1 F101)) ?_
 refine W_end (gen_Q fun A104 E104 => ?_)
 have hsz104 := szq E104
 have F104 := (fsE E104 (ck (fx0 F101) rfl rfl)).c (lookE E104 74 (es rfl l74_102))
 clear E104 hsz101 F101 l74_102
 refine tk H103 ?_
 refine wp_seq_k fun K105 H105 => ?_
 refine cond_sure (fg1 F104) (by simp) ?_
 refine wp_skip ?_
 refine tk H105 ?_
 refine wp_seq_k fun K106 H106 => ?_
 refine wp_block ?_
 refine wp_seq_k fun K107 H107 => ?_
 refine region_in ?_
 have k108 : 0 < [(slot, old), (slot, now)].length := by first | (simp; done) | decide +kernel
 obtain ⟨B108, O108, C108, hv108⟩ := (SlN.blk (ow_at (S100.chq 0 rfl hc100)) (by first | (simp; done) | decide +kernel))
 refine W_v rfl rfl (V_ixS (off := O108 + 0 * 2) 2 (0) rfl (fg3 F104) (fg0 F104) hv108 (by omega) k108 Try.underlying118 (by kernel_rfl) rfl) ?_
 refine W_r rfl rfl (VR_ldR (ys := pkL (slot, old)) rfl (et rfl) (SlN.row pkL_len (ow_at (S100.chq 0 rfl hc100)) hv108 (show [(slot, old), (slot, now)][0]? = some (slot, old) from rfl) rfl) Try.underlying117 rfl (by kernel_rfl)) ?_
 refine W_allocS (z := .agg #[.int .i64 0, .int .i64 0]) (zs := #[.int .i64 0, .int .i64 0]) S100 rfl rfl rfl (by kernel_rfl) (by rfl) (fun g109 w109 c109 hc109 S109 => ?_)
 replace S109 : St w NoX [c109, c100, c87, c_85, cz_85, c76, c4] w109 := S109
 refine W_stAS 0 S109 rfl hc109 rfl rfl rfl (et rfl) (es rfl (et rfl)) (by first | (rw [List.all_toArray] <;> rfl) | (simp only [List.all_toArray, List.all_cons, List.all_nil] <;> rfl)) (by rfl) (by kernel_rfl) (fun w110 c110 hc110 S110 => ?_)
 replace S110 : St w NoX [c110, c100, c87, c_85, cz_85, c76, c4] w110 := S110
 refine W_end (gen_Q fun A111 E111 => ?_)
 have hsz111 := szq E111
 have F111 := fsE E111 (ck (cq2 F104 rfl) rfl rfl)
 clear E111 hsz104 F104
 refine tk H107 ?_
 refine wp_seq_k fun K112 H112 => ?_
 refine region_in ?_
 refine W_v rfl rfl (V_mov rfl (fg15 F111)) ?_
 refine W_r rfl rfl (VR_ldA rfl (es rfl (fg0 F111)) (S110.obj 0 rfl hc110) Try.underlying117 rfl (by kernel_rfl)) ?_
 refine W_r rfl rfl (VR_lookW (q := (slot, old)) rfl (es rfl (et rfl)) (et rfl) (S110.chq 5 rfl hc76) Try.underlying115 (by kernel_rfl) (by kernel_rfl)) ?_
 refine W_v rfl rfl (V_asg rfl (et rfl)) ?_
 refine W_end (gen_Q fun A113 E113 => ?_)
 have hsz113 := szq E113
 have F113 := fsE E113 (cq4 F111 rfl)
 have l22_113 := lookE E113 22 (et rfl)
 clear E113 hsz111 F111
 have e114 : (wget (wset (wset [] (slot, old) (plN C N Z K Q slot old)) (slot, now) (plN C N Z K Q slot now)) (slot, old)) = (plN C N Z K Q slot old) := wg_1 hne
 rw [e114] at l22_113
 refine tk H112 ?_
 refine wp_block ?_
 refine wp_seq_k fun K115 H115 => ?_
 refine region_in ?_
 refine W_v rfl rfl (V_mov rfl l22_113) ?_
 refine W_v rfl rfl (V_eql rfl (et rfl) rfl) ?_
 refine W_split rfl rfl (V_mov rfl (et rfl)) (fun c116 => ?_) (fun c116 => ?_)
 ·refine W_v rfl (wanted_t rfl rfl (et rfl) (ez rfl)) (V_fa (off' := 1) rfl (es3 rfl (fg0 F113)) Try.underlying117 rfl (by decide +kernel) rfl) ?_
  refine W_r rfl (wanted_t rfl rfl (es rfl (et rfl)) (ez rfl)) (VR_ldC rfl (et rfl) (cell_box (v := .int .i64 (old)) (S110.obj 0 rfl hc110) rfl) Try.underlying3 rfl) ?_
  refine W_v rfl (wanted_t rfl rfl (es2 rfl (et rfl)) (ez rfl)) (V_mov rfl (es5 rfl (fg18 F113))) ?_
  refine W_v rfl (wanted_t rfl rfl (es3 rfl (et rfl)) (ez rfl)) (V_eql rfl (es rfl (et rfl)) (et rfl)) ?_
  refine W_v rfl rfl (V_pickT rfl (es4 rfl (et rfl)) (et rfl)) ?_
  refine W_v rfl rfl (V_asg rfl (et rfl)) ?_
  refine W_end (gen_Q fun A117 E117 => ?_)
  have hsz117 := szq E117
  have F117 := (fsE E117 (ck (cq1 (ck (ck (ck (ck (cq3 F113 rfl) rfl rfl) rfl rfl) rfl rfl) rfl rfl) rfl) rfl rfl)).c (lookE E117 22 (es8 rfl (es rfl l22_113)))
  clear E117 hsz113 F113 l22_113
  refine tk H115 ?_
  refine cond_not (fg1 F117) (by first | (simp [c93]; done) | exact decide_eq_true (by omega) | exact decide_eq_false (by omega)) ?_
  refine wp_seq_k fun K118 H118 => ?_
  refine region_in ?_
  refine W_v rfl rfl (V_mov rfl (fg0 F117)) ?_
  refine W_v rfl rfl (V_eql rfl (et rfl) rfl) ?_
  refine W_v rfl rfl (V_asg rfl (et rfl)) ?_
  refine W_end (gen_Q fun A119 E119 => ?_)
  have hsz119 := szq E119
  have F119 := fsE E119 (ck (cq2 (fx10 (fx10 (fx10 (fx9 (fx7 (fx1 F117)))))) rfl) rfl rfl)
  clear E119 hsz117 F117
  refine tk H118 ?_
  refine cond_sure (fg0 F119) (by first | (simp [c116]; done) | exact decide_eq_true (by omega) | exact decide_eq_false (by omega)) ?_
  refine region_in ?_
  refine W_v rfl rfl (V_fa (off' := 1) rfl (fg10 F119) Try.underlying29 rfl (by decide +kernel) rfl) ?_
  refine W_r rfl rfl (VR_ldP (ys := [z_85]) rfl (et rfl) (S110.obj 2 rfl hc87) (ldP_at rfl) Try.underlying27 rfl (by kernel_rfl)) ?_
  refine W_v rfl rfl (V_mov rfl (es2 rfl (fg21 F119))) ?_
  refine W_call rfl rfl rfl Try.func88 (by kernel_rfl) rfl (args2 (es rfl (et rfl)) (et rfl)) (kDrop_c (a := slot) (S110.chC 4 rfl hcz_85).own ) ?_
  rintro _ w120 ⟨v_120, rfl, hP120⟩
  refine ⟨_, rfl, ?_⟩
  obtain ⟨c_120, hc_120, hP120⟩ := gen1 hP120
  have S120 := S110.join hP120
  replace S120 : St w NoX [c_120, c110, c100, c87, c_85, cz_85, c76, c4] w120 := S120
  refine W_v rfl rfl (V_mov rfl (et rfl)) ?_
  refine W_v rfl rfl (V_ext (v := .agg #[v_120]) rfl (et rfl) rfl) ?_
  refine W_v rfl rfl (V_ext (v := .bool ((hsB ns slot))) rfl (es rfl (et rfl)) rfl) ?_
  refine W_v rfl rfl (V_ext (v := .int .i64 ((chE ns slot))) rfl (es2 rfl (et rfl)) rfl) ?_
  refine W_v rfl rfl (V_fa (off' := 1) rfl (es8 rfl (fg10 F119)) Try.underlying29 rfl (by decide +kernel) rfl) ?_
  refine W_stAM (ys := [v_120]) (zs' := #[v_85, v_120]) 3 S120 rfl hc87 rfl rfl rfl (et rfl) (es3 rfl (et rfl)) (by intro u hu; simp only [List.mem_cons, List.not_mem_nil, or_false] at hu; rcases hu with rfl <;> first | exact SlN_one (ow_at (S120.chq 0 rfl hc_120))) (by simp) (by kernel_rfl) rfl (fun w121 c121 hc121 S121 => ?_)
  replace S121 : St w NoX [c_120, c110, c100, c121, c_85, cz_85, c76, c4] w121 := S121
  refine W_end (gen_Q fun A122 E122 => ?_)
  have hsz122 := szq E122
  have F122 := fsE E122 (cq1 (cq8 (fx0 F119) rfl) rfl)
  clear E122 hsz119 F119
  have S123 : St w NoX [c_120, c110, c100, c121, c_85, c76, c4] w121 := S121.sel [0, 1, 2, 3, 4, 6, 7] (by decide) rfl
  refine inb_n ?_
  refine inb_n ?_
  refine tk H106 ?_
  refine region_in ?_
  refine W_v rfl rfl (V_add rfl (fg6 F122) rfl (by omega) (by omega)) ?_
  refine W_v rfl rfl (V_mov rfl (et rfl)) ?_
  refine W_end (gen_Q fun A124 E124 => ?_)
  have hsz124 := szq E124
  have F124 := fsE E124 (ck (cq1 (fx6 F122) rfl) rfl rfl)
  clear E124 hsz122 F122
  refine then_n ?_
  refine LW_step ?_
  have l74_125 : EV A124 (.tmp 74) = .int .i64 (1 : Int) := (fg0 F124)
  refine wp_seq_k fun K126 H126 => ?_
  refine region_in ?_
  refine W_v rfl rfl (V_lss rfl l74_125 (fg7 F124)) ?_
  refine W_end (gen_Q fun A127 E127 => ?_)
  have hsz127 := szq E127
  have F127 := (fsE E127 (ck (fx0 F124) rfl rfl)).c (lookE E127 74 (es rfl l74_125))
  clear E127 hsz124 F124 l74_125
  refine tk H126 ?_
  refine wp_seq_k fun K128 H128 => ?_
  refine cond_sure (fg1 F127) (by simp) ?_
  refine wp_skip ?_
  refine tk H128 ?_
  refine wp_seq_k fun K129 H129 => ?_
  refine wp_block ?_
  refine wp_seq_k fun K130 H130 => ?_
  refine region_in ?_
  have k131 : 1 < [(slot, old), (slot, now)].length := by first | (simp; done) | decide +kernel
  refine W_v rfl rfl (V_ixS (off := O108 + 1 * 2) 2 (1) rfl (fg9 F127) (fg0 F127) hv108 (by omega) k131 Try.underlying118 (by kernel_rfl) rfl) ?_
  refine W_r rfl rfl (VR_ldR (ys := pkL (slot, now)) rfl (et rfl) (SlN.row pkL_len (ow_at (S123.chq 2 rfl hc100)) hv108 (show [(slot, old), (slot, now)][1]? = some (slot, now) from rfl) rfl) Try.underlying117 rfl (by kernel_rfl)) ?_
  refine W_allocS (z := .agg #[.int .i64 0, .int .i64 0]) (zs := #[.int .i64 0, .int .i64 0]) S123 rfl rfl rfl (by kernel_rfl) (by rfl) (fun g132 w132 c132 hc132 S132 => ?_)
  replace S132 : St w NoX [c132, c_120, c110, c100, c121, c_85, c76, c4] w132 := S132
  refine W_stAS 0 S132 rfl hc132 rfl rfl rfl (et rfl) (es rfl (et rfl)) (by first | (rw [List.all_toArray] <;> rfl) | (simp only [List.all_toArray, List.all_cons, List.all_nil] <;> rfl)) (by rfl) (by kernel_rfl) (fun w133 c133 hc133 S133 => ?_)
  replace S133 : St w NoX [c133, c_120, c110, c100, c121, c_85, c76, c4] w133 := S133
  refine W_end (gen_Q fun A134 E134 => ?_)
  have hsz134 := szq E134
  have F134 := fsE E134 (ck (cq2 (fx6 (fx1 F127)) rfl) rfl rfl)
  clear E134 hsz127 F127
  refine tk H130 ?_
  refine wp_seq_k fun K135 H135 => ?_
  refine region_in ?_
  refine W_v rfl rfl (V_mov rfl (fg15 F134)) ?_
  refine W_r rfl rfl (VR_ldA rfl (es rfl (fg0 F134)) (S133.obj 0 rfl hc133) Try.underlying117 rfl (by kernel_rfl)) ?_
  refine W_r rfl rfl (VR_lookW (q := (slot, now)) rfl (es rfl (et rfl)) (et rfl) (S133.chq 6 rfl hc76) Try.underlying115 (by kernel_rfl) (by kernel_rfl)) ?_
  refine W_v rfl rfl (V_asg rfl (et rfl)) ?_
  refine W_end (gen_Q fun A136 E136 => ?_)
  have hsz136 := szq E136
  have F136 := fsE E136 (cq4 (fx2 F134) rfl)
  have l22_136 := lookE E136 22 (et rfl)
  clear E136 hsz134 F134
  have e137 : (wget (wset (wset [] (slot, old) (plN C N Z K Q slot old)) (slot, now) (plN C N Z K Q slot now)) (slot, now)) = (plN C N Z K Q slot now) := wg_2 hne
  rw [e137] at l22_136
  refine tk H135 ?_
  refine wp_block ?_
  refine wp_seq_k fun K138 H138 => ?_
  refine region_in ?_
  refine W_v rfl rfl (V_mov rfl l22_136) ?_
  refine W_v rfl rfl (V_eql rfl (et rfl) rfl) ?_
  refine W_split rfl rfl (V_mov rfl (et rfl)) (fun c139 => ?_) (fun c139 => ?_)
  ·refine W_v rfl (wanted_t rfl rfl (et rfl) (ez rfl)) (V_fa (off' := 1) rfl (es3 rfl (fg0 F136)) Try.underlying117 rfl (by decide +kernel) rfl) ?_
   refine W_r rfl (wanted_t rfl rfl (es rfl (et rfl)) (ez rfl)) (VR_ldC rfl (et rfl) (cell_box (v := .int .i64 (now)) (S133.obj 0 rfl hc133) rfl) Try.underlying3 rfl) ?_
   refine W_v rfl (wanted_t rfl rfl (es2 rfl (et rfl)) (ez rfl)) (V_mov rfl (es5 rfl (fg17 F136))) ?_
   refine W_v rfl (wanted_t rfl rfl (es3 rfl (et rfl)) (ez rfl)) (V_eql rfl (es rfl (et rfl)) (et rfl)) ?_
   refine W_v rfl rfl (V_pickT rfl (es4 rfl (et rfl)) (et rfl)) ?_
   refine W_v rfl rfl (V_asg rfl (et rfl)) ?_
   refine W_end (gen_Q fun A140 E140 => ?_)
   have hsz140 := szq E140
   have F140 := (fsE E140 (ck (cq1 (ck (ck (ck (ck (cq3 (fx2 (fx2 (fx2 (fx2 F136)))) rfl) rfl rfl) rfl rfl) rfl rfl) rfl rfl) rfl) rfl rfl)).c (lookE E140 22 (es8 rfl (es rfl l22_136)))
   clear E140 hsz136 F136 l22_136
   have S141 : St w NoX [c133, c_120, c100, c121, c_85, c76, c4] w133 := S133.sel [0, 1, 3, 4, 5, 6, 7] (by decide) rfl
   refine tk H138 ?_
   refine cond_sure (fg1 F140) (by simp) ?_
   refine region_in ?_
   refine W_v rfl rfl (V_fa (off' := 1) rfl (fg10 F140) Try.underlying29 rfl (by decide +kernel) rfl) ?_
   refine W_r rfl rfl (VR_ldP (ys := [v_120]) rfl (et rfl) (S141.obj 3 rfl hc121) (ldP_at rfl) Try.underlying27 rfl (by kernel_rfl)) ?_
   refine W_v rfl rfl (V_mov rfl (es2 rfl (fg21 F140))) ?_
   refine W_call rfl rfl rfl Try.func87 (by kernel_rfl) rfl (args2 (es rfl (et rfl)) (et rfl)) (kAdd_c (a := slot) (S141.chC 1 rfl hc_120).own ) ?_
   rintro _ w142 ⟨v_142, rfl, hP142⟩
   refine ⟨_, rfl, ?_⟩
   obtain ⟨c_142, hc_142, hP142⟩ := gen1 hP142
   have S142 := S141.join hP142
   replace S142 : St w NoX [c_142, c133, c_120, c100, c121, c_85, c76, c4] w142 := S142
   refine W_v rfl rfl (V_mov rfl (et rfl)) ?_
   refine W_v rfl rfl (V_ext (v := .agg #[v_142]) rfl (et rfl) rfl) ?_
   refine W_v rfl rfl (V_ext (v := .bool ((adB (drT ns slot) slot))) rfl (es rfl (et rfl)) rfl) ?_
   refine W_v rfl rfl (V_ext (v := .int .i64 ((chE (drT ns slot) slot))) rfl (es2 rfl (et rfl)) rfl) ?_
   refine W_v rfl rfl (V_fa (off' := 1) rfl (es8 rfl (fg10 F140)) Try.underlying29 rfl (by decide +kernel) rfl) ?_
   refine W_stAM (ys := [v_142]) (zs' := #[v_85, v_142]) 4 S142 rfl hc121 rfl rfl rfl (et rfl) (es3 rfl (et rfl)) (by intro u hu; simp only [List.mem_cons, List.not_mem_nil, or_false] at hu; rcases hu with rfl <;> first | exact SlN_one (ow_at (S142.chq 0 rfl hc_142))) (by simp) (by kernel_rfl) rfl (fun w143 c143 hc143 S143 => ?_)
   replace S143 : St w NoX [c_142, c133, c_120, c100, c143, c_85, c76, c4] w143 := S143
   refine W_end (gen_Q fun A144 E144 => ?_)
   have hsz144 := szq E144
   have F144 := fsE E144 (cq1 (cq8 (fx0 F140) rfl) rfl)
   clear E144 hsz140 F140
   have S145 : St w NoX [c_142, c133, c100, c143, c_85, c76, c4] w143 := S143.sel [0, 1, 3, 4, 5, 6, 7] (by decide) rfl
   refine inb_n ?_
   refine inb_n ?_
   refine tk H129 ?_
   refine region_in ?_
   refine W_v rfl rfl (V_add rfl (fg6 F144) rfl (by omega) (by omega)) ?_
   refine W_v rfl rfl (V_mov rfl (et rfl)) ?_
   refine W_end (gen_Q fun A146 E146 => ?_)
   have hsz146 := szq E146
   have F146 := fsE E146 (ck (cq1 (fx6 F144) rfl) rfl rfl)
   clear E146 hsz144 F144
   refine then_n ?_
   refine LW_step ?_
   have l74_147 : EV A146 (.tmp 74) = .int .i64 (2 : Int) := (fg0 F146)
   refine wp_seq_k fun K148 H148 => ?_
   refine region_in ?_
   refine W_v rfl rfl (V_lss rfl l74_147 (fg7 F146)) ?_
   refine W_end (gen_Q fun A149 E149 => ?_)
   have hsz149 := szq E149
   have F149 := (fsE E149 (ck (fx0 F146) rfl rfl)).c (lookE E149 74 (es rfl l74_147))
   clear E149 hsz146 F146 l74_147
   refine tk H148 ?_
   refine wp_seq_k fun K150 H150 => ?_
   refine cond_not (fg1 F149) (by simp) ?_
   refine wp_exit ?_
   refine then_exit ?_
   refine then_exit ?_
   refine inb_hit ?_
   refine tk H98 ?_
   refine wp_seq_k fun K151 H151 => ?_
   refine region_in ?_
   refine W_r rfl rfl (VR_ldA rfl (fg10 F149) (S145.obj 3 rfl hc143) Try.underlying29 rfl (by kernel_rfl)) ?_
   refine W_stAS 6 S145 rfl hc4 rfl rfl rfl (es rfl (fg22 F149)) (et rfl) (by simp only [List.all_toArray, List.all_cons, List.all_nil, rmO_one (S145.chq 4 rfl hc_85), SlN_one (ow_at (S145.chq 0 rfl hc_142))] <;> rfl) (by rfl) (by kernel_rfl) (fun w152 c152 hc152 S152 => ?_)
   replace S152 : St w NoX [c_142, c133, c100, c143, c_85, c76, c152] w152 := S152
   refine W_v rfl rfl (V_asg rfl rfl) ?_
   refine W_end (gen_Q fun A153 E153 => ?_)
   have hsz153 := szq E153
   have F153 := fsE E153 (ck (cq1 (fx0 F149) rfl) rfl rfl)
   clear E153 hsz149 F149
   have S154 : St w NoX [c_142, c_85, c152] w152 := S152.sel [0, 4, 6] (by decide) rfl
   refine tk H151 ?_
   refine wp_ret ?_
   refine ret_in (results_2 Try.results59 (rv_cellA (fg22 F153) (S154.obj 2 rfl hc152) Try.underlying29 rfl (by kernel_rfl)) (rv_tmp (fg0 F153))) F153.d ?_
   have he : chE8 C N Z K Q X ns slot old now = 0 := (ch8_e3 (by omega) (by omega)).trans (by omega)
   have hb := ch_k he hne
   rw [he]
   exact ⟨_, _, rfl, (S154.fin2 1 rfl (hc_85.trans (congrArg (rmO _) (by rw [hb.1, cg_neg (i := (plN C N Z K Q slot now)) (by omega), cg_neg (i := (plN C N Z K Q slot old)) (by omega)]))) 0 rfl (hc_142.trans (congrArg (io .i64 _) (by rw [hb.2, cgN_at (i := (plN C N Z K Q slot now)) (by omega), cgN_at (i := (plN C N Z K Q slot old)) (by omega)] <;> rfl))) (by decide))⟩
  refine W_off rfl (wanted_f rfl rfl (et rfl) (ez rfl) rfl) ?_
  refine W_off rfl (wanted_f rfl rfl (es rfl (et rfl)) (ez rfl) rfl) ?_
  refine W_off rfl (wanted_f rfl rfl (es2 rfl (et rfl)) (ez rfl) rfl) ?_
  refine W_off rfl (wanted_f rfl rfl (es3 rfl (et rfl)) (ez rfl) rfl) ?_
  refine W_v rfl rfl (V_pickF rfl (es4 rfl (et rfl)) rfl) ?_
  refine W_v rfl rfl (V_asg rfl (et rfl)) ?_
  refine W_end (gen_Q fun A155 E155 => ?_)
  have hsz155 := szq E155
  have F155 := (fsE E155 (ck (cq1 (ck (ck (ck (ck (cq3 (fx2 (fx2 (fx2 (fx2 F136)))) rfl) rfl rfl) rfl rfl) rfl rfl) rfl rfl) rfl) rfl rfl)).c (lookE E155 22 (es8 rfl (es rfl l22_136)))
  clear E155 hsz136 F136 l22_136
  have S156 : St w NoX [c133, c_120, c100, c121, c_85, c76, c4] w133 := S133.sel [0, 1, 3, 4, 5, 6, 7] (by decide) rfl
  refine tk H138 ?_
  refine cond_f (fg1 F155) ?_
  refine wp_seq_k fun K157 H157 => ?_
  refine region_in ?_
  refine W_v rfl rfl (V_mov rfl (fg0 F155)) ?_
  refine W_v rfl rfl (V_eql rfl (et rfl) rfl) ?_
  refine W_v rfl rfl (V_asg rfl (et rfl)) ?_
  refine W_end (gen_Q fun A158 E158 => ?_)
  have hsz158 := szq E158
  have F158 := fsE E158 (ck (cq2 (fx1 F155) rfl) rfl rfl)
  clear E158 hsz155 F155
  refine tk H157 ?_
  refine cond_not (fg0 F158) (by first | (simp [c139]; done) | exact decide_eq_true (by omega) | exact decide_eq_false (by omega)) ?_
  refine region_in ?_
  refine W_r rfl rfl (VR_ldA rfl (fg10 F158) (S156.obj 3 rfl hc121) Try.underlying29 rfl (by kernel_rfl)) ?_
  refine W_v rfl rfl (V_mov rfl (es rfl (fg1 F158))) ?_
  refine W_v rfl rfl (V_mov rfl (es2 rfl (fg21 F158))) ?_
  refine W_v rfl rfl (V_fa (off' := 1) rfl (es3 rfl (fg6 F158)) Try.underlying117 rfl (by decide +kernel) rfl) ?_
  refine W_r rfl rfl (VR_ldC rfl (et rfl) (cell_box (v := .int .i64 (now)) (S156.obj 0 rfl hc133) rfl) Try.underlying3 rfl) ?_
  refine W_v rfl rfl (V_mov rfl (es5 rfl (fg19 F158))) ?_
  refine W_v rfl rfl (V_eql rfl (es rfl (et rfl)) (et rfl)) ?_
  have S159 := S156.sel [4, 0, 1, 2, 3, 5, 6] (by decide) (l' := [c_85, c133, c_120, c100, c121, c76, c4]) rfl
  replace S159 : St w NoX [c_85, c133, c_120, c100, c121, c76, c4] w133 := S159
  obtain ⟨Y160, hP160, hR160, hF160, hB160⟩ := St.call (pre := [c_85]) (fr := [c133, c_120, c100, c121, c76, c4]) S159
  rw [hc_85] at hP160
  refine W_call rfl rfl rfl Try.func89 (by kernel_rfl) rfl (args4 (es6 rfl (et rfl)) (es5 rfl (et rfl)) (es4 rfl (et rfl)) (et rfl)) (kchg_c (i := (plN C N Z K Q slot now)) (slot := slot) (add := decide (now = now))  hP160 (by omega) (by with_reducible assumption)) ?_
  rintro _ w161 ⟨rfl, hP161⟩
  refine ⟨_, rfl, ?_⟩
  obtain ⟨c_161, hc_161, hP161⟩ := gen1 hP161
  have S161 := hB160 _ _ hP161
  replace S161 : St w NoX [c_161, c133, c_120, c100, c121, c76, c4] w161 := S161
  refine W_end (gen_Q fun A162 E162 => ?_)
  have hsz162 := szq E162
  have F162 := fsE E162 (cq8 (fx0 F158) rfl)
  clear E162 hsz158 F158
  have S163 : St w NoX [c_161, c_120, c100, c121, c76, c4] w161 := S161.sel [0, 2, 3, 4, 5, 6] (by decide) rfl
  refine inb_n ?_
  refine inb_n ?_
  refine tk H129 ?_
  refine region_in ?_
  refine W_v rfl rfl (V_add rfl (fg6 F162) rfl (by omega) (by omega)) ?_
  refine W_v rfl rfl (V_mov rfl (et rfl)) ?_
  refine W_end (gen_Q fun A164 E164 => ?_)
  have hsz164 := szq E164
  have F164 := fsE E164 (ck (cq1 (fx6 F162) rfl) rfl rfl)
  clear E164 hsz162 F162
  refine then_n ?_
  refine LW_step ?_
  have l74_165 : EV A164 (.tmp 74) = .int .i64 (2 : Int) := (fg0 F164)
  refine wp_seq_k fun K166 H166 => ?_
  refine region_in ?_
  refine W_v rfl rfl (V_lss rfl l74_165 (fg7 F164)) ?_
  refine W_end (gen_Q fun A167 E167 => ?_)
  have hsz167 := szq E167
  have F167 := (fsE E167 (ck (fx0 F164) rfl rfl)).c (lookE E167 74 (es rfl l74_165))
  clear E167 hsz164 F164 l74_165
  refine tk H166 ?_
  refine wp_seq_k fun K168 H168 => ?_
  refine cond_not (fg1 F167) (by simp) ?_
  refine wp_exit ?_
  refine then_exit ?_
  refine then_exit ?_
  refine inb_hit ?_
  refine tk H98 ?_
  refine wp_seq_k fun K169 H169 => ?_
  refine region_in ?_
  refine W_r rfl rfl (VR_ldA rfl (fg10 F167) (S163.obj 3 rfl hc121) Try.underlying29 rfl (by kernel_rfl)) ?_
  refine W_stAS 5 S163 rfl hc4 rfl rfl rfl (es rfl (fg22 F167)) (et rfl) (by simp only [List.all_toArray, List.all_cons, List.all_nil, rmO_one (S163.chq 0 rfl hc_161), SlN_one (ow_at (S163.chq 1 rfl hc_120))] <;> rfl) (by rfl) (by kernel_rfl) (fun w170 c170 hc170 S170 => ?_)
  replace S170 : St w NoX [c_161, c_120, c100, c121, c76, c170] w170 := S170
  refine W_v rfl rfl (V_asg rfl rfl) ?_
  refine W_end (gen_Q fun A171 E171 => ?_)
  have hsz171 := szq E171
  have F171 := fsE E171 (ck (cq1 (fx0 F167) rfl) rfl rfl)
  clear E171 hsz167 F167
  have S172 : St w NoX [c_161, c_120, c170] w170 := S170.sel [0, 1, 5] (by decide) rfl
  refine tk H169 ?_
  refine wp_ret ?_
  refine ret_in (results_2 Try.results59 (rv_cellA (fg22 F171) (S172.obj 2 rfl hc170) Try.underlying29 rfl (by kernel_rfl)) (rv_tmp (fg0 F171))) F171.d ?_
  have he : chE8 C N Z K Q X ns slot old now = 0 := (ch8_e3 (by omega) (by omega)).trans (by omega)
  have hb := ch_k he hne
  rw [he]
  exact ⟨_, _, rfl, (S172.fin2 0 rfl (hc_161.trans (congrArg (rmO _) (by rw [hb.1, cg_neg (i := (plN C N Z K Q slot old)) (by omega)]; simp [hdF]))) 1 rfl (hc_120.trans (congrArg (io .i64 _) (by rw [hb.2, cgN_no (i := (plN C N Z K Q slot now)) (by omega), cgN_at (i := (plN C N Z K Q slot old)) (by omega)] <;> rfl))) (by decide))⟩
 refine W_off rfl (wanted_f rfl rfl (et rfl) (ez rfl) rfl) ?_
 refine W_off rfl (wanted_f rfl rfl (es rfl (et rfl)) (ez rfl) rfl) ?_
 refine W_off rfl (wanted_f rfl rfl (es2 rfl (et rfl)) (ez rfl) rfl) ?_
 refine W_off rfl (wanted_f rfl rfl (es3 rfl (et rfl)) (ez rfl) rfl) ?_
 refine W_v rfl rfl (V_pickF rfl (es4 rfl (et rfl)) rfl) ?_
 refine W_v rfl rfl (V_asg rfl (et rfl)) ?_
 refine W_end (gen_Q fun A173 E173 => ?_)
 have hsz173 := szq E173
 have F173 := (fsE E173 (ck (cq1 (ck (ck (ck (ck (cq3 F113 rfl) rfl rfl) rfl rfl) rfl rfl) rfl rfl) rfl) rfl rfl)).c (lookE E173 22 (es8 rfl (es rfl l22_113)))
 clear E173 hsz113 F113 l22_113
 refine tk H115 ?_
 refine cond_f (fg1 F173) ?_
 refine wp_seq_k fun K174 H174 => ?_
 refine region_in ?_
 refine W_v rfl rfl (V_mov rfl (fg0 F173)) ?_
 refine W_v rfl rfl (V_eql rfl (et rfl) rfl) ?_
 refine W_v rfl rfl (V_asg rfl (et rfl)) ?_
 refine W_end (gen_Q fun A175 E175 => ?_)
 have hsz175 := szq E175
 have F175 := fsE E175 (ck (cq2 (fx10 (fx10 (fx10 (fx9 (fx7 (fx1 F173)))))) rfl) rfl rfl)
 clear E175 hsz173 F173
 refine tk H174 ?_
 refine cond_not (fg0 F175) (by first | (simp [c116]; done) | exact decide_eq_true (by omega) | exact decide_eq_false (by omega)) ?_
 refine region_in ?_
 refine W_r rfl rfl (VR_ldA rfl (fg10 F175) (S110.obj 2 rfl hc87) Try.underlying29 rfl (by kernel_rfl)) ?_
 refine W_v rfl rfl (V_mov rfl (es rfl (fg1 F175))) ?_
 refine W_v rfl rfl (V_mov rfl (es2 rfl (fg21 F175))) ?_
 refine W_v rfl rfl (V_fa (off' := 1) rfl (es3 rfl (fg6 F175)) Try.underlying117 rfl (by decide +kernel) rfl) ?_
 refine W_r rfl rfl (VR_ldC rfl (et rfl) (cell_box (v := .int .i64 (old)) (S110.obj 0 rfl hc110) rfl) Try.underlying3 rfl) ?_
 refine W_v rfl rfl (V_mov rfl (es5 rfl (fg19 F175))) ?_
 refine W_v rfl rfl (V_eql rfl (es rfl (et rfl)) (et rfl)) ?_
 have S176 := S110.sel [3, 0, 1, 2, 4, 5, 6] (by decide) (l' := [c_85, c110, c100, c87, cz_85, c76, c4]) rfl
 replace S176 : St w NoX [c_85, c110, c100, c87, cz_85, c76, c4] w110 := S176
 obtain ⟨Y177, hP177, hR177, hF177, hB177⟩ := St.call (pre := [c_85]) (fr := [c110, c100, c87, cz_85, c76, c4]) S176
 rw [hc_85] at hP177
 refine W_call rfl rfl rfl Try.func89 (by kernel_rfl) rfl (args4 (es6 rfl (et rfl)) (es5 rfl (et rfl)) (es4 rfl (et rfl)) (et rfl)) (kchg_c (i := (plN C N Z K Q slot old)) (slot := slot) (add := decide (old = now))  hP177 (by omega) (by with_reducible assumption)) ?_
 rintro _ w178 ⟨rfl, hP178⟩
 refine ⟨_, rfl, ?_⟩
 obtain ⟨c_178, hc_178, hP178⟩ := gen1 hP178
 have S178 := hB177 _ _ hP178
 replace S178 : St w NoX [c_178, c110, c100, c87, cz_85, c76, c4] w178 := S178
 refine W_end (gen_Q fun A179 E179 => ?_)
 have hsz179 := szq E179
 have F179 := fsE E179 (cq8 (fx0 F175) rfl)
 clear E179 hsz175 F175
 have S180 : St w NoX [c_178, c100, c87, cz_85, c76, c4] w178 := S178.sel [0, 2, 3, 4, 5, 6] (by decide) rfl
 refine inb_n ?_
 refine inb_n ?_
 refine tk H106 ?_
 refine region_in ?_
 refine W_v rfl rfl (V_add rfl (fg6 F179) rfl (by omega) (by omega)) ?_
 refine W_v rfl rfl (V_mov rfl (et rfl)) ?_
 refine W_end (gen_Q fun A181 E181 => ?_)
 have hsz181 := szq E181
 have F181 := fsE E181 (ck (cq1 (fx6 F179) rfl) rfl rfl)
 clear E181 hsz179 F179
 refine then_n ?_
 refine LW_step ?_
 have l74_182 : EV A181 (.tmp 74) = .int .i64 (1 : Int) := (fg0 F181)
 refine wp_seq_k fun K183 H183 => ?_
 refine region_in ?_
 refine W_v rfl rfl (V_lss rfl l74_182 (fg7 F181)) ?_
 refine W_end (gen_Q fun A184 E184 => ?_)
 have hsz184 := szq E184
 have F184 := (fsE E184 (ck (fx0 F181) rfl rfl)).c (lookE E184 74 (es rfl l74_182))
 clear E184 hsz181 F181 l74_182
 refine tk H183 ?_
 refine wp_seq_k fun K185 H185 => ?_
 refine cond_sure (fg1 F184) (by simp) ?_
 refine wp_skip ?_
 refine tk H185 ?_
 refine wp_seq_k fun K186 H186 => ?_
 refine wp_block ?_
 refine wp_seq_k fun K187 H187 => ?_
 refine region_in ?_
 have k188 : 1 < [(slot, old), (slot, now)].length := by first | (simp; done) | decide +kernel
 refine W_v rfl rfl (V_ixS (off := O108 + 1 * 2) 2 (1) rfl (fg9 F184) (fg0 F184) hv108 (by omega) k188 Try.underlying118 (by kernel_rfl) rfl) ?_
 refine W_r rfl rfl (VR_ldR (ys := pkL (slot, now)) rfl (et rfl) (SlN.row pkL_len (ow_at (S180.chq 1 rfl hc100)) hv108 (show [(slot, old), (slot, now)][1]? = some (slot, now) from rfl) rfl) Try.underlying117 rfl (by kernel_rfl)) ?_
 refine W_allocS (z := .agg #[.int .i64 0, .int .i64 0]) (zs := #[.int .i64 0, .int .i64 0]) S180 rfl rfl rfl (by kernel_rfl) (by rfl) (fun g189 w189 c189 hc189 S189 => ?_)
 replace S189 : St w NoX [c189, c_178, c100, c87, cz_85, c76, c4] w189 := S189
 refine W_stAS 0 S189 rfl hc189 rfl rfl rfl (et rfl) (es rfl (et rfl)) (by first | (rw [List.all_toArray] <;> rfl) | (simp only [List.all_toArray, List.all_cons, List.all_nil] <;> rfl)) (by rfl) (by kernel_rfl) (fun w190 c190 hc190 S190 => ?_)
 replace S190 : St w NoX [c190, c_178, c100, c87, cz_85, c76, c4] w190 := S190
 refine W_end (gen_Q fun A191 E191 => ?_)
 have hsz191 := szq E191
 have F191 := fsE E191 (ck (cq2 (fx6 (fx1 F184)) rfl) rfl rfl)
 clear E191 hsz184 F184
 refine tk H187 ?_
 refine wp_seq_k fun K192 H192 => ?_
 refine region_in ?_
 refine W_v rfl rfl (V_mov rfl (fg15 F191)) ?_
 refine W_r rfl rfl (VR_ldA rfl (es rfl (fg0 F191)) (S190.obj 0 rfl hc190) Try.underlying117 rfl (by kernel_rfl)) ?_
 refine W_r rfl rfl (VR_lookW (q := (slot, now)) rfl (es rfl (et rfl)) (et rfl) (S190.chq 5 rfl hc76) Try.underlying115 (by kernel_rfl) (by kernel_rfl)) ?_
 refine W_v rfl rfl (V_asg rfl (et rfl)) ?_
 refine W_end (gen_Q fun A193 E193 => ?_)
 have hsz193 := szq E193
 have F193 := fsE E193 (cq4 (fx2 F191) rfl)
 have l22_193 := lookE E193 22 (et rfl)
 clear E193 hsz191 F191
 have e194 : (wget (wset (wset [] (slot, old) (plN C N Z K Q slot old)) (slot, now) (plN C N Z K Q slot now)) (slot, now)) = (plN C N Z K Q slot now) := wg_2 hne
 rw [e194] at l22_193
 refine tk H192 ?_
 refine wp_block ?_
 refine wp_seq_k fun K195 H195 => ?_
 refine region_in ?_
 refine W_v rfl rfl (V_mov rfl l22_193) ?_
 refine W_v rfl rfl (V_eql rfl (et rfl) rfl) ?_
 refine W_split rfl rfl (V_mov rfl (et rfl)) (fun c196 => ?_) (fun c196 => ?_)
 ·refine W_v rfl (wanted_t rfl rfl (et rfl) (ez rfl)) (V_fa (off' := 1) rfl (es3 rfl (fg0 F193)) Try.underlying117 rfl (by decide +kernel) rfl) ?_
  refine W_r rfl (wanted_t rfl rfl (es rfl (et rfl)) (ez rfl)) (VR_ldC rfl (et rfl) (cell_box (v := .int .i64 (now)) (S190.obj 0 rfl hc190) rfl) Try.underlying3 rfl) ?_
  refine W_v rfl (wanted_t rfl rfl (es2 rfl (et rfl)) (ez rfl)) (V_mov rfl (es5 rfl (fg17 F193))) ?_
  refine W_v rfl (wanted_t rfl rfl (es3 rfl (et rfl)) (ez rfl)) (V_eql rfl (es rfl (et rfl)) (et rfl)) ?_
  refine W_v rfl rfl (V_pickT rfl (es4 rfl (et rfl)) (et rfl)) ?_
  refine W_v rfl rfl (V_asg rfl (et rfl)) ?_
  refine W_end (gen_Q fun A197 E197 => ?_)
  have hsz197 := szq E197
  have F197 := (fsE E197 (ck (cq1 (ck (ck (ck (ck (cq3 (fx2 (fx2 (fx2 (fx2 F193)))) rfl) rfl rfl) rfl rfl) rfl rfl) rfl rfl) rfl) rfl rfl)).c (lookE E197 22 (es8 rfl (es rfl l22_193)))
  clear E197 hsz193 F193 l22_193
  refine tk H195 ?_
  refine cond_sure (fg1 F197) (by simp) ?_
  refine region_in ?_
  refine W_v rfl rfl (V_fa (off' := 1) rfl (fg10 F197) Try.underlying29 rfl (by decide +kernel) rfl) ?_
  refine W_r rfl rfl (VR_ldP (ys := [z_85]) rfl (et rfl) (S190.obj 3 rfl hc87) (ldP_at rfl) Try.underlying27 rfl (by kernel_rfl)) ?_
  refine W_v rfl rfl (V_mov rfl (es2 rfl (fg21 F197))) ?_
  refine W_call rfl rfl rfl Try.func87 (by kernel_rfl) rfl (args2 (es rfl (et rfl)) (et rfl)) (kAdd_c (a := slot) (S190.chC 4 rfl hcz_85).own ) ?_
  rintro _ w198 ⟨v_198, rfl, hP198⟩
  refine ⟨_, rfl, ?_⟩
  obtain ⟨c_198, hc_198, hP198⟩ := gen1 hP198
  have S198 := S190.join hP198
  replace S198 : St w NoX [c_198, c190, c_178, c100, c87, cz_85, c76, c4] w198 := S198
  refine W_v rfl rfl (V_mov rfl (et rfl)) ?_
  refine W_v rfl rfl (V_ext (v := .agg #[v_198]) rfl (et rfl) rfl) ?_
  refine W_v rfl rfl (V_ext (v := .bool ((adB ns slot))) rfl (es rfl (et rfl)) rfl) ?_
  refine W_v rfl rfl (V_ext (v := .int .i64 ((chE ns slot))) rfl (es2 rfl (et rfl)) rfl) ?_
  refine W_v rfl rfl (V_fa (off' := 1) rfl (es8 rfl (fg10 F197)) Try.underlying29 rfl (by decide +kernel) rfl) ?_
  refine W_stAM (ys := [v_198]) (zs' := #[v_85, v_198]) 4 S198 rfl hc87 rfl rfl rfl (et rfl) (es3 rfl (et rfl)) (by intro u hu; simp only [List.mem_cons, List.not_mem_nil, or_false] at hu; rcases hu with rfl <;> first | exact SlN_one (ow_at (S198.chq 0 rfl hc_198))) (by simp) (by kernel_rfl) rfl (fun w199 c199 hc199 S199 => ?_)
  replace S199 : St w NoX [c_198, c190, c_178, c100, c199, cz_85, c76, c4] w199 := S199
  refine W_end (gen_Q fun A200 E200 => ?_)
  have hsz200 := szq E200
  have F200 := fsE E200 (cq1 (cq8 (fx0 F197) rfl) rfl)
  clear E200 hsz197 F197
  have S201 : St w NoX [c_198, c190, c_178, c100, c199, c76, c4] w199 := S199.sel [0, 1, 2, 3, 4, 6, 7] (by decide) rfl
  refine inb_n ?_
  refine inb_n ?_
  refine tk H186 ?_
  refine region_in ?_
  refine W_v rfl rfl (V_add rfl (fg6 F200) rfl (by omega) (by omega)) ?_
  refine W_v rfl rfl (V_mov rfl (et rfl)) ?_
  refine W_end (gen_Q fun A202 E202 => ?_)
  have hsz202 := szq E202
  have F202 := fsE E202 (ck (cq1 (fx6 F200) rfl) rfl rfl)
  clear E202 hsz200 F200
  refine then_n ?_
  refine LW_step ?_
  have l74_203 : EV A202 (.tmp 74) = .int .i64 (2 : Int) := (fg0 F202)
  refine wp_seq_k fun K204 H204 => ?_
  refine region_in ?_
  refine W_v rfl rfl (V_lss rfl l74_203 (fg7 F202)) ?_
  refine W_end (gen_Q fun A205 E205 => ?_)
  have hsz205 := szq E205
  have F205 := (fsE E205 (ck (fx0 F202) rfl rfl)).c (lookE E205 74 (es rfl l74_203))
  clear E205 hsz202 F202 l74_203
  refine tk H204 ?_
  refine wp_seq_k fun K206 H206 => ?_
  refine cond_not (fg1 F205) (by simp) ?_
  refine wp_exit ?_
  refine then_exit ?_
  refine then_exit ?_
  refine inb_hit ?_
  refine tk H98 ?_
  refine wp_seq_k fun K207 H207 => ?_
  refine region_in ?_
  refine W_r rfl rfl (VR_ldA rfl (fg10 F205) (S201.obj 4 rfl hc199) Try.underlying29 rfl (by kernel_rfl)) ?_
  refine W_stAS 6 S201 rfl hc4 rfl rfl rfl (es rfl (fg22 F205)) (et rfl) (by simp only [List.all_toArray, List.all_cons, List.all_nil, rmO_one (S201.chq 2 rfl hc_178), SlN_one (ow_at (S201.chq 0 rfl hc_198))] <;> rfl) (by rfl) (by kernel_rfl) (fun w208 c208 hc208 S208 => ?_)
  replace S208 : St w NoX [c_198, c190, c_178, c100, c199, c76, c208] w208 := S208
  refine W_v rfl rfl (V_asg rfl rfl) ?_
  refine W_end (gen_Q fun A209 E209 => ?_)
  have hsz209 := szq E209
  have F209 := fsE E209 (ck (cq1 (fx0 F205) rfl) rfl rfl)
  clear E209 hsz205 F205
  have S210 : St w NoX [c_198, c_178, c208] w208 := S208.sel [0, 2, 6] (by decide) rfl
  refine tk H207 ?_
  refine wp_ret ?_
  refine ret_in (results_2 Try.results59 (rv_cellA (fg22 F209) (S210.obj 2 rfl hc208) Try.underlying29 rfl (by kernel_rfl)) (rv_tmp (fg0 F209))) F209.d ?_
  have he : chE8 C N Z K Q X ns slot old now = 0 := (ch8_e3 (by omega) (by omega)).trans (by omega)
  have hb := ch_k he hne
  rw [he]
  exact ⟨_, _, rfl, (S210.fin2 1 rfl (hc_178.trans (congrArg (rmO _) (by rw [hb.1, cg_neg (i := (plN C N Z K Q slot now)) (by omega)]; simp [hdF]))) 0 rfl (hc_198.trans (congrArg (io .i64 _) (by rw [hb.2, cgN_at (i := (plN C N Z K Q slot now)) (by omega), cgN_no (i := (plN C N Z K Q slot old)) (by omega)] <;> rfl))) (by decide))⟩
 refine W_off rfl (wanted_f rfl rfl (et rfl) (ez rfl) rfl) ?_
 refine W_off rfl (wanted_f rfl rfl (es rfl (et rfl)) (ez rfl) rfl) ?_
 refine W_off rfl (wanted_f rfl rfl (es2 rfl (et rfl)) (ez rfl) rfl) ?_
 refine W_off rfl (wanted_f rfl rfl (es3 rfl (et rfl)) (ez rfl) rfl) ?_
 refine W_v rfl rfl (V_pickF rfl (es4 rfl (et rfl)) rfl) ?_
 refine W_v rfl rfl (V_asg rfl (et rfl)) ?_
 refine W_end (gen_Q fun A211 E211 => ?_)
 have hsz211 := szq E211
 have F211 := (fsE E211 (ck (cq1 (ck (ck (ck (ck (cq3 (fx2 (fx2 (fx2 (fx2 F193)))) rfl) rfl rfl) rfl rfl) rfl rfl) rfl rfl) rfl) rfl rfl)).c (lookE E211 22 (es8 rfl (es rfl l22_193)))
 clear E211 hsz193 F193 l22_193
 refine tk H195 ?_
 refine cond_f (fg1 F211) ?_
 refine wp_seq_k fun K212 H212 => ?_
 refine region_in ?_
 refine W_v rfl rfl (V_mov rfl (fg0 F211)) ?_
 refine W_v rfl rfl (V_eql rfl (et rfl) rfl) ?_
 refine W_v rfl rfl (V_asg rfl (et rfl)) ?_
 refine W_end (gen_Q fun A213 E213 => ?_)
 have hsz213 := szq E213
 have F213 := fsE E213 (ck (cq2 (fx1 F211) rfl) rfl rfl)
 clear E213 hsz211 F211
 refine tk H212 ?_
 refine cond_not (fg0 F213) (by first | (simp [c196]; done) | exact decide_eq_true (by omega) | exact decide_eq_false (by omega)) ?_
 refine region_in ?_
 refine W_r rfl rfl (VR_ldA rfl (fg10 F213) (S190.obj 3 rfl hc87) Try.underlying29 rfl (by kernel_rfl)) ?_
 refine W_v rfl rfl (V_mov rfl (es rfl (fg1 F213))) ?_
 refine W_v rfl rfl (V_mov rfl (es2 rfl (fg21 F213))) ?_
 refine W_v rfl rfl (V_fa (off' := 1) rfl (es3 rfl (fg6 F213)) Try.underlying117 rfl (by decide +kernel) rfl) ?_
 refine W_r rfl rfl (VR_ldC rfl (et rfl) (cell_box (v := .int .i64 (now)) (S190.obj 0 rfl hc190) rfl) Try.underlying3 rfl) ?_
 refine W_v rfl rfl (V_mov rfl (es5 rfl (fg19 F213))) ?_
 refine W_v rfl rfl (V_eql rfl (es rfl (et rfl)) (et rfl)) ?_
 have S214 := S190.sel [1, 0, 2, 3, 4, 5, 6] (by decide) (l' := [c_178, c190, c100, c87, cz_85, c76, c4]) rfl
 replace S214 : St w NoX [c_178, c190, c100, c87, cz_85, c76, c4] w190 := S214
 obtain ⟨Y215, hP215, hR215, hF215, hB215⟩ := St.call (pre := [c_178]) (fr := [c190, c100, c87, cz_85, c76, c4]) S214
 rw [hc_178] at hP215
 refine W_call rfl rfl rfl Try.func89 (by kernel_rfl) rfl (args4 (es6 rfl (et rfl)) (es5 rfl (et rfl)) (es4 rfl (et rfl)) (et rfl)) (kchg_c (i := (plN C N Z K Q slot now)) (slot := slot) (add := decide (now = now))  hP215 (by omega) (by with_reducible assumption)) ?_
 rintro _ w216 ⟨rfl, hP216⟩
 refine ⟨_, rfl, ?_⟩
 obtain ⟨c_216, hc_216, hP216⟩ := gen1 hP216
 have S216 := hB215 _ _ hP216
 replace S216 : St w NoX [c_216, c190, c100, c87, cz_85, c76, c4] w216 := S216
 refine W_end (gen_Q fun A217 E217 => ?_)
 have hsz217 := szq E217
 have F217 := fsE E217 (cq8 (fx0 F213) rfl)
 clear E217 hsz213 F213
 have S218 : St w NoX [c_216, c100, c87, cz_85, c76, c4] w216 := S216.sel [0, 2, 3, 4, 5, 6] (by decide) rfl
 refine inb_n ?_
 refine inb_n ?_
 refine tk H186 ?_
 refine region_in ?_
 refine W_v rfl rfl (V_add rfl (fg6 F217) rfl (by omega) (by omega)) ?_
 refine W_v rfl rfl (V_mov rfl (et rfl)) ?_
 refine W_end (gen_Q fun A219 E219 => ?_)
 have hsz219 := szq E219
 have F219 := fsE E219 (ck (cq1 (fx6 F217) rfl) rfl rfl)
 clear E219 hsz217 F217
 refine then_n ?_
 refine LW_step ?_
 have l74_220 : EV A219 (.tmp 74) = .int .i64 (2 : Int) := (fg0 F219)
 refine wp_seq_k fun K221 H221 => ?_
 refine region_in ?_
 refine W_v rfl rfl (V_lss rfl l74_220 (fg7 F219)) ?_
 refine W_end (gen_Q fun A222 E222 => ?_)
 have hsz222 := szq E222
 have F222 := (fsE E222 (ck (fx0 F219) rfl rfl)).c (lookE E222 74 (es rfl l74_220))
 clear E222 hsz219 F219 l74_220
 refine tk H221 ?_
 refine wp_seq_k fun K223 H223 => ?_
 refine cond_not (fg1 F222) (by simp) ?_
 refine wp_exit ?_
 refine then_exit ?_
 refine then_exit ?_
 refine inb_hit ?_
 refine tk H98 ?_
 refine wp_seq_k fun K224 H224 => ?_
 refine region_in ?_
 refine W_r rfl rfl (VR_ldA rfl (fg10 F222) (S218.obj 2 rfl hc87) Try.underlying29 rfl (by kernel_rfl)) ?_
 refine W_stAS 5 S218 rfl hc4 rfl rfl rfl (es rfl (fg22 F222)) (et rfl) (by simp only [List.all_toArray, List.all_cons, List.all_nil, rmO_one (S218.chq 0 rfl hc_216), SlN_one (ow_at (S218.chq 3 rfl hcz_85))] <;> rfl) (by rfl) (by kernel_rfl) (fun w225 c225 hc225 S225 => ?_)
 replace S225 : St w NoX [c_216, c100, c87, cz_85, c76, c225] w225 := S225
 refine W_v rfl rfl (V_asg rfl rfl) ?_
 refine W_end (gen_Q fun A226 E226 => ?_)
 have hsz226 := szq E226
 have F226 := fsE E226 (ck (cq1 (fx0 F222) rfl) rfl rfl)
 clear E226 hsz222 F222
 have S227 : St w NoX [c_216, cz_85, c225] w225 := S225.sel [0, 3, 5] (by decide) rfl
 refine tk H224 ?_
 refine wp_ret ?_
 refine ret_in (results_2 Try.results59 (rv_cellA (fg22 F226) (S227.obj 2 rfl hc225) Try.underlying29 rfl (by kernel_rfl)) (rv_tmp (fg0 F226))) F226.d ?_
 have he : chE8 C N Z K Q X ns slot old now = 0 := (ch8_e3 (by omega) (by omega)).trans (by omega)
 have hb := ch_k he hne
 rw [he]
 exact ⟨_, _, rfl, (S227.fin2 0 rfl (hc_216.trans (congrArg (rmO _) (by rw [hb.1]; simp [hdF]))) 1 rfl (hcz_85.trans (congrArg (io .i64 _) (by rw [hb.2, cgN_no (i := (plN C N Z K Q slot now)) (by omega), cgN_no (i := (plN C N Z K Q slot old)) (by omega)] <;> rfl))) (by decide))⟩

set_option maxHeartbeats 4000000 in
theorem kRec_c {C : Int} {N : Int} {Z : Int} {K : Int} {Q : Int} {cv : Value} {X : List (List Int)} {nv : Value} {ns : List Int} {slot : Int} {now : Int} {w : World} (h_cv : Ro w NoX (rmR cv X)) (h_nv : Ro w NoX (il .i64 nv ns))  :
  Calls Try.prog 22 #[.agg #[.int .i64 C, .int .i64 N, .int .i64 Z, .int .i64 K, .int .i64 Q], .agg #[cv, nv], .int .i64 slot, .int .i64 now] w fun e w' => ∃ v z, e = .returned (.tuple #[.agg #[v, z], .int .i64 (chE8 C N Z K Q X ns slot 0 now)]) ∧ St w NoX [rmO v (chC C N Z K Q X ns slot 0 now), io .i64 (z) (chN C N Z K Q X ns slot 0 now)] w' := by
 refine calls_in 17 Try.func22 rfl rfl (by simp) (fun A0 Y0 hdf0 hargs => ?_)
 have l0_0 := hargs 0 (.agg #[.int .i64 C, .int .i64 N, .int .i64 Z, .int .i64 K, .int .i64 Q]) rfl
 have l1_0 := hargs 1 (.agg #[cv, nv]) rfl
 have l2_0 := hargs 2 (.int .i64 slot) rfl
 have l3_0 := hargs 3 (.int .i64 now) rfl
 clear hargs; replace Y0 : SzN A0 17 := ⟨Y0⟩
 have hS := St.nil w
 have bh_nv := SlN.le (sl_SlN h_nv.at)
 refine wp_seq_k fun K1 H1 => ?_
 refine region_in ?_
 refine W_boxS (zs := #[.int .i64 (C), .int .i64 (N), .int .i64 (Z), .int .i64 (K), .int .i64 (Q)]) hS rfl rfl rfl l0_0 (by rfl) (fun g2 w2 c2 hc2 S2 => ?_)
 replace S2 : St w NoX [c2] w2 := S2
 refine W_boxS (zs := #[cv, nv]) S2 rfl rfl rfl (es rfl l1_0) (by rfl) (fun g3 w3 c3 hc3 S3 => ?_)
 replace S3 : St w NoX [c3, c2] w3 := S3
 refine W_allocS (z := .agg #[.slice none 0 0, .slice none 0 0]) (zs := #[.slice none 0 0, .slice none 0 0]) S3 rfl rfl rfl (by kernel_rfl) (by rfl) (fun g4 w4 c4 hc4 S4 => ?_)
 replace S4 : St w NoX [c4, c3, c2] w4 := S4
 refine W_v rfl rfl (V_asg rfl rfl) ?_
 refine W_end (gen_Q fun A5 E5 => ?_)
 have Y5 := szq E5
 have F5 := ((fsE E5 (cq1 (ck (ck (ck (FS.n hdf0) rfl rfl) rfl rfl) rfl rfl) rfl)).c (lookE E5 2 (es4 rfl l2_0))).c (lookE E5 3 (es4 rfl l3_0))
 clear E5 Y0 hdf0 l0_0 l1_0 l2_0 l3_0
 refine tk H1 ?_
 refine wp_seq_k fun K6 H6 => ?_
 refine region_in ?_
 refine W_r rfl rfl (VR_ldA rfl (fg4 F5) (S4.obj 2 rfl hc2) Try.underlying23 rfl (by kernel_rfl)) ?_
 refine W_r rfl rfl (VR_ldA rfl (es rfl (fg3 F5)) (S4.obj 1 rfl hc3) Try.underlying29 rfl (by kernel_rfl)) ?_
 refine W_v rfl rfl (V_mov rfl (es2 rfl (fg1 F5))) ?_
 refine W_v rfl rfl (V_mov rfl (es3 rfl (fg0 F5))) ?_
 refine W_call rfl rfl rfl Try.func59 (by kernel_rfl) rfl (args5 (es3 rfl (et rfl)) (es2 rfl (et rfl)) (es rfl (et rfl)) rfl (et rfl)) (kchd_c (C := C) (N := N) (Z := Z) (K := K) (Q := Q) (slot := slot) (old := 0) (now := now) (S4.roC h_cv) (S4.roC h_nv) ) ?_
 rintro _ w7 ⟨v_7, z_7, rfl, hP7⟩
 refine ⟨_, rfl, ?_⟩
 obtain ⟨c_7, cz_7, hc_7, hcz_7, hP7⟩ := gen2 hP7
 have S7 := S4.join hP7
 replace S7 : St w NoX [c_7, cz_7, c4, c3, c2] w7 := S7
 refine W_v rfl rfl (V_ext (v := .agg #[v_7, z_7]) rfl (et rfl) rfl) ?_
 refine W_v rfl rfl (V_ext (v := .int .i64 ((chE8 C N Z K Q X ns slot 0 now))) rfl (es rfl (et rfl)) rfl) ?_
 refine W_stAS 2 S7 rfl hc4 rfl rfl rfl (es7 rfl (fg2 F5)) (es rfl (et rfl)) (by simp only [List.all_toArray, List.all_cons, List.all_nil, rmO_one (S7.chq 0 rfl hc_7), SlN_one (ow_at (S7.chq 1 rfl hcz_7))] <;> rfl) (by rfl) (by kernel_rfl) (fun w8 c8 hc8 S8 => ?_)
 replace S8 : St w NoX [c_7, cz_7, c8, c3, c2] w8 := S8
 refine W_v rfl rfl (V_asg rfl (et rfl)) ?_
 refine W_end (gen_Q fun A9 E9 => ?_)
 have Y9 := szq E9
 have F9 := fsE E9 (ck (cq7 F5 rfl) rfl rfl)
 clear E9 Y5 F5
 have S10 : St w NoX [c_7, cz_7, c8] w8 := S8.sel [0, 1, 2] (by decide) rfl
 refine tk H6 ?_
 refine wp_ret ?_
 refine ret_in (results_2 Try.results22 (rv_cellA (fg3 F9) (S10.obj 2 rfl hc8) Try.underlying29 rfl (by kernel_rfl)) (rv_tmp (fg0 F9))) F9.d ?_
 exact ⟨_, _, rfl, (S10.fin2 0 rfl (hc_7) 1 rfl (hcz_7) (by decide))⟩

set_option maxHeartbeats 4000000 in
theorem kSto_c {C : Int} {N : Int} {Z : Int} {K : Int} {Q : Int} {cv : Value} {X : List (List Int)} {nv : Value} {ns : List Int} {slot : Int} {old : Int} {now : Int} {w : World} (h_cv : Ro w NoX (rmR cv X)) (h_nv : Ro w NoX (il .i64 nv ns))  :
  Calls Try.prog 29 #[.agg #[.int .i64 C, .int .i64 N, .int .i64 Z, .int .i64 K, .int .i64 Q], .agg #[cv, nv], .int .i64 slot, .int .i64 old, .int .i64 now] w fun e w' => ∃ v z, e = .returned (.tuple #[.agg #[v, z], .int .i64 (chE8 C N Z K Q X ns slot old now)]) ∧ St w NoX [rmO v (chC C N Z K Q X ns slot old now), io .i64 (z) (chN C N Z K Q X ns slot old now)] w' := by
 refine calls_in 20 Try.func29 rfl rfl (by simp) (fun A0 Y0 hdf0 hargs => ?_)
 have l0_0 := hargs 0 (.agg #[.int .i64 C, .int .i64 N, .int .i64 Z, .int .i64 K, .int .i64 Q]) rfl
 have l1_0 := hargs 1 (.agg #[cv, nv]) rfl
 have l2_0 := hargs 2 (.int .i64 slot) rfl
 have l3_0 := hargs 3 (.int .i64 old) rfl
 have l4_0 := hargs 4 (.int .i64 now) rfl
 clear hargs; replace Y0 : SzN A0 20 := ⟨Y0⟩
 have hS := St.nil w
 have bh_nv := SlN.le (sl_SlN h_nv.at)
 refine wp_seq_k fun K1 H1 => ?_
 refine region_in ?_
 refine W_boxS (zs := #[.int .i64 (C), .int .i64 (N), .int .i64 (Z), .int .i64 (K), .int .i64 (Q)]) hS rfl rfl rfl l0_0 (by rfl) (fun g2 w2 c2 hc2 S2 => ?_)
 replace S2 : St w NoX [c2] w2 := S2
 refine W_boxS (zs := #[cv, nv]) S2 rfl rfl rfl (es rfl l1_0) (by rfl) (fun g3 w3 c3 hc3 S3 => ?_)
 replace S3 : St w NoX [c3, c2] w3 := S3
 refine W_allocS (z := .agg #[.slice none 0 0, .slice none 0 0]) (zs := #[.slice none 0 0, .slice none 0 0]) S3 rfl rfl rfl (by kernel_rfl) (by rfl) (fun g4 w4 c4 hc4 S4 => ?_)
 replace S4 : St w NoX [c4, c3, c2] w4 := S4
 refine W_v rfl rfl (V_asg rfl rfl) ?_
 refine W_end (gen_Q fun A5 E5 => ?_)
 have Y5 := szq E5
 have F5 := (((fsE E5 (cq1 (ck (ck (ck (FS.n hdf0) rfl rfl) rfl rfl) rfl rfl) rfl)).c (lookE E5 2 (es4 rfl l2_0))).c (lookE E5 3 (es4 rfl l3_0))).c (lookE E5 4 (es4 rfl l4_0))
 clear E5 Y0 hdf0 l0_0 l1_0 l2_0 l3_0 l4_0
 refine tk H1 ?_
 refine wp_seq_k fun K6 H6 => ?_
 refine region_in ?_
 refine W_r rfl rfl (VR_ldA rfl (fg5 F5) (S4.obj 2 rfl hc2) Try.underlying23 rfl (by kernel_rfl)) ?_
 refine W_r rfl rfl (VR_ldA rfl (es rfl (fg4 F5)) (S4.obj 1 rfl hc3) Try.underlying29 rfl (by kernel_rfl)) ?_
 refine W_v rfl rfl (V_mov rfl (es2 rfl (fg2 F5))) ?_
 refine W_v rfl rfl (V_mov rfl (es3 rfl (fg1 F5))) ?_
 refine W_v rfl rfl (V_mov rfl (es4 rfl (fg0 F5))) ?_
 refine W_call rfl rfl rfl Try.func59 (by kernel_rfl) rfl (args5 (es4 rfl (et rfl)) (es3 rfl (et rfl)) (es2 rfl (et rfl)) (es rfl (et rfl)) (et rfl)) (kchd_c (C := C) (N := N) (Z := Z) (K := K) (Q := Q) (slot := slot) (old := old) (now := now) (S4.roC h_cv) (S4.roC h_nv) ) ?_
 rintro _ w7 ⟨v_7, z_7, rfl, hP7⟩
 refine ⟨_, rfl, ?_⟩
 obtain ⟨c_7, cz_7, hc_7, hcz_7, hP7⟩ := gen2 hP7
 have S7 := S4.join hP7
 replace S7 : St w NoX [c_7, cz_7, c4, c3, c2] w7 := S7
 refine W_v rfl rfl (V_ext (v := .agg #[v_7, z_7]) rfl (et rfl) rfl) ?_
 refine W_v rfl rfl (V_ext (v := .int .i64 ((chE8 C N Z K Q X ns slot old now))) rfl (es rfl (et rfl)) rfl) ?_
 refine W_stAS 2 S7 rfl hc4 rfl rfl rfl (es8 rfl (fg3 F5)) (es rfl (et rfl)) (by simp only [List.all_toArray, List.all_cons, List.all_nil, rmO_one (S7.chq 0 rfl hc_7), SlN_one (ow_at (S7.chq 1 rfl hcz_7))] <;> rfl) (by rfl) (by kernel_rfl) (fun w8 c8 hc8 S8 => ?_)
 replace S8 : St w NoX [c_7, cz_7, c8, c3, c2] w8 := S8
 refine W_v rfl rfl (V_asg rfl (et rfl)) ?_
 refine W_end (gen_Q fun A9 E9 => ?_)
 have Y9 := szq E9
 have F9 := fsE E9 (ck (cq8 F5 rfl) rfl rfl)
 clear E9 Y5 F5
 have S10 : St w NoX [c_7, cz_7, c8] w8 := S8.sel [0, 1, 2] (by decide) rfl
 refine tk H6 ?_
 refine wp_ret ?_
 refine ret_in (results_2 Try.results29 (rv_cellA (fg4 F9) (S10.obj 2 rfl hc8) Try.underlying29 rfl (by kernel_rfl)) (rv_tmp (fg0 F9))) F9.d ?_
 exact ⟨_, _, rfl, (S10.fin2 0 rfl (hc_7) 1 rfl (hcz_7) (by decide))⟩

end Go.Proofs.Yteppjefmlibmoaa