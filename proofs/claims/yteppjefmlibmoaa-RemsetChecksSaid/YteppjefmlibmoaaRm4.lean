import Derived.Test.YteppjefmlibmoaaProg
import Derived.Test.YteppjefmlibmoaaRm3
import Derived.Test.YteppjefmlibmoaaPl8d
import Derived.Test.YteppjefmlibmoaaSepV
namespace Go.Proofs.Yteppjefmlibmoaa
open Go.RowKit Go.Own Go.Own.R Go.Own.S Go.Own.E

def pkL (y : Int × Int) : List Value := [.int .i64 y.1, .int .i64 y.2]
theorem pkL_len : ∀ a : Int × Int, (pkL a).length = 2 := fun _ => rfl
set_option maxHeartbeats 4000000 in
theorem kcl8_c {cv : Value} {c : List Int} {w : World} (h_cv : Ro w NoX (il .i64 cv c)) (hl : c.length ≤ 8192) :
  Calls Try.prog 80 #[cv] w fun e w' => ∃ v, e = .returned (v) ∧ St w NoX [io .i64 (v) c] w' := by
 refine calls_in 8 Try.func80 rfl rfl (by simp) (fun A0 hsz0 hdf0 hargs => ?_)
 have l0_0 := hargs 0 (cv) rfl
 clear hargs; replace hsz0 : SzN A0 8 := ⟨hsz0⟩
 have hS := St.nil w
 have bh_cv := SlN.le (sl_SlN h_cv.at)
 refine wp_seq_k fun K1 hK1 => ?_
 refine region_in ?_
 refine W_v rfl rfl (V_asg rfl rfl) ?_
 refine W_end (gen_Q fun A2 hA2 => ?_)
 have hsz2 := szq hA2
 have hdf2 := dfE hA2 hdf0
 have l0_2 := lookE hA2 0 (es rfl l0_0)
 clear hA2 hsz0 hdf0 l0_0
 refine then_n (hK1 _ _ ?_)
 clear hK1
 refine wp_seq_k fun K3 hK3 => ?_
 refine wp_seq_k fun K4 hK4 => ?_
 refine region_in ?_
 refine W_v rfl rfl (V_mov rfl l0_2) ?_
 refine W_v rfl rfl (V_eqNilB rfl (et rfl) rfl (sl_SlN h_cv.at) Try.underlying25) ?_
 refine W_end (gen_Q fun A5 hA5 => ?_)
 have hsz5 := szq hA5
 have hdf5 := dfE hA5 hdf2
 have l0_5 := ek2 hA5 0 rfl l0_2
 have l4_5 := lookE hA5 4 (et rfl)
 clear hA5 hsz2 hdf2 l0_2
 refine then_n (hK4 _ _ ?_)
 clear hK4
 refine cond_b l4_5 (fun c6 => ?_) (fun c6 => ?_)
 ·refine wp_seq_k fun K7 hK7 => ?_
  refine region_in ?_
  refine W_v rfl rfl (V_asg rfl rfl) ?_
  refine W_end (gen_Q fun A8 hA8 => ?_)
  have hsz8 := szq hA8
  have hdf8 := dfE hA8 hdf5
  have l2_8 := lookE hA8 2 (et rfl)
  clear hA8 hsz5 hdf5 l0_5 l4_5
  refine then_n (hK7 _ _ ?_)
  clear hK7
  refine wp_ret ?_
  refine then_ret ?_
  refine ret_in (results_1 Try.results80 (rv_tmp l2_8)) hdf8 ?_
  obtain ⟨c9, hc9, hS9⟩ := hS.pnil (s := 1)
  obtain rfl : c = [] := List.eq_nil_of_length_eq_zero (nilB_len (sl_SlN h_cv.at) c6)
  exact ⟨_, rfl, (hS9.fin1 0 rfl (hc9))⟩
 ·refine wp_skip ?_
  refine then_n (hK3 _ _ ?_)
  clear hK3
  refine wp_seq_k fun K10 hK10 => ?_
  refine region_in ?_
  refine W_litS (vs := []) (xs := []) 1 hS rfl rfl rfl (parts0) rfl Try.underlying25 (by kernel_rfl) (by decide) (by intro v hv; cases hv) (by rfl) (fun g11 w11 c11 hc11 hS11 => ?_)
  replace hc11 : c11 = io .i64 (.slice (some ⟨g11, 0, none⟩) 0 0) [] := hc11
  replace hS11 : St w NoX [c11] w11 := hS11
  refine W_v rfl rfl (V_mov rfl (es rfl l0_5)) ?_
  refine W_appS 1 0 hS11 rfl hc11 rfl rfl rfl (es rfl (et rfl)) (et rfl) Try.underlying25 Try.underlying25 (z := .int .i64 0) (bytes := 8) (by kernel_rfl) rfl (by decide) (sl_SlN (hS11.ro h_cv)) ones_i (by first | omega | (simp; done) | (simp; omega)) (by first | omega | (simp; done) | (simp; omega)) (fun v12 w12 c12 hc12 hS12 => ?_)
  replace hc12 : c12 = io .i64 v12 c := hc12.trans (app_eq (by first | (simp; done) | (rw [List.take_of_length_le (l := List.drop _ _) (by rw [List.length_drop]; exact Nat.le_refl _)])))
  replace hS12 : St w NoX [c12] w12 := hS12
  refine W_v rfl rfl (V_asg rfl (et rfl)) ?_
  refine W_end (gen_Q fun A13 hA13 => ?_)
  have hsz13 := szq hA13
  have hdf13 := dfE hA13 hdf5
  have l2_13 := lookE hA13 2 (et rfl)
  clear hA13 hsz5 hdf5 l0_5 l4_5
  refine then_n (hK10 _ _ ?_)
  clear hK10
  refine wp_ret ?_
  refine ret_in (results_1 Try.results80 (rv_tmp l2_13)) hdf13 ?_
  exact ⟨_, rfl, (hS12.fin1 0 rfl (hc12))⟩

set_option maxHeartbeats 4000000 in
theorem kown8_c {cv : Value} {X : List (List Int)} {nv : Value} {ns : List Int} {w : World} (h_cv : Ro w NoX (rmR cv X)) (h_nv : Ro w NoX (il .i64 nv ns)) (hgl : GL X ns) :
  Calls Try.prog 49 #[.agg #[cv, nv]] w fun e w' => ∃ v z, e = .returned (.agg #[v, z]) ∧ St w NoX [rmO v X, io .i64 (z) ns] w' := by
 obtain ⟨Xu, hXu, k_cv, n_cv⟩ := rmR_open h_cv
 subst hXu
 have b_cv := SlN.le (sl_SlN k_cv.at)
 have hxl := hgl.1
 rw [csF_len] at hxl
 have hgn : ns.length ≤ 8192 := hgl.2.2
 refine calls_in 34 Try.func49 rfl rfl (by simp) (fun A0 hsz0 hdf0 hargs => ?_)
 have l0_0 := hargs 0 (.agg #[cv, nv]) rfl
 clear hargs; replace hsz0 : SzN A0 34 := ⟨hsz0⟩
 have hS := St.nil w
 have bh_nv := SlN.le (sl_SlN h_nv.at)
 have bk_cv := SlN.le (sl_SlN k_cv.at)
 refine wp_seq_k fun K1 hK1 => ?_
 refine region_in ?_
 refine W_boxS (zs := #[cv, nv]) hS rfl rfl rfl l0_0 (by rfl) (fun g2 w2 c2 hc2 hS2 => ?_)
 replace hS2 : St w NoX [c2] w2 := hS2
 refine W_allocS (z := .agg #[.slice none 0 0, .slice none 0 0]) (zs := #[.slice none 0 0, .slice none 0 0]) hS2 rfl rfl rfl (by kernel_rfl) (by rfl) (fun g3 w3 c3 hc3 hS3 => ?_)
 replace hS3 : St w NoX [c3, c2] w3 := hS3
 refine W_end (gen_Q fun A4 hA4 => ?_)
 have hsz4 := szq hA4
 have hdf4 := dfE hA4 hdf0
 have l1_4 := lookE hA4 1 (es rfl (et rfl))
 have l2_4 := lookE hA4 2 (et rfl)
 clear hA4 hsz0 hdf0 l0_0
 refine then_n (hK1 _ _ ?_)
 clear hK1
 refine wp_seq_k fun K5 hK5 => ?_
 refine region_monoS 11 12 [none, none, none, some (SPv [] (fun _ => fun u l' => ∃ v_s, u = v_s ∧ ∃ c_s, c_s = io .i64 (v_s) ns ∧ l' = [c_s]) 3), none, none, none, none, some (SPv [] (fun _ => fun u l' => ∃ v, u = v ∧ ∃ b, b = owl .i64 (List.replicate Xu.length nilp) ∧ ∃ c, c = ro 1 fstC v (List.replicate Xu.length nilp) ∧ l' = [b, c]) 8), none, some (SPv [] (fun _ => fun u l' => ∃ g_, u = .pointer (some ⟨g_, 0, none⟩) ∧ ∃ c_, c_ = bx g_ 29 #[.slice none 0 0, .slice none 0 0] ∧ l' = [c_]) 10)] (by kernel_rfl) (by kernel_rfl) ?_
 refine D_v rfl rfl (V_fa (off' := 1) rfl l1_4 Try.underlying29 rfl (by decide +kernel) rfl) rfl rfl ?_
 refine D_v rfl rfl (V_fa (off' := 1) rfl (et rfl) Try.underlying27 rfl (by decide +kernel) rfl) rfl rfl ?_
 refine D_r rfl rfl (by kernel_rfl) (fun sx hx hF => (VR_ldC rfl (et rfl) (cell_box (v := nv) ((hS3.grow hx).obj 1 rfl hc2) rfl) Try.underlying25 rfl)) rfl rfl ?_
 refine D_call (ts := []) (vs := []) (C0 := fun _ => fun u l' => ∃ v_s, u = v_s ∧ ∃ c_s, c_s = io .i64 (v_s) ns ∧ l' = [c_s]) (C := fun u l' => ∃ v_s, u = v_s ∧ ∃ c_s, c_s = io .i64 (v_s) ns ∧ l' = [c_s]) rfl rfl rfl Try.func80 (by kernel_rfl) rfl (args1 (et rfl)) rfl rfl rfl rfl (fun sx hx hF => ?_) (fun u6 l6 hu6 => ?_)
 ·refine (kcl8_c ((hS3.grow hx).roC h_nv) (by first | with_reducible assumption | with_reducible exact hgl.2.2 | omega)).mono ?_
  rintro _ _ ⟨v_6, rfl, hz⟩
  exact ⟨_, rfl, _, ⟨_, rfl, _, rfl, rfl⟩, hz⟩
 obtain ⟨v_6, rfl, c_6, hc_6, hl6⟩ := hu6
 refine D_r rfl rfl (by kernel_rfl) (fun sx hx hF => by obtain ⟨ll6, ws6, we6, ⟨v_6q, hq6, c_6_, hc_6_, hl6_⟩, hm6, k6, e6⟩ := L.ancF_get hF (by kernel_rfl); cases hq6; subst hl6_; exact ((V_bldS (n := 1) (z := .agg #[.slice none 0 0]) rfl (parts1 (et rfl)) (by kernel_rfl) (by simp only [List.all_cons, List.all_nil, SlN_one (ow_at ((k6.grow e6).chq 0 rfl hc_6_)), Bool.and_true] <;> rfl) (by kernel_rfl) (by simp only [List.foldl_cons, List.foldl_nil, Value.cells, List.setIfInBounds_toArray, List.set_cons_succ, List.set_cons_zero] <;> rfl) : Val _ _ _ _) _)) rfl rfl ?_
 refine D_v rfl rfl (V_fa (off' := 0) rfl (e5 rfl l1_4) Try.underlying29 rfl (by decide +kernel) rfl) rfl rfl ?_
 refine D_r rfl rfl (by kernel_rfl) (fun sx hx hF => (VR_ldC rfl (et rfl) (cell_box (v := cv) ((hS3.grow hx).obj 1 rfl hc2) rfl) Try.underlying24 rfl)) rfl rfl ?_
 refine D_v rfl rfl (V_lenS rfl (et rfl) (sl_SlN k_cv.at) Try.underlying24) rfl rfl ?_
 refine D_lay (ts := []) (vs := []) (C0 := fun _ => fun u l' => ∃ v, u = v ∧ ∃ b, b = owl .i64 (List.replicate Xu.length nilp) ∧ ∃ c, c = ro 1 fstC v (List.replicate Xu.length nilp) ∧ l' = [b, c]) (C := fun u l' => ∃ v, u = v ∧ ∃ b, b = owl .i64 (List.replicate Xu.length nilp) ∧ ∃ c, c = ro 1 fstC v (List.replicate Xu.length nilp) ∧ l' = [b, c]) rfl rfl rfl rfl rfl rfl (fun sx hx hF => lay_mkSS (z := .agg #[.slice none 0 0]) (bytes := 24) Xu.length rfl (et rfl) (et rfl) (by omega) Try.underlying24 (by kernel_rfl) (by omega) rfl) (fun u7 l7 hu7 => ?_)
 obtain ⟨v7, rfl, cb7, hcb7, c7, hc7, hl7⟩ := hu7
 refine D_r rfl rfl (by kernel_rfl) (fun sx hx hF => by obtain ⟨ll7, ws7, we7, ⟨v7q, hq7, cb7_, hcb7_, c7_, hc7_, hl7_⟩, hm7, k7, e7⟩ := L.ancF_get hF (by kernel_rfl); cases hq7; subst hl7_; exact ((V_bldC (n := 2) (z := .agg #[.slice none 0 0, .slice none 0 0]) (cs := #[u7, u6]) rfl (parts2 (e4 rfl (et rfl)) (et rfl)) (by kernel_rfl) (by simp only [List.all_cons, List.all_nil, one_cells (SlN_one (ow_at ((k7.grow e7).chq 1 rfl hc7_))), cells_agg] <;> rfl) (by kernel_rfl) (by simp only [List.foldl_cons, List.foldl_nil, one_cells (SlN_one (ow_at ((k7.grow e7).chq 1 rfl hc7_))), cells_agg, getD_one, List.setIfInBounds_toArray, List.set_cons_succ, List.set_cons_zero] <;> rfl) : Val _ _ _ _) _)) rfl rfl ?_
 refine D_lay (ts := []) (vs := []) (C0 := fun _ => fun u l' => ∃ g_, u = .pointer (some ⟨g_, 0, none⟩) ∧ ∃ c_, c_ = bx g_ 29 #[.slice none 0 0, .slice none 0 0] ∧ l' = [c_]) (C := fun u l' => ∃ g_, u = .pointer (some ⟨g_, 0, none⟩) ∧ ∃ c_, c_ = bx g_ 29 #[.slice none 0 0, .slice none 0 0] ∧ l' = [c_]) rfl rfl rfl rfl rfl rfl (fun sx hx hF => lay_alloc (z := .agg #[.slice none 0 0, .slice none 0 0]) rfl (by kernel_rfl) (by rfl)) (fun u8 l8 hu8 => ?_)
 obtain ⟨g8, rfl, c8, hc8, hl8⟩ := hu8
 refine D_eff rfl ?_
 refine ZS_eff hS3 rfl rfl (fun s9 hJ9 hL9 hF9 => ?_)
 obtain ⟨ll6, ws6, we6, ⟨v_6q, hq6, c_6r, hc_6r, hl6r⟩, hm6, k6, e6⟩ := L.all_get (L.all_rest (L.all_rest hF9)); cases hq6; subst hl6r
 replace hJ9 := hJ9.add hL9 (i := 3) rfl hm6 k6 e6
 obtain ⟨ll7, ws7, we7, ⟨v7q, hq7, cb7r, hcb7r, c7r, hc7r, hl7r⟩, hm7, k7, e7⟩ := L.all_get (L.all_rest hF9); cases hq7; subst hl7r
 replace hJ9 := hJ9.add hL9 (i := 8) rfl hm7 k7 e7
 obtain ⟨ll8, ws8, we8, ⟨g8q, hq8, c8r, hc8r, hl8r⟩, hm8, k8, e8⟩ := L.all_get hF9; cases hq8; subst hl8r
 replace hJ9 := hJ9.add hL9 (i := 10) rfl hm8 k8 e8
 have hS9 := hJ9.st; clear hF9 hJ9 hL9
 generalize s9.1 = w9 at *
 replace hS9 : St w NoX [c8r, cb7r, c7r, c_6r, c3, c2] w9 := hS9
 refine W_stAS 0 hS9 rfl hc8r rfl rfl rfl (et rfl) (es rfl (et rfl)) (by simp only [List.all_toArray, List.all_cons, List.all_nil, SlN_one (ow_at (hS9.chq 2 rfl hc7r)), SlN_one (ow_at (hS9.chq 3 rfl hc_6r))] <;> rfl) (by rfl) (by kernel_rfl) (fun w10 c10 hc10 hS10 => ?_)
 replace hS10 : St w NoX [c10, cb7r, c7r, c_6r, c3, c2] w10 := hS10
 refine W_end ?_
 refine Qo_normal ?_
 refine gen_Q (fun A11 hA11 => ?_)
 have hsz11 := szq hA11
 have hdf11 := dfE hA11 hdf4
 have l1_11 := ek11 hA11 1 rfl l1_4
 have l2_11 := ek11 hA11 2 rfl l2_4
 have l3_11 := lookE hA11 3 (et rfl)
 clear hA11 hsz4 hdf4 l1_4 l2_4
 refine then_n (hK5 _ _ ?_)
 clear hK5
 refine wp_seq_k fun K12 hK12 => ?_
 refine wp_seq_k fun K13 hK13 => ?_
 refine region_in ?_
 refine W_v rfl rfl (V_fa (off' := 0) rfl l1_11 Try.underlying29 rfl (by decide +kernel) rfl) ?_
 refine W_r rfl rfl (VR_ldC rfl (et rfl) (cell_box (v := cv) (hS10.obj 5 rfl hc2) rfl) Try.underlying24 rfl) ?_
 refine W_v rfl rfl (V_lenS rfl (et rfl) (sl_SlN k_cv.at) Try.underlying24) ?_
 refine W_v rfl rfl (V_mov rfl rfl) ?_
 refine W_end (gen_Q fun A14 hA14 => ?_)
 have hsz14 := szq hA14
 have hdf14 := dfE hA14 hdf11
 have l2_14 := ek4 hA14 2 rfl l2_11
 have l3_14 := ek4 hA14 3 rfl l3_11
 have l17_14 := lookE hA14 17 (e2 rfl (et rfl))
 have l18_14 := lookE hA14 18 (es rfl (et rfl))
 have l19_14 := lookE hA14 19 (et rfl)
 clear hA14 hsz11 hdf11 l1_11 l2_11 l3_11
 have hS15 : St w NoX [c10, cb7r, c7r, c_6r, c3] w10 := hS10.sel [0, 1, 2, 3, 4] (by decide) rfl
 refine then_n (hK13 _ _ ?_)
 clear hK13
 refine wp_block ?_
 -- loop 3
 refine loopX (fun mz A' w' => SzN A' 34 ∧ A'.defers = [] ∧ (∃ (k : Nat) (U : List SL), (mz = Xu.length - k) ∧ (k ≤ Xu.length) ∧ (csF U = cpK (csF Xu) k) ∧ (EV A' (.tmp 19) = .int .i64 (k : Int)) ∧ (EV A' (.tmp 2) = EV A14 (.tmp 2)) ∧ (EV A' (.tmp 3) = EV A14 (.tmp 3)) ∧ (EV A' (.tmp 17) = EV A14 (.tmp 17)) ∧ (EV A' (.tmp 18) = EV A14 (.tmp 18)) ∧ (St w NoX [bx g8 29 #[u7, u6], owl .i64 U, ro 1 fstC u7 U, io .i64 u6 ns, bx g3 29 #[.slice none 0 0, .slice none 0 0]] w'))) (Xu.length - 0) ⟨hsz14, hdf14, 0, (List.replicate Xu.length nilp), rfl, (by omega), (by rw [csF_nils, ← csF_len]; exact cpK_0 _), ((l19_14).trans (by first | rfl | (simp; done) | (congr 1; omega))), rfl, rfl, rfl, rfl, (by have q0 := hc10; have q1 : cb7r = owl .i64 (List.replicate Xu.length nilp) := hcb7r.trans (rfl); have q2 : c7r = ro 1 fstC u7 (List.replicate Xu.length nilp) := hc7r.trans (rfl); have q3 := hc_6r; have q4 := hc3; subst q0 q1 q2 q3 q4; exact hS15)⟩ ?_
 clear hS15 hc10 hcb7r hc7r hc_6r hc3
 rintro n16 A16 w16 ⟨hsz16, hdf16, k, U, hm16, hk, hU, l19_16, u2_16, u3_16, u17_16, u18_16, hS16⟩
 have l2_16 := u2_16.trans l2_14
 have l3_16 := u3_16.trans l3_14
 have l17_16 := u17_16.trans l17_14
 have l18_16 := u18_16.trans l18_14
 obtain ⟨c10_16, cb7r_16, c7r_16, c_6r_16, c3_16, hc10_16, hcb7r_16, hc7r_16, hc_6r_16, hc3_16, hS16⟩ := gen5 hS16
 refine wp_seq_k fun K17 hK17 => ?_
 refine region_in ?_
 refine W_v rfl rfl (V_lss rfl l19_16 l18_16) ?_
 refine W_end (gen_Q fun A18 hA18 => ?_)
 have hsz18 := szq hA18
 have hdf18 := dfE hA18 hdf16
 have l2_18 := lookE hA18 2 (es rfl l2_16)
 have l3_18 := lookE hA18 3 (es rfl l3_16)
 have l17_18 := lookE hA18 17 (es rfl l17_16)
 have l18_18 := lookE hA18 18 (es rfl l18_16)
 have l19_18 := lookE hA18 19 (es rfl l19_16)
 have l20_18 := lookE hA18 20 (et rfl)
 clear hA18 hsz16 hdf16 l19_16 l2_16 l3_16 l17_16 l18_16
 refine then_n (hK17 _ _ ?_)
 clear hK17
 refine wp_seq_k fun K19 hK19 => ?_
 refine cond_dec l20_18 (fun c20 => ?_) (fun c20 => ?_)
 ·have hUl := cp_len hU
  refine wp_skip ?_
  refine then_n (hK19 _ _ ?_)
  clear hK19
  refine wp_seq_k fun K21 hK21 => ?_
  refine wp_block ?_
  refine wp_seq_k fun K22 hK22 => ?_
  refine region_in ?_
  refine W_v rfl rfl (V_mov rfl l19_18) ?_
  have k23 : k < Xu.length := by first | omega | (simp only [List.length_cons, List.length_nil]; omega) | (simp only [List.length_set]; omega) | decide
  obtain ⟨y23, hy23⟩ := get_some (xs := Xu) (k := k) k23
  have hgy23 := gl_at hgl hy23
  obtain ⟨B23, O23, C23, hv23⟩ := (SlN.blk (sl_SlN k_cv.at) (by first | omega | (simp only [List.length_cons, List.length_nil]; omega) | (simp only [List.length_set]; omega) | decide))
  refine W_v rfl rfl (V_ixS (off := O23 + k * 1) 1 (k) rfl (es rfl l17_18) (es rfl l19_18) hv23 (by omega) k23 Try.underlying24 (by kernel_rfl) rfl) ?_
  have fn24 : Ro w NoX (il .i64 y23.1 y23.2) := nsi_ro1 n_cv hy23
  have bfn24 := SlN.le (sl_SlN (hS16.ro fn24))
  refine W_r rfl rfl (VR_ldR (ys := fstC y23) rfl (et rfl) (SlN.row fstC_len (sl_SlN (hS16.ro k_cv)) hv23 hy23 rfl) Try.underlying27 rfl (by kernel_rfl)) ?_
  refine W_allocS (z := .agg #[.slice none 0 0]) (zs := #[.slice none 0 0]) hS16 rfl rfl rfl (by kernel_rfl) (by rfl) (fun g25 w25 c25 hc25 hS25 => ?_)
  replace hS25 : St w NoX [c25, c10_16, cb7r_16, c7r_16, c_6r_16, c3_16] w25 := hS25
  refine W_v rfl rfl (V_asg rfl (e3 rfl (et rfl))) ?_
  refine W_stAS 0 hS25 rfl hc25 rfl rfl rfl (es rfl (et rfl)) (e2 rfl (et rfl)) (by simp only [List.all_toArray, List.all_cons, List.all_nil, fstC, SlN_one (sl_SlN fn24.at)] <;> rfl) (by rfl) (by kernel_rfl) (fun w26 c26 hc26 hS26 => ?_)
  replace hS26 : St w NoX [c26, c10_16, cb7r_16, c7r_16, c_6r_16, c3_16] w26 := hS26
  refine W_end (gen_Q fun A27 hA27 => ?_)
  have hsz27 := szq hA27
  have hdf27 := dfE hA27 hdf18
  have l2_27 := ek5 hA27 2 rfl l2_18
  have l3_27 := ek5 hA27 3 rfl l3_18
  have l4_27 := lookE hA27 4 (et rfl)
  have l5_27 := lookE hA27 5 (es rfl (et rfl))
  have l17_27 := ek5 hA27 17 rfl l17_18
  have l18_27 := ek5 hA27 18 rfl l18_18
  have l19_27 := ek5 hA27 19 rfl l19_18
  clear hA27 hsz18 hdf18 l2_18 l3_18 l17_18 l18_18 l19_18 l20_18
  refine then_n (hK22 _ _ ?_)
  clear hK22
  refine region_monoS 8 9 [none, none, none, none, none, some (SPv [] (fun _ => fun u l' => ∃ v_s, u = v_s ∧ ∃ c_s, c_s = io .i64 (v_s) y23.2 ∧ l' = [c_s]) 5)] (by kernel_rfl) (by kernel_rfl) ?_
  refine D_v rfl rfl (V_fa (off' := 0) rfl l3_27 Try.underlying29 rfl (by decide +kernel) rfl) rfl rfl ?_
  refine D_r rfl rfl (by kernel_rfl) (fun sx hx hF => (VR_ldC rfl (et rfl) (cell_box (v := u7) ((hS26.grow hx).obj 1 rfl hc10_16) rfl) Try.underlying24 rfl)) rfl rfl ?_
  refine D_v rfl rfl (V_mov rfl (e2 rfl l4_27)) rfl rfl ?_
  refine D_v rfl rfl (V_fa (off' := 0) rfl (e3 rfl l5_27) Try.underlying27 rfl (by decide +kernel) rfl) rfl rfl ?_
  refine D_r rfl rfl (by kernel_rfl) (fun sx hx hF => (VR_ldC rfl (et rfl) (cell_box (v := y23.1) ((hS26.grow hx).obj 0 rfl hc26) rfl) Try.underlying25 rfl)) rfl rfl ?_
  refine D_call (ts := []) (vs := []) (C0 := fun _ => fun u l' => ∃ v_s, u = v_s ∧ ∃ c_s, c_s = io .i64 (v_s) y23.2 ∧ l' = [c_s]) (C := fun u l' => ∃ v_s, u = v_s ∧ ∃ c_s, c_s = io .i64 (v_s) y23.2 ∧ l' = [c_s]) rfl rfl rfl Try.func80 (by kernel_rfl) rfl (args1 (et rfl)) rfl rfl rfl rfl (fun sx hx hF => ?_) (fun u28 l28 hu28 => ?_)
  ·refine (kcl8_c ((hS26.grow hx).roC fn24) (by first | with_reducible assumption | with_reducible exact hgl.2.2 | omega)).mono ?_
   rintro _ _ ⟨v_28, rfl, hz⟩
   exact ⟨_, rfl, _, ⟨_, rfl, _, rfl, rfl⟩, hz⟩
  obtain ⟨v_28, rfl, c_28, hc_28, hl28⟩ := hu28
  have k29 : k < U.length := by first | omega | (simp only [List.length_cons, List.length_nil]; omega) | (simp only [List.length_set]; omega) | decide
  obtain ⟨y29, hy29⟩ := get_some (xs := U) (k := k) k29
  obtain ⟨B29, O29, C29, hv29⟩ := (SlN.blk (ow_at (hS26.chq 3 rfl hc7r_16)) (by first | omega | (simp only [List.length_cons, List.length_nil]; omega) | (simp only [List.length_set]; omega) | decide))
  refine D_v rfl rfl (V_ixS (off := O29 + k * 1) 1 (k) rfl (e4 rfl (et rfl)) (e3 rfl (et rfl)) hv29 (by omega) k29 Try.underlying24 (by kernel_rfl) rfl) rfl rfl ?_
  refine D_v rfl rfl (V_fa (off' := O29 + k * 1 + 0) rfl (et rfl) Try.underlying27 rfl (by decide +kernel) rfl) rfl rfl ?_
  refine D_eff rfl ?_
  refine ZS_eff hS26 rfl rfl (fun s30 hJ30 hL30 hF30 => ?_)
  obtain ⟨ll28, ws28, we28, ⟨v_28q, hq28, c_28r, hc_28r, hl28r⟩, hm28, k28, e28⟩ := L.all_get hF30; cases hq28; subst hl28r
  replace hJ30 := hJ30.add hL30 (i := 5) rfl hm28 k28 e28
  have hS30 := hJ30.st; clear hF30 hJ30 hL30
  generalize s30.1 = w30 at *
  replace hS30 : St w NoX [c_28r, c26, c10_16, cb7r_16, c7r_16, c_6r_16, c3_16] w30 := hS30
  have hS32 := hS30.sel [0, 3, 4, 1, 2, 5, 6] (by decide) (l' := [c_28r, cb7r_16, c7r_16, c26, c10_16, c_6r_16, c3_16]) rfl
  replace hS32 : St w NoX [c_28r, cb7r_16, c7r_16, c26, c10_16, c_6r_16, c3_16] w30 := hS32
  refine W_stS2 (j := k) hS32 hc_28r hcb7r_16 hc7r_16 hv29 rfl rfl rfl (et rfl) (e2 rfl (et rfl)) (SlN_one (ow_at (hS32.chq 0 rfl hc_28r))) rfl (by omega) (by kernel_rfl) (fun w31 ca31 c31 hca31 hc31 hS31 => ?_)
  have hsl31 : (U.set k (u28, y23.2)).length = U.length := List.length_set ..
  replace hS31 : St w NoX [ca31, c31, c26, c10_16, c_6r_16, c3_16] w31 := hS31
  refine W_end ?_
  refine Qo_normal ?_
  refine gen_Q (fun A33 hA33 => ?_)
  have hsz33 := szq hA33
  have hdf33 := dfE hA33 hdf27
  have l2_33 := ek8 hA33 2 rfl l2_27
  have l3_33 := ek8 hA33 3 rfl l3_27
  have l17_33 := ek8 hA33 17 rfl l17_27
  have l18_33 := ek8 hA33 18 rfl l18_27
  have l19_33 := ek8 hA33 19 rfl l19_27
  clear hA33 hsz27 hdf27 l2_27 l3_27 l4_27 l5_27 l17_27 l18_27 l19_27
  have hS34 : St w NoX [ca31, c31, c10_16, c_6r_16, c3_16] w31 := hS31.sel [0, 1, 3, 4, 5] (by decide) rfl
  refine inb_n ?_
  refine then_n (hK21 _ _ ?_)
  clear hK21
  refine region_in ?_
  refine W_v rfl rfl (V_add rfl l19_33 rfl (by omega) (by omega)) ?_
  refine W_v rfl rfl (V_mov rfl (et rfl)) ?_
  refine W_end (gen_Q fun A35 hA35 => ?_)
  have hsz35 := szq hA35
  have hdf35 := dfE hA35 hdf33
  have l2_35 := ek2 hA35 2 rfl l2_33
  have l3_35 := ek2 hA35 3 rfl l3_33
  have l17_35 := ek2 hA35 17 rfl l17_33
  have l18_35 := ek2 hA35 18 rfl l18_33
  have l19_35 := lookE hA35 19 (et rfl)
  clear hA35 hsz33 hdf33 l2_33 l3_33 l17_33 l18_33 l19_33
  have hS36 : St w NoX [c10_16, ca31, c31, c_6r_16, c3_16] w31 := hS34.sel [2, 0, 1, 3, 4] (by decide) rfl
  refine then_n ⟨Xu.length - (k + 1), by simp only [hm16]; omega, hsz35, hdf35, (k + 1), (U.set k (u28, y23.2)), rfl, (by omega), (by rw [csF_set, hU]; have q := csF_at hy23; exact cpK_set q), ((l19_35).trans (by first | rfl | (simp; done) | (congr 1; omega))), ((l2_35).trans l2_14.symm), ((l3_35).trans l3_14.symm), ((l17_35).trans l17_14.symm), ((l18_35).trans l18_14.symm), (by have q0 := hc10_16; have q1 : ca31 = owl .i64 (U.set k (u28, y23.2)) := hca31.trans (rfl); have q2 : c31 = ro 1 fstC u7 (U.set k (u28, y23.2)) := hc31.trans (rfl); have q3 := hc_6r_16; have q4 := hc3_16; subst q0 q1 q2 q3 q4; exact hS36)⟩
 ·refine wp_exit ?_
  refine then_exit ?_
  refine then_exit ?_
  refine inb_hit ?_
  refine then_n (hK12 _ _ ?_)
  clear hK12
  refine wp_seq_k fun K37 hK37 => ?_
  refine region_in ?_
  refine W_r rfl rfl (VR_ldA rfl l3_18 (hS16.obj 0 rfl hc10_16) Try.underlying29 rfl (by kernel_rfl)) ?_
  refine W_stAS 4 hS16 rfl hc3_16 rfl rfl rfl (es rfl l2_18) (et rfl) (by simp only [List.all_toArray, List.all_cons, List.all_nil, SlN_one (ow_at (hS16.chq 2 rfl hc7r_16)), SlN_one (ow_at (hS16.chq 3 rfl hc_6r_16))] <;> rfl) (by rfl) (by kernel_rfl) (fun w38 c38 hc38 hS38 => ?_)
  replace hS38 : St w NoX [c10_16, cb7r_16, c7r_16, c_6r_16, c38] w38 := hS38
  refine W_end (gen_Q fun A39 hA39 => ?_)
  have hsz39 := szq hA39
  have hdf39 := dfE hA39 hdf18
  have l2_39 := lookE hA39 2 (es rfl l2_18)
  clear hA39 hsz18 hdf18 l2_18 l3_18 l17_18 l18_18 l19_18 l20_18
  have hS40 : St w NoX [cb7r_16, c7r_16, c_6r_16, c38] w38 := hS38.sel [1, 2, 3, 4] (by decide) rfl
  refine then_n (hK37 _ _ ?_)
  clear hK37
  refine wp_ret ?_
  refine ret_in (results_1 Try.results49 (rv_cellA l2_39 (hS40.obj 3 rfl hc38) Try.underlying29 rfl (by kernel_rfl))) hdf39 ?_
  have hS42 := hS40.sel [1, 0, 2, 3] (by decide) (l' := [c7r_16, cb7r_16, c_6r_16, c38]) rfl
  replace hS42 : St w NoX [c7r_16, cb7r_16, c_6r_16, c38] w38 := hS42
  obtain ⟨c41, hc41, hS41⟩ := St.rmClose hS42 hc7r_16 hcb7r_16
  replace hS41 : St w NoX [c41, c_6r_16, c38] w38 := hS41
  exact ⟨_, _, rfl, (hS41.fin2 0 rfl (hc41.trans (by rw [hU, cpK_end (by rw [csF_len]; omega)])) 1 rfl (hc_6r_16) (by decide))⟩

set_option maxHeartbeats 4000000 in
theorem kplc_c {slot : Int} {target : Int} {C : Int} {N : Int} {Z : Int} {K : Int} {Q : Int} {w : World}   :
  Calls Try.prog 86 #[.agg #[.int .i64 slot, .int .i64 target], .agg #[.int .i64 C, .int .i64 N, .int .i64 Z, .int .i64 K, .int .i64 Q]] w fun e w' => e = .returned (.tuple #[.int .i64 (plN C N Z K Q slot target), .int .i64 (plE C N Z K Q slot target)]) ∧ St w NoX [] w' := by
 refine calls_in 44 Try.func86 rfl rfl (by simp) (fun A0 hsz0 hdf0 hargs => ?_)
 have l0_0 := hargs 0 (.agg #[.int .i64 slot, .int .i64 target]) rfl
 have l1_0 := hargs 1 (.agg #[.int .i64 C, .int .i64 N, .int .i64 Z, .int .i64 K, .int .i64 Q]) rfl
 clear hargs; replace hsz0 : SzN A0 44 := ⟨hsz0⟩
 have hS := St.nil w
 refine wp_seq_k fun K1 hK1 => ?_
 refine region_in ?_
 refine W_boxS (zs := #[.int .i64 (slot), .int .i64 (target)]) hS rfl rfl rfl l0_0 (by rfl) (fun g2 w2 c2 hc2 hS2 => ?_)
 replace hS2 : St w NoX [c2] w2 := hS2
 refine W_boxS (zs := #[.int .i64 (C), .int .i64 (N), .int .i64 (Z), .int .i64 (K), .int .i64 (Q)]) hS2 rfl rfl rfl (es rfl l1_0) (by rfl) (fun g3 w3 c3 hc3 hS3 => ?_)
 replace hS3 : St w NoX [c3, c2] w3 := hS3
 refine W_v rfl rfl (V_asg rfl rfl) ?_
 refine W_v rfl rfl (V_asg rfl rfl) ?_
 refine W_end (gen_Q fun A4 hA4 => ?_)
 have hsz4 := szq hA4
 have hdf4 := dfE hA4 hdf0
 have l2_4 := lookE hA4 2 (e3 rfl (et rfl))
 have l3_4 := lookE hA4 3 (e2 rfl (et rfl))
 clear hA4 hsz0 hdf0 l0_0 l1_0
 refine then_n (hK1 _ _ ?_)
 clear hK1
 refine wp_seq_k fun K5 hK5 => ?_
 refine region_in ?_
 refine W_r rfl rfl (VR_ldA rfl l3_4 (hS3.obj 0 rfl hc3) Try.underlying23 rfl (by kernel_rfl)) ?_
 refine W_v rfl rfl (V_fa (off' := 0) rfl (es rfl l2_4) Try.underlying117 rfl (by decide +kernel) rfl) ?_
 refine W_r rfl rfl (VR_ldC rfl (et rfl) (cell_box (v := .int .i64 (slot)) (hS3.obj 1 rfl hc2) rfl) Try.underlying3 rfl) ?_
 refine W_call rfl rfl rfl Try.func43 (by kernel_rfl) rfl (args2 (e2 rfl (et rfl)) (et rfl)) (kca_c (C := C) (N := N) (Z := Z) (K := K) (Q := Q) (a := slot)  ) ?_
 rintro _ w6 ⟨rfl, hP6⟩
 refine ⟨_, rfl, ?_⟩
 have hS6 := hS3.join hP6
 replace hS6 : St w NoX [c3, c2] w6 := hS6
 refine W_v rfl rfl (V_mov rfl (et rfl)) ?_
 refine W_v rfl rfl (V_ext (v := .int .i64 ((caN C N Z K Q slot))) rfl (et rfl) rfl) ?_
 refine W_v rfl rfl (V_ext (v := .int .i64 ((caE C N Z K Q slot))) rfl (es rfl (et rfl)) rfl) ?_
 refine W_v rfl rfl (V_asg rfl (es rfl (et rfl))) ?_
 refine W_v rfl rfl (V_asg rfl (es rfl (et rfl))) ?_
 refine W_end (gen_Q fun A7 hA7 => ?_)
 have hsz7 := szq hA7
 have hdf7 := dfE hA7 hdf4
 have l2_7 := ek9 hA7 2 rfl l2_4
 have l3_7 := ek9 hA7 3 rfl l3_4
 have l6_7 := lookE hA7 6 (es rfl (et rfl))
 have l7_7 := lookE hA7 7 (et rfl)
 clear hA7 hsz4 hdf4 l2_4 l3_4
 refine then_n (hK5 _ _ ?_)
 clear hK5
 refine wp_seq_k fun K8 hK8 => ?_
 refine wp_seq_k fun K9 hK9 => ?_
 refine region_in ?_
 refine W_v rfl rfl (V_mov rfl l7_7) ?_
 refine W_v rfl rfl (V_neq rfl (et rfl) rfl) ?_
 refine W_split rfl rfl (V_mov rfl (et rfl)) (fun c10 => ?_) (fun c10 => ?_)
 ·refine W_off rfl (wanted_f rfl rfl (et rfl) (ez rfl) rfl) ?_
  refine W_off rfl (wanted_f rfl rfl (es rfl (et rfl)) (ez rfl) rfl) ?_
  refine W_off rfl (wanted_f rfl rfl (e2 rfl (et rfl)) (ez rfl) rfl) ?_
  refine W_v rfl rfl (V_pickT rfl (e3 rfl (et rfl)) rfl) ?_
  refine W_end (gen_Q fun A11 hA11 => ?_)
  have hsz11 := szq hA11
  have hdf11 := dfE hA11 hdf7
  have l2_11 := ek7 hA11 2 rfl l2_7
  have l3_11 := ek7 hA11 3 rfl l3_7
  have l6_11 := ek7 hA11 6 rfl l6_7
  have l7_11 := ek7 hA11 7 rfl l7_7
  have l22_11 := lookE hA11 22 (et rfl)
  clear hA11 hsz7 hdf7 l2_7 l3_7 l6_7 l7_7
  refine then_n (hK9 _ _ ?_)
  clear hK9
  refine cond_t l22_11 ?_
  refine wp_seq_k fun K12 hK12 => ?_
  refine region_in ?_
  refine W_v rfl rfl (V_mov rfl l7_11) ?_
  refine W_v rfl rfl (V_asg rfl rfl) ?_
  refine W_v rfl rfl (V_asg rfl (es rfl (et rfl))) ?_
  refine W_end (gen_Q fun A13 hA13 => ?_)
  have hsz13 := szq hA13
  have hdf13 := dfE hA13 hdf11
  have l4_13 := lookE hA13 4 (es rfl (et rfl))
  have l5_13 := lookE hA13 5 (et rfl)
  clear hA13 hsz11 hdf11 l2_11 l3_11 l6_11 l7_11 l22_11
  have hS14 : St w NoX [] w6 := hS6.sel [] (by decide) rfl
  refine then_n (hK12 _ _ ?_)
  clear hK12
  refine wp_ret ?_
  refine then_ret ?_
  refine ret_in (results_2 Try.results86 (rv_tmp l4_13) (rv_tmp l5_13)) hdf13 ?_
  have h := pl_bad (C := C) (N := N) (Z := Z) (K := K) (Q := Q) (slot := slot) (target := target) (by omega)
  rw [h.1, h.2]
  exact ⟨rfl, hS14.fin0⟩
 ·refine W_v rfl (wanted_t rfl rfl (et rfl) (ez rfl)) (V_fa (off' := 1) rfl (e3 rfl l2_7) Try.underlying117 rfl (by decide +kernel) rfl) ?_
  refine W_r rfl (wanted_t rfl rfl (es rfl (et rfl)) (ez rfl)) (VR_ldC rfl (et rfl) (cell_box (v := .int .i64 (target)) (hS6.obj 1 rfl hc2) rfl) Try.underlying3 rfl) ?_
  refine W_v rfl (wanted_t rfl rfl (e2 rfl (et rfl)) (ez rfl)) (V_eql rfl (et rfl) rfl) ?_
  refine W_v rfl rfl (V_pickF rfl (e3 rfl (et rfl)) (et rfl)) ?_
  refine W_end (gen_Q fun A15 hA15 => ?_)
  have hsz15 := szq hA15
  have hdf15 := dfE hA15 hdf7
  have l2_15 := ek7 hA15 2 rfl l2_7
  have l3_15 := ek7 hA15 3 rfl l3_7
  have l6_15 := ek7 hA15 6 rfl l6_7
  have l7_15 := ek7 hA15 7 rfl l7_7
  have l22_15 := lookE hA15 22 (et rfl)
  clear hA15 hsz7 hdf7 l2_7 l3_7 l6_7 l7_7
  refine then_n (hK9 _ _ ?_)
  clear hK9
  refine cond_dec l22_15 (fun c16 => ?_) (fun c16 => ?_)
  ·refine wp_seq_k fun K17 hK17 => ?_
   refine region_in ?_
   refine W_v rfl rfl (V_mov rfl l7_15) ?_
   refine W_v rfl rfl (V_asg rfl rfl) ?_
   refine W_v rfl rfl (V_asg rfl (es rfl (et rfl))) ?_
   refine W_end (gen_Q fun A18 hA18 => ?_)
   have hsz18 := szq hA18
   have hdf18 := dfE hA18 hdf15
   have l4_18 := lookE hA18 4 (es rfl (et rfl))
   have l5_18 := lookE hA18 5 (et rfl)
   clear hA18 hsz15 hdf15 l2_15 l3_15 l6_15 l7_15 l22_15
   have hS19 : St w NoX [] w6 := hS6.sel [] (by decide) rfl
   refine then_n (hK17 _ _ ?_)
   clear hK17
   refine wp_ret ?_
   refine then_ret ?_
   refine ret_in (results_2 Try.results86 (rv_tmp l4_18) (rv_tmp l5_18)) hdf18 ?_
   have h := pl_zero (C := C) (N := N) (Z := Z) (K := K) (Q := Q) (slot := slot) (target := target) (by omega) (by omega)
   rw [h.1, h.2]
   rw [show (caE C N Z K Q slot) = 0 by omega]
   exact ⟨rfl, hS19.fin0⟩
  ·refine wp_skip ?_
   refine then_n (hK8 _ _ ?_)
   clear hK8
   refine wp_seq_k fun K20 hK20 => ?_
   refine region_in ?_
   refine W_r rfl rfl (VR_ldA rfl l3_15 (hS6.obj 0 rfl hc3) Try.underlying23 rfl (by kernel_rfl)) ?_
   refine W_v rfl rfl (V_fa (off' := 1) rfl (es rfl l2_15) Try.underlying117 rfl (by decide +kernel) rfl) ?_
   refine W_r rfl rfl (VR_ldC rfl (et rfl) (cell_box (v := .int .i64 (target)) (hS6.obj 1 rfl hc2) rfl) Try.underlying3 rfl) ?_
   refine W_call rfl rfl rfl Try.func43 (by kernel_rfl) rfl (args2 (e2 rfl (et rfl)) (et rfl)) (kca_c (C := C) (N := N) (Z := Z) (K := K) (Q := Q) (a := target)  ) ?_
   rintro _ w21 ⟨rfl, hP21⟩
   refine ⟨_, rfl, ?_⟩
   have hS21 := hS6.join hP21
   replace hS21 : St w NoX [c3, c2] w21 := hS21
   refine W_v rfl rfl (V_mov rfl (et rfl)) ?_
   refine W_v rfl rfl (V_ext (v := .int .i64 ((caN C N Z K Q target))) rfl (et rfl) rfl) ?_
   refine W_v rfl rfl (V_ext (v := .int .i64 ((caE C N Z K Q target))) rfl (es rfl (et rfl)) rfl) ?_
   refine W_v rfl rfl (V_asg rfl (es rfl (et rfl))) ?_
   refine W_v rfl rfl (V_asg rfl (es rfl (et rfl))) ?_
   refine W_end (gen_Q fun A22 hA22 => ?_)
   have hsz22 := szq hA22
   have hdf22 := dfE hA22 hdf15
   have l6_22 := ek9 hA22 6 rfl l6_15
   have l7_22 := lookE hA22 7 (et rfl)
   have l8_22 := lookE hA22 8 (es rfl (et rfl))
   clear hA22 hsz15 hdf15 l2_15 l3_15 l6_15 l7_15 l22_15
   have hS23 : St w NoX [] w21 := hS21.sel [] (by decide) rfl
   refine then_n (hK20 _ _ ?_)
   clear hK20
   refine wp_seq_k fun K24 hK24 => ?_
   refine wp_seq_k fun K25 hK25 => ?_
   refine region_in ?_
   refine W_v rfl rfl (V_mov rfl l7_22) ?_
   refine W_v rfl rfl (V_neq rfl (et rfl) rfl) ?_
   refine W_split rfl rfl (V_mov rfl (et rfl)) (fun c26 => ?_) (fun c26 => ?_)
   ·refine W_off rfl (wanted_f rfl rfl (et rfl) (ez rfl) rfl) ?_
    refine W_off rfl (wanted_f rfl rfl (es rfl (et rfl)) (ez rfl) rfl) ?_
    refine W_v rfl rfl (V_pickT rfl (e2 rfl (et rfl)) rfl) ?_
    refine W_v rfl rfl (V_mov rfl (et rfl)) ?_
    refine W_off rfl (wanted_f rfl rfl (et rfl) (ez rfl) rfl) ?_
    refine W_off rfl (wanted_f rfl rfl (es rfl (et rfl)) (ez rfl) rfl) ?_
    refine W_off rfl (wanted_f rfl rfl (e2 rfl (et rfl)) (ez rfl) rfl) ?_
    refine W_v rfl rfl (V_pickT rfl (e3 rfl (et rfl)) rfl) ?_
    refine W_end (gen_Q fun A27 hA27 => ?_)
    have hsz27 := szq hA27
    have hdf27 := dfE hA27 hdf22
    have l7_27 := ek11 hA27 7 rfl l7_22
    have l8_27 := ek11 hA27 8 rfl l8_22
    have l41_27 := lookE hA27 41 (et rfl)
    clear hA27 hsz22 hdf22 l6_22 l7_22 l8_22
    refine then_n (hK25 _ _ ?_)
    clear hK25
    refine cond_t l41_27 ?_
    refine wp_seq_k fun K28 hK28 => ?_
    refine region_in ?_
    refine W_v rfl rfl (V_mov rfl l7_27) ?_
    refine W_v rfl rfl (V_asg rfl rfl) ?_
    refine W_v rfl rfl (V_asg rfl (es rfl (et rfl))) ?_
    refine W_end (gen_Q fun A29 hA29 => ?_)
    have hsz29 := szq hA29
    have hdf29 := dfE hA29 hdf27
    have l4_29 := lookE hA29 4 (es rfl (et rfl))
    have l5_29 := lookE hA29 5 (et rfl)
    clear hA29 hsz27 hdf27 l7_27 l8_27 l41_27
    refine then_n (hK28 _ _ ?_)
    clear hK28
    refine wp_ret ?_
    refine then_ret ?_
    refine ret_in (results_2 Try.results86 (rv_tmp l4_29) (rv_tmp l5_29)) hdf29 ?_
    have h := pl_bad2 (C := C) (N := N) (Z := Z) (K := K) (Q := Q) (slot := slot) (target := target) (by omega) (by omega) (by omega)
    rw [h.1, h.2]
    exact ⟨rfl, hS23.fin0⟩
   ·refine W_v rfl (wanted_t rfl rfl (et rfl) (ez rfl)) (V_mov rfl (e3 rfl l6_22)) ?_
    refine W_v rfl (wanted_t rfl rfl (es rfl (et rfl)) (ez rfl)) (V_lss rfl (et rfl) rfl) ?_
    refine W_v rfl rfl (V_pickF rfl (e2 rfl (et rfl)) (et rfl)) ?_
    refine W_split rfl rfl (V_mov rfl (et rfl)) (fun c30 => ?_) (fun c30 => ?_)
    ·refine W_off rfl (wanted_f rfl rfl (et rfl) (ez rfl) rfl) ?_
     refine W_off rfl (wanted_f rfl rfl (es rfl (et rfl)) (ez rfl) rfl) ?_
     refine W_off rfl (wanted_f rfl rfl (e2 rfl (et rfl)) (ez rfl) rfl) ?_
     refine W_v rfl rfl (V_pickT rfl (e3 rfl (et rfl)) rfl) ?_
     refine W_end (gen_Q fun A31 hA31 => ?_)
     have hsz31 := szq hA31
     have hdf31 := dfE hA31 hdf22
     have l7_31 := ek11 hA31 7 rfl l7_22
     have l8_31 := ek11 hA31 8 rfl l8_22
     have l41_31 := lookE hA31 41 (et rfl)
     clear hA31 hsz22 hdf22 l6_22 l7_22 l8_22
     refine then_n (hK25 _ _ ?_)
     clear hK25
     refine cond_t l41_31 ?_
     refine wp_seq_k fun K32 hK32 => ?_
     refine region_in ?_
     refine W_v rfl rfl (V_mov rfl l7_31) ?_
     refine W_v rfl rfl (V_asg rfl rfl) ?_
     refine W_v rfl rfl (V_asg rfl (es rfl (et rfl))) ?_
     refine W_end (gen_Q fun A33 hA33 => ?_)
     have hsz33 := szq hA33
     have hdf33 := dfE hA33 hdf31
     have l4_33 := lookE hA33 4 (es rfl (et rfl))
     have l5_33 := lookE hA33 5 (et rfl)
     clear hA33 hsz31 hdf31 l7_31 l8_31 l41_31
     refine then_n (hK32 _ _ ?_)
     clear hK32
     refine wp_ret ?_
     refine then_ret ?_
     refine ret_in (results_2 Try.results86 (rv_tmp l4_33) (rv_tmp l5_33)) hdf33 ?_
     have h := pl_none (C := C) (N := N) (Z := Z) (K := K) (Q := Q) (slot := slot) (target := target) (by omega) (by omega) (by omega) (by omega)
     rw [h.1, h.2]
     rw [show (caE C N Z K Q target) = 0 by omega]
     exact ⟨rfl, hS23.fin0⟩
    ·refine W_v rfl (wanted_t rfl rfl (et rfl) (ez rfl)) (V_mov rfl (e7 rfl l6_22)) ?_
     refine W_v rfl (wanted_t rfl rfl (es rfl (et rfl)) (ez rfl)) (V_mov rfl (e8 rfl l8_22)) ?_
     refine W_v rfl (wanted_t rfl rfl (e2 rfl (et rfl)) (ez rfl)) (V_eql rfl (es rfl (et rfl)) (et rfl)) ?_
     refine W_v rfl rfl (V_pickF rfl (e3 rfl (et rfl)) (et rfl)) ?_
     refine W_end (gen_Q fun A34 hA34 => ?_)
     have hsz34 := szq hA34
     have hdf34 := dfE hA34 hdf22
     have l7_34 := ek11 hA34 7 rfl l7_22
     have l8_34 := ek11 hA34 8 rfl l8_22
     have l41_34 := lookE hA34 41 (et rfl)
     clear hA34 hsz22 hdf22 l6_22 l7_22 l8_22
     refine then_n (hK25 _ _ ?_)
     clear hK25
     refine cond_dec l41_34 (fun c35 => ?_) (fun c35 => ?_)
     ·refine wp_seq_k fun K36 hK36 => ?_
      refine region_in ?_
      refine W_v rfl rfl (V_mov rfl l7_34) ?_
      refine W_v rfl rfl (V_asg rfl rfl) ?_
      refine W_v rfl rfl (V_asg rfl (es rfl (et rfl))) ?_
      refine W_end (gen_Q fun A37 hA37 => ?_)
      have hsz37 := szq hA37
      have hdf37 := dfE hA37 hdf34
      have l4_37 := lookE hA37 4 (es rfl (et rfl))
      have l5_37 := lookE hA37 5 (et rfl)
      clear hA37 hsz34 hdf34 l7_34 l8_34 l41_34
      refine then_n (hK36 _ _ ?_)
      clear hK36
      refine wp_ret ?_
      refine then_ret ?_
      refine ret_in (results_2 Try.results86 (rv_tmp l4_37) (rv_tmp l5_37)) hdf37 ?_
      have h := pl_none (C := C) (N := N) (Z := Z) (K := K) (Q := Q) (slot := slot) (target := target) (by omega) (by omega) (by omega) (by omega)
      rw [h.1, h.2]
      rw [show (caE C N Z K Q target) = 0 by omega]
      exact ⟨rfl, hS23.fin0⟩
     ·refine wp_skip ?_
      refine then_n (hK24 _ _ ?_)
      clear hK24
      refine wp_seq_k fun K38 hK38 => ?_
      refine region_in ?_
      refine W_v rfl rfl (V_mov rfl l8_34) ?_
      refine W_v rfl rfl (V_asg rfl (et rfl)) ?_
      refine W_v rfl rfl (V_asg rfl rfl) ?_
      refine W_end (gen_Q fun A39 hA39 => ?_)
      have hsz39 := szq hA39
      have hdf39 := dfE hA39 hdf34
      have l4_39 := lookE hA39 4 (es rfl (et rfl))
      have l5_39 := lookE hA39 5 (et rfl)
      clear hA39 hsz34 hdf34 l7_34 l8_34 l41_34
      refine then_n (hK38 _ _ ?_)
      clear hK38
      refine wp_ret ?_
      refine ret_in (results_2 Try.results86 (rv_tmp l4_39) (rv_tmp l5_39)) hdf39 ?_
      have h := pl_some (C := C) (N := N) (Z := Z) (K := K) (Q := Q) (slot := slot) (target := target) (by omega) (by omega) (by omega) (by omega)
      rw [h.1, h.2]
      exact ⟨rfl, hS23.fin0⟩

set_option maxHeartbeats 4000000 in
theorem kchg_c {cv : Value} {X : List (List Int)} {nz : Value} {i : Int} {slot : Int} {add : Bool} {w : World} {Y : Nat → Prop}  (hS : St w Y [rmO cv X] w) (hi : i = -2 ∨ (0 ≤ i ∧ i < (X.length : Int))) (hch : ∀ c ∈ X, chE c slot = 0) :
  Calls Try.prog 89 #[.agg #[cv, nz], .int .i64 i, .int .i64 slot, .bool add] w fun e w' => e = .returned (.tuple #[]) ∧ St w Y [rmO cv (cgC X i slot add)] w' := by
 refine calls_inR 36 Try.func89 rfl rfl (by simp) (fun A0 hsz0 hdf0 hargs => ?_)
 have l0_0 := hargs 0 (.agg #[cv, nz]) rfl
 have l1_0 := hargs 1 (.int .i64 i) rfl
 have l2_0 := hargs 2 (.int .i64 slot) rfl
 have l3_0 := hargs 3 (.bool add) rfl
 clear hargs; replace hsz0 : SzN A0 36 := ⟨hsz0⟩
 obtain ⟨m_cv, hm_cv, hS⟩ := gen1 hS
 replace hS : St w Y [m_cv] w := hS
 obtain ⟨U1, c1, cb1, hU1, hc1, hcb1, hS1⟩ := St.rmOpen hS hm_cv
 replace hS1 : St w Y [c1, cb1] w := hS1
 have hUl := cs_len hU1
 refine R_seq (fun K2 hK2 => ?_)
 refine R_region (by kernel_rfl) ?_
 refine W_boxS (zs := #[cv, nz]) hS1 rfl rfl rfl l0_0 (by rfl) (fun g3 w3 c3 hc3 hS3 => ?_)
 replace hS3 : St w Y [c3, c1, cb1] w3 := hS3
 refine W_end ?_
 refine Qo_normal ?_
 refine gen_Q (fun A4 hA4 => ?_)
 have hsz4 := szq hA4
 have hdf4 := dfE hA4 hdf0
 have l1_4 := lookE hA4 1 (es rfl l1_0)
 have l2_4 := lookE hA4 2 (es rfl l2_0)
 have l3_4 := lookE hA4 3 (es rfl l3_0)
 have l4_4 := lookE hA4 4 (et rfl)
 clear hA4 hsz0 hdf0 l0_0 l1_0 l2_0 l3_0
 refine then_n (hK2 _ _ ?_)
 clear hK2
 refine R_seq (fun K5 hK5 => ?_)
 refine R_seq (fun K6 hK6 => ?_)
 refine R_region (by kernel_rfl) ?_
 refine W_v rfl rfl (V_mov rfl l1_4) ?_
 refine W_v rfl rfl (V_eql rfl (et rfl) rfl) ?_
 refine W_end ?_
 refine Qo_normal ?_
 refine gen_Q (fun A7 hA7 => ?_)
 have hsz7 := szq hA7
 have hdf7 := dfE hA7 hdf4
 have l1_7 := ek2 hA7 1 rfl l1_4
 have l2_7 := ek2 hA7 2 rfl l2_4
 have l3_7 := ek2 hA7 3 rfl l3_4
 have l4_7 := ek2 hA7 4 rfl l4_4
 have l14_7 := lookE hA7 14 (et rfl)
 clear hA7 hsz4 hdf4 l1_4 l2_4 l3_4 l4_4
 refine then_n (hK6 _ _ ?_)
 clear hK6
 refine R_cond_dec l14_7 (fun c8 => ?_) (fun c8 => ?_)
 ·refine R_ret ?_
  refine then_ret ?_
  refine ret_inR0 (results_0 Try.results89 ) hdf7 ?_
  have hS10 := hS3.sel [1, 2, 0] (by decide) (l' := [c1, cb1, c3]) rfl
  replace hS10 : St w Y [c1, cb1, c3] w3 := hS10
  obtain ⟨c9, hc9, hS9⟩ := St.rmClose hS10 hc1 hcb1
  replace hS9 : St w Y [c9, c3] w3 := hS9
  exact ⟨rfl, (hS9.fin1 0 rfl (hc9.trans (by rw [hU1, cg_neg (by omega)])))⟩
 ·have hmx : (if (0 : Int) > i then 0 else i) = i := if_neg (by omega)
  refine R_skip ?_
  refine then_n (hK5 _ _ ?_)
  clear hK5
  refine R_seq (fun K11 hK11 => ?_)
  refine R_region (by kernel_rfl) ?_
  refine W_v rfl rfl (V_fa (off' := 0) rfl l4_7 Try.underlying29 rfl (by decide +kernel) rfl) ?_
  refine W_r rfl rfl (VR_ldC rfl (et rfl) (cell_box (v := cv) (hS3.obj 0 rfl hc3) rfl) Try.underlying24 rfl) ?_
  refine W_v rfl rfl (V_mov rfl (e2 rfl l1_7)) ?_
  refine W_v rfl rfl (V_max rfl (et rfl) rfl) ?_
  have k12 : i.toNat < U1.length := by first | omega | (simp only [List.length_cons, List.length_nil]; omega) | (simp only [List.length_set]; omega) | decide
  obtain ⟨y12, hy12⟩ := get_some (xs := U1) (k := i.toNat) k12
  obtain ⟨B12, O12, C12, hv12⟩ := (SlN.blk (ow_at (hS3.chq 1 rfl hc1)) (by first | omega | (simp only [List.length_cons, List.length_nil]; omega) | (simp only [List.length_set]; omega) | decide))
  refine W_v rfl rfl (V_ixS (off := O12 + i.toNat * 1) 1 (i.toNat) rfl (e2 rfl (et rfl)) (et rfl) hv12 (by omega) k12 Try.underlying24 (by kernel_rfl) rfl) ?_
  refine W_v rfl rfl (V_asg rfl (et rfl)) ?_
  refine W_end ?_
  refine Qo_normal ?_
  refine gen_Q (fun A13 hA13 => ?_)
  have hsz13 := szq hA13
  have hdf13 := dfE hA13 hdf7
  have l2_13 := ek6 hA13 2 rfl l2_7
  have l3_13 := ek6 hA13 3 rfl l3_7
  have l8_13 := lookE hA13 8 (et rfl)
  clear hA13 hsz7 hdf7 l1_7 l2_7 l3_7 l4_7 l14_7
  have hS14 : St w Y [c1, cb1] w3 := hS3.sel [1, 2] (by decide) rfl
  refine then_n (hK11 _ _ ?_)
  clear hK11
  refine R_seq (fun K15 hK15 => ?_)
  refine R_region (by kernel_rfl) ?_
  refine W_v rfl rfl (V_asg rfl rfl) ?_
  refine W_end ?_
  refine Qo_normal ?_
  refine gen_Q (fun A16 hA16 => ?_)
  have hsz16 := szq hA16
  have hdf16 := dfE hA16 hdf13
  have l2_16 := lookE hA16 2 (es rfl l2_13)
  have l3_16 := lookE hA16 3 (es rfl l3_13)
  have l8_16 := lookE hA16 8 (es rfl l8_13)
  have l9_16 := lookE hA16 9 (et rfl)
  clear hA16 hsz13 hdf13 l2_13 l3_13 l8_13
  refine then_n (hK15 _ _ ?_)
  clear hK15
  refine R_seq (fun K17 hK17 => ?_)
  refine R_seq (fun K18 hK18 => ?_)
  refine R_region (by kernel_rfl) ?_
  refine W_v rfl rfl (V_mov rfl l3_16) ?_
  refine W_end ?_
  refine Qo_normal ?_
  refine gen_Q (fun A19 hA19 => ?_)
  have hsz19 := szq hA19
  have hdf19 := dfE hA19 hdf16
  have l2_19 := lookE hA19 2 (es rfl l2_16)
  have l8_19 := lookE hA19 8 (es rfl l8_16)
  have l9_19 := lookE hA19 9 (es rfl l9_16)
  have l20_19 := lookE hA19 20 (et rfl)
  clear hA19 hsz16 hdf16 l2_16 l3_16 l8_16 l9_16
  refine then_n (hK18 _ _ ?_)
  clear hK18
  refine R_cond_b l20_19 (fun c20 => ?_) (fun c20 => ?_)
  ·refine R_region (by kernel_rfl) ?_
   refine W_v rfl rfl (V_asg rfl rfl) ?_
   refine W_end ?_
   refine Qo_normal ?_
   refine gen_Q (fun A21 hA21 => ?_)
   have hsz21 := szq hA21
   have hdf21 := dfE hA21 hdf19
   have l2_21 := lookE hA21 2 (es rfl l2_19)
   have l8_21 := lookE hA21 8 (es rfl l8_19)
   have l9_21 := lookE hA21 9 (et rfl)
   clear hA21 hsz19 hdf19 l2_19 l8_19 l9_19 l20_19
   refine then_n (hK17 _ _ ?_)
   clear hK17
   refine R_seq (fun K22 hK22 => ?_)
   refine R_region (by kernel_rfl) ?_
   refine W_v rfl rfl (V_mov rfl l9_21) ?_
   refine W_v rfl rfl (V_mov rfl (es rfl l8_21)) ?_
   refine W_v rfl rfl (V_nil rfl (et rfl)) ?_
   have bfn23 := SlN.le (sl_SlN (owl_at hy12 (hS14.chq 1 rfl hcb1)))
   refine W_r rfl rfl (VR_ldR (ys := fstC y12) rfl (et rfl) (SlN.row fstC_len (ow_at (hS14.chq 0 rfl hc1)) hv12 hy12 rfl) Try.underlying27 rfl (by kernel_rfl)) ?_
   refine W_v rfl rfl (V_mov rfl (e4 rfl l2_21)) ?_
   refine W_callV rfl rfl rfl (e4 rfl (et rfl)) Try.func87 (by kernel_rfl) rfl (args2 (es rfl (et rfl)) (et rfl)) (kAdd_c (a := slot) (owl_ro hy12 (hS14.chC 1 rfl hcb1)) ) ?_
   rintro _ w24 ⟨v_24, rfl, hP24⟩
   refine ⟨_, rfl, ?_⟩
   obtain ⟨c_24, hc_24, hP24⟩ := gen1 hP24
   have hS24 := hS14.join hP24
   replace hS24 : St w Y [c_24, c1, cb1] w24 := hS24
   refine W_v rfl rfl (V_mov rfl (et rfl)) ?_
   refine W_v rfl rfl (V_ext (v := .agg #[v_24]) rfl (et rfl) rfl) ?_
   refine W_v rfl rfl (V_ext (v := .bool ((adB y12.2 slot))) rfl (es rfl (et rfl)) rfl) ?_
   refine W_v rfl rfl (V_ext (v := .int .i64 ((chE y12.2 slot))) rfl (e2 rfl (et rfl)) rfl) ?_
   refine W_allocS (z := .agg #[.slice none 0 0]) (zs := #[.slice none 0 0]) hS24 rfl rfl rfl (by kernel_rfl) (by rfl) (fun g25 w25 c25 hc25 hS25 => ?_)
   replace hS25 : St w Y [c25, c_24, c1, cb1] w25 := hS25
   refine W_stAS 0 hS25 rfl hc25 rfl rfl rfl (et rfl) (e3 rfl (et rfl)) (by simp only [List.all_toArray, List.all_cons, List.all_nil, SlN_one (ow_at (hS25.chq 1 rfl hc_24))] <;> rfl) (by rfl) (by kernel_rfl) (fun w26 c26 hc26 hS26 => ?_)
   replace hS26 : St w Y [c26, c_24, c1, cb1] w26 := hS26
   refine W_v rfl rfl (V_asg rfl (e2 rfl (et rfl))) ?_
   refine W_v rfl rfl (V_asg rfl (e2 rfl (et rfl))) ?_
   refine W_end ?_
   refine Qo_normal ?_
   refine gen_Q (fun A27 hA27 => ?_)
   have hsz27 := szq hA27
   have hdf27 := dfE hA27 hdf21
   have l8_27 := ek13 hA27 8 rfl l8_21
   have l10_27 := lookE hA27 10 (e2 rfl (et rfl))
   have l12_27 := lookE hA27 12 (et rfl)
   clear hA27 hsz21 hdf21 l2_21 l8_21 l9_21
   refine then_n (hK22 _ _ ?_)
   clear hK22
   refine R_seq (fun K28 hK28 => ?_)
   refine R_region (by kernel_rfl) ?_
   refine W_v rfl rfl (V_mov rfl l12_27) ?_
   refine W_v rfl rfl (V_eql rfl (et rfl) rfl) ?_
   refine W_end ?_
   refine Qo_normal ?_
   refine gen_Q (fun A29 hA29 => ?_)
   have hsz29 := szq hA29
   have hdf29 := dfE hA29 hdf27
   have l8_29 := ek2 hA29 8 rfl l8_27
   have l10_29 := ek2 hA29 10 rfl l10_27
   have l32_29 := lookE hA29 32 (et rfl)
   clear hA29 hsz27 hdf27 l8_27 l10_27 l12_27
   refine then_n (hK28 _ _ ?_)
   clear hK28
   refine R_cond_sure l32_29 (by rw [decide_eq_true_eq]; exact hch _ (List.mem_of_getElem? (cs_mem hU1 hy12))) ?_
   refine R_region (by kernel_rfl) ?_
   refine W_v rfl rfl (V_mov rfl l8_29) ?_
   refine W_r rfl rfl (VR_ldA rfl (es rfl l10_29) (hS26.obj 0 rfl hc26) Try.underlying27 rfl (by kernel_rfl)) ?_
   refine W_v rfl rfl (V_nil rfl (es rfl (et rfl))) ?_
   have hS31 := hS26.sel [1, 3, 2, 0] (by decide) (l' := [c_24, cb1, c1, c26]) rfl
   replace hS31 : St w Y [c_24, cb1, c1, c26] w26 := hS31
   refine W_stS1 (j := i.toNat) hS31 hc_24 hcb1 hc1 hv12 rfl rfl rfl (et rfl) (es rfl (et rfl)) (SlN_one (ow_at (hS31.chq 0 rfl hc_24))) rfl (by omega) (by kernel_rfl) (fun w30 ca30 c30 hca30 hc30 hS30 => ?_)
   have hsl30 : (U1.set i.toNat (v_24, (adT y12.2 slot))).length = U1.length := List.length_set ..
   replace hS30 : St w Y [ca30, c30, c26] w30 := hS30
   refine W_end ?_
   refine Qo_normal ?_
   refine gen_Q (fun A32 hA32 => ?_)
   have hsz32 := szq hA32
   have hdf32 := dfE hA32 hdf29
   clear hA32 hsz29 hdf29 l8_29 l10_29 l32_29
   have hS33 : St w Y [ca30, c30] w30 := hS30.sel [0, 1] (by decide) rfl
   refine ret_inR0 (results_0 Try.results89 ) hdf32 ?_
   have hS35 := hS33.sel [1, 0] (by decide) (l' := [c30, ca30]) rfl
   replace hS35 : St w Y [c30, ca30] w30 := hS35
   obtain ⟨c34, hc34, hS34⟩ := St.rmClose hS35 hc30 hca30
   replace hS34 : St w Y [c34] w30 := hS34
   exact ⟨rfl, (hS34.fin1 0 rfl (hc34.trans (by rw [csF_set, hU1, cg_at (by omega) rfl (cs_mem hU1 hy12)]; simp [stF, c20])))⟩
  ·refine R_skip ?_
   refine then_n (hK17 _ _ ?_)
   clear hK17
   refine R_seq (fun K36 hK36 => ?_)
   refine R_region (by kernel_rfl) ?_
   refine W_v rfl rfl (V_mov rfl l9_19) ?_
   refine W_v rfl rfl (V_mov rfl (es rfl l8_19)) ?_
   refine W_v rfl rfl (V_nil rfl (et rfl)) ?_
   have bfn37 := SlN.le (sl_SlN (owl_at hy12 (hS14.chq 1 rfl hcb1)))
   refine W_r rfl rfl (VR_ldR (ys := fstC y12) rfl (et rfl) (SlN.row fstC_len (ow_at (hS14.chq 0 rfl hc1)) hv12 hy12 rfl) Try.underlying27 rfl (by kernel_rfl)) ?_
   refine W_v rfl rfl (V_mov rfl (e4 rfl l2_19)) ?_
   refine W_callV rfl rfl rfl (e4 rfl (et rfl)) Try.func88 (by kernel_rfl) rfl (args2 (es rfl (et rfl)) (et rfl)) (kDrop_c (a := slot) (owl_ro hy12 (hS14.chC 1 rfl hcb1)) ) ?_
   rintro _ w38 ⟨v_38, rfl, hP38⟩
   refine ⟨_, rfl, ?_⟩
   obtain ⟨c_38, hc_38, hP38⟩ := gen1 hP38
   have hS38 := hS14.join hP38
   replace hS38 : St w Y [c_38, c1, cb1] w38 := hS38
   refine W_v rfl rfl (V_mov rfl (et rfl)) ?_
   refine W_v rfl rfl (V_ext (v := .agg #[v_38]) rfl (et rfl) rfl) ?_
   refine W_v rfl rfl (V_ext (v := .bool ((hsB y12.2 slot))) rfl (es rfl (et rfl)) rfl) ?_
   refine W_v rfl rfl (V_ext (v := .int .i64 ((chE y12.2 slot))) rfl (e2 rfl (et rfl)) rfl) ?_
   refine W_allocS (z := .agg #[.slice none 0 0]) (zs := #[.slice none 0 0]) hS38 rfl rfl rfl (by kernel_rfl) (by rfl) (fun g39 w39 c39 hc39 hS39 => ?_)
   replace hS39 : St w Y [c39, c_38, c1, cb1] w39 := hS39
   refine W_stAS 0 hS39 rfl hc39 rfl rfl rfl (et rfl) (e3 rfl (et rfl)) (by simp only [List.all_toArray, List.all_cons, List.all_nil, SlN_one (ow_at (hS39.chq 1 rfl hc_38))] <;> rfl) (by rfl) (by kernel_rfl) (fun w40 c40 hc40 hS40 => ?_)
   replace hS40 : St w Y [c40, c_38, c1, cb1] w40 := hS40
   refine W_v rfl rfl (V_asg rfl (e2 rfl (et rfl))) ?_
   refine W_v rfl rfl (V_asg rfl (e2 rfl (et rfl))) ?_
   refine W_end ?_
   refine Qo_normal ?_
   refine gen_Q (fun A41 hA41 => ?_)
   have hsz41 := szq hA41
   have hdf41 := dfE hA41 hdf19
   have l8_41 := ek13 hA41 8 rfl l8_19
   have l10_41 := lookE hA41 10 (e2 rfl (et rfl))
   have l12_41 := lookE hA41 12 (et rfl)
   clear hA41 hsz19 hdf19 l2_19 l8_19 l9_19 l20_19
   refine then_n (hK36 _ _ ?_)
   clear hK36
   refine R_seq (fun K42 hK42 => ?_)
   refine R_region (by kernel_rfl) ?_
   refine W_v rfl rfl (V_mov rfl l12_41) ?_
   refine W_v rfl rfl (V_eql rfl (et rfl) rfl) ?_
   refine W_end ?_
   refine Qo_normal ?_
   refine gen_Q (fun A43 hA43 => ?_)
   have hsz43 := szq hA43
   have hdf43 := dfE hA43 hdf41
   have l8_43 := ek2 hA43 8 rfl l8_41
   have l10_43 := ek2 hA43 10 rfl l10_41
   have l32_43 := lookE hA43 32 (et rfl)
   clear hA43 hsz41 hdf41 l8_41 l10_41 l12_41
   refine then_n (hK42 _ _ ?_)
   clear hK42
   refine R_cond_sure l32_43 (by rw [decide_eq_true_eq]; exact hch _ (List.mem_of_getElem? (cs_mem hU1 hy12))) ?_
   refine R_region (by kernel_rfl) ?_
   refine W_v rfl rfl (V_mov rfl l8_43) ?_
   refine W_r rfl rfl (VR_ldA rfl (es rfl l10_43) (hS40.obj 0 rfl hc40) Try.underlying27 rfl (by kernel_rfl)) ?_
   refine W_v rfl rfl (V_nil rfl (es rfl (et rfl))) ?_
   have hS45 := hS40.sel [1, 3, 2, 0] (by decide) (l' := [c_38, cb1, c1, c40]) rfl
   replace hS45 : St w Y [c_38, cb1, c1, c40] w40 := hS45
   refine W_stS1 (j := i.toNat) hS45 hc_38 hcb1 hc1 hv12 rfl rfl rfl (et rfl) (es rfl (et rfl)) (SlN_one (ow_at (hS45.chq 0 rfl hc_38))) rfl (by omega) (by kernel_rfl) (fun w44 ca44 c44 hca44 hc44 hS44 => ?_)
   have hsl44 : (U1.set i.toNat (v_38, (drT y12.2 slot))).length = U1.length := List.length_set ..
   replace hS44 : St w Y [ca44, c44, c40] w44 := hS44
   refine W_end ?_
   refine Qo_normal ?_
   refine gen_Q (fun A46 hA46 => ?_)
   have hsz46 := szq hA46
   have hdf46 := dfE hA46 hdf43
   clear hA46 hsz43 hdf43 l8_43 l10_43 l32_43
   have hS47 : St w Y [ca44, c44] w44 := hS44.sel [0, 1] (by decide) rfl
   refine ret_inR0 (results_0 Try.results89 ) hdf46 ?_
   have hS49 := hS47.sel [1, 0] (by decide) (l' := [c44, ca44]) rfl
   replace hS49 : St w Y [c44, ca44] w44 := hS49
   obtain ⟨c48, hc48, hS48⟩ := St.rmClose hS49 hc44 hca44
   replace hS48 : St w Y [c48] w44 := hS48
   exact ⟨rfl, (hS48.fin1 0 rfl (hc48.trans (by rw [csF_set, hU1, cg_at (by omega) rfl (cs_mem hU1 hy12)]; simp [stF, c20])))⟩

set_option maxHeartbeats 4000000 in
theorem kchd_c {C : Int} {N : Int} {Z : Int} {K : Int} {Q : Int} {cv : Value} {X : List (List Int)} {nv : Value} {ns : List Int} {slot : Int} {old : Int} {now : Int} {w : World} (h_cv : Ro w NoX (rmR cv X)) (h_nv : Ro w NoX (il .i64 nv ns))  :
  Calls Try.prog 59 #[.agg #[.int .i64 C, .int .i64 N, .int .i64 Z, .int .i64 K, .int .i64 Q], .agg #[cv, nv], .int .i64 slot, .int .i64 old, .int .i64 now] w fun e w' => ∃ v z, e = .returned (.tuple #[.agg #[v, z], .int .i64 (chE8 C N Z K Q X ns slot old now)]) ∧ St w NoX [rmO v (chC C N Z K Q X ns slot old now), io .i64 (z) (chN C N Z K Q X ns slot old now)] w' := by
 refine calls_in 121 Try.func59 rfl rfl (by simp) (fun A0 hsz0 hdf0 hargs => ?_)
 have l0_0 := hargs 0 (.agg #[.int .i64 C, .int .i64 N, .int .i64 Z, .int .i64 K, .int .i64 Q]) rfl
 have l1_0 := hargs 1 (.agg #[cv, nv]) rfl
 have l2_0 := hargs 2 (.int .i64 slot) rfl
 have l3_0 := hargs 3 (.int .i64 old) rfl
 have l4_0 := hargs 4 (.int .i64 now) rfl
 clear hargs; replace hsz0 : SzN A0 121 := ⟨hsz0⟩
 have hS := St.nil w
 have bh_nv := SlN.le (sl_SlN h_nv.at)
 refine wp_seq_k fun K1 hK1 => ?_
 refine region_in ?_
 refine W_boxS (zs := #[.int .i64 (C), .int .i64 (N), .int .i64 (Z), .int .i64 (K), .int .i64 (Q)]) hS rfl rfl rfl l0_0 (by rfl) (fun g2 w2 c2 hc2 hS2 => ?_)
 replace hS2 : St w NoX [c2] w2 := hS2
 refine W_boxS (zs := #[cv, nv]) hS2 rfl rfl rfl (es rfl l1_0) (by rfl) (fun g3 w3 c3 hc3 hS3 => ?_)
 replace hS3 : St w NoX [c3, c2] w3 := hS3
 refine W_allocS (z := .agg #[.slice none 0 0, .slice none 0 0]) (zs := #[.slice none 0 0, .slice none 0 0]) hS3 rfl rfl rfl (by kernel_rfl) (by rfl) (fun g4 w4 c4 hc4 hS4 => ?_)
 replace hS4 : St w NoX [c4, c3, c2] w4 := hS4
 refine W_v rfl rfl (V_asg rfl rfl) ?_
 refine W_end (gen_Q fun A5 hA5 => ?_)
 have hsz5 := szq hA5
 have hdf5 := dfE hA5 hdf0
 have l2_5 := ek4 hA5 2 rfl l2_0
 have l3_5 := ek4 hA5 3 rfl l3_0
 have l4_5 := ek4 hA5 4 rfl l4_0
 have l5_5 := lookE hA5 5 (e3 rfl (et rfl))
 have l6_5 := lookE hA5 6 (e2 rfl (et rfl))
 have l10_5 := lookE hA5 10 (es rfl (et rfl))
 clear hA5 hsz0 hdf0 l0_0 l1_0 l2_0 l3_0 l4_0
 refine then_n (hK1 _ _ ?_)
 clear hK1
 refine wp_seq_k fun K6 hK6 => ?_
 refine wp_seq_k fun K7 hK7 => ?_
 refine region_in ?_
 refine W_r rfl rfl (VR_ldA rfl l5_5 (hS4.obj 2 rfl hc2) Try.underlying23 rfl (by kernel_rfl)) ?_
 refine W_r rfl rfl (VR_ldA rfl (es rfl l6_5) (hS4.obj 1 rfl hc3) Try.underlying29 rfl (by kernel_rfl)) ?_
 refine W_call rfl rfl rfl Try.func11 (by kernel_rfl) rfl (args2 (es rfl (et rfl)) (et rfl)) (kCk8_c (C := C) (N := N) (Z := Z) (K := K) (Q := Q) (hS4.roC h_cv) (hS4.roC h_nv) ) ?_
 rintro _ w8 ⟨rfl, hP8⟩
 refine ⟨_, rfl, ?_⟩
 have hS8 := hS4.join hP8
 replace hS8 : St w NoX [c4, c3, c2] w8 := hS8
 refine W_v rfl rfl (V_mov rfl (et rfl)) ?_
 refine W_v rfl rfl (V_ext (v := .int .i64 ((rmP C N Z K Q X ns).1)) rfl (et rfl) rfl) ?_
 refine W_v rfl rfl (V_ext (v := .int .i64 ((rmP C N Z K Q X ns).2)) rfl (es rfl (et rfl)) rfl) ?_
 refine W_v rfl rfl (V_asg rfl (es rfl (et rfl))) ?_
 refine W_v rfl rfl (V_asg rfl (es rfl (et rfl))) ?_
 refine W_end (gen_Q fun A9 hA9 => ?_)
 have hsz9 := szq hA9
 have hdf9 := dfE hA9 hdf5
 have l2_9 := ek8 hA9 2 rfl l2_5
 have l3_9 := ek8 hA9 3 rfl l3_5
 have l4_9 := ek8 hA9 4 rfl l4_5
 have l5_9 := ek8 hA9 5 rfl l5_5
 have l6_9 := ek8 hA9 6 rfl l6_5
 have l10_9 := ek8 hA9 10 rfl l10_5
 have l13_9 := lookE hA9 13 (et rfl)
 clear hA9 hsz5 hdf5 l2_5 l3_5 l4_5 l5_5 l6_5 l10_5
 refine then_n (hK7 _ _ ?_)
 clear hK7
 refine wp_seq_k fun K10 hK10 => ?_
 refine region_in ?_
 refine W_v rfl rfl (V_mov rfl l13_9) ?_
 refine W_v rfl rfl (V_neq rfl (et rfl) rfl) ?_
 refine W_end (gen_Q fun A11 hA11 => ?_)
 have hsz11 := szq hA11
 have hdf11 := dfE hA11 hdf9
 have l2_11 := ek2 hA11 2 rfl l2_9
 have l3_11 := ek2 hA11 3 rfl l3_9
 have l4_11 := ek2 hA11 4 rfl l4_9
 have l5_11 := ek2 hA11 5 rfl l5_9
 have l6_11 := ek2 hA11 6 rfl l6_9
 have l10_11 := ek2 hA11 10 rfl l10_9
 have l13_11 := ek2 hA11 13 rfl l13_9
 have l30_11 := lookE hA11 30 (et rfl)
 clear hA11 hsz9 hdf9 l2_9 l3_9 l4_9 l5_9 l6_9 l10_9 l13_9
 refine then_n (hK10 _ _ ?_)
 clear hK10
 refine cond_dec l30_11 (fun c12 => ?_) (fun c12 => ?_)
 ·refine wp_seq_k fun K13 hK13 => ?_
  refine region_in ?_
  refine W_v rfl rfl (V_bldS (n := 2) (z := .agg #[.slice none 0 0, .slice none 0 0]) rfl (parts0) (by kernel_rfl) (by simp only [List.all_cons, List.all_nil, Bool.and_true] <;> rfl) (by kernel_rfl) (by simp only [List.foldl_cons, List.foldl_nil, Value.cells, List.setIfInBounds_toArray, List.set_cons_succ, List.set_cons_zero] <;> rfl)) ?_
  refine W_v rfl rfl (V_mov rfl (es rfl l13_11)) ?_
  refine W_stAS 0 hS8 rfl hc4 rfl rfl rfl (e2 rfl l10_11) (es rfl (et rfl)) (by first | (rw [List.all_toArray] <;> rfl) | (simp only [List.all_toArray, List.all_cons, List.all_nil] <;> rfl)) (by rfl) (by kernel_rfl) (fun w14 c14 hc14 hS14 => ?_)
  replace hS14 : St w NoX [c14, c3, c2] w14 := hS14
  refine W_v rfl rfl (V_asg rfl (et rfl)) ?_
  refine W_end (gen_Q fun A15 hA15 => ?_)
  have hsz15 := szq hA15
  have hdf15 := dfE hA15 hdf11
  have l10_15 := ek3 hA15 10 rfl l10_11
  have l11_15 := lookE hA15 11 (et rfl)
  clear hA15 hsz11 hdf11 l2_11 l3_11 l4_11 l5_11 l6_11 l10_11 l13_11 l30_11
  have hS16 : St w NoX [c14] w14 := hS14.sel [0] (by decide) rfl
  refine then_n (hK13 _ _ ?_)
  clear hK13
  refine wp_ret ?_
  refine then_ret ?_
  refine ret_in (results_2 Try.results59 (rv_cellA l10_15 (hS16.obj 0 rfl hc14) Try.underlying29 rfl (by kernel_rfl)) (rv_tmp l11_15)) hdf15 ?_
  obtain ⟨c17, hc17, hS17⟩ := hS16.rmNil
  obtain ⟨c18, hc18, hS18⟩ := hS17.pnil (s := 1)
  have he : chE8 C N Z K Q X ns slot old now = (rmP C N Z K Q X ns).2 := ch8_e1 (by omega)
  have hb := ch_bad (show chE8 C N Z K Q X ns slot old now ≠ 0 by omega)
  rw [he]
  exact ⟨_, _, rfl, (hS18.fin2 1 rfl (hc17.trans (by rw [hb.1])) 0 rfl (hc18.trans (by rw [show chN C N Z K Q X ns slot old now = [] by exact hb.2] <;> rfl)) (by decide))⟩
 ·have hk0 : (rmP C N Z K Q X ns).2 = 0 := by omega
  refine wp_skip ?_
  refine then_n (hK6 _ _ ?_)
  clear hK6
  refine wp_seq_k fun K19 hK19 => ?_
  refine region_in ?_
  refine W_mkMapW hS8 rfl rfl rfl (fun g20 w20 c20 hc20 hS20 => ?_)
  replace hS20 : St w NoX [c20, c4, c3, c2] w20 := hS20
  refine W_v rfl rfl (V_asg rfl (et rfl)) ?_
  refine W_end (gen_Q fun A21 hA21 => ?_)
  have hsz21 := szq hA21
  have hdf21 := dfE hA21 hdf11
  have l2_21 := ek2 hA21 2 rfl l2_11
  have l3_21 := ek2 hA21 3 rfl l3_11
  have l4_21 := ek2 hA21 4 rfl l4_11
  have l5_21 := ek2 hA21 5 rfl l5_11
  have l6_21 := ek2 hA21 6 rfl l6_11
  have l10_21 := ek2 hA21 10 rfl l10_11
  have l14_21 := lookE hA21 14 (et rfl)
  clear hA21 hsz11 hdf11 l2_11 l3_11 l4_11 l5_11 l6_11 l10_11 l13_11 l30_11
  refine then_n (hK19 _ _ ?_)
  clear hK19
  refine wp_seq_k fun K22 hK22 => ?_
  refine wp_seq_k fun K23 hK23 => ?_
  refine region_in ?_
  refine W_v rfl rfl (V_mov rfl l2_21) ?_
  refine W_v rfl rfl (V_mov rfl (es rfl l3_21)) ?_
  refine W_v rfl rfl (V_bldS (n := 2) (z := .agg #[.int .i64 0, .int .i64 0]) rfl (parts2 (es rfl (et rfl)) (et rfl)) (by kernel_rfl) (by simp only [List.all_cons, List.all_nil, Bool.and_true] <;> rfl) (by kernel_rfl) (by simp only [List.foldl_cons, List.foldl_nil, Value.cells, List.setIfInBounds_toArray, List.set_cons_succ, List.set_cons_zero] <;> rfl)) ?_
  refine W_v rfl rfl (V_mov rfl (e3 rfl l2_21)) ?_
  refine W_v rfl rfl (V_mov rfl (e4 rfl l4_21)) ?_
  refine W_v rfl rfl (V_bldS (n := 2) (z := .agg #[.int .i64 0, .int .i64 0]) rfl (parts2 (es rfl (et rfl)) (et rfl)) (by kernel_rfl) (by simp only [List.all_cons, List.all_nil, Bool.and_true] <;> rfl) (by kernel_rfl) (by simp only [List.foldl_cons, List.foldl_nil, Value.cells, List.setIfInBounds_toArray, List.set_cons_succ, List.set_cons_zero] <;> rfl)) ?_
  have hll24 : [(slot, old), (slot, now)].length = 2 := rfl
  refine W_litS (vs := [.agg #[.int .i64 (slot), .int .i64 (old)], .agg #[.int .i64 (slot), .int .i64 (now)]]) (xs := ([(slot, old), (slot, now)].flatMap pkL)) 2 hS20 rfl rfl rfl (parts2 (e3 rfl (et rfl)) (et rfl)) rfl Try.underlying118 (by kernel_rfl) (by decide) (by intro v hv; simp only [List.mem_cons, List.not_mem_nil, or_false] at hv; rcases hv with rfl | rfl <;> rfl) (by rfl) (fun g24 w24 c24 hc24 hS24 => ?_)
  replace hc24 : c24 = ro 2 pkL (.slice (some ⟨g24, 0, none⟩) 2 2) [(slot, old), (slot, now)] := hc24
  replace hS24 : St w NoX [c24, c20, c4, c3, c2] w24 := hS24
  refine W_v rfl rfl (V_lenS rfl (et rfl) (ow_at (hS24.chq 0 rfl hc24)) Try.underlying118) ?_
  refine W_v rfl rfl (V_mov rfl rfl) ?_
  refine W_end (gen_Q fun A25 hA25 => ?_)
  have hsz25 := szq hA25
  have hdf25 := dfE hA25 hdf21
  have l2_25 := ek9 hA25 2 rfl l2_21
  have l3_25 := ek9 hA25 3 rfl l3_21
  have l4_25 := ek9 hA25 4 rfl l4_21
  have l5_25 := ek9 hA25 5 rfl l5_21
  have l6_25 := ek9 hA25 6 rfl l6_21
  have l10_25 := ek9 hA25 10 rfl l10_21
  have l14_25 := ek9 hA25 14 rfl l14_21
  have l40_25 := lookE hA25 40 (e2 rfl (et rfl))
  have l41_25 := lookE hA25 41 (es rfl (et rfl))
  have l42_25 := lookE hA25 42 (et rfl)
  clear hA25 hsz21 hdf21 l2_21 l3_21 l4_21 l5_21 l6_21 l10_21 l14_21
  refine then_n (hK23 _ _ ?_)
  clear hK23
  refine wp_block ?_
  -- loop 6, round by round
  refine loopL ?_
  refine LW_step ?_
  have l42_26 : EV A25 (.tmp 42) = .int .i64 (0 : Int) := l42_25
  refine wp_seq_k fun K27 hK27 => ?_
  refine region_in ?_
  refine W_v rfl rfl (V_lss rfl l42_26 l41_25) ?_
  refine W_end (gen_Q fun A28 hA28 => ?_)
  have hsz28 := szq hA28
  have hdf28 := dfE hA28 hdf25
  have l2_28 := lookE hA28 2 (es rfl l2_25)
  have l3_28 := lookE hA28 3 (es rfl l3_25)
  have l4_28 := lookE hA28 4 (es rfl l4_25)
  have l5_28 := lookE hA28 5 (es rfl l5_25)
  have l6_28 := lookE hA28 6 (es rfl l6_25)
  have l10_28 := lookE hA28 10 (es rfl l10_25)
  have l14_28 := lookE hA28 14 (es rfl l14_25)
  have l40_28 := lookE hA28 40 (es rfl l40_25)
  have l41_28 := lookE hA28 41 (es rfl l41_25)
  have l42_28 := lookE hA28 42 (es rfl l42_26)
  have l43_28 := lookE hA28 43 (et rfl)
  clear hA28 hsz25 hdf25 l2_25 l3_25 l4_25 l5_25 l6_25 l10_25 l14_25 l40_25 l41_25 l42_26
  refine then_n (hK27 _ _ ?_)
  clear hK27
  refine wp_seq_k fun K29 hK29 => ?_
  refine cond_sure l43_28 (by simp) ?_
  refine wp_skip ?_
  refine then_n (hK29 _ _ ?_)
  clear hK29
  refine wp_seq_k fun K30 hK30 => ?_
  refine wp_block ?_
  refine wp_seq_k fun K31 hK31 => ?_
  refine region_in ?_
  have k32 : 0 < [(slot, old), (slot, now)].length := by first | (simp; done) | decide +kernel
  obtain ⟨B32, O32, C32, hv32⟩ := (SlN.blk (ow_at (hS24.chq 0 rfl hc24)) (by first | (simp; done) | decide +kernel))
  refine W_v rfl rfl (V_ixS (off := O32 + 0 * 2) 2 (0) rfl l40_28 l42_28 hv32 (by omega) k32 Try.underlying118 (by kernel_rfl) rfl) ?_
  refine W_r rfl rfl (VR_ldR (ys := pkL (slot, old)) rfl (et rfl) (SlN.row pkL_len (ow_at (hS24.chq 0 rfl hc24)) hv32 (show [(slot, old), (slot, now)][0]? = some (slot, old) from rfl) rfl) Try.underlying117 rfl (by kernel_rfl)) ?_
  refine W_allocS (z := .agg #[.int .i64 0, .int .i64 0]) (zs := #[.int .i64 0, .int .i64 0]) hS24 rfl rfl rfl (by kernel_rfl) (by rfl) (fun g33 w33 c33 hc33 hS33 => ?_)
  replace hS33 : St w NoX [c33, c24, c20, c4, c3, c2] w33 := hS33
  refine W_stAS 0 hS33 rfl hc33 rfl rfl rfl (et rfl) (es rfl (et rfl)) (by first | (rw [List.all_toArray] <;> rfl) | (simp only [List.all_toArray, List.all_cons, List.all_nil] <;> rfl)) (by rfl) (by kernel_rfl) (fun w34 c34 hc34 hS34 => ?_)
  replace hS34 : St w NoX [c34, c24, c20, c4, c3, c2] w34 := hS34
  refine W_end (gen_Q fun A35 hA35 => ?_)
  have hsz35 := szq hA35
  have hdf35 := dfE hA35 hdf28
  have l2_35 := ek3 hA35 2 rfl l2_28
  have l3_35 := ek3 hA35 3 rfl l3_28
  have l4_35 := ek3 hA35 4 rfl l4_28
  have l5_35 := ek3 hA35 5 rfl l5_28
  have l6_35 := ek3 hA35 6 rfl l6_28
  have l10_35 := ek3 hA35 10 rfl l10_28
  have l14_35 := ek3 hA35 14 rfl l14_28
  have l16_35 := lookE hA35 16 (et rfl)
  have l40_35 := ek3 hA35 40 rfl l40_28
  have l41_35 := ek3 hA35 41 rfl l41_28
  have l42_35 := ek3 hA35 42 rfl l42_28
  clear hA35 hsz28 hdf28 l2_28 l3_28 l4_28 l5_28 l6_28 l10_28 l14_28 l40_28 l41_28 l42_28 l43_28
  refine then_n (hK31 _ _ ?_)
  clear hK31
  refine wp_seq_k fun K36 hK36 => ?_
  refine region_in ?_
  refine W_r rfl rfl (VR_ldA rfl l16_35 (hS34.obj 0 rfl hc34) Try.underlying117 rfl (by kernel_rfl)) ?_
  refine W_r rfl rfl (VR_ldA rfl (es rfl l5_35) (hS34.obj 5 rfl hc2) Try.underlying23 rfl (by kernel_rfl)) ?_
  refine W_call rfl rfl rfl Try.func86 (by kernel_rfl) rfl (args2 (es rfl (et rfl)) (et rfl)) (kplc_c (slot := slot) (target := old) (C := C) (N := N) (Z := Z) (K := K) (Q := Q)  ) ?_
  rintro _ w37 ⟨rfl, hP37⟩
  refine ⟨_, rfl, ?_⟩
  have hS37 := hS34.join hP37
  replace hS37 : St w NoX [c34, c24, c20, c4, c3, c2] w37 := hS37
  refine W_v rfl rfl (V_mov rfl (et rfl)) ?_
  refine W_v rfl rfl (V_ext (v := .int .i64 ((plN C N Z K Q slot old))) rfl (et rfl) rfl) ?_
  refine W_v rfl rfl (V_ext (v := .int .i64 ((plE C N Z K Q slot old))) rfl (es rfl (et rfl)) rfl) ?_
  refine W_v rfl rfl (V_asg rfl (es rfl (et rfl))) ?_
  refine W_v rfl rfl (V_asg rfl (es rfl (et rfl))) ?_
  refine W_end (gen_Q fun A38 hA38 => ?_)
  have hsz38 := szq hA38
  have hdf38 := dfE hA38 hdf35
  have l2_38 := ek8 hA38 2 rfl l2_35
  have l3_38 := ek8 hA38 3 rfl l3_35
  have l4_38 := ek8 hA38 4 rfl l4_35
  have l5_38 := ek8 hA38 5 rfl l5_35
  have l6_38 := ek8 hA38 6 rfl l6_35
  have l10_38 := ek8 hA38 10 rfl l10_35
  have l14_38 := ek8 hA38 14 rfl l14_35
  have l16_38 := ek8 hA38 16 rfl l16_35
  have l17_38 := lookE hA38 17 (es rfl (et rfl))
  have l18_38 := lookE hA38 18 (et rfl)
  have l40_38 := ek8 hA38 40 rfl l40_35
  have l41_38 := ek8 hA38 41 rfl l41_35
  have l42_38 := ek8 hA38 42 rfl l42_35
  clear hA38 hsz35 hdf35 l2_35 l3_35 l4_35 l5_35 l6_35 l10_35 l14_35 l16_35 l40_35 l41_35 l42_35
  refine then_n (hK36 _ _ ?_)
  clear hK36
  refine wp_seq_k fun K39 hK39 => ?_
  refine wp_seq_k fun K40 hK40 => ?_
  refine region_in ?_
  refine W_v rfl rfl (V_mov rfl l18_38) ?_
  refine W_v rfl rfl (V_neq rfl (et rfl) rfl) ?_
  refine W_end (gen_Q fun A41 hA41 => ?_)
  have hsz41 := szq hA41
  have hdf41 := dfE hA41 hdf38
  have l2_41 := ek2 hA41 2 rfl l2_38
  have l3_41 := ek2 hA41 3 rfl l3_38
  have l4_41 := ek2 hA41 4 rfl l4_38
  have l5_41 := ek2 hA41 5 rfl l5_38
  have l6_41 := ek2 hA41 6 rfl l6_38
  have l10_41 := ek2 hA41 10 rfl l10_38
  have l14_41 := ek2 hA41 14 rfl l14_38
  have l16_41 := ek2 hA41 16 rfl l16_38
  have l17_41 := ek2 hA41 17 rfl l17_38
  have l18_41 := ek2 hA41 18 rfl l18_38
  have l40_41 := ek2 hA41 40 rfl l40_38
  have l41_41 := ek2 hA41 41 rfl l41_38
  have l42_41 := ek2 hA41 42 rfl l42_38
  have l53_41 := lookE hA41 53 (et rfl)
  clear hA41 hsz38 hdf38 l2_38 l3_38 l4_38 l5_38 l6_38 l10_38 l14_38 l16_38 l17_38 l18_38 l40_38 l41_38 l42_38
  refine then_n (hK40 _ _ ?_)
  clear hK40
  refine cond_dec l53_41 (fun c42 => ?_) (fun c42 => ?_)
  ·refine wp_seq_k fun K43 hK43 => ?_
   refine region_in ?_
   refine W_v rfl rfl (V_bldS (n := 2) (z := .agg #[.slice none 0 0, .slice none 0 0]) rfl (parts0) (by kernel_rfl) (by simp only [List.all_cons, List.all_nil, Bool.and_true] <;> rfl) (by kernel_rfl) (by simp only [List.foldl_cons, List.foldl_nil, Value.cells, List.setIfInBounds_toArray, List.set_cons_succ, List.set_cons_zero] <;> rfl)) ?_
   refine W_v rfl rfl (V_mov rfl (es rfl l18_41)) ?_
   refine W_stAS 3 hS37 rfl hc4 rfl rfl rfl (e2 rfl l10_41) (es rfl (et rfl)) (by first | (rw [List.all_toArray] <;> rfl) | (simp only [List.all_toArray, List.all_cons, List.all_nil] <;> rfl)) (by rfl) (by kernel_rfl) (fun w44 c44 hc44 hS44 => ?_)
   replace hS44 : St w NoX [c34, c24, c20, c44, c3, c2] w44 := hS44
   refine W_v rfl rfl (V_asg rfl (et rfl)) ?_
   refine W_end (gen_Q fun A45 hA45 => ?_)
   have hsz45 := szq hA45
   have hdf45 := dfE hA45 hdf41
   have l10_45 := ek3 hA45 10 rfl l10_41
   have l11_45 := lookE hA45 11 (et rfl)
   clear hA45 hsz41 hdf41 l2_41 l3_41 l4_41 l5_41 l6_41 l10_41 l14_41 l16_41 l17_41 l18_41 l40_41 l41_41 l42_41 l53_41
   have hS46 : St w NoX [c44] w44 := hS44.sel [3] (by decide) rfl
   refine then_n (hK43 _ _ ?_)
   clear hK43
   refine wp_ret ?_
   refine then_ret ?_
   refine inb_ret ?_
   refine then_ret ?_
   refine then_ret ?_
   refine inb_ret ?_
   refine then_ret ?_
   refine ret_in (results_2 Try.results59 (rv_cellA l10_45 (hS46.obj 0 rfl hc44) Try.underlying29 rfl (by kernel_rfl)) (rv_tmp l11_45)) hdf45 ?_
   obtain ⟨c47, hc47, hS47⟩ := hS46.rmNil
   obtain ⟨c48, hc48, hS48⟩ := hS47.pnil (s := 1)
   have he : chE8 C N Z K Q X ns slot old now = (plE C N Z K Q slot old) := ch8_e2 (by omega) (by omega)
   have hb := ch_bad (show chE8 C N Z K Q X ns slot old now ≠ 0 by omega)
   rw [he]
   exact ⟨_, _, rfl, (hS48.fin2 1 rfl (hc47.trans (by rw [hb.1])) 0 rfl (hc48.trans (by rw [show chN C N Z K Q X ns slot old now = [] by exact hb.2] <;> rfl)) (by decide))⟩
  ·refine wp_skip ?_
   refine then_n (hK39 _ _ ?_)
   clear hK39
   refine region_in ?_
   refine W_v rfl rfl (V_mov rfl l14_41) ?_
   refine W_r rfl rfl (VR_ldA rfl (es rfl l16_41) (hS37.obj 0 rfl hc34) Try.underlying117 rfl (by kernel_rfl)) ?_
   refine W_v rfl rfl (V_mov rfl (e2 rfl l17_41)) ?_
   refine W_mapSetW (q := (slot, old)) 2 hS37 rfl hc20 rfl rfl rfl rfl (e2 rfl (et rfl)) (es rfl (et rfl)) (et rfl) Try.underlying115 (by kernel_rfl) (fun w49 c49 hc49 hS49 => ?_)
   replace hc49 : c49 = mw (.map (some g20)) (wset [] (slot, old) (plN C N Z K Q slot old)) := hc49
   replace hS49 : St w NoX [c34, c24, c49, c4, c3, c2] w49 := hS49
   refine W_end (gen_Q fun A50 hA50 => ?_)
   have hsz50 := szq hA50
   have hdf50 := dfE hA50 hdf41
   have l2_50 := ek3 hA50 2 rfl l2_41
   have l3_50 := ek3 hA50 3 rfl l3_41
   have l4_50 := ek3 hA50 4 rfl l4_41
   have l5_50 := ek3 hA50 5 rfl l5_41
   have l6_50 := ek3 hA50 6 rfl l6_41
   have l10_50 := ek3 hA50 10 rfl l10_41
   have l14_50 := ek3 hA50 14 rfl l14_41
   have l40_50 := ek3 hA50 40 rfl l40_41
   have l41_50 := ek3 hA50 41 rfl l41_41
   have l42_50 := ek3 hA50 42 rfl l42_41
   clear hA50 hsz41 hdf41 l2_41 l3_41 l4_41 l5_41 l6_41 l10_41 l14_41 l16_41 l17_41 l18_41 l40_41 l41_41 l42_41 l53_41
   have hS51 : St w NoX [c24, c49, c4, c3, c2] w49 := hS49.sel [1, 2, 3, 4, 5] (by decide) rfl
   refine inb_n ?_
   refine then_n (hK30 _ _ ?_)
   clear hK30
   refine region_in ?_
   refine W_v rfl rfl (V_add rfl l42_50 rfl (by omega) (by omega)) ?_
   refine W_v rfl rfl (V_mov rfl (et rfl)) ?_
   refine W_end (gen_Q fun A52 hA52 => ?_)
   have hsz52 := szq hA52
   have hdf52 := dfE hA52 hdf50
   have l2_52 := ek2 hA52 2 rfl l2_50
   have l3_52 := ek2 hA52 3 rfl l3_50
   have l4_52 := ek2 hA52 4 rfl l4_50
   have l5_52 := ek2 hA52 5 rfl l5_50
   have l6_52 := ek2 hA52 6 rfl l6_50
   have l10_52 := ek2 hA52 10 rfl l10_50
   have l14_52 := ek2 hA52 14 rfl l14_50
   have l40_52 := ek2 hA52 40 rfl l40_50
   have l41_52 := ek2 hA52 41 rfl l41_50
   have l42_52 := lookE hA52 42 (et rfl)
   clear hA52 hsz50 hdf50 l2_50 l3_50 l4_50 l5_50 l6_50 l10_50 l14_50 l40_50 l41_50 l42_50
   refine then_n ?_
   refine LW_step ?_
   have l42_53 : EV A52 (.tmp 42) = .int .i64 (1 : Int) := l42_52
   refine wp_seq_k fun K54 hK54 => ?_
   refine region_in ?_
   refine W_v rfl rfl (V_lss rfl l42_53 l41_52) ?_
   refine W_end (gen_Q fun A55 hA55 => ?_)
   have hsz55 := szq hA55
   have hdf55 := dfE hA55 hdf52
   have l2_55 := lookE hA55 2 (es rfl l2_52)
   have l3_55 := lookE hA55 3 (es rfl l3_52)
   have l4_55 := lookE hA55 4 (es rfl l4_52)
   have l5_55 := lookE hA55 5 (es rfl l5_52)
   have l6_55 := lookE hA55 6 (es rfl l6_52)
   have l10_55 := lookE hA55 10 (es rfl l10_52)
   have l14_55 := lookE hA55 14 (es rfl l14_52)
   have l40_55 := lookE hA55 40 (es rfl l40_52)
   have l41_55 := lookE hA55 41 (es rfl l41_52)
   have l42_55 := lookE hA55 42 (es rfl l42_53)
   have l43_55 := lookE hA55 43 (et rfl)
   clear hA55 hsz52 hdf52 l2_52 l3_52 l4_52 l5_52 l6_52 l10_52 l14_52 l40_52 l41_52 l42_53
   refine then_n (hK54 _ _ ?_)
   clear hK54
   refine wp_seq_k fun K56 hK56 => ?_
   refine cond_sure l43_55 (by simp) ?_
   refine wp_skip ?_
   refine then_n (hK56 _ _ ?_)
   clear hK56
   refine wp_seq_k fun K57 hK57 => ?_
   refine wp_block ?_
   refine wp_seq_k fun K58 hK58 => ?_
   refine region_in ?_
   have k59 : 1 < [(slot, old), (slot, now)].length := by first | (simp; done) | decide +kernel
   refine W_v rfl rfl (V_ixS (off := O32 + 1 * 2) 2 (1) rfl l40_55 l42_55 hv32 (by omega) k59 Try.underlying118 (by kernel_rfl) rfl) ?_
   refine W_r rfl rfl (VR_ldR (ys := pkL (slot, now)) rfl (et rfl) (SlN.row pkL_len (ow_at (hS51.chq 0 rfl hc24)) hv32 (show [(slot, old), (slot, now)][1]? = some (slot, now) from rfl) rfl) Try.underlying117 rfl (by kernel_rfl)) ?_
   refine W_allocS (z := .agg #[.int .i64 0, .int .i64 0]) (zs := #[.int .i64 0, .int .i64 0]) hS51 rfl rfl rfl (by kernel_rfl) (by rfl) (fun g60 w60 c60 hc60 hS60 => ?_)
   replace hS60 : St w NoX [c60, c24, c49, c4, c3, c2] w60 := hS60
   refine W_stAS 0 hS60 rfl hc60 rfl rfl rfl (et rfl) (es rfl (et rfl)) (by first | (rw [List.all_toArray] <;> rfl) | (simp only [List.all_toArray, List.all_cons, List.all_nil] <;> rfl)) (by rfl) (by kernel_rfl) (fun w61 c61 hc61 hS61 => ?_)
   replace hS61 : St w NoX [c61, c24, c49, c4, c3, c2] w61 := hS61
   refine W_end (gen_Q fun A62 hA62 => ?_)
   have hsz62 := szq hA62
   have hdf62 := dfE hA62 hdf55
   have l2_62 := ek3 hA62 2 rfl l2_55
   have l3_62 := ek3 hA62 3 rfl l3_55
   have l4_62 := ek3 hA62 4 rfl l4_55
   have l5_62 := ek3 hA62 5 rfl l5_55
   have l6_62 := ek3 hA62 6 rfl l6_55
   have l10_62 := ek3 hA62 10 rfl l10_55
   have l14_62 := ek3 hA62 14 rfl l14_55
   have l16_62 := lookE hA62 16 (et rfl)
   have l40_62 := ek3 hA62 40 rfl l40_55
   have l41_62 := ek3 hA62 41 rfl l41_55
   have l42_62 := ek3 hA62 42 rfl l42_55
   clear hA62 hsz55 hdf55 l2_55 l3_55 l4_55 l5_55 l6_55 l10_55 l14_55 l40_55 l41_55 l42_55 l43_55
   refine then_n (hK58 _ _ ?_)
   clear hK58
   refine wp_seq_k fun K63 hK63 => ?_
   refine region_in ?_
   refine W_r rfl rfl (VR_ldA rfl l16_62 (hS61.obj 0 rfl hc61) Try.underlying117 rfl (by kernel_rfl)) ?_
   refine W_r rfl rfl (VR_ldA rfl (es rfl l5_62) (hS61.obj 5 rfl hc2) Try.underlying23 rfl (by kernel_rfl)) ?_
   refine W_call rfl rfl rfl Try.func86 (by kernel_rfl) rfl (args2 (es rfl (et rfl)) (et rfl)) (kplc_c (slot := slot) (target := now) (C := C) (N := N) (Z := Z) (K := K) (Q := Q)  ) ?_
   rintro _ w64 ⟨rfl, hP64⟩
   refine ⟨_, rfl, ?_⟩
   have hS64 := hS61.join hP64
   replace hS64 : St w NoX [c61, c24, c49, c4, c3, c2] w64 := hS64
   refine W_v rfl rfl (V_mov rfl (et rfl)) ?_
   refine W_v rfl rfl (V_ext (v := .int .i64 ((plN C N Z K Q slot now))) rfl (et rfl) rfl) ?_
   refine W_v rfl rfl (V_ext (v := .int .i64 ((plE C N Z K Q slot now))) rfl (es rfl (et rfl)) rfl) ?_
   refine W_v rfl rfl (V_asg rfl (es rfl (et rfl))) ?_
   refine W_v rfl rfl (V_asg rfl (es rfl (et rfl))) ?_
   refine W_end (gen_Q fun A65 hA65 => ?_)
   have hsz65 := szq hA65
   have hdf65 := dfE hA65 hdf62
   have l2_65 := ek8 hA65 2 rfl l2_62
   have l3_65 := ek8 hA65 3 rfl l3_62
   have l4_65 := ek8 hA65 4 rfl l4_62
   have l5_65 := ek8 hA65 5 rfl l5_62
   have l6_65 := ek8 hA65 6 rfl l6_62
   have l10_65 := ek8 hA65 10 rfl l10_62
   have l14_65 := ek8 hA65 14 rfl l14_62
   have l16_65 := ek8 hA65 16 rfl l16_62
   have l17_65 := lookE hA65 17 (es rfl (et rfl))
   have l18_65 := lookE hA65 18 (et rfl)
   have l40_65 := ek8 hA65 40 rfl l40_62
   have l41_65 := ek8 hA65 41 rfl l41_62
   have l42_65 := ek8 hA65 42 rfl l42_62
   clear hA65 hsz62 hdf62 l2_62 l3_62 l4_62 l5_62 l6_62 l10_62 l14_62 l16_62 l40_62 l41_62 l42_62
   refine then_n (hK63 _ _ ?_)
   clear hK63
   refine wp_seq_k fun K66 hK66 => ?_
   refine wp_seq_k fun K67 hK67 => ?_
   refine region_in ?_
   refine W_v rfl rfl (V_mov rfl l18_65) ?_
   refine W_v rfl rfl (V_neq rfl (et rfl) rfl) ?_
   refine W_end (gen_Q fun A68 hA68 => ?_)
   have hsz68 := szq hA68
   have hdf68 := dfE hA68 hdf65
   have l2_68 := ek2 hA68 2 rfl l2_65
   have l3_68 := ek2 hA68 3 rfl l3_65
   have l4_68 := ek2 hA68 4 rfl l4_65
   have l5_68 := ek2 hA68 5 rfl l5_65
   have l6_68 := ek2 hA68 6 rfl l6_65
   have l10_68 := ek2 hA68 10 rfl l10_65
   have l14_68 := ek2 hA68 14 rfl l14_65
   have l16_68 := ek2 hA68 16 rfl l16_65
   have l17_68 := ek2 hA68 17 rfl l17_65
   have l18_68 := ek2 hA68 18 rfl l18_65
   have l40_68 := ek2 hA68 40 rfl l40_65
   have l41_68 := ek2 hA68 41 rfl l41_65
   have l42_68 := ek2 hA68 42 rfl l42_65
   have l53_68 := lookE hA68 53 (et rfl)
   clear hA68 hsz65 hdf65 l2_65 l3_65 l4_65 l5_65 l6_65 l10_65 l14_65 l16_65 l17_65 l18_65 l40_65 l41_65 l42_65
   refine then_n (hK67 _ _ ?_)
   clear hK67
   refine cond_dec l53_68 (fun c69 => ?_) (fun c69 => ?_)
   ·refine wp_seq_k fun K70 hK70 => ?_
    refine region_in ?_
    refine W_v rfl rfl (V_bldS (n := 2) (z := .agg #[.slice none 0 0, .slice none 0 0]) rfl (parts0) (by kernel_rfl) (by simp only [List.all_cons, List.all_nil, Bool.and_true] <;> rfl) (by kernel_rfl) (by simp only [List.foldl_cons, List.foldl_nil, Value.cells, List.setIfInBounds_toArray, List.set_cons_succ, List.set_cons_zero] <;> rfl)) ?_
    refine W_v rfl rfl (V_mov rfl (es rfl l18_68)) ?_
    refine W_stAS 3 hS64 rfl hc4 rfl rfl rfl (e2 rfl l10_68) (es rfl (et rfl)) (by first | (rw [List.all_toArray] <;> rfl) | (simp only [List.all_toArray, List.all_cons, List.all_nil] <;> rfl)) (by rfl) (by kernel_rfl) (fun w71 c71 hc71 hS71 => ?_)
    replace hS71 : St w NoX [c61, c24, c49, c71, c3, c2] w71 := hS71
    refine W_v rfl rfl (V_asg rfl (et rfl)) ?_
    refine W_end (gen_Q fun A72 hA72 => ?_)
    have hsz72 := szq hA72
    have hdf72 := dfE hA72 hdf68
    have l10_72 := ek3 hA72 10 rfl l10_68
    have l11_72 := lookE hA72 11 (et rfl)
    clear hA72 hsz68 hdf68 l2_68 l3_68 l4_68 l5_68 l6_68 l10_68 l14_68 l16_68 l17_68 l18_68 l40_68 l41_68 l42_68 l53_68
    have hS73 : St w NoX [c71] w71 := hS71.sel [3] (by decide) rfl
    refine then_n (hK70 _ _ ?_)
    clear hK70
    refine wp_ret ?_
    refine then_ret ?_
    refine inb_ret ?_
    refine then_ret ?_
    refine then_ret ?_
    refine inb_ret ?_
    refine then_ret ?_
    refine ret_in (results_2 Try.results59 (rv_cellA l10_72 (hS73.obj 0 rfl hc71) Try.underlying29 rfl (by kernel_rfl)) (rv_tmp l11_72)) hdf72 ?_
    obtain ⟨c74, hc74, hS74⟩ := hS73.rmNil
    obtain ⟨c75, hc75, hS75⟩ := hS74.pnil (s := 1)
    have he : chE8 C N Z K Q X ns slot old now = (plE C N Z K Q slot now) := ch8_e3 (by omega) (by omega)
    have hb := ch_bad (show chE8 C N Z K Q X ns slot old now ≠ 0 by omega)
    rw [he]
    exact ⟨_, _, rfl, (hS75.fin2 1 rfl (hc74.trans (by rw [hb.1])) 0 rfl (hc75.trans (by rw [show chN C N Z K Q X ns slot old now = [] by exact hb.2] <;> rfl)) (by decide))⟩
   ·refine wp_skip ?_
    refine then_n (hK66 _ _ ?_)
    clear hK66
    refine region_in ?_
    refine W_v rfl rfl (V_mov rfl l14_68) ?_
    refine W_r rfl rfl (VR_ldA rfl (es rfl l16_68) (hS64.obj 0 rfl hc61) Try.underlying117 rfl (by kernel_rfl)) ?_
    refine W_v rfl rfl (V_mov rfl (e2 rfl l17_68)) ?_
    refine W_mapSetW (q := (slot, now)) 2 hS64 rfl hc49 rfl rfl rfl rfl (e2 rfl (et rfl)) (es rfl (et rfl)) (et rfl) Try.underlying115 (by kernel_rfl) (fun w76 c76 hc76 hS76 => ?_)
    replace hc76 : c76 = mw (.map (some g20)) (wset (wset [] (slot, old) (plN C N Z K Q slot old)) (slot, now) (plN C N Z K Q slot now)) := hc76
    replace hS76 : St w NoX [c61, c24, c76, c4, c3, c2] w76 := hS76
    refine W_end (gen_Q fun A77 hA77 => ?_)
    have hsz77 := szq hA77
    have hdf77 := dfE hA77 hdf68
    have l2_77 := ek3 hA77 2 rfl l2_68
    have l3_77 := ek3 hA77 3 rfl l3_68
    have l4_77 := ek3 hA77 4 rfl l4_68
    have l5_77 := ek3 hA77 5 rfl l5_68
    have l6_77 := ek3 hA77 6 rfl l6_68
    have l10_77 := ek3 hA77 10 rfl l10_68
    have l14_77 := ek3 hA77 14 rfl l14_68
    have l40_77 := ek3 hA77 40 rfl l40_68
    have l41_77 := ek3 hA77 41 rfl l41_68
    have l42_77 := ek3 hA77 42 rfl l42_68
    clear hA77 hsz68 hdf68 l2_68 l3_68 l4_68 l5_68 l6_68 l10_68 l14_68 l16_68 l17_68 l18_68 l40_68 l41_68 l42_68 l53_68
    have hS78 : St w NoX [c24, c76, c4, c3, c2] w76 := hS76.sel [1, 2, 3, 4, 5] (by decide) rfl
    refine inb_n ?_
    refine then_n (hK57 _ _ ?_)
    clear hK57
    refine region_in ?_
    refine W_v rfl rfl (V_add rfl l42_77 rfl (by omega) (by omega)) ?_
    refine W_v rfl rfl (V_mov rfl (et rfl)) ?_
    refine W_end (gen_Q fun A79 hA79 => ?_)
    have hsz79 := szq hA79
    have hdf79 := dfE hA79 hdf77
    have l2_79 := ek2 hA79 2 rfl l2_77
    have l3_79 := ek2 hA79 3 rfl l3_77
    have l4_79 := ek2 hA79 4 rfl l4_77
    have l5_79 := ek2 hA79 5 rfl l5_77
    have l6_79 := ek2 hA79 6 rfl l6_77
    have l10_79 := ek2 hA79 10 rfl l10_77
    have l14_79 := ek2 hA79 14 rfl l14_77
    have l40_79 := ek2 hA79 40 rfl l40_77
    have l41_79 := ek2 hA79 41 rfl l41_77
    have l42_79 := lookE hA79 42 (et rfl)
    clear hA79 hsz77 hdf77 l2_77 l3_77 l4_77 l5_77 l6_77 l10_77 l14_77 l40_77 l41_77 l42_77
    refine then_n ?_
    refine LW_step ?_
    have l42_80 : EV A79 (.tmp 42) = .int .i64 (2 : Int) := l42_79
    refine wp_seq_k fun K81 hK81 => ?_
    refine region_in ?_
    refine W_v rfl rfl (V_lss rfl l42_80 l41_79) ?_
    refine W_end (gen_Q fun A82 hA82 => ?_)
    have hsz82 := szq hA82
    have hdf82 := dfE hA82 hdf79
    have l2_82 := lookE hA82 2 (es rfl l2_79)
    have l3_82 := lookE hA82 3 (es rfl l3_79)
    have l4_82 := lookE hA82 4 (es rfl l4_79)
    have l5_82 := lookE hA82 5 (es rfl l5_79)
    have l6_82 := lookE hA82 6 (es rfl l6_79)
    have l10_82 := lookE hA82 10 (es rfl l10_79)
    have l14_82 := lookE hA82 14 (es rfl l14_79)
    have l40_82 := lookE hA82 40 (es rfl l40_79)
    have l41_82 := lookE hA82 41 (es rfl l41_79)
    have l42_82 := lookE hA82 42 (es rfl l42_80)
    have l43_82 := lookE hA82 43 (et rfl)
    clear hA82 hsz79 hdf79 l2_79 l3_79 l4_79 l5_79 l6_79 l10_79 l14_79 l40_79 l41_79 l42_80
    refine then_n (hK81 _ _ ?_)
    clear hK81
    refine wp_seq_k fun K83 hK83 => ?_
    refine cond_not l43_82 (by simp) ?_
    refine wp_exit ?_
    refine then_exit ?_
    refine then_exit ?_
    refine inb_hit ?_
    refine then_n (hK22 _ _ ?_)
    clear hK22
    refine wp_seq_k fun K84 hK84 => ?_
    refine region_in ?_
    refine W_r rfl rfl (VR_ldA rfl l6_82 (hS78.obj 3 rfl hc3) Try.underlying29 rfl (by kernel_rfl)) ?_
    refine W_call rfl rfl rfl Try.func49 (by kernel_rfl) rfl (args1 (et rfl)) (kown8_c (hS78.roC h_cv) (hS78.roC h_nv) (by first | with_reducible assumption | exact gl_of (by omega))) ?_
    rintro _ w85 ⟨v_85, z_85, rfl, hP85⟩
    refine ⟨_, rfl, ?_⟩
    obtain ⟨c_85, cz_85, hc_85, hcz_85, hP85⟩ := gen2 hP85
    have hS85 := hS78.join hP85
    replace hS85 : St w NoX [c_85, cz_85, c24, c76, c4, c3, c2] w85 := hS85
    refine W_allocS (z := .agg #[.slice none 0 0, .slice none 0 0]) (zs := #[.slice none 0 0, .slice none 0 0]) hS85 rfl rfl rfl (by kernel_rfl) (by rfl) (fun g86 w86 c86 hc86 hS86 => ?_)
    replace hS86 : St w NoX [c86, c_85, cz_85, c24, c76, c4, c3, c2] w86 := hS86
    refine W_stAS 0 hS86 rfl hc86 rfl rfl rfl (et rfl) (es rfl (et rfl)) (by simp only [List.all_toArray, List.all_cons, List.all_nil, rmO_one (hS86.chq 1 rfl hc_85), SlN_one (ow_at (hS86.chq 2 rfl hcz_85))] <;> rfl) (by rfl) (by kernel_rfl) (fun w87 c87 hc87 hS87 => ?_)
    replace hS87 : St w NoX [c87, c_85, cz_85, c24, c76, c4, c3, c2] w87 := hS87
    refine W_end (gen_Q fun A88 hA88 => ?_)
    have hsz88 := szq hA88
    have hdf88 := dfE hA88 hdf82
    have l2_88 := ek3 hA88 2 rfl l2_82
    have l3_88 := ek3 hA88 3 rfl l3_82
    have l4_88 := ek3 hA88 4 rfl l4_82
    have l10_88 := ek3 hA88 10 rfl l10_82
    have l14_88 := ek3 hA88 14 rfl l14_82
    have l19_88 := lookE hA88 19 (et rfl)
    clear hA88 hsz82 hdf82 l2_82 l3_82 l4_82 l5_82 l6_82 l10_82 l14_82 l40_82 l41_82 l42_82 l43_82
    have hS89 : St w NoX [c87, c_85, cz_85, c76, c4] w87 := hS87.sel [0, 1, 2, 4, 5] (by decide) rfl
    refine then_n (hK84 _ _ ?_)
    clear hK84
    refine wp_seq_k fun K90 hK90 => ?_
    refine wp_seq_k fun K91 hK91 => ?_
    refine region_in ?_
    refine W_v rfl rfl (V_mov rfl l3_88) ?_
    refine W_v rfl rfl (V_mov rfl (es rfl l4_88)) ?_
    refine W_v rfl rfl (V_eql rfl (es rfl (et rfl)) (et rfl)) ?_
    refine W_end (gen_Q fun A92 hA92 => ?_)
    have hsz92 := szq hA92
    have hdf92 := dfE hA92 hdf88
    have l2_92 := ek3 hA92 2 rfl l2_88
    have l3_92 := ek3 hA92 3 rfl l3_88
    have l4_92 := ek3 hA92 4 rfl l4_88
    have l10_92 := ek3 hA92 10 rfl l10_88
    have l14_92 := ek3 hA92 14 rfl l14_88
    have l19_92 := ek3 hA92 19 rfl l19_88
    have l64_92 := lookE hA92 64 (et rfl)
    clear hA92 hsz88 hdf88 l2_88 l3_88 l4_88 l10_88 l14_88 l19_88
    refine then_n (hK91 _ _ ?_)
    clear hK91
    refine cond_dec l64_92 (fun c93 => ?_) (fun c93 => ?_)
    ·refine wp_seq_k fun K94 hK94 => ?_
     refine region_in ?_
     refine W_r rfl rfl (VR_ldA rfl l19_92 (hS89.obj 0 rfl hc87) Try.underlying29 rfl (by kernel_rfl)) ?_
     refine W_stAS 4 hS89 rfl hc4 rfl rfl rfl (es rfl l10_92) (et rfl) (by simp only [List.all_toArray, List.all_cons, List.all_nil, rmO_one (hS89.chq 1 rfl hc_85), SlN_one (ow_at (hS89.chq 2 rfl hcz_85))] <;> rfl) (by rfl) (by kernel_rfl) (fun w95 c95 hc95 hS95 => ?_)
     replace hS95 : St w NoX [c87, c_85, cz_85, c76, c95] w95 := hS95
     refine W_v rfl rfl (V_asg rfl rfl) ?_
     refine W_end (gen_Q fun A96 hA96 => ?_)
     have hsz96 := szq hA96
     have hdf96 := dfE hA96 hdf92
     have l10_96 := ek2 hA96 10 rfl l10_92
     have l11_96 := lookE hA96 11 (et rfl)
     clear hA96 hsz92 hdf92 l2_92 l3_92 l4_92 l10_92 l14_92 l19_92 l64_92
     have hS97 : St w NoX [c_85, cz_85, c95] w95 := hS95.sel [1, 2, 4] (by decide) rfl
     refine then_n (hK94 _ _ ?_)
     clear hK94
     refine wp_ret ?_
     refine then_ret ?_
     refine ret_in (results_2 Try.results59 (rv_cellA l10_96 (hS97.obj 2 rfl hc95) Try.underlying29 rfl (by kernel_rfl)) (rv_tmp l11_96)) hdf96 ?_
     have he : chE8 C N Z K Q X ns slot old now = 0 := (ch8_e3 (by omega) (by omega)).trans (by omega)
     have hb := ch_same he (by omega)
     rw [he]
     exact ⟨_, _, rfl, (hS97.fin2 0 rfl (hc_85.trans (by rw [hb.1])) 1 rfl (hcz_85.trans (congrArg (io .i64 _) (by rw [hb.2]))) (by decide))⟩
    ·refine wp_skip ?_
     refine then_n (hK90 _ _ ?_)
     clear hK90
     refine wp_seq_k fun K98 hK98 => ?_
     refine wp_seq_k fun K99 hK99 => ?_
     refine region_in ?_
     refine W_v rfl rfl (V_mov rfl l2_92) ?_
     refine W_v rfl rfl (V_mov rfl (es rfl l3_92)) ?_
     refine W_v rfl rfl (V_bldS (n := 2) (z := .agg #[.int .i64 0, .int .i64 0]) rfl (parts2 (es rfl (et rfl)) (et rfl)) (by kernel_rfl) (by simp only [List.all_cons, List.all_nil, Bool.and_true] <;> rfl) (by kernel_rfl) (by simp only [List.foldl_cons, List.foldl_nil, Value.cells, List.setIfInBounds_toArray, List.set_cons_succ, List.set_cons_zero] <;> rfl)) ?_
     refine W_v rfl rfl (V_mov rfl (e3 rfl l2_92)) ?_
     refine W_v rfl rfl (V_mov rfl (e4 rfl l4_92)) ?_
     refine W_v rfl rfl (V_bldS (n := 2) (z := .agg #[.int .i64 0, .int .i64 0]) rfl (parts2 (es rfl (et rfl)) (et rfl)) (by kernel_rfl) (by simp only [List.all_cons, List.all_nil, Bool.and_true] <;> rfl) (by kernel_rfl) (by simp only [List.foldl_cons, List.foldl_nil, Value.cells, List.setIfInBounds_toArray, List.set_cons_succ, List.set_cons_zero] <;> rfl)) ?_
     have hll100 : [(slot, old), (slot, now)].length = 2 := rfl
     refine W_litS (vs := [.agg #[.int .i64 (slot), .int .i64 (old)], .agg #[.int .i64 (slot), .int .i64 (now)]]) (xs := ([(slot, old), (slot, now)].flatMap pkL)) 2 hS89 rfl rfl rfl (parts2 (e3 rfl (et rfl)) (et rfl)) rfl Try.underlying118 (by kernel_rfl) (by decide) (by intro v hv; simp only [List.mem_cons, List.not_mem_nil, or_false] at hv; rcases hv with rfl | rfl <;> rfl) (by rfl) (fun g100 w100 c100 hc100 hS100 => ?_)
     replace hc100 : c100 = ro 2 pkL (.slice (some ⟨g100, 0, none⟩) 2 2) [(slot, old), (slot, now)] := hc100
     replace hS100 : St w NoX [c100, c87, c_85, cz_85, c76, c4] w100 := hS100
     refine W_v rfl rfl (V_lenS rfl (et rfl) (ow_at (hS100.chq 0 rfl hc100)) Try.underlying118) ?_
     refine W_v rfl rfl (V_mov rfl rfl) ?_
     refine W_end (gen_Q fun A101 hA101 => ?_)
     have hsz101 := szq hA101
     have hdf101 := dfE hA101 hdf92
     have l2_101 := ek9 hA101 2 rfl l2_92
     have l4_101 := ek9 hA101 4 rfl l4_92
     have l10_101 := ek9 hA101 10 rfl l10_92
     have l14_101 := ek9 hA101 14 rfl l14_92
     have l19_101 := ek9 hA101 19 rfl l19_92
     have l72_101 := lookE hA101 72 (e2 rfl (et rfl))
     have l73_101 := lookE hA101 73 (es rfl (et rfl))
     have l74_101 := lookE hA101 74 (et rfl)
     clear hA101 hsz92 hdf92 l2_92 l3_92 l4_92 l10_92 l14_92 l19_92 l64_92
     refine then_n (hK99 _ _ ?_)
     clear hK99
     refine wp_block ?_
     -- loop 17, round by round
     refine loopL ?_
     refine LW_step ?_
     have l74_102 : EV A101 (.tmp 74) = .int .i64 (0 : Int) := l74_101
     have hne : old ≠ now := by omega
     have hs0 := pl_slot (show plE C N Z K Q slot old = 0 by omega)
     obtain ⟨hch0, hchn⟩ := ch_all hk0 hs0
     have hch1 := ch_cg (i := (plN C N Z K Q slot old)) (add := decide (old = now)) hch0
     have hlen := (rm_0 hk0).2.1
     have hlen1 := cgC_len X (plN C N Z K Q slot old) slot (decide (old = now))
     have hp1 := pl_rng C N Z K Q slot old
     have hp2 := pl_rng C N Z K Q slot now
     have hdF : decide (old = now) = false := decide_eq_false hne
     have hdT : decide (now = now) = true := decide_eq_true rfl
     refine wp_seq_k fun K103 hK103 => ?_
     refine region_in ?_
     refine W_v rfl rfl (V_lss rfl l74_102 l73_101) ?_
     refine W_end (gen_Q fun A104 hA104 => ?_)
     have hsz104 := szq hA104
     have hdf104 := dfE hA104 hdf101
     have l2_104 := lookE hA104 2 (es rfl l2_101)
     have l4_104 := lookE hA104 4 (es rfl l4_101)
     have l10_104 := lookE hA104 10 (es rfl l10_101)
     have l14_104 := lookE hA104 14 (es rfl l14_101)
     have l19_104 := lookE hA104 19 (es rfl l19_101)
     have l72_104 := lookE hA104 72 (es rfl l72_101)
     have l73_104 := lookE hA104 73 (es rfl l73_101)
     have l74_104 := lookE hA104 74 (es rfl l74_102)
     have l75_104 := lookE hA104 75 (et rfl)
     clear hA104 hsz101 hdf101 l2_101 l4_101 l10_101 l14_101 l19_101 l72_101 l73_101 l74_102
     refine then_n (hK103 _ _ ?_)
     clear hK103
     refine wp_seq_k fun K105 hK105 => ?_
     refine cond_sure l75_104 (by simp) ?_
     refine wp_skip ?_
     refine then_n (hK105 _ _ ?_)
     clear hK105
     refine wp_seq_k fun K106 hK106 => ?_
     refine wp_block ?_
     refine wp_seq_k fun K107 hK107 => ?_
     refine region_in ?_
     have k108 : 0 < [(slot, old), (slot, now)].length := by first | (simp; done) | decide +kernel
     obtain ⟨B108, O108, C108, hv108⟩ := (SlN.blk (ow_at (hS100.chq 0 rfl hc100)) (by first | (simp; done) | decide +kernel))
     refine W_v rfl rfl (V_ixS (off := O108 + 0 * 2) 2 (0) rfl l72_104 l74_104 hv108 (by omega) k108 Try.underlying118 (by kernel_rfl) rfl) ?_
     refine W_r rfl rfl (VR_ldR (ys := pkL (slot, old)) rfl (et rfl) (SlN.row pkL_len (ow_at (hS100.chq 0 rfl hc100)) hv108 (show [(slot, old), (slot, now)][0]? = some (slot, old) from rfl) rfl) Try.underlying117 rfl (by kernel_rfl)) ?_
     refine W_allocS (z := .agg #[.int .i64 0, .int .i64 0]) (zs := #[.int .i64 0, .int .i64 0]) hS100 rfl rfl rfl (by kernel_rfl) (by rfl) (fun g109 w109 c109 hc109 hS109 => ?_)
     replace hS109 : St w NoX [c109, c100, c87, c_85, cz_85, c76, c4] w109 := hS109
     refine W_stAS 0 hS109 rfl hc109 rfl rfl rfl (et rfl) (es rfl (et rfl)) (by first | (rw [List.all_toArray] <;> rfl) | (simp only [List.all_toArray, List.all_cons, List.all_nil] <;> rfl)) (by rfl) (by kernel_rfl) (fun w110 c110 hc110 hS110 => ?_)
     replace hS110 : St w NoX [c110, c100, c87, c_85, cz_85, c76, c4] w110 := hS110
     refine W_end (gen_Q fun A111 hA111 => ?_)
     have hsz111 := szq hA111
     have hdf111 := dfE hA111 hdf104
     have l2_111 := ek3 hA111 2 rfl l2_104
     have l4_111 := ek3 hA111 4 rfl l4_104
     have l10_111 := ek3 hA111 10 rfl l10_104
     have l14_111 := ek3 hA111 14 rfl l14_104
     have l19_111 := ek3 hA111 19 rfl l19_104
     have l21_111 := lookE hA111 21 (et rfl)
     have l72_111 := ek3 hA111 72 rfl l72_104
     have l73_111 := ek3 hA111 73 rfl l73_104
     have l74_111 := ek3 hA111 74 rfl l74_104
     clear hA111 hsz104 hdf104 l2_104 l4_104 l10_104 l14_104 l19_104 l72_104 l73_104 l74_104 l75_104
     refine then_n (hK107 _ _ ?_)
     clear hK107
     refine wp_seq_k fun K112 hK112 => ?_
     refine region_in ?_
     refine W_v rfl rfl (V_mov rfl l14_111) ?_
     refine W_r rfl rfl (VR_ldA rfl (es rfl l21_111) (hS110.obj 0 rfl hc110) Try.underlying117 rfl (by kernel_rfl)) ?_
     refine W_r rfl rfl (VR_lookW (q := (slot, old)) rfl (es rfl (et rfl)) (et rfl) (hS110.chq 5 rfl hc76) Try.underlying115 (by kernel_rfl) (by kernel_rfl)) ?_
     refine W_v rfl rfl (V_asg rfl (et rfl)) ?_
     refine W_end (gen_Q fun A113 hA113 => ?_)
     have hsz113 := szq hA113
     have hdf113 := dfE hA113 hdf111
     have l2_113 := ek4 hA113 2 rfl l2_111
     have l4_113 := ek4 hA113 4 rfl l4_111
     have l10_113 := ek4 hA113 10 rfl l10_111
     have l14_113 := ek4 hA113 14 rfl l14_111
     have l19_113 := ek4 hA113 19 rfl l19_111
     have l21_113 := ek4 hA113 21 rfl l21_111
     have l22_113 := lookE hA113 22 (et rfl)
     have l72_113 := ek4 hA113 72 rfl l72_111
     have l73_113 := ek4 hA113 73 rfl l73_111
     have l74_113 := ek4 hA113 74 rfl l74_111
     clear hA113 hsz111 hdf111 l2_111 l4_111 l10_111 l14_111 l19_111 l21_111 l72_111 l73_111 l74_111
     have e114 : (wget (wset (wset [] (slot, old) (plN C N Z K Q slot old)) (slot, now) (plN C N Z K Q slot now)) (slot, old)) = (plN C N Z K Q slot old) := wg_1 hne
     rw [e114] at l22_113
     refine then_n (hK112 _ _ ?_)
     clear hK112
     refine wp_block ?_
     refine wp_seq_k fun K115 hK115 => ?_
     refine region_in ?_
     refine W_v rfl rfl (V_mov rfl l22_113) ?_
     refine W_v rfl rfl (V_eql rfl (et rfl) rfl) ?_
     refine W_split rfl rfl (V_mov rfl (et rfl)) (fun c116 => ?_) (fun c116 => ?_)
     ·refine W_v rfl (wanted_t rfl rfl (et rfl) (ez rfl)) (V_fa (off' := 1) rfl (e3 rfl l21_113) Try.underlying117 rfl (by decide +kernel) rfl) ?_
      refine W_r rfl (wanted_t rfl rfl (es rfl (et rfl)) (ez rfl)) (VR_ldC rfl (et rfl) (cell_box (v := .int .i64 (old)) (hS110.obj 0 rfl hc110) rfl) Try.underlying3 rfl) ?_
      refine W_v rfl (wanted_t rfl rfl (e2 rfl (et rfl)) (ez rfl)) (V_mov rfl (e5 rfl l4_113)) ?_
      refine W_v rfl (wanted_t rfl rfl (e3 rfl (et rfl)) (ez rfl)) (V_eql rfl (es rfl (et rfl)) (et rfl)) ?_
      refine W_v rfl rfl (V_pickT rfl (e4 rfl (et rfl)) (et rfl)) ?_
      refine W_v rfl rfl (V_asg rfl (et rfl)) ?_
      refine W_end (gen_Q fun A117 hA117 => ?_)
      have hsz117 := szq hA117
      have hdf117 := dfE hA117 hdf113
      have l2_117 := ek9 hA117 2 rfl l2_113
      have l4_117 := ek9 hA117 4 rfl l4_113
      have l10_117 := ek9 hA117 10 rfl l10_113
      have l14_117 := ek9 hA117 14 rfl l14_113
      have l19_117 := ek9 hA117 19 rfl l19_113
      have l21_117 := ek9 hA117 21 rfl l21_113
      have l22_117 := ek9 hA117 22 rfl l22_113
      have l72_117 := ek9 hA117 72 rfl l72_113
      have l73_117 := ek9 hA117 73 rfl l73_113
      have l74_117 := ek9 hA117 74 rfl l74_113
      have l89_117 := lookE hA117 89 (et rfl)
      have l93_117 := lookE hA117 93 (e5 rfl (et rfl))
      have l94_117 := lookE hA117 94 (e4 rfl (et rfl))
      have l95_117 := lookE hA117 95 (e3 rfl (et rfl))
      have l96_117 := lookE hA117 96 (e2 rfl (et rfl))
      clear hA117 hsz113 hdf113 l2_113 l4_113 l10_113 l14_113 l19_113 l21_113 l22_113 l72_113 l73_113 l74_113
      refine then_n (hK115 _ _ ?_)
      clear hK115
      refine cond_not l89_117 (by first | (simp [c93]; done) | exact decide_eq_true (by omega) | exact decide_eq_false (by omega)) ?_
      refine wp_seq_k fun K118 hK118 => ?_
      refine region_in ?_
      refine W_v rfl rfl (V_mov rfl l22_117) ?_
      refine W_v rfl rfl (V_eql rfl (et rfl) rfl) ?_
      refine W_v rfl rfl (V_asg rfl (et rfl)) ?_
      refine W_end (gen_Q fun A119 hA119 => ?_)
      have hsz119 := szq hA119
      have hdf119 := dfE hA119 hdf117
      have l2_119 := ek3 hA119 2 rfl l2_117
      have l4_119 := ek3 hA119 4 rfl l4_117
      have l10_119 := ek3 hA119 10 rfl l10_117
      have l14_119 := ek3 hA119 14 rfl l14_117
      have l19_119 := ek3 hA119 19 rfl l19_117
      have l21_119 := ek3 hA119 21 rfl l21_117
      have l22_119 := ek3 hA119 22 rfl l22_117
      have l72_119 := ek3 hA119 72 rfl l72_117
      have l73_119 := ek3 hA119 73 rfl l73_117
      have l74_119 := ek3 hA119 74 rfl l74_117
      have l93_119 := ek3 hA119 93 rfl l93_117
      have l94_119 := ek3 hA119 94 rfl l94_117
      have l95_119 := ek3 hA119 95 rfl l95_117
      have l96_119 := ek3 hA119 96 rfl l96_117
      have l107_119 := lookE hA119 107 (et rfl)
      clear hA119 hsz117 hdf117 l2_117 l4_117 l10_117 l14_117 l19_117 l21_117 l22_117 l72_117 l73_117 l74_117 l89_117 l93_117 l94_117 l95_117 l96_117
      refine then_n (hK118 _ _ ?_)
      clear hK118
      refine cond_sure l107_119 (by first | (simp [c116]; done) | exact decide_eq_true (by omega) | exact decide_eq_false (by omega)) ?_
      refine region_in ?_
      refine W_v rfl rfl (V_fa (off' := 1) rfl l19_119 Try.underlying29 rfl (by decide +kernel) rfl) ?_
      refine W_r rfl rfl (VR_ldP (ys := [z_85]) rfl (et rfl) (hS110.obj 2 rfl hc87) (ldP_at rfl) Try.underlying27 rfl (by kernel_rfl)) ?_
      refine W_v rfl rfl (V_mov rfl (e2 rfl l2_119)) ?_
      refine W_call rfl rfl rfl Try.func88 (by kernel_rfl) rfl (args2 (es rfl (et rfl)) (et rfl)) (kDrop_c (a := slot) (hS110.chC 4 rfl hcz_85).own ) ?_
      rintro _ w120 ⟨v_120, rfl, hP120⟩
      refine ⟨_, rfl, ?_⟩
      obtain ⟨c_120, hc_120, hP120⟩ := gen1 hP120
      have hS120 := hS110.join hP120
      replace hS120 : St w NoX [c_120, c110, c100, c87, c_85, cz_85, c76, c4] w120 := hS120
      refine W_v rfl rfl (V_mov rfl (et rfl)) ?_
      refine W_v rfl rfl (V_ext (v := .agg #[v_120]) rfl (et rfl) rfl) ?_
      refine W_v rfl rfl (V_ext (v := .bool ((hsB ns slot))) rfl (es rfl (et rfl)) rfl) ?_
      refine W_v rfl rfl (V_ext (v := .int .i64 ((chE ns slot))) rfl (e2 rfl (et rfl)) rfl) ?_
      refine W_v rfl rfl (V_fa (off' := 1) rfl (e8 rfl l19_119) Try.underlying29 rfl (by decide +kernel) rfl) ?_
      refine W_stAM (ys := [v_120]) (zs' := #[v_85, v_120]) 3 hS120 rfl hc87 rfl rfl rfl (et rfl) (e3 rfl (et rfl)) (by intro u hu; simp only [List.mem_cons, List.not_mem_nil, or_false] at hu; rcases hu with rfl <;> first | exact SlN_one (ow_at (hS120.chq 0 rfl hc_120))) (by simp) (by kernel_rfl) rfl (fun w121 c121 hc121 hS121 => ?_)
      replace hS121 : St w NoX [c_120, c110, c100, c121, c_85, cz_85, c76, c4] w121 := hS121
      refine W_end (gen_Q fun A122 hA122 => ?_)
      have hsz122 := szq hA122
      have hdf122 := dfE hA122 hdf119
      have l2_122 := ek9 hA122 2 rfl l2_119
      have l4_122 := ek9 hA122 4 rfl l4_119
      have l10_122 := ek9 hA122 10 rfl l10_119
      have l14_122 := ek9 hA122 14 rfl l14_119
      have l19_122 := ek9 hA122 19 rfl l19_119
      have l72_122 := ek9 hA122 72 rfl l72_119
      have l73_122 := ek9 hA122 73 rfl l73_119
      have l74_122 := ek9 hA122 74 rfl l74_119
      have l93_122 := ek9 hA122 93 rfl l93_119
      have l94_122 := ek9 hA122 94 rfl l94_119
      have l95_122 := ek9 hA122 95 rfl l95_119
      have l96_122 := ek9 hA122 96 rfl l96_119
      clear hA122 hsz119 hdf119 l2_119 l4_119 l10_119 l14_119 l19_119 l21_119 l22_119 l72_119 l73_119 l74_119 l93_119 l94_119 l95_119 l96_119 l107_119
      have hS123 : St w NoX [c_120, c110, c100, c121, c_85, c76, c4] w121 := hS121.sel [0, 1, 2, 3, 4, 6, 7] (by decide) rfl
      refine inb_n ?_
      refine inb_n ?_
      refine then_n (hK106 _ _ ?_)
      clear hK106
      refine region_in ?_
      refine W_v rfl rfl (V_add rfl l74_122 rfl (by omega) (by omega)) ?_
      refine W_v rfl rfl (V_mov rfl (et rfl)) ?_
      refine W_end (gen_Q fun A124 hA124 => ?_)
      have hsz124 := szq hA124
      have hdf124 := dfE hA124 hdf122
      have l2_124 := ek2 hA124 2 rfl l2_122
      have l4_124 := ek2 hA124 4 rfl l4_122
      have l10_124 := ek2 hA124 10 rfl l10_122
      have l14_124 := ek2 hA124 14 rfl l14_122
      have l19_124 := ek2 hA124 19 rfl l19_122
      have l72_124 := ek2 hA124 72 rfl l72_122
      have l73_124 := ek2 hA124 73 rfl l73_122
      have l74_124 := lookE hA124 74 (et rfl)
      have l93_124 := ek2 hA124 93 rfl l93_122
      have l94_124 := ek2 hA124 94 rfl l94_122
      have l95_124 := ek2 hA124 95 rfl l95_122
      have l96_124 := ek2 hA124 96 rfl l96_122
      clear hA124 hsz122 hdf122 l2_122 l4_122 l10_122 l14_122 l19_122 l72_122 l73_122 l74_122 l93_122 l94_122 l95_122 l96_122
      refine then_n ?_
      refine LW_step ?_
      have l74_125 : EV A124 (.tmp 74) = .int .i64 (1 : Int) := l74_124
      refine wp_seq_k fun K126 hK126 => ?_
      refine region_in ?_
      refine W_v rfl rfl (V_lss rfl l74_125 l73_124) ?_
      refine W_end (gen_Q fun A127 hA127 => ?_)
      have hsz127 := szq hA127
      have hdf127 := dfE hA127 hdf124
      have l2_127 := lookE hA127 2 (es rfl l2_124)
      have l4_127 := lookE hA127 4 (es rfl l4_124)
      have l10_127 := lookE hA127 10 (es rfl l10_124)
      have l14_127 := lookE hA127 14 (es rfl l14_124)
      have l19_127 := lookE hA127 19 (es rfl l19_124)
      have l72_127 := lookE hA127 72 (es rfl l72_124)
      have l73_127 := lookE hA127 73 (es rfl l73_124)
      have l74_127 := lookE hA127 74 (es rfl l74_125)
      have l75_127 := lookE hA127 75 (et rfl)
      have l93_127 := lookE hA127 93 (es rfl l93_124)
      have l94_127 := lookE hA127 94 (es rfl l94_124)
      have l95_127 := lookE hA127 95 (es rfl l95_124)
      have l96_127 := lookE hA127 96 (es rfl l96_124)
      clear hA127 hsz124 hdf124 l2_124 l4_124 l10_124 l14_124 l19_124 l72_124 l73_124 l74_125 l93_124 l94_124 l95_124 l96_124
      refine then_n (hK126 _ _ ?_)
      clear hK126
      refine wp_seq_k fun K128 hK128 => ?_
      refine cond_sure l75_127 (by simp) ?_
      refine wp_skip ?_
      refine then_n (hK128 _ _ ?_)
      clear hK128
      refine wp_seq_k fun K129 hK129 => ?_
      refine wp_block ?_
      refine wp_seq_k fun K130 hK130 => ?_
      refine region_in ?_
      have k131 : 1 < [(slot, old), (slot, now)].length := by first | (simp; done) | decide +kernel
      refine W_v rfl rfl (V_ixS (off := O108 + 1 * 2) 2 (1) rfl l72_127 l74_127 hv108 (by omega) k131 Try.underlying118 (by kernel_rfl) rfl) ?_
      refine W_r rfl rfl (VR_ldR (ys := pkL (slot, now)) rfl (et rfl) (SlN.row pkL_len (ow_at (hS123.chq 2 rfl hc100)) hv108 (show [(slot, old), (slot, now)][1]? = some (slot, now) from rfl) rfl) Try.underlying117 rfl (by kernel_rfl)) ?_
      refine W_allocS (z := .agg #[.int .i64 0, .int .i64 0]) (zs := #[.int .i64 0, .int .i64 0]) hS123 rfl rfl rfl (by kernel_rfl) (by rfl) (fun g132 w132 c132 hc132 hS132 => ?_)
      replace hS132 : St w NoX [c132, c_120, c110, c100, c121, c_85, c76, c4] w132 := hS132
      refine W_stAS 0 hS132 rfl hc132 rfl rfl rfl (et rfl) (es rfl (et rfl)) (by first | (rw [List.all_toArray] <;> rfl) | (simp only [List.all_toArray, List.all_cons, List.all_nil] <;> rfl)) (by rfl) (by kernel_rfl) (fun w133 c133 hc133 hS133 => ?_)
      replace hS133 : St w NoX [c133, c_120, c110, c100, c121, c_85, c76, c4] w133 := hS133
      refine W_end (gen_Q fun A134 hA134 => ?_)
      have hsz134 := szq hA134
      have hdf134 := dfE hA134 hdf127
      have l2_134 := ek3 hA134 2 rfl l2_127
      have l4_134 := ek3 hA134 4 rfl l4_127
      have l10_134 := ek3 hA134 10 rfl l10_127
      have l14_134 := ek3 hA134 14 rfl l14_127
      have l19_134 := ek3 hA134 19 rfl l19_127
      have l21_134 := lookE hA134 21 (et rfl)
      have l72_134 := ek3 hA134 72 rfl l72_127
      have l73_134 := ek3 hA134 73 rfl l73_127
      have l74_134 := ek3 hA134 74 rfl l74_127
      have l93_134 := ek3 hA134 93 rfl l93_127
      have l94_134 := ek3 hA134 94 rfl l94_127
      have l95_134 := ek3 hA134 95 rfl l95_127
      have l96_134 := ek3 hA134 96 rfl l96_127
      clear hA134 hsz127 hdf127 l2_127 l4_127 l10_127 l14_127 l19_127 l72_127 l73_127 l74_127 l75_127 l93_127 l94_127 l95_127 l96_127
      refine then_n (hK130 _ _ ?_)
      clear hK130
      refine wp_seq_k fun K135 hK135 => ?_
      refine region_in ?_
      refine W_v rfl rfl (V_mov rfl l14_134) ?_
      refine W_r rfl rfl (VR_ldA rfl (es rfl l21_134) (hS133.obj 0 rfl hc133) Try.underlying117 rfl (by kernel_rfl)) ?_
      refine W_r rfl rfl (VR_lookW (q := (slot, now)) rfl (es rfl (et rfl)) (et rfl) (hS133.chq 6 rfl hc76) Try.underlying115 (by kernel_rfl) (by kernel_rfl)) ?_
      refine W_v rfl rfl (V_asg rfl (et rfl)) ?_
      refine W_end (gen_Q fun A136 hA136 => ?_)
      have hsz136 := szq hA136
      have hdf136 := dfE hA136 hdf134
      have l2_136 := ek4 hA136 2 rfl l2_134
      have l4_136 := ek4 hA136 4 rfl l4_134
      have l10_136 := ek4 hA136 10 rfl l10_134
      have l14_136 := ek4 hA136 14 rfl l14_134
      have l19_136 := ek4 hA136 19 rfl l19_134
      have l21_136 := ek4 hA136 21 rfl l21_134
      have l22_136 := lookE hA136 22 (et rfl)
      have l72_136 := ek4 hA136 72 rfl l72_134
      have l73_136 := ek4 hA136 73 rfl l73_134
      have l74_136 := ek4 hA136 74 rfl l74_134
      have l93_136 := ek4 hA136 93 rfl l93_134
      have l94_136 := ek4 hA136 94 rfl l94_134
      have l95_136 := ek4 hA136 95 rfl l95_134
      have l96_136 := ek4 hA136 96 rfl l96_134
      clear hA136 hsz134 hdf134 l2_134 l4_134 l10_134 l14_134 l19_134 l21_134 l72_134 l73_134 l74_134 l93_134 l94_134 l95_134 l96_134
      have e137 : (wget (wset (wset [] (slot, old) (plN C N Z K Q slot old)) (slot, now) (plN C N Z K Q slot now)) (slot, now)) = (plN C N Z K Q slot now) := wg_2 hne
      rw [e137] at l22_136
      refine then_n (hK135 _ _ ?_)
      clear hK135
      refine wp_block ?_
      refine wp_seq_k fun K138 hK138 => ?_
      refine region_in ?_
      refine W_v rfl rfl (V_mov rfl l22_136) ?_
      refine W_v rfl rfl (V_eql rfl (et rfl) rfl) ?_
      refine W_split rfl rfl (V_mov rfl (et rfl)) (fun c139 => ?_) (fun c139 => ?_)
      ·refine W_v rfl (wanted_t rfl rfl (et rfl) (ez rfl)) (V_fa (off' := 1) rfl (e3 rfl l21_136) Try.underlying117 rfl (by decide +kernel) rfl) ?_
       refine W_r rfl (wanted_t rfl rfl (es rfl (et rfl)) (ez rfl)) (VR_ldC rfl (et rfl) (cell_box (v := .int .i64 (now)) (hS133.obj 0 rfl hc133) rfl) Try.underlying3 rfl) ?_
       refine W_v rfl (wanted_t rfl rfl (e2 rfl (et rfl)) (ez rfl)) (V_mov rfl (e5 rfl l4_136)) ?_
       refine W_v rfl (wanted_t rfl rfl (e3 rfl (et rfl)) (ez rfl)) (V_eql rfl (es rfl (et rfl)) (et rfl)) ?_
       refine W_v rfl rfl (V_pickT rfl (e4 rfl (et rfl)) (et rfl)) ?_
       refine W_v rfl rfl (V_asg rfl (et rfl)) ?_
       refine W_end (gen_Q fun A140 hA140 => ?_)
       have hsz140 := szq hA140
       have hdf140 := dfE hA140 hdf136
       have l2_140 := ek9 hA140 2 rfl l2_136
       have l4_140 := ek9 hA140 4 rfl l4_136
       have l10_140 := ek9 hA140 10 rfl l10_136
       have l14_140 := ek9 hA140 14 rfl l14_136
       have l19_140 := ek9 hA140 19 rfl l19_136
       have l21_140 := ek9 hA140 21 rfl l21_136
       have l22_140 := ek9 hA140 22 rfl l22_136
       have l72_140 := ek9 hA140 72 rfl l72_136
       have l73_140 := ek9 hA140 73 rfl l73_136
       have l74_140 := ek9 hA140 74 rfl l74_136
       have l89_140 := lookE hA140 89 (et rfl)
       have l93_140 := lookE hA140 93 (e5 rfl (et rfl))
       have l94_140 := lookE hA140 94 (e4 rfl (et rfl))
       have l95_140 := lookE hA140 95 (e3 rfl (et rfl))
       have l96_140 := lookE hA140 96 (e2 rfl (et rfl))
       clear hA140 hsz136 hdf136 l2_136 l4_136 l10_136 l14_136 l19_136 l21_136 l22_136 l72_136 l73_136 l74_136 l93_136 l94_136 l95_136 l96_136
       have hS141 : St w NoX [c133, c_120, c100, c121, c_85, c76, c4] w133 := hS133.sel [0, 1, 3, 4, 5, 6, 7] (by decide) rfl
       refine then_n (hK138 _ _ ?_)
       clear hK138
       refine cond_sure l89_140 (by simp) ?_
       refine region_in ?_
       refine W_v rfl rfl (V_fa (off' := 1) rfl l19_140 Try.underlying29 rfl (by decide +kernel) rfl) ?_
       refine W_r rfl rfl (VR_ldP (ys := [v_120]) rfl (et rfl) (hS141.obj 3 rfl hc121) (ldP_at rfl) Try.underlying27 rfl (by kernel_rfl)) ?_
       refine W_v rfl rfl (V_mov rfl (e2 rfl l2_140)) ?_
       refine W_call rfl rfl rfl Try.func87 (by kernel_rfl) rfl (args2 (es rfl (et rfl)) (et rfl)) (kAdd_c (a := slot) (hS141.chC 1 rfl hc_120).own ) ?_
       rintro _ w142 ⟨v_142, rfl, hP142⟩
       refine ⟨_, rfl, ?_⟩
       obtain ⟨c_142, hc_142, hP142⟩ := gen1 hP142
       have hS142 := hS141.join hP142
       replace hS142 : St w NoX [c_142, c133, c_120, c100, c121, c_85, c76, c4] w142 := hS142
       refine W_v rfl rfl (V_mov rfl (et rfl)) ?_
       refine W_v rfl rfl (V_ext (v := .agg #[v_142]) rfl (et rfl) rfl) ?_
       refine W_v rfl rfl (V_ext (v := .bool ((adB (drT ns slot) slot))) rfl (es rfl (et rfl)) rfl) ?_
       refine W_v rfl rfl (V_ext (v := .int .i64 ((chE (drT ns slot) slot))) rfl (e2 rfl (et rfl)) rfl) ?_
       refine W_v rfl rfl (V_fa (off' := 1) rfl (e8 rfl l19_140) Try.underlying29 rfl (by decide +kernel) rfl) ?_
       refine W_stAM (ys := [v_142]) (zs' := #[v_85, v_142]) 4 hS142 rfl hc121 rfl rfl rfl (et rfl) (e3 rfl (et rfl)) (by intro u hu; simp only [List.mem_cons, List.not_mem_nil, or_false] at hu; rcases hu with rfl <;> first | exact SlN_one (ow_at (hS142.chq 0 rfl hc_142))) (by simp) (by kernel_rfl) rfl (fun w143 c143 hc143 hS143 => ?_)
       replace hS143 : St w NoX [c_142, c133, c_120, c100, c143, c_85, c76, c4] w143 := hS143
       refine W_end (gen_Q fun A144 hA144 => ?_)
       have hsz144 := szq hA144
       have hdf144 := dfE hA144 hdf140
       have l2_144 := ek9 hA144 2 rfl l2_140
       have l4_144 := ek9 hA144 4 rfl l4_140
       have l10_144 := ek9 hA144 10 rfl l10_140
       have l14_144 := ek9 hA144 14 rfl l14_140
       have l19_144 := ek9 hA144 19 rfl l19_140
       have l72_144 := ek9 hA144 72 rfl l72_140
       have l73_144 := ek9 hA144 73 rfl l73_140
       have l74_144 := ek9 hA144 74 rfl l74_140
       have l93_144 := ek9 hA144 93 rfl l93_140
       have l94_144 := ek9 hA144 94 rfl l94_140
       have l95_144 := ek9 hA144 95 rfl l95_140
       have l96_144 := ek9 hA144 96 rfl l96_140
       clear hA144 hsz140 hdf140 l2_140 l4_140 l10_140 l14_140 l19_140 l21_140 l22_140 l72_140 l73_140 l74_140 l89_140 l93_140 l94_140 l95_140 l96_140
       have hS145 : St w NoX [c_142, c133, c100, c143, c_85, c76, c4] w143 := hS143.sel [0, 1, 3, 4, 5, 6, 7] (by decide) rfl
       refine inb_n ?_
       refine inb_n ?_
       refine then_n (hK129 _ _ ?_)
       clear hK129
       refine region_in ?_
       refine W_v rfl rfl (V_add rfl l74_144 rfl (by omega) (by omega)) ?_
       refine W_v rfl rfl (V_mov rfl (et rfl)) ?_
       refine W_end (gen_Q fun A146 hA146 => ?_)
       have hsz146 := szq hA146
       have hdf146 := dfE hA146 hdf144
       have l2_146 := ek2 hA146 2 rfl l2_144
       have l4_146 := ek2 hA146 4 rfl l4_144
       have l10_146 := ek2 hA146 10 rfl l10_144
       have l14_146 := ek2 hA146 14 rfl l14_144
       have l19_146 := ek2 hA146 19 rfl l19_144
       have l72_146 := ek2 hA146 72 rfl l72_144
       have l73_146 := ek2 hA146 73 rfl l73_144
       have l74_146 := lookE hA146 74 (et rfl)
       have l93_146 := ek2 hA146 93 rfl l93_144
       have l94_146 := ek2 hA146 94 rfl l94_144
       have l95_146 := ek2 hA146 95 rfl l95_144
       have l96_146 := ek2 hA146 96 rfl l96_144
       clear hA146 hsz144 hdf144 l2_144 l4_144 l10_144 l14_144 l19_144 l72_144 l73_144 l74_144 l93_144 l94_144 l95_144 l96_144
       refine then_n ?_
       refine LW_step ?_
       have l74_147 : EV A146 (.tmp 74) = .int .i64 (2 : Int) := l74_146
       refine wp_seq_k fun K148 hK148 => ?_
       refine region_in ?_
       refine W_v rfl rfl (V_lss rfl l74_147 l73_146) ?_
       refine W_end (gen_Q fun A149 hA149 => ?_)
       have hsz149 := szq hA149
       have hdf149 := dfE hA149 hdf146
       have l2_149 := lookE hA149 2 (es rfl l2_146)
       have l4_149 := lookE hA149 4 (es rfl l4_146)
       have l10_149 := lookE hA149 10 (es rfl l10_146)
       have l14_149 := lookE hA149 14 (es rfl l14_146)
       have l19_149 := lookE hA149 19 (es rfl l19_146)
       have l72_149 := lookE hA149 72 (es rfl l72_146)
       have l73_149 := lookE hA149 73 (es rfl l73_146)
       have l74_149 := lookE hA149 74 (es rfl l74_147)
       have l75_149 := lookE hA149 75 (et rfl)
       have l93_149 := lookE hA149 93 (es rfl l93_146)
       have l94_149 := lookE hA149 94 (es rfl l94_146)
       have l95_149 := lookE hA149 95 (es rfl l95_146)
       have l96_149 := lookE hA149 96 (es rfl l96_146)
       clear hA149 hsz146 hdf146 l2_146 l4_146 l10_146 l14_146 l19_146 l72_146 l73_146 l74_147 l93_146 l94_146 l95_146 l96_146
       refine then_n (hK148 _ _ ?_)
       clear hK148
       refine wp_seq_k fun K150 hK150 => ?_
       refine cond_not l75_149 (by simp) ?_
       refine wp_exit ?_
       refine then_exit ?_
       refine then_exit ?_
       refine inb_hit ?_
       refine then_n (hK98 _ _ ?_)
       clear hK98
       refine wp_seq_k fun K151 hK151 => ?_
       refine region_in ?_
       refine W_r rfl rfl (VR_ldA rfl l19_149 (hS145.obj 3 rfl hc143) Try.underlying29 rfl (by kernel_rfl)) ?_
       refine W_stAS 6 hS145 rfl hc4 rfl rfl rfl (es rfl l10_149) (et rfl) (by simp only [List.all_toArray, List.all_cons, List.all_nil, rmO_one (hS145.chq 4 rfl hc_85), SlN_one (ow_at (hS145.chq 0 rfl hc_142))] <;> rfl) (by rfl) (by kernel_rfl) (fun w152 c152 hc152 hS152 => ?_)
       replace hS152 : St w NoX [c_142, c133, c100, c143, c_85, c76, c152] w152 := hS152
       refine W_v rfl rfl (V_asg rfl rfl) ?_
       refine W_end (gen_Q fun A153 hA153 => ?_)
       have hsz153 := szq hA153
       have hdf153 := dfE hA153 hdf149
       have l10_153 := ek2 hA153 10 rfl l10_149
       have l11_153 := lookE hA153 11 (et rfl)
       clear hA153 hsz149 hdf149 l2_149 l4_149 l10_149 l14_149 l19_149 l72_149 l73_149 l74_149 l75_149 l93_149 l94_149 l95_149 l96_149
       have hS154 : St w NoX [c_142, c_85, c152] w152 := hS152.sel [0, 4, 6] (by decide) rfl
       refine then_n (hK151 _ _ ?_)
       clear hK151
       refine wp_ret ?_
       refine ret_in (results_2 Try.results59 (rv_cellA l10_153 (hS154.obj 2 rfl hc152) Try.underlying29 rfl (by kernel_rfl)) (rv_tmp l11_153)) hdf153 ?_
       have he : chE8 C N Z K Q X ns slot old now = 0 := (ch8_e3 (by omega) (by omega)).trans (by omega)
       have hb := ch_k he hne
       rw [he]
       exact ⟨_, _, rfl, (hS154.fin2 1 rfl (hc_85.trans (congrArg (rmO _) (by rw [hb.1, cg_neg (i := (plN C N Z K Q slot now)) (by omega), cg_neg (i := (plN C N Z K Q slot old)) (by omega)]))) 0 rfl (hc_142.trans (congrArg (io .i64 _) (by rw [hb.2, cgN_at (i := (plN C N Z K Q slot now)) (by omega), cgN_at (i := (plN C N Z K Q slot old)) (by omega)] <;> rfl))) (by decide))⟩
      ·refine W_off rfl (wanted_f rfl rfl (et rfl) (ez rfl) rfl) ?_
       refine W_off rfl (wanted_f rfl rfl (es rfl (et rfl)) (ez rfl) rfl) ?_
       refine W_off rfl (wanted_f rfl rfl (e2 rfl (et rfl)) (ez rfl) rfl) ?_
       refine W_off rfl (wanted_f rfl rfl (e3 rfl (et rfl)) (ez rfl) rfl) ?_
       refine W_v rfl rfl (V_pickF rfl (e4 rfl (et rfl)) rfl) ?_
       refine W_v rfl rfl (V_asg rfl (et rfl)) ?_
       refine W_end (gen_Q fun A155 hA155 => ?_)
       have hsz155 := szq hA155
       have hdf155 := dfE hA155 hdf136
       have l2_155 := ek9 hA155 2 rfl l2_136
       have l4_155 := ek9 hA155 4 rfl l4_136
       have l10_155 := ek9 hA155 10 rfl l10_136
       have l14_155 := ek9 hA155 14 rfl l14_136
       have l19_155 := ek9 hA155 19 rfl l19_136
       have l21_155 := ek9 hA155 21 rfl l21_136
       have l22_155 := ek9 hA155 22 rfl l22_136
       have l72_155 := ek9 hA155 72 rfl l72_136
       have l73_155 := ek9 hA155 73 rfl l73_136
       have l74_155 := ek9 hA155 74 rfl l74_136
       have l89_155 := lookE hA155 89 (et rfl)
       have l93_155 := lookE hA155 93 (e5 rfl (et rfl))
       have l94_155 := lookE hA155 94 (e4 rfl (et rfl))
       have l95_155 := lookE hA155 95 (e3 rfl (et rfl))
       have l96_155 := lookE hA155 96 (e2 rfl (et rfl))
       clear hA155 hsz136 hdf136 l2_136 l4_136 l10_136 l14_136 l19_136 l21_136 l22_136 l72_136 l73_136 l74_136 l93_136 l94_136 l95_136 l96_136
       have hS156 : St w NoX [c133, c_120, c100, c121, c_85, c76, c4] w133 := hS133.sel [0, 1, 3, 4, 5, 6, 7] (by decide) rfl
       refine then_n (hK138 _ _ ?_)
       clear hK138
       refine cond_f l89_155 ?_
       refine wp_seq_k fun K157 hK157 => ?_
       refine region_in ?_
       refine W_v rfl rfl (V_mov rfl l22_155) ?_
       refine W_v rfl rfl (V_eql rfl (et rfl) rfl) ?_
       refine W_v rfl rfl (V_asg rfl (et rfl)) ?_
       refine W_end (gen_Q fun A158 hA158 => ?_)
       have hsz158 := szq hA158
       have hdf158 := dfE hA158 hdf155
       have l2_158 := ek3 hA158 2 rfl l2_155
       have l4_158 := ek3 hA158 4 rfl l4_155
       have l10_158 := ek3 hA158 10 rfl l10_155
       have l14_158 := ek3 hA158 14 rfl l14_155
       have l19_158 := ek3 hA158 19 rfl l19_155
       have l21_158 := ek3 hA158 21 rfl l21_155
       have l22_158 := ek3 hA158 22 rfl l22_155
       have l72_158 := ek3 hA158 72 rfl l72_155
       have l73_158 := ek3 hA158 73 rfl l73_155
       have l74_158 := ek3 hA158 74 rfl l74_155
       have l93_158 := ek3 hA158 93 rfl l93_155
       have l94_158 := ek3 hA158 94 rfl l94_155
       have l95_158 := ek3 hA158 95 rfl l95_155
       have l96_158 := ek3 hA158 96 rfl l96_155
       have l107_158 := lookE hA158 107 (et rfl)
       clear hA158 hsz155 hdf155 l2_155 l4_155 l10_155 l14_155 l19_155 l21_155 l22_155 l72_155 l73_155 l74_155 l89_155 l93_155 l94_155 l95_155 l96_155
       refine then_n (hK157 _ _ ?_)
       clear hK157
       refine cond_not l107_158 (by first | (simp [c139]; done) | exact decide_eq_true (by omega) | exact decide_eq_false (by omega)) ?_
       refine region_in ?_
       refine W_r rfl rfl (VR_ldA rfl l19_158 (hS156.obj 3 rfl hc121) Try.underlying29 rfl (by kernel_rfl)) ?_
       refine W_v rfl rfl (V_mov rfl (es rfl l22_158)) ?_
       refine W_v rfl rfl (V_mov rfl (e2 rfl l2_158)) ?_
       refine W_v rfl rfl (V_fa (off' := 1) rfl (e3 rfl l21_158) Try.underlying117 rfl (by decide +kernel) rfl) ?_
       refine W_r rfl rfl (VR_ldC rfl (et rfl) (cell_box (v := .int .i64 (now)) (hS156.obj 0 rfl hc133) rfl) Try.underlying3 rfl) ?_
       refine W_v rfl rfl (V_mov rfl (e5 rfl l4_158)) ?_
       refine W_v rfl rfl (V_eql rfl (es rfl (et rfl)) (et rfl)) ?_
       have hS159 := hS156.sel [4, 0, 1, 2, 3, 5, 6] (by decide) (l' := [c_85, c133, c_120, c100, c121, c76, c4]) rfl
       replace hS159 : St w NoX [c_85, c133, c_120, c100, c121, c76, c4] w133 := hS159
       obtain ⟨Y160, hP160, hR160, hF160, hB160⟩ := St.call (pre := [c_85]) (fr := [c133, c_120, c100, c121, c76, c4]) hS159
       rw [hc_85] at hP160
       refine W_call rfl rfl rfl Try.func89 (by kernel_rfl) rfl (args4 (e6 rfl (et rfl)) (e5 rfl (et rfl)) (e4 rfl (et rfl)) (et rfl)) (kchg_c (i := (plN C N Z K Q slot now)) (slot := slot) (add := decide (now = now))  hP160 (by omega) (by with_reducible assumption)) ?_
       rintro _ w161 ⟨rfl, hP161⟩
       refine ⟨_, rfl, ?_⟩
       obtain ⟨c_161, hc_161, hP161⟩ := gen1 hP161
       have hS161 := hB160 _ _ hP161
       replace hS161 : St w NoX [c_161, c133, c_120, c100, c121, c76, c4] w161 := hS161
       refine W_end (gen_Q fun A162 hA162 => ?_)
       have hsz162 := szq hA162
       have hdf162 := dfE hA162 hdf158
       have l2_162 := ek8 hA162 2 rfl l2_158
       have l4_162 := ek8 hA162 4 rfl l4_158
       have l10_162 := ek8 hA162 10 rfl l10_158
       have l14_162 := ek8 hA162 14 rfl l14_158
       have l19_162 := ek8 hA162 19 rfl l19_158
       have l72_162 := ek8 hA162 72 rfl l72_158
       have l73_162 := ek8 hA162 73 rfl l73_158
       have l74_162 := ek8 hA162 74 rfl l74_158
       have l93_162 := ek8 hA162 93 rfl l93_158
       have l94_162 := ek8 hA162 94 rfl l94_158
       have l95_162 := ek8 hA162 95 rfl l95_158
       have l96_162 := ek8 hA162 96 rfl l96_158
       clear hA162 hsz158 hdf158 l2_158 l4_158 l10_158 l14_158 l19_158 l21_158 l22_158 l72_158 l73_158 l74_158 l93_158 l94_158 l95_158 l96_158 l107_158
       have hS163 : St w NoX [c_161, c_120, c100, c121, c76, c4] w161 := hS161.sel [0, 2, 3, 4, 5, 6] (by decide) rfl
       refine inb_n ?_
       refine inb_n ?_
       refine then_n (hK129 _ _ ?_)
       clear hK129
       refine region_in ?_
       refine W_v rfl rfl (V_add rfl l74_162 rfl (by omega) (by omega)) ?_
       refine W_v rfl rfl (V_mov rfl (et rfl)) ?_
       refine W_end (gen_Q fun A164 hA164 => ?_)
       have hsz164 := szq hA164
       have hdf164 := dfE hA164 hdf162
       have l2_164 := ek2 hA164 2 rfl l2_162
       have l4_164 := ek2 hA164 4 rfl l4_162
       have l10_164 := ek2 hA164 10 rfl l10_162
       have l14_164 := ek2 hA164 14 rfl l14_162
       have l19_164 := ek2 hA164 19 rfl l19_162
       have l72_164 := ek2 hA164 72 rfl l72_162
       have l73_164 := ek2 hA164 73 rfl l73_162
       have l74_164 := lookE hA164 74 (et rfl)
       have l93_164 := ek2 hA164 93 rfl l93_162
       have l94_164 := ek2 hA164 94 rfl l94_162
       have l95_164 := ek2 hA164 95 rfl l95_162
       have l96_164 := ek2 hA164 96 rfl l96_162
       clear hA164 hsz162 hdf162 l2_162 l4_162 l10_162 l14_162 l19_162 l72_162 l73_162 l74_162 l93_162 l94_162 l95_162 l96_162
       refine then_n ?_
       refine LW_step ?_
       have l74_165 : EV A164 (.tmp 74) = .int .i64 (2 : Int) := l74_164
       refine wp_seq_k fun K166 hK166 => ?_
       refine region_in ?_
       refine W_v rfl rfl (V_lss rfl l74_165 l73_164) ?_
       refine W_end (gen_Q fun A167 hA167 => ?_)
       have hsz167 := szq hA167
       have hdf167 := dfE hA167 hdf164
       have l2_167 := lookE hA167 2 (es rfl l2_164)
       have l4_167 := lookE hA167 4 (es rfl l4_164)
       have l10_167 := lookE hA167 10 (es rfl l10_164)
       have l14_167 := lookE hA167 14 (es rfl l14_164)
       have l19_167 := lookE hA167 19 (es rfl l19_164)
       have l72_167 := lookE hA167 72 (es rfl l72_164)
       have l73_167 := lookE hA167 73 (es rfl l73_164)
       have l74_167 := lookE hA167 74 (es rfl l74_165)
       have l75_167 := lookE hA167 75 (et rfl)
       have l93_167 := lookE hA167 93 (es rfl l93_164)
       have l94_167 := lookE hA167 94 (es rfl l94_164)
       have l95_167 := lookE hA167 95 (es rfl l95_164)
       have l96_167 := lookE hA167 96 (es rfl l96_164)
       clear hA167 hsz164 hdf164 l2_164 l4_164 l10_164 l14_164 l19_164 l72_164 l73_164 l74_165 l93_164 l94_164 l95_164 l96_164
       refine then_n (hK166 _ _ ?_)
       clear hK166
       refine wp_seq_k fun K168 hK168 => ?_
       refine cond_not l75_167 (by simp) ?_
       refine wp_exit ?_
       refine then_exit ?_
       refine then_exit ?_
       refine inb_hit ?_
       refine then_n (hK98 _ _ ?_)
       clear hK98
       refine wp_seq_k fun K169 hK169 => ?_
       refine region_in ?_
       refine W_r rfl rfl (VR_ldA rfl l19_167 (hS163.obj 3 rfl hc121) Try.underlying29 rfl (by kernel_rfl)) ?_
       refine W_stAS 5 hS163 rfl hc4 rfl rfl rfl (es rfl l10_167) (et rfl) (by simp only [List.all_toArray, List.all_cons, List.all_nil, rmO_one (hS163.chq 0 rfl hc_161), SlN_one (ow_at (hS163.chq 1 rfl hc_120))] <;> rfl) (by rfl) (by kernel_rfl) (fun w170 c170 hc170 hS170 => ?_)
       replace hS170 : St w NoX [c_161, c_120, c100, c121, c76, c170] w170 := hS170
       refine W_v rfl rfl (V_asg rfl rfl) ?_
       refine W_end (gen_Q fun A171 hA171 => ?_)
       have hsz171 := szq hA171
       have hdf171 := dfE hA171 hdf167
       have l10_171 := ek2 hA171 10 rfl l10_167
       have l11_171 := lookE hA171 11 (et rfl)
       clear hA171 hsz167 hdf167 l2_167 l4_167 l10_167 l14_167 l19_167 l72_167 l73_167 l74_167 l75_167 l93_167 l94_167 l95_167 l96_167
       have hS172 : St w NoX [c_161, c_120, c170] w170 := hS170.sel [0, 1, 5] (by decide) rfl
       refine then_n (hK169 _ _ ?_)
       clear hK169
       refine wp_ret ?_
       refine ret_in (results_2 Try.results59 (rv_cellA l10_171 (hS172.obj 2 rfl hc170) Try.underlying29 rfl (by kernel_rfl)) (rv_tmp l11_171)) hdf171 ?_
       have he : chE8 C N Z K Q X ns slot old now = 0 := (ch8_e3 (by omega) (by omega)).trans (by omega)
       have hb := ch_k he hne
       rw [he]
       exact ⟨_, _, rfl, (hS172.fin2 0 rfl (hc_161.trans (congrArg (rmO _) (by rw [hb.1, cg_neg (i := (plN C N Z K Q slot old)) (by omega)]; simp [hdF]))) 1 rfl (hc_120.trans (congrArg (io .i64 _) (by rw [hb.2, cgN_no (i := (plN C N Z K Q slot now)) (by omega), cgN_at (i := (plN C N Z K Q slot old)) (by omega)] <;> rfl))) (by decide))⟩
     ·refine W_off rfl (wanted_f rfl rfl (et rfl) (ez rfl) rfl) ?_
      refine W_off rfl (wanted_f rfl rfl (es rfl (et rfl)) (ez rfl) rfl) ?_
      refine W_off rfl (wanted_f rfl rfl (e2 rfl (et rfl)) (ez rfl) rfl) ?_
      refine W_off rfl (wanted_f rfl rfl (e3 rfl (et rfl)) (ez rfl) rfl) ?_
      refine W_v rfl rfl (V_pickF rfl (e4 rfl (et rfl)) rfl) ?_
      refine W_v rfl rfl (V_asg rfl (et rfl)) ?_
      refine W_end (gen_Q fun A173 hA173 => ?_)
      have hsz173 := szq hA173
      have hdf173 := dfE hA173 hdf113
      have l2_173 := ek9 hA173 2 rfl l2_113
      have l4_173 := ek9 hA173 4 rfl l4_113
      have l10_173 := ek9 hA173 10 rfl l10_113
      have l14_173 := ek9 hA173 14 rfl l14_113
      have l19_173 := ek9 hA173 19 rfl l19_113
      have l21_173 := ek9 hA173 21 rfl l21_113
      have l22_173 := ek9 hA173 22 rfl l22_113
      have l72_173 := ek9 hA173 72 rfl l72_113
      have l73_173 := ek9 hA173 73 rfl l73_113
      have l74_173 := ek9 hA173 74 rfl l74_113
      have l89_173 := lookE hA173 89 (et rfl)
      have l93_173 := lookE hA173 93 (e5 rfl (et rfl))
      have l94_173 := lookE hA173 94 (e4 rfl (et rfl))
      have l95_173 := lookE hA173 95 (e3 rfl (et rfl))
      have l96_173 := lookE hA173 96 (e2 rfl (et rfl))
      clear hA173 hsz113 hdf113 l2_113 l4_113 l10_113 l14_113 l19_113 l21_113 l22_113 l72_113 l73_113 l74_113
      refine then_n (hK115 _ _ ?_)
      clear hK115
      refine cond_f l89_173 ?_
      refine wp_seq_k fun K174 hK174 => ?_
      refine region_in ?_
      refine W_v rfl rfl (V_mov rfl l22_173) ?_
      refine W_v rfl rfl (V_eql rfl (et rfl) rfl) ?_
      refine W_v rfl rfl (V_asg rfl (et rfl)) ?_
      refine W_end (gen_Q fun A175 hA175 => ?_)
      have hsz175 := szq hA175
      have hdf175 := dfE hA175 hdf173
      have l2_175 := ek3 hA175 2 rfl l2_173
      have l4_175 := ek3 hA175 4 rfl l4_173
      have l10_175 := ek3 hA175 10 rfl l10_173
      have l14_175 := ek3 hA175 14 rfl l14_173
      have l19_175 := ek3 hA175 19 rfl l19_173
      have l21_175 := ek3 hA175 21 rfl l21_173
      have l22_175 := ek3 hA175 22 rfl l22_173
      have l72_175 := ek3 hA175 72 rfl l72_173
      have l73_175 := ek3 hA175 73 rfl l73_173
      have l74_175 := ek3 hA175 74 rfl l74_173
      have l93_175 := ek3 hA175 93 rfl l93_173
      have l94_175 := ek3 hA175 94 rfl l94_173
      have l95_175 := ek3 hA175 95 rfl l95_173
      have l96_175 := ek3 hA175 96 rfl l96_173
      have l107_175 := lookE hA175 107 (et rfl)
      clear hA175 hsz173 hdf173 l2_173 l4_173 l10_173 l14_173 l19_173 l21_173 l22_173 l72_173 l73_173 l74_173 l89_173 l93_173 l94_173 l95_173 l96_173
      refine then_n (hK174 _ _ ?_)
      clear hK174
      refine cond_not l107_175 (by first | (simp [c116]; done) | exact decide_eq_true (by omega) | exact decide_eq_false (by omega)) ?_
      refine region_in ?_
      refine W_r rfl rfl (VR_ldA rfl l19_175 (hS110.obj 2 rfl hc87) Try.underlying29 rfl (by kernel_rfl)) ?_
      refine W_v rfl rfl (V_mov rfl (es rfl l22_175)) ?_
      refine W_v rfl rfl (V_mov rfl (e2 rfl l2_175)) ?_
      refine W_v rfl rfl (V_fa (off' := 1) rfl (e3 rfl l21_175) Try.underlying117 rfl (by decide +kernel) rfl) ?_
      refine W_r rfl rfl (VR_ldC rfl (et rfl) (cell_box (v := .int .i64 (old)) (hS110.obj 0 rfl hc110) rfl) Try.underlying3 rfl) ?_
      refine W_v rfl rfl (V_mov rfl (e5 rfl l4_175)) ?_
      refine W_v rfl rfl (V_eql rfl (es rfl (et rfl)) (et rfl)) ?_
      have hS176 := hS110.sel [3, 0, 1, 2, 4, 5, 6] (by decide) (l' := [c_85, c110, c100, c87, cz_85, c76, c4]) rfl
      replace hS176 : St w NoX [c_85, c110, c100, c87, cz_85, c76, c4] w110 := hS176
      obtain ⟨Y177, hP177, hR177, hF177, hB177⟩ := St.call (pre := [c_85]) (fr := [c110, c100, c87, cz_85, c76, c4]) hS176
      rw [hc_85] at hP177
      refine W_call rfl rfl rfl Try.func89 (by kernel_rfl) rfl (args4 (e6 rfl (et rfl)) (e5 rfl (et rfl)) (e4 rfl (et rfl)) (et rfl)) (kchg_c (i := (plN C N Z K Q slot old)) (slot := slot) (add := decide (old = now))  hP177 (by omega) (by with_reducible assumption)) ?_
      rintro _ w178 ⟨rfl, hP178⟩
      refine ⟨_, rfl, ?_⟩
      obtain ⟨c_178, hc_178, hP178⟩ := gen1 hP178
      have hS178 := hB177 _ _ hP178
      replace hS178 : St w NoX [c_178, c110, c100, c87, cz_85, c76, c4] w178 := hS178
      refine W_end (gen_Q fun A179 hA179 => ?_)
      have hsz179 := szq hA179
      have hdf179 := dfE hA179 hdf175
      have l2_179 := ek8 hA179 2 rfl l2_175
      have l4_179 := ek8 hA179 4 rfl l4_175
      have l10_179 := ek8 hA179 10 rfl l10_175
      have l14_179 := ek8 hA179 14 rfl l14_175
      have l19_179 := ek8 hA179 19 rfl l19_175
      have l72_179 := ek8 hA179 72 rfl l72_175
      have l73_179 := ek8 hA179 73 rfl l73_175
      have l74_179 := ek8 hA179 74 rfl l74_175
      have l93_179 := ek8 hA179 93 rfl l93_175
      have l94_179 := ek8 hA179 94 rfl l94_175
      have l95_179 := ek8 hA179 95 rfl l95_175
      have l96_179 := ek8 hA179 96 rfl l96_175
      clear hA179 hsz175 hdf175 l2_175 l4_175 l10_175 l14_175 l19_175 l21_175 l22_175 l72_175 l73_175 l74_175 l93_175 l94_175 l95_175 l96_175 l107_175
      have hS180 : St w NoX [c_178, c100, c87, cz_85, c76, c4] w178 := hS178.sel [0, 2, 3, 4, 5, 6] (by decide) rfl
      refine inb_n ?_
      refine inb_n ?_
      refine then_n (hK106 _ _ ?_)
      clear hK106
      refine region_in ?_
      refine W_v rfl rfl (V_add rfl l74_179 rfl (by omega) (by omega)) ?_
      refine W_v rfl rfl (V_mov rfl (et rfl)) ?_
      refine W_end (gen_Q fun A181 hA181 => ?_)
      have hsz181 := szq hA181
      have hdf181 := dfE hA181 hdf179
      have l2_181 := ek2 hA181 2 rfl l2_179
      have l4_181 := ek2 hA181 4 rfl l4_179
      have l10_181 := ek2 hA181 10 rfl l10_179
      have l14_181 := ek2 hA181 14 rfl l14_179
      have l19_181 := ek2 hA181 19 rfl l19_179
      have l72_181 := ek2 hA181 72 rfl l72_179
      have l73_181 := ek2 hA181 73 rfl l73_179
      have l74_181 := lookE hA181 74 (et rfl)
      have l93_181 := ek2 hA181 93 rfl l93_179
      have l94_181 := ek2 hA181 94 rfl l94_179
      have l95_181 := ek2 hA181 95 rfl l95_179
      have l96_181 := ek2 hA181 96 rfl l96_179
      clear hA181 hsz179 hdf179 l2_179 l4_179 l10_179 l14_179 l19_179 l72_179 l73_179 l74_179 l93_179 l94_179 l95_179 l96_179
      refine then_n ?_
      refine LW_step ?_
      have l74_182 : EV A181 (.tmp 74) = .int .i64 (1 : Int) := l74_181
      refine wp_seq_k fun K183 hK183 => ?_
      refine region_in ?_
      refine W_v rfl rfl (V_lss rfl l74_182 l73_181) ?_
      refine W_end (gen_Q fun A184 hA184 => ?_)
      have hsz184 := szq hA184
      have hdf184 := dfE hA184 hdf181
      have l2_184 := lookE hA184 2 (es rfl l2_181)
      have l4_184 := lookE hA184 4 (es rfl l4_181)
      have l10_184 := lookE hA184 10 (es rfl l10_181)
      have l14_184 := lookE hA184 14 (es rfl l14_181)
      have l19_184 := lookE hA184 19 (es rfl l19_181)
      have l72_184 := lookE hA184 72 (es rfl l72_181)
      have l73_184 := lookE hA184 73 (es rfl l73_181)
      have l74_184 := lookE hA184 74 (es rfl l74_182)
      have l75_184 := lookE hA184 75 (et rfl)
      have l93_184 := lookE hA184 93 (es rfl l93_181)
      have l94_184 := lookE hA184 94 (es rfl l94_181)
      have l95_184 := lookE hA184 95 (es rfl l95_181)
      have l96_184 := lookE hA184 96 (es rfl l96_181)
      clear hA184 hsz181 hdf181 l2_181 l4_181 l10_181 l14_181 l19_181 l72_181 l73_181 l74_182 l93_181 l94_181 l95_181 l96_181
      refine then_n (hK183 _ _ ?_)
      clear hK183
      refine wp_seq_k fun K185 hK185 => ?_
      refine cond_sure l75_184 (by simp) ?_
      refine wp_skip ?_
      refine then_n (hK185 _ _ ?_)
      clear hK185
      refine wp_seq_k fun K186 hK186 => ?_
      refine wp_block ?_
      refine wp_seq_k fun K187 hK187 => ?_
      refine region_in ?_
      have k188 : 1 < [(slot, old), (slot, now)].length := by first | (simp; done) | decide +kernel
      refine W_v rfl rfl (V_ixS (off := O108 + 1 * 2) 2 (1) rfl l72_184 l74_184 hv108 (by omega) k188 Try.underlying118 (by kernel_rfl) rfl) ?_
      refine W_r rfl rfl (VR_ldR (ys := pkL (slot, now)) rfl (et rfl) (SlN.row pkL_len (ow_at (hS180.chq 1 rfl hc100)) hv108 (show [(slot, old), (slot, now)][1]? = some (slot, now) from rfl) rfl) Try.underlying117 rfl (by kernel_rfl)) ?_
      refine W_allocS (z := .agg #[.int .i64 0, .int .i64 0]) (zs := #[.int .i64 0, .int .i64 0]) hS180 rfl rfl rfl (by kernel_rfl) (by rfl) (fun g189 w189 c189 hc189 hS189 => ?_)
      replace hS189 : St w NoX [c189, c_178, c100, c87, cz_85, c76, c4] w189 := hS189
      refine W_stAS 0 hS189 rfl hc189 rfl rfl rfl (et rfl) (es rfl (et rfl)) (by first | (rw [List.all_toArray] <;> rfl) | (simp only [List.all_toArray, List.all_cons, List.all_nil] <;> rfl)) (by rfl) (by kernel_rfl) (fun w190 c190 hc190 hS190 => ?_)
      replace hS190 : St w NoX [c190, c_178, c100, c87, cz_85, c76, c4] w190 := hS190
      refine W_end (gen_Q fun A191 hA191 => ?_)
      have hsz191 := szq hA191
      have hdf191 := dfE hA191 hdf184
      have l2_191 := ek3 hA191 2 rfl l2_184
      have l4_191 := ek3 hA191 4 rfl l4_184
      have l10_191 := ek3 hA191 10 rfl l10_184
      have l14_191 := ek3 hA191 14 rfl l14_184
      have l19_191 := ek3 hA191 19 rfl l19_184
      have l21_191 := lookE hA191 21 (et rfl)
      have l72_191 := ek3 hA191 72 rfl l72_184
      have l73_191 := ek3 hA191 73 rfl l73_184
      have l74_191 := ek3 hA191 74 rfl l74_184
      have l93_191 := ek3 hA191 93 rfl l93_184
      have l94_191 := ek3 hA191 94 rfl l94_184
      have l95_191 := ek3 hA191 95 rfl l95_184
      have l96_191 := ek3 hA191 96 rfl l96_184
      clear hA191 hsz184 hdf184 l2_184 l4_184 l10_184 l14_184 l19_184 l72_184 l73_184 l74_184 l75_184 l93_184 l94_184 l95_184 l96_184
      refine then_n (hK187 _ _ ?_)
      clear hK187
      refine wp_seq_k fun K192 hK192 => ?_
      refine region_in ?_
      refine W_v rfl rfl (V_mov rfl l14_191) ?_
      refine W_r rfl rfl (VR_ldA rfl (es rfl l21_191) (hS190.obj 0 rfl hc190) Try.underlying117 rfl (by kernel_rfl)) ?_
      refine W_r rfl rfl (VR_lookW (q := (slot, now)) rfl (es rfl (et rfl)) (et rfl) (hS190.chq 5 rfl hc76) Try.underlying115 (by kernel_rfl) (by kernel_rfl)) ?_
      refine W_v rfl rfl (V_asg rfl (et rfl)) ?_
      refine W_end (gen_Q fun A193 hA193 => ?_)
      have hsz193 := szq hA193
      have hdf193 := dfE hA193 hdf191
      have l2_193 := ek4 hA193 2 rfl l2_191
      have l4_193 := ek4 hA193 4 rfl l4_191
      have l10_193 := ek4 hA193 10 rfl l10_191
      have l14_193 := ek4 hA193 14 rfl l14_191
      have l19_193 := ek4 hA193 19 rfl l19_191
      have l21_193 := ek4 hA193 21 rfl l21_191
      have l22_193 := lookE hA193 22 (et rfl)
      have l72_193 := ek4 hA193 72 rfl l72_191
      have l73_193 := ek4 hA193 73 rfl l73_191
      have l74_193 := ek4 hA193 74 rfl l74_191
      have l93_193 := ek4 hA193 93 rfl l93_191
      have l94_193 := ek4 hA193 94 rfl l94_191
      have l95_193 := ek4 hA193 95 rfl l95_191
      have l96_193 := ek4 hA193 96 rfl l96_191
      clear hA193 hsz191 hdf191 l2_191 l4_191 l10_191 l14_191 l19_191 l21_191 l72_191 l73_191 l74_191 l93_191 l94_191 l95_191 l96_191
      have e194 : (wget (wset (wset [] (slot, old) (plN C N Z K Q slot old)) (slot, now) (plN C N Z K Q slot now)) (slot, now)) = (plN C N Z K Q slot now) := wg_2 hne
      rw [e194] at l22_193
      refine then_n (hK192 _ _ ?_)
      clear hK192
      refine wp_block ?_
      refine wp_seq_k fun K195 hK195 => ?_
      refine region_in ?_
      refine W_v rfl rfl (V_mov rfl l22_193) ?_
      refine W_v rfl rfl (V_eql rfl (et rfl) rfl) ?_
      refine W_split rfl rfl (V_mov rfl (et rfl)) (fun c196 => ?_) (fun c196 => ?_)
      ·refine W_v rfl (wanted_t rfl rfl (et rfl) (ez rfl)) (V_fa (off' := 1) rfl (e3 rfl l21_193) Try.underlying117 rfl (by decide +kernel) rfl) ?_
       refine W_r rfl (wanted_t rfl rfl (es rfl (et rfl)) (ez rfl)) (VR_ldC rfl (et rfl) (cell_box (v := .int .i64 (now)) (hS190.obj 0 rfl hc190) rfl) Try.underlying3 rfl) ?_
       refine W_v rfl (wanted_t rfl rfl (e2 rfl (et rfl)) (ez rfl)) (V_mov rfl (e5 rfl l4_193)) ?_
       refine W_v rfl (wanted_t rfl rfl (e3 rfl (et rfl)) (ez rfl)) (V_eql rfl (es rfl (et rfl)) (et rfl)) ?_
       refine W_v rfl rfl (V_pickT rfl (e4 rfl (et rfl)) (et rfl)) ?_
       refine W_v rfl rfl (V_asg rfl (et rfl)) ?_
       refine W_end (gen_Q fun A197 hA197 => ?_)
       have hsz197 := szq hA197
       have hdf197 := dfE hA197 hdf193
       have l2_197 := ek9 hA197 2 rfl l2_193
       have l4_197 := ek9 hA197 4 rfl l4_193
       have l10_197 := ek9 hA197 10 rfl l10_193
       have l14_197 := ek9 hA197 14 rfl l14_193
       have l19_197 := ek9 hA197 19 rfl l19_193
       have l21_197 := ek9 hA197 21 rfl l21_193
       have l22_197 := ek9 hA197 22 rfl l22_193
       have l72_197 := ek9 hA197 72 rfl l72_193
       have l73_197 := ek9 hA197 73 rfl l73_193
       have l74_197 := ek9 hA197 74 rfl l74_193
       have l89_197 := lookE hA197 89 (et rfl)
       have l93_197 := lookE hA197 93 (e5 rfl (et rfl))
       have l94_197 := lookE hA197 94 (e4 rfl (et rfl))
       have l95_197 := lookE hA197 95 (e3 rfl (et rfl))
       have l96_197 := lookE hA197 96 (e2 rfl (et rfl))
       clear hA197 hsz193 hdf193 l2_193 l4_193 l10_193 l14_193 l19_193 l21_193 l22_193 l72_193 l73_193 l74_193 l93_193 l94_193 l95_193 l96_193
       refine then_n (hK195 _ _ ?_)
       clear hK195
       refine cond_sure l89_197 (by simp) ?_
       refine region_in ?_
       refine W_v rfl rfl (V_fa (off' := 1) rfl l19_197 Try.underlying29 rfl (by decide +kernel) rfl) ?_
       refine W_r rfl rfl (VR_ldP (ys := [z_85]) rfl (et rfl) (hS190.obj 3 rfl hc87) (ldP_at rfl) Try.underlying27 rfl (by kernel_rfl)) ?_
       refine W_v rfl rfl (V_mov rfl (e2 rfl l2_197)) ?_
       refine W_call rfl rfl rfl Try.func87 (by kernel_rfl) rfl (args2 (es rfl (et rfl)) (et rfl)) (kAdd_c (a := slot) (hS190.chC 4 rfl hcz_85).own ) ?_
       rintro _ w198 ⟨v_198, rfl, hP198⟩
       refine ⟨_, rfl, ?_⟩
       obtain ⟨c_198, hc_198, hP198⟩ := gen1 hP198
       have hS198 := hS190.join hP198
       replace hS198 : St w NoX [c_198, c190, c_178, c100, c87, cz_85, c76, c4] w198 := hS198
       refine W_v rfl rfl (V_mov rfl (et rfl)) ?_
       refine W_v rfl rfl (V_ext (v := .agg #[v_198]) rfl (et rfl) rfl) ?_
       refine W_v rfl rfl (V_ext (v := .bool ((adB ns slot))) rfl (es rfl (et rfl)) rfl) ?_
       refine W_v rfl rfl (V_ext (v := .int .i64 ((chE ns slot))) rfl (e2 rfl (et rfl)) rfl) ?_
       refine W_v rfl rfl (V_fa (off' := 1) rfl (e8 rfl l19_197) Try.underlying29 rfl (by decide +kernel) rfl) ?_
       refine W_stAM (ys := [v_198]) (zs' := #[v_85, v_198]) 4 hS198 rfl hc87 rfl rfl rfl (et rfl) (e3 rfl (et rfl)) (by intro u hu; simp only [List.mem_cons, List.not_mem_nil, or_false] at hu; rcases hu with rfl <;> first | exact SlN_one (ow_at (hS198.chq 0 rfl hc_198))) (by simp) (by kernel_rfl) rfl (fun w199 c199 hc199 hS199 => ?_)
       replace hS199 : St w NoX [c_198, c190, c_178, c100, c199, cz_85, c76, c4] w199 := hS199
       refine W_end (gen_Q fun A200 hA200 => ?_)
       have hsz200 := szq hA200
       have hdf200 := dfE hA200 hdf197
       have l2_200 := ek9 hA200 2 rfl l2_197
       have l4_200 := ek9 hA200 4 rfl l4_197
       have l10_200 := ek9 hA200 10 rfl l10_197
       have l14_200 := ek9 hA200 14 rfl l14_197
       have l19_200 := ek9 hA200 19 rfl l19_197
       have l72_200 := ek9 hA200 72 rfl l72_197
       have l73_200 := ek9 hA200 73 rfl l73_197
       have l74_200 := ek9 hA200 74 rfl l74_197
       have l93_200 := ek9 hA200 93 rfl l93_197
       have l94_200 := ek9 hA200 94 rfl l94_197
       have l95_200 := ek9 hA200 95 rfl l95_197
       have l96_200 := ek9 hA200 96 rfl l96_197
       clear hA200 hsz197 hdf197 l2_197 l4_197 l10_197 l14_197 l19_197 l21_197 l22_197 l72_197 l73_197 l74_197 l89_197 l93_197 l94_197 l95_197 l96_197
       have hS201 : St w NoX [c_198, c190, c_178, c100, c199, c76, c4] w199 := hS199.sel [0, 1, 2, 3, 4, 6, 7] (by decide) rfl
       refine inb_n ?_
       refine inb_n ?_
       refine then_n (hK186 _ _ ?_)
       clear hK186
       refine region_in ?_
       refine W_v rfl rfl (V_add rfl l74_200 rfl (by omega) (by omega)) ?_
       refine W_v rfl rfl (V_mov rfl (et rfl)) ?_
       refine W_end (gen_Q fun A202 hA202 => ?_)
       have hsz202 := szq hA202
       have hdf202 := dfE hA202 hdf200
       have l2_202 := ek2 hA202 2 rfl l2_200
       have l4_202 := ek2 hA202 4 rfl l4_200
       have l10_202 := ek2 hA202 10 rfl l10_200
       have l14_202 := ek2 hA202 14 rfl l14_200
       have l19_202 := ek2 hA202 19 rfl l19_200
       have l72_202 := ek2 hA202 72 rfl l72_200
       have l73_202 := ek2 hA202 73 rfl l73_200
       have l74_202 := lookE hA202 74 (et rfl)
       have l93_202 := ek2 hA202 93 rfl l93_200
       have l94_202 := ek2 hA202 94 rfl l94_200
       have l95_202 := ek2 hA202 95 rfl l95_200
       have l96_202 := ek2 hA202 96 rfl l96_200
       clear hA202 hsz200 hdf200 l2_200 l4_200 l10_200 l14_200 l19_200 l72_200 l73_200 l74_200 l93_200 l94_200 l95_200 l96_200
       refine then_n ?_
       refine LW_step ?_
       have l74_203 : EV A202 (.tmp 74) = .int .i64 (2 : Int) := l74_202
       refine wp_seq_k fun K204 hK204 => ?_
       refine region_in ?_
       refine W_v rfl rfl (V_lss rfl l74_203 l73_202) ?_
       refine W_end (gen_Q fun A205 hA205 => ?_)
       have hsz205 := szq hA205
       have hdf205 := dfE hA205 hdf202
       have l2_205 := lookE hA205 2 (es rfl l2_202)
       have l4_205 := lookE hA205 4 (es rfl l4_202)
       have l10_205 := lookE hA205 10 (es rfl l10_202)
       have l14_205 := lookE hA205 14 (es rfl l14_202)
       have l19_205 := lookE hA205 19 (es rfl l19_202)
       have l72_205 := lookE hA205 72 (es rfl l72_202)
       have l73_205 := lookE hA205 73 (es rfl l73_202)
       have l74_205 := lookE hA205 74 (es rfl l74_203)
       have l75_205 := lookE hA205 75 (et rfl)
       have l93_205 := lookE hA205 93 (es rfl l93_202)
       have l94_205 := lookE hA205 94 (es rfl l94_202)
       have l95_205 := lookE hA205 95 (es rfl l95_202)
       have l96_205 := lookE hA205 96 (es rfl l96_202)
       clear hA205 hsz202 hdf202 l2_202 l4_202 l10_202 l14_202 l19_202 l72_202 l73_202 l74_203 l93_202 l94_202 l95_202 l96_202
       refine then_n (hK204 _ _ ?_)
       clear hK204
       refine wp_seq_k fun K206 hK206 => ?_
       refine cond_not l75_205 (by simp) ?_
       refine wp_exit ?_
       refine then_exit ?_
       refine then_exit ?_
       refine inb_hit ?_
       refine then_n (hK98 _ _ ?_)
       clear hK98
       refine wp_seq_k fun K207 hK207 => ?_
       refine region_in ?_
       refine W_r rfl rfl (VR_ldA rfl l19_205 (hS201.obj 4 rfl hc199) Try.underlying29 rfl (by kernel_rfl)) ?_
       refine W_stAS 6 hS201 rfl hc4 rfl rfl rfl (es rfl l10_205) (et rfl) (by simp only [List.all_toArray, List.all_cons, List.all_nil, rmO_one (hS201.chq 2 rfl hc_178), SlN_one (ow_at (hS201.chq 0 rfl hc_198))] <;> rfl) (by rfl) (by kernel_rfl) (fun w208 c208 hc208 hS208 => ?_)
       replace hS208 : St w NoX [c_198, c190, c_178, c100, c199, c76, c208] w208 := hS208
       refine W_v rfl rfl (V_asg rfl rfl) ?_
       refine W_end (gen_Q fun A209 hA209 => ?_)
       have hsz209 := szq hA209
       have hdf209 := dfE hA209 hdf205
       have l10_209 := ek2 hA209 10 rfl l10_205
       have l11_209 := lookE hA209 11 (et rfl)
       clear hA209 hsz205 hdf205 l2_205 l4_205 l10_205 l14_205 l19_205 l72_205 l73_205 l74_205 l75_205 l93_205 l94_205 l95_205 l96_205
       have hS210 : St w NoX [c_198, c_178, c208] w208 := hS208.sel [0, 2, 6] (by decide) rfl
       refine then_n (hK207 _ _ ?_)
       clear hK207
       refine wp_ret ?_
       refine ret_in (results_2 Try.results59 (rv_cellA l10_209 (hS210.obj 2 rfl hc208) Try.underlying29 rfl (by kernel_rfl)) (rv_tmp l11_209)) hdf209 ?_
       have he : chE8 C N Z K Q X ns slot old now = 0 := (ch8_e3 (by omega) (by omega)).trans (by omega)
       have hb := ch_k he hne
       rw [he]
       exact ⟨_, _, rfl, (hS210.fin2 1 rfl (hc_178.trans (congrArg (rmO _) (by rw [hb.1, cg_neg (i := (plN C N Z K Q slot now)) (by omega)]; simp [hdF]))) 0 rfl (hc_198.trans (congrArg (io .i64 _) (by rw [hb.2, cgN_at (i := (plN C N Z K Q slot now)) (by omega), cgN_no (i := (plN C N Z K Q slot old)) (by omega)] <;> rfl))) (by decide))⟩
      ·refine W_off rfl (wanted_f rfl rfl (et rfl) (ez rfl) rfl) ?_
       refine W_off rfl (wanted_f rfl rfl (es rfl (et rfl)) (ez rfl) rfl) ?_
       refine W_off rfl (wanted_f rfl rfl (e2 rfl (et rfl)) (ez rfl) rfl) ?_
       refine W_off rfl (wanted_f rfl rfl (e3 rfl (et rfl)) (ez rfl) rfl) ?_
       refine W_v rfl rfl (V_pickF rfl (e4 rfl (et rfl)) rfl) ?_
       refine W_v rfl rfl (V_asg rfl (et rfl)) ?_
       refine W_end (gen_Q fun A211 hA211 => ?_)
       have hsz211 := szq hA211
       have hdf211 := dfE hA211 hdf193
       have l2_211 := ek9 hA211 2 rfl l2_193
       have l4_211 := ek9 hA211 4 rfl l4_193
       have l10_211 := ek9 hA211 10 rfl l10_193
       have l14_211 := ek9 hA211 14 rfl l14_193
       have l19_211 := ek9 hA211 19 rfl l19_193
       have l21_211 := ek9 hA211 21 rfl l21_193
       have l22_211 := ek9 hA211 22 rfl l22_193
       have l72_211 := ek9 hA211 72 rfl l72_193
       have l73_211 := ek9 hA211 73 rfl l73_193
       have l74_211 := ek9 hA211 74 rfl l74_193
       have l89_211 := lookE hA211 89 (et rfl)
       have l93_211 := lookE hA211 93 (e5 rfl (et rfl))
       have l94_211 := lookE hA211 94 (e4 rfl (et rfl))
       have l95_211 := lookE hA211 95 (e3 rfl (et rfl))
       have l96_211 := lookE hA211 96 (e2 rfl (et rfl))
       clear hA211 hsz193 hdf193 l2_193 l4_193 l10_193 l14_193 l19_193 l21_193 l22_193 l72_193 l73_193 l74_193 l93_193 l94_193 l95_193 l96_193
       refine then_n (hK195 _ _ ?_)
       clear hK195
       refine cond_f l89_211 ?_
       refine wp_seq_k fun K212 hK212 => ?_
       refine region_in ?_
       refine W_v rfl rfl (V_mov rfl l22_211) ?_
       refine W_v rfl rfl (V_eql rfl (et rfl) rfl) ?_
       refine W_v rfl rfl (V_asg rfl (et rfl)) ?_
       refine W_end (gen_Q fun A213 hA213 => ?_)
       have hsz213 := szq hA213
       have hdf213 := dfE hA213 hdf211
       have l2_213 := ek3 hA213 2 rfl l2_211
       have l4_213 := ek3 hA213 4 rfl l4_211
       have l10_213 := ek3 hA213 10 rfl l10_211
       have l14_213 := ek3 hA213 14 rfl l14_211
       have l19_213 := ek3 hA213 19 rfl l19_211
       have l21_213 := ek3 hA213 21 rfl l21_211
       have l22_213 := ek3 hA213 22 rfl l22_211
       have l72_213 := ek3 hA213 72 rfl l72_211
       have l73_213 := ek3 hA213 73 rfl l73_211
       have l74_213 := ek3 hA213 74 rfl l74_211
       have l93_213 := ek3 hA213 93 rfl l93_211
       have l94_213 := ek3 hA213 94 rfl l94_211
       have l95_213 := ek3 hA213 95 rfl l95_211
       have l96_213 := ek3 hA213 96 rfl l96_211
       have l107_213 := lookE hA213 107 (et rfl)
       clear hA213 hsz211 hdf211 l2_211 l4_211 l10_211 l14_211 l19_211 l21_211 l22_211 l72_211 l73_211 l74_211 l89_211 l93_211 l94_211 l95_211 l96_211
       refine then_n (hK212 _ _ ?_)
       clear hK212
       refine cond_not l107_213 (by first | (simp [c196]; done) | exact decide_eq_true (by omega) | exact decide_eq_false (by omega)) ?_
       refine region_in ?_
       refine W_r rfl rfl (VR_ldA rfl l19_213 (hS190.obj 3 rfl hc87) Try.underlying29 rfl (by kernel_rfl)) ?_
       refine W_v rfl rfl (V_mov rfl (es rfl l22_213)) ?_
       refine W_v rfl rfl (V_mov rfl (e2 rfl l2_213)) ?_
       refine W_v rfl rfl (V_fa (off' := 1) rfl (e3 rfl l21_213) Try.underlying117 rfl (by decide +kernel) rfl) ?_
       refine W_r rfl rfl (VR_ldC rfl (et rfl) (cell_box (v := .int .i64 (now)) (hS190.obj 0 rfl hc190) rfl) Try.underlying3 rfl) ?_
       refine W_v rfl rfl (V_mov rfl (e5 rfl l4_213)) ?_
       refine W_v rfl rfl (V_eql rfl (es rfl (et rfl)) (et rfl)) ?_
       have hS214 := hS190.sel [1, 0, 2, 3, 4, 5, 6] (by decide) (l' := [c_178, c190, c100, c87, cz_85, c76, c4]) rfl
       replace hS214 : St w NoX [c_178, c190, c100, c87, cz_85, c76, c4] w190 := hS214
       obtain ⟨Y215, hP215, hR215, hF215, hB215⟩ := St.call (pre := [c_178]) (fr := [c190, c100, c87, cz_85, c76, c4]) hS214
       rw [hc_178] at hP215
       refine W_call rfl rfl rfl Try.func89 (by kernel_rfl) rfl (args4 (e6 rfl (et rfl)) (e5 rfl (et rfl)) (e4 rfl (et rfl)) (et rfl)) (kchg_c (i := (plN C N Z K Q slot now)) (slot := slot) (add := decide (now = now))  hP215 (by omega) (by with_reducible assumption)) ?_
       rintro _ w216 ⟨rfl, hP216⟩
       refine ⟨_, rfl, ?_⟩
       obtain ⟨c_216, hc_216, hP216⟩ := gen1 hP216
       have hS216 := hB215 _ _ hP216
       replace hS216 : St w NoX [c_216, c190, c100, c87, cz_85, c76, c4] w216 := hS216
       refine W_end (gen_Q fun A217 hA217 => ?_)
       have hsz217 := szq hA217
       have hdf217 := dfE hA217 hdf213
       have l2_217 := ek8 hA217 2 rfl l2_213
       have l4_217 := ek8 hA217 4 rfl l4_213
       have l10_217 := ek8 hA217 10 rfl l10_213
       have l14_217 := ek8 hA217 14 rfl l14_213
       have l19_217 := ek8 hA217 19 rfl l19_213
       have l72_217 := ek8 hA217 72 rfl l72_213
       have l73_217 := ek8 hA217 73 rfl l73_213
       have l74_217 := ek8 hA217 74 rfl l74_213
       have l93_217 := ek8 hA217 93 rfl l93_213
       have l94_217 := ek8 hA217 94 rfl l94_213
       have l95_217 := ek8 hA217 95 rfl l95_213
       have l96_217 := ek8 hA217 96 rfl l96_213
       clear hA217 hsz213 hdf213 l2_213 l4_213 l10_213 l14_213 l19_213 l21_213 l22_213 l72_213 l73_213 l74_213 l93_213 l94_213 l95_213 l96_213 l107_213
       have hS218 : St w NoX [c_216, c100, c87, cz_85, c76, c4] w216 := hS216.sel [0, 2, 3, 4, 5, 6] (by decide) rfl
       refine inb_n ?_
       refine inb_n ?_
       refine then_n (hK186 _ _ ?_)
       clear hK186
       refine region_in ?_
       refine W_v rfl rfl (V_add rfl l74_217 rfl (by omega) (by omega)) ?_
       refine W_v rfl rfl (V_mov rfl (et rfl)) ?_
       refine W_end (gen_Q fun A219 hA219 => ?_)
       have hsz219 := szq hA219
       have hdf219 := dfE hA219 hdf217
       have l2_219 := ek2 hA219 2 rfl l2_217
       have l4_219 := ek2 hA219 4 rfl l4_217
       have l10_219 := ek2 hA219 10 rfl l10_217
       have l14_219 := ek2 hA219 14 rfl l14_217
       have l19_219 := ek2 hA219 19 rfl l19_217
       have l72_219 := ek2 hA219 72 rfl l72_217
       have l73_219 := ek2 hA219 73 rfl l73_217
       have l74_219 := lookE hA219 74 (et rfl)
       have l93_219 := ek2 hA219 93 rfl l93_217
       have l94_219 := ek2 hA219 94 rfl l94_217
       have l95_219 := ek2 hA219 95 rfl l95_217
       have l96_219 := ek2 hA219 96 rfl l96_217
       clear hA219 hsz217 hdf217 l2_217 l4_217 l10_217 l14_217 l19_217 l72_217 l73_217 l74_217 l93_217 l94_217 l95_217 l96_217
       refine then_n ?_
       refine LW_step ?_
       have l74_220 : EV A219 (.tmp 74) = .int .i64 (2 : Int) := l74_219
       refine wp_seq_k fun K221 hK221 => ?_
       refine region_in ?_
       refine W_v rfl rfl (V_lss rfl l74_220 l73_219) ?_
       refine W_end (gen_Q fun A222 hA222 => ?_)
       have hsz222 := szq hA222
       have hdf222 := dfE hA222 hdf219
       have l2_222 := lookE hA222 2 (es rfl l2_219)
       have l4_222 := lookE hA222 4 (es rfl l4_219)
       have l10_222 := lookE hA222 10 (es rfl l10_219)
       have l14_222 := lookE hA222 14 (es rfl l14_219)
       have l19_222 := lookE hA222 19 (es rfl l19_219)
       have l72_222 := lookE hA222 72 (es rfl l72_219)
       have l73_222 := lookE hA222 73 (es rfl l73_219)
       have l74_222 := lookE hA222 74 (es rfl l74_220)
       have l75_222 := lookE hA222 75 (et rfl)
       have l93_222 := lookE hA222 93 (es rfl l93_219)
       have l94_222 := lookE hA222 94 (es rfl l94_219)
       have l95_222 := lookE hA222 95 (es rfl l95_219)
       have l96_222 := lookE hA222 96 (es rfl l96_219)
       clear hA222 hsz219 hdf219 l2_219 l4_219 l10_219 l14_219 l19_219 l72_219 l73_219 l74_220 l93_219 l94_219 l95_219 l96_219
       refine then_n (hK221 _ _ ?_)
       clear hK221
       refine wp_seq_k fun K223 hK223 => ?_
       refine cond_not l75_222 (by simp) ?_
       refine wp_exit ?_
       refine then_exit ?_
       refine then_exit ?_
       refine inb_hit ?_
       refine then_n (hK98 _ _ ?_)
       clear hK98
       refine wp_seq_k fun K224 hK224 => ?_
       refine region_in ?_
       refine W_r rfl rfl (VR_ldA rfl l19_222 (hS218.obj 2 rfl hc87) Try.underlying29 rfl (by kernel_rfl)) ?_
       refine W_stAS 5 hS218 rfl hc4 rfl rfl rfl (es rfl l10_222) (et rfl) (by simp only [List.all_toArray, List.all_cons, List.all_nil, rmO_one (hS218.chq 0 rfl hc_216), SlN_one (ow_at (hS218.chq 3 rfl hcz_85))] <;> rfl) (by rfl) (by kernel_rfl) (fun w225 c225 hc225 hS225 => ?_)
       replace hS225 : St w NoX [c_216, c100, c87, cz_85, c76, c225] w225 := hS225
       refine W_v rfl rfl (V_asg rfl rfl) ?_
       refine W_end (gen_Q fun A226 hA226 => ?_)
       have hsz226 := szq hA226
       have hdf226 := dfE hA226 hdf222
       have l10_226 := ek2 hA226 10 rfl l10_222
       have l11_226 := lookE hA226 11 (et rfl)
       clear hA226 hsz222 hdf222 l2_222 l4_222 l10_222 l14_222 l19_222 l72_222 l73_222 l74_222 l75_222 l93_222 l94_222 l95_222 l96_222
       have hS227 : St w NoX [c_216, cz_85, c225] w225 := hS225.sel [0, 3, 5] (by decide) rfl
       refine then_n (hK224 _ _ ?_)
       clear hK224
       refine wp_ret ?_
       refine ret_in (results_2 Try.results59 (rv_cellA l10_226 (hS227.obj 2 rfl hc225) Try.underlying29 rfl (by kernel_rfl)) (rv_tmp l11_226)) hdf226 ?_
       have he : chE8 C N Z K Q X ns slot old now = 0 := (ch8_e3 (by omega) (by omega)).trans (by omega)
       have hb := ch_k he hne
       rw [he]
       exact ⟨_, _, rfl, (hS227.fin2 0 rfl (hc_216.trans (congrArg (rmO _) (by rw [hb.1]; simp [hdF]))) 1 rfl (hcz_85.trans (congrArg (io .i64 _) (by rw [hb.2, cgN_no (i := (plN C N Z K Q slot now)) (by omega), cgN_no (i := (plN C N Z K Q slot old)) (by omega)] <;> rfl))) (by decide))⟩

set_option maxHeartbeats 4000000 in
theorem kRec_c {C : Int} {N : Int} {Z : Int} {K : Int} {Q : Int} {cv : Value} {X : List (List Int)} {nv : Value} {ns : List Int} {slot : Int} {now : Int} {w : World} (h_cv : Ro w NoX (rmR cv X)) (h_nv : Ro w NoX (il .i64 nv ns))  :
  Calls Try.prog 22 #[.agg #[.int .i64 C, .int .i64 N, .int .i64 Z, .int .i64 K, .int .i64 Q], .agg #[cv, nv], .int .i64 slot, .int .i64 now] w fun e w' => ∃ v z, e = .returned (.tuple #[.agg #[v, z], .int .i64 (chE8 C N Z K Q X ns slot 0 now)]) ∧ St w NoX [rmO v (chC C N Z K Q X ns slot 0 now), io .i64 (z) (chN C N Z K Q X ns slot 0 now)] w' := by
 refine calls_in 17 Try.func22 rfl rfl (by simp) (fun A0 hsz0 hdf0 hargs => ?_)
 have l0_0 := hargs 0 (.agg #[.int .i64 C, .int .i64 N, .int .i64 Z, .int .i64 K, .int .i64 Q]) rfl
 have l1_0 := hargs 1 (.agg #[cv, nv]) rfl
 have l2_0 := hargs 2 (.int .i64 slot) rfl
 have l3_0 := hargs 3 (.int .i64 now) rfl
 clear hargs; replace hsz0 : SzN A0 17 := ⟨hsz0⟩
 have hS := St.nil w
 have bh_nv := SlN.le (sl_SlN h_nv.at)
 refine wp_seq_k fun K1 hK1 => ?_
 refine region_in ?_
 refine W_boxS (zs := #[.int .i64 (C), .int .i64 (N), .int .i64 (Z), .int .i64 (K), .int .i64 (Q)]) hS rfl rfl rfl l0_0 (by rfl) (fun g2 w2 c2 hc2 hS2 => ?_)
 replace hS2 : St w NoX [c2] w2 := hS2
 refine W_boxS (zs := #[cv, nv]) hS2 rfl rfl rfl (es rfl l1_0) (by rfl) (fun g3 w3 c3 hc3 hS3 => ?_)
 replace hS3 : St w NoX [c3, c2] w3 := hS3
 refine W_allocS (z := .agg #[.slice none 0 0, .slice none 0 0]) (zs := #[.slice none 0 0, .slice none 0 0]) hS3 rfl rfl rfl (by kernel_rfl) (by rfl) (fun g4 w4 c4 hc4 hS4 => ?_)
 replace hS4 : St w NoX [c4, c3, c2] w4 := hS4
 refine W_v rfl rfl (V_asg rfl rfl) ?_
 refine W_end (gen_Q fun A5 hA5 => ?_)
 have hsz5 := szq hA5
 have hdf5 := dfE hA5 hdf0
 have l2_5 := ek4 hA5 2 rfl l2_0
 have l3_5 := ek4 hA5 3 rfl l3_0
 have l4_5 := lookE hA5 4 (e3 rfl (et rfl))
 have l5_5 := lookE hA5 5 (e2 rfl (et rfl))
 have l8_5 := lookE hA5 8 (es rfl (et rfl))
 clear hA5 hsz0 hdf0 l0_0 l1_0 l2_0 l3_0
 refine then_n (hK1 _ _ ?_)
 clear hK1
 refine wp_seq_k fun K6 hK6 => ?_
 refine region_in ?_
 refine W_r rfl rfl (VR_ldA rfl l4_5 (hS4.obj 2 rfl hc2) Try.underlying23 rfl (by kernel_rfl)) ?_
 refine W_r rfl rfl (VR_ldA rfl (es rfl l5_5) (hS4.obj 1 rfl hc3) Try.underlying29 rfl (by kernel_rfl)) ?_
 refine W_v rfl rfl (V_mov rfl (e2 rfl l2_5)) ?_
 refine W_v rfl rfl (V_mov rfl (e3 rfl l3_5)) ?_
 refine W_call rfl rfl rfl Try.func59 (by kernel_rfl) rfl (args5 (e3 rfl (et rfl)) (e2 rfl (et rfl)) (es rfl (et rfl)) rfl (et rfl)) (kchd_c (C := C) (N := N) (Z := Z) (K := K) (Q := Q) (slot := slot) (old := 0) (now := now) (hS4.roC h_cv) (hS4.roC h_nv) ) ?_
 rintro _ w7 ⟨v_7, z_7, rfl, hP7⟩
 refine ⟨_, rfl, ?_⟩
 obtain ⟨c_7, cz_7, hc_7, hcz_7, hP7⟩ := gen2 hP7
 have hS7 := hS4.join hP7
 replace hS7 : St w NoX [c_7, cz_7, c4, c3, c2] w7 := hS7
 refine W_v rfl rfl (V_ext (v := .agg #[v_7, z_7]) rfl (et rfl) rfl) ?_
 refine W_v rfl rfl (V_ext (v := .int .i64 ((chE8 C N Z K Q X ns slot 0 now))) rfl (es rfl (et rfl)) rfl) ?_
 refine W_stAS 2 hS7 rfl hc4 rfl rfl rfl (e7 rfl l8_5) (es rfl (et rfl)) (by simp only [List.all_toArray, List.all_cons, List.all_nil, rmO_one (hS7.chq 0 rfl hc_7), SlN_one (ow_at (hS7.chq 1 rfl hcz_7))] <;> rfl) (by rfl) (by kernel_rfl) (fun w8 c8 hc8 hS8 => ?_)
 replace hS8 : St w NoX [c_7, cz_7, c8, c3, c2] w8 := hS8
 refine W_v rfl rfl (V_asg rfl (et rfl)) ?_
 refine W_end (gen_Q fun A9 hA9 => ?_)
 have hsz9 := szq hA9
 have hdf9 := dfE hA9 hdf5
 have l8_9 := ek8 hA9 8 rfl l8_5
 have l9_9 := lookE hA9 9 (et rfl)
 clear hA9 hsz5 hdf5 l2_5 l3_5 l4_5 l5_5 l8_5
 have hS10 : St w NoX [c_7, cz_7, c8] w8 := hS8.sel [0, 1, 2] (by decide) rfl
 refine then_n (hK6 _ _ ?_)
 clear hK6
 refine wp_ret ?_
 refine ret_in (results_2 Try.results22 (rv_cellA l8_9 (hS10.obj 2 rfl hc8) Try.underlying29 rfl (by kernel_rfl)) (rv_tmp l9_9)) hdf9 ?_
 exact ⟨_, _, rfl, (hS10.fin2 0 rfl (hc_7) 1 rfl (hcz_7) (by decide))⟩

set_option maxHeartbeats 4000000 in
theorem kSto_c {C : Int} {N : Int} {Z : Int} {K : Int} {Q : Int} {cv : Value} {X : List (List Int)} {nv : Value} {ns : List Int} {slot : Int} {old : Int} {now : Int} {w : World} (h_cv : Ro w NoX (rmR cv X)) (h_nv : Ro w NoX (il .i64 nv ns))  :
  Calls Try.prog 29 #[.agg #[.int .i64 C, .int .i64 N, .int .i64 Z, .int .i64 K, .int .i64 Q], .agg #[cv, nv], .int .i64 slot, .int .i64 old, .int .i64 now] w fun e w' => ∃ v z, e = .returned (.tuple #[.agg #[v, z], .int .i64 (chE8 C N Z K Q X ns slot old now)]) ∧ St w NoX [rmO v (chC C N Z K Q X ns slot old now), io .i64 (z) (chN C N Z K Q X ns slot old now)] w' := by
 refine calls_in 20 Try.func29 rfl rfl (by simp) (fun A0 hsz0 hdf0 hargs => ?_)
 have l0_0 := hargs 0 (.agg #[.int .i64 C, .int .i64 N, .int .i64 Z, .int .i64 K, .int .i64 Q]) rfl
 have l1_0 := hargs 1 (.agg #[cv, nv]) rfl
 have l2_0 := hargs 2 (.int .i64 slot) rfl
 have l3_0 := hargs 3 (.int .i64 old) rfl
 have l4_0 := hargs 4 (.int .i64 now) rfl
 clear hargs; replace hsz0 : SzN A0 20 := ⟨hsz0⟩
 have hS := St.nil w
 have bh_nv := SlN.le (sl_SlN h_nv.at)
 refine wp_seq_k fun K1 hK1 => ?_
 refine region_in ?_
 refine W_boxS (zs := #[.int .i64 (C), .int .i64 (N), .int .i64 (Z), .int .i64 (K), .int .i64 (Q)]) hS rfl rfl rfl l0_0 (by rfl) (fun g2 w2 c2 hc2 hS2 => ?_)
 replace hS2 : St w NoX [c2] w2 := hS2
 refine W_boxS (zs := #[cv, nv]) hS2 rfl rfl rfl (es rfl l1_0) (by rfl) (fun g3 w3 c3 hc3 hS3 => ?_)
 replace hS3 : St w NoX [c3, c2] w3 := hS3
 refine W_allocS (z := .agg #[.slice none 0 0, .slice none 0 0]) (zs := #[.slice none 0 0, .slice none 0 0]) hS3 rfl rfl rfl (by kernel_rfl) (by rfl) (fun g4 w4 c4 hc4 hS4 => ?_)
 replace hS4 : St w NoX [c4, c3, c2] w4 := hS4
 refine W_v rfl rfl (V_asg rfl rfl) ?_
 refine W_end (gen_Q fun A5 hA5 => ?_)
 have hsz5 := szq hA5
 have hdf5 := dfE hA5 hdf0
 have l2_5 := ek4 hA5 2 rfl l2_0
 have l3_5 := ek4 hA5 3 rfl l3_0
 have l4_5 := ek4 hA5 4 rfl l4_0
 have l5_5 := lookE hA5 5 (e3 rfl (et rfl))
 have l6_5 := lookE hA5 6 (e2 rfl (et rfl))
 have l10_5 := lookE hA5 10 (es rfl (et rfl))
 clear hA5 hsz0 hdf0 l0_0 l1_0 l2_0 l3_0 l4_0
 refine then_n (hK1 _ _ ?_)
 clear hK1
 refine wp_seq_k fun K6 hK6 => ?_
 refine region_in ?_
 refine W_r rfl rfl (VR_ldA rfl l5_5 (hS4.obj 2 rfl hc2) Try.underlying23 rfl (by kernel_rfl)) ?_
 refine W_r rfl rfl (VR_ldA rfl (es rfl l6_5) (hS4.obj 1 rfl hc3) Try.underlying29 rfl (by kernel_rfl)) ?_
 refine W_v rfl rfl (V_mov rfl (e2 rfl l2_5)) ?_
 refine W_v rfl rfl (V_mov rfl (e3 rfl l3_5)) ?_
 refine W_v rfl rfl (V_mov rfl (e4 rfl l4_5)) ?_
 refine W_call rfl rfl rfl Try.func59 (by kernel_rfl) rfl (args5 (e4 rfl (et rfl)) (e3 rfl (et rfl)) (e2 rfl (et rfl)) (es rfl (et rfl)) (et rfl)) (kchd_c (C := C) (N := N) (Z := Z) (K := K) (Q := Q) (slot := slot) (old := old) (now := now) (hS4.roC h_cv) (hS4.roC h_nv) ) ?_
 rintro _ w7 ⟨v_7, z_7, rfl, hP7⟩
 refine ⟨_, rfl, ?_⟩
 obtain ⟨c_7, cz_7, hc_7, hcz_7, hP7⟩ := gen2 hP7
 have hS7 := hS4.join hP7
 replace hS7 : St w NoX [c_7, cz_7, c4, c3, c2] w7 := hS7
 refine W_v rfl rfl (V_ext (v := .agg #[v_7, z_7]) rfl (et rfl) rfl) ?_
 refine W_v rfl rfl (V_ext (v := .int .i64 ((chE8 C N Z K Q X ns slot old now))) rfl (es rfl (et rfl)) rfl) ?_
 refine W_stAS 2 hS7 rfl hc4 rfl rfl rfl (e8 rfl l10_5) (es rfl (et rfl)) (by simp only [List.all_toArray, List.all_cons, List.all_nil, rmO_one (hS7.chq 0 rfl hc_7), SlN_one (ow_at (hS7.chq 1 rfl hcz_7))] <;> rfl) (by rfl) (by kernel_rfl) (fun w8 c8 hc8 hS8 => ?_)
 replace hS8 : St w NoX [c_7, cz_7, c8, c3, c2] w8 := hS8
 refine W_v rfl rfl (V_asg rfl (et rfl)) ?_
 refine W_end (gen_Q fun A9 hA9 => ?_)
 have hsz9 := szq hA9
 have hdf9 := dfE hA9 hdf5
 have l10_9 := ek9 hA9 10 rfl l10_5
 have l11_9 := lookE hA9 11 (et rfl)
 clear hA9 hsz5 hdf5 l2_5 l3_5 l4_5 l5_5 l6_5 l10_5
 have hS10 : St w NoX [c_7, cz_7, c8] w8 := hS8.sel [0, 1, 2] (by decide) rfl
 refine then_n (hK6 _ _ ?_)
 clear hK6
 refine wp_ret ?_
 refine ret_in (results_2 Try.results29 (rv_cellA l10_9 (hS10.obj 2 rfl hc8) Try.underlying29 rfl (by kernel_rfl)) (rv_tmp l11_9)) hdf9 ?_
 exact ⟨_, _, rfl, (hS10.fin2 0 rfl (hc_7) 1 rfl (hcz_7) (by decide))⟩

end Go.Proofs.Yteppjefmlibmoaa