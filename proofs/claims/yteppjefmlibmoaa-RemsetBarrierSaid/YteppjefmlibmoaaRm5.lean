import Derived.Test.YteppjefmlibmoaaProg
import Derived.Test.YteppjefmlibmoaaRm4
import Derived.Test.YteppjefmlibmoaaPl8e
namespace Go.Proofs.Yteppjefmlibmoaa
open Go.RowKit Go.Own Go.Own.R Go.Own.S Go.Own.E


set_option maxHeartbeats 4000000 in
theorem qall8_c {cv : Value} {U : List SL} {nv : Value} {ns : List Int} {w : World} (h_cv : Ro w NoX (rl 1 fstC cv U)) (n_cv : Ro w NoX (nsi U)) (h_nv : Ro w NoX (il .i64 nv ns)) (hul : U.length ≤ 1000000) :
  Calls Try.prog 57 #[.agg #[cv, nv]] w fun e w' => ∃ v, e = .returned (v) ∧ St w NoX [ro 1 fstC v (U ++ [(nv, ns)])] w' := by
 refine calls_in 11 Try.func57 rfl rfl (by simp) (fun A0 Y0 hdf0 hargs => ?_)
 have l0_0 := hargs 0 (.agg #[cv, nv]) rfl
 clear hargs; replace Y0 : SzN A0 11 := ⟨Y0⟩
 have hS := St.nil w
 have bh_cv := SlN.le (sl_SlN h_cv.at)
 have bh_nv := SlN.le (sl_SlN h_nv.at)
 refine wp_seq_k fun K1 H1 => ?_
 refine region_in ?_
 refine W_boxS (zs := #[cv, nv]) hS rfl rfl rfl l0_0 (by rfl) (fun g2 w2 c2 hc2 S2 => ?_)
 replace S2 : St w NoX [c2] w2 := S2
 refine W_v rfl rfl (V_asg rfl rfl) ?_
 refine W_end (gen_Q fun A3 E3 => ?_)
 have Y3 := szq E3
 have F3 := fsE E3 (cq1 (ck (FS.n hdf0) rfl rfl) rfl)
 clear E3 Y0 hdf0 l0_0
 refine tk H1 ?_
 refine wp_seq_k fun K4 H4 => ?_
 refine region_monoS 7 8 [some (SPv [] (fun _ => fun u l' => ∃ g_, u = .slice (some ⟨g_, 0, none⟩) 0 0 ∧ ∃ c_, c_ = ro 1 fstC (.slice (some ⟨g_, 0, none⟩) 0 0) [] ∧ l' = [c_]) 0), none, none, some (SPv [] (fun _ => fun u l' => ∃ v_, u = v_ ∧ ∃ c_, c_ = ro 1 fstC v_ U ∧ l' = [c_]) 3), none, none, some (SPv [] (fun _ => fun u l' => ∃ g_, u = .slice (some ⟨g_, 0, none⟩) 1 1 ∧ ∃ c_, c_ = ro 1 fstC (.slice (some ⟨g_, 0, none⟩) 1 1) [((nv, ns))] ∧ l' = [c_]) 6)] (by kernel_rfl) (by kernel_rfl) ?_
 refine D_lay (ts := []) (vs := []) (C0 := fun _ => fun u l' => ∃ g_, u = .slice (some ⟨g_, 0, none⟩) 0 0 ∧ ∃ c_, c_ = ro 1 fstC (.slice (some ⟨g_, 0, none⟩) 0 0) [] ∧ l' = [c_]) (C := fun u l' => ∃ g_, u = .slice (some ⟨g_, 0, none⟩) 0 0 ∧ ∃ c_, c_ = ro 1 fstC (.slice (some ⟨g_, 0, none⟩) 0 0) [] ∧ l' = [c_]) rfl rfl rfl rfl rfl rfl (fun sx hx hF => lay_lit (vs := []) 1 rfl (parts0) rfl Try.underlying24 (by kernel_rfl) (by decide) (by intro v hv; cases hv) (by rfl)) (fun u5 l5 hu5 => ?_)
 obtain ⟨g5, rfl, c5, hc5, hl5⟩ := hu5
 refine D_v rfl rfl (V_fa (off' := 0) rfl (es rfl (fg0 F3)) Try.underlying29 rfl (by decide +kernel) rfl) rfl rfl ?_
 refine D_r rfl rfl (by kernel_rfl) (fun sx hx hF => (VR_ldC rfl (et rfl) (cell_box (v := cv) ((S2.grow hx).obj 0 rfl hc2) rfl) Try.underlying24 rfl)) rfl rfl ?_
 refine D_lay (ts := []) (vs := []) (C0 := fun _ => fun u l' => ∃ v_, u = v_ ∧ ∃ c_, c_ = ro 1 fstC v_ U ∧ l' = [c_]) (C := fun u l' => ∃ v_, u = v_ ∧ ∃ c_, c_ = ro 1 fstC v_ U ∧ l' = [c_]) rfl rfl rfl rfl rfl rfl (fun sx hx hF => lay_app0 (a := (some ⟨g5, 0, none⟩)) 1 rfl (es2 rfl (et rfl)) trivial (et rfl) Try.underlying24 Try.underlying24 (z := .agg #[.slice none 0 0]) (bytes := 24) (by kernel_rfl) rfl (by decide) (sl_SlN ((S2.grow hx).ro h_cv)) (nsi_oneC n_cv.at) (by first | omega | (simp; done) | (simp; omega)) (by first | omega | (simp; done) | (simp; omega))) (fun u6 l6 hu6 => ?_)
 obtain ⟨v6, rfl, c6, hc6, hl6⟩ := hu6
 refine D_v rfl rfl (V_fa (off' := 1) rfl (es4 rfl (fg0 F3)) Try.underlying29 rfl (by decide +kernel) rfl) rfl rfl ?_
 refine D_r rfl rfl (by kernel_rfl) (fun sx hx hF => (VR_ldP (ys := [nv]) rfl (et rfl) ((S2.grow hx).obj 0 rfl hc2) (ldP_at rfl) Try.underlying27 rfl (by kernel_rfl))) rfl rfl ?_
 have hll7 : [((nv, ns))].length = 1 := rfl
 refine D_lay (ts := []) (vs := []) (C0 := fun _ => fun u l' => ∃ g_, u = .slice (some ⟨g_, 0, none⟩) 1 1 ∧ ∃ c_, c_ = ro 1 fstC (.slice (some ⟨g_, 0, none⟩) 1 1) [((nv, ns))] ∧ l' = [c_]) (C := fun u l' => ∃ g_, u = .slice (some ⟨g_, 0, none⟩) 1 1 ∧ ∃ c_, c_ = ro 1 fstC (.slice (some ⟨g_, 0, none⟩) 1 1) [((nv, ns))] ∧ l' = [c_]) rfl rfl rfl rfl rfl rfl (fun sx hx hF => lay_lit (vs := [.agg #[nv]]) 1 rfl (parts1 (et rfl)) rfl Try.underlying24 (by kernel_rfl) (by decide) (by intro v hv; simp only [List.mem_cons, List.not_mem_nil, or_false] at hv; rcases hv with rfl <;> rfl) (by rfl)) (fun u7 l7 hu7 => ?_)
 obtain ⟨g7, rfl, c7, hc7, hl7⟩ := hu7
 refine D_eff rfl ?_
 refine ZS_eff S2 rfl rfl (fun s8 hJ8 hL8 hF8 => ?_)
 obtain ⟨ll5, ws5, we5, ⟨g5q, hq5, c5r, hc5r, hl5r⟩, hm5, k5, e5⟩ := L.all_get (L.all_rest (L.all_rest hF8)); cases hq5; subst hl5r
 replace hJ8 := hJ8.add hL8 (i := 0) rfl hm5 k5 e5
 obtain ⟨ll6, ws6, we6, ⟨v6q, hq6, c6r, hc6r, hl6r⟩, hm6, k6, e6⟩ := L.all_get (L.all_rest hF8); cases hq6; subst hl6r
 replace hJ8 := hJ8.add hL8 (i := 3) rfl hm6 k6 e6
 obtain ⟨ll7, ws7, we7, ⟨g7q, hq7, c7r, hc7r, hl7r⟩, hm7, k7, e7⟩ := L.all_get hF8; cases hq7; subst hl7r
 replace hJ8 := hJ8.add hL8 (i := 6) rfl hm7 k7 e7
 have S8 := hJ8.st; clear hF8 hJ8 hL8
 generalize s8.1 = w8 at *
 replace S8 : St w NoX [c7r, c6r, c5r, c2] w8 := S8
 refine W_appS 1 1 S8 rfl hc6r rfl rfl rfl (es3 rfl (et rfl)) (et rfl) Try.underlying24 Try.underlying24 (z := .agg #[.slice none 0 0]) (bytes := 24) (by kernel_rfl) rfl (by decide) (ow_at (S8.chq 0 rfl hc7r)) (by intro u hu; simp only [List.flatMap_cons, List.flatMap_nil, fstC, List.append_nil, List.cons_append, List.nil_append, List.mem_cons, List.not_mem_nil, or_false] at hu; rcases hu with rfl <;> first | exact SlN_one (sl_SlN h_nv.at)) (by first | omega | (simp; done) | (simp; omega)) (by first | omega | (simp; done) | (simp; omega)) (fun v9 w9 c9 hc9 S9 => ?_)
 replace hc9 : c9 = ro 1 fstC v9 (U ++ [((nv, ns))]) := hc9.trans (app_eqR (by first | (simp; done) | (rw [List.take_of_length_le (l := List.drop _ _) (by rw [List.length_drop]; exact Nat.le_refl _)])))
 replace S9 : St w NoX [c7r, c9, c5r, c2] w9 := S9
 refine W_v rfl rfl (V_asg rfl (et rfl)) ?_
 refine W_end ?_
 refine Qo_normal ?_
 refine gen_Q (fun A10 E10 => ?_)
 have Y10 := szq E10
 have F10 := fsE E10 (ck (cq8 F3 rfl) rfl rfl)
 clear E10 Y3 F3
 have S11 : St w NoX [c9] w9 := S9.sel [1] (by decide) rfl
 refine tk H4 ?_
 refine wp_ret ?_
 refine ret_in (results_1 Try.results57 (rv_tmp (fg0 F10))) F10.d ?_
 exact ⟨_, rfl, (S11.fin1 0 rfl (hc9))⟩

set_option maxHeartbeats 4000000 in
theorem qSm8_c {cv : Value} {X : List (List Int)} {nv : Value} {ns : List Int} {dv : Value} {Y : List (List Int)} {mv : Value} {ms : List Int} {w : World} (h_cv : Ro w NoX (rmR cv X)) (h_nv : Ro w NoX (il .i64 nv ns)) (h_dv : Ro w NoX (rmR dv Y)) (h_mv : Ro w NoX (il .i64 mv ms)) (hxl : X.length ≤ 1000000) (hyl : Y.length ≤ 1000000) :
  Calls Try.prog 31 #[.agg #[cv, nv], .agg #[dv, mv]] w fun e w' => e = .returned (.bool (smB (X ++ [ns]) (Y ++ [ms]))) ∧ St w NoX [] w' := by
 obtain ⟨Xu, hXu, k_cv, n_cv⟩ := rmR_open h_cv
 subst hXu
 have b_cv := SlN.le (sl_SlN k_cv.at)
 obtain ⟨Yu, hYu, k_dv, n_dv⟩ := rmR_open h_dv
 subst hYu
 have b_dv := SlN.le (sl_SlN k_dv.at)
 rw [csF_len] at hxl
 rw [csF_len] at hyl
 have hl1 := al_len Xu nv ns
 have hl2 := al_len Yu mv ms
 refine calls_in 55 Try.func31 rfl rfl (by simp) (fun A0 Y0 hdf0 hargs => ?_)
 have l0_0 := hargs 0 (.agg #[cv, nv]) rfl
 have l1_0 := hargs 1 (.agg #[dv, mv]) rfl
 clear hargs; replace Y0 : SzN A0 55 := ⟨Y0⟩
 have hS := St.nil w
 have bh_nv := SlN.le (sl_SlN h_nv.at)
 have bh_mv := SlN.le (sl_SlN h_mv.at)
 have bk_cv := SlN.le (sl_SlN k_cv.at)
 have bk_dv := SlN.le (sl_SlN k_dv.at)
 refine wp_seq_k fun K1 H1 => ?_
 refine region_in ?_
 refine W_boxS (zs := #[cv, nv]) hS rfl rfl rfl l0_0 (by rfl) (fun g2 w2 c2 hc2 S2 => ?_)
 replace S2 : St w NoX [c2] w2 := S2
 refine W_boxS (zs := #[dv, mv]) S2 rfl rfl rfl (es rfl l1_0) (by rfl) (fun g3 w3 c3 hc3 S3 => ?_)
 replace S3 : St w NoX [c3, c2] w3 := S3
 refine W_v rfl rfl (V_asg rfl rfl) ?_
 refine W_end (gen_Q fun A4 E4 => ?_)
 have Y4 := szq E4
 have F4 := fsE E4 (cq1 (ck (ck (FS.n hdf0) rfl rfl) rfl rfl) rfl)
 clear E4 Y0 hdf0 l0_0 l1_0
 refine tk H1 ?_
 refine wp_seq_k fun K5 H5 => ?_
 refine region_monoS 6 6 [none, some (SPv [] (fun _ => fun u l' => ∃ v_s, u = v_s ∧ ∃ c_s, c_s = ro 1 fstC v_s (Xu ++ [(nv, ns)]) ∧ l' = [c_s]) 1), none, some (SPv [] (fun _ => fun u l' => ∃ v_s, u = v_s ∧ ∃ c_s, c_s = ro 1 fstC v_s (Yu ++ [(mv, ms)]) ∧ l' = [c_s]) 3)] (by kernel_rfl) (by kernel_rfl) ?_
 refine D_r rfl rfl (by kernel_rfl) (fun sx hx hF => (VR_ldA rfl (fg1 F4) ((S3.grow hx).obj 1 rfl hc2) Try.underlying29 rfl (by kernel_rfl))) rfl rfl ?_
 refine D_call (ts := []) (vs := []) (C0 := fun _ => fun u l' => ∃ v_s, u = v_s ∧ ∃ c_s, c_s = ro 1 fstC v_s (Xu ++ [(nv, ns)]) ∧ l' = [c_s]) (C := fun u l' => ∃ v_s, u = v_s ∧ ∃ c_s, c_s = ro 1 fstC v_s (Xu ++ [(nv, ns)]) ∧ l' = [c_s]) rfl rfl rfl Try.func57 (by kernel_rfl) rfl (args1 (et rfl)) rfl rfl rfl rfl (fun sx hx hF => ?_) (fun u6 l6 hu6 => ?_)
 ·refine (qall8_c ((S3.grow hx).roC k_cv) ((S3.grow hx).roC n_cv) ((S3.grow hx).roC h_nv) (by first | with_reducible assumption | omega)).mono ?_
  rintro _ _ ⟨v_6, rfl, hz⟩
  exact ⟨_, rfl, _, ⟨_, rfl, _, rfl, rfl⟩, hz⟩
 obtain ⟨v_6, rfl, c_6, hc_6, hl6⟩ := hu6
 refine D_r rfl rfl (by kernel_rfl) (fun sx hx hF => (VR_ldA rfl (es2 rfl (fg0 F4)) ((S3.grow hx).obj 0 rfl hc3) Try.underlying29 rfl (by kernel_rfl))) rfl rfl ?_
 refine D_call (ts := []) (vs := []) (C0 := fun _ => fun u l' => ∃ v_s, u = v_s ∧ ∃ c_s, c_s = ro 1 fstC v_s (Yu ++ [(mv, ms)]) ∧ l' = [c_s]) (C := fun u l' => ∃ v_s, u = v_s ∧ ∃ c_s, c_s = ro 1 fstC v_s (Yu ++ [(mv, ms)]) ∧ l' = [c_s]) rfl rfl rfl Try.func57 (by kernel_rfl) rfl (args1 (et rfl)) rfl rfl rfl rfl (fun sx hx hF => ?_) (fun u7 l7 hu7 => ?_)
 ·refine (qall8_c ((S3.grow hx).roC k_dv) ((S3.grow hx).roC n_dv) ((S3.grow hx).roC h_mv) (by first | with_reducible assumption | omega)).mono ?_
  rintro _ _ ⟨v_7, rfl, hz⟩
  exact ⟨_, rfl, _, ⟨_, rfl, _, rfl, rfl⟩, hz⟩
 obtain ⟨v_7, rfl, c_7, hc_7, hl7⟩ := hu7
 refine D_v rfl rfl (V_asg rfl (es2 rfl (et rfl))) rfl rfl ?_
 refine D_v rfl rfl (V_asg rfl (es rfl (et rfl))) rfl rfl ?_
 refine ZS_none S3 (Nat.le_refl _) (Nat.le_refl _) (fun s8 hJ8 hL8 hF8 => ?_)
 obtain ⟨ll6, ws6, we6, ⟨v_6q, hq6, c_6r, hc_6r, hl6r⟩, hm6, k6, e6⟩ := L.all_get (L.all_rest hF8); cases hq6; subst hl6r
 replace hJ8 := hJ8.add hL8 (i := 1) rfl hm6 k6 e6
 obtain ⟨ll7, ws7, we7, ⟨v_7q, hq7, c_7r, hc_7r, hl7r⟩, hm7, k7, e7⟩ := L.all_get hF8; cases hq7; subst hl7r
 replace hJ8 := hJ8.add hL8 (i := 3) rfl hm7 k7 e7
 have S8 := hJ8.st; clear hF8 hJ8 hL8
 generalize s8.1 = w8 at *
 replace S8 : St w NoX [c_7r, c_6r, c3, c2] w8 := S8
 refine gen_Q (fun A9 E9 => ?_)
 have Y9 := szq E9
 have F9 := fsE E9 (ck (ck (cq4 F4 rfl) rfl rfl) rfl rfl)
 clear E9 Y4 F4
 have S10 : St w NoX [c_7r, c_6r] w8 := S8.sel [0, 1] (by decide) rfl
 refine tk H5 ?_
 refine wp_seq_k fun K11 H11 => ?_
 refine wp_seq_k fun K12 H12 => ?_
 refine region_in ?_
 refine W_v rfl rfl (V_mov rfl (fg1 F9)) ?_
 refine W_v rfl rfl (V_lenS rfl (et rfl) (ow_at (S10.chq 1 rfl hc_6r)) Try.underlying24) ?_
 refine W_v rfl rfl (V_mov rfl (es2 rfl (fg0 F9))) ?_
 refine W_v rfl rfl (V_lenS rfl (et rfl) (ow_at (S10.chq 0 rfl hc_7r)) Try.underlying24) ?_
 refine W_v rfl rfl (V_neq rfl (es2 rfl (et rfl)) (et rfl)) ?_
 refine W_end (gen_Q fun A13 E13 => ?_)
 have Y13 := szq E13
 have F13 := fsE E13 (ck (cq4 F9 rfl) rfl rfl)
 clear E13 Y9 F9
 refine tk H12 ?_
 refine cond_dec (fg0 F13) (fun c14 => ?_) (fun c14 => ?_)
 ·refine wp_seq_k fun K15 H15 => ?_
  refine region_in ?_
  refine W_v rfl rfl (V_asg rfl rfl) ?_
  refine W_end (gen_Q fun A16 E16 => ?_)
  have Y16 := szq E16
  have F16 := fsE E16 (ck F13 rfl rfl)
  clear E16 Y13 F13
  have S17 : St w NoX [] w8 := S10.sel [] (by decide) rfl
  refine tk H15 ?_
  refine wp_ret ?_
  refine then_ret ?_
  refine ret_in (results_1 Try.results31 (rv_tmp (fg0 F16))) F16.d ?_
  rw [show (smB (csF Xu ++ [ns]) (csF Yu ++ [ms])) = false from smB_len (by simp only [List.length_append, csF_len, List.length_singleton]; omega)]
  exact ⟨rfl, S17.fin0⟩
 refine wp_skip ?_
 refine tk H11 ?_
 refine wp_seq_k fun K18 H18 => ?_
 refine wp_seq_k fun K19 H19 => ?_
 refine region_in ?_
 refine W_v rfl rfl (V_asg rfl rfl) ?_
 refine W_end (gen_Q fun A20 E20 => ?_)
 have Y20 := szq E20
 have F20 := fsE E20 (ck F13 rfl rfl)
 clear E20 Y13 F13
 refine tk H19 ?_
 refine wp_block ?_
 -- loop 5
 refine loopX (fun mz A' w' => SzN A' 55 ∧ A'.defers = [] ∧ (∃ (k : Nat), (mz = (Xu ++ [(nv, ns)]).length - k) ∧ (k ≤ (Xu ++ [(nv, ns)]).length) ∧ (∀ i, i < k → smQ ((csF Xu ++ [ns]).getD i []) ((csF Yu ++ [ms]).getD i []) = true) ∧ (EV A' (.tmp 7) = .int .i64 (k : Int)) ∧ (EV A' (.tmp 5) = EV A20 (.tmp 5)) ∧ (EV A' (.tmp 6) = EV A20 (.tmp 6)) ∧ (St w NoX [ro 1 fstC u7 (Yu ++ [(mv, ms)]), ro 1 fstC u6 (Xu ++ [(nv, ns)])] w'))) ((Xu ++ [(nv, ns)]).length - 0) ⟨Y20, F20.d, 0, rfl, (by omega), (fun i hi => by omega), (((fg0 F20)).trans (by first | rfl | (simp; done) | (congr 1; omega))), rfl, rfl, (by subst hc_7r hc_6r; exact S10)⟩ ?_
 clear S10 hc_7r hc_6r
 rintro n21 A21 w21 ⟨Y21, hdf21, k, hm21, hk, hz, l7_21, u5_21, u6_21, S21⟩
 have l5_21 := u5_21.trans (fg3 F20)
 have l6_21 := u6_21.trans (fg2 F20)
 obtain ⟨c_7r_21, c_6r_21, hc_7r_21, hc_6r_21, S21⟩ := gen2 S21
 refine wp_seq_k fun K22 H22 => ?_
 refine wp_seq_k fun K23 H23 => ?_
 refine region_in ?_
 refine W_v rfl rfl (V_mov rfl l7_21) ?_
 refine W_v rfl rfl (V_mov rfl (es rfl l5_21)) ?_
 refine W_v rfl rfl (V_lenS rfl (et rfl) (ow_at (S21.chq 1 rfl hc_6r_21)) Try.underlying24) ?_
 refine W_v rfl rfl (V_lss rfl (es2 rfl (et rfl)) (et rfl)) ?_
 refine W_end (gen_Q fun A24 E24 => ?_)
 have Y24 := szq E24
 have F24 := (((fsE E24 (ck (cq3 (FS.n hdf21) rfl) rfl rfl)).c (lookE E24 5 (es4 rfl l5_21))).c (lookE E24 6 (es4 rfl l6_21))).c (lookE E24 7 (es4 rfl l7_21))
 clear E24 Y21 hdf21 l7_21 l5_21 l6_21
 refine tk H23 ?_
 refine cond_dec (fg3 F24) (fun c25 => ?_) (fun c25 => ?_)
 ·refine wp_skip ?_
  refine tk H22 ?_
  refine wp_seq_k fun K26 H26 => ?_
  refine wp_block ?_
  refine wp_seq_k fun K27 H27 => ?_
  refine region_in ?_
  refine W_v rfl rfl (V_mov rfl (fg2 F24)) ?_
  refine W_v rfl rfl (V_mov rfl (es rfl (fg0 F24))) ?_
  have k28 : k < (Xu ++ [(nv, ns)]).length := by first | omega | (simp only [List.length_cons, List.length_nil]; omega) | (simp only [List.length_set]; omega) | decide
  obtain ⟨y28, hy28⟩ := get_some (xs := (Xu ++ [(nv, ns)])) (k := k) k28
  have ha28 := al_get hy28
  obtain ⟨B28, O28, C28, hv28⟩ := (SlN.blk (ow_at (S21.chq 1 rfl hc_6r_21)) (by first | omega | (simp only [List.length_cons, List.length_nil]; omega) | (simp only [List.length_set]; omega) | decide))
  refine W_v rfl rfl (V_ixS (off := O28 + k * 1) 1 (k) rfl (es rfl (et rfl)) (et rfl) hv28 (by omega) k28 Try.underlying24 (by kernel_rfl) rfl) ?_
  have fn29 : Ro w NoX (il .i64 y28.1 y28.2) := nsi_ro1 (nsi_app n_cv (nsi_one h_nv)) hy28
  have bfn29 := SlN.le (sl_SlN (S21.ro fn29))
  refine W_r rfl rfl (VR_ldR (ys := fstC y28) rfl (et rfl) (SlN.row fstC_len (ow_at (S21.chq 1 rfl hc_6r_21)) hv28 hy28 rfl) Try.underlying27 rfl (by kernel_rfl)) ?_
  refine W_call rfl rfl rfl Try.func65 (by kernel_rfl) rfl (args1 (et rfl)) (qList_c (S21.roC fn29) ) ?_
  rintro _ w30 ⟨v_30, rfl, hP30⟩
  refine ⟨_, rfl, ?_⟩
  obtain ⟨c_30, hc_30, hP30⟩ := gen1 hP30
  have S30 := S21.join hP30
  replace S30 : St w NoX [c_30, c_7r_21, c_6r_21] w30 := S30
  refine W_v rfl rfl (V_mov rfl (et rfl)) ?_
  refine W_v rfl rfl (V_ext (v := v_30) rfl (et rfl) rfl) ?_
  refine W_v rfl rfl (V_ext (v := .int .i64 ((ckS y28.2).2)) rfl (es rfl (et rfl)) rfl) ?_
  refine W_v rfl rfl (V_asg rfl (es rfl (et rfl))) ?_
  refine W_v rfl rfl (V_asg rfl (es rfl (et rfl))) ?_
  refine W_end (gen_Q fun A31 E31 => ?_)
  have Y31 := szq E31
  have F31 := fsE E31 (ck (ck (cq8 F24 rfl) rfl rfl) rfl rfl)
  clear E31 Y24 F24
  refine tk H27 ?_
  refine wp_seq_k fun K32 H32 => ?_
  refine region_in ?_
  refine W_v rfl rfl (V_mov rfl (fg3 F31)) ?_
  refine W_v rfl rfl (V_mov rfl (es rfl (fg2 F31))) ?_
  have k33 : k < (Yu ++ [(mv, ms)]).length := by first | omega | (simp only [List.length_cons, List.length_nil]; omega) | (simp only [List.length_set]; omega) | decide
  obtain ⟨y33, hy33⟩ := get_some (xs := (Yu ++ [(mv, ms)])) (k := k) k33
  have ha33 := al_get hy33
  obtain ⟨B33, O33, C33, hv33⟩ := (SlN.blk (ow_at (S30.chq 1 rfl hc_7r_21)) (by first | omega | (simp only [List.length_cons, List.length_nil]; omega) | (simp only [List.length_set]; omega) | decide))
  refine W_v rfl rfl (V_ixS (off := O33 + k * 1) 1 (k) rfl (es rfl (et rfl)) (et rfl) hv33 (by omega) k33 Try.underlying24 (by kernel_rfl) rfl) ?_
  have fn34 : Ro w NoX (il .i64 y33.1 y33.2) := nsi_ro1 (nsi_app n_dv (nsi_one h_mv)) hy33
  have bfn34 := SlN.le (sl_SlN (S30.ro fn34))
  refine W_r rfl rfl (VR_ldR (ys := fstC y33) rfl (et rfl) (SlN.row fstC_len (ow_at (S30.chq 1 rfl hc_7r_21)) hv33 hy33 rfl) Try.underlying27 rfl (by kernel_rfl)) ?_
  refine W_call rfl rfl rfl Try.func65 (by kernel_rfl) rfl (args1 (et rfl)) (qList_c (S30.roC fn34) ) ?_
  rintro _ w35 ⟨v_35, rfl, hP35⟩
  refine ⟨_, rfl, ?_⟩
  obtain ⟨c_35, hc_35, hP35⟩ := gen1 hP35
  have S35 := S30.join hP35
  replace S35 : St w NoX [c_35, c_30, c_7r_21, c_6r_21] w35 := S35
  refine W_v rfl rfl (V_mov rfl (et rfl)) ?_
  refine W_v rfl rfl (V_ext (v := v_35) rfl (et rfl) rfl) ?_
  refine W_v rfl rfl (V_ext (v := .int .i64 ((ckS y33.2).2)) rfl (es rfl (et rfl)) rfl) ?_
  refine W_v rfl rfl (V_asg rfl (es rfl (et rfl))) ?_
  refine W_v rfl rfl (V_asg rfl (es rfl (et rfl))) ?_
  refine W_end (gen_Q fun A36 E36 => ?_)
  have Y36 := szq E36
  have F36 := fsE E36 (ck (ck (cq8 F31 rfl) rfl rfl) rfl rfl)
  clear E36 Y31 F31
  refine tk H32 ?_
  refine wp_seq_k fun K37 H37 => ?_
  refine region_in ?_
  refine W_v rfl rfl (V_mov rfl (fg2 F36)) ?_
  refine W_v rfl rfl (V_neq rfl (et rfl) rfl) ?_
  refine W_split rfl rfl (V_mov rfl (et rfl)) (fun c38 => ?_) (fun c38 => ?_)
  ·refine W_off rfl (wanted_f rfl rfl (et rfl) (ez rfl) rfl) ?_
   refine W_off rfl (wanted_f rfl rfl (es rfl (et rfl)) (ez rfl) rfl) ?_
   refine W_v rfl rfl (V_pickT rfl (es2 rfl (et rfl)) rfl) ?_
   refine W_v rfl rfl (V_mov rfl (et rfl)) ?_
   refine W_off rfl (wanted_f rfl rfl (et rfl) (ez rfl) rfl) ?_
   refine W_off rfl (wanted_f rfl rfl (es rfl (et rfl)) (ez rfl) rfl) ?_
   refine W_off rfl (wanted_f rfl rfl (es2 rfl (et rfl)) (ez rfl) rfl) ?_
   refine W_off rfl (wanted_f rfl rfl (es3 rfl (et rfl)) (ez rfl) rfl) ?_
   refine W_v rfl rfl (V_pickT rfl (es4 rfl (et rfl)) rfl) ?_
   refine W_end (gen_Q fun A39 E39 => ?_)
   have Y39 := szq E39
   have F39 := fsE E39 (ck (ck (ck (ck (ck (cq2 (ck (ck (cq3 F36 rfl) rfl rfl) rfl rfl) rfl) rfl rfl) rfl rfl) rfl rfl) rfl rfl) rfl rfl)
   clear E39 Y36 F36
   have S40 : St w NoX [c_7r_21, c_6r_21] w35 := S35.sel [2, 3] (by decide) rfl
   refine tk H37 ?_
   refine cond_t (fg0 F39) ?_
   refine wp_seq_k fun K41 H41 => ?_
   refine region_in ?_
   refine W_v rfl rfl (V_asg rfl rfl) ?_
   refine W_end (gen_Q fun A42 E42 => ?_)
   have Y42 := szq E42
   have F42 := fsE E42 (ck F39 rfl rfl)
   clear E42 Y39 F39
   have S43 : St w NoX [] w35 := S40.sel [] (by decide) rfl
   refine tk H41 ?_
   refine wp_ret ?_
   refine inb_ret ?_
   refine then_ret ?_
   refine then_ret ?_
   refine inb_ret ?_
   refine then_ret ?_
   refine ret_in (results_1 Try.results31 (rv_tmp (fg0 F42))) F42.d ?_
   rw [show (smB (csF Xu ++ [ns]) (csF Yu ++ [ms])) = false from smB_no (k := k) (by simp only [List.length_append, csF_len, List.length_singleton]; omega) (by rw [gD_at ha28, gD_at ha33]; exact smQ_F (fun q => by have q1 := q.1; have q2 := q.2.1; have q3 := q.2.2; first | omega | exact absurd q3 (by simpa using c38)))]
   exact ⟨rfl, S43.fin0⟩
  refine W_v rfl (wanted_t rfl rfl (et rfl) (ez rfl)) (V_mov rfl (es3 rfl (fg0 F36))) ?_
  refine W_v rfl (wanted_t rfl rfl (es rfl (et rfl)) (ez rfl)) (V_neq rfl (et rfl) rfl) ?_
  refine W_v rfl rfl (V_pickF rfl (es2 rfl (et rfl)) (et rfl)) ?_
  refine W_split rfl rfl (V_mov rfl (et rfl)) (fun c44 => ?_) (fun c44 => ?_)
  ·refine W_off rfl (wanted_f rfl rfl (et rfl) (ez rfl) rfl) ?_
   refine W_off rfl (wanted_f rfl rfl (es rfl (et rfl)) (ez rfl) rfl) ?_
   refine W_off rfl (wanted_f rfl rfl (es2 rfl (et rfl)) (ez rfl) rfl) ?_
   refine W_off rfl (wanted_f rfl rfl (es3 rfl (et rfl)) (ez rfl) rfl) ?_
   refine W_v rfl rfl (V_pickT rfl (es4 rfl (et rfl)) rfl) ?_
   refine W_end (gen_Q fun A45 E45 => ?_)
   have Y45 := szq E45
   have F45 := fsE E45 (ck (ck (ck (ck (ck (cq2 (ck (ck (cq3 F36 rfl) rfl rfl) rfl rfl) rfl) rfl rfl) rfl rfl) rfl rfl) rfl rfl) rfl rfl)
   clear E45 Y36 F36
   have S46 : St w NoX [c_7r_21, c_6r_21] w35 := S35.sel [2, 3] (by decide) rfl
   refine tk H37 ?_
   refine cond_t (fg0 F45) ?_
   refine wp_seq_k fun K47 H47 => ?_
   refine region_in ?_
   refine W_v rfl rfl (V_asg rfl rfl) ?_
   refine W_end (gen_Q fun A48 E48 => ?_)
   have Y48 := szq E48
   have F48 := fsE E48 (ck F45 rfl rfl)
   clear E48 Y45 F45
   have S49 : St w NoX [] w35 := S46.sel [] (by decide) rfl
   refine tk H47 ?_
   refine wp_ret ?_
   refine inb_ret ?_
   refine then_ret ?_
   refine then_ret ?_
   refine inb_ret ?_
   refine then_ret ?_
   refine ret_in (results_1 Try.results31 (rv_tmp (fg0 F48))) F48.d ?_
   rw [show (smB (csF Xu ++ [ns]) (csF Yu ++ [ms])) = false from smB_no (k := k) (by simp only [List.length_append, csF_len, List.length_singleton]; omega) (by rw [gD_at ha28, gD_at ha33]; exact smQ_F (fun q => by have q1 := q.1; have q2 := q.2.1; have q3 := q.2.2; first | omega | exact absurd q3 (by simpa using c44)))]
   exact ⟨rfl, S49.fin0⟩
  refine W_v rfl (wanted_t rfl rfl (et rfl) (ez rfl)) (V_mov rfl (es7 rfl (fg3 F36))) ?_
  refine W_v rfl (wanted_t rfl rfl (es rfl (et rfl)) (ez rfl)) (V_mov rfl (es8 rfl (fg1 F36))) ?_
  refine W_call rfl (wanted_t rfl rfl (es2 rfl (et rfl)) (ez rfl)) rfl Try.func26 (by kernel_rfl) rfl (args2 (es rfl (et rfl)) (et rfl)) (qInts_c (S35.chC 1 rfl hc_30).own (S35.chC 0 rfl hc_35).own ) ?_
  rintro _ w50 ⟨rfl, hP50⟩
  refine ⟨_, rfl, ?_⟩
  have S50 := S35.join hP50
  replace S50 : St w NoX [c_35, c_30, c_7r_21, c_6r_21] w50 := S50
  refine W_v rfl (wanted_t rfl rfl (es3 rfl (et rfl)) (ez rfl)) (V_notd rfl (et rfl)) ?_
  refine W_v rfl rfl (V_pickF rfl (es4 rfl (et rfl)) (et rfl)) ?_
  refine W_end (gen_Q fun A51 E51 => ?_)
  have Y51 := szq E51
  have F51 := fsE E51 (ck (ck (ck (ck (ck (cq2 (ck (ck (cq3 F36 rfl) rfl rfl) rfl rfl) rfl) rfl rfl) rfl rfl) rfl rfl) rfl rfl) rfl rfl)
  clear E51 Y36 F36
  refine tk H37 ?_
  refine cond_dec (fg0 F51) (fun c52 => ?_) (fun c52 => ?_)
  ·refine wp_seq_k fun K53 H53 => ?_
   refine region_in ?_
   refine W_v rfl rfl (V_asg rfl rfl) ?_
   refine W_end (gen_Q fun A54 E54 => ?_)
   have Y54 := szq E54
   have F54 := fsE E54 (ck F51 rfl rfl)
   clear E54 Y51 F51
   have S55 : St w NoX [] w50 := S50.sel [] (by decide) rfl
   refine tk H53 ?_
   refine wp_ret ?_
   refine inb_ret ?_
   refine then_ret ?_
   refine then_ret ?_
   refine inb_ret ?_
   refine then_ret ?_
   refine ret_in (results_1 Try.results31 (rv_tmp (fg0 F54))) F54.d ?_
   rw [show (smB (csF Xu ++ [ns]) (csF Yu ++ [ms])) = false from smB_no (k := k) (by simp only [List.length_append, csF_len, List.length_singleton]; omega) (by rw [gD_at ha28, gD_at ha33]; exact smQ_F (fun q => by have q1 := q.1; have q2 := q.2.1; have q3 := q.2.2; first | omega | exact absurd q3 (by simpa using c52)))]
   exact ⟨rfl, S55.fin0⟩
  refine wp_skip ?_
  refine inb_n ?_
  refine tk H26 ?_
  refine region_in ?_
  refine W_v rfl rfl (V_mov rfl (fg11 F51)) ?_
  refine W_v rfl rfl (V_add rfl (et rfl) rfl (by omega) (by omega)) ?_
  refine W_v rfl rfl (V_asg rfl (et rfl)) ?_
  refine W_end (gen_Q fun A56 E56 => ?_)
  have Y56 := szq E56
  have F56 := fsE E56 (ck (cq2 (fx11 F51) rfl) rfl rfl)
  clear E56 Y51 F51
  have S57 : St w NoX [c_7r_21, c_6r_21] w50 := S50.sel [2, 3] (by decide) rfl
  refine then_n ⟨(Xu ++ [(nv, ns)]).length - (k + 1), by simp only [hm21]; omega, Y56, F56.d, (k + 1), rfl, (by omega), (sm_step hz (by rw [gD_at ha28, gD_at ha33]; exact smQ_T ⟨by omega, by omega, by simpa using c52⟩)), (((fg0 F56)).trans (by first | rfl | (simp; done) | (congr 1; omega))), (((fg13 F56)).trans (fg3 F20).symm), (((fg12 F56)).trans (fg2 F20).symm), (by subst hc_7r_21 hc_6r_21; exact S57)⟩
 refine wp_exit ?_
 refine then_exit ?_
 refine then_exit ?_
 refine inb_hit ?_
 refine tk H18 ?_
 refine wp_seq_k fun K58 H58 => ?_
 refine region_in ?_
 refine W_v rfl rfl (V_asg rfl rfl) ?_
 refine W_end (gen_Q fun A59 E59 => ?_)
 have Y59 := szq E59
 have F59 := fsE E59 (ck F24 rfl rfl)
 clear E59 Y24 F24
 have S60 : St w NoX [] w21 := S21.sel [] (by decide) rfl
 refine tk H58 ?_
 refine wp_ret ?_
 refine ret_in (results_1 Try.results31 (rv_tmp (fg0 F59))) F59.d ?_
 rw [show (smB (csF Xu ++ [ns]) (csF Yu ++ [ms])) = true from smB_ok (k := k) (by simp only [List.length_append, csF_len, List.length_singleton]; omega) (by simp only [List.length_append, csF_len, List.length_singleton]; omega) hz]
 exact ⟨rfl, S60.fin0⟩

set_option maxHeartbeats 4000000 in
theorem kIn8_c {cv : Value} {X : List (List Int)} {nv : Value} {ns : List Int} {i : Int} {w : World} (h_cv : Ro w NoX (rmR cv X)) (h_nv : Ro w NoX (il .i64 nv ns))  :
  Calls Try.prog 12 #[.agg #[cv, nv], .int .i64 i] w fun e w' => ∃ v, e = .returned (.tuple #[v, .int .i64 (itE X i)]) ∧ St w NoX [io .i64 (v) (itT X i)] w' := by
 obtain ⟨Xu, hXu, k_cv, n_cv⟩ := rmR_open h_cv
 subst hXu
 have b_cv := SlN.le (sl_SlN k_cv.at)
 refine calls_in 23 Try.func12 rfl rfl (by simp) (fun A0 Y0 hdf0 hargs => ?_)
 have l0_0 := hargs 0 (.agg #[cv, nv]) rfl
 have l1_0 := hargs 1 (.int .i64 i) rfl
 clear hargs; replace Y0 : SzN A0 23 := ⟨Y0⟩
 have hS := St.nil w
 have bh_nv := SlN.le (sl_SlN h_nv.at)
 have bk_cv := SlN.le (sl_SlN k_cv.at)
 refine wp_seq_k fun K1 H1 => ?_
 refine region_in ?_
 refine W_boxS (zs := #[cv, nv]) hS rfl rfl rfl l0_0 (by rfl) (fun g2 w2 c2 hc2 S2 => ?_)
 replace S2 : St w NoX [c2] w2 := S2
 refine W_v rfl rfl (V_asg rfl rfl) ?_
 refine W_v rfl rfl (V_asg rfl rfl) ?_
 refine W_end (gen_Q fun A3 E3 => ?_)
 have Y3 := szq E3
 have F3 := (fsE E3 (cq2 (ck (FS.n hdf0) rfl rfl) rfl)).c (lookE E3 1 (es3 rfl l1_0))
 clear E3 Y0 hdf0 l0_0 l1_0
 refine tk H1 ?_
 refine wp_seq_k fun K4 H4 => ?_
 refine wp_seq_k fun K5 H5 => ?_
 refine region_in ?_
 refine W_v rfl rfl (V_mov rfl (fg0 F3)) ?_
 refine W_v rfl rfl (V_lss rfl (et rfl) rfl) ?_
 refine W_split rfl rfl (V_mov rfl (et rfl)) (fun c6 => ?_) (fun c6 => ?_)
 ·refine W_off rfl (wanted_f rfl rfl (et rfl) (ez rfl) rfl) ?_
  refine W_off rfl (wanted_f rfl rfl (es rfl (et rfl)) (ez rfl) rfl) ?_
  refine W_off rfl (wanted_f rfl rfl (es2 rfl (et rfl)) (ez rfl) rfl) ?_
  refine W_off rfl (wanted_f rfl rfl (es3 rfl (et rfl)) (ez rfl) rfl) ?_
  refine W_off rfl (wanted_f rfl rfl (es4 rfl (et rfl)) (ez rfl) rfl) ?_
  refine W_v rfl rfl (V_pickT rfl (es5 rfl (et rfl)) rfl) ?_
  refine W_end (gen_Q fun A7 E7 => ?_)
  have Y7 := szq E7
  have F7 := fsE E7 (ck (cq8 F3 rfl) rfl rfl)
  clear E7 Y3 F3
  refine tk H5 ?_
  refine cond_t (fg0 F7) ?_
  refine wp_seq_k fun K8 H8 => ?_
  refine region_in ?_
  refine W_v rfl rfl (V_asg rfl rfl) ?_
  refine W_v rfl rfl (V_asg rfl rfl) ?_
  refine W_end (gen_Q fun A9 E9 => ?_)
  have Y9 := szq E9
  have F9 := fsE E9 (ck (ck F7 rfl rfl) rfl rfl)
  clear E9 Y7 F7
  have S10 : St w NoX [] w2 := S2.sel [] (by decide) rfl
  refine tk H8 ?_
  refine wp_ret ?_
  refine then_ret ?_
  refine ret_in (results_2 Try.results12 (rv_tmp (fg1 F9)) (rv_tmp (fg0 F9))) F9.d ?_
  obtain ⟨c11, hc11, S11⟩ := S10.pnil (s := 1)
  have hb := it_bad (X := csF Xu) (i := i) (by rw [csF_len]; omega)
  rw [hb.1]
  exact ⟨_, rfl, (S11.fin1 0 rfl (hc11.trans (by rw [show itT (csF Xu) i = [] by exact hb.2] <;> rfl)))⟩
 refine W_v rfl (wanted_t rfl rfl (et rfl) (ez rfl)) (V_mov rfl (es3 rfl (fg0 F3))) ?_
 refine W_v rfl (wanted_t rfl rfl (es rfl (et rfl)) (ez rfl)) (V_fa (off' := 0) rfl (es4 rfl (fg1 F3)) Try.underlying29 rfl (by decide +kernel) rfl) ?_
 refine W_r rfl (wanted_t rfl rfl (es2 rfl (et rfl)) (ez rfl)) (VR_ldC rfl (et rfl) (cell_box (v := cv) (S2.obj 0 rfl hc2) rfl) Try.underlying24 rfl) ?_
 refine W_v rfl (wanted_t rfl rfl (es3 rfl (et rfl)) (ez rfl)) (V_lenS rfl (et rfl) (sl_SlN k_cv.at) Try.underlying24) ?_
 refine W_v rfl (wanted_t rfl rfl (es4 rfl (et rfl)) (ez rfl)) (V_geq rfl (es3 rfl (et rfl)) (et rfl)) ?_
 refine W_v rfl rfl (V_pickF rfl (es5 rfl (et rfl)) (et rfl)) ?_
 refine W_end (gen_Q fun A12 E12 => ?_)
 have Y12 := szq E12
 have F12 := fsE E12 (ck (cq8 F3 rfl) rfl rfl)
 clear E12 Y3 F3
 refine tk H5 ?_
 refine cond_dec (fg0 F12) (fun c13 => ?_) (fun c13 => ?_)
 ·refine wp_seq_k fun K14 H14 => ?_
  refine region_in ?_
  refine W_v rfl rfl (V_asg rfl rfl) ?_
  refine W_v rfl rfl (V_asg rfl rfl) ?_
  refine W_end (gen_Q fun A15 E15 => ?_)
  have Y15 := szq E15
  have F15 := fsE E15 (ck (ck F12 rfl rfl) rfl rfl)
  clear E15 Y12 F12
  have S16 : St w NoX [] w2 := S2.sel [] (by decide) rfl
  refine tk H14 ?_
  refine wp_ret ?_
  refine then_ret ?_
  refine ret_in (results_2 Try.results12 (rv_tmp (fg1 F15)) (rv_tmp (fg0 F15))) F15.d ?_
  obtain ⟨c17, hc17, S17⟩ := S16.pnil (s := 1)
  have hb := it_bad (X := csF Xu) (i := i) (by rw [csF_len]; omega)
  rw [hb.1]
  exact ⟨_, rfl, (S17.fin1 0 rfl (hc17.trans (by rw [show itT (csF Xu) i = [] by exact hb.2] <;> rfl)))⟩
 refine wp_skip ?_
 refine tk H4 ?_
 refine wp_seq_k fun K18 H18 => ?_
 refine region_in ?_
 refine W_v rfl rfl (V_fa (off' := 0) rfl (fg2 F12) Try.underlying29 rfl (by decide +kernel) rfl) ?_
 refine W_r rfl rfl (VR_ldC rfl (et rfl) (cell_box (v := cv) (S2.obj 0 rfl hc2) rfl) Try.underlying24 rfl) ?_
 refine W_v rfl rfl (V_mov rfl (es2 rfl (fg1 F12))) ?_
 have k19 : i.toNat < Xu.length := by first | omega | (simp only [List.length_cons, List.length_nil]; omega) | (simp only [List.length_set]; omega) | decide
 obtain ⟨y19, hy19⟩ := get_some (xs := Xu) (k := i.toNat) k19
 obtain ⟨B19, O19, C19, hv19⟩ := (SlN.blk (sl_SlN k_cv.at) (by first | omega | (simp only [List.length_cons, List.length_nil]; omega) | (simp only [List.length_set]; omega) | decide))
 refine W_v rfl rfl (V_ixS (off := O19 + i.toNat * 1) 1 (i.toNat) rfl (es rfl (et rfl)) (et rfl) hv19 (by omega) k19 Try.underlying24 (by kernel_rfl) rfl) ?_
 have fn20 : Ro w NoX (il .i64 y19.1 y19.2) := nsi_ro1 n_cv hy19
 have bfn20 := SlN.le (sl_SlN (S2.ro fn20))
 refine W_r rfl rfl (VR_ldR (ys := fstC y19) rfl (et rfl) (SlN.row fstC_len (sl_SlN (S2.ro k_cv)) hv19 hy19 rfl) Try.underlying27 rfl (by kernel_rfl)) ?_
 refine W_call rfl rfl rfl Try.func44 (by kernel_rfl) rfl (args1 (et rfl)) (kList_c (S2.roC fn20) ) ?_
 rintro _ w21 ⟨v_21, rfl, hP21⟩
 refine ⟨_, rfl, ?_⟩
 obtain ⟨c_21, hc_21, hP21⟩ := gen1 hP21
 have S21 := S2.join hP21
 replace S21 : St w NoX [c_21, c2] w21 := S21
 refine W_v rfl rfl (V_ext (v := v_21) rfl (et rfl) rfl) ?_
 refine W_v rfl rfl (V_ext (v := .int .i64 ((ckS y19.2).2)) rfl (es rfl (et rfl)) rfl) ?_
 refine W_v rfl rfl (V_asg rfl (es rfl (et rfl))) ?_
 refine W_v rfl rfl (V_asg rfl (es rfl (et rfl))) ?_
 refine W_end (gen_Q fun A22 E22 => ?_)
 have Y22 := szq E22
 have F22 := fsE E22 (ck (ck (cq8 F12 rfl) rfl rfl) rfl rfl)
 clear E22 Y12 F12
 have S23 : St w NoX [c_21] w21 := S21.sel [0] (by decide) rfl
 refine tk H18 ?_
 refine wp_ret ?_
 refine ret_in (results_2 Try.results12 (rv_tmp (fg1 F22)) (rv_tmp (fg0 F22))) F22.d ?_
 have hb := it_ok (X := csF Xu) (i := i) (by rw [csF_len]; omega) rfl (csF_at hy19)
 rw [hb.1]
 exact ⟨_, rfl, (S23.fin1 0 rfl (hc_21.trans (congrArg (io .i64 _) (by rw [hb.2]))))⟩

set_option maxHeartbeats 4000000 in
theorem kYg8_c {cv : Value} {X : List (List Int)} {nv : Value} {ns : List Int} {w : World} (h_cv : Ro w NoX (rmR cv X)) (h_nv : Ro w NoX (il .i64 nv ns))  :
  Calls Try.prog 34 #[.agg #[cv, nv]] w fun e w' => ∃ v, e = .returned (.tuple #[v, .int .i64 (ckS ns).2]) ∧ St w NoX [io .i64 (v) (lsT ns)] w' := by
 refine calls_in 9 Try.func34 rfl rfl (by simp) (fun A0 Y0 hdf0 hargs => ?_)
 have l0_0 := hargs 0 (.agg #[cv, nv]) rfl
 clear hargs; replace Y0 : SzN A0 9 := ⟨Y0⟩
 have hS := St.nil w
 have bh_nv := SlN.le (sl_SlN h_nv.at)
 refine wp_seq_k fun K1 H1 => ?_
 refine region_in ?_
 refine W_boxS (zs := #[cv, nv]) hS rfl rfl rfl l0_0 (by rfl) (fun g2 w2 c2 hc2 S2 => ?_)
 replace S2 : St w NoX [c2] w2 := S2
 refine W_v rfl rfl (V_asg rfl rfl) ?_
 refine W_v rfl rfl (V_asg rfl rfl) ?_
 refine W_end (gen_Q fun A3 E3 => ?_)
 have Y3 := szq E3
 have F3 := fsE E3 (cq2 (ck (FS.n hdf0) rfl rfl) rfl)
 clear E3 Y0 hdf0 l0_0
 refine tk H1 ?_
 refine wp_seq_k fun K4 H4 => ?_
 refine region_in ?_
 refine W_v rfl rfl (V_fa (off' := 1) rfl (fg0 F3) Try.underlying29 rfl (by decide +kernel) rfl) ?_
 refine W_r rfl rfl (VR_ldP (ys := [nv]) rfl (et rfl) (S2.obj 0 rfl hc2) (ldP_at rfl) Try.underlying27 rfl (by kernel_rfl)) ?_
 refine W_call rfl rfl rfl Try.func44 (by kernel_rfl) rfl (args1 (et rfl)) (kList_c (S2.roC h_nv) ) ?_
 rintro _ w5 ⟨v_5, rfl, hP5⟩
 refine ⟨_, rfl, ?_⟩
 obtain ⟨c_5, hc_5, hP5⟩ := gen1 hP5
 have S5 := S2.join hP5
 replace S5 : St w NoX [c_5, c2] w5 := S5
 refine W_v rfl rfl (V_ext (v := v_5) rfl (et rfl) rfl) ?_
 refine W_v rfl rfl (V_ext (v := .int .i64 ((ckS ns).2)) rfl (es rfl (et rfl)) rfl) ?_
 refine W_v rfl rfl (V_asg rfl (es rfl (et rfl))) ?_
 refine W_v rfl rfl (V_asg rfl (es rfl (et rfl))) ?_
 refine W_end (gen_Q fun A6 E6 => ?_)
 have Y6 := szq E6
 have F6 := fsE E6 (ck (ck (cq5 F3 rfl) rfl rfl) rfl rfl)
 clear E6 Y3 F3
 have S7 : St w NoX [c_5] w5 := S5.sel [0] (by decide) rfl
 refine tk H4 ?_
 refine wp_ret ?_
 refine ret_in (results_2 Try.results34 (rv_tmp (fg1 F6)) (rv_tmp (fg0 F6))) F6.d ?_
 exact ⟨_, rfl, (S7.fin1 0 rfl (hc_5))⟩

end Go.Proofs.Yteppjefmlibmoaa