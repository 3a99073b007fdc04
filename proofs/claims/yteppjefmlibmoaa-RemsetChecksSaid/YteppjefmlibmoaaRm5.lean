import Derived.Test.YteppjefmlibmoaaProg
import Derived.Test.YteppjefmlibmoaaRm4
import Derived.Test.YteppjefmlibmoaaPl8e
namespace Go.Proofs.Yteppjefmlibmoaa
open Go.RowKit Go.Own Go.Own.R Go.Own.S Go.Own.E


set_option maxHeartbeats 4000000 in
theorem qall8_c {cv : Value} {U : List SL} {nv : Value} {ns : List Int} {w : World} (h_cv : Ro w NoX (rl 1 fstC cv U)) (n_cv : Ro w NoX (nsi U)) (h_nv : Ro w NoX (il .i64 nv ns)) (hul : U.length ≤ 1000000) :
  Calls Try.prog 57 #[.agg #[cv, nv]] w fun e w' => ∃ v, e = .returned (v) ∧ St w NoX [ro 1 fstC v (U ++ [(nv, ns)])] w' := by
 refine calls_in 11 Try.func57 rfl rfl (by simp) (fun A0 hsz0 hdf0 hargs => ?_)
 have l0_0 := hargs 0 (.agg #[cv, nv]) rfl
 clear hargs; replace hsz0 : SzN A0 11 := ⟨hsz0⟩
 have hS := St.nil w
 have bh_cv := SlN.le (sl_SlN h_cv.at)
 have bh_nv := SlN.le (sl_SlN h_nv.at)
 refine wp_seq_k fun K1 hK1 => ?_
 refine region_in ?_
 refine W_boxS (zs := #[cv, nv]) hS rfl rfl rfl l0_0 (by rfl) (fun g2 w2 c2 hc2 hS2 => ?_)
 replace hS2 : St w NoX [c2] w2 := hS2
 refine W_v rfl rfl (V_asg rfl rfl) ?_
 refine W_end (gen_Q fun A3 hA3 => ?_)
 have hsz3 := szq hA3
 have hdf3 := dfE hA3 hdf0
 have l1_3 := lookE hA3 1 (es rfl (et rfl))
 clear hA3 hsz0 hdf0 l0_0
 refine then_n (hK1 _ _ ?_)
 clear hK1
 refine wp_seq_k fun K4 hK4 => ?_
 refine region_monoS 7 8 [some (SPv [] (fun _ => fun u l' => ∃ g_, u = .slice (some ⟨g_, 0, none⟩) 0 0 ∧ ∃ c_, c_ = ro 1 fstC (.slice (some ⟨g_, 0, none⟩) 0 0) [] ∧ l' = [c_]) 0), none, none, some (SPv [] (fun _ => fun u l' => ∃ v_, u = v_ ∧ ∃ c_, c_ = ro 1 fstC v_ U ∧ l' = [c_]) 3), none, none, some (SPv [] (fun _ => fun u l' => ∃ g_, u = .slice (some ⟨g_, 0, none⟩) 1 1 ∧ ∃ c_, c_ = ro 1 fstC (.slice (some ⟨g_, 0, none⟩) 1 1) [((nv, ns))] ∧ l' = [c_]) 6)] (by kernel_rfl) (by kernel_rfl) ?_
 refine D_lay (ts := []) (vs := []) (C0 := fun _ => fun u l' => ∃ g_, u = .slice (some ⟨g_, 0, none⟩) 0 0 ∧ ∃ c_, c_ = ro 1 fstC (.slice (some ⟨g_, 0, none⟩) 0 0) [] ∧ l' = [c_]) (C := fun u l' => ∃ g_, u = .slice (some ⟨g_, 0, none⟩) 0 0 ∧ ∃ c_, c_ = ro 1 fstC (.slice (some ⟨g_, 0, none⟩) 0 0) [] ∧ l' = [c_]) rfl rfl rfl rfl rfl rfl (fun sx hx hF => lay_lit (vs := []) 1 rfl (parts0) rfl Try.underlying24 (by kernel_rfl) (by decide) (by intro v hv; cases hv) (by rfl)) (fun u5 l5 hu5 => ?_)
 obtain ⟨g5, rfl, c5, hc5, hl5⟩ := hu5
 refine D_v rfl rfl (V_fa (off' := 0) rfl (es rfl l1_3) Try.underlying29 rfl (by decide +kernel) rfl) rfl rfl ?_
 refine D_r rfl rfl (by kernel_rfl) (fun sx hx hF => (VR_ldC rfl (et rfl) (cell_box (v := cv) ((hS2.grow hx).obj 0 rfl hc2) rfl) Try.underlying24 rfl)) rfl rfl ?_
 refine D_lay (ts := []) (vs := []) (C0 := fun _ => fun u l' => ∃ v_, u = v_ ∧ ∃ c_, c_ = ro 1 fstC v_ U ∧ l' = [c_]) (C := fun u l' => ∃ v_, u = v_ ∧ ∃ c_, c_ = ro 1 fstC v_ U ∧ l' = [c_]) rfl rfl rfl rfl rfl rfl (fun sx hx hF => lay_app0 (a := (some ⟨g5, 0, none⟩)) 1 rfl (e2 rfl (et rfl)) trivial (et rfl) Try.underlying24 Try.underlying24 (z := .agg #[.slice none 0 0]) (bytes := 24) (by kernel_rfl) rfl (by decide) (sl_SlN ((hS2.grow hx).ro h_cv)) (nsi_oneC n_cv.at) (by first | omega | (simp; done) | (simp; omega)) (by first | omega | (simp; done) | (simp; omega))) (fun u6 l6 hu6 => ?_)
 obtain ⟨v6, rfl, c6, hc6, hl6⟩ := hu6
 refine D_v rfl rfl (V_fa (off' := 1) rfl (e4 rfl l1_3) Try.underlying29 rfl (by decide +kernel) rfl) rfl rfl ?_
 refine D_r rfl rfl (by kernel_rfl) (fun sx hx hF => (VR_ldP (ys := [nv]) rfl (et rfl) ((hS2.grow hx).obj 0 rfl hc2) (ldP_at rfl) Try.underlying27 rfl (by kernel_rfl))) rfl rfl ?_
 have hll7 : [((nv, ns))].length = 1 := rfl
 refine D_lay (ts := []) (vs := []) (C0 := fun _ => fun u l' => ∃ g_, u = .slice (some ⟨g_, 0, none⟩) 1 1 ∧ ∃ c_, c_ = ro 1 fstC (.slice (some ⟨g_, 0, none⟩) 1 1) [((nv, ns))] ∧ l' = [c_]) (C := fun u l' => ∃ g_, u = .slice (some ⟨g_, 0, none⟩) 1 1 ∧ ∃ c_, c_ = ro 1 fstC (.slice (some ⟨g_, 0, none⟩) 1 1) [((nv, ns))] ∧ l' = [c_]) rfl rfl rfl rfl rfl rfl (fun sx hx hF => lay_lit (vs := [.agg #[nv]]) 1 rfl (parts1 (et rfl)) rfl Try.underlying24 (by kernel_rfl) (by decide) (by intro v hv; simp only [List.mem_cons, List.not_mem_nil, or_false] at hv; rcases hv with rfl <;> rfl) (by rfl)) (fun u7 l7 hu7 => ?_)
 obtain ⟨g7, rfl, c7, hc7, hl7⟩ := hu7
 refine D_eff rfl ?_
 refine ZS_eff hS2 rfl rfl (fun s8 hJ8 hL8 hF8 => ?_)
 obtain ⟨ll5, ws5, we5, ⟨g5q, hq5, c5r, hc5r, hl5r⟩, hm5, k5, e5⟩ := L.all_get (L.all_rest (L.all_rest hF8)); cases hq5; subst hl5r
 replace hJ8 := hJ8.add hL8 (i := 0) rfl hm5 k5 e5
 obtain ⟨ll6, ws6, we6, ⟨v6q, hq6, c6r, hc6r, hl6r⟩, hm6, k6, e6⟩ := L.all_get (L.all_rest hF8); cases hq6; subst hl6r
 replace hJ8 := hJ8.add hL8 (i := 3) rfl hm6 k6 e6
 obtain ⟨ll7, ws7, we7, ⟨g7q, hq7, c7r, hc7r, hl7r⟩, hm7, k7, e7⟩ := L.all_get hF8; cases hq7; subst hl7r
 replace hJ8 := hJ8.add hL8 (i := 6) rfl hm7 k7 e7
 have hS8 := hJ8.st; clear hF8 hJ8 hL8
 generalize s8.1 = w8 at *
 replace hS8 : St w NoX [c7r, c6r, c5r, c2] w8 := hS8
 refine W_appS 1 1 hS8 rfl hc6r rfl rfl rfl (e3 rfl (et rfl)) (et rfl) Try.underlying24 Try.underlying24 (z := .agg #[.slice none 0 0]) (bytes := 24) (by kernel_rfl) rfl (by decide) (ow_at (hS8.chq 0 rfl hc7r)) (by intro u hu; simp only [List.flatMap_cons, List.flatMap_nil, fstC, List.append_nil, List.cons_append, List.nil_append, List.mem_cons, List.not_mem_nil, or_false] at hu; rcases hu with rfl <;> first | exact SlN_one (sl_SlN h_nv.at)) (by first | omega | (simp; done) | (simp; omega)) (by first | omega | (simp; done) | (simp; omega)) (fun v9 w9 c9 hc9 hS9 => ?_)
 replace hc9 : c9 = ro 1 fstC v9 (U ++ [((nv, ns))]) := hc9.trans (app_eqR (by first | (simp; done) | (rw [List.take_of_length_le (l := List.drop _ _) (by rw [List.length_drop]; exact Nat.le_refl _)])))
 replace hS9 : St w NoX [c7r, c9, c5r, c2] w9 := hS9
 refine W_v rfl rfl (V_asg rfl (et rfl)) ?_
 refine W_end ?_
 refine Qo_normal ?_
 refine gen_Q (fun A10 hA10 => ?_)
 have hsz10 := szq hA10
 have hdf10 := dfE hA10 hdf3
 have l2_10 := lookE hA10 2 (et rfl)
 clear hA10 hsz3 hdf3 l1_3
 have hS11 : St w NoX [c9] w9 := hS9.sel [1] (by decide) rfl
 refine then_n (hK4 _ _ ?_)
 clear hK4
 refine wp_ret ?_
 refine ret_in (results_1 Try.results57 (rv_tmp l2_10)) hdf10 ?_
 exact ⟨_, rfl, (hS11.fin1 0 rfl (hc9))⟩

set_option maxHeartbeats 4000000 in
theorem qEq8_c {cv : Value} {X : List (List Int)} {nv : Value} {ns : List Int} {dv : Value} {Y : List (List Int)} {mv : Value} {ms : List Int} {w : World} (h_cv : Ro w NoX (rmR cv X)) (h_nv : Ro w NoX (il .i64 nv ns)) (h_dv : Ro w NoX (rmR dv Y)) (h_mv : Ro w NoX (il .i64 mv ms)) (hxl : X.length ≤ 1000000) (hyl : Y.length ≤ 1000000) :
  Calls Try.prog 20 #[.agg #[cv, nv], .agg #[dv, mv]] w fun e w' => e = .returned (.bool (decide (X = Y ∧ ns = ms))) ∧ St w NoX [] w' := by
 obtain ⟨Xu, hXu, k_cv, n_cv⟩ := rmR_open h_cv
 subst hXu
 have b_cv := SlN.le (sl_SlN k_cv.at)
 obtain ⟨Yu, hYu, k_dv, n_dv⟩ := rmR_open h_dv
 subst hYu
 have b_dv := SlN.le (sl_SlN k_dv.at)
 rw [csF_len] at hxl
 rw [csF_len] at hyl
 have hl1 := al_len Xu nv ns
 have hl2 := al_len Yu mv ms
 refine calls_in 35 Try.func20 rfl rfl (by simp) (fun A0 hsz0 hdf0 hargs => ?_)
 have l0_0 := hargs 0 (.agg #[cv, nv]) rfl
 have l1_0 := hargs 1 (.agg #[dv, mv]) rfl
 clear hargs; replace hsz0 : SzN A0 35 := ⟨hsz0⟩
 have hS := St.nil w
 have bh_nv := SlN.le (sl_SlN h_nv.at)
 have bh_mv := SlN.le (sl_SlN h_mv.at)
 have bk_cv := SlN.le (sl_SlN k_cv.at)
 have bk_dv := SlN.le (sl_SlN k_dv.at)
 refine wp_seq_k fun K1 hK1 => ?_
 refine region_in ?_
 refine W_boxS (zs := #[cv, nv]) hS rfl rfl rfl l0_0 (by rfl) (fun g2 w2 c2 hc2 hS2 => ?_)
 replace hS2 : St w NoX [c2] w2 := hS2
 refine W_boxS (zs := #[dv, mv]) hS2 rfl rfl rfl (es rfl l1_0) (by rfl) (fun g3 w3 c3 hc3 hS3 => ?_)
 replace hS3 : St w NoX [c3, c2] w3 := hS3
 refine W_v rfl rfl (V_asg rfl rfl) ?_
 refine W_end (gen_Q fun A4 hA4 => ?_)
 have hsz4 := szq hA4
 have hdf4 := dfE hA4 hdf0
 have l2_4 := lookE hA4 2 (e2 rfl (et rfl))
 have l3_4 := lookE hA4 3 (es rfl (et rfl))
 clear hA4 hsz0 hdf0 l0_0 l1_0
 refine then_n (hK1 _ _ ?_)
 clear hK1
 refine wp_seq_k fun K5 hK5 => ?_
 refine region_monoS 6 6 [none, some (SPv [] (fun _ => fun u l' => ∃ v_s, u = v_s ∧ ∃ c_s, c_s = ro 1 fstC v_s (Xu ++ [(nv, ns)]) ∧ l' = [c_s]) 1), none, some (SPv [] (fun _ => fun u l' => ∃ v_s, u = v_s ∧ ∃ c_s, c_s = ro 1 fstC v_s (Yu ++ [(mv, ms)]) ∧ l' = [c_s]) 3)] (by kernel_rfl) (by kernel_rfl) ?_
 refine D_r rfl rfl (by kernel_rfl) (fun sx hx hF => (VR_ldA rfl l2_4 ((hS3.grow hx).obj 1 rfl hc2) Try.underlying29 rfl (by kernel_rfl))) rfl rfl ?_
 refine D_call (ts := []) (vs := []) (C0 := fun _ => fun u l' => ∃ v_s, u = v_s ∧ ∃ c_s, c_s = ro 1 fstC v_s (Xu ++ [(nv, ns)]) ∧ l' = [c_s]) (C := fun u l' => ∃ v_s, u = v_s ∧ ∃ c_s, c_s = ro 1 fstC v_s (Xu ++ [(nv, ns)]) ∧ l' = [c_s]) rfl rfl rfl Try.func57 (by kernel_rfl) rfl (args1 (et rfl)) rfl rfl rfl rfl (fun sx hx hF => ?_) (fun u6 l6 hu6 => ?_)
 ·refine (qall8_c ((hS3.grow hx).roC k_cv) ((hS3.grow hx).roC n_cv) ((hS3.grow hx).roC h_nv) (by first | with_reducible assumption | omega)).mono ?_
  rintro _ _ ⟨v_6, rfl, hz⟩
  exact ⟨_, rfl, _, ⟨_, rfl, _, rfl, rfl⟩, hz⟩
 obtain ⟨v_6, rfl, c_6, hc_6, hl6⟩ := hu6
 refine D_r rfl rfl (by kernel_rfl) (fun sx hx hF => (VR_ldA rfl (e2 rfl l3_4) ((hS3.grow hx).obj 0 rfl hc3) Try.underlying29 rfl (by kernel_rfl))) rfl rfl ?_
 refine D_call (ts := []) (vs := []) (C0 := fun _ => fun u l' => ∃ v_s, u = v_s ∧ ∃ c_s, c_s = ro 1 fstC v_s (Yu ++ [(mv, ms)]) ∧ l' = [c_s]) (C := fun u l' => ∃ v_s, u = v_s ∧ ∃ c_s, c_s = ro 1 fstC v_s (Yu ++ [(mv, ms)]) ∧ l' = [c_s]) rfl rfl rfl Try.func57 (by kernel_rfl) rfl (args1 (et rfl)) rfl rfl rfl rfl (fun sx hx hF => ?_) (fun u7 l7 hu7 => ?_)
 ·refine (qall8_c ((hS3.grow hx).roC k_dv) ((hS3.grow hx).roC n_dv) ((hS3.grow hx).roC h_mv) (by first | with_reducible assumption | omega)).mono ?_
  rintro _ _ ⟨v_7, rfl, hz⟩
  exact ⟨_, rfl, _, ⟨_, rfl, _, rfl, rfl⟩, hz⟩
 obtain ⟨v_7, rfl, c_7, hc_7, hl7⟩ := hu7
 refine D_v rfl rfl (V_asg rfl (e2 rfl (et rfl))) rfl rfl ?_
 refine D_v rfl rfl (V_asg rfl (es rfl (et rfl))) rfl rfl ?_
 refine ZS_none hS3 (Nat.le_refl _) (Nat.le_refl _) (fun s8 hJ8 hL8 hF8 => ?_)
 obtain ⟨ll6, ws6, we6, ⟨v_6q, hq6, c_6r, hc_6r, hl6r⟩, hm6, k6, e6⟩ := L.all_get (L.all_rest hF8); cases hq6; subst hl6r
 replace hJ8 := hJ8.add hL8 (i := 1) rfl hm6 k6 e6
 obtain ⟨ll7, ws7, we7, ⟨v_7q, hq7, c_7r, hc_7r, hl7r⟩, hm7, k7, e7⟩ := L.all_get hF8; cases hq7; subst hl7r
 replace hJ8 := hJ8.add hL8 (i := 3) rfl hm7 k7 e7
 have hS8 := hJ8.st; clear hF8 hJ8 hL8
 generalize s8.1 = w8 at *
 replace hS8 : St w NoX [c_7r, c_6r, c3, c2] w8 := hS8
 refine gen_Q (fun A9 hA9 => ?_)
 have hsz9 := szq hA9
 have hdf9 := dfE hA9 hdf4
 have l5_9 := lookE hA9 5 (es rfl (et rfl))
 have l6_9 := lookE hA9 6 (et rfl)
 clear hA9 hsz4 hdf4 l2_4 l3_4
 have hS10 : St w NoX [c_7r, c_6r] w8 := hS8.sel [0, 1] (by decide) rfl
 refine then_n (hK5 _ _ ?_)
 clear hK5
 refine wp_seq_k fun K11 hK11 => ?_
 refine wp_seq_k fun K12 hK12 => ?_
 refine region_in ?_
 refine W_v rfl rfl (V_mov rfl l5_9) ?_
 refine W_v rfl rfl (V_lenS rfl (et rfl) (ow_at (hS10.chq 1 rfl hc_6r)) Try.underlying24) ?_
 refine W_v rfl rfl (V_mov rfl (e2 rfl l6_9)) ?_
 refine W_v rfl rfl (V_lenS rfl (et rfl) (ow_at (hS10.chq 0 rfl hc_7r)) Try.underlying24) ?_
 refine W_v rfl rfl (V_neq rfl (e2 rfl (et rfl)) (et rfl)) ?_
 refine W_end (gen_Q fun A13 hA13 => ?_)
 have hsz13 := szq hA13
 have hdf13 := dfE hA13 hdf9
 have l5_13 := ek5 hA13 5 rfl l5_9
 have l6_13 := ek5 hA13 6 rfl l6_9
 have l16_13 := lookE hA13 16 (et rfl)
 clear hA13 hsz9 hdf9 l5_9 l6_9
 refine then_n (hK12 _ _ ?_)
 clear hK12
 refine cond_dec l16_13 (fun c14 => ?_) (fun c14 => ?_)
 ·refine wp_seq_k fun K15 hK15 => ?_
  refine region_in ?_
  refine W_v rfl rfl (V_asg rfl rfl) ?_
  refine W_end (gen_Q fun A16 hA16 => ?_)
  have hsz16 := szq hA16
  have hdf16 := dfE hA16 hdf13
  have l4_16 := lookE hA16 4 (et rfl)
  clear hA16 hsz13 hdf13 l5_13 l6_13 l16_13
  have hS17 : St w NoX [] w8 := hS10.sel [] (by decide) rfl
  refine then_n (hK15 _ _ ?_)
  clear hK15
  refine wp_ret ?_
  refine then_ret ?_
  refine ret_in (results_1 Try.results20 (rv_tmp l4_16)) hdf16 ?_
  rw [show (decide (csF Xu = csF Yu ∧ ns = ms)) = false from decide_eq_false (fun q => by have h1 := congrArg List.length q.1; rw [csF_len, csF_len] at h1; omega)]
  exact ⟨rfl, hS17.fin0⟩
 ·refine wp_skip ?_
  refine then_n (hK11 _ _ ?_)
  clear hK11
  refine wp_seq_k fun K18 hK18 => ?_
  refine wp_seq_k fun K19 hK19 => ?_
  refine region_in ?_
  refine W_v rfl rfl (V_asg rfl rfl) ?_
  refine W_end (gen_Q fun A20 hA20 => ?_)
  have hsz20 := szq hA20
  have hdf20 := dfE hA20 hdf13
  have l5_20 := lookE hA20 5 (es rfl l5_13)
  have l6_20 := lookE hA20 6 (es rfl l6_13)
  have l7_20 := lookE hA20 7 (et rfl)
  clear hA20 hsz13 hdf13 l5_13 l6_13 l16_13
  refine then_n (hK19 _ _ ?_)
  clear hK19
  refine wp_block ?_
  -- loop 5
  refine loopX (fun mz A' w' => SzN A' 35 ∧ A'.defers = [] ∧ (∃ (k : Nat), (mz = (Xu ++ [(nv, ns)]).length - k) ∧ (k ≤ (Xu ++ [(nv, ns)]).length) ∧ (∀ i, i < k → (csF Xu ++ [ns])[i]? = (csF Yu ++ [ms])[i]?) ∧ (EV A' (.tmp 7) = .int .i64 (k : Int)) ∧ (EV A' (.tmp 5) = EV A20 (.tmp 5)) ∧ (EV A' (.tmp 6) = EV A20 (.tmp 6)) ∧ (St w NoX [ro 1 fstC u7 (Yu ++ [(mv, ms)]), ro 1 fstC u6 (Xu ++ [(nv, ns)])] w'))) ((Xu ++ [(nv, ns)]).length - 0) ⟨hsz20, hdf20, 0, rfl, (by omega), (fun i hi => by omega), ((l7_20).trans (by first | rfl | (simp; done) | (congr 1; omega))), rfl, rfl, (by subst hc_7r hc_6r; exact hS10)⟩ ?_
  clear hS10 hc_7r hc_6r
  rintro n21 A21 w21 ⟨hsz21, hdf21, k, hm21, hk, hz, l7_21, u5_21, u6_21, hS21⟩
  have l5_21 := u5_21.trans l5_20
  have l6_21 := u6_21.trans l6_20
  obtain ⟨c_7r_21, c_6r_21, hc_7r_21, hc_6r_21, hS21⟩ := gen2 hS21
  refine wp_seq_k fun K22 hK22 => ?_
  refine wp_seq_k fun K23 hK23 => ?_
  refine region_in ?_
  refine W_v rfl rfl (V_mov rfl l7_21) ?_
  refine W_v rfl rfl (V_mov rfl (es rfl l5_21)) ?_
  refine W_v rfl rfl (V_lenS rfl (et rfl) (ow_at (hS21.chq 1 rfl hc_6r_21)) Try.underlying24) ?_
  refine W_v rfl rfl (V_lss rfl (e2 rfl (et rfl)) (et rfl)) ?_
  refine W_end (gen_Q fun A24 hA24 => ?_)
  have hsz24 := szq hA24
  have hdf24 := dfE hA24 hdf21
  have l5_24 := ek4 hA24 5 rfl l5_21
  have l6_24 := ek4 hA24 6 rfl l6_21
  have l7_24 := ek4 hA24 7 rfl l7_21
  have l20_24 := lookE hA24 20 (et rfl)
  clear hA24 hsz21 hdf21 l7_21 l5_21 l6_21
  refine then_n (hK23 _ _ ?_)
  clear hK23
  refine cond_dec l20_24 (fun c25 => ?_) (fun c25 => ?_)
  ·refine wp_skip ?_
   refine then_n (hK22 _ _ ?_)
   clear hK22
   refine wp_seq_k fun K26 hK26 => ?_
   refine wp_block ?_
   refine wp_seq_k fun K27 hK27 => ?_
   have k28 : k < (Xu ++ [(nv, ns)]).length := by first | omega | (simp only [List.length_cons, List.length_nil]; omega) | (simp only [List.length_set]; omega) | decide
   obtain ⟨y28, hy28⟩ := get_some (xs := (Xu ++ [(nv, ns)])) (k := k) k28
   have ha28 := al_get hy28
   have k30 : k < (Yu ++ [(mv, ms)]).length := by first | omega | (simp only [List.length_cons, List.length_nil]; omega) | (simp only [List.length_set]; omega) | decide
   obtain ⟨y30, hy30⟩ := get_some (xs := (Yu ++ [(mv, ms)])) (k := k) k30
   have ha30 := al_get hy30
   refine region_monoS 12 12 [none, none, none, none, none, none, none, none, none, none, some (SPv [] (fun _ => fun u l' => u = .bool (decide (y28.2 = y30.2)) ∧ l' = []) 10)] (by kernel_rfl) (by kernel_rfl) ?_
   refine D_v rfl rfl (V_mov rfl l5_24) rfl rfl ?_
   refine D_v rfl rfl (V_mov rfl (es rfl l7_24)) rfl rfl ?_
   obtain ⟨B28, O28, C28, hv28⟩ := (SlN.blk (ow_at (hS21.chq 1 rfl hc_6r_21)) (by first | omega | (simp only [List.length_cons, List.length_nil]; omega) | (simp only [List.length_set]; omega) | decide))
   refine D_v rfl rfl (V_ixS (off := O28 + k * 1) 1 (k) rfl (es rfl (et rfl)) (et rfl) hv28 (by omega) k28 Try.underlying24 (by kernel_rfl) rfl) rfl rfl ?_
   refine D_v rfl rfl (V_fa (off' := O28 + k * 1 + 0) rfl (et rfl) Try.underlying27 rfl (by decide +kernel) rfl) rfl rfl ?_
   have fn29 : Ro w NoX (il .i64 y28.1 y28.2) := nsi_ro1 (nsi_app n_cv (nsi_one h_nv)) hy28
   have bfn29 := SlN.le (sl_SlN (hS21.ro fn29))
   refine D_r rfl rfl (by kernel_rfl) (fun sx hx hF => (VR_ldC (v := y28.1) rfl (et rfl) (SlN.row fstC_len (ow_at ((hS21.grow hx).chq 1 rfl hc_6r_21)) hv28 hy28 rfl 0 _ rfl) Try.underlying25 rfl)) rfl rfl ?_
   refine D_v rfl rfl (V_mov rfl (e5 rfl l6_24)) rfl rfl ?_
   refine D_v rfl rfl (V_mov rfl (e6 rfl l7_24)) rfl rfl ?_
   obtain ⟨B30, O30, C30, hv30⟩ := (SlN.blk (ow_at (hS21.chq 0 rfl hc_7r_21)) (by first | omega | (simp only [List.length_cons, List.length_nil]; omega) | (simp only [List.length_set]; omega) | decide))
   refine D_v rfl rfl (V_ixS (off := O30 + k * 1) 1 (k) rfl (es rfl (et rfl)) (et rfl) hv30 (by omega) k30 Try.underlying24 (by kernel_rfl) rfl) rfl rfl ?_
   refine D_v rfl rfl (V_fa (off' := O30 + k * 1 + 0) rfl (et rfl) Try.underlying27 rfl (by decide +kernel) rfl) rfl rfl ?_
   have fn31 : Ro w NoX (il .i64 y30.1 y30.2) := nsi_ro1 (nsi_app n_dv (nsi_one h_mv)) hy30
   have bfn31 := SlN.le (sl_SlN (hS21.ro fn31))
   refine D_r rfl rfl (by kernel_rfl) (fun sx hx hF => (VR_ldC (v := y30.1) rfl (et rfl) (SlN.row fstC_len (ow_at ((hS21.grow hx).chq 0 rfl hc_7r_21)) hv30 hy30 rfl 0 _ rfl) Try.underlying25 rfl)) rfl rfl ?_
   refine D_call (ts := []) (vs := []) (C0 := fun _ => fun u l' => u = .bool (decide (y28.2 = y30.2)) ∧ l' = []) (C := fun u l' => u = .bool (decide (y28.2 = y30.2)) ∧ l' = []) rfl rfl rfl Try.func26 (by kernel_rfl) rfl (args2 (e5 rfl (et rfl)) (et rfl)) rfl rfl rfl rfl (fun sx hx hF => ?_) (fun u32 l32 hu32 => ?_)
   ·refine (qInts_c ((hS21.grow hx).roC fn29) ((hS21.grow hx).roC fn31) ).mono ?_
    rintro _ _ ⟨rfl, hz⟩
    exact ⟨_, rfl, _, ⟨rfl, rfl⟩, hz⟩
   obtain ⟨rfl, hl32⟩ := hu32
   refine D_v rfl rfl (V_notd rfl (et rfl)) rfl rfl ?_
   refine ZS_none hS21 (Nat.le_refl _) (Nat.le_refl _) (fun s33 hJ33 hL33 hF33 => ?_)
   obtain ⟨ll32, ws32, we32, ⟨hq32, hl32r⟩, hm32, k32, e32⟩ := L.all_get hF33; cases hq32; subst hl32r
   replace hJ33 := hJ33.add hL33 (i := 10) rfl hm32 k32 e32
   have hS33 := hJ33.st; clear hF33 hJ33 hL33
   generalize s33.1 = w33 at *
   replace hS33 : St w NoX [c_7r_21, c_6r_21] w33 := hS33
   refine gen_Q (fun A34 hA34 => ?_)
   have hsz34 := szq hA34
   have hdf34 := dfE hA34 hdf24
   have l5_34 := ek12 hA34 5 rfl l5_24
   have l6_34 := ek12 hA34 6 rfl l6_24
   have l7_34 := ek12 hA34 7 rfl l7_24
   have l34_34 := lookE hA34 34 (et rfl)
   clear hA34 hsz24 hdf24 l5_24 l6_24 l7_24 l20_24
   refine then_n (hK27 _ _ ?_)
   clear hK27
   refine cond_dec l34_34 (fun c35 => ?_) (fun c35 => ?_)
   ·refine wp_seq_k fun K36 hK36 => ?_
    refine region_in ?_
    refine W_v rfl rfl (V_asg rfl rfl) ?_
    refine W_end (gen_Q fun A37 hA37 => ?_)
    have hsz37 := szq hA37
    have hdf37 := dfE hA37 hdf34
    have l4_37 := lookE hA37 4 (et rfl)
    clear hA37 hsz34 hdf34 l5_34 l6_34 l7_34 l34_34
    have hS38 : St w NoX [] w33 := hS33.sel [] (by decide) rfl
    refine then_n (hK36 _ _ ?_)
    clear hK36
    refine wp_ret ?_
    refine inb_ret ?_
    refine then_ret ?_
    refine then_ret ?_
    refine inb_ret ?_
    refine then_ret ?_
    refine ret_in (results_1 Try.results20 (rv_tmp l4_37)) hdf37 ?_
    rw [show (decide (csF Xu = csF Yu ∧ ns = ms)) = false from decide_eq_false (fun q => eqL_ne ha28 ha30 (by simpa using c35) (al_eq.2 q))]
    exact ⟨rfl, hS38.fin0⟩
   ·refine wp_skip ?_
    refine inb_n ?_
    refine then_n (hK26 _ _ ?_)
    clear hK26
    refine region_in ?_
    refine W_v rfl rfl (V_mov rfl l7_34) ?_
    refine W_v rfl rfl (V_add rfl (et rfl) rfl (by omega) (by omega)) ?_
    refine W_v rfl rfl (V_asg rfl (et rfl)) ?_
    refine W_end (gen_Q fun A39 hA39 => ?_)
    have hsz39 := szq hA39
    have hdf39 := dfE hA39 hdf34
    have l5_39 := ek3 hA39 5 rfl l5_34
    have l6_39 := ek3 hA39 6 rfl l6_34
    have l7_39 := lookE hA39 7 (et rfl)
    clear hA39 hsz34 hdf34 l5_34 l6_34 l7_34 l34_34
    refine then_n ⟨(Xu ++ [(nv, ns)]).length - (k + 1), by simp only [hm21]; omega, hsz39, hdf39, (k + 1), rfl, (by omega), (eqL_step hz ha28 ha30 (by simpa using c35)), ((l7_39).trans (by first | rfl | (simp; done) | (congr 1; omega))), ((l5_39).trans l5_20.symm), ((l6_39).trans l6_20.symm), (by subst hc_7r_21 hc_6r_21; exact hS33)⟩
  ·refine wp_exit ?_
   refine then_exit ?_
   refine then_exit ?_
   refine inb_hit ?_
   refine then_n (hK18 _ _ ?_)
   clear hK18
   refine wp_seq_k fun K40 hK40 => ?_
   refine region_in ?_
   refine W_v rfl rfl (V_asg rfl rfl) ?_
   refine W_end (gen_Q fun A41 hA41 => ?_)
   have hsz41 := szq hA41
   have hdf41 := dfE hA41 hdf24
   have l4_41 := lookE hA41 4 (et rfl)
   clear hA41 hsz24 hdf24 l5_24 l6_24 l7_24 l20_24
   have hS42 : St w NoX [] w21 := hS21.sel [] (by decide) rfl
   refine then_n (hK40 _ _ ?_)
   clear hK40
   refine wp_ret ?_
   refine ret_in (results_1 Try.results20 (rv_tmp l4_41)) hdf41 ?_
   rw [show (decide (csF Xu = csF Yu ∧ ns = ms)) = true from decide_eq_true (al_eq.1 (eqL_all (k := k) hz (by simp only [List.length_append, csF_len, List.length_singleton]; omega) (by simp only [List.length_append, csF_len, List.length_singleton]; omega)))]
   exact ⟨rfl, hS42.fin0⟩

set_option maxHeartbeats 4000000 in
theorem qCt8_c {cv : Value} {X : List (List Int)} {nv : Value} {ns : List Int} {w : World} (h_cv : Ro w NoX (rmR cv X)) (h_nv : Ro w NoX (il .i64 nv ns)) (hxl : X.length ≤ 1000) :
  Calls Try.prog 21 #[.agg #[cv, nv]] w fun e w' => e = .returned (.tuple #[.int .i64 (ctP (X ++ [ns])).1, .int .i64 (ctP (X ++ [ns])).2]) ∧ St w NoX [] w' := by
 obtain ⟨Xu, hXu, k_cv, n_cv⟩ := rmR_open h_cv
 subst hXu
 have b_cv := SlN.le (sl_SlN k_cv.at)
 rw [csF_len] at hxl
 have hl1 := al_len Xu nv ns
 refine calls_in 32 Try.func21 rfl rfl (by simp) (fun A0 hsz0 hdf0 hargs => ?_)
 have l0_0 := hargs 0 (.agg #[cv, nv]) rfl
 clear hargs; replace hsz0 : SzN A0 32 := ⟨hsz0⟩
 have hS := St.nil w
 have bh_nv := SlN.le (sl_SlN h_nv.at)
 have bk_cv := SlN.le (sl_SlN k_cv.at)
 refine wp_seq_k fun K1 hK1 => ?_
 refine region_in ?_
 refine W_boxS (zs := #[cv, nv]) hS rfl rfl rfl l0_0 (by rfl) (fun g2 w2 c2 hc2 hS2 => ?_)
 replace hS2 : St w NoX [c2] w2 := hS2
 refine W_v rfl rfl (V_asg rfl rfl) ?_
 refine W_v rfl rfl (V_asg rfl rfl) ?_
 refine W_end (gen_Q fun A3 hA3 => ?_)
 have hsz3 := szq hA3
 have hdf3 := dfE hA3 hdf0
 have l1_3 := lookE hA3 1 (e2 rfl (et rfl))
 clear hA3 hsz0 hdf0 l0_0
 refine then_n (hK1 _ _ ?_)
 clear hK1
 refine wp_seq_k fun K4 hK4 => ?_
 refine region_in ?_
 refine W_v rfl rfl (V_asg rfl rfl) ?_
 refine W_end (gen_Q fun A5 hA5 => ?_)
 have hsz5 := szq hA5
 have hdf5 := dfE hA5 hdf3
 have l1_5 := lookE hA5 1 (es rfl l1_3)
 have l4_5 := lookE hA5 4 (et rfl)
 clear hA5 hsz3 hdf3 l1_3
 refine then_n (hK4 _ _ ?_)
 clear hK4
 refine wp_seq_k fun K6 hK6 => ?_
 refine region_in ?_
 refine W_r rfl rfl (VR_ldA rfl l1_5 (hS2.obj 0 rfl hc2) Try.underlying29 rfl (by kernel_rfl)) ?_
 refine W_call rfl rfl rfl Try.func57 (by kernel_rfl) rfl (args1 (et rfl)) (qall8_c (hS2.roC k_cv) (hS2.roC n_cv) (hS2.roC h_nv) (by first | with_reducible assumption | omega)) ?_
 rintro _ w7 ⟨v_7, rfl, hP7⟩
 refine ⟨_, rfl, ?_⟩
 obtain ⟨c_7, hc_7, hP7⟩ := gen1 hP7
 have hS7 := hS2.join hP7
 replace hS7 : St w NoX [c_7, c2] w7 := hS7
 refine W_v rfl rfl (V_asg rfl (et rfl)) ?_
 refine W_end (gen_Q fun A8 hA8 => ?_)
 have hsz8 := szq hA8
 have hdf8 := dfE hA8 hdf5
 have l4_8 := ek3 hA8 4 rfl l4_5
 have l5_8 := lookE hA8 5 (et rfl)
 clear hA8 hsz5 hdf5 l1_5 l4_5
 have hS9 : St w NoX [c_7] w7 := hS7.sel [0] (by decide) rfl
 refine then_n (hK6 _ _ ?_)
 clear hK6
 refine wp_seq_k fun K10 hK10 => ?_
 refine wp_seq_k fun K11 hK11 => ?_
 refine region_in ?_
 refine W_v rfl rfl (V_asg rfl rfl) ?_
 refine W_end (gen_Q fun A12 hA12 => ?_)
 have hsz12 := szq hA12
 have hdf12 := dfE hA12 hdf8
 have l4_12 := lookE hA12 4 (es rfl l4_8)
 have l5_12 := lookE hA12 5 (es rfl l5_8)
 have l6_12 := lookE hA12 6 (et rfl)
 clear hA12 hsz8 hdf8 l4_8 l5_8
 refine then_n (hK11 _ _ ?_)
 clear hK11
 refine wp_block ?_
 -- loop 4
 refine loopX (fun mz A' w' => SzN A' 32 ∧ A'.defers = [] ∧ (∃ (k : Nat) (n : Int), (mz = (Xu ++ [(nv, ns)]).length - k) ∧ (k ≤ (Xu ++ [(nv, ns)]).length) ∧ (ctP (csF Xu ++ [ns]) = ctGo n ((csF Xu ++ [ns]).drop k)) ∧ (0 ≤ n ∧ n ≤ 1600 * (k : Int)) ∧ (EV A' (.tmp 6) = .int .i64 (k : Int)) ∧ (EV A' (.tmp 4) = .int .i64 n) ∧ (EV A' (.tmp 5) = EV A12 (.tmp 5)) ∧ (St w NoX [ro 1 fstC v_7 (Xu ++ [(nv, ns)])] w'))) ((Xu ++ [(nv, ns)]).length - 0) ⟨hsz12, hdf12, 0, 0, rfl, (by omega), rfl, (by omega), ((l6_12).trans (by first | rfl | (simp; done) | (congr 1; omega))), ((l4_12).trans (rfl)), rfl, (by subst hc_7; exact hS9)⟩ ?_
 clear hS9 hc_7
 rintro n13 A13 w13 ⟨hsz13, hdf13, k, n, hm13, hk, hz, hn, l6_13, l4_13, u5_13, hS13⟩
 have l5_13 := u5_13.trans l5_12
 obtain ⟨c_13, hc_13, hS13⟩ := gen1 hS13
 refine wp_seq_k fun K14 hK14 => ?_
 refine wp_seq_k fun K15 hK15 => ?_
 refine region_in ?_
 refine W_v rfl rfl (V_mov rfl l6_13) ?_
 refine W_v rfl rfl (V_mov rfl (es rfl l5_13)) ?_
 refine W_v rfl rfl (V_lenS rfl (et rfl) (ow_at (hS13.chq 0 rfl hc_13)) Try.underlying24) ?_
 refine W_v rfl rfl (V_lss rfl (e2 rfl (et rfl)) (et rfl)) ?_
 refine W_end (gen_Q fun A16 hA16 => ?_)
 have hsz16 := szq hA16
 have hdf16 := dfE hA16 hdf13
 have l4_16 := ek4 hA16 4 rfl l4_13
 have l5_16 := ek4 hA16 5 rfl l5_13
 have l6_16 := ek4 hA16 6 rfl l6_13
 have l14_16 := lookE hA16 14 (et rfl)
 clear hA16 hsz13 hdf13 l6_13 l4_13 l5_13
 refine then_n (hK15 _ _ ?_)
 clear hK15
 refine cond_dec l14_16 (fun c17 => ?_) (fun c17 => ?_)
 ·refine wp_skip ?_
  refine then_n (hK14 _ _ ?_)
  clear hK14
  refine wp_seq_k fun K18 hK18 => ?_
  refine wp_block ?_
  refine wp_seq_k fun K19 hK19 => ?_
  refine region_in ?_
  refine W_v rfl rfl (V_mov rfl l5_16) ?_
  refine W_v rfl rfl (V_mov rfl (es rfl l6_16)) ?_
  have k20 : k < (Xu ++ [(nv, ns)]).length := by first | omega | (simp only [List.length_cons, List.length_nil]; omega) | (simp only [List.length_set]; omega) | decide
  obtain ⟨y20, hy20⟩ := get_some (xs := (Xu ++ [(nv, ns)])) (k := k) k20
  have ha20 := al_get hy20
  have hln20 := lnN_bd y20.2
  obtain ⟨B20, O20, C20, hv20⟩ := (SlN.blk (ow_at (hS13.chq 0 rfl hc_13)) (by first | omega | (simp only [List.length_cons, List.length_nil]; omega) | (simp only [List.length_set]; omega) | decide))
  refine W_v rfl rfl (V_ixS (off := O20 + k * 1) 1 (k) rfl (es rfl (et rfl)) (et rfl) hv20 (by omega) k20 Try.underlying24 (by kernel_rfl) rfl) ?_
  have fn21 : Ro w NoX (il .i64 y20.1 y20.2) := nsi_ro1 (nsi_app n_cv (nsi_one h_nv)) hy20
  have bfn21 := SlN.le (sl_SlN (hS13.ro fn21))
  refine W_r rfl rfl (VR_ldR (ys := fstC y20) rfl (et rfl) (SlN.row fstC_len (ow_at (hS13.chq 0 rfl hc_13)) hv20 hy20 rfl) Try.underlying27 rfl (by kernel_rfl)) ?_
  refine W_call rfl rfl rfl Try.func58 (by kernel_rfl) rfl (args1 (et rfl)) (qLen_c (hS13.roC fn21) ) ?_
  rintro _ w22 ⟨rfl, hP22⟩
  refine ⟨_, rfl, ?_⟩
  have hS22 := hS13.join hP22
  replace hS22 : St w NoX [c_13] w22 := hS22
  refine W_v rfl rfl (V_mov rfl (et rfl)) ?_
  refine W_v rfl rfl (V_ext (v := .int .i64 ((lnN y20.2))) rfl (et rfl) rfl) ?_
  refine W_v rfl rfl (V_ext (v := .int .i64 ((ckS y20.2).2)) rfl (es rfl (et rfl)) rfl) ?_
  refine W_v rfl rfl (V_asg rfl (es rfl (et rfl))) ?_
  refine W_v rfl rfl (V_asg rfl (es rfl (et rfl))) ?_
  refine W_end (gen_Q fun A23 hA23 => ?_)
  have hsz23 := szq hA23
  have hdf23 := dfE hA23 hdf16
  have l4_23 := ek10 hA23 4 rfl l4_16
  have l5_23 := ek10 hA23 5 rfl l5_16
  have l6_23 := ek10 hA23 6 rfl l6_16
  have l7_23 := lookE hA23 7 (es rfl (et rfl))
  have l8_23 := lookE hA23 8 (et rfl)
  clear hA23 hsz16 hdf16 l4_16 l5_16 l6_16 l14_16
  refine then_n (hK19 _ _ ?_)
  clear hK19
  refine wp_seq_k fun K24 hK24 => ?_
  refine wp_seq_k fun K25 hK25 => ?_
  refine region_in ?_
  refine W_v rfl rfl (V_mov rfl l8_23) ?_
  refine W_v rfl rfl (V_neq rfl (et rfl) rfl) ?_
  refine W_end (gen_Q fun A26 hA26 => ?_)
  have hsz26 := szq hA26
  have hdf26 := dfE hA26 hdf23
  have l4_26 := ek2 hA26 4 rfl l4_23
  have l5_26 := ek2 hA26 5 rfl l5_23
  have l6_26 := ek2 hA26 6 rfl l6_23
  have l7_26 := ek2 hA26 7 rfl l7_23
  have l8_26 := ek2 hA26 8 rfl l8_23
  have l26_26 := lookE hA26 26 (et rfl)
  clear hA26 hsz23 hdf23 l4_23 l5_23 l6_23 l7_23 l8_23
  refine then_n (hK25 _ _ ?_)
  clear hK25
  refine cond_dec l26_26 (fun c27 => ?_) (fun c27 => ?_)
  ·refine wp_seq_k fun K28 hK28 => ?_
   refine region_in ?_
   refine W_v rfl rfl (V_mov rfl l8_26) ?_
   refine W_v rfl rfl (V_asg rfl rfl) ?_
   refine W_v rfl rfl (V_asg rfl (es rfl (et rfl))) ?_
   refine W_end (gen_Q fun A29 hA29 => ?_)
   have hsz29 := szq hA29
   have hdf29 := dfE hA29 hdf26
   have l2_29 := lookE hA29 2 (es rfl (et rfl))
   have l3_29 := lookE hA29 3 (et rfl)
   clear hA29 hsz26 hdf26 l4_26 l5_26 l6_26 l7_26 l8_26 l26_26
   have hS30 : St w NoX [] w22 := hS22.sel [] (by decide) rfl
   refine then_n (hK28 _ _ ?_)
   clear hK28
   refine wp_ret ?_
   refine then_ret ?_
   refine inb_ret ?_
   refine then_ret ?_
   refine then_ret ?_
   refine inb_ret ?_
   refine then_ret ?_
   refine ret_in (results_2 Try.results21 (rv_tmp l2_29) (rv_tmp l3_29)) hdf29 ?_
   have he := ct_hit hz ha20 (by omega)
   rw [he]
   exact ⟨rfl, hS30.fin0⟩
  ·refine wp_skip ?_
   refine then_n (hK24 _ _ ?_)
   clear hK24
   refine region_in ?_
   refine W_v rfl rfl (V_mov rfl l4_26) ?_
   refine W_v rfl rfl (V_mov rfl (es rfl l7_26)) ?_
   refine W_v rfl rfl (V_add rfl (es rfl (et rfl)) (et rfl) (by omega) (by omega)) ?_
   refine W_v rfl rfl (V_asg rfl (et rfl)) ?_
   refine W_end (gen_Q fun A31 hA31 => ?_)
   have hsz31 := szq hA31
   have hdf31 := dfE hA31 hdf26
   have l4_31 := lookE hA31 4 (et rfl)
   have l5_31 := ek4 hA31 5 rfl l5_26
   have l6_31 := ek4 hA31 6 rfl l6_26
   clear hA31 hsz26 hdf26 l4_26 l5_26 l6_26 l7_26 l8_26 l26_26
   refine inb_n ?_
   refine then_n (hK18 _ _ ?_)
   clear hK18
   refine region_in ?_
   refine W_v rfl rfl (V_mov rfl l6_31) ?_
   refine W_v rfl rfl (V_add rfl (et rfl) rfl (by omega) (by omega)) ?_
   refine W_v rfl rfl (V_asg rfl (et rfl)) ?_
   refine W_end (gen_Q fun A32 hA32 => ?_)
   have hsz32 := szq hA32
   have hdf32 := dfE hA32 hdf31
   have l4_32 := ek3 hA32 4 rfl l4_31
   have l5_32 := ek3 hA32 5 rfl l5_31
   have l6_32 := lookE hA32 6 (et rfl)
   clear hA32 hsz31 hdf31 l4_31 l5_31 l6_31
   refine then_n ⟨(Xu ++ [(nv, ns)]).length - (k + 1), by simp only [hm13]; omega, hsz32, hdf32, (k + 1), (n + lnN y20.2), rfl, (by omega), (ct_step hz ha20 (by omega)), (by omega), ((l6_32).trans (by first | rfl | (simp; done) | (congr 1; omega))), ((l4_32).trans (rfl)), ((l5_32).trans l5_12.symm), (by subst hc_13; exact hS22)⟩
 ·refine wp_exit ?_
  refine then_exit ?_
  refine then_exit ?_
  refine inb_hit ?_
  refine then_n (hK10 _ _ ?_)
  clear hK10
  refine wp_seq_k fun K33 hK33 => ?_
  refine region_in ?_
  refine W_v rfl rfl (V_mov rfl l4_16) ?_
  refine W_v rfl rfl (V_asg rfl (et rfl)) ?_
  refine W_v rfl rfl (V_asg rfl rfl) ?_
  refine W_end (gen_Q fun A34 hA34 => ?_)
  have hsz34 := szq hA34
  have hdf34 := dfE hA34 hdf16
  have l2_34 := lookE hA34 2 (es rfl (et rfl))
  have l3_34 := lookE hA34 3 (et rfl)
  clear hA34 hsz16 hdf16 l4_16 l5_16 l6_16 l14_16
  have hS35 : St w NoX [] w13 := hS13.sel [] (by decide) rfl
  refine then_n (hK33 _ _ ?_)
  clear hK33
  refine wp_ret ?_
  refine ret_in (results_2 Try.results21 (rv_tmp l2_34) (rv_tmp l3_34)) hdf34 ?_
  have he := ct_end hz (by simp only [List.length_append, csF_len, List.length_singleton]; omega)
  rw [he]
  exact ⟨rfl, hS35.fin0⟩

set_option maxHeartbeats 4000000 in
theorem kIn8_c {cv : Value} {X : List (List Int)} {nv : Value} {ns : List Int} {i : Int} {w : World} (h_cv : Ro w NoX (rmR cv X)) (h_nv : Ro w NoX (il .i64 nv ns))  :
  Calls Try.prog 12 #[.agg #[cv, nv], .int .i64 i] w fun e w' => ∃ v, e = .returned (.tuple #[v, .int .i64 (itE X i)]) ∧ St w NoX [io .i64 (v) (itT X i)] w' := by
 obtain ⟨Xu, hXu, k_cv, n_cv⟩ := rmR_open h_cv
 subst hXu
 have b_cv := SlN.le (sl_SlN k_cv.at)
 refine calls_in 23 Try.func12 rfl rfl (by simp) (fun A0 hsz0 hdf0 hargs => ?_)
 have l0_0 := hargs 0 (.agg #[cv, nv]) rfl
 have l1_0 := hargs 1 (.int .i64 i) rfl
 clear hargs; replace hsz0 : SzN A0 23 := ⟨hsz0⟩
 have hS := St.nil w
 have bh_nv := SlN.le (sl_SlN h_nv.at)
 have bk_cv := SlN.le (sl_SlN k_cv.at)
 refine wp_seq_k fun K1 hK1 => ?_
 refine region_in ?_
 refine W_boxS (zs := #[cv, nv]) hS rfl rfl rfl l0_0 (by rfl) (fun g2 w2 c2 hc2 hS2 => ?_)
 replace hS2 : St w NoX [c2] w2 := hS2
 refine W_v rfl rfl (V_asg rfl rfl) ?_
 refine W_v rfl rfl (V_asg rfl rfl) ?_
 refine W_end (gen_Q fun A3 hA3 => ?_)
 have hsz3 := szq hA3
 have hdf3 := dfE hA3 hdf0
 have l1_3 := ek3 hA3 1 rfl l1_0
 have l2_3 := lookE hA3 2 (e2 rfl (et rfl))
 clear hA3 hsz0 hdf0 l0_0 l1_0
 refine then_n (hK1 _ _ ?_)
 clear hK1
 refine wp_seq_k fun K4 hK4 => ?_
 refine wp_seq_k fun K5 hK5 => ?_
 refine region_in ?_
 refine W_v rfl rfl (V_mov rfl l1_3) ?_
 refine W_v rfl rfl (V_lss rfl (et rfl) rfl) ?_
 refine W_split rfl rfl (V_mov rfl (et rfl)) (fun c6 => ?_) (fun c6 => ?_)
 ·refine W_off rfl (wanted_f rfl rfl (et rfl) (ez rfl) rfl) ?_
  refine W_off rfl (wanted_f rfl rfl (es rfl (et rfl)) (ez rfl) rfl) ?_
  refine W_off rfl (wanted_f rfl rfl (e2 rfl (et rfl)) (ez rfl) rfl) ?_
  refine W_off rfl (wanted_f rfl rfl (e3 rfl (et rfl)) (ez rfl) rfl) ?_
  refine W_off rfl (wanted_f rfl rfl (e4 rfl (et rfl)) (ez rfl) rfl) ?_
  refine W_v rfl rfl (V_pickT rfl (e5 rfl (et rfl)) rfl) ?_
  refine W_end (gen_Q fun A7 hA7 => ?_)
  have hsz7 := szq hA7
  have hdf7 := dfE hA7 hdf3
  have l1_7 := ek9 hA7 1 rfl l1_3
  have l2_7 := ek9 hA7 2 rfl l2_3
  have l14_7 := lookE hA7 14 (et rfl)
  clear hA7 hsz3 hdf3 l1_3 l2_3
  refine then_n (hK5 _ _ ?_)
  clear hK5
  refine cond_t l14_7 ?_
  refine wp_seq_k fun K8 hK8 => ?_
  refine region_in ?_
  refine W_v rfl rfl (V_asg rfl rfl) ?_
  refine W_v rfl rfl (V_asg rfl rfl) ?_
  refine W_end (gen_Q fun A9 hA9 => ?_)
  have hsz9 := szq hA9
  have hdf9 := dfE hA9 hdf7
  have l4_9 := lookE hA9 4 (es rfl (et rfl))
  have l5_9 := lookE hA9 5 (et rfl)
  clear hA9 hsz7 hdf7 l1_7 l2_7 l14_7
  have hS10 : St w NoX [] w2 := hS2.sel [] (by decide) rfl
  refine then_n (hK8 _ _ ?_)
  clear hK8
  refine wp_ret ?_
  refine then_ret ?_
  refine ret_in (results_2 Try.results12 (rv_tmp l4_9) (rv_tmp l5_9)) hdf9 ?_
  obtain ⟨c11, hc11, hS11⟩ := hS10.pnil (s := 1)
  have hb := it_bad (X := csF Xu) (i := i) (by rw [csF_len]; omega)
  rw [hb.1]
  exact ⟨_, rfl, (hS11.fin1 0 rfl (hc11.trans (by rw [show itT (csF Xu) i = [] by exact hb.2] <;> rfl)))⟩
 ·refine W_v rfl (wanted_t rfl rfl (et rfl) (ez rfl)) (V_mov rfl (e3 rfl l1_3)) ?_
  refine W_v rfl (wanted_t rfl rfl (es rfl (et rfl)) (ez rfl)) (V_fa (off' := 0) rfl (e4 rfl l2_3) Try.underlying29 rfl (by decide +kernel) rfl) ?_
  refine W_r rfl (wanted_t rfl rfl (e2 rfl (et rfl)) (ez rfl)) (VR_ldC rfl (et rfl) (cell_box (v := cv) (hS2.obj 0 rfl hc2) rfl) Try.underlying24 rfl) ?_
  refine W_v rfl (wanted_t rfl rfl (e3 rfl (et rfl)) (ez rfl)) (V_lenS rfl (et rfl) (sl_SlN k_cv.at) Try.underlying24) ?_
  refine W_v rfl (wanted_t rfl rfl (e4 rfl (et rfl)) (ez rfl)) (V_geq rfl (e3 rfl (et rfl)) (et rfl)) ?_
  refine W_v rfl rfl (V_pickF rfl (e5 rfl (et rfl)) (et rfl)) ?_
  refine W_end (gen_Q fun A12 hA12 => ?_)
  have hsz12 := szq hA12
  have hdf12 := dfE hA12 hdf3
  have l1_12 := ek9 hA12 1 rfl l1_3
  have l2_12 := ek9 hA12 2 rfl l2_3
  have l14_12 := lookE hA12 14 (et rfl)
  clear hA12 hsz3 hdf3 l1_3 l2_3
  refine then_n (hK5 _ _ ?_)
  clear hK5
  refine cond_dec l14_12 (fun c13 => ?_) (fun c13 => ?_)
  ·refine wp_seq_k fun K14 hK14 => ?_
   refine region_in ?_
   refine W_v rfl rfl (V_asg rfl rfl) ?_
   refine W_v rfl rfl (V_asg rfl rfl) ?_
   refine W_end (gen_Q fun A15 hA15 => ?_)
   have hsz15 := szq hA15
   have hdf15 := dfE hA15 hdf12
   have l4_15 := lookE hA15 4 (es rfl (et rfl))
   have l5_15 := lookE hA15 5 (et rfl)
   clear hA15 hsz12 hdf12 l1_12 l2_12 l14_12
   have hS16 : St w NoX [] w2 := hS2.sel [] (by decide) rfl
   refine then_n (hK14 _ _ ?_)
   clear hK14
   refine wp_ret ?_
   refine then_ret ?_
   refine ret_in (results_2 Try.results12 (rv_tmp l4_15) (rv_tmp l5_15)) hdf15 ?_
   obtain ⟨c17, hc17, hS17⟩ := hS16.pnil (s := 1)
   have hb := it_bad (X := csF Xu) (i := i) (by rw [csF_len]; omega)
   rw [hb.1]
   exact ⟨_, rfl, (hS17.fin1 0 rfl (hc17.trans (by rw [show itT (csF Xu) i = [] by exact hb.2] <;> rfl)))⟩
  ·refine wp_skip ?_
   refine then_n (hK4 _ _ ?_)
   clear hK4
   refine wp_seq_k fun K18 hK18 => ?_
   refine region_in ?_
   refine W_v rfl rfl (V_fa (off' := 0) rfl l2_12 Try.underlying29 rfl (by decide +kernel) rfl) ?_
   refine W_r rfl rfl (VR_ldC rfl (et rfl) (cell_box (v := cv) (hS2.obj 0 rfl hc2) rfl) Try.underlying24 rfl) ?_
   refine W_v rfl rfl (V_mov rfl (e2 rfl l1_12)) ?_
   have k19 : i.toNat < Xu.length := by first | omega | (simp only [List.length_cons, List.length_nil]; omega) | (simp only [List.length_set]; omega) | decide
   obtain ⟨y19, hy19⟩ := get_some (xs := Xu) (k := i.toNat) k19
   obtain ⟨B19, O19, C19, hv19⟩ := (SlN.blk (sl_SlN k_cv.at) (by first | omega | (simp only [List.length_cons, List.length_nil]; omega) | (simp only [List.length_set]; omega) | decide))
   refine W_v rfl rfl (V_ixS (off := O19 + i.toNat * 1) 1 (i.toNat) rfl (es rfl (et rfl)) (et rfl) hv19 (by omega) k19 Try.underlying24 (by kernel_rfl) rfl) ?_
   have fn20 : Ro w NoX (il .i64 y19.1 y19.2) := nsi_ro1 n_cv hy19
   have bfn20 := SlN.le (sl_SlN (hS2.ro fn20))
   refine W_r rfl rfl (VR_ldR (ys := fstC y19) rfl (et rfl) (SlN.row fstC_len (sl_SlN (hS2.ro k_cv)) hv19 hy19 rfl) Try.underlying27 rfl (by kernel_rfl)) ?_
   refine W_call rfl rfl rfl Try.func44 (by kernel_rfl) rfl (args1 (et rfl)) (kList_c (hS2.roC fn20) ) ?_
   rintro _ w21 ⟨v_21, rfl, hP21⟩
   refine ⟨_, rfl, ?_⟩
   obtain ⟨c_21, hc_21, hP21⟩ := gen1 hP21
   have hS21 := hS2.join hP21
   replace hS21 : St w NoX [c_21, c2] w21 := hS21
   refine W_v rfl rfl (V_ext (v := v_21) rfl (et rfl) rfl) ?_
   refine W_v rfl rfl (V_ext (v := .int .i64 ((ckS y19.2).2)) rfl (es rfl (et rfl)) rfl) ?_
   refine W_v rfl rfl (V_asg rfl (es rfl (et rfl))) ?_
   refine W_v rfl rfl (V_asg rfl (es rfl (et rfl))) ?_
   refine W_end (gen_Q fun A22 hA22 => ?_)
   have hsz22 := szq hA22
   have hdf22 := dfE hA22 hdf12
   have l4_22 := lookE hA22 4 (es rfl (et rfl))
   have l5_22 := lookE hA22 5 (et rfl)
   clear hA22 hsz12 hdf12 l1_12 l2_12 l14_12
   have hS23 : St w NoX [c_21] w21 := hS21.sel [0] (by decide) rfl
   refine then_n (hK18 _ _ ?_)
   clear hK18
   refine wp_ret ?_
   refine ret_in (results_2 Try.results12 (rv_tmp l4_22) (rv_tmp l5_22)) hdf22 ?_
   have hb := it_ok (X := csF Xu) (i := i) (by rw [csF_len]; omega) rfl (csF_at hy19)
   rw [hb.1]
   exact ⟨_, rfl, (hS23.fin1 0 rfl (hc_21.trans (congrArg (io .i64 _) (by rw [hb.2]))))⟩

set_option maxHeartbeats 4000000 in
theorem kYg8_c {cv : Value} {X : List (List Int)} {nv : Value} {ns : List Int} {w : World} (h_cv : Ro w NoX (rmR cv X)) (h_nv : Ro w NoX (il .i64 nv ns))  :
  Calls Try.prog 34 #[.agg #[cv, nv]] w fun e w' => ∃ v, e = .returned (.tuple #[v, .int .i64 (ckS ns).2]) ∧ St w NoX [io .i64 (v) (lsT ns)] w' := by
 refine calls_in 9 Try.func34 rfl rfl (by simp) (fun A0 hsz0 hdf0 hargs => ?_)
 have l0_0 := hargs 0 (.agg #[cv, nv]) rfl
 clear hargs; replace hsz0 : SzN A0 9 := ⟨hsz0⟩
 have hS := St.nil w
 have bh_nv := SlN.le (sl_SlN h_nv.at)
 refine wp_seq_k fun K1 hK1 => ?_
 refine region_in ?_
 refine W_boxS (zs := #[cv, nv]) hS rfl rfl rfl l0_0 (by rfl) (fun g2 w2 c2 hc2 hS2 => ?_)
 replace hS2 : St w NoX [c2] w2 := hS2
 refine W_v rfl rfl (V_asg rfl rfl) ?_
 refine W_v rfl rfl (V_asg rfl rfl) ?_
 refine W_end (gen_Q fun A3 hA3 => ?_)
 have hsz3 := szq hA3
 have hdf3 := dfE hA3 hdf0
 have l1_3 := lookE hA3 1 (e2 rfl (et rfl))
 clear hA3 hsz0 hdf0 l0_0
 refine then_n (hK1 _ _ ?_)
 clear hK1
 refine wp_seq_k fun K4 hK4 => ?_
 refine region_in ?_
 refine W_v rfl rfl (V_fa (off' := 1) rfl l1_3 Try.underlying29 rfl (by decide +kernel) rfl) ?_
 refine W_r rfl rfl (VR_ldP (ys := [nv]) rfl (et rfl) (hS2.obj 0 rfl hc2) (ldP_at rfl) Try.underlying27 rfl (by kernel_rfl)) ?_
 refine W_call rfl rfl rfl Try.func44 (by kernel_rfl) rfl (args1 (et rfl)) (kList_c (hS2.roC h_nv) ) ?_
 rintro _ w5 ⟨v_5, rfl, hP5⟩
 refine ⟨_, rfl, ?_⟩
 obtain ⟨c_5, hc_5, hP5⟩ := gen1 hP5
 have hS5 := hS2.join hP5
 replace hS5 : St w NoX [c_5, c2] w5 := hS5
 refine W_v rfl rfl (V_ext (v := v_5) rfl (et rfl) rfl) ?_
 refine W_v rfl rfl (V_ext (v := .int .i64 ((ckS ns).2)) rfl (es rfl (et rfl)) rfl) ?_
 refine W_v rfl rfl (V_asg rfl (es rfl (et rfl))) ?_
 refine W_v rfl rfl (V_asg rfl (es rfl (et rfl))) ?_
 refine W_end (gen_Q fun A6 hA6 => ?_)
 have hsz6 := szq hA6
 have hdf6 := dfE hA6 hdf3
 have l2_6 := lookE hA6 2 (es rfl (et rfl))
 have l3_6 := lookE hA6 3 (et rfl)
 clear hA6 hsz3 hdf3 l1_3
 have hS7 : St w NoX [c_5] w5 := hS5.sel [0] (by decide) rfl
 refine then_n (hK4 _ _ ?_)
 clear hK4
 refine wp_ret ?_
 refine ret_in (results_2 Try.results34 (rv_tmp l2_6) (rv_tmp l3_6)) hdf6 ?_
 exact ⟨_, rfl, (hS7.fin1 0 rfl (hc_5))⟩

end Go.Proofs.Yteppjefmlibmoaa