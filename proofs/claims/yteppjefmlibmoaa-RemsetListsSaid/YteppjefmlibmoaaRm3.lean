import Derived.Test.YteppjefmlibmoaaProg
import Derived.Test.YteppjefmlibmoaaRm2
import Derived.Test.YteppjefmlibmoaaPl8c
namespace Go.Proofs.Yteppjefmlibmoaa
open Go.RowKit Go.Own Go.Own.R Go.Own.S Go.Own.E


set_option maxHeartbeats 4000000 in
theorem qwr_c {C : Int} {N : Int} {Z : Int} {K : Int} {Q : Int} {cv : Value} {c : List Int} {i : Int} {w : World} (h_cv : Ro w NoX (il .i64 cv c))  :
  Calls Try.prog 56 #[.agg #[.int .i64 C, .int .i64 N, .int .i64 Z, .int .i64 K, .int .i64 Q], .agg #[cv], .int .i64 i] w fun e w' => e = .returned (.int .i64 (wrE C N Z K Q c i)) ∧ St w NoX [] w' := by
 refine calls_in 46 Try.func56 rfl rfl (by simp) (fun A0 Y0 hdf0 hargs => ?_)
 have l0_0 := hargs 0 (.agg #[.int .i64 C, .int .i64 N, .int .i64 Z, .int .i64 K, .int .i64 Q]) rfl
 have l1_0 := hargs 1 (.agg #[cv]) rfl
 have l2_0 := hargs 2 (.int .i64 i) rfl
 clear hargs; replace Y0 : SzN A0 46 := ⟨Y0⟩
 have hS := St.nil w
 have bh_cv := SlN.le (sl_SlN h_cv.at)
 refine wp_seq_k fun K1 H1 => ?_
 refine region_in ?_
 refine W_boxS (zs := #[.int .i64 (C), .int .i64 (N), .int .i64 (Z), .int .i64 (K), .int .i64 (Q)]) hS rfl rfl rfl l0_0 (by rfl) (fun g2 w2 c2 hc2 S2 => ?_)
 replace S2 : St w NoX [c2] w2 := S2
 refine W_boxS (zs := #[cv]) S2 rfl rfl rfl (es rfl l1_0) (by rfl) (fun g3 w3 c3 hc3 S3 => ?_)
 replace S3 : St w NoX [c3, c2] w3 := S3
 refine W_v rfl rfl (V_asg rfl rfl) ?_
 refine W_end (gen_Q fun A4 E4 => ?_)
 have Y4 := szq E4
 have F4 := (fsE E4 (cq1 (ck (ck (FS.n hdf0) rfl rfl) rfl rfl) rfl)).c (lookE E4 2 (es3 rfl l2_0))
 clear E4 Y0 hdf0 l0_0 l1_0 l2_0
 refine tk H1 ?_
 refine wp_seq_k fun K5 H5 => ?_
 refine region_in ?_
 refine W_r rfl rfl (VR_ldA rfl (fg1 F4) (S3.obj 0 rfl hc3) Try.underlying27 rfl (by kernel_rfl)) ?_
 refine W_call rfl rfl rfl Try.func65 (by kernel_rfl) rfl (args1 (et rfl)) (qList_c (S3.roC h_cv) ) ?_
 rintro _ w6 ⟨v_6, rfl, hP6⟩
 refine ⟨_, rfl, ?_⟩
 obtain ⟨c_6, hc_6, hP6⟩ := gen1 hP6
 have S6 := S3.join hP6
 replace S6 : St w NoX [c_6, c3, c2] w6 := S6
 refine W_v rfl rfl (V_mov rfl (et rfl)) ?_
 refine W_v rfl rfl (V_ext (v := v_6) rfl (et rfl) rfl) ?_
 refine W_v rfl rfl (V_ext (v := .int .i64 ((ckS c).2)) rfl (es rfl (et rfl)) rfl) ?_
 refine W_v rfl rfl (V_asg rfl (es rfl (et rfl))) ?_
 refine W_v rfl rfl (V_asg rfl (es rfl (et rfl))) ?_
 refine W_end (gen_Q fun A7 E7 => ?_)
 have Y7 := szq E7
 have F7 := fsE E7 (ck (ck (cq5 F4 rfl) rfl rfl) rfl rfl)
 clear E7 Y4 F4
 have S8 : St w NoX [c_6, c2] w6 := S6.sel [0, 2] (by decide) rfl
 refine tk H5 ?_
 refine wp_seq_k fun K9 H9 => ?_
 refine wp_seq_k fun K10 H10 => ?_
 refine region_in ?_
 refine W_v rfl rfl (V_mov rfl (fg0 F7)) ?_
 refine W_v rfl rfl (V_neq rfl (et rfl) rfl) ?_
 refine W_end (gen_Q fun A11 E11 => ?_)
 have Y11 := szq E11
 have F11 := fsE E11 (ck (cq1 F7 rfl) rfl rfl)
 clear E11 Y7 F7
 refine tk H10 ?_
 refine cond_dec (fg0 F11) (fun c12 => ?_) (fun c12 => ?_)
 ·refine wp_seq_k fun K13 H13 => ?_
  refine region_in ?_
  refine W_v rfl rfl (V_mov rfl (fg1 F11)) ?_
  refine W_v rfl rfl (V_asg rfl (et rfl)) ?_
  refine W_end (gen_Q fun A14 E14 => ?_)
  have Y14 := szq E14
  have F14 := fsE E14 (ck (cq1 F11 rfl) rfl rfl)
  clear E14 Y11 F11
  have S15 : St w NoX [] w6 := S8.sel [] (by decide) rfl
  refine tk H13 ?_
  refine wp_ret ?_
  refine then_ret ?_
  refine ret_in (results_1 Try.results56 (rv_tmp (fg0 F14))) F14.d ?_
  have he : wrE C N Z K Q c i = (ckS c).2 := wr_ck (by omega)
  rw [he]
  exact ⟨rfl, S15.fin0⟩
 have hck : (ckS c).2 = 0 := by omega
 have hll := lsT_len c
 refine wp_skip ?_
 refine tk H9 ?_
 refine wp_seq_k fun K16 H16 => ?_
 refine wp_seq_k fun K17 H17 => ?_
 refine region_in ?_
 refine W_v rfl rfl (V_asg rfl rfl) ?_
 refine W_end (gen_Q fun A18 E18 => ?_)
 have Y18 := szq E18
 have F18 := fsE E18 (cq1 F11 rfl)
 have l9_18 := lookE E18 9 (et rfl)
 clear E18 Y11 F11
 refine tk H17 ?_
 refine wp_block ?_
 -- loop 5
 refine loopX (fun mz A' w' => SzN A' 46 ∧ A'.defers = [] ∧ (∃ (k : Nat), (mz = (lsT c).length - k) ∧ (k ≤ (lsT c).length) ∧ (∀ a ∈ (lsT c).take k, ¬ bdA C N Z K Q i a = true) ∧ (EV A' (.tmp 9) = .int .i64 (k : Int)) ∧ (EV A' (.tmp 2) = EV A18 (.tmp 2)) ∧ (EV A' (.tmp 3) = EV A18 (.tmp 3)) ∧ (EV A' (.tmp 7) = EV A18 (.tmp 7)) ∧ (St w NoX [io .i64 v_6 (lsT c), bx g2 23 #[.int .i64 (C), .int .i64 (N), .int .i64 (Z), .int .i64 (K), .int .i64 (Q)]] w'))) ((lsT c).length - 0) ⟨Y18, F18.d, 0, rfl, (by omega), (fun a ha => by simp at ha), ((l9_18).trans (by first | rfl | (simp; done) | (congr 1; omega))), rfl, rfl, rfl, (by subst hc_6 hc2; exact S8)⟩ ?_
 clear S8 hc_6 hc2
 rintro n19 A19 w19 ⟨Y19, hdf19, k, hm19, hk, hb, l9_19, u2_19, u3_19, u7_19, S19⟩
 have l2_19 := u2_19.trans (fg3 F18)
 have l3_19 := u3_19.trans (fg5 F18)
 have l7_19 := u7_19.trans (fg2 F18)
 obtain ⟨c_19, c2_19, hc_19, hc2_19, S19⟩ := gen2 S19
 refine wp_seq_k fun K20 H20 => ?_
 refine wp_seq_k fun K21 H21 => ?_
 refine region_in ?_
 refine W_v rfl rfl (V_mov rfl l9_19) ?_
 refine W_v rfl rfl (V_mov rfl (es rfl l7_19)) ?_
 refine W_v rfl rfl (V_lenS rfl (et rfl) (ow_at (S19.chq 0 rfl hc_19)) Try.underlying25) ?_
 refine W_v rfl rfl (V_lss rfl (es2 rfl (et rfl)) (et rfl)) ?_
 refine W_end (gen_Q fun A22 E22 => ?_)
 have Y22 := szq E22
 have F22 := ((((fsE E22 (ck (cq3 (FS.n hdf19) rfl) rfl rfl)).c (lookE E22 2 (es4 rfl l2_19))).c (lookE E22 3 (es4 rfl l3_19))).c (lookE E22 7 (es4 rfl l7_19))).c (lookE E22 9 (es4 rfl l9_19))
 clear E22 Y19 hdf19 l9_19 l2_19 l3_19 l7_19
 refine tk H21 ?_
 refine cond_dec (fg4 F22) (fun c23 => ?_) (fun c23 => ?_)
 ·refine wp_skip ?_
  refine tk H20 ?_
  refine wp_seq_k fun K24 H24 => ?_
  refine wp_block ?_
  refine wp_seq_k fun K25 H25 => ?_
  have k26 : k < (lsT c).length := by first | omega | (simp only [List.length_cons, List.length_nil]; omega) | (simp only [List.length_set]; omega) | decide
  obtain ⟨y26, hy26⟩ := get_some (xs := (lsT c)) (k := k) k26
  refine region_monoS 11 11 [none, none, none, none, none, some (SPv [] (fun _ => fun u l' => u = .tuple #[.int .i64 (caN C N Z K Q y26), .int .i64 (caE C N Z K Q y26)] ∧ l' = []) 5)] (by kernel_rfl) (by kernel_rfl) ?_
  refine D_r rfl rfl (by kernel_rfl) (fun sx hx hF => (VR_ldA rfl (fg2 F22) ((S19.grow hx).obj 1 rfl hc2_19) Try.underlying23 rfl (by kernel_rfl))) rfl rfl ?_
  refine D_v rfl rfl (V_mov rfl (es rfl (fg1 F22))) rfl rfl ?_
  refine D_v rfl rfl (V_mov rfl (es2 rfl (fg0 F22))) rfl rfl ?_
  obtain ⟨B26, O26, C26, hv26⟩ := (SlN.blk (ow_at (S19.chq 0 rfl hc_19)) (by first | omega | (simp only [List.length_cons, List.length_nil]; omega) | (simp only [List.length_set]; omega) | decide))
  refine D_v rfl rfl (V_ixS (off := O26 + k) 1 (k) rfl (es rfl (et rfl)) (et rfl) hv26 (by omega) k26 Try.underlying25 (by kernel_rfl) (congrArg _ (Nat.mul_one _))) rfl rfl ?_
  refine D_r rfl rfl (by kernel_rfl) (fun sx hx hF => (VR_ldC rfl (et rfl) ((ow_at ((S19.grow hx).chq 0 rfl hc_19)).cell hv26 (map_get hy26)) Try.underlying3 rfl)) rfl rfl ?_
  refine D_call (ts := []) (vs := []) (C0 := fun _ => fun u l' => u = .tuple #[.int .i64 (caN C N Z K Q y26), .int .i64 (caE C N Z K Q y26)] ∧ l' = []) (C := fun u l' => u = .tuple #[.int .i64 (caN C N Z K Q y26), .int .i64 (caE C N Z K Q y26)] ∧ l' = []) rfl rfl rfl Try.func24 (by kernel_rfl) rfl (args2 (es4 rfl (et rfl)) (et rfl)) rfl rfl rfl rfl (fun sx hx hF => ?_) (fun u27 l27 hu27 => ?_)
  ·refine (qca_c (C := C) (N := N) (Z := Z) (K := K) (Q := Q) (a := y26)  ).mono ?_
   rintro _ _ ⟨rfl, hz⟩
   exact ⟨_, rfl, _, ⟨rfl, rfl⟩, hz⟩
  obtain ⟨rfl, hl27⟩ := hu27
  refine D_v rfl rfl (V_mov rfl (et rfl)) rfl rfl ?_
  refine D_v rfl rfl (V_ext (v := .int .i64 ((caN C N Z K Q y26))) rfl (et rfl) rfl) rfl rfl ?_
  refine D_v rfl rfl (V_ext (v := .int .i64 ((caE C N Z K Q y26))) rfl (es rfl (et rfl)) rfl) rfl rfl ?_
  refine D_v rfl rfl (V_asg rfl (es rfl (et rfl))) rfl rfl ?_
  refine D_v rfl rfl (V_asg rfl (es rfl (et rfl))) rfl rfl ?_
  refine ZS_none S19 (Nat.le_refl _) (Nat.le_refl _) (fun s28 hJ28 hL28 hF28 => ?_)
  obtain ⟨ll27, ws27, we27, ⟨hq27, hl27r⟩, hm27, k27, e27⟩ := L.all_get hF28; cases hq27; subst hl27r
  replace hJ28 := hJ28.add hL28 (i := 5) rfl hm27 k27 e27
  have S28 := hJ28.st; clear hF28 hJ28 hL28
  generalize s28.1 = w28 at *
  replace S28 : St w NoX [c_19, c2_19] w28 := S28
  refine gen_Q (fun A29 E29 => ?_)
  have Y29 := szq E29
  have F29 := fsE E29 (ck (ck (cq1 (cq8 F22 rfl) rfl) rfl rfl) rfl rfl)
  clear E29 Y22 F22
  refine tk H25 ?_
  refine wp_seq_k fun K30 H30 => ?_
  refine region_in ?_
  refine W_v rfl rfl (V_mov rfl (fg0 F29)) ?_
  refine W_v rfl rfl (V_neq rfl (et rfl) rfl) ?_
  refine W_split rfl rfl (V_mov rfl (et rfl)) (fun c31 => ?_) (fun c31 => ?_)
  ·refine W_off rfl (wanted_f rfl rfl (et rfl) (ez rfl) rfl) ?_
   refine W_off rfl (wanted_f rfl rfl (es rfl (et rfl)) (ez rfl) rfl) ?_
   refine W_v rfl rfl (V_pickT rfl (es2 rfl (et rfl)) rfl) ?_
   refine W_v rfl rfl (V_mov rfl (et rfl)) ?_
   refine W_off rfl (wanted_f rfl rfl (et rfl) (ez rfl) rfl) ?_
   refine W_off rfl (wanted_f rfl rfl (es rfl (et rfl)) (ez rfl) rfl) ?_
   refine W_off rfl (wanted_f rfl rfl (es2 rfl (et rfl)) (ez rfl) rfl) ?_
   refine W_v rfl rfl (V_pickT rfl (es3 rfl (et rfl)) rfl) ?_
   refine W_end (gen_Q fun A32 E32 => ?_)
   have Y32 := szq E32
   have F32 := fsE E32 (ck (ck (ck (ck (cq2 (ck (ck (cq3 F29 rfl) rfl rfl) rfl rfl) rfl) rfl rfl) rfl rfl) rfl rfl) rfl rfl)
   clear E32 Y29 F29
   refine tk H30 ?_
   refine cond_t (fg0 F32) ?_
   refine wp_seq_k fun K33 H33 => ?_
   refine region_in ?_
   refine W_v rfl rfl (V_asg rfl rfl) ?_
   refine W_end (gen_Q fun A34 E34 => ?_)
   have Y34 := szq E34
   have F34 := fsE E34 (ck F32 rfl rfl)
   clear E34 Y32 F32
   have S35 : St w NoX [] w28 := S28.sel [] (by decide) rfl
   refine tk H33 ?_
   refine wp_ret ?_
   refine inb_ret ?_
   refine then_ret ?_
   refine then_ret ?_
   refine inb_ret ?_
   refine then_ret ?_
   refine ret_in (results_1 Try.results56 (rv_tmp (fg0 F34))) F34.d ?_
   have he : wrE C N Z K Q c i = 7 := wr_bad hck (List.mem_of_getElem? hy26) (bdA_T (by omega))
   rw [he]
   exact ⟨rfl, S35.fin0⟩
  refine W_v rfl (wanted_t rfl rfl (et rfl) (ez rfl)) (V_mov rfl (es3 rfl (fg1 F29))) ?_
  refine W_v rfl (wanted_t rfl rfl (es rfl (et rfl)) (ez rfl)) (V_lss rfl (et rfl) rfl) ?_
  refine W_v rfl rfl (V_pickF rfl (es2 rfl (et rfl)) (et rfl)) ?_
  refine W_split rfl rfl (V_mov rfl (et rfl)) (fun c36 => ?_) (fun c36 => ?_)
  ·refine W_off rfl (wanted_f rfl rfl (et rfl) (ez rfl) rfl) ?_
   refine W_off rfl (wanted_f rfl rfl (es rfl (et rfl)) (ez rfl) rfl) ?_
   refine W_off rfl (wanted_f rfl rfl (es2 rfl (et rfl)) (ez rfl) rfl) ?_
   refine W_v rfl rfl (V_pickT rfl (es3 rfl (et rfl)) rfl) ?_
   refine W_end (gen_Q fun A37 E37 => ?_)
   have Y37 := szq E37
   have F37 := fsE E37 (ck (ck (ck (ck (cq2 (ck (ck (cq3 F29 rfl) rfl rfl) rfl rfl) rfl) rfl rfl) rfl rfl) rfl rfl) rfl rfl)
   clear E37 Y29 F29
   refine tk H30 ?_
   refine cond_t (fg0 F37) ?_
   refine wp_seq_k fun K38 H38 => ?_
   refine region_in ?_
   refine W_v rfl rfl (V_asg rfl rfl) ?_
   refine W_end (gen_Q fun A39 E39 => ?_)
   have Y39 := szq E39
   have F39 := fsE E39 (ck F37 rfl rfl)
   clear E39 Y37 F37
   have S40 : St w NoX [] w28 := S28.sel [] (by decide) rfl
   refine tk H38 ?_
   refine wp_ret ?_
   refine inb_ret ?_
   refine then_ret ?_
   refine then_ret ?_
   refine inb_ret ?_
   refine then_ret ?_
   refine ret_in (results_1 Try.results56 (rv_tmp (fg0 F39))) F39.d ?_
   have he : wrE C N Z K Q c i = 7 := wr_bad hck (List.mem_of_getElem? hy26) (bdA_T (by omega))
   rw [he]
   exact ⟨rfl, S40.fin0⟩
  refine W_v rfl (wanted_t rfl rfl (et rfl) (ez rfl)) (V_mov rfl (es7 rfl (fg1 F29))) ?_
  refine W_v rfl (wanted_t rfl rfl (es rfl (et rfl)) (ez rfl)) (V_mov rfl (es8 rfl (fg5 F29))) ?_
  refine W_v rfl (wanted_t rfl rfl (es2 rfl (et rfl)) (ez rfl)) (V_eql rfl (es rfl (et rfl)) (et rfl)) ?_
  refine W_v rfl rfl (V_pickF rfl (es3 rfl (et rfl)) (et rfl)) ?_
  refine W_end (gen_Q fun A41 E41 => ?_)
  have Y41 := szq E41
  have F41 := fsE E41 (ck (ck (ck (ck (cq2 (ck (ck (cq3 F29 rfl) rfl rfl) rfl rfl) rfl) rfl rfl) rfl rfl) rfl rfl) rfl rfl)
  clear E41 Y29 F29
  refine tk H30 ?_
  refine cond_dec (fg0 F41) (fun c42 => ?_) (fun c42 => ?_)
  ·refine wp_seq_k fun K43 H43 => ?_
   refine region_in ?_
   refine W_v rfl rfl (V_asg rfl rfl) ?_
   refine W_end (gen_Q fun A44 E44 => ?_)
   have Y44 := szq E44
   have F44 := fsE E44 (ck F41 rfl rfl)
   clear E44 Y41 F41
   have S45 : St w NoX [] w28 := S28.sel [] (by decide) rfl
   refine tk H43 ?_
   refine wp_ret ?_
   refine inb_ret ?_
   refine then_ret ?_
   refine then_ret ?_
   refine inb_ret ?_
   refine then_ret ?_
   refine ret_in (results_1 Try.results56 (rv_tmp (fg0 F44))) F44.d ?_
   have he : wrE C N Z K Q c i = 7 := wr_bad hck (List.mem_of_getElem? hy26) (bdA_T (by omega))
   rw [he]
   exact ⟨rfl, S45.fin0⟩
  refine wp_skip ?_
  refine inb_n ?_
  refine tk H24 ?_
  refine region_in ?_
  refine W_v rfl rfl (V_mov rfl (fg8 F41)) ?_
  refine W_v rfl rfl (V_add rfl (et rfl) rfl (by omega) (by omega)) ?_
  refine W_v rfl rfl (V_asg rfl (et rfl)) ?_
  refine W_end (gen_Q fun A46 E46 => ?_)
  have Y46 := szq E46
  have F46 := fsE E46 (ck (cq2 (fx8 F41) rfl) rfl rfl)
  clear E46 Y41 F41
  refine then_n ⟨(lsT c).length - (k + 1), by simp only [hm19]; omega, Y46, F46.d, (k + 1), rfl, (by omega), (bd_stepT hb hy26 (bdA_F (by omega))), (((fg0 F46)).trans (by first | rfl | (simp; done) | (congr 1; omega))), (((fg11 F46)).trans (fg3 F18).symm), (((fg10 F46)).trans (fg5 F18).symm), (((fg9 F46)).trans (fg2 F18).symm), (by subst hc_19 hc2_19; exact S28)⟩
 refine wp_exit ?_
 refine then_exit ?_
 refine then_exit ?_
 refine inb_hit ?_
 refine tk H16 ?_
 refine wp_seq_k fun K47 H47 => ?_
 refine region_in ?_
 refine W_v rfl rfl (V_asg rfl rfl) ?_
 refine W_end (gen_Q fun A48 E48 => ?_)
 have Y48 := szq E48
 have F48 := fsE E48 (ck F22 rfl rfl)
 clear E48 Y22 F22
 have S49 : St w NoX [] w19 := S19.sel [] (by decide) rfl
 refine tk H47 ?_
 refine wp_ret ?_
 refine ret_in (results_1 Try.results56 (rv_tmp (fg0 F48))) F48.d ?_
 have he : wrE C N Z K Q c i = 0 := wr_ok hck (fun a ha => hb a (by rw [List.take_of_length_le (by omega)]; exact ha))
 rw [he]
 exact ⟨rfl, S49.fin0⟩

set_option maxHeartbeats 4000000 in
theorem qCk8_c {C : Int} {N : Int} {Z : Int} {K : Int} {Q : Int} {cv : Value} {X : List (List Int)} {nv : Value} {ns : List Int} {w : World} (h_cv : Ro w NoX (rmR cv X)) (h_nv : Ro w NoX (il .i64 nv ns))  :
  Calls Try.prog 19 #[.agg #[.int .i64 C, .int .i64 N, .int .i64 Z, .int .i64 K, .int .i64 Q], .agg #[cv, nv]] w fun e w' => e = .returned (.tuple #[.int .i64 (rmP C N Z K Q X ns).1, .int .i64 (rmP C N Z K Q X ns).2]) ∧ St w NoX [] w' := by
 obtain ⟨Xu, hXu, k_cv, n_cv⟩ := rmR_open h_cv
 subst hXu
 have b_cv := SlN.le (sl_SlN k_cv.at)
 refine calls_in 49 Try.func19 rfl rfl (by simp) (fun A0 Y0 hdf0 hargs => ?_)
 have l0_0 := hargs 0 (.agg #[.int .i64 C, .int .i64 N, .int .i64 Z, .int .i64 K, .int .i64 Q]) rfl
 have l1_0 := hargs 1 (.agg #[cv, nv]) rfl
 clear hargs; replace Y0 : SzN A0 49 := ⟨Y0⟩
 have hS := St.nil w
 have bh_nv := SlN.le (sl_SlN h_nv.at)
 have bk_cv := SlN.le (sl_SlN k_cv.at)
 refine wp_seq_k fun K1 H1 => ?_
 refine region_in ?_
 refine W_boxS (zs := #[.int .i64 (C), .int .i64 (N), .int .i64 (Z), .int .i64 (K), .int .i64 (Q)]) hS rfl rfl rfl l0_0 (by rfl) (fun g2 w2 c2 hc2 S2 => ?_)
 replace S2 : St w NoX [c2] w2 := S2
 refine W_boxS (zs := #[cv, nv]) S2 rfl rfl rfl (es rfl l1_0) (by rfl) (fun g3 w3 c3 hc3 S3 => ?_)
 replace S3 : St w NoX [c3, c2] w3 := S3
 refine W_v rfl rfl (V_asg rfl rfl) ?_
 refine W_v rfl rfl (V_asg rfl rfl) ?_
 refine W_end (gen_Q fun A4 E4 => ?_)
 have Y4 := szq E4
 have F4 := fsE E4 (cq2 (ck (ck (FS.n hdf0) rfl rfl) rfl rfl) rfl)
 clear E4 Y0 hdf0 l0_0 l1_0
 refine tk H1 ?_
 refine wp_seq_k fun K5 H5 => ?_
 refine region_in ?_
 refine W_r rfl rfl (VR_ldA rfl (fg1 F4) (S3.obj 1 rfl hc2) Try.underlying23 rfl (by kernel_rfl)) ?_
 refine W_call rfl rfl rfl Try.func54 (by kernel_rfl) rfl (args1 (et rfl)) (qcfg_c (C := C) (N := N) (Z := Z) (K := K) (Q := Q)  ) ?_
 rintro _ w6 ⟨rfl, hP6⟩
 refine ⟨_, rfl, ?_⟩
 have S6 := S3.join hP6
 replace S6 : St w NoX [c3, c2] w6 := S6
 refine W_v rfl rfl (V_asg rfl (et rfl)) ?_
 refine W_end (gen_Q fun A7 E7 => ?_)
 have Y7 := szq E7
 have F7 := fsE E7 (ck (cq2 F4 rfl) rfl rfl)
 clear E7 Y4 F4
 refine tk H5 ?_
 refine wp_seq_k fun K8 H8 => ?_
 refine wp_seq_k fun K9 H9 => ?_
 refine region_in ?_
 refine W_v rfl rfl (V_mov rfl (fg0 F7)) ?_
 refine W_v rfl rfl (V_eql rfl (et rfl) rfl) ?_
 refine W_split rfl rfl (V_mov rfl (et rfl)) (fun c10 => ?_) (fun c10 => ?_)
 ·refine W_v rfl (wanted_t rfl rfl (et rfl) (ez rfl)) (V_fa (off' := 0) rfl (es3 rfl (fg1 F7)) Try.underlying29 rfl (by decide +kernel) rfl) ?_
  refine W_r rfl (wanted_t rfl rfl (es rfl (et rfl)) (ez rfl)) (VR_ldC rfl (et rfl) (cell_box (v := cv) (S6.obj 0 rfl hc3) rfl) Try.underlying24 rfl) ?_
  refine W_v rfl (wanted_t rfl rfl (es2 rfl (et rfl)) (ez rfl)) (V_lenS rfl (et rfl) (sl_SlN k_cv.at) Try.underlying24) ?_
  refine W_v rfl (wanted_t rfl rfl (es3 rfl (et rfl)) (ez rfl)) (V_fa (off' := 1) rfl (es6 rfl (fg2 F7)) Try.underlying23 rfl (by decide +kernel) rfl) ?_
  refine W_r rfl (wanted_t rfl rfl (es4 rfl (et rfl)) (ez rfl)) (VR_ldC rfl (et rfl) (cell_box (v := .int .i64 (N)) (S6.obj 1 rfl hc2) rfl) Try.underlying3 rfl) ?_
  refine W_v rfl (wanted_t rfl rfl (es5 rfl (et rfl)) (ez rfl)) (V_neq rfl (es2 rfl (et rfl)) (et rfl)) ?_
  refine W_v rfl rfl (V_pickT rfl (es6 rfl (et rfl)) (et rfl)) ?_
  refine W_end (gen_Q fun A11 E11 => ?_)
  have Y11 := szq E11
  have F11 := fsE E11 (ck (cq1 (cq8 F7 rfl) rfl) rfl rfl)
  clear E11 Y7 F7
  refine tk H9 ?_
  refine cond_dec (fg0 F11) (fun c12 => ?_) (fun c12 => ?_)
  ·refine region_in ?_
   refine W_v rfl rfl (V_asg rfl rfl) ?_
   refine W_end (gen_Q fun A13 E13 => ?_)
   have Y13 := szq E13
   have F13 := fsE E13 (ck (fx1 F11) rfl rfl)
   clear E13 Y11 F11
   refine tk H8 ?_
   refine wp_seq_k fun K14 H14 => ?_
   refine wp_seq_k fun K15 H15 => ?_
   refine region_in ?_
   refine W_v rfl rfl (V_mov rfl (fg0 F13)) ?_
   refine W_v rfl rfl (V_neq rfl (et rfl) rfl) ?_
   refine W_end (gen_Q fun A16 E16 => ?_)
   have Y16 := szq E16
   have F16 := fsE E16 (ck (cq1 F13 rfl) rfl rfl)
   clear E16 Y13 F13
   refine tk H15 ?_
   refine cond_sure (fg0 F16) (by decide) ?_
   refine wp_seq_k fun K17 H17 => ?_
   refine region_in ?_
   refine W_v rfl rfl (V_mov rfl (fg1 F16)) ?_
   refine W_v rfl rfl (V_asg rfl rfl) ?_
   refine W_v rfl rfl (V_asg rfl (es rfl (et rfl))) ?_
   refine W_end (gen_Q fun A18 E18 => ?_)
   have Y18 := szq E18
   have F18 := fsE E18 (ck (ck (cq1 F16 rfl) rfl rfl) rfl rfl)
   clear E18 Y16 F16
   have S19 : St w NoX [] w6 := S6.sel [] (by decide) rfl
   refine tk H17 ?_
   refine wp_ret ?_
   refine then_ret ?_
   refine ret_in (results_2 Try.results19 (rv_tmp (fg1 F18)) (rv_tmp (fg0 F18))) F18.d ?_
   have he : rmP C N Z K Q (csF Xu) ns = ((-2), 6) := rm_e2 (by omega) (by rw [csF_len]; omega)
   rw [he]
   exact ⟨rfl, S19.fin0⟩
  have hc : cfE C N Z K Q = 0 := by omega
  have hN : ((csF Xu).length : Int) = N := by rw [csF_len]; omega
  have hr := cf_rng hc
  refine wp_skip ?_
  refine tk H8 ?_
  refine wp_seq_k fun K20 H20 => ?_
  refine wp_seq_k fun K21 H21 => ?_
  refine region_in ?_
  refine W_v rfl rfl (V_mov rfl (fg1 F11)) ?_
  refine W_v rfl rfl (V_neq rfl (et rfl) rfl) ?_
  refine W_end (gen_Q fun A22 E22 => ?_)
  have Y22 := szq E22
  have F22 := fsE E22 (ck (cq1 F11 rfl) rfl rfl)
  clear E22 Y11 F11
  refine tk H21 ?_
  refine cond_not (fg0 F22) (by first | (simp [c10]; done) | exact decide_eq_true (by omega) | exact decide_eq_false (by omega)) ?_
  refine wp_skip ?_
  refine tk H20 ?_
  refine wp_seq_k fun K23 H23 => ?_
  refine wp_seq_k fun K24 H24 => ?_
  refine region_in ?_
  refine W_v rfl rfl (V_asg rfl rfl) ?_
  refine W_end (gen_Q fun A25 E25 => ?_)
  have Y25 := szq E25
  have F25 := fsE E25 (ck F22 rfl rfl)
  clear E25 Y22 F22
  refine tk H24 ?_
  refine wp_block ?_
  -- loop 7
  refine loopX (fun mz A' w' => SzN A' 49 ∧ A'.defers = [] ∧ (∃ (k : Nat), (mz = Xu.length - k) ∧ (k ≤ Xu.length) ∧ (∀ i, i < k → ∀ y, (alC (csF Xu) ns)[i]? = some y → wrE C N Z K Q y.2 y.1 = 0) ∧ (EV A' (.tmp 7) = .int .i64 (k : Int)) ∧ (EV A' (.tmp 2) = EV A25 (.tmp 2)) ∧ (EV A' (.tmp 3) = EV A25 (.tmp 3)) ∧ (St w NoX [bx g3 29 #[cv, nv], bx g2 23 #[.int .i64 (C), .int .i64 (N), .int .i64 (Z), .int .i64 (K), .int .i64 (Q)]] w'))) (Xu.length - 0) ⟨Y25, F25.d, 0, rfl, (by omega), (fun i hi => by omega), (((fg0 F25)).trans (by first | rfl | (simp; done) | (congr 1; omega))), rfl, rfl, (by subst hc3 hc2; exact S6)⟩ ?_
  clear S6 hc3 hc2
  rintro n26 A26 w26 ⟨Y26, hdf26, k, hm26, hk, hz, l7_26, u2_26, u3_26, S26⟩
  have l2_26 := u2_26.trans (fg5 F25)
  have l3_26 := u3_26.trans (fg4 F25)
  obtain ⟨c3_26, c2_26, hc3_26, hc2_26, S26⟩ := gen2 S26
  refine wp_seq_k fun K27 H27 => ?_
  refine wp_seq_k fun K28 H28 => ?_
  refine region_in ?_
  refine W_v rfl rfl (V_mov rfl l7_26) ?_
  refine W_v rfl rfl (V_fa (off' := 1) rfl (es rfl l2_26) Try.underlying23 rfl (by decide +kernel) rfl) ?_
  refine W_r rfl rfl (VR_ldC rfl (et rfl) (cell_box (v := .int .i64 (N)) (S26.obj 1 rfl hc2_26) rfl) Try.underlying3 rfl) ?_
  refine W_v rfl rfl (V_lss rfl (es2 rfl (et rfl)) (et rfl)) ?_
  refine W_end (gen_Q fun A29 E29 => ?_)
  have Y29 := szq E29
  have F29 := (((fsE E29 (ck (cq3 (FS.n hdf26) rfl) rfl rfl)).c (lookE E29 2 (es4 rfl l2_26))).c (lookE E29 3 (es4 rfl l3_26))).c (lookE E29 7 (es4 rfl l7_26))
  clear E29 Y26 hdf26 l7_26 l2_26 l3_26
  refine tk H28 ?_
  refine cond_dec (fg3 F29) (fun c30 => ?_) (fun c30 => ?_)
  ·refine wp_skip ?_
   refine tk H27 ?_
   refine wp_seq_k fun K31 H31 => ?_
   refine wp_block ?_
   refine wp_seq_k fun K32 H32 => ?_
   have k33 : k < Xu.length := by first | omega | (simp only [List.length_cons, List.length_nil]; omega) | (simp only [List.length_set]; omega) | decide
   obtain ⟨y33, hy33⟩ := get_some (xs := Xu) (k := k) k33
   refine region_monoS 9 9 [none, none, none, none, none, none, none, some (SPv [] (fun _ => fun u l' => u = .int .i64 (wrE C N Z K Q y33.2 (k : Int)) ∧ l' = []) 7)] (by kernel_rfl) (by kernel_rfl) ?_
   refine D_r rfl rfl (by kernel_rfl) (fun sx hx hF => (VR_ldA rfl (fg2 F29) ((S26.grow hx).obj 1 rfl hc2_26) Try.underlying23 rfl (by kernel_rfl))) rfl rfl ?_
   refine D_v rfl rfl (V_fa (off' := 0) rfl (es rfl (fg1 F29)) Try.underlying29 rfl (by decide +kernel) rfl) rfl rfl ?_
   refine D_r rfl rfl (by kernel_rfl) (fun sx hx hF => (VR_ldC rfl (et rfl) (cell_box (v := cv) ((S26.grow hx).obj 0 rfl hc3_26) rfl) Try.underlying24 rfl)) rfl rfl ?_
   refine D_v rfl rfl (V_mov rfl (es3 rfl (fg0 F29))) rfl rfl ?_
   obtain ⟨B33, O33, C33, hv33⟩ := (SlN.blk (sl_SlN k_cv.at) (by first | omega | (simp only [List.length_cons, List.length_nil]; omega) | (simp only [List.length_set]; omega) | decide))
   refine D_v rfl rfl (V_ixS (off := O33 + k * 1) 1 (k) rfl (es rfl (et rfl)) (et rfl) hv33 (by omega) k33 Try.underlying24 (by kernel_rfl) rfl) rfl rfl ?_
   have fn34 : Ro w NoX (il .i64 y33.1 y33.2) := nsi_ro1 n_cv hy33
   have bfn34 := SlN.le (sl_SlN (S26.ro fn34))
   refine D_r rfl rfl (by kernel_rfl) (fun sx hx hF => (VR_ldR (ys := fstC y33) rfl (et rfl) (SlN.row fstC_len (sl_SlN ((S26.grow hx).ro k_cv)) hv33 hy33 rfl) Try.underlying27 rfl (by kernel_rfl))) rfl rfl ?_
   refine D_v rfl rfl (V_mov rfl (es6 rfl (fg0 F29))) rfl rfl ?_
   refine D_call (ts := []) (vs := []) (C0 := fun _ => fun u l' => u = .int .i64 (wrE C N Z K Q y33.2 (k : Int)) ∧ l' = []) (C := fun u l' => u = .int .i64 (wrE C N Z K Q y33.2 (k : Int)) ∧ l' = []) rfl rfl rfl Try.func56 (by kernel_rfl) rfl (args3 (es6 rfl (et rfl)) (es rfl (et rfl)) (et rfl)) rfl rfl rfl rfl (fun sx hx hF => ?_) (fun u35 l35 hu35 => ?_)
   ·refine (qwr_c (C := C) (N := N) (Z := Z) (K := K) (Q := Q) (i := (k : Int)) ((S26.grow hx).roC fn34) ).mono ?_
    rintro _ _ ⟨rfl, hz⟩
    exact ⟨_, rfl, _, ⟨rfl, rfl⟩, hz⟩
   obtain ⟨rfl, hl35⟩ := hu35
   refine D_v rfl rfl (V_asg rfl (et rfl)) rfl rfl ?_
   refine ZS_none S26 (Nat.le_refl _) (Nat.le_refl _) (fun s36 hJ36 hL36 hF36 => ?_)
   obtain ⟨ll35, ws35, we35, ⟨hq35, hl35r⟩, hm35, k35, e35⟩ := L.all_get hF36; cases hq35; subst hl35r
   replace hJ36 := hJ36.add hL36 (i := 7) rfl hm35 k35 e35
   have S36 := hJ36.st; clear hF36 hJ36 hL36
   generalize s36.1 = w36 at *
   replace S36 : St w NoX [c3_26, c2_26] w36 := S36
   refine gen_Q (fun A37 E37 => ?_)
   have Y37 := szq E37
   have F37 := fsE E37 (ck (cq8 F29 rfl) rfl rfl)
   clear E37 Y29 F29
   refine tk H32 ?_
   refine wp_seq_k fun K38 H38 => ?_
   refine region_in ?_
   refine W_v rfl rfl (V_mov rfl (fg0 F37)) ?_
   refine W_v rfl rfl (V_neq rfl (et rfl) rfl) ?_
   refine W_end (gen_Q fun A39 E39 => ?_)
   have Y39 := szq E39
   have F39 := fsE E39 (ck (cq1 F37 rfl) rfl rfl)
   clear E39 Y37 F37
   refine tk H38 ?_
   refine cond_dec (fg0 F39) (fun c40 => ?_) (fun c40 => ?_)
   ·refine wp_seq_k fun K41 H41 => ?_
    refine region_in ?_
    refine W_v rfl rfl (V_mov rfl (fg2 F39)) ?_
    refine W_v rfl rfl (V_mov rfl (es rfl (fg1 F39))) ?_
    refine W_v rfl rfl (V_asg rfl (es rfl (et rfl))) ?_
    refine W_v rfl rfl (V_asg rfl (es rfl (et rfl))) ?_
    refine W_end (gen_Q fun A42 E42 => ?_)
    have Y42 := szq E42
    have F42 := fsE E42 (ck (ck (cq2 F39 rfl) rfl rfl) rfl rfl)
    clear E42 Y39 F39
    have S43 : St w NoX [] w36 := S36.sel [] (by decide) rfl
    refine tk H41 ?_
    refine wp_ret ?_
    refine inb_ret ?_
    refine then_ret ?_
    refine then_ret ?_
    refine inb_ret ?_
    refine then_ret ?_
    refine ret_in (results_2 Try.results19 (rv_tmp (fg1 F42)) (rv_tmp (fg0 F42))) F42.d ?_
    have he : rmP C N Z K Q (csF Xu) ns = ((k : Int), (wrE C N Z K Q y33.2 (k : Int))) := rm_hit hc hN hz (alC_at (csF_at hy33)) (show wrE C N Z K Q y33.2 (k : Int) ≠ 0 by omega)
    rw [he]
    exact ⟨rfl, S43.fin0⟩
   refine wp_skip ?_
   refine inb_n ?_
   refine tk H31 ?_
   refine region_in ?_
   refine W_v rfl rfl (V_mov rfl (fg2 F39)) ?_
   refine W_v rfl rfl (V_add rfl (et rfl) rfl (by omega) (by omega)) ?_
   refine W_v rfl rfl (V_asg rfl (et rfl)) ?_
   refine W_end (gen_Q fun A44 E44 => ?_)
   have Y44 := szq E44
   have F44 := fsE E44 (ck (cq2 (fx2 F39) rfl) rfl rfl)
   clear E44 Y39 F39
   refine then_n ⟨Xu.length - (k + 1), by simp only [hm26]; omega, Y44, F44.d, (k + 1), rfl, (by omega), (hz_step hz (alC_at (csF_at hy33)) (show wrE C N Z K Q y33.2 (k : Int) = 0 by omega)), (((fg0 F44)).trans (by first | rfl | (simp; done) | (congr 1; omega))), (((fg4 F44)).trans (fg5 F25).symm), (((fg3 F44)).trans (fg4 F25).symm), (by subst hc3_26 hc2_26; exact S36)⟩
  refine wp_exit ?_
  refine then_exit ?_
  refine then_exit ?_
  refine inb_hit ?_
  refine tk H23 ?_
  refine wp_seq_k fun K45 H45 => ?_
  refine region_in ?_
  refine W_r rfl rfl (VR_ldA rfl (fg2 F29) (S26.obj 1 rfl hc2_26) Try.underlying23 rfl (by kernel_rfl)) ?_
  refine W_v rfl rfl (V_fa (off' := 1) rfl (es rfl (fg1 F29)) Try.underlying29 rfl (by decide +kernel) rfl) ?_
  refine W_r rfl rfl (VR_ldP (ys := [nv]) rfl (et rfl) (S26.obj 0 rfl hc3_26) (ldP_at rfl) Try.underlying27 rfl (by kernel_rfl)) ?_
  refine W_call rfl rfl rfl Try.func56 (by kernel_rfl) rfl (args3 (es2 rfl (et rfl)) (et rfl) rfl) (qwr_c (C := C) (N := N) (Z := Z) (K := K) (Q := Q) (i := (-1)) (S26.roC h_nv) ) ?_
  rintro _ w46 ⟨rfl, hP46⟩
  refine ⟨_, rfl, ?_⟩
  have S46 := S26.join hP46
  replace S46 : St w NoX [c3_26, c2_26] w46 := S46
  refine W_v rfl rfl (V_asg rfl (et rfl)) ?_
  refine W_end (gen_Q fun A47 E47 => ?_)
  have Y47 := szq E47
  have F47 := fsE E47 (ck (cq4 F29 rfl) rfl rfl)
  clear E47 Y29 F29
  have S48 : St w NoX [] w46 := S46.sel [] (by decide) rfl
  refine tk H45 ?_
  refine wp_seq_k fun K49 H49 => ?_
  refine wp_seq_k fun K50 H50 => ?_
  refine region_in ?_
  refine W_v rfl rfl (V_mov rfl (fg0 F47)) ?_
  refine W_v rfl rfl (V_neq rfl (et rfl) rfl) ?_
  refine W_end (gen_Q fun A51 E51 => ?_)
  have Y51 := szq E51
  have F51 := fsE E51 (ck (cq1 F47 rfl) rfl rfl)
  clear E51 Y47 F47
  refine tk H50 ?_
  refine cond_dec (fg0 F51) (fun c52 => ?_) (fun c52 => ?_)
  ·refine wp_seq_k fun K53 H53 => ?_
   refine region_in ?_
   refine W_v rfl rfl (V_mov rfl (fg1 F51)) ?_
   refine W_v rfl rfl (V_asg rfl rfl) ?_
   refine W_v rfl rfl (V_asg rfl (es rfl (et rfl))) ?_
   refine W_end (gen_Q fun A54 E54 => ?_)
   have Y54 := szq E54
   have F54 := fsE E54 (ck (ck (cq1 F51 rfl) rfl rfl) rfl rfl)
   clear E54 Y51 F51
   refine tk H53 ?_
   refine wp_ret ?_
   refine then_ret ?_
   refine ret_in (results_2 Try.results19 (rv_tmp (fg1 F54)) (rv_tmp (fg0 F54))) F54.d ?_
   have he : rmP C N Z K Q (csF Xu) ns = ((-1), (wrE C N Z K Q ns (-1))) := rm_hit hc hN hz (alC_end (show k = (csF Xu).length by rw [csF_len]; omega)) (show wrE C N Z K Q ns (-1) ≠ 0 by omega)
   rw [he]
   exact ⟨rfl, S48.fin0⟩
  refine wp_skip ?_
  refine tk H49 ?_
  refine wp_seq_k fun K55 H55 => ?_
  refine region_in ?_
  refine W_v rfl rfl (V_asg rfl rfl) ?_
  refine W_v rfl rfl (V_asg rfl rfl) ?_
  refine W_end (gen_Q fun A56 E56 => ?_)
  have Y56 := szq E56
  have F56 := fsE E56 (ck (ck F51 rfl rfl) rfl rfl)
  clear E56 Y51 F51
  refine tk H55 ?_
  refine wp_ret ?_
  refine ret_in (results_2 Try.results19 (rv_tmp (fg1 F56)) (rv_tmp (fg0 F56))) F56.d ?_
  have he : rmP C N Z K Q (csF Xu) ns = (0, 0) := rm_ok hc hN (fun i hi y hy => hz_step hz (alC_end (show k = (csF Xu).length by rw [csF_len]; omega)) (show wrE C N Z K Q ns (-1) = 0 by omega) i (by rw [csF_len] at hi; omega) y hy)
  rw [he]
  exact ⟨rfl, S48.fin0⟩
 refine W_off rfl (wanted_f rfl rfl (et rfl) (ez rfl) rfl) ?_
 refine W_off rfl (wanted_f rfl rfl (es rfl (et rfl)) (ez rfl) rfl) ?_
 refine W_off rfl (wanted_f rfl rfl (es2 rfl (et rfl)) (ez rfl) rfl) ?_
 refine W_off rfl (wanted_f rfl rfl (es3 rfl (et rfl)) (ez rfl) rfl) ?_
 refine W_off rfl (wanted_f rfl rfl (es4 rfl (et rfl)) (ez rfl) rfl) ?_
 refine W_off rfl (wanted_f rfl rfl (es5 rfl (et rfl)) (ez rfl) rfl) ?_
 refine W_v rfl rfl (V_pickF rfl (es6 rfl (et rfl)) rfl) ?_
 refine W_end (gen_Q fun A57 E57 => ?_)
 have Y57 := szq E57
 have F57 := fsE E57 (ck (cq1 (cq8 F7 rfl) rfl) rfl rfl)
 clear E57 Y7 F7
 refine tk H9 ?_
 refine cond_f (fg0 F57) ?_
 refine wp_skip ?_
 refine tk H8 ?_
 refine wp_seq_k fun K58 H58 => ?_
 refine wp_seq_k fun K59 H59 => ?_
 refine region_in ?_
 refine W_v rfl rfl (V_mov rfl (fg1 F57)) ?_
 refine W_v rfl rfl (V_neq rfl (et rfl) rfl) ?_
 refine W_end (gen_Q fun A60 E60 => ?_)
 have Y60 := szq E60
 have F60 := fsE E60 (ck (cq1 F57 rfl) rfl rfl)
 clear E60 Y57 F57
 refine tk H59 ?_
 refine cond_sure (fg0 F60) (by first | (simp [c10]; done) | exact decide_eq_true (by omega) | exact decide_eq_false (by omega)) ?_
 refine wp_seq_k fun K61 H61 => ?_
 refine region_in ?_
 refine W_v rfl rfl (V_mov rfl (fg2 F60)) ?_
 refine W_v rfl rfl (V_asg rfl rfl) ?_
 refine W_v rfl rfl (V_asg rfl (es rfl (et rfl))) ?_
 refine W_end (gen_Q fun A62 E62 => ?_)
 have Y62 := szq E62
 have F62 := fsE E62 (ck (ck (cq1 F60 rfl) rfl rfl) rfl rfl)
 clear E62 Y60 F60
 have S63 : St w NoX [] w6 := S6.sel [] (by decide) rfl
 refine tk H61 ?_
 refine wp_ret ?_
 refine then_ret ?_
 refine ret_in (results_2 Try.results19 (rv_tmp (fg1 F62)) (rv_tmp (fg0 F62))) F62.d ?_
 have he : rmP C N Z K Q (csF Xu) ns = ((-2), (cfE C N Z K Q)) := rm_e1 (by omega)
 rw [he]
 exact ⟨rfl, S63.fin0⟩

set_option maxHeartbeats 4000000 in
theorem kCk8_c {C : Int} {N : Int} {Z : Int} {K : Int} {Q : Int} {cv : Value} {X : List (List Int)} {nv : Value} {ns : List Int} {w : World} (h_cv : Ro w NoX (rmR cv X)) (h_nv : Ro w NoX (il .i64 nv ns))  :
  Calls Try.prog 11 #[.agg #[.int .i64 C, .int .i64 N, .int .i64 Z, .int .i64 K, .int .i64 Q], .agg #[cv, nv]] w fun e w' => e = .returned (.tuple #[.int .i64 (rmP C N Z K Q X ns).1, .int .i64 (rmP C N Z K Q X ns).2]) ∧ St w NoX [] w' := by
 obtain ⟨Xu, hXu, k_cv, n_cv⟩ := rmR_open h_cv
 subst hXu
 have b_cv := SlN.le (sl_SlN k_cv.at)
 have f_al := nsi_all n_cv h_nv
 refine calls_inR 70 Try.func11 rfl rfl (by simp) (fun A0 Y0 hdf0 hargs => ?_)
 have l0_0 := hargs 0 (.agg #[.int .i64 C, .int .i64 N, .int .i64 Z, .int .i64 K, .int .i64 Q]) rfl
 have l1_0 := hargs 1 (.agg #[cv, nv]) rfl
 clear hargs; replace Y0 : SzN A0 70 := ⟨Y0⟩
 have hS := St.nil w
 have bh_nv := SlN.le (sl_SlN h_nv.at)
 have bk_cv := SlN.le (sl_SlN k_cv.at)
 refine R_seq (fun K1 H1 => ?_)
 refine R_region (by kernel_rfl) ?_
 refine W_boxS (zs := #[.int .i64 (C), .int .i64 (N), .int .i64 (Z), .int .i64 (K), .int .i64 (Q)]) hS rfl rfl rfl l0_0 (by rfl) (fun g2 w2 c2 hc2 S2 => ?_)
 replace S2 : St w NoX [c2] w2 := S2
 refine W_boxS (zs := #[cv, nv]) S2 rfl rfl rfl (es rfl l1_0) (by rfl) (fun g3 w3 c3 hc3 S3 => ?_)
 replace S3 : St w NoX [c3, c2] w3 := S3
 refine W_allocS (z := .int .i64 0) (zs := #[.int .i64 0]) S3 rfl rfl rfl (by kernel_rfl) (by rfl) (fun g4 w4 c4 hc4 S4 => ?_)
 replace S4 : St w NoX [c4, c3, c2] w4 := S4
 refine W_allocS (z := .int .i64 0) (zs := #[.int .i64 0]) S4 rfl rfl rfl (by kernel_rfl) (by rfl) (fun g5 w5 c5 hc5 S5 => ?_)
 replace S5 : St w NoX [c5, c4, c3, c2] w5 := S5
 refine W_end ?_
 refine Qo_normal ?_
 refine gen_Q (fun A6 E6 => ?_)
 have Y6 := szq E6
 have F6 := fsE E6 (ck (ck (ck (ck (FS.n hdf0) rfl rfl) rfl rfl) rfl rfl) rfl rfl)
 clear E6 Y0 hdf0 l0_0 l1_0
 refine tk H1 ?_
 refine R_seq (fun K7 H7 => ?_)
 refine R_region (by kernel_rfl) ?_
 refine W_r rfl rfl (VR_ldA rfl (fg3 F6) (S5.obj 3 rfl hc2) Try.underlying23 rfl (by kernel_rfl)) ?_
 refine W_call rfl rfl rfl Try.func40 (by kernel_rfl) rfl (args1 (et rfl)) (kcfg_c (C := C) (N := N) (Z := Z) (K := K) (Q := Q)  ) ?_
 rintro _ w8 ⟨rfl, hP8⟩
 refine ⟨_, rfl, ?_⟩
 have S8 := S5.join hP8
 replace S8 : St w NoX [c5, c4, c3, c2] w8 := S8
 refine W_stCS (zs' := #[.int .i64 ((cfE C N Z K Q))]) 0 S8 rfl hc5 rfl rfl rfl (es2 rfl (fg0 F6)) (et rfl) (by rfl) (by rfl) (by kernel_rfl) (by first | rfl | (simp only [List.setIfInBounds_toArray, List.set_cons_succ, List.set_cons_zero] <;> rfl)) (fun w9 c9 hc9 S9 => ?_)
 replace S9 : St w NoX [c9, c4, c3, c2] w9 := S9
 refine W_end ?_
 refine Qo_normal ?_
 refine gen_Q (fun A10 E10 => ?_)
 have Y10 := szq E10
 have F10 := fsE E10 (cq2 F6 rfl)
 clear E10 Y6 F6
 refine tk H7 ?_
 refine R_seq (fun K11 H11 => ?_)
 refine R_seq (fun K12 H12 => ?_)
 refine R_region (by kernel_rfl) ?_
 refine W_r rfl rfl (VR_ldC rfl (fg0 F10) (cell_box (v := .int .i64 ((cfE C N Z K Q))) (S9.obj 0 rfl hc9) rfl) Try.underlying34 rfl) ?_
 refine W_v rfl rfl (V_eql rfl (et rfl) rfl) ?_
 refine W_split rfl rfl (V_mov rfl (et rfl)) (fun c13 => ?_) (fun c13 => ?_)
 ·refine W_v rfl (wanted_t rfl rfl (et rfl) (ez rfl)) (V_fa (off' := 0) rfl (es3 rfl (fg2 F10)) Try.underlying29 rfl (by decide +kernel) rfl) ?_
  refine W_r rfl (wanted_t rfl rfl (es rfl (et rfl)) (ez rfl)) (VR_ldC rfl (et rfl) (cell_box (v := cv) (S9.obj 2 rfl hc3) rfl) Try.underlying24 rfl) ?_
  refine W_v rfl (wanted_t rfl rfl (es2 rfl (et rfl)) (ez rfl)) (V_lenS rfl (et rfl) (sl_SlN k_cv.at) Try.underlying24) ?_
  refine W_v rfl (wanted_t rfl rfl (es3 rfl (et rfl)) (ez rfl)) (V_fa (off' := 1) rfl (es6 rfl (fg3 F10)) Try.underlying23 rfl (by decide +kernel) rfl) ?_
  refine W_r rfl (wanted_t rfl rfl (es4 rfl (et rfl)) (ez rfl)) (VR_ldC rfl (et rfl) (cell_box (v := .int .i64 (N)) (S9.obj 3 rfl hc2) rfl) Try.underlying3 rfl) ?_
  refine W_v rfl (wanted_t rfl rfl (es5 rfl (et rfl)) (ez rfl)) (V_neq rfl (es2 rfl (et rfl)) (et rfl)) ?_
  refine W_v rfl rfl (V_pickT rfl (es6 rfl (et rfl)) (et rfl)) ?_
  refine W_end ?_
  refine Qo_normal ?_
  refine gen_Q (fun A14 E14 => ?_)
  have Y14 := szq E14
  have F14 := fsE E14 (ck (cq1 (cq8 F10 rfl) rfl) rfl rfl)
  clear E14 Y10 F10
  refine tk H12 ?_
  refine R_cond_dec (fg0 F14) (fun c15 => ?_) (fun c15 => ?_)
  ·refine R_region (by kernel_rfl) ?_
   refine W_stCS (zs' := #[.int .i64 6]) 0 S9 rfl hc9 rfl rfl rfl (fg1 F14) rfl (by rfl) (by rfl) (by kernel_rfl) (by first | rfl | (simp only [List.setIfInBounds_toArray, List.set_cons_succ, List.set_cons_zero] <;> rfl)) (fun w16 c16 hc16 S16 => ?_)
   replace S16 : St w NoX [c16, c4, c3, c2] w16 := S16
   refine W_end ?_
   refine Qo_normal ?_
   refine tk H11 ?_
   refine R_seq (fun K17 H17 => ?_)
   refine R_seq (fun K18 H18 => ?_)
   refine R_region (by kernel_rfl) ?_
   refine W_r rfl rfl (VR_ldC rfl (fg1 F14) (cell_box (v := .int .i64 6) (S16.obj 0 rfl hc16) rfl) Try.underlying34 rfl) ?_
   refine W_v rfl rfl (V_neq rfl (et rfl) rfl) ?_
   refine W_end ?_
   refine Qo_normal ?_
   refine gen_Q (fun A19 E19 => ?_)
   have Y19 := szq E19
   have F19 := fsE E19 (ck (cq1 F14 rfl) rfl rfl)
   clear E19 Y14 F14
   refine tk H18 ?_
   refine R_cond_sure (fg0 F19) (by decide) ?_
   refine R_seq (fun K20 H20 => ?_)
   refine join_R (R := fun A' w' => SzN A' 70 ∧ A'.defers = [] ∧ EV A' (.tmp 4) = EV A19 (.tmp 4) ∧ EV A' (.tmp 5) = EV A19 (.tmp 5) ∧ St w NoX [bx g5 34 #[.int .i64 6], bx g4 3 #[.int .i64 (-2)]] w') ?_ ?_
   ·refine R_any (by kernel_rfl) (by kernel_rfl) 3 rfl (fun w121 hx121 => ?_)
    have S121 := S16.grow hx121
    refine AX_2 (i := 0) (j := 1) (by kernel_rfl) rfl rfl ?_ ?_
    ·refine W_r rfl rfl (VR_ldC rfl (fg2 F19) (cell_box (v := .int .i64 6) (S121.obj 0 rfl hc16) rfl) Try.underlying34 rfl) ?_
     refine W_end ?_
     refine kq _ ?_
     refine AX_cast (l2 := #[true, false, false]) ?_ (by kernel_rfl)
     refine AX_1 (i := 1) (by kernel_rfl) rfl ?_
     refine W_stCS (zs' := #[.int .i64 (-2)]) 1 S121 rfl hc4 rfl rfl rfl (es rfl (fg3 F19)) rfl (by rfl) (by rfl) (by kernel_rfl) (by first | rfl | (simp only [List.setIfInBounds_toArray, List.set_cons_succ, List.set_cons_zero] <;> rfl)) (fun w122 c122 hc122 S122 => ?_)
     replace S122 : St w NoX [c16, c122, c3, c2] w122 := S122
     refine W_end ?_
     refine kq _ ?_
     refine AX_cast (l2 := #[true, true, false]) ?_ (by kernel_rfl)
     refine AX_1 (i := 2) (by kernel_rfl) rfl ?_
     refine W_stCS (zs' := #[.int .i64 6]) 0 S122 rfl hc16 rfl rfl rfl (es rfl (fg2 F19)) (et rfl) (by rfl) (by rfl) (by kernel_rfl) (by first | rfl | (simp only [List.setIfInBounds_toArray, List.set_cons_succ, List.set_cons_zero] <;> rfl)) (fun w123 c123 hc123 S123 => ?_)
     replace S123 : St w NoX [c123, c122, c3, c2] w123 := S123
     refine W_end ?_
     refine kq _ ?_
     refine AX_cast (l2 := #[true, true, true]) ?_ (by kernel_rfl)
     refine AX_end (by kernel_rfl) ?_
     refine Qo_normal ?_
     have S124 : St w NoX [c123, c122] w123 := S123.sel [0, 1] (by decide) rfl
     exact ⟨inferInstance, (by simp only [df_put]; exact F19.d), ((es rfl (fg3 F19)).trans (fg3 F19).symm), ((es rfl (fg2 F19)).trans (fg2 F19).symm), (by subst hc123 hc122; exact S124)⟩
    refine W_stCS (zs' := #[.int .i64 (-2)]) 1 S121 rfl hc4 rfl rfl rfl (fg3 F19) rfl (by rfl) (by rfl) (by kernel_rfl) (by first | rfl | (simp only [List.setIfInBounds_toArray, List.set_cons_succ, List.set_cons_zero] <;> rfl)) (fun w125 c125 hc125 S125 => ?_)
    replace S125 : St w NoX [c16, c125, c3, c2] w125 := S125
    refine W_end ?_
    refine kq _ ?_
    refine AX_cast (l2 := #[false, true, false]) ?_ (by kernel_rfl)
    refine AX_1 (i := 0) (by kernel_rfl) rfl ?_
    refine W_r rfl rfl (VR_ldC rfl (fg2 F19) (cell_box (v := .int .i64 6) (S125.obj 0 rfl hc16) rfl) Try.underlying34 rfl) ?_
    refine W_end ?_
    refine kq _ ?_
    refine AX_cast (l2 := #[true, true, false]) ?_ (by kernel_rfl)
    refine AX_1 (i := 2) (by kernel_rfl) rfl ?_
    refine W_stCS (zs' := #[.int .i64 6]) 0 S125 rfl hc16 rfl rfl rfl (es rfl (fg2 F19)) (et rfl) (by rfl) (by rfl) (by kernel_rfl) (by first | rfl | (simp only [List.setIfInBounds_toArray, List.set_cons_succ, List.set_cons_zero] <;> rfl)) (fun w126 c126 hc126 S126 => ?_)
    replace S126 : St w NoX [c126, c125, c3, c2] w126 := S126
    refine W_end ?_
    refine kq _ ?_
    refine AX_cast (l2 := #[true, true, true]) ?_ (by kernel_rfl)
    refine AX_end (by kernel_rfl) ?_
    refine Qo_normal ?_
    have S127 : St w NoX [c126, c125] w126 := S126.sel [0, 1] (by decide) rfl
    exact ⟨inferInstance, (by simp only [df_put]; exact F19.d), ((es rfl (fg3 F19)).trans (fg3 F19).symm), ((es rfl (fg2 F19)).trans (fg2 F19).symm), (by subst hc126 hc125; exact S127)⟩
   rintro A128 w128 ⟨Y128, hdf128, u4_128, u5_128, S128⟩
   have l4_128 := u4_128.trans (fg3 F19)
   have l5_128 := u5_128.trans (fg2 F19)
   clear Y19 F19 S16
   obtain ⟨c22_128, c21_128, hc22_128, hc21_128, S128⟩ := gen2 S128
   refine tk H20 ?_
   refine R_ret ?_
   refine then_ret ?_
   refine ret_inR0 (results_2 Try.results11 (rv_cellC l4_128 (cell_box (S128.obj 1 rfl hc21_128) rfl) Try.underlying3 rfl) (rv_cellC l5_128 (cell_box (S128.obj 0 rfl hc22_128) rfl) Try.underlying34 rfl)) hdf128 ?_
   have he : rmP C N Z K Q (csF Xu) ns = ((-2), 6) := rm_e2 (by omega) (by rw [csF_len]; omega)
   rw [he]
   exact ⟨rfl, S128.fin0⟩
  have hc : cfE C N Z K Q = 0 := by omega
  have hN : (Xu.length : Int) = N := by omega
  have hr := cf_rng hc
  refine R_skip ?_
  refine tk H11 ?_
  refine R_seq (fun K129 H129 => ?_)
  refine R_seq (fun K130 H130 => ?_)
  refine R_region (by kernel_rfl) ?_
  refine W_r rfl rfl (VR_ldC rfl (fg1 F14) (cell_box (v := .int .i64 ((cfE C N Z K Q))) (S9.obj 0 rfl hc9) rfl) Try.underlying34 rfl) ?_
  refine W_v rfl rfl (V_neq rfl (et rfl) rfl) ?_
  refine W_end ?_
  refine Qo_normal ?_
  refine gen_Q (fun A131 E131 => ?_)
  have Y131 := szq E131
  have F131 := fsE E131 (ck (cq1 F14 rfl) rfl rfl)
  clear E131 Y14 F14
  refine tk H130 ?_
  refine R_cond_not (fg0 F131) (by first | (simp [c13]; done) | exact decide_eq_true (by omega) | exact decide_eq_false (by omega)) ?_
  refine R_skip ?_
  refine tk H129 ?_
  refine R_seq (fun K132 H132 => ?_)
  refine R_seq (fun K133 H133 => ?_)
  refine R_region (by kernel_rfl) ?_
  refine W_r rfl rfl (VR_ldA rfl (fg4 F131) (S9.obj 2 rfl hc3) Try.underlying29 rfl (by kernel_rfl)) ?_
  refine W_call rfl rfl rfl Try.func41 (by kernel_rfl) rfl (args1 (et rfl)) (kall8_c (S9.roC k_cv) (S9.roC n_cv) (S9.roC h_nv) ) ?_
  rintro _ w134 ⟨gb_134, rfl, hP134⟩
  refine ⟨_, rfl, ?_⟩
  obtain ⟨cb_134, hcb_134, hP134⟩ := gen1 hP134
  have S134 := S9.join hP134
  replace S134 : St w NoX [cb_134, c9, c4, c3, c2] w134 := S134
  refine W_end ?_
  refine Qo_normal ?_
  refine gen_Q (fun A135 E135 => ?_)
  have Y135 := szq E135
  have F135 := fsE E135 (ck (cq1 F131 rfl) rfl rfl)
  clear E135 Y131 F131
  have S136 : St w NoX [cb_134, c9, c4, c2] w134 := S134.sel [0, 1, 2, 4] (by decide) rfl
  refine tk H133 ?_
  refine R_block ?_
  refine R_rangeS (α := Nat) (fg0 F135) (fun args w => calls_enter Try.func71 rfl rfl args w) (kall8_it (gb := gb_134) (cv := cv) (U := Xu) (nv := nv) (ns := ns) (Rd := fun W => (bx gb_134 29 #[cv, nv]).at W ∧ (rl 1 fstC cv Xu).at W ∧ (nsi Xu).at W ∧ (il .i64 nv ns).at W) (fun _ h => h)) (fun _ => rfl) (fun pre => pk (fun l => (∀ j, j < pre.length → wrJ C N Z K Q Xu ns j = 0) ∧ l = [bx gb_134 29 #[cv, nv], bx g5 34 #[.int .i64 ((cfE C N Z K Q))], bx g4 3 #[.int .i64 0], bx g2 23 #[.int .i64 (C), .int .i64 (N), .int .i64 (Z), .int .i64 (K), .int .i64 (Q)]])) (fun cQ pre => pk (fun l => (cQ = .ret ∧ ∃ (a : Int) (e : Int), (rmP C N Z K Q (csF Xu) ns = (a, e)) ∧ l = [bx gb_134 29 #[cv, nv], bx g5 34 #[.int .i64 (e)], bx g4 3 #[.int .i64 (a)], bx g2 23 #[.int .i64 (C), .int .i64 (N), .int .i64 (Z), .int .i64 (K), .int .i64 (Q)]]))) (St.pack (l := [bx gb_134 29 #[cv, nv], bx g5 34 #[.int .i64 ((cfE C N Z K Q))], bx g4 3 #[.int .i64 0], bx g2 23 #[.int .i64 (C), .int .i64 (N), .int .i64 (Z), .int .i64 (K), .int .i64 (Q)]]) (fr := []) (by have q0 : cb_134 = bx gb_134 29 #[cv, nv] := hcb_134; have q1 : c9 = bx g5 34 #[.int .i64 ((cfE C N Z K Q))] := hc9; have q2 : c4 = bx g4 3 #[.int .i64 0] := hc4; have q3 : c2 = bx g2 23 #[.int .i64 (C), .int .i64 (N), .int .i64 (Z), .int .i64 (K), .int .i64 (Q)] := hc2; subst q0 q1 q2 q3; exact S136) ⟨(fun j hj => by simp at hj), rfl⟩)
   (fun pre W l' hS => by obtain ⟨l, ⟨hz, rfl⟩, hl⟩ := pk_at (hS.ch 0 rfl); exact ⟨(hl 0 _ rfl), hS.ro k_cv, hS.ro n_cv, hS.ro h_nv⟩)
   (fun x a' cQ => ∃ g141 : Nat, SzN a' 70 ∧ a'.defers = [] ∧ EV a' (.tmp 2) = EV A135 (.tmp 2) ∧ EV a' (.tmp 4) = EV A135 (.tmp 4) ∧ EV a' (.tmp 5) = EV A135 (.tmp 5) ∧ EV a' (.tmp 6) = .int .i64 ((aI Xu x)) ∧ EV a' (.tmp 7) = .pointer (some ⟨g141, 0, none⟩) ∧ cQ = pk (·= [bx g141 27 #[(aS Xu nv ns x).1]])) ?_ ?_ ?_ ?_
  ·intro la137 pre x wa137 fr K hSa137 hK
   simp only [encA]
   rw [rnd2]
   obtain ⟨A138, E138⟩ : ∃ A, A = (PT (PT { tmps := A135.tmps, defers := [] } 31 (.int .i64 (aI Xu x))) 32 (.agg #[(aS Xu nv ns x).1])) := ⟨_, rfl⟩
   rw [← E138]
   have Y138 := szq E138
   have hdf138 : A138.defers = [] := by rw [E138]; rfl
   have l2_138 := lookE E138 2 (es2 rfl (rnd_l (fg6 F135)))
   have l4_138 := lookE E138 4 (es2 rfl (rnd_l (fg4 F135)))
   have l5_138 := lookE E138 5 (es2 rfl (rnd_l (fg3 F135)))
   have l31_138 := lookE E138 31 (es rfl (et rfl))
   have l32_138 := lookE E138 32 (et rfl)
   clear E138
   obtain ⟨cI, hcI, hSa137⟩ := gen1 hSa137
   refine R_seq (fun K139 H139 => ?_)
   refine R_region (by kernel_rfl) ?_
   refine W_v rfl rfl (V_asg rfl l31_138) ?_
   refine W_end ?_
   refine Qo_normal ?_
   refine gen_Q (fun A140 E140 => ?_)
   have Y140 := szq E140
   have F140 := ((((fsE E140 (ck (FS.n hdf138) rfl rfl)).c (lookE E140 2 (es rfl l2_138))).c (lookE E140 4 (es rfl l4_138))).c (lookE E140 5 (es rfl l5_138))).c (lookE E140 32 (es rfl l32_138))
   clear E140 Y138 hdf138 l2_138 l4_138 l5_138 l31_138 l32_138
   refine tk H139 ?_
   refine R_region (by kernel_rfl) ?_
   refine W_allocS (z := .agg #[.slice none 0 0]) (zs := #[.slice none 0 0]) hSa137 rfl rfl rfl (by kernel_rfl) (by rfl) (fun g141 w141 c141 hc141 S141 => ?_)
   replace S141 : St w NoX (c141 :: cI :: fr) w141 := S141
   refine W_stAS 0 S141 rfl hc141 rfl rfl rfl (et rfl) (es rfl (fg0 F140)) (by simp only [List.all_toArray, List.all_cons, List.all_nil, SlN_one (sl_SlN (f_al x).at)] <;> rfl) (by rfl) (by kernel_rfl) (fun w142 c142 hc142 S142 => ?_)
   replace S142 : St w NoX (c142 :: cI :: fr) w142 := S142
   refine W_end ?_
   refine Qo_normal ?_
   refine gen_Q (fun A143 E143 => ?_)
   have Y143 := szq E143
   have F143 := fsE E143 (ck F140 rfl rfl)
   clear E143 Y140 F140
   refine then_n ?_
   refine hK _ _ _ ⟨g141, Y143, F143.d, ((fg4 F143).trans (fg6 F135).symm), ((fg3 F143).trans (fg4 F135).symm), ((fg2 F143).trans (fg3 F135).symm), (fg5 F143), (fg0 F143), rfl⟩ ?_
   subst hc142 hcI; exact S142.asg1
  ·rintro lb144 pre x A144 w144 cQ fr hAx hlr S144 hVd
   obtain ⟨g141, Y144, hdf144, u2_144, u4_144, u5_144, l6_144, l7_144, rfl⟩ := hAx
   have l2_144 := u2_144.trans (fg6 F135)
   have l4_144 := u4_144.trans (fg4 F135)
   have l5_144 := u5_144.trans (fg3 F135)
   obtain ⟨_, _, ⟨hz, rfl⟩, rfl, S144⟩ := S144.body2
   replace S144 : St w NoX ((bx gb_134 29 #[cv, nv]) :: (bx g5 34 #[.int .i64 ((cfE C N Z K Q))]) :: (bx g4 3 #[.int .i64 0]) :: (bx g2 23 #[.int .i64 (C), .int .i64 (N), .int .i64 (Z), .int .i64 (K), .int .i64 (Q)]) :: (bx g141 27 #[(aS Xu nv ns x).1]) :: fr) w144 := S144
   obtain ⟨cb_145, c9_145, c4_145, c2_145, c142_145, hcb_145, hc9_145, hc4_145, hc2_145, hc142_145, S144⟩ := gen5 S144
   obtain ⟨hxl, hpre⟩ := rng_vd hVd
   have bf_x := SlN.le (sl_SlN (f_al x).at)
   refine R_block ?_
   refine R_seq (fun K146 H146 => ?_)
   refine R_seq (fun K147 H147 => ?_)
   refine R_region (by kernel_rfl) ?_
   refine W_r rfl rfl (VR_ldA rfl l7_144 (S144.obj 4 rfl hc142_145) Try.underlying27 rfl (by kernel_rfl)) ?_
   refine W_call rfl rfl rfl Try.func42 (by kernel_rfl) rfl (args1 (et rfl)) (kCk_c (S144.roC (f_al x)) ) ?_
   rintro _ w148 ⟨rfl, hP148⟩
   refine ⟨_, rfl, ?_⟩
   have S148 := S144.join hP148
   replace S148 : St w NoX (cb_145 :: c9_145 :: c4_145 :: c2_145 :: c142_145 :: fr) w148 := S148
   refine W_v rfl rfl (V_mov rfl (et rfl)) ?_
   refine W_v rfl rfl (V_ext (v := .int .i64 ((ckS ((aS Xu nv ns x).2)).1)) rfl (et rfl) rfl) ?_
   refine W_v rfl rfl (V_ext (v := .int .i64 ((ckS ((aS Xu nv ns x).2)).2)) rfl (es rfl (et rfl)) rfl) ?_
   refine W_v rfl rfl (V_asg rfl (es rfl (et rfl))) ?_
   refine W_v rfl rfl (V_asg rfl (es rfl (et rfl))) ?_
   refine W_end ?_
   refine Qo_normal ?_
   refine gen_Q (fun A149 E149 => ?_)
   have Y149 := szq E149
   have F149 := (((((fsE E149 (ck (cq6 (FS.n hdf144) rfl) rfl rfl)).c (lookE E149 2 (es7 rfl l2_144))).c (lookE E149 4 (es7 rfl l4_144))).c (lookE E149 5 (es7 rfl l5_144))).c (lookE E149 6 (es7 rfl l6_144))).c (lookE E149 7 (es7 rfl l7_144))
   clear E149 Y144 hdf144 l2_144 l4_144 l5_144 l6_144 l7_144
   refine tk H147 ?_
   refine R_seq (fun K150 H150 => ?_)
   refine R_region (by kernel_rfl) ?_
   refine W_v rfl rfl (V_mov rfl (fg5 F149)) ?_
   refine W_v rfl rfl (V_neq rfl (et rfl) rfl) ?_
   refine W_end ?_
   refine Qo_normal ?_
   refine gen_Q (fun A151 E151 => ?_)
   have Y151 := szq E151
   have F151 := fsE E151 (ck (cq1 F149 rfl) rfl rfl)
   clear E151 Y149 F149
   refine tk H150 ?_
   refine R_cond_dec (fg0 F151) (fun c152 => ?_) (fun c152 => ?_)
   ·refine R_seq (fun K153 H153 => ?_)
    refine R_region (by kernel_rfl) ?_
    refine W_v rfl rfl (V_mov rfl (fg2 F151)) ?_
    refine W_v rfl rfl (V_mov rfl (es rfl (fg6 F151))) ?_
    refine W_stCS (zs' := #[.int .i64 ((aI Xu x))]) 2 S148 rfl hc4_145 rfl rfl rfl (es2 rfl (fg4 F151)) (es rfl (et rfl)) (by rfl) (by rfl) (by kernel_rfl) (by first | rfl | (simp only [List.setIfInBounds_toArray, List.set_cons_succ, List.set_cons_zero] <;> rfl)) (fun w154 c154 hc154 S154 => ?_)
    replace S154 : St w NoX (cb_145 :: c9_145 :: c154 :: c2_145 :: c142_145 :: fr) w154 := S154
    refine W_stCS (zs' := #[.int .i64 ((ckS ((aS Xu nv ns x).2)).2)]) 1 S154 rfl hc9_145 rfl rfl rfl (es2 rfl (fg3 F151)) (et rfl) (by rfl) (by rfl) (by kernel_rfl) (by first | rfl | (simp only [List.setIfInBounds_toArray, List.set_cons_succ, List.set_cons_zero] <;> rfl)) (fun w155 c155 hc155 S155 => ?_)
    replace S155 : St w NoX (cb_145 :: c155 :: c154 :: c2_145 :: c142_145 :: fr) w155 := S155
    refine W_end ?_
    refine Qo_normal ?_
    refine gen_Q (fun A156 E156 => ?_)
    have Y156 := szq E156
    have F156 := fsE E156 (cq2 F151 rfl)
    clear E156 Y151 F151
    have S158 := S155.del 4
    replace S158 : St w NoX (cb_145 :: c155 :: c154 :: c2_145 :: fr) w155 := S158
    refine tk H153 ?_
    refine R_ret ?_
    refine then_ret ?_
    refine inb_ret ?_
    exact (St.pack (l := [bx gb_134 29 #[cv, nv], bx g5 34 #[.int .i64 (((ckS ((aS Xu nv ns x).2)).2))], bx g4 3 #[.int .i64 ((aI Xu x))], bx g2 23 #[.int .i64 (C), .int .i64 (N), .int .i64 (Z), .int .i64 (K), .int .i64 (Q)]]) (fr := fr) (by have q0 : cb_145 = bx gb_134 29 #[cv, nv] := hcb_145; have q1 : c155 = bx g5 34 #[.int .i64 (((ckS ((aS Xu nv ns x).2)).2))] := hc155; have q2 : c154 = bx g4 3 #[.int .i64 ((aI Xu x))] := hc154; have q3 : c2_145 = bx g2 23 #[.int .i64 (C), .int .i64 (N), .int .i64 (Z), .int .i64 (K), .int .i64 (Q)] := hc2_145; subst q0 q1 q2 q3; exact S158) (⟨rfl, (aI Xu x), (ckS ((aS Xu nv ns x).2)).2, (rmJ_hit (nv := nv) hc hN (by subst hpre; simpa using hz) hxl (wr_ck (by omega)) (by omega)), rfl⟩))
   have hck : (ckS (aS Xu nv ns x).2).2 = 0 := by omega
   refine R_skip ?_
   refine tk H146 ?_
   refine R_seq (fun K159 H159 => ?_)
   refine R_region (by kernel_rfl) ?_
   refine W_v rfl rfl (V_fa (off' := 0) rfl (fg1 F151) Try.underlying27 rfl (by decide +kernel) rfl) ?_
   refine W_r rfl rfl (VR_ldC rfl (et rfl) (cell_box (v := (aS Xu nv ns x).1) (S148.obj 4 rfl hc142_145) rfl) Try.underlying25 rfl) ?_
   refine W_v rfl rfl (V_lenS rfl (et rfl) (sl_SlN (f_al x).at) Try.underlying25) ?_
   refine W_v rfl rfl (V_mov rfl rfl) ?_
   refine W_end ?_
   refine Qo_normal ?_
   refine gen_Q (fun A160 E160 => ?_)
   have Y160 := szq E160
   have F160 := fsE E160 (cq1 (ck (ck (cq1 F151 rfl) rfl rfl) rfl rfl) rfl)
   have l45_160 := lookE E160 45 (et rfl)
   clear E160 Y151 F151
   have S162 := S148.del 4
   replace S162 : St w NoX (cb_145 :: c9_145 :: c4_145 :: c2_145 :: fr) w148 := S162
   refine tk H159 ?_
   refine R_block ?_
   -- loop 13
   refine R_loop (fun mz A' w' => SzN A' 70 ∧ A'.defers = [] ∧ (∃ (k : Nat), (mz = (aS Xu nv ns x).2.length - k) ∧ (k ≤ (aS Xu nv ns x).2.length) ∧ (∀ a ∈ (aS Xu nv ns x).2.take k, 0 < a → ¬ bdA C N Z K Q (aI Xu x) a = true) ∧ (EV A' (.tmp 45) = .int .i64 (k : Int)) ∧ (EV A' (.tmp 2) = EV A160 (.tmp 2)) ∧ (EV A' (.tmp 4) = EV A160 (.tmp 4)) ∧ (EV A' (.tmp 5) = EV A160 (.tmp 5)) ∧ (EV A' (.tmp 6) = EV A160 (.tmp 6)) ∧ (EV A' (.tmp 43) = EV A160 (.tmp 43)) ∧ (EV A' (.tmp 44) = EV A160 (.tmp 44)) ∧ (St w NoX ((bx gb_134 29 #[cv, nv]) :: (bx g5 34 #[.int .i64 ((cfE C N Z K Q))]) :: (bx g4 3 #[.int .i64 0]) :: (bx g2 23 #[.int .i64 (C), .int .i64 (N), .int .i64 (Z), .int .i64 (K), .int .i64 (Q)]) :: fr) w'))) ((aS Xu nv ns x).2.length - 0) ⟨Y160, F160.d, 0, rfl, (by omega), (fun a ha => by simp at ha), ((l45_160).trans (by first | rfl | (simp; done) | (congr 1; omega))), rfl, rfl, rfl, rfl, rfl, rfl, (by subst hcb_145 hc9_145 hc4_145 hc2_145; exact S162)⟩ ?_
   clear S162 hcb_145 hc9_145 hc4_145 hc2_145
   rintro n163 A163 w163 ⟨Y163, hdf163, k, hm163, hk, hb, l45_163, u2_163, u4_163, u5_163, u6_163, u43_163, u44_163, S163⟩
   have l2_163 := u2_163.trans (fg7 F160)
   have l4_163 := u4_163.trans (fg6 F160)
   have l5_163 := u5_163.trans (fg5 F160)
   have l6_163 := u6_163.trans (fg4 F160)
   have l43_163 := u43_163.trans (fg1 F160)
   have l44_163 := u44_163.trans (fg0 F160)
   obtain ⟨cb_163, c9_163, c4_163, c2_163, hcb_163, hc9_163, hc4_163, hc2_163, S163⟩ := gen4 S163
   refine R_seq (fun K164 H164 => ?_)
   refine R_region (by kernel_rfl) ?_
   refine W_v rfl rfl (V_lss rfl l45_163 l44_163) ?_
   refine W_end ?_
   refine Qo_normal ?_
   refine gen_Q (fun A165 E165 => ?_)
   have Y165 := szq E165
   have F165 := (((((((fsE E165 (ck (FS.n hdf163) rfl rfl)).c (lookE E165 2 (es rfl l2_163))).c (lookE E165 4 (es rfl l4_163))).c (lookE E165 5 (es rfl l5_163))).c (lookE E165 6 (es rfl l6_163))).c (lookE E165 43 (es rfl l43_163))).c (lookE E165 44 (es rfl l44_163))).c (lookE E165 45 (es rfl l45_163))
   clear E165 Y163 hdf163 l45_163 l2_163 l4_163 l5_163 l6_163 l43_163 l44_163
   refine tk H164 ?_
   refine R_seq (fun K166 H166 => ?_)
   refine R_cond_dec (fg7 F165) (fun c167 => ?_) (fun c167 => ?_)
   ·refine R_skip ?_
    refine tk H166 ?_
    refine R_seq (fun K168 H168 => ?_)
    refine R_block ?_
    refine R_seq (fun K169 H169 => ?_)
    refine R_region (by kernel_rfl) ?_
    have k170 : k < ((aS Xu nv ns x).2).length := by first | omega | (simp only [List.length_cons, List.length_nil]; omega) | (simp only [List.length_set]; omega) | decide
    obtain ⟨y170, hy170⟩ := get_some (xs := ((aS Xu nv ns x).2)) (k := k) k170
    obtain ⟨B170, O170, C170, hv170⟩ := (SlN.blk (sl_SlN (f_al x).at) (by first | omega | (simp only [List.length_cons, List.length_nil]; omega) | (simp only [List.length_set]; omega) | decide))
    refine W_v rfl rfl (V_ixS (off := O170 + k) 1 (k) rfl (fg2 F165) (fg0 F165) hv170 (by omega) k170 Try.underlying25 (by kernel_rfl) (congrArg _ (Nat.mul_one _))) ?_
    refine W_r rfl rfl (VR_ldC rfl (et rfl) ((sl_SlN (S163.ro (f_al x))).cell hv170 (map_get hy170)) Try.underlying3 rfl) ?_
    refine W_v rfl rfl (V_asg rfl (et rfl)) ?_
    refine W_end ?_
    refine Qo_normal ?_
    refine gen_Q (fun A171 E171 => ?_)
    have Y171 := szq E171
    have F171 := fsE E171 (ck (cq2 F165 rfl) rfl rfl)
    clear E171 Y165 F165
    refine tk H169 ?_
    refine R_seq (fun K172 H172 => ?_)
    refine R_seq (fun K173 H173 => ?_)
    refine R_region (by kernel_rfl) ?_
    refine W_v rfl rfl (V_mov rfl (fg0 F171)) ?_
    refine W_v rfl rfl (V_leq rfl (et rfl) rfl) ?_
    refine W_end ?_
    refine Qo_normal ?_
    refine gen_Q (fun A174 E174 => ?_)
    have Y174 := szq E174
    have F174 := fsE E174 (ck (cq1 F171 rfl) rfl rfl)
    clear E174 Y171 F171
    refine tk H173 ?_
    refine R_cond_dec (fg0 F174) (fun c175 => ?_) (fun c175 => ?_)
    ·refine R_exit ?_
     refine then_exit ?_
     refine inb_hit ?_
     refine tk H168 ?_
     refine R_region (by kernel_rfl) ?_
     refine W_v rfl rfl (V_add rfl (fg2 F174) rfl (by omega) (by omega)) ?_
     refine W_v rfl rfl (V_mov rfl (et rfl)) ?_
     refine W_end ?_
     refine Qo_normal ?_
     refine gen_Q (fun A176 E176 => ?_)
     have Y176 := szq E176
     have F176 := fsE E176 (ck (cq1 (fx2 F174) rfl) rfl rfl)
     clear E176 Y174 F174
     refine then_n ⟨(aS Xu nv ns x).2.length - (k + 1), by simp only [hm163]; omega, Y176, F176.d, (k + 1), rfl, (by omega), (bd_step8 (P := fun a => 0 < a) hb hy170 (fun h0 => absurd h0 (by omega))), (((fg0 F176)).trans (by first | rfl | (simp; done) | (congr 1; omega))), (((fg8 F176)).trans (fg7 F160).symm), (((fg7 F176)).trans (fg6 F160).symm), (((fg6 F176)).trans (fg5 F160).symm), (((fg5 F176)).trans (fg4 F160).symm), (((fg4 F176)).trans (fg1 F160).symm), (((fg3 F176)).trans (fg0 F160).symm), (by subst hcb_163 hc9_163 hc4_163 hc2_163; exact S163)⟩
    refine R_skip ?_
    refine tk H172 ?_
    refine R_seq (fun K177 H177 => ?_)
    refine R_region (by kernel_rfl) ?_
    refine W_r rfl rfl (VR_ldA rfl (fg8 F174) (S163.obj 3 rfl hc2_163) Try.underlying23 rfl (by kernel_rfl)) ?_
    refine W_v rfl rfl (V_mov rfl (es rfl (fg1 F174))) ?_
    refine W_call rfl rfl rfl Try.func43 (by kernel_rfl) rfl (args2 (es rfl (et rfl)) (et rfl)) (kca_c (C := C) (N := N) (Z := Z) (K := K) (Q := Q) (a := y170)  ) ?_
    rintro _ w178 ⟨rfl, hP178⟩
    refine ⟨_, rfl, ?_⟩
    have S178 := S163.join hP178
    replace S178 : St w NoX (cb_163 :: c9_163 :: c4_163 :: c2_163 :: fr) w178 := S178
    refine W_v rfl rfl (V_mov rfl (et rfl)) ?_
    refine W_v rfl rfl (V_ext (v := .int .i64 ((caN C N Z K Q y170))) rfl (et rfl) rfl) ?_
    refine W_v rfl rfl (V_ext (v := .int .i64 ((caE C N Z K Q y170))) rfl (es rfl (et rfl)) rfl) ?_
    refine W_v rfl rfl (V_asg rfl (es rfl (et rfl))) ?_
    refine W_v rfl rfl (V_asg rfl (es rfl (et rfl))) ?_
    refine W_end ?_
    refine Qo_normal ?_
    refine gen_Q (fun A179 E179 => ?_)
    have Y179 := szq E179
    have F179 := fsE E179 (ck (ck (cq6 F174 rfl) rfl rfl) rfl rfl)
    clear E179 Y174 F174
    refine tk H177 ?_
    refine R_seq (fun K180 H180 => ?_)
    refine R_region (by kernel_rfl) ?_
    refine W_v rfl rfl (V_mov rfl (fg0 F179)) ?_
    refine W_v rfl rfl (V_neq rfl (et rfl) rfl) ?_
    refine W_split rfl rfl (V_mov rfl (et rfl)) (fun c181 => ?_) (fun c181 => ?_)
    ·refine W_off rfl (wanted_f rfl rfl (et rfl) (ez rfl) rfl) ?_
     refine W_off rfl (wanted_f rfl rfl (es rfl (et rfl)) (ez rfl) rfl) ?_
     refine W_v rfl rfl (V_pickT rfl (es2 rfl (et rfl)) rfl) ?_
     refine W_v rfl rfl (V_mov rfl (et rfl)) ?_
     refine W_off rfl (wanted_f rfl rfl (et rfl) (ez rfl) rfl) ?_
     refine W_off rfl (wanted_f rfl rfl (es rfl (et rfl)) (ez rfl) rfl) ?_
     refine W_off rfl (wanted_f rfl rfl (es2 rfl (et rfl)) (ez rfl) rfl) ?_
     refine W_v rfl rfl (V_pickT rfl (es3 rfl (et rfl)) rfl) ?_
     refine W_end ?_
     refine Qo_normal ?_
     refine gen_Q (fun A182 E182 => ?_)
     have Y182 := szq E182
     have F182 := fsE E182 (ck (ck (ck (ck (cq2 (ck (ck (cq3 F179 rfl) rfl rfl) rfl rfl) rfl) rfl rfl) rfl rfl) rfl rfl) rfl rfl)
     clear E182 Y179 F179
     refine tk H180 ?_
     refine R_cond_t (fg0 F182) ?_
     refine R_seq (fun K183 H183 => ?_)
     refine R_region (by kernel_rfl) ?_
     refine W_v rfl rfl (V_mov rfl (fg13 F182)) ?_
     refine W_stCS (zs' := #[.int .i64 ((aI Xu x))]) 2 S178 rfl hc4_163 rfl rfl rfl (es rfl (fg15 F182)) (et rfl) (by rfl) (by rfl) (by kernel_rfl) (by first | rfl | (simp only [List.setIfInBounds_toArray, List.set_cons_succ, List.set_cons_zero] <;> rfl)) (fun w184 c184 hc184 S184 => ?_)
     replace S184 : St w NoX (cb_163 :: c9_163 :: c184 :: c2_163 :: fr) w184 := S184
     refine W_stCS (zs' := #[.int .i64 7]) 1 S184 rfl hc9_163 rfl rfl rfl (es rfl (fg14 F182)) rfl (by rfl) (by rfl) (by kernel_rfl) (by first | rfl | (simp only [List.setIfInBounds_toArray, List.set_cons_succ, List.set_cons_zero] <;> rfl)) (fun w185 c185 hc185 S185 => ?_)
     replace S185 : St w NoX (cb_163 :: c185 :: c184 :: c2_163 :: fr) w185 := S185
     refine W_end ?_
     refine Qo_normal ?_
     refine gen_Q (fun A186 E186 => ?_)
     have Y186 := szq E186
     have F186 := fsE E186 (cq1 F182 rfl)
     clear E186 Y182 F182
     refine tk H183 ?_
     refine R_ret ?_
     refine inb_ret ?_
     refine then_ret ?_
     refine then_ret ?_
     refine inb_ret ?_
     refine inb_ret ?_
     exact (St.pack (l := [bx gb_134 29 #[cv, nv], bx g5 34 #[.int .i64 (7)], bx g4 3 #[.int .i64 ((aI Xu x))], bx g2 23 #[.int .i64 (C), .int .i64 (N), .int .i64 (Z), .int .i64 (K), .int .i64 (Q)]]) (fr := fr) (by have q0 : cb_163 = bx gb_134 29 #[cv, nv] := hcb_163; have q1 : c185 = bx g5 34 #[.int .i64 (7)] := hc185; have q2 : c184 = bx g4 3 #[.int .i64 ((aI Xu x))] := hc184; have q3 : c2_163 = bx g2 23 #[.int .i64 (C), .int .i64 (N), .int .i64 (Z), .int .i64 (K), .int .i64 (Q)] := hc2_163; subst q0 q1 q2 q3; exact S185) (⟨rfl, (aI Xu x), 7, (rmJ_hit (nv := nv) hc hN (by subst hpre; simpa using hz) hxl (wr_bad_at hck hy170 (by omega) (bdA_T (by omega))) (by omega)), rfl⟩))
    refine W_v rfl (wanted_t rfl rfl (et rfl) (ez rfl)) (V_mov rfl (es3 rfl (fg1 F179))) ?_
    refine W_v rfl (wanted_t rfl rfl (es rfl (et rfl)) (ez rfl)) (V_lss rfl (et rfl) rfl) ?_
    refine W_v rfl rfl (V_pickF rfl (es2 rfl (et rfl)) (et rfl)) ?_
    refine W_split rfl rfl (V_mov rfl (et rfl)) (fun c187 => ?_) (fun c187 => ?_)
    ·refine W_off rfl (wanted_f rfl rfl (et rfl) (ez rfl) rfl) ?_
     refine W_off rfl (wanted_f rfl rfl (es rfl (et rfl)) (ez rfl) rfl) ?_
     refine W_off rfl (wanted_f rfl rfl (es2 rfl (et rfl)) (ez rfl) rfl) ?_
     refine W_v rfl rfl (V_pickT rfl (es3 rfl (et rfl)) rfl) ?_
     refine W_end ?_
     refine Qo_normal ?_
     refine gen_Q (fun A188 E188 => ?_)
     have Y188 := szq E188
     have F188 := fsE E188 (ck (ck (ck (ck (cq2 (ck (ck (cq3 F179 rfl) rfl rfl) rfl rfl) rfl) rfl rfl) rfl rfl) rfl rfl) rfl rfl)
     clear E188 Y179 F179
     refine tk H180 ?_
     refine R_cond_t (fg0 F188) ?_
     refine R_seq (fun K189 H189 => ?_)
     refine R_region (by kernel_rfl) ?_
     refine W_v rfl rfl (V_mov rfl (fg13 F188)) ?_
     refine W_stCS (zs' := #[.int .i64 ((aI Xu x))]) 2 S178 rfl hc4_163 rfl rfl rfl (es rfl (fg15 F188)) (et rfl) (by rfl) (by rfl) (by kernel_rfl) (by first | rfl | (simp only [List.setIfInBounds_toArray, List.set_cons_succ, List.set_cons_zero] <;> rfl)) (fun w190 c190 hc190 S190 => ?_)
     replace S190 : St w NoX (cb_163 :: c9_163 :: c190 :: c2_163 :: fr) w190 := S190
     refine W_stCS (zs' := #[.int .i64 7]) 1 S190 rfl hc9_163 rfl rfl rfl (es rfl (fg14 F188)) rfl (by rfl) (by rfl) (by kernel_rfl) (by first | rfl | (simp only [List.setIfInBounds_toArray, List.set_cons_succ, List.set_cons_zero] <;> rfl)) (fun w191 c191 hc191 S191 => ?_)
     replace S191 : St w NoX (cb_163 :: c191 :: c190 :: c2_163 :: fr) w191 := S191
     refine W_end ?_
     refine Qo_normal ?_
     refine gen_Q (fun A192 E192 => ?_)
     have Y192 := szq E192
     have F192 := fsE E192 (cq1 F188 rfl)
     clear E192 Y188 F188
     refine tk H189 ?_
     refine R_ret ?_
     refine inb_ret ?_
     refine then_ret ?_
     refine then_ret ?_
     refine inb_ret ?_
     refine inb_ret ?_
     exact (St.pack (l := [bx gb_134 29 #[cv, nv], bx g5 34 #[.int .i64 (7)], bx g4 3 #[.int .i64 ((aI Xu x))], bx g2 23 #[.int .i64 (C), .int .i64 (N), .int .i64 (Z), .int .i64 (K), .int .i64 (Q)]]) (fr := fr) (by have q0 : cb_163 = bx gb_134 29 #[cv, nv] := hcb_163; have q1 : c191 = bx g5 34 #[.int .i64 (7)] := hc191; have q2 : c190 = bx g4 3 #[.int .i64 ((aI Xu x))] := hc190; have q3 : c2_163 = bx g2 23 #[.int .i64 (C), .int .i64 (N), .int .i64 (Z), .int .i64 (K), .int .i64 (Q)] := hc2_163; subst q0 q1 q2 q3; exact S191) (⟨rfl, (aI Xu x), 7, (rmJ_hit (nv := nv) hc hN (by subst hpre; simpa using hz) hxl (wr_bad_at hck hy170 (by omega) (bdA_T (by omega))) (by omega)), rfl⟩))
    refine W_v rfl (wanted_t rfl rfl (et rfl) (ez rfl)) (V_mov rfl (es7 rfl (fg1 F179))) ?_
    refine W_v rfl (wanted_t rfl rfl (es rfl (et rfl)) (ez rfl)) (V_mov rfl (es8 rfl (fg7 F179))) ?_
    refine W_v rfl (wanted_t rfl rfl (es2 rfl (et rfl)) (ez rfl)) (V_eql rfl (es rfl (et rfl)) (et rfl)) ?_
    refine W_v rfl rfl (V_pickF rfl (es3 rfl (et rfl)) (et rfl)) ?_
    refine W_end ?_
    refine Qo_normal ?_
    refine gen_Q (fun A193 E193 => ?_)
    have Y193 := szq E193
    have F193 := fsE E193 (ck (ck (ck (ck (cq2 (ck (ck (cq3 F179 rfl) rfl rfl) rfl rfl) rfl) rfl rfl) rfl rfl) rfl rfl) rfl rfl)
    clear E193 Y179 F179
    refine tk H180 ?_
    refine R_cond_dec (fg0 F193) (fun c194 => ?_) (fun c194 => ?_)
    ·refine R_seq (fun K195 H195 => ?_)
     refine R_region (by kernel_rfl) ?_
     refine W_v rfl rfl (V_mov rfl (fg13 F193)) ?_
     refine W_stCS (zs' := #[.int .i64 ((aI Xu x))]) 2 S178 rfl hc4_163 rfl rfl rfl (es rfl (fg15 F193)) (et rfl) (by rfl) (by rfl) (by kernel_rfl) (by first | rfl | (simp only [List.setIfInBounds_toArray, List.set_cons_succ, List.set_cons_zero] <;> rfl)) (fun w196 c196 hc196 S196 => ?_)
     replace S196 : St w NoX (cb_163 :: c9_163 :: c196 :: c2_163 :: fr) w196 := S196
     refine W_stCS (zs' := #[.int .i64 7]) 1 S196 rfl hc9_163 rfl rfl rfl (es rfl (fg14 F193)) rfl (by rfl) (by rfl) (by kernel_rfl) (by first | rfl | (simp only [List.setIfInBounds_toArray, List.set_cons_succ, List.set_cons_zero] <;> rfl)) (fun w197 c197 hc197 S197 => ?_)
     replace S197 : St w NoX (cb_163 :: c197 :: c196 :: c2_163 :: fr) w197 := S197
     refine W_end ?_
     refine Qo_normal ?_
     refine gen_Q (fun A198 E198 => ?_)
     have Y198 := szq E198
     have F198 := fsE E198 (cq1 F193 rfl)
     clear E198 Y193 F193
     refine tk H195 ?_
     refine R_ret ?_
     refine inb_ret ?_
     refine then_ret ?_
     refine then_ret ?_
     refine inb_ret ?_
     refine inb_ret ?_
     exact (St.pack (l := [bx gb_134 29 #[cv, nv], bx g5 34 #[.int .i64 (7)], bx g4 3 #[.int .i64 ((aI Xu x))], bx g2 23 #[.int .i64 (C), .int .i64 (N), .int .i64 (Z), .int .i64 (K), .int .i64 (Q)]]) (fr := fr) (by have q0 : cb_163 = bx gb_134 29 #[cv, nv] := hcb_163; have q1 : c197 = bx g5 34 #[.int .i64 (7)] := hc197; have q2 : c196 = bx g4 3 #[.int .i64 ((aI Xu x))] := hc196; have q3 : c2_163 = bx g2 23 #[.int .i64 (C), .int .i64 (N), .int .i64 (Z), .int .i64 (K), .int .i64 (Q)] := hc2_163; subst q0 q1 q2 q3; exact S197) (⟨rfl, (aI Xu x), 7, (rmJ_hit (nv := nv) hc hN (by subst hpre; simpa using hz) hxl (wr_bad_at hck hy170 (by omega) (bdA_T (by omega))) (by omega)), rfl⟩))
    refine R_skip ?_
    refine inb_n ?_
    refine tk H168 ?_
    refine R_region (by kernel_rfl) ?_
    refine W_v rfl rfl (V_add rfl (fg10 F193) rfl (by omega) (by omega)) ?_
    refine W_v rfl rfl (V_mov rfl (et rfl)) ?_
    refine W_end ?_
    refine Qo_normal ?_
    refine gen_Q (fun A199 E199 => ?_)
    have Y199 := szq E199
    have F199 := fsE E199 (ck (cq1 (fx10 F193) rfl) rfl rfl)
    clear E199 Y193 F193
    refine then_n ⟨(aS Xu nv ns x).2.length - (k + 1), by simp only [hm163]; omega, Y199, F199.d, (k + 1), rfl, (by omega), (bd_step8 (P := fun a => 0 < a) hb hy170 (fun h0 => bdA_F (by omega))), (((fg0 F199)).trans (by first | rfl | (simp; done) | (congr 1; omega))), (((fg16 F199)).trans (fg7 F160).symm), (((fg15 F199)).trans (fg6 F160).symm), (((fg14 F199)).trans (fg5 F160).symm), (((fg13 F199)).trans (fg4 F160).symm), (((fg12 F199)).trans (fg1 F160).symm), (((fg11 F199)).trans (fg0 F160).symm), (by subst hcb_163 hc9_163 hc4_163 hc2_163; exact S178)⟩
   refine R_exit ?_
   refine then_exit ?_
   refine then_exit ?_
   refine inb_hit ?_
   refine inb_n ?_
   exact (St.pack (l := [bx gb_134 29 #[cv, nv], bx g5 34 #[.int .i64 ((cfE C N Z K Q))], bx g4 3 #[.int .i64 0], bx g2 23 #[.int .i64 (C), .int .i64 (N), .int .i64 (Z), .int .i64 (K), .int .i64 (Q)]]) (fr := fr) (by have q0 : cb_163 = bx gb_134 29 #[cv, nv] := hcb_163; have q1 : c9_163 = bx g5 34 #[.int .i64 ((cfE C N Z K Q))] := hc9_163; have q2 : c4_163 = bx g4 3 #[.int .i64 0] := hc4_163; have q3 : c2_163 = bx g2 23 #[.int .i64 (C), .int .i64 (N), .int .i64 (Z), .int .i64 (K), .int .i64 (Q)] := hc2_163; subst q0 q1 q2 q3; exact S163) (⟨(wrJ_step (nv := nv) hpre hz (wr_cells hck hb (by omega))), rfl⟩))
  ·intro D200 xs w200 hxs S200
   have hxs' : xs = (List.range (Xu.length + 1)) := hxs; subst hxs'; clear hxs
   obtain ⟨_, ⟨hz, rfl⟩, S200⟩ := S200.unpack
   replace S200 : St w NoX ((bx gb_134 29 #[cv, nv]) :: (bx g5 34 #[.int .i64 ((cfE C N Z K Q))]) :: (bx g4 3 #[.int .i64 0]) :: (bx g2 23 #[.int .i64 (C), .int .i64 (N), .int .i64 (Z), .int .i64 (K), .int .i64 (Q)]) :: (ob D200 (.deferred (some []))) :: []) w200 := S200
   obtain ⟨cb_200, c9_200, c4_200, c2_200, cD200, hcb_200, hc9_200, hc4_200, hc2_200, hcD200, S200⟩ := gen5 S200
   refine gen_Q (fun A200 E200 => ?_)
   have Y200 := szq E200
   have hdf200 : A200.defers = [{ target := .collected D200, args := #[] }] := by rw [E200, df_mk, F135.d] <;> rfl
   have l4_200 := lookE E200 4 (mk_l (fg4 F135))
   have l5_200 := lookE E200 5 (mk_l (fg3 F135))
   clear E200
   refine inb_n ?_
   refine tk H132 ?_
   refine R_seq (fun K201 H201 => ?_)
   refine R_region (by kernel_rfl) ?_
   refine W_stCS (zs' := #[.int .i64 0]) 2 S200 rfl hc4_200 rfl rfl rfl l4_200 rfl (by rfl) (by rfl) (by kernel_rfl) (by first | rfl | (simp only [List.setIfInBounds_toArray, List.set_cons_succ, List.set_cons_zero] <;> rfl)) (fun w202 c202 hc202 S202 => ?_)
   replace S202 : St w NoX [cb_200, c9_200, c202, c2_200, cD200] w202 := S202
   refine W_stCS (zs' := #[.int .i64 0]) 1 S202 rfl hc9_200 rfl rfl rfl l5_200 rfl (by rfl) (by rfl) (by kernel_rfl) (by first | rfl | (simp only [List.setIfInBounds_toArray, List.set_cons_succ, List.set_cons_zero] <;> rfl)) (fun w203 c203 hc203 S203 => ?_)
   replace S203 : St w NoX [cb_200, c203, c202, c2_200, cD200] w203 := S203
   refine W_end ?_
   refine Qo_normal ?_
   refine tk H201 ?_
   refine R_ret ?_
   have hD204 := S203.obj 4 rfl hcD200
   have S204 := S203.put (o' := .deferred none) 4 rfl hcD200
   obtain ⟨w204, hw204⟩ : ∃ w', w' = w203.putObj D200 (.deferred none) := ⟨_, rfl⟩
   rw [← hw204] at S204
   replace S204 : St w NoX [cb_200, c203, c202, c2_200, (ob D200 (.deferred none))] w204 := S204
   refine ret_inR1' (D := D200) (w1 := w204) hw204 (results_2 Try.results11 (rv_cellC l4_200 (cell_box (S204.obj 2 rfl hc202) rfl) Try.underlying3 rfl) (rv_cellC l5_200 (cell_box (S204.obj 1 rfl hc203) rfl) Try.underlying34 rfl)) hdf200 hD204 ?_
   have he : rmP C N Z K Q (csF Xu) ns = (0, 0) := rmJ_ok hc hN (by simpa using hz)
   rw [he]
   exact ⟨rfl, S204.fin0⟩
  intro D205 cQ pre w205 hpre S205
  obtain ⟨_, hx, S205⟩ := S205.unpack
  rcases hx with ⟨rfl, a, e, hx, rfl⟩
  replace S205 : St w NoX ((bx gb_134 29 #[cv, nv]) :: (bx g5 34 #[.int .i64 (e)]) :: (bx g4 3 #[.int .i64 (a)]) :: (bx g2 23 #[.int .i64 (C), .int .i64 (N), .int .i64 (Z), .int .i64 (K), .int .i64 (Q)]) :: (ob D205 (.deferred (some []))) :: []) w205 := S205
  obtain ⟨cb_205, c9_205, c4_205, c2_205, cD205, hcb_205, hc9_205, hc4_205, hc2_205, hcD205, S205⟩ := gen5 S205
  refine gen_w (fun A205 E205 => ?_)
  have Y205 := szq E205
  have hdf205 : A205.defers = [{ target := .collected D205, args := #[] }] := by rw [E205, df_mk, F135.d] <;> rfl
  have l4_205 := lookE E205 4 (mk_l (fg4 F135))
  have l5_205 := lookE E205 5 (mk_l (fg3 F135))
  clear E205
  refine R_ret ?_
  refine inb_ret ?_
  refine then_ret ?_
  have hD206 := S205.obj 4 rfl hcD205
  have S206 := S205.put (o' := .deferred none) 4 rfl hcD205
  obtain ⟨w206, hw206⟩ : ∃ w', w' = w205.putObj D205 (.deferred none) := ⟨_, rfl⟩
  rw [← hw206] at S206
  replace S206 : St w NoX [cb_205, c9_205, c4_205, c2_205, (ob D205 (.deferred none))] w206 := S206
  refine ret_inR1' (D := D205) (w1 := w206) hw206 (results_2 Try.results11 (rv_cellC l4_205 (cell_box (S206.obj 2 rfl hc4_205) rfl) Try.underlying3 rfl) (rv_cellC l5_205 (cell_box (S206.obj 1 rfl hc9_205) rfl) Try.underlying34 rfl)) hdf205 hD206 ?_
  have he : rmP C N Z K Q (csF Xu) ns = (a, e) := hx
  rw [he]
  exact ⟨rfl, S206.fin0⟩
 refine W_off rfl (wanted_f rfl rfl (et rfl) (ez rfl) rfl) ?_
 refine W_off rfl (wanted_f rfl rfl (es rfl (et rfl)) (ez rfl) rfl) ?_
 refine W_off rfl (wanted_f rfl rfl (es2 rfl (et rfl)) (ez rfl) rfl) ?_
 refine W_off rfl (wanted_f rfl rfl (es3 rfl (et rfl)) (ez rfl) rfl) ?_
 refine W_off rfl (wanted_f rfl rfl (es4 rfl (et rfl)) (ez rfl) rfl) ?_
 refine W_off rfl (wanted_f rfl rfl (es5 rfl (et rfl)) (ez rfl) rfl) ?_
 refine W_v rfl rfl (V_pickF rfl (es6 rfl (et rfl)) rfl) ?_
 refine W_end ?_
 refine Qo_normal ?_
 refine gen_Q (fun A207 E207 => ?_)
 have Y207 := szq E207
 have F207 := fsE E207 (ck (cq1 (cq8 F10 rfl) rfl) rfl rfl)
 clear E207 Y10 F10
 refine tk H12 ?_
 refine R_cond_f (fg0 F207) ?_
 refine R_skip ?_
 refine tk H11 ?_
 refine R_seq (fun K208 H208 => ?_)
 refine R_seq (fun K209 H209 => ?_)
 refine R_region (by kernel_rfl) ?_
 refine W_r rfl rfl (VR_ldC rfl (fg1 F207) (cell_box (v := .int .i64 ((cfE C N Z K Q))) (S9.obj 0 rfl hc9) rfl) Try.underlying34 rfl) ?_
 refine W_v rfl rfl (V_neq rfl (et rfl) rfl) ?_
 refine W_end ?_
 refine Qo_normal ?_
 refine gen_Q (fun A210 E210 => ?_)
 have Y210 := szq E210
 have F210 := fsE E210 (ck (cq1 F207 rfl) rfl rfl)
 clear E210 Y207 F207
 refine tk H209 ?_
 refine R_cond_sure (fg0 F210) (by first | (simp [c13]; done) | exact decide_eq_true (by omega) | exact decide_eq_false (by omega)) ?_
 refine R_seq (fun K211 H211 => ?_)
 refine join_R (R := fun A' w' => SzN A' 70 ∧ A'.defers = [] ∧ EV A' (.tmp 4) = EV A210 (.tmp 4) ∧ EV A' (.tmp 5) = EV A210 (.tmp 5) ∧ St w NoX [bx g5 34 #[.int .i64 ((cfE C N Z K Q))], bx g4 3 #[.int .i64 (-2)]] w') ?_ ?_
 ·refine R_any (by kernel_rfl) (by kernel_rfl) 3 rfl (fun w312 hx312 => ?_)
  have S312 := S9.grow hx312
  refine AX_2 (i := 0) (j := 1) (by kernel_rfl) rfl rfl ?_ ?_
  ·refine W_r rfl rfl (VR_ldC rfl (fg2 F210) (cell_box (v := .int .i64 ((cfE C N Z K Q))) (S312.obj 0 rfl hc9) rfl) Try.underlying34 rfl) ?_
   refine W_end ?_
   refine kq _ ?_
   refine AX_cast (l2 := #[true, false, false]) ?_ (by kernel_rfl)
   refine AX_1 (i := 1) (by kernel_rfl) rfl ?_
   refine W_stCS (zs' := #[.int .i64 (-2)]) 1 S312 rfl hc4 rfl rfl rfl (es rfl (fg3 F210)) rfl (by rfl) (by rfl) (by kernel_rfl) (by first | rfl | (simp only [List.setIfInBounds_toArray, List.set_cons_succ, List.set_cons_zero] <;> rfl)) (fun w313 c313 hc313 S313 => ?_)
   replace S313 : St w NoX [c9, c313, c3, c2] w313 := S313
   refine W_end ?_
   refine kq _ ?_
   refine AX_cast (l2 := #[true, true, false]) ?_ (by kernel_rfl)
   refine AX_1 (i := 2) (by kernel_rfl) rfl ?_
   refine W_stCS (zs' := #[.int .i64 ((cfE C N Z K Q))]) 0 S313 rfl hc9 rfl rfl rfl (es rfl (fg2 F210)) (et rfl) (by rfl) (by rfl) (by kernel_rfl) (by first | rfl | (simp only [List.setIfInBounds_toArray, List.set_cons_succ, List.set_cons_zero] <;> rfl)) (fun w314 c314 hc314 S314 => ?_)
   replace S314 : St w NoX [c314, c313, c3, c2] w314 := S314
   refine W_end ?_
   refine kq _ ?_
   refine AX_cast (l2 := #[true, true, true]) ?_ (by kernel_rfl)
   refine AX_end (by kernel_rfl) ?_
   refine Qo_normal ?_
   have S315 : St w NoX [c314, c313] w314 := S314.sel [0, 1] (by decide) rfl
   exact ⟨inferInstance, (by simp only [df_put]; exact F210.d), ((es rfl (fg3 F210)).trans (fg3 F210).symm), ((es rfl (fg2 F210)).trans (fg2 F210).symm), (by subst hc314 hc313; exact S315)⟩
  refine W_stCS (zs' := #[.int .i64 (-2)]) 1 S312 rfl hc4 rfl rfl rfl (fg3 F210) rfl (by rfl) (by rfl) (by kernel_rfl) (by first | rfl | (simp only [List.setIfInBounds_toArray, List.set_cons_succ, List.set_cons_zero] <;> rfl)) (fun w316 c316 hc316 S316 => ?_)
  replace S316 : St w NoX [c9, c316, c3, c2] w316 := S316
  refine W_end ?_
  refine kq _ ?_
  refine AX_cast (l2 := #[false, true, false]) ?_ (by kernel_rfl)
  refine AX_1 (i := 0) (by kernel_rfl) rfl ?_
  refine W_r rfl rfl (VR_ldC rfl (fg2 F210) (cell_box (v := .int .i64 ((cfE C N Z K Q))) (S316.obj 0 rfl hc9) rfl) Try.underlying34 rfl) ?_
  refine W_end ?_
  refine kq _ ?_
  refine AX_cast (l2 := #[true, true, false]) ?_ (by kernel_rfl)
  refine AX_1 (i := 2) (by kernel_rfl) rfl ?_
  refine W_stCS (zs' := #[.int .i64 ((cfE C N Z K Q))]) 0 S316 rfl hc9 rfl rfl rfl (es rfl (fg2 F210)) (et rfl) (by rfl) (by rfl) (by kernel_rfl) (by first | rfl | (simp only [List.setIfInBounds_toArray, List.set_cons_succ, List.set_cons_zero] <;> rfl)) (fun w317 c317 hc317 S317 => ?_)
  replace S317 : St w NoX [c317, c316, c3, c2] w317 := S317
  refine W_end ?_
  refine kq _ ?_
  refine AX_cast (l2 := #[true, true, true]) ?_ (by kernel_rfl)
  refine AX_end (by kernel_rfl) ?_
  refine Qo_normal ?_
  have S318 : St w NoX [c317, c316] w317 := S317.sel [0, 1] (by decide) rfl
  exact ⟨inferInstance, (by simp only [df_put]; exact F210.d), ((es rfl (fg3 F210)).trans (fg3 F210).symm), ((es rfl (fg2 F210)).trans (fg2 F210).symm), (by subst hc317 hc316; exact S318)⟩
 rintro A319 w319 ⟨Y319, hdf319, u4_319, u5_319, S319⟩
 have l4_319 := u4_319.trans (fg3 F210)
 have l5_319 := u5_319.trans (fg2 F210)
 clear Y210 F210 S9
 obtain ⟨c213_319, c212_319, hc213_319, hc212_319, S319⟩ := gen2 S319
 refine tk H211 ?_
 refine R_ret ?_
 refine then_ret ?_
 refine ret_inR0 (results_2 Try.results11 (rv_cellC l4_319 (cell_box (S319.obj 1 rfl hc212_319) rfl) Try.underlying3 rfl) (rv_cellC l5_319 (cell_box (S319.obj 0 rfl hc213_319) rfl) Try.underlying34 rfl)) hdf319 ?_
 have he : rmP C N Z K Q (csF Xu) ns = ((-2), (cfE C N Z K Q)) := rm_e1 (by omega)
 rw [he]
 exact ⟨rfl, S319.fin0⟩

end Go.Proofs.Yteppjefmlibmoaa