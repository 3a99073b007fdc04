import Derived.Test.YteppjefmlibmoaaProg
import Derived.Test.YteppjefmlibmoaaRm2
import Derived.Test.YteppjefmlibmoaaPl8c
namespace Go.Proofs.Yteppjefmlibmoaa
open Go.RowKit Go.Own Go.Own.R Go.Own.S Go.Own.E


set_option maxHeartbeats 4000000 in
theorem qwr_c {C : Int} {N : Int} {Z : Int} {K : Int} {Q : Int} {cv : Value} {c : List Int} {i : Int} {w : World} (h_cv : Ro w NoX (il .i64 cv c))  :
  Calls Try.prog 56 #[.agg #[.int .i64 C, .int .i64 N, .int .i64 Z, .int .i64 K, .int .i64 Q], .agg #[cv], .int .i64 i] w fun e w' => e = .returned (.int .i64 (wrE C N Z K Q c i)) ∧ St w NoX [] w' := by
 refine calls_in 46 Try.func56 rfl rfl (by simp) (fun A0 hsz0 hdf0 hargs => ?_)
 have l0_0 := hargs 0 (.agg #[.int .i64 C, .int .i64 N, .int .i64 Z, .int .i64 K, .int .i64 Q]) rfl
 have l1_0 := hargs 1 (.agg #[cv]) rfl
 have l2_0 := hargs 2 (.int .i64 i) rfl
 clear hargs; replace hsz0 : SzN A0 46 := ⟨hsz0⟩
 have hS := St.nil w
 have bh_cv := SlN.le (sl_SlN h_cv.at)
 refine wp_seq_k fun K1 hK1 => ?_
 refine region_in ?_
 refine W_boxS (zs := #[.int .i64 (C), .int .i64 (N), .int .i64 (Z), .int .i64 (K), .int .i64 (Q)]) hS rfl rfl rfl l0_0 (by rfl) (fun g2 w2 c2 hc2 hS2 => ?_)
 replace hS2 : St w NoX [c2] w2 := hS2
 refine W_boxS (zs := #[cv]) hS2 rfl rfl rfl (es rfl l1_0) (by rfl) (fun g3 w3 c3 hc3 hS3 => ?_)
 replace hS3 : St w NoX [c3, c2] w3 := hS3
 refine W_v rfl rfl (V_asg rfl rfl) ?_
 refine W_end (gen_Q fun A4 hA4 => ?_)
 have hsz4 := szq hA4
 have hdf4 := dfE hA4 hdf0
 have l2_4 := ek3 hA4 2 rfl l2_0
 have l3_4 := lookE hA4 3 (e2 rfl (et rfl))
 have l4_4 := lookE hA4 4 (es rfl (et rfl))
 clear hA4 hsz0 hdf0 l0_0 l1_0 l2_0
 refine then_n (hK1 _ _ ?_)
 clear hK1
 refine wp_seq_k fun K5 hK5 => ?_
 refine region_in ?_
 refine W_r rfl rfl (VR_ldA rfl l4_4 (hS3.obj 0 rfl hc3) Try.underlying27 rfl (by kernel_rfl)) ?_
 refine W_call rfl rfl rfl Try.func65 (by kernel_rfl) rfl (args1 (et rfl)) (qList_c (hS3.roC h_cv) ) ?_
 rintro _ w6 ⟨v_6, rfl, hP6⟩
 refine ⟨_, rfl, ?_⟩
 obtain ⟨c_6, hc_6, hP6⟩ := gen1 hP6
 have hS6 := hS3.join hP6
 replace hS6 : St w NoX [c_6, c3, c2] w6 := hS6
 refine W_v rfl rfl (V_mov rfl (et rfl)) ?_
 refine W_v rfl rfl (V_ext (v := v_6) rfl (et rfl) rfl) ?_
 refine W_v rfl rfl (V_ext (v := .int .i64 ((ckS c).2)) rfl (es rfl (et rfl)) rfl) ?_
 refine W_v rfl rfl (V_asg rfl (es rfl (et rfl))) ?_
 refine W_v rfl rfl (V_asg rfl (es rfl (et rfl))) ?_
 refine W_end (gen_Q fun A7 hA7 => ?_)
 have hsz7 := szq hA7
 have hdf7 := dfE hA7 hdf4
 have l2_7 := ek7 hA7 2 rfl l2_4
 have l3_7 := ek7 hA7 3 rfl l3_4
 have l7_7 := lookE hA7 7 (es rfl (et rfl))
 have l8_7 := lookE hA7 8 (et rfl)
 clear hA7 hsz4 hdf4 l2_4 l3_4 l4_4
 have hS8 : St w NoX [c_6, c2] w6 := hS6.sel [0, 2] (by decide) rfl
 refine then_n (hK5 _ _ ?_)
 clear hK5
 refine wp_seq_k fun K9 hK9 => ?_
 refine wp_seq_k fun K10 hK10 => ?_
 refine region_in ?_
 refine W_v rfl rfl (V_mov rfl l8_7) ?_
 refine W_v rfl rfl (V_neq rfl (et rfl) rfl) ?_
 refine W_end (gen_Q fun A11 hA11 => ?_)
 have hsz11 := szq hA11
 have hdf11 := dfE hA11 hdf7
 have l2_11 := ek2 hA11 2 rfl l2_7
 have l3_11 := ek2 hA11 3 rfl l3_7
 have l7_11 := ek2 hA11 7 rfl l7_7
 have l8_11 := ek2 hA11 8 rfl l8_7
 have l18_11 := lookE hA11 18 (et rfl)
 clear hA11 hsz7 hdf7 l2_7 l3_7 l7_7 l8_7
 refine then_n (hK10 _ _ ?_)
 clear hK10
 refine cond_dec l18_11 (fun c12 => ?_) (fun c12 => ?_)
 ·refine wp_seq_k fun K13 hK13 => ?_
  refine region_in ?_
  refine W_v rfl rfl (V_mov rfl l8_11) ?_
  refine W_v rfl rfl (V_asg rfl (et rfl)) ?_
  refine W_end (gen_Q fun A14 hA14 => ?_)
  have hsz14 := szq hA14
  have hdf14 := dfE hA14 hdf11
  have l6_14 := lookE hA14 6 (et rfl)
  clear hA14 hsz11 hdf11 l2_11 l3_11 l7_11 l8_11 l18_11
  have hS15 : St w NoX [] w6 := hS8.sel [] (by decide) rfl
  refine then_n (hK13 _ _ ?_)
  clear hK13
  refine wp_ret ?_
  refine then_ret ?_
  refine ret_in (results_1 Try.results56 (rv_tmp l6_14)) hdf14 ?_
  have he : wrE C N Z K Q c i = (ckS c).2 := wr_ck (by omega)
  rw [he]
  exact ⟨rfl, hS15.fin0⟩
 ·have hck : (ckS c).2 = 0 := by omega
  have hll := lsT_len c
  refine wp_skip ?_
  refine then_n (hK9 _ _ ?_)
  clear hK9
  refine wp_seq_k fun K16 hK16 => ?_
  refine wp_seq_k fun K17 hK17 => ?_
  refine region_in ?_
  refine W_v rfl rfl (V_asg rfl rfl) ?_
  refine W_end (gen_Q fun A18 hA18 => ?_)
  have hsz18 := szq hA18
  have hdf18 := dfE hA18 hdf11
  have l2_18 := lookE hA18 2 (es rfl l2_11)
  have l3_18 := lookE hA18 3 (es rfl l3_11)
  have l7_18 := lookE hA18 7 (es rfl l7_11)
  have l9_18 := lookE hA18 9 (et rfl)
  clear hA18 hsz11 hdf11 l2_11 l3_11 l7_11 l8_11 l18_11
  refine then_n (hK17 _ _ ?_)
  clear hK17
  refine wp_block ?_
  -- loop 5
  refine loopX (fun mz A' w' => SzN A' 46 ∧ A'.defers = [] ∧ (∃ (k : Nat), (mz = (lsT c).length - k) ∧ (k ≤ (lsT c).length) ∧ (∀ a ∈ (lsT c).take k, ¬ bdA C N Z K Q i a = true) ∧ (EV A' (.tmp 9) = .int .i64 (k : Int)) ∧ (EV A' (.tmp 2) = EV A18 (.tmp 2)) ∧ (EV A' (.tmp 3) = EV A18 (.tmp 3)) ∧ (EV A' (.tmp 7) = EV A18 (.tmp 7)) ∧ (St w NoX [io .i64 v_6 (lsT c), bx g2 23 #[.int .i64 (C), .int .i64 (N), .int .i64 (Z), .int .i64 (K), .int .i64 (Q)]] w'))) ((lsT c).length - 0) ⟨hsz18, hdf18, 0, rfl, (by omega), (fun a ha => by simp at ha), ((l9_18).trans (by first | rfl | (simp; done) | (congr 1; omega))), rfl, rfl, rfl, (by subst hc_6 hc2; exact hS8)⟩ ?_
  clear hS8 hc_6 hc2
  rintro n19 A19 w19 ⟨hsz19, hdf19, k, hm19, hk, hb, l9_19, u2_19, u3_19, u7_19, hS19⟩
  have l2_19 := u2_19.trans l2_18
  have l3_19 := u3_19.trans l3_18
  have l7_19 := u7_19.trans l7_18
  obtain ⟨c_19, c2_19, hc_19, hc2_19, hS19⟩ := gen2 hS19
  refine wp_seq_k fun K20 hK20 => ?_
  refine wp_seq_k fun K21 hK21 => ?_
  refine region_in ?_
  refine W_v rfl rfl (V_mov rfl l9_19) ?_
  refine W_v rfl rfl (V_mov rfl (es rfl l7_19)) ?_
  refine W_v rfl rfl (V_lenS rfl (et rfl) (ow_at (hS19.chq 0 rfl hc_19)) Try.underlying25) ?_
  refine W_v rfl rfl (V_lss rfl (e2 rfl (et rfl)) (et rfl)) ?_
  refine W_end (gen_Q fun A22 hA22 => ?_)
  have hsz22 := szq hA22
  have hdf22 := dfE hA22 hdf19
  have l2_22 := ek4 hA22 2 rfl l2_19
  have l3_22 := ek4 hA22 3 rfl l3_19
  have l7_22 := ek4 hA22 7 rfl l7_19
  have l9_22 := ek4 hA22 9 rfl l9_19
  have l23_22 := lookE hA22 23 (et rfl)
  clear hA22 hsz19 hdf19 l9_19 l2_19 l3_19 l7_19
  refine then_n (hK21 _ _ ?_)
  clear hK21
  refine cond_dec l23_22 (fun c23 => ?_) (fun c23 => ?_)
  ·refine wp_skip ?_
   refine then_n (hK20 _ _ ?_)
   clear hK20
   refine wp_seq_k fun K24 hK24 => ?_
   refine wp_block ?_
   refine wp_seq_k fun K25 hK25 => ?_
   have k26 : k < (lsT c).length := by first | omega | (simp only [List.length_cons, List.length_nil]; omega) | (simp only [List.length_set]; omega) | decide
   obtain ⟨y26, hy26⟩ := get_some (xs := (lsT c)) (k := k) k26
   refine region_monoS 11 11 [none, none, none, none, none, some (SPv [] (fun _ => fun u l' => u = .tuple #[.int .i64 (caN C N Z K Q y26), .int .i64 (caE C N Z K Q y26)] ∧ l' = []) 5)] (by kernel_rfl) (by kernel_rfl) ?_
   refine D_r rfl rfl (by kernel_rfl) (fun sx hx hF => (VR_ldA rfl l3_22 ((hS19.grow hx).obj 1 rfl hc2_19) Try.underlying23 rfl (by kernel_rfl))) rfl rfl ?_
   refine D_v rfl rfl (V_mov rfl (es rfl l7_22)) rfl rfl ?_
   refine D_v rfl rfl (V_mov rfl (e2 rfl l9_22)) rfl rfl ?_
   obtain ⟨B26, O26, C26, hv26⟩ := (SlN.blk (ow_at (hS19.chq 0 rfl hc_19)) (by first | omega | (simp only [List.length_cons, List.length_nil]; omega) | (simp only [List.length_set]; omega) | decide))
   refine D_v rfl rfl (V_ixS (off := O26 + k) 1 (k) rfl (es rfl (et rfl)) (et rfl) hv26 (by omega) k26 Try.underlying25 (by kernel_rfl) (congrArg _ (Nat.mul_one _))) rfl rfl ?_
   refine D_r rfl rfl (by kernel_rfl) (fun sx hx hF => (VR_ldC rfl (et rfl) ((ow_at ((hS19.grow hx).chq 0 rfl hc_19)).cell hv26 (map_get hy26)) Try.underlying3 rfl)) rfl rfl ?_
   refine D_call (ts := []) (vs := []) (C0 := fun _ => fun u l' => u = .tuple #[.int .i64 (caN C N Z K Q y26), .int .i64 (caE C N Z K Q y26)] ∧ l' = []) (C := fun u l' => u = .tuple #[.int .i64 (caN C N Z K Q y26), .int .i64 (caE C N Z K Q y26)] ∧ l' = []) rfl rfl rfl Try.func24 (by kernel_rfl) rfl (args2 (e4 rfl (et rfl)) (et rfl)) rfl rfl rfl rfl (fun sx hx hF => ?_) (fun u27 l27 hu27 => ?_)
   ·refine (qca_c (C := C) (N := N) (Z := Z) (K := K) (Q := Q) (a := y26)  ).mono ?_
    rintro _ _ ⟨rfl, hz⟩
    exact ⟨_, rfl, _, ⟨rfl, rfl⟩, hz⟩
   obtain ⟨rfl, hl27⟩ := hu27
   refine D_v rfl rfl (V_mov rfl (et rfl)) rfl rfl ?_
   refine D_v rfl rfl (V_ext (v := .int .i64 ((caN C N Z K Q y26))) rfl (et rfl) rfl) rfl rfl ?_
   refine D_v rfl rfl (V_ext (v := .int .i64 ((caE C N Z K Q y26))) rfl (es rfl (et rfl)) rfl) rfl rfl ?_
   refine D_v rfl rfl (V_asg rfl (es rfl (et rfl))) rfl rfl ?_
   refine D_v rfl rfl (V_asg rfl (es rfl (et rfl))) rfl rfl ?_
   refine ZS_none hS19 (Nat.le_refl _) (Nat.le_refl _) (fun s28 hJ28 hL28 hF28 => ?_)
   obtain ⟨ll27, ws27, we27, ⟨hq27, hl27r⟩, hm27, k27, e27⟩ := L.all_get hF28; cases hq27; subst hl27r
   replace hJ28 := hJ28.add hL28 (i := 5) rfl hm27 k27 e27
   have hS28 := hJ28.st; clear hF28 hJ28 hL28
   generalize s28.1 = w28 at *
   replace hS28 : St w NoX [c_19, c2_19] w28 := hS28
   refine gen_Q (fun A29 hA29 => ?_)
   have hsz29 := szq hA29
   have hdf29 := dfE hA29 hdf22
   have l2_29 := ek11 hA29 2 rfl l2_22
   have l3_29 := ek11 hA29 3 rfl l3_22
   have l7_29 := ek11 hA29 7 rfl l7_22
   have l9_29 := ek11 hA29 9 rfl l9_22
   have l10_29 := lookE hA29 10 (es rfl (et rfl))
   have l11_29 := lookE hA29 11 (et rfl)
   clear hA29 hsz22 hdf22 l2_22 l3_22 l7_22 l9_22 l23_22
   refine then_n (hK25 _ _ ?_)
   clear hK25
   refine wp_seq_k fun K30 hK30 => ?_
   refine region_in ?_
   refine W_v rfl rfl (V_mov rfl l11_29) ?_
   refine W_v rfl rfl (V_neq rfl (et rfl) rfl) ?_
   refine W_split rfl rfl (V_mov rfl (et rfl)) (fun c31 => ?_) (fun c31 => ?_)
   ·refine W_off rfl (wanted_f rfl rfl (et rfl) (ez rfl) rfl) ?_
    refine W_off rfl (wanted_f rfl rfl (es rfl (et rfl)) (ez rfl) rfl) ?_
    refine W_v rfl rfl (V_pickT rfl (e2 rfl (et rfl)) rfl) ?_
    refine W_v rfl rfl (V_mov rfl (et rfl)) ?_
    refine W_off rfl (wanted_f rfl rfl (et rfl) (ez rfl) rfl) ?_
    refine W_off rfl (wanted_f rfl rfl (es rfl (et rfl)) (ez rfl) rfl) ?_
    refine W_off rfl (wanted_f rfl rfl (e2 rfl (et rfl)) (ez rfl) rfl) ?_
    refine W_v rfl rfl (V_pickT rfl (e3 rfl (et rfl)) rfl) ?_
    refine W_end (gen_Q fun A32 hA32 => ?_)
    have hsz32 := szq hA32
    have hdf32 := dfE hA32 hdf29
    have l2_32 := ek11 hA32 2 rfl l2_29
    have l3_32 := ek11 hA32 3 rfl l3_29
    have l7_32 := ek11 hA32 7 rfl l7_29
    have l9_32 := ek11 hA32 9 rfl l9_29
    have l38_32 := lookE hA32 38 (e7 rfl (et rfl))
    have l39_32 := lookE hA32 39 (e6 rfl (et rfl))
    have l42_32 := lookE hA32 42 (e3 rfl (et rfl))
    have l43_32 := lookE hA32 43 (e2 rfl (et rfl))
    have l44_32 := lookE hA32 44 (es rfl (et rfl))
    have l45_32 := lookE hA32 45 (et rfl)
    clear hA32 hsz29 hdf29 l2_29 l3_29 l7_29 l9_29 l10_29 l11_29
    refine then_n (hK30 _ _ ?_)
    clear hK30
    refine cond_t l45_32 ?_
    refine wp_seq_k fun K33 hK33 => ?_
    refine region_in ?_
    refine W_v rfl rfl (V_asg rfl rfl) ?_
    refine W_end (gen_Q fun A34 hA34 => ?_)
    have hsz34 := szq hA34
    have hdf34 := dfE hA34 hdf32
    have l6_34 := lookE hA34 6 (et rfl)
    clear hA34 hsz32 hdf32 l2_32 l3_32 l7_32 l9_32 l38_32 l39_32 l42_32 l43_32 l44_32 l45_32
    have hS35 : St w NoX [] w28 := hS28.sel [] (by decide) rfl
    refine then_n (hK33 _ _ ?_)
    clear hK33
    refine wp_ret ?_
    refine inb_ret ?_
    refine then_ret ?_
    refine then_ret ?_
    refine inb_ret ?_
    refine then_ret ?_
    refine ret_in (results_1 Try.results56 (rv_tmp l6_34)) hdf34 ?_
    have he : wrE C N Z K Q c i = 7 := wr_bad hck (List.mem_of_getElem? hy26) (bdA_T (by omega))
    rw [he]
    exact ⟨rfl, hS35.fin0⟩
   ·refine W_v rfl (wanted_t rfl rfl (et rfl) (ez rfl)) (V_mov rfl (e3 rfl l10_29)) ?_
    refine W_v rfl (wanted_t rfl rfl (es rfl (et rfl)) (ez rfl)) (V_lss rfl (et rfl) rfl) ?_
    refine W_v rfl rfl (V_pickF rfl (e2 rfl (et rfl)) (et rfl)) ?_
    refine W_split rfl rfl (V_mov rfl (et rfl)) (fun c36 => ?_) (fun c36 => ?_)
    ·refine W_off rfl (wanted_f rfl rfl (et rfl) (ez rfl) rfl) ?_
     refine W_off rfl (wanted_f rfl rfl (es rfl (et rfl)) (ez rfl) rfl) ?_
     refine W_off rfl (wanted_f rfl rfl (e2 rfl (et rfl)) (ez rfl) rfl) ?_
     refine W_v rfl rfl (V_pickT rfl (e3 rfl (et rfl)) rfl) ?_
     refine W_end (gen_Q fun A37 hA37 => ?_)
     have hsz37 := szq hA37
     have hdf37 := dfE hA37 hdf29
     have l2_37 := ek11 hA37 2 rfl l2_29
     have l3_37 := ek11 hA37 3 rfl l3_29
     have l7_37 := ek11 hA37 7 rfl l7_29
     have l9_37 := ek11 hA37 9 rfl l9_29
     have l38_37 := lookE hA37 38 (e7 rfl (et rfl))
     have l39_37 := lookE hA37 39 (e6 rfl (et rfl))
     have l42_37 := lookE hA37 42 (e3 rfl (et rfl))
     have l43_37 := lookE hA37 43 (e2 rfl (et rfl))
     have l44_37 := lookE hA37 44 (es rfl (et rfl))
     have l45_37 := lookE hA37 45 (et rfl)
     clear hA37 hsz29 hdf29 l2_29 l3_29 l7_29 l9_29 l10_29 l11_29
     refine then_n (hK30 _ _ ?_)
     clear hK30
     refine cond_t l45_37 ?_
     refine wp_seq_k fun K38 hK38 => ?_
     refine region_in ?_
     refine W_v rfl rfl (V_asg rfl rfl) ?_
     refine W_end (gen_Q fun A39 hA39 => ?_)
     have hsz39 := szq hA39
     have hdf39 := dfE hA39 hdf37
     have l6_39 := lookE hA39 6 (et rfl)
     clear hA39 hsz37 hdf37 l2_37 l3_37 l7_37 l9_37 l38_37 l39_37 l42_37 l43_37 l44_37 l45_37
     have hS40 : St w NoX [] w28 := hS28.sel [] (by decide) rfl
     refine then_n (hK38 _ _ ?_)
     clear hK38
     refine wp_ret ?_
     refine inb_ret ?_
     refine then_ret ?_
     refine then_ret ?_
     refine inb_ret ?_
     refine then_ret ?_
     refine ret_in (results_1 Try.results56 (rv_tmp l6_39)) hdf39 ?_
     have he : wrE C N Z K Q c i = 7 := wr_bad hck (List.mem_of_getElem? hy26) (bdA_T (by omega))
     rw [he]
     exact ⟨rfl, hS40.fin0⟩
    ·refine W_v rfl (wanted_t rfl rfl (et rfl) (ez rfl)) (V_mov rfl (e7 rfl l10_29)) ?_
     refine W_v rfl (wanted_t rfl rfl (es rfl (et rfl)) (ez rfl)) (V_mov rfl (e8 rfl l2_29)) ?_
     refine W_v rfl (wanted_t rfl rfl (e2 rfl (et rfl)) (ez rfl)) (V_eql rfl (es rfl (et rfl)) (et rfl)) ?_
     refine W_v rfl rfl (V_pickF rfl (e3 rfl (et rfl)) (et rfl)) ?_
     refine W_end (gen_Q fun A41 hA41 => ?_)
     have hsz41 := szq hA41
     have hdf41 := dfE hA41 hdf29
     have l2_41 := ek11 hA41 2 rfl l2_29
     have l3_41 := ek11 hA41 3 rfl l3_29
     have l7_41 := ek11 hA41 7 rfl l7_29
     have l9_41 := ek11 hA41 9 rfl l9_29
     have l38_41 := lookE hA41 38 (e7 rfl (et rfl))
     have l39_41 := lookE hA41 39 (e6 rfl (et rfl))
     have l42_41 := lookE hA41 42 (e3 rfl (et rfl))
     have l43_41 := lookE hA41 43 (e2 rfl (et rfl))
     have l44_41 := lookE hA41 44 (es rfl (et rfl))
     have l45_41 := lookE hA41 45 (et rfl)
     clear hA41 hsz29 hdf29 l2_29 l3_29 l7_29 l9_29 l10_29 l11_29
     refine then_n (hK30 _ _ ?_)
     clear hK30
     refine cond_dec l45_41 (fun c42 => ?_) (fun c42 => ?_)
     ·refine wp_seq_k fun K43 hK43 => ?_
      refine region_in ?_
      refine W_v rfl rfl (V_asg rfl rfl) ?_
      refine W_end (gen_Q fun A44 hA44 => ?_)
      have hsz44 := szq hA44
      have hdf44 := dfE hA44 hdf41
      have l6_44 := lookE hA44 6 (et rfl)
      clear hA44 hsz41 hdf41 l2_41 l3_41 l7_41 l9_41 l38_41 l39_41 l42_41 l43_41 l44_41 l45_41
      have hS45 : St w NoX [] w28 := hS28.sel [] (by decide) rfl
      refine then_n (hK43 _ _ ?_)
      clear hK43
      refine wp_ret ?_
      refine inb_ret ?_
      refine then_ret ?_
      refine then_ret ?_
      refine inb_ret ?_
      refine then_ret ?_
      refine ret_in (results_1 Try.results56 (rv_tmp l6_44)) hdf44 ?_
      have he : wrE C N Z K Q c i = 7 := wr_bad hck (List.mem_of_getElem? hy26) (bdA_T (by omega))
      rw [he]
      exact ⟨rfl, hS45.fin0⟩
     ·refine wp_skip ?_
      refine inb_n ?_
      refine then_n (hK24 _ _ ?_)
      clear hK24
      refine region_in ?_
      refine W_v rfl rfl (V_mov rfl l9_41) ?_
      refine W_v rfl rfl (V_add rfl (et rfl) rfl (by omega) (by omega)) ?_
      refine W_v rfl rfl (V_asg rfl (et rfl)) ?_
      refine W_end (gen_Q fun A46 hA46 => ?_)
      have hsz46 := szq hA46
      have hdf46 := dfE hA46 hdf41
      have l2_46 := ek3 hA46 2 rfl l2_41
      have l3_46 := ek3 hA46 3 rfl l3_41
      have l7_46 := ek3 hA46 7 rfl l7_41
      have l9_46 := lookE hA46 9 (et rfl)
      have l38_46 := ek3 hA46 38 rfl l38_41
      have l39_46 := ek3 hA46 39 rfl l39_41
      have l42_46 := ek3 hA46 42 rfl l42_41
      have l43_46 := ek3 hA46 43 rfl l43_41
      have l44_46 := ek3 hA46 44 rfl l44_41
      clear hA46 hsz41 hdf41 l2_41 l3_41 l7_41 l9_41 l38_41 l39_41 l42_41 l43_41 l44_41 l45_41
      refine then_n ⟨(lsT c).length - (k + 1), by simp only [hm19]; omega, hsz46, hdf46, (k + 1), rfl, (by omega), (bd_stepT hb hy26 (bdA_F (by omega))), ((l9_46).trans (by first | rfl | (simp; done) | (congr 1; omega))), ((l2_46).trans l2_18.symm), ((l3_46).trans l3_18.symm), ((l7_46).trans l7_18.symm), (by subst hc_19 hc2_19; exact hS28)⟩
  ·refine wp_exit ?_
   refine then_exit ?_
   refine then_exit ?_
   refine inb_hit ?_
   refine then_n (hK16 _ _ ?_)
   clear hK16
   refine wp_seq_k fun K47 hK47 => ?_
   refine region_in ?_
   refine W_v rfl rfl (V_asg rfl rfl) ?_
   refine W_end (gen_Q fun A48 hA48 => ?_)
   have hsz48 := szq hA48
   have hdf48 := dfE hA48 hdf22
   have l6_48 := lookE hA48 6 (et rfl)
   clear hA48 hsz22 hdf22 l2_22 l3_22 l7_22 l9_22 l23_22
   have hS49 : St w NoX [] w19 := hS19.sel [] (by decide) rfl
   refine then_n (hK47 _ _ ?_)
   clear hK47
   refine wp_ret ?_
   refine ret_in (results_1 Try.results56 (rv_tmp l6_48)) hdf48 ?_
   have he : wrE C N Z K Q c i = 0 := wr_ok hck (fun a ha => hb a (by rw [List.take_of_length_le (by omega)]; exact ha))
   rw [he]
   exact ⟨rfl, hS49.fin0⟩

set_option maxHeartbeats 4000000 in
theorem qCk8_c {C : Int} {N : Int} {Z : Int} {K : Int} {Q : Int} {cv : Value} {X : List (List Int)} {nv : Value} {ns : List Int} {w : World} (h_cv : Ro w NoX (rmR cv X)) (h_nv : Ro w NoX (il .i64 nv ns))  :
  Calls Try.prog 19 #[.agg #[.int .i64 C, .int .i64 N, .int .i64 Z, .int .i64 K, .int .i64 Q], .agg #[cv, nv]] w fun e w' => e = .returned (.tuple #[.int .i64 (rmP C N Z K Q X ns).1, .int .i64 (rmP C N Z K Q X ns).2]) ∧ St w NoX [] w' := by
 obtain ⟨Xu, hXu, k_cv, n_cv⟩ := rmR_open h_cv
 subst hXu
 have b_cv := SlN.le (sl_SlN k_cv.at)
 refine calls_in 49 Try.func19 rfl rfl (by simp) (fun A0 hsz0 hdf0 hargs => ?_)
 have l0_0 := hargs 0 (.agg #[.int .i64 C, .int .i64 N, .int .i64 Z, .int .i64 K, .int .i64 Q]) rfl
 have l1_0 := hargs 1 (.agg #[cv, nv]) rfl
 clear hargs; replace hsz0 : SzN A0 49 := ⟨hsz0⟩
 have hS := St.nil w
 have bh_nv := SlN.le (sl_SlN h_nv.at)
 have bk_cv := SlN.le (sl_SlN k_cv.at)
 refine wp_seq_k fun K1 hK1 => ?_
 refine region_in ?_
 refine W_boxS (zs := #[.int .i64 (C), .int .i64 (N), .int .i64 (Z), .int .i64 (K), .int .i64 (Q)]) hS rfl rfl rfl l0_0 (by rfl) (fun g2 w2 c2 hc2 hS2 => ?_)
 replace hS2 : St w NoX [c2] w2 := hS2
 refine W_boxS (zs := #[cv, nv]) hS2 rfl rfl rfl (es rfl l1_0) (by rfl) (fun g3 w3 c3 hc3 hS3 => ?_)
 replace hS3 : St w NoX [c3, c2] w3 := hS3
 refine W_v rfl rfl (V_asg rfl rfl) ?_
 refine W_v rfl rfl (V_asg rfl rfl) ?_
 refine W_end (gen_Q fun A4 hA4 => ?_)
 have hsz4 := szq hA4
 have hdf4 := dfE hA4 hdf0
 have l2_4 := lookE hA4 2 (e3 rfl (et rfl))
 have l3_4 := lookE hA4 3 (e2 rfl (et rfl))
 clear hA4 hsz0 hdf0 l0_0 l1_0
 refine then_n (hK1 _ _ ?_)
 clear hK1
 refine wp_seq_k fun K5 hK5 => ?_
 refine region_in ?_
 refine W_r rfl rfl (VR_ldA rfl l2_4 (hS3.obj 1 rfl hc2) Try.underlying23 rfl (by kernel_rfl)) ?_
 refine W_call rfl rfl rfl Try.func54 (by kernel_rfl) rfl (args1 (et rfl)) (qcfg_c (C := C) (N := N) (Z := Z) (K := K) (Q := Q)  ) ?_
 rintro _ w6 ⟨rfl, hP6⟩
 refine ⟨_, rfl, ?_⟩
 have hS6 := hS3.join hP6
 replace hS6 : St w NoX [c3, c2] w6 := hS6
 refine W_v rfl rfl (V_asg rfl (et rfl)) ?_
 refine W_end (gen_Q fun A7 hA7 => ?_)
 have hsz7 := szq hA7
 have hdf7 := dfE hA7 hdf4
 have l2_7 := ek3 hA7 2 rfl l2_4
 have l3_7 := ek3 hA7 3 rfl l3_4
 have l6_7 := lookE hA7 6 (et rfl)
 clear hA7 hsz4 hdf4 l2_4 l3_4
 refine then_n (hK5 _ _ ?_)
 clear hK5
 refine wp_seq_k fun K8 hK8 => ?_
 refine wp_seq_k fun K9 hK9 => ?_
 refine region_in ?_
 refine W_v rfl rfl (V_mov rfl l6_7) ?_
 refine W_v rfl rfl (V_eql rfl (et rfl) rfl) ?_
 refine W_split rfl rfl (V_mov rfl (et rfl)) (fun c10 => ?_) (fun c10 => ?_)
 ·refine W_v rfl (wanted_t rfl rfl (et rfl) (ez rfl)) (V_fa (off' := 0) rfl (e3 rfl l3_7) Try.underlying29 rfl (by decide +kernel) rfl) ?_
  refine W_r rfl (wanted_t rfl rfl (es rfl (et rfl)) (ez rfl)) (VR_ldC rfl (et rfl) (cell_box (v := cv) (hS6.obj 0 rfl hc3) rfl) Try.underlying24 rfl) ?_
  refine W_v rfl (wanted_t rfl rfl (e2 rfl (et rfl)) (ez rfl)) (V_lenS rfl (et rfl) (sl_SlN k_cv.at) Try.underlying24) ?_
  refine W_v rfl (wanted_t rfl rfl (e3 rfl (et rfl)) (ez rfl)) (V_fa (off' := 1) rfl (e6 rfl l2_7) Try.underlying23 rfl (by decide +kernel) rfl) ?_
  refine W_r rfl (wanted_t rfl rfl (e4 rfl (et rfl)) (ez rfl)) (VR_ldC rfl (et rfl) (cell_box (v := .int .i64 (N)) (hS6.obj 1 rfl hc2) rfl) Try.underlying3 rfl) ?_
  refine W_v rfl (wanted_t rfl rfl (e5 rfl (et rfl)) (ez rfl)) (V_neq rfl (e2 rfl (et rfl)) (et rfl)) ?_
  refine W_v rfl rfl (V_pickT rfl (e6 rfl (et rfl)) (et rfl)) ?_
  refine W_end (gen_Q fun A11 hA11 => ?_)
  have hsz11 := szq hA11
  have hdf11 := dfE hA11 hdf7
  have l2_11 := ek10 hA11 2 rfl l2_7
  have l3_11 := ek10 hA11 3 rfl l3_7
  have l6_11 := ek10 hA11 6 rfl l6_7
  have l20_11 := lookE hA11 20 (et rfl)
  clear hA11 hsz7 hdf7 l2_7 l3_7 l6_7
  refine then_n (hK9 _ _ ?_)
  clear hK9
  refine cond_dec l20_11 (fun c12 => ?_) (fun c12 => ?_)
  ·refine region_in ?_
   refine W_v rfl rfl (V_asg rfl rfl) ?_
   refine W_end (gen_Q fun A13 hA13 => ?_)
   have hsz13 := szq hA13
   have hdf13 := dfE hA13 hdf11
   have l2_13 := lookE hA13 2 (es rfl l2_11)
   have l3_13 := lookE hA13 3 (es rfl l3_11)
   have l6_13 := lookE hA13 6 (et rfl)
   clear hA13 hsz11 hdf11 l2_11 l3_11 l6_11 l20_11
   refine then_n (hK8 _ _ ?_)
   clear hK8
   refine wp_seq_k fun K14 hK14 => ?_
   refine wp_seq_k fun K15 hK15 => ?_
   refine region_in ?_
   refine W_v rfl rfl (V_mov rfl l6_13) ?_
   refine W_v rfl rfl (V_neq rfl (et rfl) rfl) ?_
   refine W_end (gen_Q fun A16 hA16 => ?_)
   have hsz16 := szq hA16
   have hdf16 := dfE hA16 hdf13
   have l2_16 := ek2 hA16 2 rfl l2_13
   have l3_16 := ek2 hA16 3 rfl l3_13
   have l6_16 := ek2 hA16 6 rfl l6_13
   have l22_16 := lookE hA16 22 (et rfl)
   clear hA16 hsz13 hdf13 l2_13 l3_13 l6_13
   refine then_n (hK15 _ _ ?_)
   clear hK15
   refine cond_sure l22_16 (by decide) ?_
   refine wp_seq_k fun K17 hK17 => ?_
   refine region_in ?_
   refine W_v rfl rfl (V_mov rfl l6_16) ?_
   refine W_v rfl rfl (V_asg rfl rfl) ?_
   refine W_v rfl rfl (V_asg rfl (es rfl (et rfl))) ?_
   refine W_end (gen_Q fun A18 hA18 => ?_)
   have hsz18 := szq hA18
   have hdf18 := dfE hA18 hdf16
   have l4_18 := lookE hA18 4 (es rfl (et rfl))
   have l5_18 := lookE hA18 5 (et rfl)
   clear hA18 hsz16 hdf16 l2_16 l3_16 l6_16 l22_16
   have hS19 : St w NoX [] w6 := hS6.sel [] (by decide) rfl
   refine then_n (hK17 _ _ ?_)
   clear hK17
   refine wp_ret ?_
   refine then_ret ?_
   refine ret_in (results_2 Try.results19 (rv_tmp l4_18) (rv_tmp l5_18)) hdf18 ?_
   have he : rmP C N Z K Q (csF Xu) ns = ((-2), 6) := rm_e2 (by omega) (by rw [csF_len]; omega)
   rw [he]
   exact ⟨rfl, hS19.fin0⟩
  ·have hc : cfE C N Z K Q = 0 := by omega
   have hN : ((csF Xu).length : Int) = N := by rw [csF_len]; omega
   have hr := cf_rng hc
   refine wp_skip ?_
   refine then_n (hK8 _ _ ?_)
   clear hK8
   refine wp_seq_k fun K20 hK20 => ?_
   refine wp_seq_k fun K21 hK21 => ?_
   refine region_in ?_
   refine W_v rfl rfl (V_mov rfl l6_11) ?_
   refine W_v rfl rfl (V_neq rfl (et rfl) rfl) ?_
   refine W_end (gen_Q fun A22 hA22 => ?_)
   have hsz22 := szq hA22
   have hdf22 := dfE hA22 hdf11
   have l2_22 := ek2 hA22 2 rfl l2_11
   have l3_22 := ek2 hA22 3 rfl l3_11
   have l6_22 := ek2 hA22 6 rfl l6_11
   have l22_22 := lookE hA22 22 (et rfl)
   clear hA22 hsz11 hdf11 l2_11 l3_11 l6_11 l20_11
   refine then_n (hK21 _ _ ?_)
   clear hK21
   refine cond_not l22_22 (by first | (simp [c10]; done) | exact decide_eq_true (by omega) | exact decide_eq_false (by omega)) ?_
   refine wp_skip ?_
   refine then_n (hK20 _ _ ?_)
   clear hK20
   refine wp_seq_k fun K23 hK23 => ?_
   refine wp_seq_k fun K24 hK24 => ?_
   refine region_in ?_
   refine W_v rfl rfl (V_asg rfl rfl) ?_
   refine W_end (gen_Q fun A25 hA25 => ?_)
   have hsz25 := szq hA25
   have hdf25 := dfE hA25 hdf22
   have l2_25 := lookE hA25 2 (es rfl l2_22)
   have l3_25 := lookE hA25 3 (es rfl l3_22)
   have l7_25 := lookE hA25 7 (et rfl)
   clear hA25 hsz22 hdf22 l2_22 l3_22 l6_22 l22_22
   refine then_n (hK24 _ _ ?_)
   clear hK24
   refine wp_block ?_
   -- loop 7
   refine loopX (fun mz A' w' => SzN A' 49 ∧ A'.defers = [] ∧ (∃ (k : Nat), (mz = Xu.length - k) ∧ (k ≤ Xu.length) ∧ (∀ i, i < k → ∀ y, (alC (csF Xu) ns)[i]? = some y → wrE C N Z K Q y.2 y.1 = 0) ∧ (EV A' (.tmp 7) = .int .i64 (k : Int)) ∧ (EV A' (.tmp 2) = EV A25 (.tmp 2)) ∧ (EV A' (.tmp 3) = EV A25 (.tmp 3)) ∧ (St w NoX [bx g3 29 #[cv, nv], bx g2 23 #[.int .i64 (C), .int .i64 (N), .int .i64 (Z), .int .i64 (K), .int .i64 (Q)]] w'))) (Xu.length - 0) ⟨hsz25, hdf25, 0, rfl, (by omega), (fun i hi => by omega), ((l7_25).trans (by first | rfl | (simp; done) | (congr 1; omega))), rfl, rfl, (by subst hc3 hc2; exact hS6)⟩ ?_
   clear hS6 hc3 hc2
   rintro n26 A26 w26 ⟨hsz26, hdf26, k, hm26, hk, hz, l7_26, u2_26, u3_26, hS26⟩
   have l2_26 := u2_26.trans l2_25
   have l3_26 := u3_26.trans l3_25
   obtain ⟨c3_26, c2_26, hc3_26, hc2_26, hS26⟩ := gen2 hS26
   refine wp_seq_k fun K27 hK27 => ?_
   refine wp_seq_k fun K28 hK28 => ?_
   refine region_in ?_
   refine W_v rfl rfl (V_mov rfl l7_26) ?_
   refine W_v rfl rfl (V_fa (off' := 1) rfl (es rfl l2_26) Try.underlying23 rfl (by decide +kernel) rfl) ?_
   refine W_r rfl rfl (VR_ldC rfl (et rfl) (cell_box (v := .int .i64 (N)) (hS26.obj 1 rfl hc2_26) rfl) Try.underlying3 rfl) ?_
   refine W_v rfl rfl (V_lss rfl (e2 rfl (et rfl)) (et rfl)) ?_
   refine W_end (gen_Q fun A29 hA29 => ?_)
   have hsz29 := szq hA29
   have hdf29 := dfE hA29 hdf26
   have l2_29 := ek4 hA29 2 rfl l2_26
   have l3_29 := ek4 hA29 3 rfl l3_26
   have l7_29 := ek4 hA29 7 rfl l7_26
   have l27_29 := lookE hA29 27 (et rfl)
   clear hA29 hsz26 hdf26 l7_26 l2_26 l3_26
   refine then_n (hK28 _ _ ?_)
   clear hK28
   refine cond_dec l27_29 (fun c30 => ?_) (fun c30 => ?_)
   ·refine wp_skip ?_
    refine then_n (hK27 _ _ ?_)
    clear hK27
    refine wp_seq_k fun K31 hK31 => ?_
    refine wp_block ?_
    refine wp_seq_k fun K32 hK32 => ?_
    have k33 : k < Xu.length := by first | omega | (simp only [List.length_cons, List.length_nil]; omega) | (simp only [List.length_set]; omega) | decide
    obtain ⟨y33, hy33⟩ := get_some (xs := Xu) (k := k) k33
    refine region_monoS 9 9 [none, none, none, none, none, none, none, some (SPv [] (fun _ => fun u l' => u = .int .i64 (wrE C N Z K Q y33.2 (k : Int)) ∧ l' = []) 7)] (by kernel_rfl) (by kernel_rfl) ?_
    refine D_r rfl rfl (by kernel_rfl) (fun sx hx hF => (VR_ldA rfl l2_29 ((hS26.grow hx).obj 1 rfl hc2_26) Try.underlying23 rfl (by kernel_rfl))) rfl rfl ?_
    refine D_v rfl rfl (V_fa (off' := 0) rfl (es rfl l3_29) Try.underlying29 rfl (by decide +kernel) rfl) rfl rfl ?_
    refine D_r rfl rfl (by kernel_rfl) (fun sx hx hF => (VR_ldC rfl (et rfl) (cell_box (v := cv) ((hS26.grow hx).obj 0 rfl hc3_26) rfl) Try.underlying24 rfl)) rfl rfl ?_
    refine D_v rfl rfl (V_mov rfl (e3 rfl l7_29)) rfl rfl ?_
    obtain ⟨B33, O33, C33, hv33⟩ := (SlN.blk (sl_SlN k_cv.at) (by first | omega | (simp only [List.length_cons, List.length_nil]; omega) | (simp only [List.length_set]; omega) | decide))
    refine D_v rfl rfl (V_ixS (off := O33 + k * 1) 1 (k) rfl (es rfl (et rfl)) (et rfl) hv33 (by omega) k33 Try.underlying24 (by kernel_rfl) rfl) rfl rfl ?_
    have fn34 : Ro w NoX (il .i64 y33.1 y33.2) := nsi_ro1 n_cv hy33
    have bfn34 := SlN.le (sl_SlN (hS26.ro fn34))
    refine D_r rfl rfl (by kernel_rfl) (fun sx hx hF => (VR_ldR (ys := fstC y33) rfl (et rfl) (SlN.row fstC_len (sl_SlN ((hS26.grow hx).ro k_cv)) hv33 hy33 rfl) Try.underlying27 rfl (by kernel_rfl))) rfl rfl ?_
    refine D_v rfl rfl (V_mov rfl (e6 rfl l7_29)) rfl rfl ?_
    refine D_call (ts := []) (vs := []) (C0 := fun _ => fun u l' => u = .int .i64 (wrE C N Z K Q y33.2 (k : Int)) ∧ l' = []) (C := fun u l' => u = .int .i64 (wrE C N Z K Q y33.2 (k : Int)) ∧ l' = []) rfl rfl rfl Try.func56 (by kernel_rfl) rfl (args3 (e6 rfl (et rfl)) (es rfl (et rfl)) (et rfl)) rfl rfl rfl rfl (fun sx hx hF => ?_) (fun u35 l35 hu35 => ?_)
    ·refine (qwr_c (C := C) (N := N) (Z := Z) (K := K) (Q := Q) (i := (k : Int)) ((hS26.grow hx).roC fn34) ).mono ?_
     rintro _ _ ⟨rfl, hz⟩
     exact ⟨_, rfl, _, ⟨rfl, rfl⟩, hz⟩
    obtain ⟨rfl, hl35⟩ := hu35
    refine D_v rfl rfl (V_asg rfl (et rfl)) rfl rfl ?_
    refine ZS_none hS26 (Nat.le_refl _) (Nat.le_refl _) (fun s36 hJ36 hL36 hF36 => ?_)
    obtain ⟨ll35, ws35, we35, ⟨hq35, hl35r⟩, hm35, k35, e35⟩ := L.all_get hF36; cases hq35; subst hl35r
    replace hJ36 := hJ36.add hL36 (i := 7) rfl hm35 k35 e35
    have hS36 := hJ36.st; clear hF36 hJ36 hL36
    generalize s36.1 = w36 at *
    replace hS36 : St w NoX [c3_26, c2_26] w36 := hS36
    refine gen_Q (fun A37 hA37 => ?_)
    have hsz37 := szq hA37
    have hdf37 := dfE hA37 hdf29
    have l2_37 := ek9 hA37 2 rfl l2_29
    have l3_37 := ek9 hA37 3 rfl l3_29
    have l7_37 := ek9 hA37 7 rfl l7_29
    have l8_37 := lookE hA37 8 (et rfl)
    clear hA37 hsz29 hdf29 l2_29 l3_29 l7_29 l27_29
    refine then_n (hK32 _ _ ?_)
    clear hK32
    refine wp_seq_k fun K38 hK38 => ?_
    refine region_in ?_
    refine W_v rfl rfl (V_mov rfl l8_37) ?_
    refine W_v rfl rfl (V_neq rfl (et rfl) rfl) ?_
    refine W_end (gen_Q fun A39 hA39 => ?_)
    have hsz39 := szq hA39
    have hdf39 := dfE hA39 hdf37
    have l2_39 := ek2 hA39 2 rfl l2_37
    have l3_39 := ek2 hA39 3 rfl l3_37
    have l7_39 := ek2 hA39 7 rfl l7_37
    have l8_39 := ek2 hA39 8 rfl l8_37
    have l39_39 := lookE hA39 39 (et rfl)
    clear hA39 hsz37 hdf37 l2_37 l3_37 l7_37 l8_37
    refine then_n (hK38 _ _ ?_)
    clear hK38
    refine cond_dec l39_39 (fun c40 => ?_) (fun c40 => ?_)
    ·refine wp_seq_k fun K41 hK41 => ?_
     refine region_in ?_
     refine W_v rfl rfl (V_mov rfl l7_39) ?_
     refine W_v rfl rfl (V_mov rfl (es rfl l8_39)) ?_
     refine W_v rfl rfl (V_asg rfl (es rfl (et rfl))) ?_
     refine W_v rfl rfl (V_asg rfl (es rfl (et rfl))) ?_
     refine W_end (gen_Q fun A42 hA42 => ?_)
     have hsz42 := szq hA42
     have hdf42 := dfE hA42 hdf39
     have l4_42 := lookE hA42 4 (es rfl (et rfl))
     have l5_42 := lookE hA42 5 (et rfl)
     clear hA42 hsz39 hdf39 l2_39 l3_39 l7_39 l8_39 l39_39
     have hS43 : St w NoX [] w36 := hS36.sel [] (by decide) rfl
     refine then_n (hK41 _ _ ?_)
     clear hK41
     refine wp_ret ?_
     refine inb_ret ?_
     refine then_ret ?_
     refine then_ret ?_
     refine inb_ret ?_
     refine then_ret ?_
     refine ret_in (results_2 Try.results19 (rv_tmp l4_42) (rv_tmp l5_42)) hdf42 ?_
     have he : rmP C N Z K Q (csF Xu) ns = ((k : Int), (wrE C N Z K Q y33.2 (k : Int))) := rm_hit hc hN hz (alC_at (csF_at hy33)) (show wrE C N Z K Q y33.2 (k : Int) ≠ 0 by omega)
     rw [he]
     exact ⟨rfl, hS43.fin0⟩
    ·refine wp_skip ?_
     refine inb_n ?_
     refine then_n (hK31 _ _ ?_)
     clear hK31
     refine region_in ?_
     refine W_v rfl rfl (V_mov rfl l7_39) ?_
     refine W_v rfl rfl (V_add rfl (et rfl) rfl (by omega) (by omega)) ?_
     refine W_v rfl rfl (V_asg rfl (et rfl)) ?_
     refine W_end (gen_Q fun A44 hA44 => ?_)
     have hsz44 := szq hA44
     have hdf44 := dfE hA44 hdf39
     have l2_44 := ek3 hA44 2 rfl l2_39
     have l3_44 := ek3 hA44 3 rfl l3_39
     have l7_44 := lookE hA44 7 (et rfl)
     clear hA44 hsz39 hdf39 l2_39 l3_39 l7_39 l8_39 l39_39
     refine then_n ⟨Xu.length - (k + 1), by simp only [hm26]; omega, hsz44, hdf44, (k + 1), rfl, (by omega), (hz_step hz (alC_at (csF_at hy33)) (show wrE C N Z K Q y33.2 (k : Int) = 0 by omega)), ((l7_44).trans (by first | rfl | (simp; done) | (congr 1; omega))), ((l2_44).trans l2_25.symm), ((l3_44).trans l3_25.symm), (by subst hc3_26 hc2_26; exact hS36)⟩
   ·refine wp_exit ?_
    refine then_exit ?_
    refine then_exit ?_
    refine inb_hit ?_
    refine then_n (hK23 _ _ ?_)
    clear hK23
    refine wp_seq_k fun K45 hK45 => ?_
    refine region_in ?_
    refine W_r rfl rfl (VR_ldA rfl l2_29 (hS26.obj 1 rfl hc2_26) Try.underlying23 rfl (by kernel_rfl)) ?_
    refine W_v rfl rfl (V_fa (off' := 1) rfl (es rfl l3_29) Try.underlying29 rfl (by decide +kernel) rfl) ?_
    refine W_r rfl rfl (VR_ldP (ys := [nv]) rfl (et rfl) (hS26.obj 0 rfl hc3_26) (ldP_at rfl) Try.underlying27 rfl (by kernel_rfl)) ?_
    refine W_call rfl rfl rfl Try.func56 (by kernel_rfl) rfl (args3 (e2 rfl (et rfl)) (et rfl) rfl) (qwr_c (C := C) (N := N) (Z := Z) (K := K) (Q := Q) (i := (-1)) (hS26.roC h_nv) ) ?_
    rintro _ w46 ⟨rfl, hP46⟩
    refine ⟨_, rfl, ?_⟩
    have hS46 := hS26.join hP46
    replace hS46 : St w NoX [c3_26, c2_26] w46 := hS46
    refine W_v rfl rfl (V_asg rfl (et rfl)) ?_
    refine W_end (gen_Q fun A47 hA47 => ?_)
    have hsz47 := szq hA47
    have hdf47 := dfE hA47 hdf29
    have l6_47 := lookE hA47 6 (et rfl)
    clear hA47 hsz29 hdf29 l2_29 l3_29 l7_29 l27_29
    have hS48 : St w NoX [] w46 := hS46.sel [] (by decide) rfl
    refine then_n (hK45 _ _ ?_)
    clear hK45
    refine wp_seq_k fun K49 hK49 => ?_
    refine wp_seq_k fun K50 hK50 => ?_
    refine region_in ?_
    refine W_v rfl rfl (V_mov rfl l6_47) ?_
    refine W_v rfl rfl (V_neq rfl (et rfl) rfl) ?_
    refine W_end (gen_Q fun A51 hA51 => ?_)
    have hsz51 := szq hA51
    have hdf51 := dfE hA51 hdf47
    have l6_51 := ek2 hA51 6 rfl l6_47
    have l47_51 := lookE hA51 47 (et rfl)
    clear hA51 hsz47 hdf47 l6_47
    refine then_n (hK50 _ _ ?_)
    clear hK50
    refine cond_dec l47_51 (fun c52 => ?_) (fun c52 => ?_)
    ·refine wp_seq_k fun K53 hK53 => ?_
     refine region_in ?_
     refine W_v rfl rfl (V_mov rfl l6_51) ?_
     refine W_v rfl rfl (V_asg rfl rfl) ?_
     refine W_v rfl rfl (V_asg rfl (es rfl (et rfl))) ?_
     refine W_end (gen_Q fun A54 hA54 => ?_)
     have hsz54 := szq hA54
     have hdf54 := dfE hA54 hdf51
     have l4_54 := lookE hA54 4 (es rfl (et rfl))
     have l5_54 := lookE hA54 5 (et rfl)
     clear hA54 hsz51 hdf51 l6_51 l47_51
     refine then_n (hK53 _ _ ?_)
     clear hK53
     refine wp_ret ?_
     refine then_ret ?_
     refine ret_in (results_2 Try.results19 (rv_tmp l4_54) (rv_tmp l5_54)) hdf54 ?_
     have he : rmP C N Z K Q (csF Xu) ns = ((-1), (wrE C N Z K Q ns (-1))) := rm_hit hc hN hz (alC_end (show k = (csF Xu).length by rw [csF_len]; omega)) (show wrE C N Z K Q ns (-1) ≠ 0 by omega)
     rw [he]
     exact ⟨rfl, hS48.fin0⟩
    ·refine wp_skip ?_
     refine then_n (hK49 _ _ ?_)
     clear hK49
     refine wp_seq_k fun K55 hK55 => ?_
     refine region_in ?_
     refine W_v rfl rfl (V_asg rfl rfl) ?_
     refine W_v rfl rfl (V_asg rfl rfl) ?_
     refine W_end (gen_Q fun A56 hA56 => ?_)
     have hsz56 := szq hA56
     have hdf56 := dfE hA56 hdf51
     have l4_56 := lookE hA56 4 (es rfl (et rfl))
     have l5_56 := lookE hA56 5 (et rfl)
     clear hA56 hsz51 hdf51 l6_51 l47_51
     refine then_n (hK55 _ _ ?_)
     clear hK55
     refine wp_ret ?_
     refine ret_in (results_2 Try.results19 (rv_tmp l4_56) (rv_tmp l5_56)) hdf56 ?_
     have he : rmP C N Z K Q (csF Xu) ns = (0, 0) := rm_ok hc hN (fun i hi y hy => hz_step hz (alC_end (show k = (csF Xu).length by rw [csF_len]; omega)) (show wrE C N Z K Q ns (-1) = 0 by omega) i (by rw [csF_len] at hi; omega) y hy)
     rw [he]
     exact ⟨rfl, hS48.fin0⟩
 ·refine W_off rfl (wanted_f rfl rfl (et rfl) (ez rfl) rfl) ?_
  refine W_off rfl (wanted_f rfl rfl (es rfl (et rfl)) (ez rfl) rfl) ?_
  refine W_off rfl (wanted_f rfl rfl (e2 rfl (et rfl)) (ez rfl) rfl) ?_
  refine W_off rfl (wanted_f rfl rfl (e3 rfl (et rfl)) (ez rfl) rfl) ?_
  refine W_off rfl (wanted_f rfl rfl (e4 rfl (et rfl)) (ez rfl) rfl) ?_
  refine W_off rfl (wanted_f rfl rfl (e5 rfl (et rfl)) (ez rfl) rfl) ?_
  refine W_v rfl rfl (V_pickF rfl (e6 rfl (et rfl)) rfl) ?_
  refine W_end (gen_Q fun A57 hA57 => ?_)
  have hsz57 := szq hA57
  have hdf57 := dfE hA57 hdf7
  have l2_57 := ek10 hA57 2 rfl l2_7
  have l3_57 := ek10 hA57 3 rfl l3_7
  have l6_57 := ek10 hA57 6 rfl l6_7
  have l20_57 := lookE hA57 20 (et rfl)
  clear hA57 hsz7 hdf7 l2_7 l3_7 l6_7
  refine then_n (hK9 _ _ ?_)
  clear hK9
  refine cond_f l20_57 ?_
  refine wp_skip ?_
  refine then_n (hK8 _ _ ?_)
  clear hK8
  refine wp_seq_k fun K58 hK58 => ?_
  refine wp_seq_k fun K59 hK59 => ?_
  refine region_in ?_
  refine W_v rfl rfl (V_mov rfl l6_57) ?_
  refine W_v rfl rfl (V_neq rfl (et rfl) rfl) ?_
  refine W_end (gen_Q fun A60 hA60 => ?_)
  have hsz60 := szq hA60
  have hdf60 := dfE hA60 hdf57
  have l2_60 := ek2 hA60 2 rfl l2_57
  have l3_60 := ek2 hA60 3 rfl l3_57
  have l6_60 := ek2 hA60 6 rfl l6_57
  have l22_60 := lookE hA60 22 (et rfl)
  clear hA60 hsz57 hdf57 l2_57 l3_57 l6_57 l20_57
  refine then_n (hK59 _ _ ?_)
  clear hK59
  refine cond_sure l22_60 (by first | (simp [c10]; done) | exact decide_eq_true (by omega) | exact decide_eq_false (by omega)) ?_
  refine wp_seq_k fun K61 hK61 => ?_
  refine region_in ?_
  refine W_v rfl rfl (V_mov rfl l6_60) ?_
  refine W_v rfl rfl (V_asg rfl rfl) ?_
  refine W_v rfl rfl (V_asg rfl (es rfl (et rfl))) ?_
  refine W_end (gen_Q fun A62 hA62 => ?_)
  have hsz62 := szq hA62
  have hdf62 := dfE hA62 hdf60
  have l4_62 := lookE hA62 4 (es rfl (et rfl))
  have l5_62 := lookE hA62 5 (et rfl)
  clear hA62 hsz60 hdf60 l2_60 l3_60 l6_60 l22_60
  have hS63 : St w NoX [] w6 := hS6.sel [] (by decide) rfl
  refine then_n (hK61 _ _ ?_)
  clear hK61
  refine wp_ret ?_
  refine then_ret ?_
  refine ret_in (results_2 Try.results19 (rv_tmp l4_62) (rv_tmp l5_62)) hdf62 ?_
  have he : rmP C N Z K Q (csF Xu) ns = ((-2), (cfE C N Z K Q)) := rm_e1 (by omega)
  rw [he]
  exact ⟨rfl, hS63.fin0⟩

set_option maxHeartbeats 4000000 in
theorem kCk8_c {C : Int} {N : Int} {Z : Int} {K : Int} {Q : Int} {cv : Value} {X : List (List Int)} {nv : Value} {ns : List Int} {w : World} (h_cv : Ro w NoX (rmR cv X)) (h_nv : Ro w NoX (il .i64 nv ns))  :
  Calls Try.prog 11 #[.agg #[.int .i64 C, .int .i64 N, .int .i64 Z, .int .i64 K, .int .i64 Q], .agg #[cv, nv]] w fun e w' => e = .returned (.tuple #[.int .i64 (rmP C N Z K Q X ns).1, .int .i64 (rmP C N Z K Q X ns).2]) ∧ St w NoX [] w' := by
 obtain ⟨Xu, hXu, k_cv, n_cv⟩ := rmR_open h_cv
 subst hXu
 have b_cv := SlN.le (sl_SlN k_cv.at)
 have f_al := nsi_all n_cv h_nv
 refine calls_inR 70 Try.func11 rfl rfl (by simp) (fun A0 hsz0 hdf0 hargs => ?_)
 have l0_0 := hargs 0 (.agg #[.int .i64 C, .int .i64 N, .int .i64 Z, .int .i64 K, .int .i64 Q]) rfl
 have l1_0 := hargs 1 (.agg #[cv, nv]) rfl
 clear hargs; replace hsz0 : SzN A0 70 := ⟨hsz0⟩
 have hS := St.nil w
 have bh_nv := SlN.le (sl_SlN h_nv.at)
 have bk_cv := SlN.le (sl_SlN k_cv.at)
 refine R_seq (fun K1 hK1 => ?_)
 refine R_region (by kernel_rfl) ?_
 refine W_boxS (zs := #[.int .i64 (C), .int .i64 (N), .int .i64 (Z), .int .i64 (K), .int .i64 (Q)]) hS rfl rfl rfl l0_0 (by rfl) (fun g2 w2 c2 hc2 hS2 => ?_)
 replace hS2 : St w NoX [c2] w2 := hS2
 refine W_boxS (zs := #[cv, nv]) hS2 rfl rfl rfl (es rfl l1_0) (by rfl) (fun g3 w3 c3 hc3 hS3 => ?_)
 replace hS3 : St w NoX [c3, c2] w3 := hS3
 refine W_allocS (z := .int .i64 0) (zs := #[.int .i64 0]) hS3 rfl rfl rfl (by kernel_rfl) (by rfl) (fun g4 w4 c4 hc4 hS4 => ?_)
 replace hS4 : St w NoX [c4, c3, c2] w4 := hS4
 refine W_allocS (z := .int .i64 0) (zs := #[.int .i64 0]) hS4 rfl rfl rfl (by kernel_rfl) (by rfl) (fun g5 w5 c5 hc5 hS5 => ?_)
 replace hS5 : St w NoX [c5, c4, c3, c2] w5 := hS5
 refine W_end ?_
 refine Qo_normal ?_
 refine gen_Q (fun A6 hA6 => ?_)
 have hsz6 := szq hA6
 have hdf6 := dfE hA6 hdf0
 have l2_6 := lookE hA6 2 (e3 rfl (et rfl))
 have l3_6 := lookE hA6 3 (e2 rfl (et rfl))
 have l4_6 := lookE hA6 4 (es rfl (et rfl))
 have l5_6 := lookE hA6 5 (et rfl)
 clear hA6 hsz0 hdf0 l0_0 l1_0
 refine then_n (hK1 _ _ ?_)
 clear hK1
 refine R_seq (fun K7 hK7 => ?_)
 refine R_region (by kernel_rfl) ?_
 refine W_r rfl rfl (VR_ldA rfl l2_6 (hS5.obj 3 rfl hc2) Try.underlying23 rfl (by kernel_rfl)) ?_
 refine W_call rfl rfl rfl Try.func40 (by kernel_rfl) rfl (args1 (et rfl)) (kcfg_c (C := C) (N := N) (Z := Z) (K := K) (Q := Q)  ) ?_
 rintro _ w8 ⟨rfl, hP8⟩
 refine ⟨_, rfl, ?_⟩
 have hS8 := hS5.join hP8
 replace hS8 : St w NoX [c5, c4, c3, c2] w8 := hS8
 refine W_stCS (zs' := #[.int .i64 ((cfE C N Z K Q))]) 0 hS8 rfl hc5 rfl rfl rfl (e2 rfl l5_6) (et rfl) (by rfl) (by rfl) (by kernel_rfl) (by first | rfl | (simp only [List.setIfInBounds_toArray, List.set_cons_succ, List.set_cons_zero] <;> rfl)) (fun w9 c9 hc9 hS9 => ?_)
 replace hS9 : St w NoX [c9, c4, c3, c2] w9 := hS9
 refine W_end ?_
 refine Qo_normal ?_
 refine gen_Q (fun A10 hA10 => ?_)
 have hsz10 := szq hA10
 have hdf10 := dfE hA10 hdf6
 have l2_10 := ek2 hA10 2 rfl l2_6
 have l3_10 := ek2 hA10 3 rfl l3_6
 have l4_10 := ek2 hA10 4 rfl l4_6
 have l5_10 := ek2 hA10 5 rfl l5_6
 clear hA10 hsz6 hdf6 l2_6 l3_6 l4_6 l5_6
 refine then_n (hK7 _ _ ?_)
 clear hK7
 refine R_seq (fun K11 hK11 => ?_)
 refine R_seq (fun K12 hK12 => ?_)
 refine R_region (by kernel_rfl) ?_
 refine W_r rfl rfl (VR_ldC rfl l5_10 (cell_box (v := .int .i64 ((cfE C N Z K Q))) (hS9.obj 0 rfl hc9) rfl) Try.underlying34 rfl) ?_
 refine W_v rfl rfl (V_eql rfl (et rfl) rfl) ?_
 refine W_split rfl rfl (V_mov rfl (et rfl)) (fun c13 => ?_) (fun c13 => ?_)
 ·refine W_v rfl (wanted_t rfl rfl (et rfl) (ez rfl)) (V_fa (off' := 0) rfl (e3 rfl l3_10) Try.underlying29 rfl (by decide +kernel) rfl) ?_
  refine W_r rfl (wanted_t rfl rfl (es rfl (et rfl)) (ez rfl)) (VR_ldC rfl (et rfl) (cell_box (v := cv) (hS9.obj 2 rfl hc3) rfl) Try.underlying24 rfl) ?_
  refine W_v rfl (wanted_t rfl rfl (e2 rfl (et rfl)) (ez rfl)) (V_lenS rfl (et rfl) (sl_SlN k_cv.at) Try.underlying24) ?_
  refine W_v rfl (wanted_t rfl rfl (e3 rfl (et rfl)) (ez rfl)) (V_fa (off' := 1) rfl (e6 rfl l2_10) Try.underlying23 rfl (by decide +kernel) rfl) ?_
  refine W_r rfl (wanted_t rfl rfl (e4 rfl (et rfl)) (ez rfl)) (VR_ldC rfl (et rfl) (cell_box (v := .int .i64 (N)) (hS9.obj 3 rfl hc2) rfl) Try.underlying3 rfl) ?_
  refine W_v rfl (wanted_t rfl rfl (e5 rfl (et rfl)) (ez rfl)) (V_neq rfl (e2 rfl (et rfl)) (et rfl)) ?_
  refine W_v rfl rfl (V_pickT rfl (e6 rfl (et rfl)) (et rfl)) ?_
  refine W_end ?_
  refine Qo_normal ?_
  refine gen_Q (fun A14 hA14 => ?_)
  have hsz14 := szq hA14
  have hdf14 := dfE hA14 hdf10
  have l2_14 := ek10 hA14 2 rfl l2_10
  have l3_14 := ek10 hA14 3 rfl l3_10
  have l4_14 := ek10 hA14 4 rfl l4_10
  have l5_14 := ek10 hA14 5 rfl l5_10
  have l25_14 := lookE hA14 25 (et rfl)
  clear hA14 hsz10 hdf10 l2_10 l3_10 l4_10 l5_10
  refine then_n (hK12 _ _ ?_)
  clear hK12
  refine R_cond_dec l25_14 (fun c15 => ?_) (fun c15 => ?_)
  ·refine R_region (by kernel_rfl) ?_
   refine W_stCS (zs' := #[.int .i64 6]) 0 hS9 rfl hc9 rfl rfl rfl l5_14 rfl (by rfl) (by rfl) (by kernel_rfl) (by first | rfl | (simp only [List.setIfInBounds_toArray, List.set_cons_succ, List.set_cons_zero] <;> rfl)) (fun w16 c16 hc16 hS16 => ?_)
   replace hS16 : St w NoX [c16, c4, c3, c2] w16 := hS16
   refine W_end ?_
   refine Qo_normal ?_
   refine then_n (hK11 _ _ ?_)
   clear hK11
   refine R_seq (fun K17 hK17 => ?_)
   refine R_seq (fun K18 hK18 => ?_)
   refine R_region (by kernel_rfl) ?_
   refine W_r rfl rfl (VR_ldC rfl l5_14 (cell_box (v := .int .i64 6) (hS16.obj 0 rfl hc16) rfl) Try.underlying34 rfl) ?_
   refine W_v rfl rfl (V_neq rfl (et rfl) rfl) ?_
   refine W_end ?_
   refine Qo_normal ?_
   refine gen_Q (fun A19 hA19 => ?_)
   have hsz19 := szq hA19
   have hdf19 := dfE hA19 hdf14
   have l2_19 := ek2 hA19 2 rfl l2_14
   have l3_19 := ek2 hA19 3 rfl l3_14
   have l4_19 := ek2 hA19 4 rfl l4_14
   have l5_19 := ek2 hA19 5 rfl l5_14
   have l27_19 := lookE hA19 27 (et rfl)
   clear hA19 hsz14 hdf14 l2_14 l3_14 l4_14 l5_14 l25_14
   refine then_n (hK18 _ _ ?_)
   clear hK18
   refine R_cond_sure l27_19 (by decide) ?_
   refine R_seq (fun K20 hK20 => ?_)
   refine join_R (R := fun A' w' => SzN A' 70 ∧ A'.defers = [] ∧ EV A' (.tmp 4) = EV A19 (.tmp 4) ∧ EV A' (.tmp 5) = EV A19 (.tmp 5) ∧ St w NoX [bx g5 34 #[.int .i64 6], bx g4 3 #[.int .i64 (-2)]] w') ?_ ?_
   ·refine R_any (by kernel_rfl) (by kernel_rfl) 3 rfl (fun w121 hx121 => ?_)
    have hS121 := hS16.grow hx121
    refine AX_2 (i := 0) (j := 1) (by kernel_rfl) rfl rfl ?_ ?_
    ·refine W_r rfl rfl (VR_ldC rfl l5_19 (cell_box (v := .int .i64 6) (hS121.obj 0 rfl hc16) rfl) Try.underlying34 rfl) ?_
     refine W_end ?_
     refine kq _ ?_
     refine AX_cast (l2 := #[true, false, false]) ?_ (by kernel_rfl)
     refine AX_1 (i := 1) (by kernel_rfl) rfl ?_
     refine W_stCS (zs' := #[.int .i64 (-2)]) 1 hS121 rfl hc4 rfl rfl rfl (es rfl l4_19) rfl (by rfl) (by rfl) (by kernel_rfl) (by first | rfl | (simp only [List.setIfInBounds_toArray, List.set_cons_succ, List.set_cons_zero] <;> rfl)) (fun w122 c122 hc122 hS122 => ?_)
     replace hS122 : St w NoX [c16, c122, c3, c2] w122 := hS122
     refine W_end ?_
     refine kq _ ?_
     refine AX_cast (l2 := #[true, true, false]) ?_ (by kernel_rfl)
     refine AX_1 (i := 2) (by kernel_rfl) rfl ?_
     refine W_stCS (zs' := #[.int .i64 6]) 0 hS122 rfl hc16 rfl rfl rfl (es rfl l5_19) (et rfl) (by rfl) (by rfl) (by kernel_rfl) (by first | rfl | (simp only [List.setIfInBounds_toArray, List.set_cons_succ, List.set_cons_zero] <;> rfl)) (fun w123 c123 hc123 hS123 => ?_)
     replace hS123 : St w NoX [c123, c122, c3, c2] w123 := hS123
     refine W_end ?_
     refine kq _ ?_
     refine AX_cast (l2 := #[true, true, true]) ?_ (by kernel_rfl)
     refine AX_end (by kernel_rfl) ?_
     refine Qo_normal ?_
     have hS124 : St w NoX [c123, c122] w123 := hS123.sel [0, 1] (by decide) rfl
     exact ⟨inferInstance, (by simp only [df_put]; exact hdf19), ((es rfl l4_19).trans l4_19.symm), ((es rfl l5_19).trans l5_19.symm), (by subst hc123 hc122; exact hS124)⟩
    ·refine W_stCS (zs' := #[.int .i64 (-2)]) 1 hS121 rfl hc4 rfl rfl rfl l4_19 rfl (by rfl) (by rfl) (by kernel_rfl) (by first | rfl | (simp only [List.setIfInBounds_toArray, List.set_cons_succ, List.set_cons_zero] <;> rfl)) (fun w125 c125 hc125 hS125 => ?_)
     replace hS125 : St w NoX [c16, c125, c3, c2] w125 := hS125
     refine W_end ?_
     refine kq _ ?_
     refine AX_cast (l2 := #[false, true, false]) ?_ (by kernel_rfl)
     refine AX_1 (i := 0) (by kernel_rfl) rfl ?_
     refine W_r rfl rfl (VR_ldC rfl l5_19 (cell_box (v := .int .i64 6) (hS125.obj 0 rfl hc16) rfl) Try.underlying34 rfl) ?_
     refine W_end ?_
     refine kq _ ?_
     refine AX_cast (l2 := #[true, true, false]) ?_ (by kernel_rfl)
     refine AX_1 (i := 2) (by kernel_rfl) rfl ?_
     refine W_stCS (zs' := #[.int .i64 6]) 0 hS125 rfl hc16 rfl rfl rfl (es rfl l5_19) (et rfl) (by rfl) (by rfl) (by kernel_rfl) (by first | rfl | (simp only [List.setIfInBounds_toArray, List.set_cons_succ, List.set_cons_zero] <;> rfl)) (fun w126 c126 hc126 hS126 => ?_)
     replace hS126 : St w NoX [c126, c125, c3, c2] w126 := hS126
     refine W_end ?_
     refine kq _ ?_
     refine AX_cast (l2 := #[true, true, true]) ?_ (by kernel_rfl)
     refine AX_end (by kernel_rfl) ?_
     refine Qo_normal ?_
     have hS127 : St w NoX [c126, c125] w126 := hS126.sel [0, 1] (by decide) rfl
     exact ⟨inferInstance, (by simp only [df_put]; exact hdf19), ((es rfl l4_19).trans l4_19.symm), ((es rfl l5_19).trans l5_19.symm), (by subst hc126 hc125; exact hS127)⟩
   ·rintro A128 w128 ⟨hsz128, hdf128, u4_128, u5_128, hS128⟩
    have l4_128 := u4_128.trans l4_19
    have l5_128 := u5_128.trans l5_19
    clear hsz19 hdf19 hS16 l2_19 l3_19 l4_19 l5_19 l27_19
    obtain ⟨c22_128, c21_128, hc22_128, hc21_128, hS128⟩ := gen2 hS128
    refine then_n (hK20 _ _ ?_)
    clear hK20
    refine R_ret ?_
    refine then_ret ?_
    refine ret_inR0 (results_2 Try.results11 (rv_cellC l4_128 (cell_box (hS128.obj 1 rfl hc21_128) rfl) Try.underlying3 rfl) (rv_cellC l5_128 (cell_box (hS128.obj 0 rfl hc22_128) rfl) Try.underlying34 rfl)) hdf128 ?_
    have he : rmP C N Z K Q (csF Xu) ns = ((-2), 6) := rm_e2 (by omega) (by rw [csF_len]; omega)
    rw [he]
    exact ⟨rfl, hS128.fin0⟩
  ·have hc : cfE C N Z K Q = 0 := by omega
   have hN : (Xu.length : Int) = N := by omega
   have hr := cf_rng hc
   refine R_skip ?_
   refine then_n (hK11 _ _ ?_)
   clear hK11
   refine R_seq (fun K129 hK129 => ?_)
   refine R_seq (fun K130 hK130 => ?_)
   refine R_region (by kernel_rfl) ?_
   refine W_r rfl rfl (VR_ldC rfl l5_14 (cell_box (v := .int .i64 ((cfE C N Z K Q))) (hS9.obj 0 rfl hc9) rfl) Try.underlying34 rfl) ?_
   refine W_v rfl rfl (V_neq rfl (et rfl) rfl) ?_
   refine W_end ?_
   refine Qo_normal ?_
   refine gen_Q (fun A131 hA131 => ?_)
   have hsz131 := szq hA131
   have hdf131 := dfE hA131 hdf14
   have l2_131 := ek2 hA131 2 rfl l2_14
   have l3_131 := ek2 hA131 3 rfl l3_14
   have l4_131 := ek2 hA131 4 rfl l4_14
   have l5_131 := ek2 hA131 5 rfl l5_14
   have l27_131 := lookE hA131 27 (et rfl)
   clear hA131 hsz14 hdf14 l2_14 l3_14 l4_14 l5_14 l25_14
   refine then_n (hK130 _ _ ?_)
   clear hK130
   refine R_cond_not l27_131 (by first | (simp [c13]; done) | exact decide_eq_true (by omega) | exact decide_eq_false (by omega)) ?_
   refine R_skip ?_
   refine then_n (hK129 _ _ ?_)
   clear hK129
   refine R_seq (fun K132 hK132 => ?_)
   refine R_seq (fun K133 hK133 => ?_)
   refine R_region (by kernel_rfl) ?_
   refine W_r rfl rfl (VR_ldA rfl l3_131 (hS9.obj 2 rfl hc3) Try.underlying29 rfl (by kernel_rfl)) ?_
   refine W_call rfl rfl rfl Try.func41 (by kernel_rfl) rfl (args1 (et rfl)) (kall8_c (hS9.roC k_cv) (hS9.roC n_cv) (hS9.roC h_nv) ) ?_
   rintro _ w134 ⟨gb_134, rfl, hP134⟩
   refine ⟨_, rfl, ?_⟩
   obtain ⟨cb_134, hcb_134, hP134⟩ := gen1 hP134
   have hS134 := hS9.join hP134
   replace hS134 : St w NoX [cb_134, c9, c4, c3, c2] w134 := hS134
   refine W_end ?_
   refine Qo_normal ?_
   refine gen_Q (fun A135 hA135 => ?_)
   have hsz135 := szq hA135
   have hdf135 := dfE hA135 hdf131
   have l2_135 := ek2 hA135 2 rfl l2_131
   have l4_135 := ek2 hA135 4 rfl l4_131
   have l5_135 := ek2 hA135 5 rfl l5_131
   have l30_135 := lookE hA135 30 (et rfl)
   clear hA135 hsz131 hdf131 l2_131 l3_131 l4_131 l5_131 l27_131
   have hS136 : St w NoX [cb_134, c9, c4, c2] w134 := hS134.sel [0, 1, 2, 4] (by decide) rfl
   refine then_n (hK133 _ _ ?_)
   clear hK133
   refine R_block ?_
   refine R_rangeS (α := Nat) l30_135 (fun args w => calls_enter Try.func71 rfl rfl args w) (kall8_it (gb := gb_134) (cv := cv) (U := Xu) (nv := nv) (ns := ns) (Rd := fun W => (bx gb_134 29 #[cv, nv]).at W ∧ (rl 1 fstC cv Xu).at W ∧ (nsi Xu).at W ∧ (il .i64 nv ns).at W) (fun _ h => h)) (fun _ => rfl) (fun pre => pk (fun l => (∀ j, j < pre.length → wrJ C N Z K Q Xu ns j = 0) ∧ l = [bx gb_134 29 #[cv, nv], bx g5 34 #[.int .i64 ((cfE C N Z K Q))], bx g4 3 #[.int .i64 0], bx g2 23 #[.int .i64 (C), .int .i64 (N), .int .i64 (Z), .int .i64 (K), .int .i64 (Q)]])) (fun cQ pre => pk (fun l => (cQ = .ret ∧ ∃ (a : Int) (e : Int), (rmP C N Z K Q (csF Xu) ns = (a, e)) ∧ l = [bx gb_134 29 #[cv, nv], bx g5 34 #[.int .i64 (e)], bx g4 3 #[.int .i64 (a)], bx g2 23 #[.int .i64 (C), .int .i64 (N), .int .i64 (Z), .int .i64 (K), .int .i64 (Q)]]))) (St.pack (l := [bx gb_134 29 #[cv, nv], bx g5 34 #[.int .i64 ((cfE C N Z K Q))], bx g4 3 #[.int .i64 0], bx g2 23 #[.int .i64 (C), .int .i64 (N), .int .i64 (Z), .int .i64 (K), .int .i64 (Q)]]) (fr := []) (by have q0 : cb_134 = bx gb_134 29 #[cv, nv] := hcb_134; have q1 : c9 = bx g5 34 #[.int .i64 ((cfE C N Z K Q))] := hc9; have q2 : c4 = bx g4 3 #[.int .i64 0] := hc4; have q3 : c2 = bx g2 23 #[.int .i64 (C), .int .i64 (N), .int .i64 (Z), .int .i64 (K), .int .i64 (Q)] := hc2; subst q0 q1 q2 q3; exact hS136) ⟨(fun j hj => by simp at hj), rfl⟩)
    (fun pre W l' hS => by obtain ⟨l, ⟨hz, rfl⟩, hl⟩ := pk_at (hS.ch 0 rfl); exact ⟨(hl 0 _ rfl), hS.ro k_cv, hS.ro n_cv, hS.ro h_nv⟩)
    (fun x a' cQ => ∃ g141 : Nat, SzN a' 70 ∧ a'.defers = [] ∧ EV a' (.tmp 2) = EV A135 (.tmp 2) ∧ EV a' (.tmp 4) = EV A135 (.tmp 4) ∧ EV a' (.tmp 5) = EV A135 (.tmp 5) ∧ EV a' (.tmp 6) = .int .i64 ((aI Xu x)) ∧ EV a' (.tmp 7) = .pointer (some ⟨g141, 0, none⟩) ∧ cQ = pk (·= [bx g141 27 #[(aS Xu nv ns x).1]])) ?_ ?_ ?_ ?_
   ·intro la137 pre x wa137 fr K hSa137 hK
    simp only [encA]
    rw [rnd2]
    obtain ⟨A138, hA138⟩ : ∃ A, A = (PT (PT { tmps := A135.tmps, defers := [] } 31 (.int .i64 (aI Xu x))) 32 (.agg #[(aS Xu nv ns x).1])) := ⟨_, rfl⟩
    rw [← hA138]
    have hsz138 := szq hA138
    have hdf138 : A138.defers = [] := by rw [hA138]; rfl
    have l2_138 := lookE hA138 2 (e2 rfl (rnd_l l2_135))
    have l4_138 := lookE hA138 4 (e2 rfl (rnd_l l4_135))
    have l5_138 := lookE hA138 5 (e2 rfl (rnd_l l5_135))
    have l31_138 := lookE hA138 31 (es rfl (et rfl))
    have l32_138 := lookE hA138 32 (et rfl)
    clear hA138
    obtain ⟨cI, hcI, hSa137⟩ := gen1 hSa137
    refine R_seq (fun K139 hK139 => ?_)
    refine R_region (by kernel_rfl) ?_
    refine W_v rfl rfl (V_asg rfl l31_138) ?_
    refine W_end ?_
    refine Qo_normal ?_
    refine gen_Q (fun A140 hA140 => ?_)
    have hsz140 := szq hA140
    have hdf140 := dfE hA140 hdf138
    have l2_140 := lookE hA140 2 (es rfl l2_138)
    have l4_140 := lookE hA140 4 (es rfl l4_138)
    have l5_140 := lookE hA140 5 (es rfl l5_138)
    have l6_140 := lookE hA140 6 (et rfl)
    have l32_140 := lookE hA140 32 (es rfl l32_138)
    clear hA140 hsz138 hdf138 l2_138 l4_138 l5_138 l31_138 l32_138
    refine then_n (hK139 _ _ ?_)
    clear hK139
    refine R_region (by kernel_rfl) ?_
    refine W_allocS (z := .agg #[.slice none 0 0]) (zs := #[.slice none 0 0]) hSa137 rfl rfl rfl (by kernel_rfl) (by rfl) (fun g141 w141 c141 hc141 hS141 => ?_)
    replace hS141 : St w NoX (c141 :: cI :: fr) w141 := hS141
    refine W_stAS 0 hS141 rfl hc141 rfl rfl rfl (et rfl) (es rfl l32_140) (by simp only [List.all_toArray, List.all_cons, List.all_nil, SlN_one (sl_SlN (f_al x).at)] <;> rfl) (by rfl) (by kernel_rfl) (fun w142 c142 hc142 hS142 => ?_)
    replace hS142 : St w NoX (c142 :: cI :: fr) w142 := hS142
    refine W_end ?_
    refine Qo_normal ?_
    refine gen_Q (fun A143 hA143 => ?_)
    have hsz143 := szq hA143
    have hdf143 := dfE hA143 hdf140
    have l2_143 := lookE hA143 2 (es rfl l2_140)
    have l4_143 := lookE hA143 4 (es rfl l4_140)
    have l5_143 := lookE hA143 5 (es rfl l5_140)
    have l6_143 := lookE hA143 6 (es rfl l6_140)
    have l7_143 := lookE hA143 7 (et rfl)
    clear hA143 hsz140 hdf140 l2_140 l4_140 l5_140 l6_140 l32_140
    refine then_n ?_
    refine hK _ _ _ ⟨g141, hsz143, hdf143, (l2_143.trans l2_135.symm), (l4_143.trans l4_135.symm), (l5_143.trans l5_135.symm), l6_143, l7_143, rfl⟩ ?_
    subst hc142 hcI; exact hS142.asg1
   ·rintro lb144 pre x A144 w144 cQ fr hAx hlr hS144 hVd
    obtain ⟨g141, hsz144, hdf144, u2_144, u4_144, u5_144, l6_144, l7_144, rfl⟩ := hAx
    have l2_144 := u2_144.trans l2_135
    have l4_144 := u4_144.trans l4_135
    have l5_144 := u5_144.trans l5_135
    obtain ⟨_, _, ⟨hz, rfl⟩, rfl, hS144⟩ := hS144.body2
    replace hS144 : St w NoX ((bx gb_134 29 #[cv, nv]) :: (bx g5 34 #[.int .i64 ((cfE C N Z K Q))]) :: (bx g4 3 #[.int .i64 0]) :: (bx g2 23 #[.int .i64 (C), .int .i64 (N), .int .i64 (Z), .int .i64 (K), .int .i64 (Q)]) :: (bx g141 27 #[(aS Xu nv ns x).1]) :: fr) w144 := hS144
    obtain ⟨cb_145, c9_145, c4_145, c2_145, c142_145, hcb_145, hc9_145, hc4_145, hc2_145, hc142_145, hS144⟩ := gen5 hS144
    obtain ⟨hxl, hpre⟩ := rng_vd hVd
    have bf_x := SlN.le (sl_SlN (f_al x).at)
    refine R_block ?_
    refine R_seq (fun K146 hK146 => ?_)
    refine R_seq (fun K147 hK147 => ?_)
    refine R_region (by kernel_rfl) ?_
    refine W_r rfl rfl (VR_ldA rfl l7_144 (hS144.obj 4 rfl hc142_145) Try.underlying27 rfl (by kernel_rfl)) ?_
    refine W_call rfl rfl rfl Try.func42 (by kernel_rfl) rfl (args1 (et rfl)) (kCk_c (hS144.roC (f_al x)) ) ?_
    rintro _ w148 ⟨rfl, hP148⟩
    refine ⟨_, rfl, ?_⟩
    have hS148 := hS144.join hP148
    replace hS148 : St w NoX (cb_145 :: c9_145 :: c4_145 :: c2_145 :: c142_145 :: fr) w148 := hS148
    refine W_v rfl rfl (V_mov rfl (et rfl)) ?_
    refine W_v rfl rfl (V_ext (v := .int .i64 ((ckS ((aS Xu nv ns x).2)).1)) rfl (et rfl) rfl) ?_
    refine W_v rfl rfl (V_ext (v := .int .i64 ((ckS ((aS Xu nv ns x).2)).2)) rfl (es rfl (et rfl)) rfl) ?_
    refine W_v rfl rfl (V_asg rfl (es rfl (et rfl))) ?_
    refine W_v rfl rfl (V_asg rfl (es rfl (et rfl))) ?_
    refine W_end ?_
    refine Qo_normal ?_
    refine gen_Q (fun A149 hA149 => ?_)
    have hsz149 := szq hA149
    have hdf149 := dfE hA149 hdf144
    have l2_149 := ek7 hA149 2 rfl l2_144
    have l4_149 := ek7 hA149 4 rfl l4_144
    have l5_149 := ek7 hA149 5 rfl l5_144
    have l6_149 := ek7 hA149 6 rfl l6_144
    have l7_149 := ek7 hA149 7 rfl l7_144
    have l9_149 := lookE hA149 9 (et rfl)
    clear hA149 hsz144 hdf144 l2_144 l4_144 l5_144 l6_144 l7_144
    refine then_n (hK147 _ _ ?_)
    clear hK147
    refine R_seq (fun K150 hK150 => ?_)
    refine R_region (by kernel_rfl) ?_
    refine W_v rfl rfl (V_mov rfl l9_149) ?_
    refine W_v rfl rfl (V_neq rfl (et rfl) rfl) ?_
    refine W_end ?_
    refine Qo_normal ?_
    refine gen_Q (fun A151 hA151 => ?_)
    have hsz151 := szq hA151
    have hdf151 := dfE hA151 hdf149
    have l2_151 := ek2 hA151 2 rfl l2_149
    have l4_151 := ek2 hA151 4 rfl l4_149
    have l5_151 := ek2 hA151 5 rfl l5_149
    have l6_151 := ek2 hA151 6 rfl l6_149
    have l7_151 := ek2 hA151 7 rfl l7_149
    have l9_151 := ek2 hA151 9 rfl l9_149
    have l39_151 := lookE hA151 39 (et rfl)
    clear hA151 hsz149 hdf149 l2_149 l4_149 l5_149 l6_149 l7_149 l9_149
    refine then_n (hK150 _ _ ?_)
    clear hK150
    refine R_cond_dec l39_151 (fun c152 => ?_) (fun c152 => ?_)
    ·refine R_seq (fun K153 hK153 => ?_)
     refine R_region (by kernel_rfl) ?_
     refine W_v rfl rfl (V_mov rfl l6_151) ?_
     refine W_v rfl rfl (V_mov rfl (es rfl l9_151)) ?_
     refine W_stCS (zs' := #[.int .i64 ((aI Xu x))]) 2 hS148 rfl hc4_145 rfl rfl rfl (e2 rfl l4_151) (es rfl (et rfl)) (by rfl) (by rfl) (by kernel_rfl) (by first | rfl | (simp only [List.setIfInBounds_toArray, List.set_cons_succ, List.set_cons_zero] <;> rfl)) (fun w154 c154 hc154 hS154 => ?_)
     replace hS154 : St w NoX (cb_145 :: c9_145 :: c154 :: c2_145 :: c142_145 :: fr) w154 := hS154
     refine W_stCS (zs' := #[.int .i64 ((ckS ((aS Xu nv ns x).2)).2)]) 1 hS154 rfl hc9_145 rfl rfl rfl (e2 rfl l5_151) (et rfl) (by rfl) (by rfl) (by kernel_rfl) (by first | rfl | (simp only [List.setIfInBounds_toArray, List.set_cons_succ, List.set_cons_zero] <;> rfl)) (fun w155 c155 hc155 hS155 => ?_)
     replace hS155 : St w NoX (cb_145 :: c155 :: c154 :: c2_145 :: c142_145 :: fr) w155 := hS155
     refine W_end ?_
     refine Qo_normal ?_
     refine gen_Q (fun A156 hA156 => ?_)
     have hsz156 := szq hA156
     have hdf156 := dfE hA156 hdf151
     have l4_156 := ek2 hA156 4 rfl l4_151
     have l5_156 := ek2 hA156 5 rfl l5_151
     clear hA156 hsz151 hdf151 l2_151 l4_151 l5_151 l6_151 l7_151 l9_151 l39_151
     have hS158 := hS155.del 4
     replace hS158 : St w NoX (cb_145 :: c155 :: c154 :: c2_145 :: fr) w155 := hS158
     refine then_n (hK153 _ _ ?_)
     clear hK153
     refine R_ret ?_
     refine then_ret ?_
     refine inb_ret ?_
     exact (St.pack (l := [bx gb_134 29 #[cv, nv], bx g5 34 #[.int .i64 (((ckS ((aS Xu nv ns x).2)).2))], bx g4 3 #[.int .i64 ((aI Xu x))], bx g2 23 #[.int .i64 (C), .int .i64 (N), .int .i64 (Z), .int .i64 (K), .int .i64 (Q)]]) (fr := fr) (by have q0 : cb_145 = bx gb_134 29 #[cv, nv] := hcb_145; have q1 : c155 = bx g5 34 #[.int .i64 (((ckS ((aS Xu nv ns x).2)).2))] := hc155; have q2 : c154 = bx g4 3 #[.int .i64 ((aI Xu x))] := hc154; have q3 : c2_145 = bx g2 23 #[.int .i64 (C), .int .i64 (N), .int .i64 (Z), .int .i64 (K), .int .i64 (Q)] := hc2_145; subst q0 q1 q2 q3; exact hS158) (⟨rfl, (aI Xu x), (ckS ((aS Xu nv ns x).2)).2, (rmJ_hit (nv := nv) hc hN (by subst hpre; simpa using hz) hxl (wr_ck (by omega)) (by omega)), rfl⟩))
    ·have hck : (ckS (aS Xu nv ns x).2).2 = 0 := by omega
     refine R_skip ?_
     refine then_n (hK146 _ _ ?_)
     clear hK146
     refine R_seq (fun K159 hK159 => ?_)
     refine R_region (by kernel_rfl) ?_
     refine W_v rfl rfl (V_fa (off' := 0) rfl l7_151 Try.underlying27 rfl (by decide +kernel) rfl) ?_
     refine W_r rfl rfl (VR_ldC rfl (et rfl) (cell_box (v := (aS Xu nv ns x).1) (hS148.obj 4 rfl hc142_145) rfl) Try.underlying25 rfl) ?_
     refine W_v rfl rfl (V_lenS rfl (et rfl) (sl_SlN (f_al x).at) Try.underlying25) ?_
     refine W_v rfl rfl (V_mov rfl rfl) ?_
     refine W_end ?_
     refine Qo_normal ?_
     refine gen_Q (fun A160 hA160 => ?_)
     have hsz160 := szq hA160
     have hdf160 := dfE hA160 hdf151
     have l2_160 := ek4 hA160 2 rfl l2_151
     have l4_160 := ek4 hA160 4 rfl l4_151
     have l5_160 := ek4 hA160 5 rfl l5_151
     have l6_160 := ek4 hA160 6 rfl l6_151
     have l43_160 := lookE hA160 43 (e2 rfl (et rfl))
     have l44_160 := lookE hA160 44 (es rfl (et rfl))
     have l45_160 := lookE hA160 45 (et rfl)
     clear hA160 hsz151 hdf151 l2_151 l4_151 l5_151 l6_151 l7_151 l9_151 l39_151
     have hS162 := hS148.del 4
     replace hS162 : St w NoX (cb_145 :: c9_145 :: c4_145 :: c2_145 :: fr) w148 := hS162
     refine then_n (hK159 _ _ ?_)
     clear hK159
     refine R_block ?_
     -- loop 13
     refine R_loop (fun mz A' w' => SzN A' 70 ∧ A'.defers = [] ∧ (∃ (k : Nat), (mz = (aS Xu nv ns x).2.length - k) ∧ (k ≤ (aS Xu nv ns x).2.length) ∧ (∀ a ∈ (aS Xu nv ns x).2.take k, 0 < a → ¬ bdA C N Z K Q (aI Xu x) a = true) ∧ (EV A' (.tmp 45) = .int .i64 (k : Int)) ∧ (EV A' (.tmp 2) = EV A160 (.tmp 2)) ∧ (EV A' (.tmp 4) = EV A160 (.tmp 4)) ∧ (EV A' (.tmp 5) = EV A160 (.tmp 5)) ∧ (EV A' (.tmp 6) = EV A160 (.tmp 6)) ∧ (EV A' (.tmp 43) = EV A160 (.tmp 43)) ∧ (EV A' (.tmp 44) = EV A160 (.tmp 44)) ∧ (St w NoX ((bx gb_134 29 #[cv, nv]) :: (bx g5 34 #[.int .i64 ((cfE C N Z K Q))]) :: (bx g4 3 #[.int .i64 0]) :: (bx g2 23 #[.int .i64 (C), .int .i64 (N), .int .i64 (Z), .int .i64 (K), .int .i64 (Q)]) :: fr) w'))) ((aS Xu nv ns x).2.length - 0) ⟨hsz160, hdf160, 0, rfl, (by omega), (fun a ha => by simp at ha), ((l45_160).trans (by first | rfl | (simp; done) | (congr 1; omega))), rfl, rfl, rfl, rfl, rfl, rfl, (by subst hcb_145 hc9_145 hc4_145 hc2_145; exact hS162)⟩ ?_
     clear hS162 hcb_145 hc9_145 hc4_145 hc2_145
     rintro n163 A163 w163 ⟨hsz163, hdf163, k, hm163, hk, hb, l45_163, u2_163, u4_163, u5_163, u6_163, u43_163, u44_163, hS163⟩
     have l2_163 := u2_163.trans l2_160
     have l4_163 := u4_163.trans l4_160
     have l5_163 := u5_163.trans l5_160
     have l6_163 := u6_163.trans l6_160
     have l43_163 := u43_163.trans l43_160
     have l44_163 := u44_163.trans l44_160
     obtain ⟨cb_163, c9_163, c4_163, c2_163, hcb_163, hc9_163, hc4_163, hc2_163, hS163⟩ := gen4 hS163
     refine R_seq (fun K164 hK164 => ?_)
     refine R_region (by kernel_rfl) ?_
     refine W_v rfl rfl (V_lss rfl l45_163 l44_163) ?_
     refine W_end ?_
     refine Qo_normal ?_
     refine gen_Q (fun A165 hA165 => ?_)
     have hsz165 := szq hA165
     have hdf165 := dfE hA165 hdf163
     have l2_165 := lookE hA165 2 (es rfl l2_163)
     have l4_165 := lookE hA165 4 (es rfl l4_163)
     have l5_165 := lookE hA165 5 (es rfl l5_163)
     have l6_165 := lookE hA165 6 (es rfl l6_163)
     have l43_165 := lookE hA165 43 (es rfl l43_163)
     have l44_165 := lookE hA165 44 (es rfl l44_163)
     have l45_165 := lookE hA165 45 (es rfl l45_163)
     have l46_165 := lookE hA165 46 (et rfl)
     clear hA165 hsz163 hdf163 l45_163 l2_163 l4_163 l5_163 l6_163 l43_163 l44_163
     refine then_n (hK164 _ _ ?_)
     clear hK164
     refine R_seq (fun K166 hK166 => ?_)
     refine R_cond_dec l46_165 (fun c167 => ?_) (fun c167 => ?_)
     ·refine R_skip ?_
      refine then_n (hK166 _ _ ?_)
      clear hK166
      refine R_seq (fun K168 hK168 => ?_)
      refine R_block ?_
      refine R_seq (fun K169 hK169 => ?_)
      refine R_region (by kernel_rfl) ?_
      have k170 : k < ((aS Xu nv ns x).2).length := by first | omega | (simp only [List.length_cons, List.length_nil]; omega) | (simp only [List.length_set]; omega) | decide
      obtain ⟨y170, hy170⟩ := get_some (xs := ((aS Xu nv ns x).2)) (k := k) k170
      obtain ⟨B170, O170, C170, hv170⟩ := (SlN.blk (sl_SlN (f_al x).at) (by first | omega | (simp only [List.length_cons, List.length_nil]; omega) | (simp only [List.length_set]; omega) | decide))
      refine W_v rfl rfl (V_ixS (off := O170 + k) 1 (k) rfl l43_165 l45_165 hv170 (by omega) k170 Try.underlying25 (by kernel_rfl) (congrArg _ (Nat.mul_one _))) ?_
      refine W_r rfl rfl (VR_ldC rfl (et rfl) ((sl_SlN (hS163.ro (f_al x))).cell hv170 (map_get hy170)) Try.underlying3 rfl) ?_
      refine W_v rfl rfl (V_asg rfl (et rfl)) ?_
      refine W_end ?_
      refine Qo_normal ?_
      refine gen_Q (fun A171 hA171 => ?_)
      have hsz171 := szq hA171
      have hdf171 := dfE hA171 hdf165
      have l2_171 := ek3 hA171 2 rfl l2_165
      have l4_171 := ek3 hA171 4 rfl l4_165
      have l5_171 := ek3 hA171 5 rfl l5_165
      have l6_171 := ek3 hA171 6 rfl l6_165
      have l11_171 := lookE hA171 11 (et rfl)
      have l43_171 := ek3 hA171 43 rfl l43_165
      have l44_171 := ek3 hA171 44 rfl l44_165
      have l45_171 := ek3 hA171 45 rfl l45_165
      clear hA171 hsz165 hdf165 l2_165 l4_165 l5_165 l6_165 l43_165 l44_165 l45_165 l46_165
      refine then_n (hK169 _ _ ?_)
      clear hK169
      refine R_seq (fun K172 hK172 => ?_)
      refine R_seq (fun K173 hK173 => ?_)
      refine R_region (by kernel_rfl) ?_
      refine W_v rfl rfl (V_mov rfl l11_171) ?_
      refine W_v rfl rfl (V_leq rfl (et rfl) rfl) ?_
      refine W_end ?_
      refine Qo_normal ?_
      refine gen_Q (fun A174 hA174 => ?_)
      have hsz174 := szq hA174
      have hdf174 := dfE hA174 hdf171
      have l2_174 := ek2 hA174 2 rfl l2_171
      have l4_174 := ek2 hA174 4 rfl l4_171
      have l5_174 := ek2 hA174 5 rfl l5_171
      have l6_174 := ek2 hA174 6 rfl l6_171
      have l11_174 := ek2 hA174 11 rfl l11_171
      have l43_174 := ek2 hA174 43 rfl l43_171
      have l44_174 := ek2 hA174 44 rfl l44_171
      have l45_174 := ek2 hA174 45 rfl l45_171
      have l50_174 := lookE hA174 50 (et rfl)
      clear hA174 hsz171 hdf171 l2_171 l4_171 l5_171 l6_171 l11_171 l43_171 l44_171 l45_171
      refine then_n (hK173 _ _ ?_)
      clear hK173
      refine R_cond_dec l50_174 (fun c175 => ?_) (fun c175 => ?_)
      ·refine R_exit ?_
       refine then_exit ?_
       refine inb_hit ?_
       refine then_n (hK168 _ _ ?_)
       clear hK168
       refine R_region (by kernel_rfl) ?_
       refine W_v rfl rfl (V_add rfl l45_174 rfl (by omega) (by omega)) ?_
       refine W_v rfl rfl (V_mov rfl (et rfl)) ?_
       refine W_end ?_
       refine Qo_normal ?_
       refine gen_Q (fun A176 hA176 => ?_)
       have hsz176 := szq hA176
       have hdf176 := dfE hA176 hdf174
       have l2_176 := ek2 hA176 2 rfl l2_174
       have l4_176 := ek2 hA176 4 rfl l4_174
       have l5_176 := ek2 hA176 5 rfl l5_174
       have l6_176 := ek2 hA176 6 rfl l6_174
       have l43_176 := ek2 hA176 43 rfl l43_174
       have l44_176 := ek2 hA176 44 rfl l44_174
       have l45_176 := lookE hA176 45 (et rfl)
       clear hA176 hsz174 hdf174 l2_174 l4_174 l5_174 l6_174 l11_174 l43_174 l44_174 l45_174 l50_174
       refine then_n ⟨(aS Xu nv ns x).2.length - (k + 1), by simp only [hm163]; omega, hsz176, hdf176, (k + 1), rfl, (by omega), (bd_step8 (P := fun a => 0 < a) hb hy170 (fun h0 => absurd h0 (by omega))), ((l45_176).trans (by first | rfl | (simp; done) | (congr 1; omega))), ((l2_176).trans l2_160.symm), ((l4_176).trans l4_160.symm), ((l5_176).trans l5_160.symm), ((l6_176).trans l6_160.symm), ((l43_176).trans l43_160.symm), ((l44_176).trans l44_160.symm), (by subst hcb_163 hc9_163 hc4_163 hc2_163; exact hS163)⟩
      ·refine R_skip ?_
       refine then_n (hK172 _ _ ?_)
       clear hK172
       refine R_seq (fun K177 hK177 => ?_)
       refine R_region (by kernel_rfl) ?_
       refine W_r rfl rfl (VR_ldA rfl l2_174 (hS163.obj 3 rfl hc2_163) Try.underlying23 rfl (by kernel_rfl)) ?_
       refine W_v rfl rfl (V_mov rfl (es rfl l11_174)) ?_
       refine W_call rfl rfl rfl Try.func43 (by kernel_rfl) rfl (args2 (es rfl (et rfl)) (et rfl)) (kca_c (C := C) (N := N) (Z := Z) (K := K) (Q := Q) (a := y170)  ) ?_
       rintro _ w178 ⟨rfl, hP178⟩
       refine ⟨_, rfl, ?_⟩
       have hS178 := hS163.join hP178
       replace hS178 : St w NoX (cb_163 :: c9_163 :: c4_163 :: c2_163 :: fr) w178 := hS178
       refine W_v rfl rfl (V_mov rfl (et rfl)) ?_
       refine W_v rfl rfl (V_ext (v := .int .i64 ((caN C N Z K Q y170))) rfl (et rfl) rfl) ?_
       refine W_v rfl rfl (V_ext (v := .int .i64 ((caE C N Z K Q y170))) rfl (es rfl (et rfl)) rfl) ?_
       refine W_v rfl rfl (V_asg rfl (es rfl (et rfl))) ?_
       refine W_v rfl rfl (V_asg rfl (es rfl (et rfl))) ?_
       refine W_end ?_
       refine Qo_normal ?_
       refine gen_Q (fun A179 hA179 => ?_)
       have hsz179 := szq hA179
       have hdf179 := dfE hA179 hdf174
       have l2_179 := ek8 hA179 2 rfl l2_174
       have l4_179 := ek8 hA179 4 rfl l4_174
       have l5_179 := ek8 hA179 5 rfl l5_174
       have l6_179 := ek8 hA179 6 rfl l6_174
       have l12_179 := lookE hA179 12 (es rfl (et rfl))
       have l13_179 := lookE hA179 13 (et rfl)
       have l43_179 := ek8 hA179 43 rfl l43_174
       have l44_179 := ek8 hA179 44 rfl l44_174
       have l45_179 := ek8 hA179 45 rfl l45_174
       clear hA179 hsz174 hdf174 l2_174 l4_174 l5_174 l6_174 l11_174 l43_174 l44_174 l45_174 l50_174
       refine then_n (hK177 _ _ ?_)
       clear hK177
       refine R_seq (fun K180 hK180 => ?_)
       refine R_region (by kernel_rfl) ?_
       refine W_v rfl rfl (V_mov rfl l13_179) ?_
       refine W_v rfl rfl (V_neq rfl (et rfl) rfl) ?_
       refine W_split rfl rfl (V_mov rfl (et rfl)) (fun c181 => ?_) (fun c181 => ?_)
       ·refine W_off rfl (wanted_f rfl rfl (et rfl) (ez rfl) rfl) ?_
        refine W_off rfl (wanted_f rfl rfl (es rfl (et rfl)) (ez rfl) rfl) ?_
        refine W_v rfl rfl (V_pickT rfl (e2 rfl (et rfl)) rfl) ?_
        refine W_v rfl rfl (V_mov rfl (et rfl)) ?_
        refine W_off rfl (wanted_f rfl rfl (et rfl) (ez rfl) rfl) ?_
        refine W_off rfl (wanted_f rfl rfl (es rfl (et rfl)) (ez rfl) rfl) ?_
        refine W_off rfl (wanted_f rfl rfl (e2 rfl (et rfl)) (ez rfl) rfl) ?_
        refine W_v rfl rfl (V_pickT rfl (e3 rfl (et rfl)) rfl) ?_
        refine W_end ?_
        refine Qo_normal ?_
        refine gen_Q (fun A182 hA182 => ?_)
        have hsz182 := szq hA182
        have hdf182 := dfE hA182 hdf179
        have l2_182 := ek11 hA182 2 rfl l2_179
        have l4_182 := ek11 hA182 4 rfl l4_179
        have l5_182 := ek11 hA182 5 rfl l5_179
        have l6_182 := ek11 hA182 6 rfl l6_179
        have l43_182 := ek11 hA182 43 rfl l43_179
        have l44_182 := ek11 hA182 44 rfl l44_179
        have l45_182 := ek11 hA182 45 rfl l45_179
        have l60_182 := lookE hA182 60 (e7 rfl (et rfl))
        have l61_182 := lookE hA182 61 (e6 rfl (et rfl))
        have l64_182 := lookE hA182 64 (e3 rfl (et rfl))
        have l65_182 := lookE hA182 65 (e2 rfl (et rfl))
        have l66_182 := lookE hA182 66 (es rfl (et rfl))
        have l67_182 := lookE hA182 67 (et rfl)
        clear hA182 hsz179 hdf179 l2_179 l4_179 l5_179 l6_179 l12_179 l13_179 l43_179 l44_179 l45_179
        refine then_n (hK180 _ _ ?_)
        clear hK180
        refine R_cond_t l67_182 ?_
        refine R_seq (fun K183 hK183 => ?_)
        refine R_region (by kernel_rfl) ?_
        refine W_v rfl rfl (V_mov rfl l6_182) ?_
        refine W_stCS (zs' := #[.int .i64 ((aI Xu x))]) 2 hS178 rfl hc4_163 rfl rfl rfl (es rfl l4_182) (et rfl) (by rfl) (by rfl) (by kernel_rfl) (by first | rfl | (simp only [List.setIfInBounds_toArray, List.set_cons_succ, List.set_cons_zero] <;> rfl)) (fun w184 c184 hc184 hS184 => ?_)
        replace hS184 : St w NoX (cb_163 :: c9_163 :: c184 :: c2_163 :: fr) w184 := hS184
        refine W_stCS (zs' := #[.int .i64 7]) 1 hS184 rfl hc9_163 rfl rfl rfl (es rfl l5_182) rfl (by rfl) (by rfl) (by kernel_rfl) (by first | rfl | (simp only [List.setIfInBounds_toArray, List.set_cons_succ, List.set_cons_zero] <;> rfl)) (fun w185 c185 hc185 hS185 => ?_)
        replace hS185 : St w NoX (cb_163 :: c185 :: c184 :: c2_163 :: fr) w185 := hS185
        refine W_end ?_
        refine Qo_normal ?_
        refine gen_Q (fun A186 hA186 => ?_)
        have hsz186 := szq hA186
        have hdf186 := dfE hA186 hdf182
        have l4_186 := lookE hA186 4 (es rfl l4_182)
        have l5_186 := lookE hA186 5 (es rfl l5_182)
        clear hA186 hsz182 hdf182 l2_182 l4_182 l5_182 l6_182 l43_182 l44_182 l45_182 l60_182 l61_182 l64_182 l65_182 l66_182 l67_182
        refine then_n (hK183 _ _ ?_)
        clear hK183
        refine R_ret ?_
        refine inb_ret ?_
        refine then_ret ?_
        refine then_ret ?_
        refine inb_ret ?_
        refine inb_ret ?_
        exact (St.pack (l := [bx gb_134 29 #[cv, nv], bx g5 34 #[.int .i64 (7)], bx g4 3 #[.int .i64 ((aI Xu x))], bx g2 23 #[.int .i64 (C), .int .i64 (N), .int .i64 (Z), .int .i64 (K), .int .i64 (Q)]]) (fr := fr) (by have q0 : cb_163 = bx gb_134 29 #[cv, nv] := hcb_163; have q1 : c185 = bx g5 34 #[.int .i64 (7)] := hc185; have q2 : c184 = bx g4 3 #[.int .i64 ((aI Xu x))] := hc184; have q3 : c2_163 = bx g2 23 #[.int .i64 (C), .int .i64 (N), .int .i64 (Z), .int .i64 (K), .int .i64 (Q)] := hc2_163; subst q0 q1 q2 q3; exact hS185) (⟨rfl, (aI Xu x), 7, (rmJ_hit (nv := nv) hc hN (by subst hpre; simpa using hz) hxl (wr_bad_at hck hy170 (by omega) (bdA_T (by omega))) (by omega)), rfl⟩))
       ·refine W_v rfl (wanted_t rfl rfl (et rfl) (ez rfl)) (V_mov rfl (e3 rfl l12_179)) ?_
        refine W_v rfl (wanted_t rfl rfl (es rfl (et rfl)) (ez rfl)) (V_lss rfl (et rfl) rfl) ?_
        refine W_v rfl rfl (V_pickF rfl (e2 rfl (et rfl)) (et rfl)) ?_
        refine W_split rfl rfl (V_mov rfl (et rfl)) (fun c187 => ?_) (fun c187 => ?_)
        ·refine W_off rfl (wanted_f rfl rfl (et rfl) (ez rfl) rfl) ?_
         refine W_off rfl (wanted_f rfl rfl (es rfl (et rfl)) (ez rfl) rfl) ?_
         refine W_off rfl (wanted_f rfl rfl (e2 rfl (et rfl)) (ez rfl) rfl) ?_
         refine W_v rfl rfl (V_pickT rfl (e3 rfl (et rfl)) rfl) ?_
         refine W_end ?_
         refine Qo_normal ?_
         refine gen_Q (fun A188 hA188 => ?_)
         have hsz188 := szq hA188
         have hdf188 := dfE hA188 hdf179
         have l2_188 := ek11 hA188 2 rfl l2_179
         have l4_188 := ek11 hA188 4 rfl l4_179
         have l5_188 := ek11 hA188 5 rfl l5_179
         have l6_188 := ek11 hA188 6 rfl l6_179
         have l43_188 := ek11 hA188 43 rfl l43_179
         have l44_188 := ek11 hA188 44 rfl l44_179
         have l45_188 := ek11 hA188 45 rfl l45_179
         have l60_188 := lookE hA188 60 (e7 rfl (et rfl))
         have l61_188 := lookE hA188 61 (e6 rfl (et rfl))
         have l64_188 := lookE hA188 64 (e3 rfl (et rfl))
         have l65_188 := lookE hA188 65 (e2 rfl (et rfl))
         have l66_188 := lookE hA188 66 (es rfl (et rfl))
         have l67_188 := lookE hA188 67 (et rfl)
         clear hA188 hsz179 hdf179 l2_179 l4_179 l5_179 l6_179 l12_179 l13_179 l43_179 l44_179 l45_179
         refine then_n (hK180 _ _ ?_)
         clear hK180
         refine R_cond_t l67_188 ?_
         refine R_seq (fun K189 hK189 => ?_)
         refine R_region (by kernel_rfl) ?_
         refine W_v rfl rfl (V_mov rfl l6_188) ?_
         refine W_stCS (zs' := #[.int .i64 ((aI Xu x))]) 2 hS178 rfl hc4_163 rfl rfl rfl (es rfl l4_188) (et rfl) (by rfl) (by rfl) (by kernel_rfl) (by first | rfl | (simp only [List.setIfInBounds_toArray, List.set_cons_succ, List.set_cons_zero] <;> rfl)) (fun w190 c190 hc190 hS190 => ?_)
         replace hS190 : St w NoX (cb_163 :: c9_163 :: c190 :: c2_163 :: fr) w190 := hS190
         refine W_stCS (zs' := #[.int .i64 7]) 1 hS190 rfl hc9_163 rfl rfl rfl (es rfl l5_188) rfl (by rfl) (by rfl) (by kernel_rfl) (by first | rfl | (simp only [List.setIfInBounds_toArray, List.set_cons_succ, List.set_cons_zero] <;> rfl)) (fun w191 c191 hc191 hS191 => ?_)
         replace hS191 : St w NoX (cb_163 :: c191 :: c190 :: c2_163 :: fr) w191 := hS191
         refine W_end ?_
         refine Qo_normal ?_
         refine gen_Q (fun A192 hA192 => ?_)
         have hsz192 := szq hA192
         have hdf192 := dfE hA192 hdf188
         have l4_192 := lookE hA192 4 (es rfl l4_188)
         have l5_192 := lookE hA192 5 (es rfl l5_188)
         clear hA192 hsz188 hdf188 l2_188 l4_188 l5_188 l6_188 l43_188 l44_188 l45_188 l60_188 l61_188 l64_188 l65_188 l66_188 l67_188
         refine then_n (hK189 _ _ ?_)
         clear hK189
         refine R_ret ?_
         refine inb_ret ?_
         refine then_ret ?_
         refine then_ret ?_
         refine inb_ret ?_
         refine inb_ret ?_
         exact (St.pack (l := [bx gb_134 29 #[cv, nv], bx g5 34 #[.int .i64 (7)], bx g4 3 #[.int .i64 ((aI Xu x))], bx g2 23 #[.int .i64 (C), .int .i64 (N), .int .i64 (Z), .int .i64 (K), .int .i64 (Q)]]) (fr := fr) (by have q0 : cb_163 = bx gb_134 29 #[cv, nv] := hcb_163; have q1 : c191 = bx g5 34 #[.int .i64 (7)] := hc191; have q2 : c190 = bx g4 3 #[.int .i64 ((aI Xu x))] := hc190; have q3 : c2_163 = bx g2 23 #[.int .i64 (C), .int .i64 (N), .int .i64 (Z), .int .i64 (K), .int .i64 (Q)] := hc2_163; subst q0 q1 q2 q3; exact hS191) (⟨rfl, (aI Xu x), 7, (rmJ_hit (nv := nv) hc hN (by subst hpre; simpa using hz) hxl (wr_bad_at hck hy170 (by omega) (bdA_T (by omega))) (by omega)), rfl⟩))
        ·refine W_v rfl (wanted_t rfl rfl (et rfl) (ez rfl)) (V_mov rfl (e7 rfl l12_179)) ?_
         refine W_v rfl (wanted_t rfl rfl (es rfl (et rfl)) (ez rfl)) (V_mov rfl (e8 rfl l6_179)) ?_
         refine W_v rfl (wanted_t rfl rfl (e2 rfl (et rfl)) (ez rfl)) (V_eql rfl (es rfl (et rfl)) (et rfl)) ?_
         refine W_v rfl rfl (V_pickF rfl (e3 rfl (et rfl)) (et rfl)) ?_
         refine W_end ?_
         refine Qo_normal ?_
         refine gen_Q (fun A193 hA193 => ?_)
         have hsz193 := szq hA193
         have hdf193 := dfE hA193 hdf179
         have l2_193 := ek11 hA193 2 rfl l2_179
         have l4_193 := ek11 hA193 4 rfl l4_179
         have l5_193 := ek11 hA193 5 rfl l5_179
         have l6_193 := ek11 hA193 6 rfl l6_179
         have l43_193 := ek11 hA193 43 rfl l43_179
         have l44_193 := ek11 hA193 44 rfl l44_179
         have l45_193 := ek11 hA193 45 rfl l45_179
         have l60_193 := lookE hA193 60 (e7 rfl (et rfl))
         have l61_193 := lookE hA193 61 (e6 rfl (et rfl))
         have l64_193 := lookE hA193 64 (e3 rfl (et rfl))
         have l65_193 := lookE hA193 65 (e2 rfl (et rfl))
         have l66_193 := lookE hA193 66 (es rfl (et rfl))
         have l67_193 := lookE hA193 67 (et rfl)
         clear hA193 hsz179 hdf179 l2_179 l4_179 l5_179 l6_179 l12_179 l13_179 l43_179 l44_179 l45_179
         refine then_n (hK180 _ _ ?_)
         clear hK180
         refine R_cond_dec l67_193 (fun c194 => ?_) (fun c194 => ?_)
         ·refine R_seq (fun K195 hK195 => ?_)
          refine R_region (by kernel_rfl) ?_
          refine W_v rfl rfl (V_mov rfl l6_193) ?_
          refine W_stCS (zs' := #[.int .i64 ((aI Xu x))]) 2 hS178 rfl hc4_163 rfl rfl rfl (es rfl l4_193) (et rfl) (by rfl) (by rfl) (by kernel_rfl) (by first | rfl | (simp only [List.setIfInBounds_toArray, List.set_cons_succ, List.set_cons_zero] <;> rfl)) (fun w196 c196 hc196 hS196 => ?_)
          replace hS196 : St w NoX (cb_163 :: c9_163 :: c196 :: c2_163 :: fr) w196 := hS196
          refine W_stCS (zs' := #[.int .i64 7]) 1 hS196 rfl hc9_163 rfl rfl rfl (es rfl l5_193) rfl (by rfl) (by rfl) (by kernel_rfl) (by first | rfl | (simp only [List.setIfInBounds_toArray, List.set_cons_succ, List.set_cons_zero] <;> rfl)) (fun w197 c197 hc197 hS197 => ?_)
          replace hS197 : St w NoX (cb_163 :: c197 :: c196 :: c2_163 :: fr) w197 := hS197
          refine W_end ?_
          refine Qo_normal ?_
          refine gen_Q (fun A198 hA198 => ?_)
          have hsz198 := szq hA198
          have hdf198 := dfE hA198 hdf193
          have l4_198 := lookE hA198 4 (es rfl l4_193)
          have l5_198 := lookE hA198 5 (es rfl l5_193)
          clear hA198 hsz193 hdf193 l2_193 l4_193 l5_193 l6_193 l43_193 l44_193 l45_193 l60_193 l61_193 l64_193 l65_193 l66_193 l67_193
          refine then_n (hK195 _ _ ?_)
          clear hK195
          refine R_ret ?_
          refine inb_ret ?_
          refine then_ret ?_
          refine then_ret ?_
          refine inb_ret ?_
          refine inb_ret ?_
          exact (St.pack (l := [bx gb_134 29 #[cv, nv], bx g5 34 #[.int .i64 (7)], bx g4 3 #[.int .i64 ((aI Xu x))], bx g2 23 #[.int .i64 (C), .int .i64 (N), .int .i64 (Z), .int .i64 (K), .int .i64 (Q)]]) (fr := fr) (by have q0 : cb_163 = bx gb_134 29 #[cv, nv] := hcb_163; have q1 : c197 = bx g5 34 #[.int .i64 (7)] := hc197; have q2 : c196 = bx g4 3 #[.int .i64 ((aI Xu x))] := hc196; have q3 : c2_163 = bx g2 23 #[.int .i64 (C), .int .i64 (N), .int .i64 (Z), .int .i64 (K), .int .i64 (Q)] := hc2_163; subst q0 q1 q2 q3; exact hS197) (⟨rfl, (aI Xu x), 7, (rmJ_hit (nv := nv) hc hN (by subst hpre; simpa using hz) hxl (wr_bad_at hck hy170 (by omega) (bdA_T (by omega))) (by omega)), rfl⟩))
         ·refine R_skip ?_
          refine inb_n ?_
          refine then_n (hK168 _ _ ?_)
          clear hK168
          refine R_region (by kernel_rfl) ?_
          refine W_v rfl rfl (V_add rfl l45_193 rfl (by omega) (by omega)) ?_
          refine W_v rfl rfl (V_mov rfl (et rfl)) ?_
          refine W_end ?_
          refine Qo_normal ?_
          refine gen_Q (fun A199 hA199 => ?_)
          have hsz199 := szq hA199
          have hdf199 := dfE hA199 hdf193
          have l2_199 := ek2 hA199 2 rfl l2_193
          have l4_199 := ek2 hA199 4 rfl l4_193
          have l5_199 := ek2 hA199 5 rfl l5_193
          have l6_199 := ek2 hA199 6 rfl l6_193
          have l43_199 := ek2 hA199 43 rfl l43_193
          have l44_199 := ek2 hA199 44 rfl l44_193
          have l45_199 := lookE hA199 45 (et rfl)
          have l60_199 := ek2 hA199 60 rfl l60_193
          have l61_199 := ek2 hA199 61 rfl l61_193
          have l64_199 := ek2 hA199 64 rfl l64_193
          have l65_199 := ek2 hA199 65 rfl l65_193
          have l66_199 := ek2 hA199 66 rfl l66_193
          clear hA199 hsz193 hdf193 l2_193 l4_193 l5_193 l6_193 l43_193 l44_193 l45_193 l60_193 l61_193 l64_193 l65_193 l66_193 l67_193
          refine then_n ⟨(aS Xu nv ns x).2.length - (k + 1), by simp only [hm163]; omega, hsz199, hdf199, (k + 1), rfl, (by omega), (bd_step8 (P := fun a => 0 < a) hb hy170 (fun h0 => bdA_F (by omega))), ((l45_199).trans (by first | rfl | (simp; done) | (congr 1; omega))), ((l2_199).trans l2_160.symm), ((l4_199).trans l4_160.symm), ((l5_199).trans l5_160.symm), ((l6_199).trans l6_160.symm), ((l43_199).trans l43_160.symm), ((l44_199).trans l44_160.symm), (by subst hcb_163 hc9_163 hc4_163 hc2_163; exact hS178)⟩
     ·refine R_exit ?_
      refine then_exit ?_
      refine then_exit ?_
      refine inb_hit ?_
      refine inb_n ?_
      exact (St.pack (l := [bx gb_134 29 #[cv, nv], bx g5 34 #[.int .i64 ((cfE C N Z K Q))], bx g4 3 #[.int .i64 0], bx g2 23 #[.int .i64 (C), .int .i64 (N), .int .i64 (Z), .int .i64 (K), .int .i64 (Q)]]) (fr := fr) (by have q0 : cb_163 = bx gb_134 29 #[cv, nv] := hcb_163; have q1 : c9_163 = bx g5 34 #[.int .i64 ((cfE C N Z K Q))] := hc9_163; have q2 : c4_163 = bx g4 3 #[.int .i64 0] := hc4_163; have q3 : c2_163 = bx g2 23 #[.int .i64 (C), .int .i64 (N), .int .i64 (Z), .int .i64 (K), .int .i64 (Q)] := hc2_163; subst q0 q1 q2 q3; exact hS163) (⟨(wrJ_step (nv := nv) hpre hz (wr_cells hck hb (by omega))), rfl⟩))
   ·intro D200 xs w200 hxs hS200
    have hxs' : xs = (List.range (Xu.length + 1)) := hxs; subst hxs'; clear hxs
    obtain ⟨_, ⟨hz, rfl⟩, hS200⟩ := hS200.unpack
    replace hS200 : St w NoX ((bx gb_134 29 #[cv, nv]) :: (bx g5 34 #[.int .i64 ((cfE C N Z K Q))]) :: (bx g4 3 #[.int .i64 0]) :: (bx g2 23 #[.int .i64 (C), .int .i64 (N), .int .i64 (Z), .int .i64 (K), .int .i64 (Q)]) :: (ob D200 (.deferred (some []))) :: []) w200 := hS200
    obtain ⟨cb_200, c9_200, c4_200, c2_200, cD200, hcb_200, hc9_200, hc4_200, hc2_200, hcD200, hS200⟩ := gen5 hS200
    refine gen_Q (fun A200 hA200 => ?_)
    have hsz200 := szq hA200
    have hdf200 : A200.defers = [{ target := .collected D200, args := #[] }] := by rw [hA200, df_mk, hdf135] <;> rfl
    have l4_200 := lookE hA200 4 (mk_l l4_135)
    have l5_200 := lookE hA200 5 (mk_l l5_135)
    clear hA200
    refine inb_n ?_
    refine then_n (hK132 _ _ ?_)
    clear hK132
    refine R_seq (fun K201 hK201 => ?_)
    refine R_region (by kernel_rfl) ?_
    refine W_stCS (zs' := #[.int .i64 0]) 2 hS200 rfl hc4_200 rfl rfl rfl l4_200 rfl (by rfl) (by rfl) (by kernel_rfl) (by first | rfl | (simp only [List.setIfInBounds_toArray, List.set_cons_succ, List.set_cons_zero] <;> rfl)) (fun w202 c202 hc202 hS202 => ?_)
    replace hS202 : St w NoX [cb_200, c9_200, c202, c2_200, cD200] w202 := hS202
    refine W_stCS (zs' := #[.int .i64 0]) 1 hS202 rfl hc9_200 rfl rfl rfl l5_200 rfl (by rfl) (by rfl) (by kernel_rfl) (by first | rfl | (simp only [List.setIfInBounds_toArray, List.set_cons_succ, List.set_cons_zero] <;> rfl)) (fun w203 c203 hc203 hS203 => ?_)
    replace hS203 : St w NoX [cb_200, c203, c202, c2_200, cD200] w203 := hS203
    refine W_end ?_
    refine Qo_normal ?_
    refine then_n (hK201 _ _ ?_)
    clear hK201
    refine R_ret ?_
    have hD204 := hS203.obj 4 rfl hcD200
    have hS204 := hS203.put (o' := .deferred none) 4 rfl hcD200
    obtain ⟨w204, hw204⟩ : ∃ w', w' = w203.putObj D200 (.deferred none) := ⟨_, rfl⟩
    rw [← hw204] at hS204
    replace hS204 : St w NoX [cb_200, c203, c202, c2_200, (ob D200 (.deferred none))] w204 := hS204
    refine ret_inR1' (D := D200) (w1 := w204) hw204 (results_2 Try.results11 (rv_cellC l4_200 (cell_box (hS204.obj 2 rfl hc202) rfl) Try.underlying3 rfl) (rv_cellC l5_200 (cell_box (hS204.obj 1 rfl hc203) rfl) Try.underlying34 rfl)) hdf200 hD204 ?_
    have he : rmP C N Z K Q (csF Xu) ns = (0, 0) := rmJ_ok hc hN (by simpa using hz)
    rw [he]
    exact ⟨rfl, hS204.fin0⟩
   ·intro D205 cQ pre w205 hpre hS205
    obtain ⟨_, hx, hS205⟩ := hS205.unpack
    rcases hx with ⟨rfl, a, e, hx, rfl⟩
    ·replace hS205 : St w NoX ((bx gb_134 29 #[cv, nv]) :: (bx g5 34 #[.int .i64 (e)]) :: (bx g4 3 #[.int .i64 (a)]) :: (bx g2 23 #[.int .i64 (C), .int .i64 (N), .int .i64 (Z), .int .i64 (K), .int .i64 (Q)]) :: (ob D205 (.deferred (some []))) :: []) w205 := hS205
     obtain ⟨cb_205, c9_205, c4_205, c2_205, cD205, hcb_205, hc9_205, hc4_205, hc2_205, hcD205, hS205⟩ := gen5 hS205
     refine gen_w (fun A205 hA205 => ?_)
     have hsz205 := szq hA205
     have hdf205 : A205.defers = [{ target := .collected D205, args := #[] }] := by rw [hA205, df_mk, hdf135] <;> rfl
     have l4_205 := lookE hA205 4 (mk_l l4_135)
     have l5_205 := lookE hA205 5 (mk_l l5_135)
     clear hA205
     refine R_ret ?_
     refine inb_ret ?_
     refine then_ret ?_
     have hD206 := hS205.obj 4 rfl hcD205
     have hS206 := hS205.put (o' := .deferred none) 4 rfl hcD205
     obtain ⟨w206, hw206⟩ : ∃ w', w' = w205.putObj D205 (.deferred none) := ⟨_, rfl⟩
     rw [← hw206] at hS206
     replace hS206 : St w NoX [cb_205, c9_205, c4_205, c2_205, (ob D205 (.deferred none))] w206 := hS206
     refine ret_inR1' (D := D205) (w1 := w206) hw206 (results_2 Try.results11 (rv_cellC l4_205 (cell_box (hS206.obj 2 rfl hc4_205) rfl) Try.underlying3 rfl) (rv_cellC l5_205 (cell_box (hS206.obj 1 rfl hc9_205) rfl) Try.underlying34 rfl)) hdf205 hD206 ?_
     have he : rmP C N Z K Q (csF Xu) ns = (a, e) := hx
     rw [he]
     exact ⟨rfl, hS206.fin0⟩
 ·refine W_off rfl (wanted_f rfl rfl (et rfl) (ez rfl) rfl) ?_
  refine W_off rfl (wanted_f rfl rfl (es rfl (et rfl)) (ez rfl) rfl) ?_
  refine W_off rfl (wanted_f rfl rfl (e2 rfl (et rfl)) (ez rfl) rfl) ?_
  refine W_off rfl (wanted_f rfl rfl (e3 rfl (et rfl)) (ez rfl) rfl) ?_
  refine W_off rfl (wanted_f rfl rfl (e4 rfl (et rfl)) (ez rfl) rfl) ?_
  refine W_off rfl (wanted_f rfl rfl (e5 rfl (et rfl)) (ez rfl) rfl) ?_
  refine W_v rfl rfl (V_pickF rfl (e6 rfl (et rfl)) rfl) ?_
  refine W_end ?_
  refine Qo_normal ?_
  refine gen_Q (fun A207 hA207 => ?_)
  have hsz207 := szq hA207
  have hdf207 := dfE hA207 hdf10
  have l2_207 := ek10 hA207 2 rfl l2_10
  have l3_207 := ek10 hA207 3 rfl l3_10
  have l4_207 := ek10 hA207 4 rfl l4_10
  have l5_207 := ek10 hA207 5 rfl l5_10
  have l25_207 := lookE hA207 25 (et rfl)
  clear hA207 hsz10 hdf10 l2_10 l3_10 l4_10 l5_10
  refine then_n (hK12 _ _ ?_)
  clear hK12
  refine R_cond_f l25_207 ?_
  refine R_skip ?_
  refine then_n (hK11 _ _ ?_)
  clear hK11
  refine R_seq (fun K208 hK208 => ?_)
  refine R_seq (fun K209 hK209 => ?_)
  refine R_region (by kernel_rfl) ?_
  refine W_r rfl rfl (VR_ldC rfl l5_207 (cell_box (v := .int .i64 ((cfE C N Z K Q))) (hS9.obj 0 rfl hc9) rfl) Try.underlying34 rfl) ?_
  refine W_v rfl rfl (V_neq rfl (et rfl) rfl) ?_
  refine W_end ?_
  refine Qo_normal ?_
  refine gen_Q (fun A210 hA210 => ?_)
  have hsz210 := szq hA210
  have hdf210 := dfE hA210 hdf207
  have l2_210 := ek2 hA210 2 rfl l2_207
  have l3_210 := ek2 hA210 3 rfl l3_207
  have l4_210 := ek2 hA210 4 rfl l4_207
  have l5_210 := ek2 hA210 5 rfl l5_207
  have l27_210 := lookE hA210 27 (et rfl)
  clear hA210 hsz207 hdf207 l2_207 l3_207 l4_207 l5_207 l25_207
  refine then_n (hK209 _ _ ?_)
  clear hK209
  refine R_cond_sure l27_210 (by first | (simp [c13]; done) | exact decide_eq_true (by omega) | exact decide_eq_false (by omega)) ?_
  refine R_seq (fun K211 hK211 => ?_)
  refine join_R (R := fun A' w' => SzN A' 70 ∧ A'.defers = [] ∧ EV A' (.tmp 4) = EV A210 (.tmp 4) ∧ EV A' (.tmp 5) = EV A210 (.tmp 5) ∧ St w NoX [bx g5 34 #[.int .i64 ((cfE C N Z K Q))], bx g4 3 #[.int .i64 (-2)]] w') ?_ ?_
  ·refine R_any (by kernel_rfl) (by kernel_rfl) 3 rfl (fun w312 hx312 => ?_)
   have hS312 := hS9.grow hx312
   refine AX_2 (i := 0) (j := 1) (by kernel_rfl) rfl rfl ?_ ?_
   ·refine W_r rfl rfl (VR_ldC rfl l5_210 (cell_box (v := .int .i64 ((cfE C N Z K Q))) (hS312.obj 0 rfl hc9) rfl) Try.underlying34 rfl) ?_
    refine W_end ?_
    refine kq _ ?_
    refine AX_cast (l2 := #[true, false, false]) ?_ (by kernel_rfl)
    refine AX_1 (i := 1) (by kernel_rfl) rfl ?_
    refine W_stCS (zs' := #[.int .i64 (-2)]) 1 hS312 rfl hc4 rfl rfl rfl (es rfl l4_210) rfl (by rfl) (by rfl) (by kernel_rfl) (by first | rfl | (simp only [List.setIfInBounds_toArray, List.set_cons_succ, List.set_cons_zero] <;> rfl)) (fun w313 c313 hc313 hS313 => ?_)
    replace hS313 : St w NoX [c9, c313, c3, c2] w313 := hS313
    refine W_end ?_
    refine kq _ ?_
    refine AX_cast (l2 := #[true, true, false]) ?_ (by kernel_rfl)
    refine AX_1 (i := 2) (by kernel_rfl) rfl ?_
    refine W_stCS (zs' := #[.int .i64 ((cfE C N Z K Q))]) 0 hS313 rfl hc9 rfl rfl rfl (es rfl l5_210) (et rfl) (by rfl) (by rfl) (by kernel_rfl) (by first | rfl | (simp only [List.setIfInBounds_toArray, List.set_cons_succ, List.set_cons_zero] <;> rfl)) (fun w314 c314 hc314 hS314 => ?_)
    replace hS314 : St w NoX [c314, c313, c3, c2] w314 := hS314
    refine W_end ?_
    refine kq _ ?_
    refine AX_cast (l2 := #[true, true, true]) ?_ (by kernel_rfl)
    refine AX_end (by kernel_rfl) ?_
    refine Qo_normal ?_
    have hS315 : St w NoX [c314, c313] w314 := hS314.sel [0, 1] (by decide) rfl
    exact ⟨inferInstance, (by simp only [df_put]; exact hdf210), ((es rfl l4_210).trans l4_210.symm), ((es rfl l5_210).trans l5_210.symm), (by subst hc314 hc313; exact hS315)⟩
   ·refine W_stCS (zs' := #[.int .i64 (-2)]) 1 hS312 rfl hc4 rfl rfl rfl l4_210 rfl (by rfl) (by rfl) (by kernel_rfl) (by first | rfl | (simp only [List.setIfInBounds_toArray, List.set_cons_succ, List.set_cons_zero] <;> rfl)) (fun w316 c316 hc316 hS316 => ?_)
    replace hS316 : St w NoX [c9, c316, c3, c2] w316 := hS316
    refine W_end ?_
    refine kq _ ?_
    refine AX_cast (l2 := #[false, true, false]) ?_ (by kernel_rfl)
    refine AX_1 (i := 0) (by kernel_rfl) rfl ?_
    refine W_r rfl rfl (VR_ldC rfl l5_210 (cell_box (v := .int .i64 ((cfE C N Z K Q))) (hS316.obj 0 rfl hc9) rfl) Try.underlying34 rfl) ?_
    refine W_end ?_
    refine kq _ ?_
    refine AX_cast (l2 := #[true, true, false]) ?_ (by kernel_rfl)
    refine AX_1 (i := 2) (by kernel_rfl) rfl ?_
    refine W_stCS (zs' := #[.int .i64 ((cfE C N Z K Q))]) 0 hS316 rfl hc9 rfl rfl rfl (es rfl l5_210) (et rfl) (by rfl) (by rfl) (by kernel_rfl) (by first | rfl | (simp only [List.setIfInBounds_toArray, List.set_cons_succ, List.set_cons_zero] <;> rfl)) (fun w317 c317 hc317 hS317 => ?_)
    replace hS317 : St w NoX [c317, c316, c3, c2] w317 := hS317
    refine W_end ?_
    refine kq _ ?_
    refine AX_cast (l2 := #[true, true, true]) ?_ (by kernel_rfl)
    refine AX_end (by kernel_rfl) ?_
    refine Qo_normal ?_
    have hS318 : St w NoX [c317, c316] w317 := hS317.sel [0, 1] (by decide) rfl
    exact ⟨inferInstance, (by simp only [df_put]; exact hdf210), ((es rfl l4_210).trans l4_210.symm), ((es rfl l5_210).trans l5_210.symm), (by subst hc317 hc316; exact hS318)⟩
  ·rintro A319 w319 ⟨hsz319, hdf319, u4_319, u5_319, hS319⟩
   have l4_319 := u4_319.trans l4_210
   have l5_319 := u5_319.trans l5_210
   clear hsz210 hdf210 hS9 l2_210 l3_210 l4_210 l5_210 l27_210
   obtain ⟨c213_319, c212_319, hc213_319, hc212_319, hS319⟩ := gen2 hS319
   refine then_n (hK211 _ _ ?_)
   clear hK211
   refine R_ret ?_
   refine then_ret ?_
   refine ret_inR0 (results_2 Try.results11 (rv_cellC l4_319 (cell_box (hS319.obj 1 rfl hc212_319) rfl) Try.underlying3 rfl) (rv_cellC l5_319 (cell_box (hS319.obj 0 rfl hc213_319) rfl) Try.underlying34 rfl)) hdf319 ?_
   have he : rmP C N Z K Q (csF Xu) ns = ((-2), (cfE C N Z K Q)) := rm_e1 (by omega)
   rw [he]
   exact ⟨rfl, hS319.fin0⟩

end Go.Proofs.Yteppjefmlibmoaa