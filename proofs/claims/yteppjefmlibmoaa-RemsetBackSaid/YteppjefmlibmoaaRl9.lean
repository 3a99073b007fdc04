import Derived.Test.YteppjefmlibmoaaProg
import Derived.Test.YteppjefmlibmoaaRl8
import Derived.Test.YteppjefmlibmoaaPl8j
namespace Go.Proofs.Yteppjefmlibmoaa
open Go.RowKit Go.Own Go.Own.R Go.Own.S Go.Own.E


set_option maxHeartbeats 4000000 in
theorem lhas_c {cv : Value} {X : List (List Int)} {nv : Value} {ns : List Int} {a : Int} {w : World} (h_cv : Ro w NoX (rmR cv X)) (h_nv : Ro w NoX (il .i64 nv ns)) (hxl : X.length ≤ 1000000) :
  Calls Try.prog 32 #[.agg #[cv, nv], .int .i64 a] w fun e w' => e = .returned (.bool (hasB X ns a)) ∧ St w NoX [] w' := by
 obtain ⟨Xu, hXu, k_cv, n_cv⟩ := rmR_open h_cv
 subst hXu
 have b_cv := SlN.le (sl_SlN k_cv.at)
 rw [csF_len] at hxl
 refine calls_in 39 Try.func32 rfl rfl (by simp) (fun A0 Y0 hdf0 hargs => ?_)
 have l0_0 := hargs 0 (.agg #[cv, nv]) rfl
 have l1_0 := hargs 1 (.int .i64 a) rfl
 clear hargs; replace Y0 : SzN A0 39 := ⟨Y0⟩
 have hS := St.nil w
 have bh_nv := SlN.le (sl_SlN h_nv.at)
 have bk_cv := SlN.le (sl_SlN k_cv.at)
 refine wp_seq_k fun K1 H1 => ?_
 refine region_in ?_
 refine W_boxS (zs := #[cv, nv]) hS rfl rfl rfl l0_0 (by rfl) (fun g2 w2 c2 hc2 S2 => ?_)
 replace S2 : St w NoX [c2] w2 := S2
 refine W_v rfl rfl (V_asg rfl rfl) ?_
 refine W_end (gen_Q fun A3 E3 => ?_)
 have Y3 := szq E3
 have F3 := (fsE E3 (cq1 (ck (FS.n hdf0) rfl rfl) rfl)).c (lookE E3 1 (es2 rfl l1_0))
 clear E3 Y0 hdf0 l0_0 l1_0
 refine tk H1 ?_
 refine wp_seq_k fun K4 H4 => ?_
 refine wp_seq_k fun K5 H5 => ?_
 refine region_in ?_
 refine W_v rfl rfl (V_asg rfl rfl) ?_
 refine W_end (gen_Q fun A6 E6 => ?_)
 have Y6 := szq E6
 have F6 := fsE E6 (cq1 F3 rfl)
 have l5_6 := lookE E6 5 (et rfl)
 clear E6 Y3 F3
 refine tk H5 ?_
 refine wp_block ?_
 -- loop 2
 refine loopX (fun mz A' w' => SzN A' 39 ∧ A'.defers = [] ∧ (∃ (k : Nat), (mz = Xu.length + 1 - k) ∧ (k ≤ Xu.length + 1) ∧ (∀ c ∈ (csF Xu ++ [ns]).take k, hsB c a = false) ∧ (EV A' (.tmp 5) = .int .i64 (k : Int)) ∧ (EV A' (.tmp 1) = EV A6 (.tmp 1)) ∧ (EV A' (.tmp 2) = EV A6 (.tmp 2)) ∧ (St w NoX [bx g2 29 #[cv, nv]] w'))) (Xu.length + 1 - 0) ⟨Y6, F6.d, 0, rfl, (by omega), (fun c hc => by simp at hc), ((l5_6).trans (by first | rfl | (simp; done) | (congr 1; omega))), rfl, rfl, (by subst hc2; exact S2)⟩ ?_
 clear S2 hc2
 rintro n7 A7 w7 ⟨Y7, hdf7, k, hm7, hk, hz, l5_7, u1_7, u2_7, S7⟩
 have l1_7 := u1_7.trans (fg0 F6)
 have l2_7 := u2_7.trans (fg1 F6)
 obtain ⟨c2_7, hc2_7, S7⟩ := gen1 S7
 refine wp_seq_k fun K8 H8 => ?_
 refine wp_seq_k fun K9 H9 => ?_
 refine region_in ?_
 refine W_v rfl rfl (V_mov rfl l5_7) ?_
 refine W_v rfl rfl (V_fa (off' := 0) rfl (es rfl l2_7) Try.underlying29 rfl (by decide +kernel) rfl) ?_
 refine W_r rfl rfl (VR_ldC rfl (et rfl) (cell_box (v := cv) (S7.obj 0 rfl hc2_7) rfl) Try.underlying24 rfl) ?_
 refine W_v rfl rfl (V_lenS rfl (et rfl) (sl_SlN k_cv.at) Try.underlying24) ?_
 refine W_v rfl rfl (V_leq rfl (es3 rfl (et rfl)) (et rfl)) ?_
 refine W_end (gen_Q fun A10 E10 => ?_)
 have Y10 := szq E10
 have F10 := (((fsE E10 (ck (cq4 (FS.n hdf7) rfl) rfl rfl)).c (lookE E10 1 (es5 rfl l1_7))).c (lookE E10 2 (es5 rfl l2_7))).c (lookE E10 5 (es5 rfl l5_7))
 clear E10 Y7 hdf7 l5_7 l1_7 l2_7
 refine tk H9 ?_
 refine cond_dec (fg3 F10) (fun c11 => ?_) (fun c11 => ?_)
 ·refine wp_skip ?_
  refine tk H8 ?_
  refine wp_seq_k fun K12 H12 => ?_
  refine wp_block ?_
  refine wp_seq_k fun K13 H13 => ?_
  refine region_in ?_
  refine W_v rfl rfl (V_fa (off' := 1) rfl (fg1 F10) Try.underlying29 rfl (by decide +kernel) rfl) ?_
  refine W_r rfl rfl (VR_ldP (ys := [nv]) rfl (et rfl) (S7.obj 0 rfl hc2_7) (ldP_at rfl) Try.underlying27 rfl (by kernel_rfl)) ?_
  refine W_allocS (z := .agg #[.slice none 0 0]) (zs := #[.slice none 0 0]) S7 rfl rfl rfl (by kernel_rfl) (by rfl) (fun g14 w14 c14 hc14 S14 => ?_)
  replace S14 : St w NoX [c14, c2_7] w14 := S14
  refine W_stAS 0 S14 rfl hc14 rfl rfl rfl (et rfl) (es rfl (et rfl)) (by simp only [List.all_toArray, List.all_cons, List.all_nil, SlN_one (sl_SlN h_nv.at)] <;> rfl) (by rfl) (by kernel_rfl) (fun w15 c15 hc15 S15 => ?_)
  replace S15 : St w NoX [c15, c2_7] w15 := S15
  refine W_end (gen_Q fun A16 E16 => ?_)
  have Y16 := szq E16
  have F16 := fsE E16 (ck (cq2 F10 rfl) rfl rfl)
  clear E16 Y10 F10
  refine tk H13 ?_
  refine wp_seq_k fun K17 H17 => ?_
  refine wp_seq_k fun K18 H18 => ?_
  refine region_in ?_
  refine W_v rfl rfl (V_mov rfl (fg1 F16)) ?_
  refine W_v rfl rfl (V_fa (off' := 0) rfl (es rfl (fg2 F16)) Try.underlying29 rfl (by decide +kernel) rfl) ?_
  refine W_r rfl rfl (VR_ldC rfl (et rfl) (cell_box (v := cv) (S15.obj 1 rfl hc2_7) rfl) Try.underlying24 rfl) ?_
  refine W_v rfl rfl (V_lenS rfl (et rfl) (sl_SlN k_cv.at) Try.underlying24) ?_
  refine W_v rfl rfl (V_lss rfl (es3 rfl (et rfl)) (et rfl)) ?_
  refine W_end (gen_Q fun A19 E19 => ?_)
  have Y19 := szq E19
  have F19 := fsE E19 (ck (cq4 F16 rfl) rfl rfl)
  clear E19 Y16 F16
  refine tk H18 ?_
  refine cond_dec (fg0 F19) (fun c20 => ?_) (fun c20 => ?_)
  ·refine region_in ?_
   refine W_v rfl rfl (V_fa (off' := 0) rfl (fg3 F19) Try.underlying29 rfl (by decide +kernel) rfl) ?_
   refine W_r rfl rfl (VR_ldC rfl (et rfl) (cell_box (v := cv) (S15.obj 1 rfl hc2_7) rfl) Try.underlying24 rfl) ?_
   refine W_v rfl rfl (V_mov rfl (es2 rfl (fg2 F19))) ?_
   have k21 : k < Xu.length := by first | omega | (simp only [List.length_cons, List.length_nil]; omega) | (simp only [List.length_set]; omega) | decide
   obtain ⟨y21, hy21⟩ := get_some (xs := Xu) (k := k) k21
   obtain ⟨B21, O21, C21, hv21⟩ := (SlN.blk (sl_SlN k_cv.at) (by first | omega | (simp only [List.length_cons, List.length_nil]; omega) | (simp only [List.length_set]; omega) | decide))
   refine W_v rfl rfl (V_ixS (off := O21 + k * 1) 1 (k) rfl (es rfl (et rfl)) (et rfl) hv21 (by omega) k21 Try.underlying24 (by kernel_rfl) rfl) ?_
   have fn22 : Ro w NoX (il .i64 y21.1 y21.2) := nsi_ro1 n_cv hy21
   have bfn22 := SlN.le (sl_SlN (S15.ro fn22))
   refine W_r rfl rfl (VR_ldR (ys := fstC y21) rfl (et rfl) (SlN.row fstC_len (sl_SlN (S15.ro k_cv)) hv21 hy21 rfl) Try.underlying27 rfl (by kernel_rfl)) ?_
   refine W_stAS 0 S15 rfl hc15 rfl rfl rfl (es5 rfl (fg1 F19)) (et rfl) (by simp only [List.all_toArray, List.all_cons, List.all_nil, fstC, SlN_one (sl_SlN fn22.at)] <;> rfl) (by rfl) (by kernel_rfl) (fun w23 c23 hc23 S23 => ?_)
   replace S23 : St w NoX [c23, c2_7] w23 := S23
   refine W_end (gen_Q fun A24 E24 => ?_)
   have Y24 := szq E24
   have F24 := fsE E24 (cq5 F19 rfl)
   clear E24 Y19 F19
   refine tk H17 ?_
   refine wp_seq_k fun K25 H25 => ?_
   refine region_in ?_
   refine W_r rfl rfl (VR_ldA rfl (fg1 F24) (S23.obj 0 rfl hc23) Try.underlying27 rfl (by kernel_rfl)) ?_
   refine W_v rfl rfl (V_mov rfl (es rfl (fg4 F24))) ?_
   refine W_call rfl rfl rfl Try.func27 (by kernel_rfl) rfl (args2 (es rfl (et rfl)) (et rfl)) (qHas_c (a := a) (S23.roC fn22) ) ?_
   rintro _ w26 ⟨rfl, hP26⟩
   refine ⟨_, rfl, ?_⟩
   have S26 := S23.join hP26
   replace S26 : St w NoX [c23, c2_7] w26 := S26
   refine W_v rfl rfl (V_mov rfl (et rfl)) ?_
   refine W_v rfl rfl (V_ext (v := .bool ((hsB y21.2 a))) rfl (et rfl) rfl) ?_
   refine W_v rfl rfl (V_ext (v := .int .i64 ((chE y21.2 a))) rfl (es rfl (et rfl)) rfl) ?_
   refine W_v rfl rfl (V_asg rfl (es rfl (et rfl))) ?_
   refine W_v rfl rfl (V_asg rfl (es rfl (et rfl))) ?_
   refine W_end (gen_Q fun A27 E27 => ?_)
   have Y27 := szq E27
   have F27 := fsE E27 (ck (ck (cq6 F24 rfl) rfl rfl) rfl rfl)
   clear E27 Y24 F24
   have S28 : St w NoX [c2_7] w26 := S26.sel [1] (by decide) rfl
   refine tk H25 ?_
   refine wp_seq_k fun K29 H29 => ?_
   refine region_in ?_
   refine W_v rfl rfl (V_mov rfl (fg1 F27)) ?_
   refine W_splitB rfl rfl (V_mov rfl (et rfl)) (fun c30 => ?_) (fun c30 => ?_)
   ·refine W_v rfl (wanted_t rfl rfl (et rfl) (ez rfl)) (V_mov rfl (es2 rfl (fg0 F27))) ?_
    refine W_v rfl (wanted_t rfl rfl (es rfl (et rfl)) (ez rfl)) (V_eql rfl (et rfl) rfl) ?_
    refine W_v rfl rfl (V_pickT rfl (es2 rfl (et rfl)) (et rfl)) ?_
    refine W_end (gen_Q fun A31 E31 => ?_)
    have Y31 := szq E31
    have F31 := fsE E31 (ck (ck (ck (cq2 F27 rfl) rfl rfl) rfl rfl) rfl rfl)
    clear E31 Y27 F27
    refine tk H29 ?_
    refine cond_sure (fg0 F31) (by rw [decide_eq_true_eq]; exact hs_ch (by simpa using c30)) ?_
    refine wp_seq_k fun K32 H32 => ?_
    refine region_in ?_
    refine W_v rfl rfl (V_asg rfl rfl) ?_
    refine W_end (gen_Q fun A33 E33 => ?_)
    have Y33 := szq E33
    have F33 := fsE E33 (ck F31 rfl rfl)
    clear E33 Y31 F31
    have S34 : St w NoX [] w26 := S28.sel [] (by decide) rfl
    refine tk H32 ?_
    refine wp_ret ?_
    refine inb_ret ?_
    refine then_ret ?_
    refine then_ret ?_
    refine inb_ret ?_
    refine then_ret ?_
    refine ret_in (results_1 Try.results32 (rv_tmp (fg0 F33))) F33.d ?_
    rw [show hasB (csF Xu) ns a = true from has_T (ap_row (csF_at hy21)) (by simpa using c30)]
    exact ⟨rfl, S34.fin0⟩
   refine W_off rfl (wanted_f rfl rfl (et rfl) (ez rfl) rfl) ?_
   refine W_off rfl (wanted_f rfl rfl (es rfl (et rfl)) (ez rfl) rfl) ?_
   refine W_v rfl rfl (V_pickF rfl (es2 rfl (et rfl)) rfl) ?_
   refine W_end (gen_Q fun A35 E35 => ?_)
   have Y35 := szq E35
   have F35 := fsE E35 (ck (ck (ck (cq2 F27 rfl) rfl rfl) rfl rfl) rfl rfl)
   clear E35 Y27 F27
   refine tk H29 ?_
   refine cond_f (fg0 F35) ?_
   refine wp_skip ?_
   refine inb_n ?_
   refine tk H12 ?_
   refine region_in ?_
   refine W_v rfl rfl (V_mov rfl (fg7 F35)) ?_
   refine W_v rfl rfl (V_add rfl (et rfl) rfl (by omega) (by omega)) ?_
   refine W_v rfl rfl (V_asg rfl (et rfl)) ?_
   refine W_end (gen_Q fun A36 E36 => ?_)
   have Y36 := szq E36
   have F36 := fsE E36 (ck (cq2 (fx7 F35) rfl) rfl rfl)
   clear E36 Y35 F35
   refine then_n ⟨Xu.length + 1 - (k + 1), by simp only [hm7]; omega, Y36, F36.d, (k + 1), rfl, (by omega), (has_step hz (ap_row (csF_at hy21)) (by simpa using c30)), (((fg0 F36)).trans (by first | rfl | (simp; done) | (congr 1; omega))), (((fg9 F36)).trans (fg0 F6).symm), (((fg8 F36)).trans (fg1 F6).symm), (by subst hc2_7; exact S28)⟩
  refine wp_skip ?_
  refine tk H17 ?_
  refine wp_seq_k fun K37 H37 => ?_
  refine region_in ?_
  refine W_r rfl rfl (VR_ldA rfl (fg1 F19) (S15.obj 0 rfl hc15) Try.underlying27 rfl (by kernel_rfl)) ?_
  refine W_v rfl rfl (V_mov rfl (es rfl (fg4 F19))) ?_
  refine W_call rfl rfl rfl Try.func27 (by kernel_rfl) rfl (args2 (es rfl (et rfl)) (et rfl)) (qHas_c (a := a) (S15.roC h_nv) ) ?_
  rintro _ w38 ⟨rfl, hP38⟩
  refine ⟨_, rfl, ?_⟩
  have S38 := S15.join hP38
  replace S38 : St w NoX [c15, c2_7] w38 := S38
  refine W_v rfl rfl (V_mov rfl (et rfl)) ?_
  refine W_v rfl rfl (V_ext (v := .bool ((hsB ns a))) rfl (et rfl) rfl) ?_
  refine W_v rfl rfl (V_ext (v := .int .i64 ((chE ns a))) rfl (es rfl (et rfl)) rfl) ?_
  refine W_v rfl rfl (V_asg rfl (es rfl (et rfl))) ?_
  refine W_v rfl rfl (V_asg rfl (es rfl (et rfl))) ?_
  refine W_end (gen_Q fun A39 E39 => ?_)
  have Y39 := szq E39
  have F39 := fsE E39 (ck (ck (cq6 F19 rfl) rfl rfl) rfl rfl)
  clear E39 Y19 F19
  have S40 : St w NoX [c2_7] w38 := S38.sel [1] (by decide) rfl
  refine tk H37 ?_
  refine wp_seq_k fun K41 H41 => ?_
  refine region_in ?_
  refine W_v rfl rfl (V_mov rfl (fg1 F39)) ?_
  refine W_splitB rfl rfl (V_mov rfl (et rfl)) (fun c42 => ?_) (fun c42 => ?_)
  ·refine W_v rfl (wanted_t rfl rfl (et rfl) (ez rfl)) (V_mov rfl (es2 rfl (fg0 F39))) ?_
   refine W_v rfl (wanted_t rfl rfl (es rfl (et rfl)) (ez rfl)) (V_eql rfl (et rfl) rfl) ?_
   refine W_v rfl rfl (V_pickT rfl (es2 rfl (et rfl)) (et rfl)) ?_
   refine W_end (gen_Q fun A43 E43 => ?_)
   have Y43 := szq E43
   have F43 := fsE E43 (ck (ck (ck (cq2 F39 rfl) rfl rfl) rfl rfl) rfl rfl)
   clear E43 Y39 F39
   refine tk H41 ?_
   refine cond_sure (fg0 F43) (by rw [decide_eq_true_eq]; exact hs_ch (by simpa using c42)) ?_
   refine wp_seq_k fun K44 H44 => ?_
   refine region_in ?_
   refine W_v rfl rfl (V_asg rfl rfl) ?_
   refine W_end (gen_Q fun A45 E45 => ?_)
   have Y45 := szq E45
   have F45 := fsE E45 (ck F43 rfl rfl)
   clear E45 Y43 F43
   have S46 : St w NoX [] w38 := S40.sel [] (by decide) rfl
   refine tk H44 ?_
   refine wp_ret ?_
   refine inb_ret ?_
   refine then_ret ?_
   refine then_ret ?_
   refine inb_ret ?_
   refine then_ret ?_
   refine ret_in (results_1 Try.results32 (rv_tmp (fg0 F45))) F45.d ?_
   rw [show hasB (csF Xu) ns a = true from has_T (ap_end (show k = (csF Xu).length by rw [csF_len]; omega)) (by simpa using c42)]
   exact ⟨rfl, S46.fin0⟩
  refine W_off rfl (wanted_f rfl rfl (et rfl) (ez rfl) rfl) ?_
  refine W_off rfl (wanted_f rfl rfl (es rfl (et rfl)) (ez rfl) rfl) ?_
  refine W_v rfl rfl (V_pickF rfl (es2 rfl (et rfl)) rfl) ?_
  refine W_end (gen_Q fun A47 E47 => ?_)
  have Y47 := szq E47
  have F47 := fsE E47 (ck (ck (ck (cq2 F39 rfl) rfl rfl) rfl rfl) rfl rfl)
  clear E47 Y39 F39
  refine tk H41 ?_
  refine cond_f (fg0 F47) ?_
  refine wp_skip ?_
  refine inb_n ?_
  refine tk H12 ?_
  refine region_in ?_
  refine W_v rfl rfl (V_mov rfl (fg7 F47)) ?_
  refine W_v rfl rfl (V_add rfl (et rfl) rfl (by omega) (by omega)) ?_
  refine W_v rfl rfl (V_asg rfl (et rfl)) ?_
  refine W_end (gen_Q fun A48 E48 => ?_)
  have Y48 := szq E48
  have F48 := fsE E48 (ck (cq2 (fx7 F47) rfl) rfl rfl)
  clear E48 Y47 F47
  refine then_n ⟨Xu.length + 1 - (k + 1), by simp only [hm7]; omega, Y48, F48.d, (k + 1), rfl, (by omega), (has_step hz (ap_end (show k = (csF Xu).length by rw [csF_len]; omega)) (by simpa using c42)), (((fg0 F48)).trans (by first | rfl | (simp; done) | (congr 1; omega))), (((fg9 F48)).trans (fg0 F6).symm), (((fg8 F48)).trans (fg1 F6).symm), (by subst hc2_7; exact S40)⟩
 refine wp_exit ?_
 refine then_exit ?_
 refine then_exit ?_
 refine inb_hit ?_
 refine tk H4 ?_
 refine wp_seq_k fun K49 H49 => ?_
 refine region_in ?_
 refine W_v rfl rfl (V_asg rfl rfl) ?_
 refine W_end (gen_Q fun A50 E50 => ?_)
 have Y50 := szq E50
 have F50 := fsE E50 (ck F10 rfl rfl)
 clear E50 Y10 F10
 have S51 : St w NoX [] w7 := S7.sel [] (by decide) rfl
 refine tk H49 ?_
 refine wp_ret ?_
 refine ret_in (results_1 Try.results32 (rv_tmp (fg0 F50))) F50.d ?_
 rw [show hasB (csF Xu) ns a = false from has_F hz (by rw [csF_len]; omega)]
 exact ⟨rfl, S51.fin0⟩

end Go.Proofs.Yteppjefmlibmoaa