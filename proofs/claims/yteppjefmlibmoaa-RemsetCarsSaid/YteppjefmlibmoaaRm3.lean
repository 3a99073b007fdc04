import Derived.Test.YteppjefmlibmoaaProg
import Derived.Test.YteppjefmlibmoaaRm2
import Derived.Test.YteppjefmlibmoaaPl8c
namespace Go.Proofs.Yteppjefmlibmoaa
open Go.RowKit Go.Own Go.Own.R Go.Own.S Go.Own.E


set_option maxHeartbeats 4000000 in
theorem kCk8_c {C : Int} {N : Int} {Z : Int} {K : Int} {Q : Int} {cv : Value} {X : List (List Int)} {nv : Value} {ns : List Int} {w : World} (h_cv : Ro w NoX (rmR cv X)) (h_nv : Ro w NoX (il .i64 nv ns))  :
  Calls Try.prog 11 #[.agg #[.int .i64 C, .int .i64 N, .int .i64 Z, .int .i64 K, .int .i64 Q], .agg #[cv, nv]] w fun e w' => e = .returned (.tuple #[.int .i64 (rmP C N Z K Q X ns).1, .int .i64 (rmP C N Z K Q X ns).2]) ∧ St w NoX [] w' := by
 obtain ⟨Xu, hXu, k_cv, n_cv⟩ := rmR_open h_cv
 subst hXu
 have b_cv := SlN.le (sl_SlN k_cv.at)
 have f_al := nsi_all n_cv h_nv
 refine calls_inR 70 Try.func11 rfl rfl (by simp) (fun A0 Y0 hdf0 hargs => ?_)
 have l0_0 := hargs 0 (.agg #[.int .i64 C, .int .i64 N, .int .i64 Z, .int .i64 K, .int .i64 Q]) rfl
 have l1_0 := hargs 1 (.agg #[cv, nv]) rfl
 clear hargs; replace Y0 : SzN A0 70 := ⟨Y0⟩
 have hS := St.nil w
 have bh_nv := SlN.le (sl_SlN h_nv.at)
 have bk_cv := SlN.le (sl_SlN k_cv.at)
 refine R_seq (fun K1 H1 => ?_)
 refine R_region (by kernel_rfl) ?_
 refine W_boxS (zs := #[.int .i64 (C), .int .i64 (N), .int .i64 (Z), .int .i64 (K), .int .i64 (Q)]) hS rfl rfl rfl l0_0 (by rfl) (fun g2 w2 c2 hc2 S2 => ?_)
 replace S2 : St w NoX [c2] w2 := S2
 refine W_boxS (zs := #[cv, nv]) S2 rfl rfl rfl (es rfl l1_0) (by rfl) (fun g3 w3 c3 hc3 S3 => ?_)
 replace S3 : St w NoX [c3, c2] w3 := S3
 refine W_allocS (z := .int .i64 0) (zs := #[.int .i64 0]) S3 rfl rfl rfl (by kernel_rfl) (by rfl) (fun g4 w4 c4 hc4 S4 => ?_)
 replace S4 : St w NoX [c4, c3, c2] w4 := S4
 refine W_allocS (z := .int .i64 0) (zs := #[.int .i64 0]) S4 rfl rfl rfl (by kernel_rfl) (by rfl) (fun g5 w5 c5 hc5 S5 => ?_)
 replace S5 : St w NoX [c5, c4, c3, c2] w5 := S5
 refine W_end ?_
 refine Qo_normal ?_
 refine gen_Q (fun A6 E6 => ?_)
 have Y6 := szq E6
 have F6 := fsE E6 (ck (ck (ck (ck (FS.n hdf0) rfl rfl) rfl rfl) rfl rfl) rfl rfl)
 clear E6 Y0 hdf0 l0_0 l1_0
 refine tk H1 ?_
 refine R_seq (fun K7 H7 => ?_)
 refine R_region (by kernel_rfl) ?_
 refine W_r rfl rfl (VR_ldA rfl (fg3 F6) (S5.obj 3 rfl hc2) Try.underlying23 rfl (by kernel_rfl)) ?_
 refine W_call rfl rfl rfl Try.func40 (by kernel_rfl) rfl (args1 (et rfl)) (kcfg_c (C := C) (N := N) (Z := Z) (K := K) (Q := Q)  ) ?_
 rintro _ w8 ⟨rfl, hP8⟩
 refine ⟨_, rfl, ?_⟩
 have S8 := S5.join hP8
 replace S8 : St w NoX [c5, c4, c3, c2] w8 := S8
 refine W_stCS (zs' := #[.int .i64 ((cfE C N Z K Q))]) 0 S8 rfl hc5 rfl rfl rfl (es2 rfl (fg0 F6)) (et rfl) (by rfl) (by rfl) (by kernel_rfl) (by first | rfl | (simp only [List.setIfInBounds_toArray, List.set_cons_succ, List.set_cons_zero] <;> rfl)) (fun w9 c9 hc9 S9 => ?_)
 replace S9 : St w NoX [c9, c4, c3, c2] w9 := S9
 refine W_end ?_
 refine Qo_normal ?_
 refine gen_Q (fun A10 E10 => ?_)
 have Y10 := szq E10
 have F10 := fsE E10 (cq2 F6 rfl)
 clear E10 Y6 F6
 refine tk H7 ?_
 refine R_seq (fun K11 H11 => ?_)
 refine R_seq (fun K12 H12 => ?_)
 refine R_region (by kernel_rfl) ?_
 refine W_r rfl rfl (VR_ldC rfl (fg0 F10) (cell_box (v := .int .i64 ((cfE C N Z K Q))) (S9.obj 0 rfl hc9) rfl) Try.underlying34 rfl) ?_
 refine W_v rfl rfl (V_eql rfl (et rfl) rfl) ?_
 refine W_split rfl rfl (V_mov rfl (et rfl)) (fun c13 => ?_) (fun c13 => ?_)
 ·refine W_v rfl (wanted_t rfl rfl (et rfl) (ez rfl)) (V_fa (off' := 0) rfl (es3 rfl (fg2 F10)) Try.underlying29 rfl (by decide +kernel) rfl) ?_
  refine W_r rfl (wanted_t rfl rfl (es rfl (et rfl)) (ez rfl)) (VR_ldC rfl (et rfl) (cell_box (v := cv) (S9.obj 2 rfl hc3) rfl) Try.underlying24 rfl) ?_
  refine W_v rfl (wanted_t rfl rfl (es2 rfl (et rfl)) (ez rfl)) (V_lenS rfl (et rfl) (sl_SlN k_cv.at) Try.underlying24) ?_
  refine W_v rfl (wanted_t rfl rfl (es3 rfl (et rfl)) (ez rfl)) (V_fa (off' := 1) rfl (es6 rfl (fg3 F10)) Try.underlying23 rfl (by decide +kernel) rfl) ?_
  refine W_r rfl (wanted_t rfl rfl (es4 rfl (et rfl)) (ez rfl)) (VR_ldC rfl (et rfl) (cell_box (v := .int .i64 (N)) (S9.obj 3 rfl hc2) rfl) Try.underlying3 rfl) ?_
  refine W_v rfl (wanted_t rfl rfl (es5 rfl (et rfl)) (ez rfl)) (V_neq rfl (es2 rfl (et rfl)) (et rfl)) ?_
  refine W_v rfl rfl (V_pickT rfl (es6 rfl (et rfl)) (et rfl)) ?_
  refine W_end ?_
  refine Qo_normal ?_
  refine gen_Q (fun A14 E14 => ?_)
  have Y14 := szq E14
  have F14 := fsE E14 (ck (cq1 (cq8 F10 rfl) rfl) rfl rfl)
  clear E14 Y10 F10
  refine tk H12 ?_
  refine R_cond_dec (fg0 F14) (fun c15 => ?_) (fun c15 => ?_)
  ·refine R_region (by kernel_rfl) ?_
   refine W_stCS (zs' := #[.int .i64 6]) 0 S9 rfl hc9 rfl rfl rfl (fg1 F14) rfl (by rfl) (by rfl) (by kernel_rfl) (by first | rfl | (simp only [List.setIfInBounds_toArray, List.set_cons_succ, List.set_cons_zero] <;> rfl)) (fun w16 c16 hc16 S16 => ?_)
   replace S16 : St w NoX [c16, c4, c3, c2] w16 := S16
   refine W_end ?_
   refine Qo_normal ?_
   refine tk H11 ?_
   refine R_seq (fun K17 H17 => ?_)
   refine R_seq (fun K18 H18 => ?_)
   refine R_region (by kernel_rfl) ?_
   refine W_r rfl rfl (VR_ldC rfl (fg1 F14) (cell_box (v := .int .i64 6) (S16.obj 0 rfl hc16) rfl) Try.underlying34 rfl) ?_
   refine W_v rfl rfl (V_neq rfl (et rfl) rfl) ?_
   refine W_end ?_
   refine Qo_normal ?_
   refine gen_Q (fun A19 E19 => ?_)
   have Y19 := szq E19
   have F19 := fsE E19 (ck (cq1 F14 rfl) rfl rfl)
   clear E19 Y14 F14
   refine tk H18 ?_
   refine R_cond_sure (fg0 F19) (by decide) ?_
   refine R_seq (fun K20 H20 => ?_)
   refine join_R (R := fun A' w' => SzN A' 70 ∧ A'.defers = [] ∧ EV A' (.tmp 4) = EV A19 (.tmp 4) ∧ EV A' (.tmp 5) = EV A19 (.tmp 5) ∧ St w NoX [bx g5 34 #[.int .i64 6], bx g4 3 #[.int .i64 (-2)]] w') ?_ ?_
   ·refine R_any (by kernel_rfl) (by kernel_rfl) 3 rfl (fun w121 hx121 => ?_)
    have S121 := S16.grow hx121
    refine AX_2 (i := 0) (j := 1) (by kernel_rfl) rfl rfl ?_ ?_
    ·refine W_r rfl rfl (VR_ldC rfl (fg2 F19) (cell_box (v := .int .i64 6) (S121.obj 0 rfl hc16) rfl) Try.underlying34 rfl) ?_
     refine W_end ?_
     refine kq _ ?_
     refine AX_cast (l2 := #[true, false, false]) ?_ (by kernel_rfl)
     refine AX_1 (i := 1) (by kernel_rfl) rfl ?_
     refine W_stCS (zs' := #[.int .i64 (-2)]) 1 S121 rfl hc4 rfl rfl rfl (es rfl (fg3 F19)) rfl (by rfl) (by rfl) (by kernel_rfl) (by first | rfl | (simp only [List.setIfInBounds_toArray, List.set_cons_succ, List.set_cons_zero] <;> rfl)) (fun w122 c122 hc122 S122 => ?_)
     replace S122 : St w NoX [c16, c122, c3, c2] w122 := S122
     refine W_end ?_
     refine kq _ ?_
     refine AX_cast (l2 := #[true, true, false]) ?_ (by kernel_rfl)
     refine AX_1 (i := 2) (by kernel_rfl) rfl ?_
     refine W_stCS (zs' := #[.int .i64 6]) 0 S122 rfl hc16 rfl rfl rfl (es rfl (fg2 F19)) (et rfl) (by rfl) (by rfl) (by kernel_rfl) (by first | rfl | (simp only [List.setIfInBounds_toArray, List.set_cons_succ, List.set_cons_zero] <;> rfl)) (fun w123 c123 hc123 S123 => ?_)
     replace S123 : St w NoX [c123, c122, c3, c2] w123 := S123
     refine W_end ?_
     refine kq _ ?_
     refine AX_cast (l2 := #[true, true, true]) ?_ (by kernel_rfl)
     refine AX_end (by kernel_rfl) ?_
     refine Qo_normal ?_
     have S124 : St w NoX [c123, c122] w123 := S123.sel [0, 1] (by decide) rfl
     exact ⟨inferInstance, (by simp only [df_put]; exact F19.d), ((es rfl (fg3 F19)).trans (fg3 F19).symm), ((es rfl (fg2 F19)).trans (fg2 F19).symm), (by subst hc123 hc122; exact S124)⟩
    refine W_stCS (zs' := #[.int .i64 (-2)]) 1 S121 rfl hc4 rfl rfl rfl (fg3 F19) rfl (by rfl) (by rfl) (by kernel_rfl) (by first | rfl | (simp only [List.setIfInBounds_toArray, List.set_cons_succ, List.set_cons_zero] <;> rfl)) (fun w125 c125 hc125 S125 => ?_)
    replace S125 : St w NoX [c16, c125, c3, c2] w125 := S125
    refine W_end ?_
    refine kq _ ?_
    refine AX_cast (l2 := #[false, true, false]) ?_ (by kernel_rfl)
    refine AX_1 (i := 0) (by kernel_rfl) rfl ?_
    refine W_r rfl rfl (VR_ldC rfl (fg2 F19) (cell_box (v := .int .i64 6) (S125.obj 0 rfl hc16) rfl) Try.underlying34 rfl) ?_
    refine W_end ?_
    refine kq _ ?_
    refine AX_cast (l2 := #[true, true, false]) ?_ (by kernel_rfl)
    refine AX_1 (i := 2) (by kernel_rfl) rfl ?_
    refine W_stCS (zs' := #[.int .i64 6]) 0 S125 rfl hc16 rfl rfl rfl (es rfl (fg2 F19)) (et rfl) (by rfl) (by rfl) (by kernel_rfl) (by first | rfl | (simp only [List.setIfInBounds_toArray, List.set_cons_succ, List.set_cons_zero] <;> rfl)) (fun w126 c126 hc126 S126 => ?_)
    replace S126 : St w NoX [c126, c125, c3, c2] w126 := S126
    refine W_end ?_
    refine kq _ ?_
    refine AX_cast (l2 := #[true, true, true]) ?_ (by kernel_rfl)
    refine AX_end (by kernel_rfl) ?_
    refine Qo_normal ?_
    have S127 : St w NoX [c126, c125] w126 := S126.sel [0, 1] (by decide) rfl
    exact ⟨inferInstance, (by simp only [df_put]; exact F19.d), ((es rfl (fg3 F19)).trans (fg3 F19).symm), ((es rfl (fg2 F19)).trans (fg2 F19).symm), (by subst hc126 hc125; exact S127)⟩
   rintro A128 w128 ⟨Y128, hdf128, u4_128, u5_128, S128⟩
   have l4_128 := u4_128.trans (fg3 F19)
   have l5_128 := u5_128.trans (fg2 F19)
   clear Y19 F19 S16
   obtain ⟨c22_128, c21_128, hc22_128, hc21_128, S128⟩ := gen2 S128
   refine tk H20 ?_
   refine R_ret ?_
   refine then_ret ?_
   refine ret_inR0 (results_2 Try.results11 (rv_cellC l4_128 (cell_box (S128.obj 1 rfl hc21_128) rfl) Try.underlying3 rfl) (rv_cellC l5_128 (cell_box (S128.obj 0 rfl hc22_128) rfl) Try.underlying34 rfl)) hdf128 ?_
   have he : rmP C N Z K Q (csF Xu) ns = ((-2), 6) := rm_e2 (by omega) (by rw [csF_len]; omega)
   rw [he]
   exact ⟨rfl, S128.fin0⟩
  have hc : cfE C N Z K Q = 0 := by omega
  have hN : (Xu.length : Int) = N := by omega
  have hr := cf_rng hc
  refine R_skip ?_
  refine tk H11 ?_
  refine R_seq (fun K129 H129 => ?_)
  refine R_seq (fun K130 H130 => ?_)
  refine R_region (by kernel_rfl) ?_
  refine W_r rfl rfl (VR_ldC rfl (fg1 F14) (cell_box (v := .int .i64 ((cfE C N Z K Q))) (S9.obj 0 rfl hc9) rfl) Try.underlying34 rfl) ?_
  refine W_v rfl rfl (V_neq rfl (et rfl) rfl) ?_
  refine W_end ?_
  refine Qo_normal ?_
  refine gen_Q (fun A131 E131 => ?_)
  have Y131 := szq E131
  have F131 := fsE E131 (ck (cq1 F14 rfl) rfl rfl)
  clear E131 Y14 F14
  refine tk H130 ?_
  refine R_cond_not (fg0 F131) (by first | (simp [c13]; done) | exact decide_eq_true (by omega) | exact decide_eq_false (by omega)) ?_
  refine R_skip ?_
  refine tk H129 ?_
  refine R_seq (fun K132 H132 => ?_)
  refine R_seq (fun K133 H133 => ?_)
  refine R_region (by kernel_rfl) ?_
  refine W_r rfl rfl (VR_ldA rfl (fg4 F131) (S9.obj 2 rfl hc3) Try.underlying29 rfl (by kernel_rfl)) ?_
  refine W_call rfl rfl rfl Try.func41 (by kernel_rfl) rfl (args1 (et rfl)) (kall8_c (S9.roC k_cv) (S9.roC n_cv) (S9.roC h_nv) ) ?_
  rintro _ w134 ⟨gb_134, rfl, hP134⟩
  refine ⟨_, rfl, ?_⟩
  obtain ⟨cb_134, hcb_134, hP134⟩ := gen1 hP134
  have S134 := S9.join hP134
  replace S134 : St w NoX [cb_134, c9, c4, c3, c2] w134 := S134
  refine W_end ?_
  refine Qo_normal ?_
  refine gen_Q (fun A135 E135 => ?_)
  have Y135 := szq E135
  have F135 := fsE E135 (ck (cq1 F131 rfl) rfl rfl)
  clear E135 Y131 F131
  have S136 : St w NoX [cb_134, c9, c4, c2] w134 := S134.sel [0, 1, 2, 4] (by decide) rfl
  refine tk H133 ?_
  refine R_block ?_
  refine R_rangeS (α := Nat) (fg0 F135) (fun args w => calls_enter Try.func71 rfl rfl args w) (kall8_it (gb := gb_134) (cv := cv) (U := Xu) (nv := nv) (ns := ns) (Rd := fun W => (bx gb_134 29 #[cv, nv]).at W ∧ (rl 1 fstC cv Xu).at W ∧ (nsi Xu).at W ∧ (il .i64 nv ns).at W) (fun _ h => h)) (fun _ => rfl) (fun pre => pk (fun l => (∀ j, j < pre.length → wrJ C N Z K Q Xu ns j = 0) ∧ l = [bx gb_134 29 #[cv, nv], bx g5 34 #[.int .i64 ((cfE C N Z K Q))], bx g4 3 #[.int .i64 0], bx g2 23 #[.int .i64 (C), .int .i64 (N), .int .i64 (Z), .int .i64 (K), .int .i64 (Q)]])) (fun cQ pre => pk (fun l => (cQ = .ret ∧ ∃ (a : Int) (e : Int), (rmP C N Z K Q (csF Xu) ns = (a, e)) ∧ l = [bx gb_134 29 #[cv, nv], bx g5 34 #[.int .i64 (e)], bx g4 3 #[.int .i64 (a)], bx g2 23 #[.int .i64 (C), .int .i64 (N), .int .i64 (Z), .int .i64 (K), .int .i64 (Q)]]))) (St.pack (l := [bx gb_134 29 #[cv, nv], bx g5 34 #[.int .i64 ((cfE C N Z K Q))], bx g4 3 #[.int .i64 0], bx g2 23 #[.int .i64 (C), .int .i64 (N), .int .i64 (Z), .int .i64 (K), .int .i64 (Q)]]) (fr := []) (by have q0 : cb_134 = bx gb_134 29 #[cv, nv] := hcb_134; have q1 : c9 = bx g5 34 #[.int .i64 ((cfE C N Z K Q))] := hc9; have q2 : c4 = bx g4 3 #[.int .i64 0] := hc4; have q3 : c2 = bx g2 23 #[.int .i64 (C), .int .i64 (N), .int .i64 (Z), .int .i64 (K), .int .i64 (Q)] := hc2; subst q0 q1 q2 q3; exact S136) ⟨(fun j hj => by simp at hj), rfl⟩)
   (fun pre W l' hS => by obtain ⟨l, ⟨hz, rfl⟩, hl⟩ := pk_at (hS.ch 0 rfl); exact ⟨(hl 0 _ rfl), hS.ro k_cv, hS.ro n_cv, hS.ro h_nv⟩)
   (fun x a' cQ => ∃ g141 : Nat, SzN a' 70 ∧ a'.defers = [] ∧ EV a' (.tmp 2) = EV A135 (.tmp 2) ∧ EV a' (.tmp 4) = EV A135 (.tmp 4) ∧ EV a' (.tmp 5) = EV A135 (.tmp 5) ∧ EV a' (.tmp 6) = .int .i64 ((aI Xu x)) ∧ EV a' (.tmp 7) = .pointer (some ⟨g141, 0, none⟩) ∧ cQ = pk (·= [bx g141 27 #[(aS Xu nv ns x).1]])) ?_ ?_ ?_ ?_
  ·intro la137 pre x wa137 fr K hSa137 hK
   simp only [encA]
   rw [rnd2]
   obtain ⟨A138, E138⟩ : ∃ A, A = (PT (PT { tmps := A135.tmps, defers := [] } 31 (.int .i64 (aI Xu x))) 32 (.agg #[(aS Xu nv ns x).1])) := ⟨_, rfl⟩
   rw [← E138]
   have Y138 := szq E138
   have hdf138 : A138.defers = [] := by rw [E138]; rfl
   have l2_138 := lookE E138 2 (es2 rfl (rnd_l (fg6 F135)))
   have l4_138 := lookE E138 4 (es2 rfl (rnd_l (fg4 F135)))
   have l5_138 := lookE E138 5 (es2 rfl (rnd_l (fg3 F135)))
   have l31_138 := lookE E138 31 (es rfl (et rfl))
   have l32_138 := lookE E138 32 (et rfl)
   clear E138
   obtain ⟨cI, hcI, hSa137⟩ := gen1 hSa137
   refine R_seq (fun K139 H139 => ?_)
   refine R_region (by kernel_rfl) ?_
   refine W_v rfl rfl (V_asg rfl l31_138) ?_
   refine W_end ?_
   refine Qo_normal ?_
   refine gen_Q (fun A140 E140 => ?_)
   have Y140 := szq E140
   have F140 := ((((fsE E140 (ck (FS.n hdf138) rfl rfl)).c (lookE E140 2 (es rfl l2_138))).c (lookE E140 4 (es rfl l4_138))).c (lookE E140 5 (es rfl l5_138))).c (lookE E140 32 (es rfl l32_138))
   clear E140 Y138 hdf138 l2_138 l4_138 l5_138 l31_138 l32_138
   refine tk H139 ?_
   refine R_region (by kernel_rfl) ?_
   refine W_allocS (z := .agg #[.slice none 0 0]) (zs := #[.slice none 0 0]) hSa137 rfl rfl rfl (by kernel_rfl) (by rfl) (fun g141 w141 c141 hc141 S141 => ?_)
   replace S141 : St w NoX (c141 :: cI :: fr) w141 := S141
   refine W_stAS 0 S141 rfl hc141 rfl rfl rfl (et rfl) (es rfl (fg0 F140)) (by simp only [List.all_toArray, List.all_cons, List.all_nil, SlN_one (sl_SlN (f_al x).at)] <;> rfl) (by rfl) (by kernel_rfl) (fun w142 c142 hc142 S142 => ?_)
   replace S142 : St w NoX (c142 :: cI :: fr) w142 := S142
   refine W_end ?_
   refine Qo_normal ?_
   refine gen_Q (fun A143 E143 => ?_)
   have Y143 := szq E143
   have F143 := fsE E143 (ck F140 rfl rfl)
   clear E143 Y140 F140
   refine then_n ?_
   refine hK _ _ _ ⟨g141, Y143, F143.d, ((fg4 F143).trans (fg6 F135).symm), ((fg3 F143).trans (fg4 F135).symm), ((fg2 F143).trans (fg3 F135).symm), (fg5 F143), (fg0 F143), rfl⟩ ?_
   subst hc142 hcI; exact S142.asg1
  ·rintro lb144 pre x A144 w144 cQ fr hAx hlr S144 hVd
   obtain ⟨g141, Y144, hdf144, u2_144, u4_144, u5_144, l6_144, l7_144, rfl⟩ := hAx
   have l2_144 := u2_144.trans (fg6 F135)
   have l4_144 := u4_144.trans (fg4 F135)
   have l5_144 := u5_144.trans (fg3 F135)
   obtain ⟨_, _, ⟨hz, rfl⟩, rfl, S144⟩ := S144.body2
   replace S144 : St w NoX ((bx gb_134 29 #[cv, nv]) :: (bx g5 34 #[.int .i64 ((cfE C N Z K Q))]) :: (bx g4 3 #[.int .i64 0]) :: (bx g2 23 #[.int .i64 (C), .int .i64 (N), .int .i64 (Z), .int .i64 (K), .int .i64 (Q)]) :: (bx g141 27 #[(aS Xu nv ns x).1]) :: fr) w144 := S144
   obtain ⟨cb_145, c9_145, c4_145, c2_145, c142_145, hcb_145, hc9_145, hc4_145, hc2_145, hc142_145, S144⟩ := gen5 S144
   obtain ⟨hxl, hpre⟩ := rng_vd hVd
   have bf_x := SlN.le (sl_SlN (f_al x).at)
   refine R_block ?_
   refine R_seq (fun K146 H146 => ?_)
   refine R_seq (fun K147 H147 => ?_)
   refine R_region (by kernel_rfl) ?_
   refine W_r rfl rfl (VR_ldA rfl l7_144 (S144.obj 4 rfl hc142_145) Try.underlying27 rfl (by kernel_rfl)) ?_
   refine W_call rfl rfl rfl Try.func42 (by kernel_rfl) rfl (args1 (et rfl)) (kCk_c (S144.roC (f_al x)) ) ?_
   rintro _ w148 ⟨rfl, hP148⟩
   refine ⟨_, rfl, ?_⟩
   have S148 := S144.join hP148
   replace S148 : St w NoX (cb_145 :: c9_145 :: c4_145 :: c2_145 :: c142_145 :: fr) w148 := S148
   refine W_v rfl rfl (V_mov rfl (et rfl)) ?_
   refine W_v rfl rfl (V_ext (v := .int .i64 ((ckS ((aS Xu nv ns x).2)).1)) rfl (et rfl) rfl) ?_
   refine W_v rfl rfl (V_ext (v := .int .i64 ((ckS ((aS Xu nv ns x).2)).2)) rfl (es rfl (et rfl)) rfl) ?_
   refine W_v rfl rfl (V_asg rfl (es rfl (et rfl))) ?_
   refine W_v rfl rfl (V_asg rfl (es rfl (et rfl))) ?_
   refine W_end ?_
   refine Qo_normal ?_
   refine gen_Q (fun A149 E149 => ?_)
   have Y149 := szq E149
   have F149 := (((((fsE E149 (ck (cq6 (FS.n hdf144) rfl) rfl rfl)).c (lookE E149 2 (es7 rfl l2_144))).c (lookE E149 4 (es7 rfl l4_144))).c (lookE E149 5 (es7 rfl l5_144))).c (lookE E149 6 (es7 rfl l6_144))).c (lookE E149 7 (es7 rfl l7_144))
   clear E149 Y144 hdf144 l2_144 l4_144 l5_144 l6_144 l7_144
   refine tk H147 ?_
   refine R_seq (fun K150 H150 => ?_)
   refine R_region (by kernel_rfl) ?_
   refine W_v rfl rfl (V_mov rfl (fg5 F149)) ?_
   refine W_v rfl rfl (V_neq rfl (et rfl) rfl) ?_
   refine W_end ?_
   refine Qo_normal ?_
   refine gen_Q (fun A151 E151 => ?_)
   have Y151 := szq E151
   have F151 := fsE E151 (ck (cq1 F149 rfl) rfl rfl)
   clear E151 Y149 F149
   refine tk H150 ?_
   refine R_cond_dec (fg0 F151) (fun c152 => ?_) (fun c152 => ?_)
   ·refine R_seq (fun K153 H153 => ?_)
    refine R_region (by kernel_rfl) ?_
    refine W_v rfl rfl (V_mov rfl (fg2 F151)) ?_
    refine W_v rfl rfl (V_mov rfl (es rfl (fg6 F151))) ?_
    refine W_stCS (zs' := #[.int .i64 ((aI Xu x))]) 2 S148 rfl hc4_145 rfl rfl rfl (es2 rfl (fg4 F151)) (es rfl (et rfl)) (by rfl) (by rfl) (by kernel_rfl) (by first | rfl | (simp only [List.setIfInBounds_toArray, List.set_cons_succ, List.set_cons_zero] <;> rfl)) (fun w154 c154 hc154 S154 => ?_)
    replace S154 : St w NoX (cb_145 :: c9_145 :: c154 :: c2_145 :: c142_145 :: fr) w154 := S154
    refine W_stCS (zs' := #[.int .i64 ((ckS ((aS Xu nv ns x).2)).2)]) 1 S154 rfl hc9_145 rfl rfl rfl (es2 rfl (fg3 F151)) (et rfl) (by rfl) (by rfl) (by kernel_rfl) (by first | rfl | (simp only [List.setIfInBounds_toArray, List.set_cons_succ, List.set_cons_zero] <;> rfl)) (fun w155 c155 hc155 S155 => ?_)
    replace S155 : St w NoX (cb_145 :: c155 :: c154 :: c2_145 :: c142_145 :: fr) w155 := S155
    refine W_end ?_
    refine Qo_normal ?_
    refine gen_Q (fun A156 E156 => ?_)
    have Y156 := szq E156
    have F156 := fsE E156 (cq2 F151 rfl)
    clear E156 Y151 F151
    have S158 := S155.del 4
    replace S158 : St w NoX (cb_145 :: c155 :: c154 :: c2_145 :: fr) w155 := S158
    refine tk H153 ?_
    refine R_ret ?_
    refine then_ret ?_
    refine inb_ret ?_
    exact (St.pack (l := [bx gb_134 29 #[cv, nv], bx g5 34 #[.int .i64 (((ckS ((aS Xu nv ns x).2)).2))], bx g4 3 #[.int .i64 ((aI Xu x))], bx g2 23 #[.int .i64 (C), .int .i64 (N), .int .i64 (Z), .int .i64 (K), .int .i64 (Q)]]) (fr := fr) (by have q0 : cb_145 = bx gb_134 29 #[cv, nv] := hcb_145; have q1 : c155 = bx g5 34 #[.int .i64 (((ckS ((aS Xu nv ns x).2)).2))] := hc155; have q2 : c154 = bx g4 3 #[.int .i64 ((aI Xu x))] := hc154; have q3 : c2_145 = bx g2 23 #[.int .i64 (C), .int .i64 (N), .int .i64 (Z), .int .i64 (K), .int .i64 (Q)] := hc2_145; subst q0 q1 q2 q3; exact S158) (⟨rfl, (aI Xu x), (ckS ((aS Xu nv ns x).2)).2, (rmJ_hit (nv := nv) hc hN (by subst hpre; simpa using hz) hxl (wr_ck (by omega)) (by omega)), rfl⟩))
   have hck : (ckS (aS Xu nv ns x).2).2 = 0 := by omega
   refine R_skip ?_
   refine tk H146 ?_
   refine R_seq (fun K159 H159 => ?_)
   refine R_region (by kernel_rfl) ?_
   refine W_v rfl rfl (V_fa (off' := 0) rfl (fg1 F151) Try.underlying27 rfl (by decide +kernel) rfl) ?_
   refine W_r rfl rfl (VR_ldC rfl (et rfl) (cell_box (v := (aS Xu nv ns x).1) (S148.obj 4 rfl hc142_145) rfl) Try.underlying25 rfl) ?_
   refine W_v rfl rfl (V_lenS rfl (et rfl) (sl_SlN (f_al x).at) Try.underlying25) ?_
   refine W_v rfl rfl (V_mov rfl rfl) ?_
   refine W_end ?_
   refine Qo_normal ?_
   refine gen_Q (fun A160 E160 => ?_)
   have Y160 := szq E160
   have F160 := fsE E160 (cq1 (ck (ck (cq1 F151 rfl) rfl rfl) rfl rfl) rfl)
   have l45_160 := lookE E160 45 (et rfl)
   clear E160 Y151 F151
   have S162 := S148.del 4
   replace S162 : St w NoX (cb_145 :: c9_145 :: c4_145 :: c2_145 :: fr) w148 := S162
   refine tk H159 ?_
   refine R_block ?_
   -- loop 13
   refine R_loop (fun mz A' w' => SzN A' 70 ∧ A'.defers = [] ∧ (∃ (k : Nat), (mz = (aS Xu nv ns x).2.length - k) ∧ (k ≤ (aS Xu nv ns x).2.length) ∧ (∀ a ∈ (aS Xu nv ns x).2.take k, 0 < a → ¬ bdA C N Z K Q (aI Xu x) a = true) ∧ (EV A' (.tmp 45) = .int .i64 (k : Int)) ∧ (EV A' (.tmp 2) = EV A160 (.tmp 2)) ∧ (EV A' (.tmp 4) = EV A160 (.tmp 4)) ∧ (EV A' (.tmp 5) = EV A160 (.tmp 5)) ∧ (EV A' (.tmp 6) = EV A160 (.tmp 6)) ∧ (EV A' (.tmp 43) = EV A160 (.tmp 43)) ∧ (EV A' (.tmp 44) = EV A160 (.tmp 44)) ∧ (St w NoX ((bx gb_134 29 #[cv, nv]) :: (bx g5 34 #[.int .i64 ((cfE C N Z K Q))]) :: (bx g4 3 #[.int .i64 0]) :: (bx g2 23 #[.int .i64 (C), .int .i64 (N), .int .i64 (Z), .int .i64 (K), .int .i64 (Q)]) :: fr) w'))) ((aS Xu nv ns x).2.length - 0) ⟨Y160, F160.d, 0, rfl, (by omega), (fun a ha => by simp at ha), ((l45_160).trans (by first | rfl | (simp; done) | (congr 1; omega))), rfl, rfl, rfl, rfl, rfl, rfl, (by subst hcb_145 hc9_145 hc4_145 hc2_145; exact S162)⟩ ?_
   clear S162 hcb_145 hc9_145 hc4_145 hc2_145
   rintro n163 A163 w163 ⟨Y163, hdf163, k, hm163, hk, hb, l45_163, u2_163, u4_163, u5_163, u6_163, u43_163, u44_163, S163⟩
   have l2_163 := u2_163.trans (fg7 F160)
   have l4_163 := u4_163.trans (fg6 F160)
   have l5_163 := u5_163.trans (fg5 F160)
   have l6_163 := u6_163.trans (fg4 F160)
   have l43_163 := u43_163.trans (fg1 F160)
   have l44_163 := u44_163.trans (fg0 F160)
   obtain ⟨cb_163, c9_163, c4_163, c2_163, hcb_163, hc9_163, hc4_163, hc2_163, S163⟩ := gen4 S163
   refine R_seq (fun K164 H164 => ?_)
   refine R_region (by kernel_rfl) ?_
   refine W_v rfl rfl (V_lss rfl l45_163 l44_163) ?_
   refine W_end ?_
   refine Qo_normal ?_
   refine gen_Q (fun A165 E165 => ?_)
   have Y165 := szq E165
   have F165 := (((((((fsE E165 (ck (FS.n hdf163) rfl rfl)).c (lookE E165 2 (es rfl l2_163))).c (lookE E165 4 (es rfl l4_163))).c (lookE E165 5 (es rfl l5_163))).c (lookE E165 6 (es rfl l6_163))).c (lookE E165 43 (es rfl l43_163))).c (lookE E165 44 (es rfl l44_163))).c (lookE E165 45 (es rfl l45_163))
   clear E165 Y163 hdf163 l45_163 l2_163 l4_163 l5_163 l6_163 l43_163 l44_163
   refine tk H164 ?_
   refine R_seq (fun K166 H166 => ?_)
   refine R_cond_dec (fg7 F165) (fun c167 => ?_) (fun c167 => ?_)
   ·refine R_skip ?_
    refine tk H166 ?_
    refine R_seq (fun K168 H168 => ?_)
    refine R_block ?_
    refine R_seq (fun K169 H169 => ?_)
    refine R_region (by kernel_rfl) ?_
    have k170 : k < ((aS Xu nv ns x).2).length := by first | omega | (simp only [List.length_cons, List.length_nil]; omega) | (simp only [List.length_set]; omega) | decide
    obtain ⟨y170, hy170⟩ := get_some (xs := ((aS Xu nv ns x).2)) (k := k) k170
    obtain ⟨B170, O170, C170, hv170⟩ := (SlN.blk (sl_SlN (f_al x).at) (by first | omega | (simp only [List.length_cons, List.length_nil]; omega) | (simp only [List.length_set]; omega) | decide))
    refine W_v rfl rfl (V_ixS (off := O170 + k) 1 (k) rfl (fg2 F165) (fg0 F165) hv170 (by omega) k170 Try.underlying25 (by kernel_rfl) (congrArg _ (Nat.mul_one _))) ?_
    refine W_r rfl rfl (VR_ldC rfl (et rfl) ((sl_SlN (S163.ro (f_al x))).cell hv170 (map_get hy170)) Try.underlying3 rfl) ?_
    refine W_v rfl rfl (V_asg rfl (et rfl)) ?_
    refine W_end ?_
    refine Qo_normal ?_
    refine gen_Q (fun A171 E171 => ?_)
    have Y171 := szq E171
    have F171 := fsE E171 (ck (cq2 F165 rfl) rfl rfl)
    clear E171 Y165 F165
    refine tk H169 ?_
    refine R_seq (fun K172 H172 => ?_)
    refine R_seq (fun K173 H173 => ?_)
    refine R_region (by kernel_rfl) ?_
    refine W_v rfl rfl (V_mov rfl (fg0 F171)) ?_
    refine W_v rfl rfl (V_leq rfl (et rfl) rfl) ?_
    refine W_end ?_
    refine Qo_normal ?_
    refine gen_Q (fun A174 E174 => ?_)
    have Y174 := szq E174
    have F174 := fsE E174 (ck (cq1 F171 rfl) rfl rfl)
    clear E174 Y171 F171
    refine tk H173 ?_
    refine R_cond_dec (fg0 F174) (fun c175 => ?_) (fun c175 => ?_)
    ·refine R_exit ?_
     refine then_exit ?_
     refine inb_hit ?_
     refine tk H168 ?_
     refine R_region (by kernel_rfl) ?_
     refine W_v rfl rfl (V_add rfl (fg2 F174) rfl (by omega) (by omega)) ?_
     refine W_v rfl rfl (V_mov rfl (et rfl)) ?_
     refine W_end ?_
     refine Qo_normal ?_
     refine gen_Q (fun A176 E176 => ?_)
     have Y176 := szq E176
     have F176 := fsE E176 (ck (cq1 (fx2 F174) rfl) rfl rfl)
     clear E176 Y174 F174
     refine then_n ⟨(aS Xu nv ns x).2.length - (k + 1), by simp only [hm163]; omega, Y176, F176.d, (k + 1), rfl, (by omega), (bd_step8 (P := fun a => 0 < a) hb hy170 (fun h0 => absurd h0 (by omega))), (((fg0 F176)).trans (by first | rfl | (simp; done) | (congr 1; omega))), (((fg8 F176)).trans (fg7 F160).symm), (((fg7 F176)).trans (fg6 F160).symm), (((fg6 F176)).trans (fg5 F160).symm), (((fg5 F176)).trans (fg4 F160).symm), (((fg4 F176)).trans (fg1 F160).symm), (((fg3 F176)).trans (fg0 F160).symm), (by subst hcb_163 hc9_163 hc4_163 hc2_163; exact S163)⟩
    refine R_skip ?_
    refine tk H172 ?_
    refine R_seq (fun K177 H177 => ?_)
    refine R_region (by kernel_rfl) ?_
    refine W_r rfl rfl (VR_ldA rfl (fg8 F174) (S163.obj 3 rfl hc2_163) Try.underlying23 rfl (by kernel_rfl)) ?_
    refine W_v rfl rfl (V_mov rfl (es rfl (fg1 F174))) ?_
    refine W_call rfl rfl rfl Try.func43 (by kernel_rfl) rfl (args2 (es rfl (et rfl)) (et rfl)) (kca_c (C := C) (N := N) (Z := Z) (K := K) (Q := Q) (a := y170)  ) ?_
    rintro _ w178 ⟨rfl, hP178⟩
    refine ⟨_, rfl, ?_⟩
    have S178 := S163.join hP178
    replace S178 : St w NoX (cb_163 :: c9_163 :: c4_163 :: c2_163 :: fr) w178 := S178
    refine W_v rfl rfl (V_mov rfl (et rfl)) ?_
    refine W_v rfl rfl (V_ext (v := .int .i64 ((caN C N Z K Q y170))) rfl (et rfl) rfl) ?_
    refine W_v rfl rfl (V_ext (v := .int .i64 ((caE C N Z K Q y170))) rfl (es rfl (et rfl)) rfl) ?_
    refine W_v rfl rfl (V_asg rfl (es rfl (et rfl))) ?_
    refine W_v rfl rfl (V_asg rfl (es rfl (et rfl))) ?_
    refine W_end ?_
    refine Qo_normal ?_
    refine gen_Q (fun A179 E179 => ?_)
    have Y179 := szq E179
    have F179 := fsE E179 (ck (ck (cq6 F174 rfl) rfl rfl) rfl rfl)
    clear E179 Y174 F174
    refine tk H177 ?_
    refine R_seq (fun K180 H180 => ?_)
    refine R_region (by kernel_rfl) ?_
    refine W_v rfl rfl (V_mov rfl (fg0 F179)) ?_
    refine W_v rfl rfl (V_neq rfl (et rfl) rfl) ?_
    refine W_split rfl rfl (V_mov rfl (et rfl)) (fun c181 => ?_) (fun c181 => ?_)
    ·refine W_off rfl (wanted_f rfl rfl (et rfl) (ez rfl) rfl) ?_
     refine W_off rfl (wanted_f rfl rfl (es rfl (et rfl)) (ez rfl) rfl) ?_
     refine W_v rfl rfl (V_pickT rfl (es2 rfl (et rfl)) rfl) ?_
     refine W_v rfl rfl (V_mov rfl (et rfl)) ?_
     refine W_off rfl (wanted_f rfl rfl (et rfl) (ez rfl) rfl) ?_
     refine W_off rfl (wanted_f rfl rfl (es rfl (et rfl)) (ez rfl) rfl) ?_
     refine W_off rfl (wanted_f rfl rfl (es2 rfl (et rfl)) (ez rfl) rfl) ?_
     refine W_v rfl rfl (V_pickT rfl (es3 rfl (et rfl)) rfl) ?_
     refine W_end ?_
     refine Qo_normal ?_
     refine gen_Q (fun A182 E182 => ?_)
     have Y182 := szq E182
     have F182 := fsE E182 (ck (ck (ck (ck (cq2 (ck (ck (cq3 F179 rfl) rfl rfl) rfl rfl) rfl) rfl rfl) rfl rfl) rfl rfl) rfl rfl)
     clear E182 Y179 F179
     refine tk H180 ?_
     refine R_cond_t (fg0 F182) ?_
     refine R_seq (fun K183 H183 => ?_)
     refine R_region (by kernel_rfl) ?_
     refine W_v rfl rfl (V_mov rfl (fg13 F182)) ?_
     refine W_stCS (zs' := #[.int .i64 ((aI Xu x))]) 2 S178 rfl hc4_163 rfl rfl rfl (es rfl (fg15 F182)) (et rfl) (by rfl) (by rfl) (by kernel_rfl) (by first | rfl | (simp only [List.setIfInBounds_toArray, List.set_cons_succ, List.set_cons_zero] <;> rfl)) (fun w184 c184 hc184 S184 => ?_)
     replace S184 : St w NoX (cb_163 :: c9_163 :: c184 :: c2_163 :: fr) w184 := S184
     refine W_stCS (zs' := #[.int .i64 7]) 1 S184 rfl hc9_163 rfl rfl rfl (es rfl (fg14 F182)) rfl (by rfl) (by rfl) (by kernel_rfl) (by first | rfl | (simp only [List.setIfInBounds_toArray, List.set_cons_succ, List.set_cons_zero] <;> rfl)) (fun w185 c185 hc185 S185 => ?_)
     replace S185 : St w NoX (cb_163 :: c185 :: c184 :: c2_163 :: fr) w185 := S185
     refine W_end ?_
     refine Qo_normal ?_
     refine gen_Q (fun A186 E186 => ?_)
     have Y186 := szq E186
     have F186 := fsE E186 (cq1 F182 rfl)
     clear E186 Y182 F182
     refine tk H183 ?_
     refine R_ret ?_
     refine inb_ret ?_
     refine then_ret ?_
     refine then_ret ?_
     refine inb_ret ?_
     refine inb_ret ?_
     exact (St.pack (l := [bx gb_134 29 #[cv, nv], bx g5 34 #[.int .i64 (7)], bx g4 3 #[.int .i64 ((aI Xu x))], bx g2 23 #[.int .i64 (C), .int .i64 (N), .int .i64 (Z), .int .i64 (K), .int .i64 (Q)]]) (fr := fr) (by have q0 : cb_163 = bx gb_134 29 #[cv, nv] := hcb_163; have q1 : c185 = bx g5 34 #[.int .i64 (7)] := hc185; have q2 : c184 = bx g4 3 #[.int .i64 ((aI Xu x))] := hc184; have q3 : c2_163 = bx g2 23 #[.int .i64 (C), .int .i64 (N), .int .i64 (Z), .int .i64 (K), .int .i64 (Q)] := hc2_163; subst q0 q1 q2 q3; exact S185) (⟨rfl, (aI Xu x), 7, (rmJ_hit (nv := nv) hc hN (by subst hpre; simpa using hz) hxl (wr_bad_at hck hy170 (by omega) (bdA_T (by omega))) (by omega)), rfl⟩))
    refine W_v rfl (wanted_t rfl rfl (et rfl) (ez rfl)) (V_mov rfl (es3 rfl (fg1 F179))) ?_
    refine W_v rfl (wanted_t rfl rfl (es rfl (et rfl)) (ez rfl)) (V_lss rfl (et rfl) rfl) ?_
    refine W_v rfl rfl (V_pickF rfl (es2 rfl (et rfl)) (et rfl)) ?_
    refine W_split rfl rfl (V_mov rfl (et rfl)) (fun c187 => ?_) (fun c187 => ?_)
    ·refine W_off rfl (wanted_f rfl rfl (et rfl) (ez rfl) rfl) ?_
     refine W_off rfl (wanted_f rfl rfl (es rfl (et rfl)) (ez rfl) rfl) ?_
     refine W_off rfl (wanted_f rfl rfl (es2 rfl (et rfl)) (ez rfl) rfl) ?_
     refine W_v rfl rfl (V_pickT rfl (es3 rfl (et rfl)) rfl) ?_
     refine W_end ?_
     refine Qo_normal ?_
     refine gen_Q (fun A188 E188 => ?_)
     have Y188 := szq E188
     have F188 := fsE E188 (ck (ck (ck (ck (cq2 (ck (ck (cq3 F179 rfl) rfl rfl) rfl rfl) rfl) rfl rfl) rfl rfl) rfl rfl) rfl rfl)
     clear E188 Y179 F179
     refine tk H180 ?_
     refine R_cond_t (fg0 F188) ?_
     refine R_seq (fun K189 H189 => ?_)
     refine R_region (by kernel_rfl) ?_
     refine W_v rfl rfl (V_mov rfl (fg13 F188)) ?_
     refine W_stCS (zs' := #[.int .i64 ((aI Xu x))]) 2 S178 rfl hc4_163 rfl rfl rfl (es rfl (fg15 F188)) (et rfl) (by rfl) (by rfl) (by kernel_rfl) (by first | rfl | (simp only [List.setIfInBounds_toArray, List.set_cons_succ, List.set_cons_zero] <;> rfl)) (fun w190 c190 hc190 S190 => ?_)
     replace S190 : St w NoX (cb_163 :: c9_163 :: c190 :: c2_163 :: fr) w190 := S190
     refine W_stCS (zs' := #[.int .i64 7]) 1 S190 rfl hc9_163 rfl rfl rfl (es rfl (fg14 F188)) rfl (by rfl) (by rfl) (by kernel_rfl) (by first | rfl | (simp only [List.setIfInBounds_toArray, List.set_cons_succ, List.set_cons_zero] <;> rfl)) (fun w191 c191 hc191 S191 => ?_)
     replace S191 : St w NoX (cb_163 :: c191 :: c190 :: c2_163 :: fr) w191 := S191
     refine W_end ?_
     refine Qo_normal ?_
     refine gen_Q (fun A192 E192 => ?_)
     have Y192 := szq E192
     have F192 := fsE E192 (cq1 F188 rfl)
     clear E192 Y188 F188
     refine tk H189 ?_
     refine R_ret ?_
     refine inb_ret ?_
     refine then_ret ?_
     refine then_ret ?_
     refine inb_ret ?_
     refine inb_ret ?_
     exact (St.pack (l := [bx gb_134 29 #[cv, nv], bx g5 34 #[.int .i64 (7)], bx g4 3 #[.int .i64 ((aI Xu x))], bx g2 23 #[.int .i64 (C), .int .i64 (N), .int .i64 (Z), .int .i64 (K), .int .i64 (Q)]]) (fr := fr) (by have q0 : cb_163 = bx gb_134 29 #[cv, nv] := hcb_163; have q1 : c191 = bx g5 34 #[.int .i64 (7)] := hc191; have q2 : c190 = bx g4 3 #[.int .i64 ((aI Xu x))] := hc190; have q3 : c2_163 = bx g2 23 #[.int .i64 (C), .int .i64 (N), .int .i64 (Z), .int .i64 (K), .int .i64 (Q)] := hc2_163; subst q0 q1 q2 q3; exact S191) (⟨rfl, (aI Xu x), 7, (rmJ_hit (nv := nv) hc hN (by subst hpre; simpa using hz) hxl (wr_bad_at hck hy170 (by omega) (bdA_T (by omega))) (by omega)), rfl⟩))
    refine W_v rfl (wanted_t rfl rfl (et rfl) (ez rfl)) (V_mov rfl (es7 rfl (fg1 F179))) ?_
    refine W_v rfl (wanted_t rfl rfl (es rfl (et rfl)) (ez rfl)) (V_mov rfl (es8 rfl (fg7 F179))) ?_
    refine W_v rfl (wanted_t rfl rfl (es2 rfl (et rfl)) (ez rfl)) (V_eql rfl (es rfl (et rfl)) (et rfl)) ?_
    refine W_v rfl rfl (V_pickF rfl (es3 rfl (et rfl)) (et rfl)) ?_
    refine W_end ?_
    refine Qo_normal ?_
    refine gen_Q (fun A193 E193 => ?_)
    have Y193 := szq E193
    have F193 := fsE E193 (ck (ck (ck (ck (cq2 (ck (ck (cq3 F179 rfl) rfl rfl) rfl rfl) rfl) rfl rfl) rfl rfl) rfl rfl) rfl rfl)
    clear E193 Y179 F179
    refine tk H180 ?_
    refine R_cond_dec (fg0 F193) (fun c194 => ?_) (fun c194 => ?_)
    ·refine R_seq (fun K195 H195 => ?_)
     refine R_region (by kernel_rfl) ?_
     refine W_v rfl rfl (V_mov rfl (fg13 F193)) ?_
     refine W_stCS (zs' := #[.int .i64 ((aI Xu x))]) 2 S178 rfl hc4_163 rfl rfl rfl (es rfl (fg15 F193)) (et rfl) (by rfl) (by rfl) (by kernel_rfl) (by first | rfl | (simp only [List.setIfInBounds_toArray, List.set_cons_succ, List.set_cons_zero] <;> rfl)) (fun w196 c196 hc196 S196 => ?_)
     replace S196 : St w NoX (cb_163 :: c9_163 :: c196 :: c2_163 :: fr) w196 := S196
     refine W_stCS (zs' := #[.int .i64 7]) 1 S196 rfl hc9_163 rfl rfl rfl (es rfl (fg14 F193)) rfl (by rfl) (by rfl) (by kernel_rfl) (by first | rfl | (simp only [List.setIfInBounds_toArray, List.set_cons_succ, List.set_cons_zero] <;> rfl)) (fun w197 c197 hc197 S197 => ?_)
     replace S197 : St w NoX (cb_163 :: c197 :: c196 :: c2_163 :: fr) w197 := S197
     refine W_end ?_
     refine Qo_normal ?_
     refine gen_Q (fun A198 E198 => ?_)
     have Y198 := szq E198
     have F198 := fsE E198 (cq1 F193 rfl)
     clear E198 Y193 F193
     refine tk H195 ?_
     refine R_ret ?_
     refine inb_ret ?_
     refine then_ret ?_
     refine then_ret ?_
     refine inb_ret ?_
     refine inb_ret ?_
     exact (St.pack (l := [bx gb_134 29 #[cv, nv], bx g5 34 #[.int .i64 (7)], bx g4 3 #[.int .i64 ((aI Xu x))], bx g2 23 #[.int .i64 (C), .int .i64 (N), .int .i64 (Z), .int .i64 (K), .int .i64 (Q)]]) (fr := fr) (by have q0 : cb_163 = bx gb_134 29 #[cv, nv] := hcb_163; have q1 : c197 = bx g5 34 #[.int .i64 (7)] := hc197; have q2 : c196 = bx g4 3 #[.int .i64 ((aI Xu x))] := hc196; have q3 : c2_163 = bx g2 23 #[.int .i64 (C), .int .i64 (N), .int .i64 (Z), .int .i64 (K), .int .i64 (Q)] := hc2_163; subst q0 q1 q2 q3; exact S197) (⟨rfl, (aI Xu x), 7, (rmJ_hit (nv := nv) hc hN (by subst hpre; simpa using hz) hxl (wr_bad_at hck hy170 (by omega) (bdA_T (by omega))) (by omega)), rfl⟩))
    refine R_skip ?_
    refine inb_n ?_
    refine tk H168 ?_
    refine R_region (by kernel_rfl) ?_
    refine W_v rfl rfl (V_add rfl (fg10 F193) rfl (by omega) (by omega)) ?_
    refine W_v rfl rfl (V_mov rfl (et rfl)) ?_
    refine W_end ?_
    refine Qo_normal ?_
    refine gen_Q (fun A199 E199 => ?_)
    have Y199 := szq E199
    have F199 := fsE E199 (ck (cq1 (fx10 F193) rfl) rfl rfl)
    clear E199 Y193 F193
    refine then_n ⟨(aS Xu nv ns x).2.length - (k + 1), by simp only [hm163]; omega, Y199, F199.d, (k + 1), rfl, (by omega), (bd_step8 (P := fun a => 0 < a) hb hy170 (fun h0 => bdA_F (by omega))), (((fg0 F199)).trans (by first | rfl | (simp; done) | (congr 1; omega))), (((fg16 F199)).trans (fg7 F160).symm), (((fg15 F199)).trans (fg6 F160).symm), (((fg14 F199)).trans (fg5 F160).symm), (((fg13 F199)).trans (fg4 F160).symm), (((fg12 F199)).trans (fg1 F160).symm), (((fg11 F199)).trans (fg0 F160).symm), (by subst hcb_163 hc9_163 hc4_163 hc2_163; exact S178)⟩
   refine R_exit ?_
   refine then_exit ?_
   refine then_exit ?_
   refine inb_hit ?_
   refine inb_n ?_
   exact (St.pack (l := [bx gb_134 29 #[cv, nv], bx g5 34 #[.int .i64 ((cfE C N Z K Q))], bx g4 3 #[.int .i64 0], bx g2 23 #[.int .i64 (C), .int .i64 (N), .int .i64 (Z), .int .i64 (K), .int .i64 (Q)]]) (fr := fr) (by have q0 : cb_163 = bx gb_134 29 #[cv, nv] := hcb_163; have q1 : c9_163 = bx g5 34 #[.int .i64 ((cfE C N Z K Q))] := hc9_163; have q2 : c4_163 = bx g4 3 #[.int .i64 0] := hc4_163; have q3 : c2_163 = bx g2 23 #[.int .i64 (C), .int .i64 (N), .int .i64 (Z), .int .i64 (K), .int .i64 (Q)] := hc2_163; subst q0 q1 q2 q3; exact S163) (⟨(wrJ_step (nv := nv) hpre hz (wr_cells hck hb (by omega))), rfl⟩))
  ·intro D200 xs w200 hxs S200
   have hxs' : xs = (List.range (Xu.length + 1)) := hxs; subst hxs'; clear hxs
   obtain ⟨_, ⟨hz, rfl⟩, S200⟩ := S200.unpack
   replace S200 : St w NoX ((bx gb_134 29 #[cv, nv]) :: (bx g5 34 #[.int .i64 ((cfE C N Z K Q))]) :: (bx g4 3 #[.int .i64 0]) :: (bx g2 23 #[.int .i64 (C), .int .i64 (N), .int .i64 (Z), .int .i64 (K), .int .i64 (Q)]) :: (ob D200 (.deferred (some []))) :: []) w200 := S200
   obtain ⟨cb_200, c9_200, c4_200, c2_200, cD200, hcb_200, hc9_200, hc4_200, hc2_200, hcD200, S200⟩ := gen5 S200
   refine gen_Q (fun A200 E200 => ?_)
   have Y200 := szq E200
   have hdf200 : A200.defers = [{ target := .collected D200, args := #[] }] := by rw [E200, df_mk, F135.d] <;> rfl
   have l4_200 := lookE E200 4 (mk_l (fg4 F135))
   have l5_200 := lookE E200 5 (mk_l (fg3 F135))
   clear E200
   refine inb_n ?_
   refine tk H132 ?_
   refine R_seq (fun K201 H201 => ?_)
   refine R_region (by kernel_rfl) ?_
   refine W_stCS (zs' := #[.int .i64 0]) 2 S200 rfl hc4_200 rfl rfl rfl l4_200 rfl (by rfl) (by rfl) (by kernel_rfl) (by first | rfl | (simp only [List.setIfInBounds_toArray, List.set_cons_succ, List.set_cons_zero] <;> rfl)) (fun w202 c202 hc202 S202 => ?_)
   replace S202 : St w NoX [cb_200, c9_200, c202, c2_200, cD200] w202 := S202
   refine W_stCS (zs' := #[.int .i64 0]) 1 S202 rfl hc9_200 rfl rfl rfl l5_200 rfl (by rfl) (by rfl) (by kernel_rfl) (by first | rfl | (simp only [List.setIfInBounds_toArray, List.set_cons_succ, List.set_cons_zero] <;> rfl)) (fun w203 c203 hc203 S203 => ?_)
   replace S203 : St w NoX [cb_200, c203, c202, c2_200, cD200] w203 := S203
   refine W_end ?_
   refine Qo_normal ?_
   refine tk H201 ?_
   refine R_ret ?_
   have hD204 := S203.obj 4 rfl hcD200
   have S204 := S203.put (o' := .deferred none) 4 rfl hcD200
   obtain ⟨w204, hw204⟩ : ∃ w', w' = w203.putObj D200 (.deferred none) := ⟨_, rfl⟩
   rw [← hw204] at S204
   replace S204 : St w NoX [cb_200, c203, c202, c2_200, (ob D200 (.deferred none))] w204 := S204
   refine ret_inR1' (D := D200) (w1 := w204) hw204 (results_2 Try.results11 (rv_cellC l4_200 (cell_box (S204.obj 2 rfl hc202) rfl) Try.underlying3 rfl) (rv_cellC l5_200 (cell_box (S204.obj 1 rfl hc203) rfl) Try.underlying34 rfl)) hdf200 hD204 ?_
   have he : rmP C N Z K Q (csF Xu) ns = (0, 0) := rmJ_ok hc hN (by simpa using hz)
   rw [he]
   exact ⟨rfl, S204.fin0⟩
  intro D205 cQ pre w205 hpre S205
  obtain ⟨_, hx, S205⟩ := S205.unpack
  rcases hx with ⟨rfl, a, e, hx, rfl⟩
  replace S205 : St w NoX ((bx gb_134 29 #[cv, nv]) :: (bx g5 34 #[.int .i64 (e)]) :: (bx g4 3 #[.int .i64 (a)]) :: (bx g2 23 #[.int .i64 (C), .int .i64 (N), .int .i64 (Z), .int .i64 (K), .int .i64 (Q)]) :: (ob D205 (.deferred (some []))) :: []) w205 := S205
  obtain ⟨cb_205, c9_205, c4_205, c2_205, cD205, hcb_205, hc9_205, hc4_205, hc2_205, hcD205, S205⟩ := gen5 S205
  refine gen_w (fun A205 E205 => ?_)
  have Y205 := szq E205
  have hdf205 : A205.defers = [{ target := .collected D205, args := #[] }] := by rw [E205, df_mk, F135.d] <;> rfl
  have l4_205 := lookE E205 4 (mk_l (fg4 F135))
  have l5_205 := lookE E205 5 (mk_l (fg3 F135))
  clear E205
  refine R_ret ?_
  refine inb_ret ?_
  refine then_ret ?_
  have hD206 := S205.obj 4 rfl hcD205
  have S206 := S205.put (o' := .deferred none) 4 rfl hcD205
  obtain ⟨w206, hw206⟩ : ∃ w', w' = w205.putObj D205 (.deferred none) := ⟨_, rfl⟩
  rw [← hw206] at S206
  replace S206 : St w NoX [cb_205, c9_205, c4_205, c2_205, (ob D205 (.deferred none))] w206 := S206
  refine ret_inR1' (D := D205) (w1 := w206) hw206 (results_2 Try.results11 (rv_cellC l4_205 (cell_box (S206.obj 2 rfl hc4_205) rfl) Try.underlying3 rfl) (rv_cellC l5_205 (cell_box (S206.obj 1 rfl hc9_205) rfl) Try.underlying34 rfl)) hdf205 hD206 ?_
  have he : rmP C N Z K Q (csF Xu) ns = (a, e) := hx
  rw [he]
  exact ⟨rfl, S206.fin0⟩
 refine W_off rfl (wanted_f rfl rfl (et rfl) (ez rfl) rfl) ?_
 refine W_off rfl (wanted_f rfl rfl (es rfl (et rfl)) (ez rfl) rfl) ?_
 refine W_off rfl (wanted_f rfl rfl (es2 rfl (et rfl)) (ez rfl) rfl) ?_
 refine W_off rfl (wanted_f rfl rfl (es3 rfl (et rfl)) (ez rfl) rfl) ?_
 refine W_off rfl (wanted_f rfl rfl (es4 rfl (et rfl)) (ez rfl) rfl) ?_
 refine W_off rfl (wanted_f rfl rfl (es5 rfl (et rfl)) (ez rfl) rfl) ?_
 refine W_v rfl rfl (V_pickF rfl (es6 rfl (et rfl)) rfl) ?_
 refine W_end ?_
 refine Qo_normal ?_
 refine gen_Q (fun A207 E207 => ?_)
 have Y207 := szq E207
 have F207 := fsE E207 (ck (cq1 (cq8 F10 rfl) rfl) rfl rfl)
 clear E207 Y10 F10
 refine tk H12 ?_
 refine R_cond_f (fg0 F207) ?_
 refine R_skip ?_
 refine tk H11 ?_
 refine R_seq (fun K208 H208 => ?_)
 refine R_seq (fun K209 H209 => ?_)
 refine R_region (by kernel_rfl) ?_
 refine W_r rfl rfl (VR_ldC rfl (fg1 F207) (cell_box (v := .int .i64 ((cfE C N Z K Q))) (S9.obj 0 rfl hc9) rfl) Try.underlying34 rfl) ?_
 refine W_v rfl rfl (V_neq rfl (et rfl) rfl) ?_
 refine W_end ?_
 refine Qo_normal ?_
 refine gen_Q (fun A210 E210 => ?_)
 have Y210 := szq E210
 have F210 := fsE E210 (ck (cq1 F207 rfl) rfl rfl)
 clear E210 Y207 F207
 refine tk H209 ?_
 refine R_cond_sure (fg0 F210) (by first | (simp [c13]; done) | exact decide_eq_true (by omega) | exact decide_eq_false (by omega)) ?_
 refine R_seq (fun K211 H211 => ?_)
 refine join_R (R := fun A' w' => SzN A' 70 ∧ A'.defers = [] ∧ EV A' (.tmp 4) = EV A210 (.tmp 4) ∧ EV A' (.tmp 5) = EV A210 (.tmp 5) ∧ St w NoX [bx g5 34 #[.int .i64 ((cfE C N Z K Q))], bx g4 3 #[.int .i64 (-2)]] w') ?_ ?_
 ·refine R_any (by kernel_rfl) (by kernel_rfl) 3 rfl (fun w312 hx312 => ?_)
  have S312 := S9.grow hx312
  refine AX_2 (i := 0) (j := 1) (by kernel_rfl) rfl rfl ?_ ?_
  ·refine W_r rfl rfl (VR_ldC rfl (fg2 F210) (cell_box (v := .int .i64 ((cfE C N Z K Q))) (S312.obj 0 rfl hc9) rfl) Try.underlying34 rfl) ?_
   refine W_end ?_
   refine kq _ ?_
   refine AX_cast (l2 := #[true, false, false]) ?_ (by kernel_rfl)
   refine AX_1 (i := 1) (by kernel_rfl) rfl ?_
   refine W_stCS (zs' := #[.int .i64 (-2)]) 1 S312 rfl hc4 rfl rfl rfl (es rfl (fg3 F210)) rfl (by rfl) (by rfl) (by kernel_rfl) (by first | rfl | (simp only [List.setIfInBounds_toArray, List.set_cons_succ, List.set_cons_zero] <;> rfl)) (fun w313 c313 hc313 S313 => ?_)
   replace S313 : St w NoX [c9, c313, c3, c2] w313 := S313
   refine W_end ?_
   refine kq _ ?_
   refine AX_cast (l2 := #[true, true, false]) ?_ (by kernel_rfl)
   refine AX_1 (i := 2) (by kernel_rfl) rfl ?_
   refine W_stCS (zs' := #[.int .i64 ((cfE C N Z K Q))]) 0 S313 rfl hc9 rfl rfl rfl (es rfl (fg2 F210)) (et rfl) (by rfl) (by rfl) (by kernel_rfl) (by first | rfl | (simp only [List.setIfInBounds_toArray, List.set_cons_succ, List.set_cons_zero] <;> rfl)) (fun w314 c314 hc314 S314 => ?_)
   replace S314 : St w NoX [c314, c313, c3, c2] w314 := S314
   refine W_end ?_
   refine kq _ ?_
   refine AX_cast (l2 := #[true, true, true]) ?_ (by kernel_rfl)
   refine AX_end (by kernel_rfl) ?_
   refine Qo_normal ?_
   have S315 : St w NoX [c314, c313] w314 := S314.sel [0, 1] (by decide) rfl
   exact ⟨inferInstance, (by simp only [df_put]; exact F210.d), ((es rfl (fg3 F210)).trans (fg3 F210).symm), ((es rfl (fg2 F210)).trans (fg2 F210).symm), (by subst hc314 hc313; exact S315)⟩
  refine W_stCS (zs' := #[.int .i64 (-2)]) 1 S312 rfl hc4 rfl rfl rfl (fg3 F210) rfl (by rfl) (by rfl) (by kernel_rfl) (by first | rfl | (simp only [List.setIfInBounds_toArray, List.set_cons_succ, List.set_cons_zero] <;> rfl)) (fun w316 c316 hc316 S316 => ?_)
  replace S316 : St w NoX [c9, c316, c3, c2] w316 := S316
  refine W_end ?_
  refine kq _ ?_
  refine AX_cast (l2 := #[false, true, false]) ?_ (by kernel_rfl)
  refine AX_1 (i := 0) (by kernel_rfl) rfl ?_
  refine W_r rfl rfl (VR_ldC rfl (fg2 F210) (cell_box (v := .int .i64 ((cfE C N Z K Q))) (S316.obj 0 rfl hc9) rfl) Try.underlying34 rfl) ?_
  refine W_end ?_
  refine kq _ ?_
  refine AX_cast (l2 := #[true, true, false]) ?_ (by kernel_rfl)
  refine AX_1 (i := 2) (by kernel_rfl) rfl ?_
  refine W_stCS (zs' := #[.int .i64 ((cfE C N Z K Q))]) 0 S316 rfl hc9 rfl rfl rfl (es rfl (fg2 F210)) (et rfl) (by rfl) (by rfl) (by kernel_rfl) (by first | rfl | (simp only [List.setIfInBounds_toArray, List.set_cons_succ, List.set_cons_zero] <;> rfl)) (fun w317 c317 hc317 S317 => ?_)
  replace S317 : St w NoX [c317, c316, c3, c2] w317 := S317
  refine W_end ?_
  refine kq _ ?_
  refine AX_cast (l2 := #[true, true, true]) ?_ (by kernel_rfl)
  refine AX_end (by kernel_rfl) ?_
  refine Qo_normal ?_
  have S318 : St w NoX [c317, c316] w317 := S317.sel [0, 1] (by decide) rfl
  exact ⟨inferInstance, (by simp only [df_put]; exact F210.d), ((es rfl (fg3 F210)).trans (fg3 F210).symm), ((es rfl (fg2 F210)).trans (fg2 F210).symm), (by subst hc317 hc316; exact S318)⟩
 rintro A319 w319 ⟨Y319, hdf319, u4_319, u5_319, S319⟩
 have l4_319 := u4_319.trans (fg3 F210)
 have l5_319 := u5_319.trans (fg2 F210)
 clear Y210 F210 S9
 obtain ⟨c213_319, c212_319, hc213_319, hc212_319, S319⟩ := gen2 S319
 refine tk H211 ?_
 refine R_ret ?_
 refine then_ret ?_
 refine ret_inR0 (results_2 Try.results11 (rv_cellC l4_319 (cell_box (S319.obj 1 rfl hc212_319) rfl) Try.underlying3 rfl) (rv_cellC l5_319 (cell_box (S319.obj 0 rfl hc213_319) rfl) Try.underlying34 rfl)) hdf319 ?_
 have he : rmP C N Z K Q (csF Xu) ns = ((-2), (cfE C N Z K Q)) := rm_e1 (by omega)
 rw [he]
 exact ⟨rfl, S319.fin0⟩

end Go.Proofs.Yteppjefmlibmoaa