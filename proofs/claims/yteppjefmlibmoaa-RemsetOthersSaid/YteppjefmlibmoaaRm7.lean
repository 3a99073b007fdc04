import Derived.Test.YteppjefmlibmoaaProg
import Derived.Test.YteppjefmlibmoaaRm6
namespace Go.Proofs.Yteppjefmlibmoaa
open Go.RowKit Go.Own Go.Own.R Go.Own.S Go.Own.E


set_option maxHeartbeats 4000000 in
theorem kCt8_c {cv : Value} {X : List (List Int)} {nv : Value} {ns : List Int} {w : World} (h_cv : Ro w NoX (rmR cv X)) (h_nv : Ro w NoX (il .i64 nv ns)) (hxl : X.length ≤ 1000) :
  Calls Try.prog 15 #[.agg #[cv, nv]] w fun e w' => e = .returned (.tuple #[.int .i64 (ctP (X ++ [ns])).1, .int .i64 (ctP (X ++ [ns])).2]) ∧ St w NoX [] w' := by
 obtain ⟨Xu, hXu, k_cv, n_cv⟩ := rmR_open h_cv
 subst hXu
 have b_cv := SlN.le (sl_SlN k_cv.at)
 rw [csF_len] at hxl
 have f_al := nsi_all n_cv h_nv
 refine calls_inR 25 Try.func15 rfl rfl (by simp) (fun A0 Y0 hdf0 hargs => ?_)
 have l0_0 := hargs 0 (.agg #[cv, nv]) rfl
 clear hargs; replace Y0 : SzN A0 25 := ⟨Y0⟩
 have hS := St.nil w
 have bh_nv := SlN.le (sl_SlN h_nv.at)
 have bk_cv := SlN.le (sl_SlN k_cv.at)
 refine R_seq (fun K1 H1 => ?_)
 refine R_region (by kernel_rfl) ?_
 refine W_boxS (zs := #[cv, nv]) hS rfl rfl rfl l0_0 (by rfl) (fun g2 w2 c2 hc2 S2 => ?_)
 replace S2 : St w NoX [c2] w2 := S2
 refine W_allocS (z := .int .i64 0) (zs := #[.int .i64 0]) S2 rfl rfl rfl (by kernel_rfl) (by rfl) (fun g3 w3 c3 hc3 S3 => ?_)
 replace S3 : St w NoX [c3, c2] w3 := S3
 refine W_allocS (z := .int .i64 0) (zs := #[.int .i64 0]) S3 rfl rfl rfl (by kernel_rfl) (by rfl) (fun g4 w4 c4 hc4 S4 => ?_)
 replace S4 : St w NoX [c4, c3, c2] w4 := S4
 refine W_end ?_
 refine Qo_normal ?_
 refine gen_Q (fun A5 E5 => ?_)
 have Y5 := szq E5
 have F5 := fsE E5 (ck (ck (ck (FS.n hdf0) rfl rfl) rfl rfl) rfl rfl)
 clear E5 Y0 hdf0 l0_0
 refine tk H1 ?_
 refine R_seq (fun K6 H6 => ?_)
 refine R_region (by kernel_rfl) ?_
 refine W_allocS (z := .int .i64 0) (zs := #[.int .i64 0]) S4 rfl rfl rfl (by kernel_rfl) (by rfl) (fun g7 w7 c7 hc7 S7 => ?_)
 replace S7 : St w NoX [c7, c4, c3, c2] w7 := S7
 refine W_stCS (zs' := #[.int .i64 0]) 0 S7 rfl hc7 rfl rfl rfl (et rfl) rfl (by rfl) (by rfl) (by kernel_rfl) (by first | rfl | (simp only [List.setIfInBounds_toArray, List.set_cons_succ, List.set_cons_zero] <;> rfl)) (fun w8 c8 hc8 S8 => ?_)
 replace S8 : St w NoX [c8, c4, c3, c2] w8 := S8
 refine W_end ?_
 refine Qo_normal ?_
 refine gen_Q (fun A9 E9 => ?_)
 have Y9 := szq E9
 have F9 := fsE E9 (ck F5 rfl rfl)
 clear E9 Y5 F5
 refine tk H6 ?_
 refine R_seq (fun K10 H10 => ?_)
 refine R_seq (fun K11 H11 => ?_)
 refine R_region (by kernel_rfl) ?_
 refine W_r rfl rfl (VR_ldA rfl (fg3 F9) (S8.obj 3 rfl hc2) Try.underlying29 rfl (by kernel_rfl)) ?_
 refine W_call rfl rfl rfl Try.func41 (by kernel_rfl) rfl (args1 (et rfl)) (kall8_c (S8.roC k_cv) (S8.roC n_cv) (S8.roC h_nv) ) ?_
 rintro _ w12 ⟨gb_12, rfl, hP12⟩
 refine ⟨_, rfl, ?_⟩
 obtain ⟨cb_12, hcb_12, hP12⟩ := gen1 hP12
 have S12 := S8.join hP12
 replace S12 : St w NoX [cb_12, c8, c4, c3, c2] w12 := S12
 refine W_end ?_
 refine Qo_normal ?_
 refine gen_Q (fun A13 E13 => ?_)
 have Y13 := szq E13
 have F13 := fsE E13 (ck (cq1 F9 rfl) rfl rfl)
 clear E13 Y9 F9
 have S14 : St w NoX [cb_12, c8, c4, c3] w12 := S12.sel [0, 1, 2, 3] (by decide) rfl
 refine tk H11 ?_
 refine R_block ?_
 refine R_rangeS (α := Nat) (fg0 F13) (fun args w => calls_enter Try.func71 rfl rfl args w) (kall8_it (gb := gb_12) (cv := cv) (U := Xu) (nv := nv) (ns := ns) (Rd := fun W => (bx gb_12 29 #[cv, nv]).at W ∧ (rl 1 fstC cv Xu).at W ∧ (nsi Xu).at W ∧ (il .i64 nv ns).at W) (fun _ h => h)) (fun _ => rfl) (fun pre => pk (fun l => ∃ (n : Int), (ctP (csF Xu ++ [ns]) = ctGo n ((csF Xu ++ [ns]).drop pre.length)) ∧ (0 ≤ n ∧ n ≤ 1600 * (pre.length : Int)) ∧ l = [bx gb_12 29 #[cv, nv], bx g7 3 #[.int .i64 (n)], bx g4 34 #[.int .i64 0], bx g3 3 #[.int .i64 0]])) (fun cQ pre => pk (fun l => (cQ = .ret ∧ ∃ (e : Int) (n : Int), (ctP (csF Xu ++ [ns]) = (0, e)) ∧ l = [bx gb_12 29 #[cv, nv], bx g7 3 #[.int .i64 (n)], bx g4 34 #[.int .i64 (e)], bx g3 3 #[.int .i64 0]]))) (St.pack (l := [bx gb_12 29 #[cv, nv], bx g7 3 #[.int .i64 (0)], bx g4 34 #[.int .i64 0], bx g3 3 #[.int .i64 0]]) (fr := []) (by have q0 : cb_12 = bx gb_12 29 #[cv, nv] := hcb_12; have q1 : c8 = bx g7 3 #[.int .i64 (0)] := hc8.trans (rfl); have q2 : c4 = bx g4 34 #[.int .i64 0] := hc4; have q3 : c3 = bx g3 3 #[.int .i64 0] := hc3; subst q0 q1 q2 q3; exact S14) ⟨0, rfl, (by simp), rfl⟩)
  (fun pre W l' hS => by obtain ⟨l, ⟨n, hz, hn, rfl⟩, hl⟩ := pk_at (hS.ch 0 rfl); exact ⟨(hl 0 _ rfl), hS.ro k_cv, hS.ro n_cv, hS.ro h_nv⟩)
  (fun x a' cQ => ∃ g17 : Nat, SzN a' 25 ∧ a'.defers = [] ∧ EV a' (.tmp 2) = EV A13 (.tmp 2) ∧ EV a' (.tmp 3) = EV A13 (.tmp 3) ∧ EV a' (.tmp 4) = EV A13 (.tmp 4) ∧ EV a' (.tmp 6) = .pointer (some ⟨g17, 0, none⟩) ∧ cQ = pk (·= [bx g17 27 #[(aS Xu nv ns x).1]])) ?_ ?_ ?_ ?_
 ·intro la15 pre x wa15 fr K hSa15 hK
  simp only [encA]
  rw [rnd2]
  obtain ⟨A16, E16⟩ : ∃ A, A = (PT (PT { tmps := A13.tmps, defers := [] } 11 (.int .i64 (aI Xu x))) 12 (.agg #[(aS Xu nv ns x).1])) := ⟨_, rfl⟩
  rw [← E16]
  have Y16 := szq E16
  have hdf16 : A16.defers = [] := by rw [E16]; rfl
  have l2_16 := lookE E16 2 (es2 rfl (rnd_l (fg3 F13)))
  have l3_16 := lookE E16 3 (es2 rfl (rnd_l (fg2 F13)))
  have l4_16 := lookE E16 4 (es2 rfl (rnd_l (fg1 F13)))
  have l11_16 := lookE E16 11 (es rfl (et rfl))
  have l12_16 := lookE E16 12 (et rfl)
  clear E16
  obtain ⟨cI, hcI, hSa15⟩ := gen1 hSa15
  refine R_region (by kernel_rfl) ?_
  refine W_allocS (z := .agg #[.slice none 0 0]) (zs := #[.slice none 0 0]) hSa15 rfl rfl rfl (by kernel_rfl) (by rfl) (fun g17 w17 c17 hc17 S17 => ?_)
  replace S17 : St w NoX (c17 :: cI :: fr) w17 := S17
  refine W_stAS 0 S17 rfl hc17 rfl rfl rfl (et rfl) (es rfl l12_16) (by simp only [List.all_toArray, List.all_cons, List.all_nil, SlN_one (sl_SlN (f_al x).at)] <;> rfl) (by rfl) (by kernel_rfl) (fun w18 c18 hc18 S18 => ?_)
  replace S18 : St w NoX (c18 :: cI :: fr) w18 := S18
  refine W_end ?_
  refine Qo_normal ?_
  refine gen_Q (fun A19 E19 => ?_)
  have Y19 := szq E19
  have F19 := (((fsE E19 (ck (FS.n hdf16) rfl rfl)).c (lookE E19 2 (es rfl l2_16))).c (lookE E19 3 (es rfl l3_16))).c (lookE E19 4 (es rfl l4_16))
  clear E19 Y16 hdf16 l2_16 l3_16 l4_16 l11_16 l12_16
  refine then_n ?_
  refine hK _ _ _ ⟨g17, Y19, F19.d, ((fg2 F19).trans (fg3 F13).symm), ((fg1 F19).trans (fg2 F13).symm), ((fg0 F19).trans (fg1 F13).symm), (fg3 F19), rfl⟩ ?_
  subst hc18 hcI; exact S18.asg1
 ·rintro lb20 pre x A20 w20 cQ fr hAx hlr S20 hVd
  obtain ⟨g17, Y20, hdf20, u2_20, u3_20, u4_20, l6_20, rfl⟩ := hAx
  have l2_20 := u2_20.trans (fg3 F13)
  have l3_20 := u3_20.trans (fg2 F13)
  have l4_20 := u4_20.trans (fg1 F13)
  obtain ⟨_, _, ⟨n, hz, hn, rfl⟩, rfl, S20⟩ := S20.body2
  replace S20 : St w NoX ((bx gb_12 29 #[cv, nv]) :: (bx g7 3 #[.int .i64 (n)]) :: (bx g4 34 #[.int .i64 0]) :: (bx g3 3 #[.int .i64 0]) :: (bx g17 27 #[(aS Xu nv ns x).1]) :: fr) w20 := S20
  obtain ⟨cb_21, c8_21, c4_21, c3_21, c18_21, hcb_21, hc8_21, hc4_21, hc3_21, hc18_21, S20⟩ := gen5 S20
  obtain ⟨hxl, hpre⟩ := rng_vd hVd
  have bf_x := SlN.le (sl_SlN (f_al x).at)
  have hln := lnN_bd (aS Xu nv ns x).2
  have hpl : pre.length = x := by rw [hpre]; exact List.length_range
  refine R_block ?_
  refine R_seq (fun K22 H22 => ?_)
  refine R_region (by kernel_rfl) ?_
  refine W_r rfl rfl (VR_ldA rfl l6_20 (S20.obj 4 rfl hc18_21) Try.underlying27 rfl (by kernel_rfl)) ?_
  refine W_call rfl rfl rfl Try.func51 (by kernel_rfl) rfl (args1 (et rfl)) (kLen_c (S20.roC (f_al x)) ) ?_
  rintro _ w23 ⟨rfl, hP23⟩
  refine ⟨_, rfl, ?_⟩
  have S23 := S20.join hP23
  replace S23 : St w NoX (cb_21 :: c8_21 :: c4_21 :: c3_21 :: c18_21 :: fr) w23 := S23
  refine W_v rfl rfl (V_mov rfl (et rfl)) ?_
  refine W_v rfl rfl (V_ext (v := .int .i64 ((lnN ((aS Xu nv ns x).2)))) rfl (et rfl) rfl) ?_
  refine W_v rfl rfl (V_ext (v := .int .i64 ((ckS ((aS Xu nv ns x).2)).2)) rfl (es rfl (et rfl)) rfl) ?_
  refine W_v rfl rfl (V_asg rfl (es rfl (et rfl))) ?_
  refine W_v rfl rfl (V_asg rfl (es rfl (et rfl))) ?_
  refine W_end ?_
  refine Qo_normal ?_
  refine gen_Q (fun A24 E24 => ?_)
  have Y24 := szq E24
  have F24 := (((fsE E24 (ck (ck (cq5 (FS.n hdf20) rfl) rfl rfl) rfl rfl)).c (lookE E24 2 (es7 rfl l2_20))).c (lookE E24 3 (es7 rfl l3_20))).c (lookE E24 4 (es7 rfl l4_20))
  clear E24 Y20 hdf20 l2_20 l3_20 l4_20 l6_20
  have S26 := S23.del 4
  replace S26 : St w NoX (cb_21 :: c8_21 :: c4_21 :: c3_21 :: fr) w23 := S26
  refine tk H22 ?_
  refine R_seq (fun K27 H27 => ?_)
  refine R_seq (fun K28 H28 => ?_)
  refine R_region (by kernel_rfl) ?_
  refine W_v rfl rfl (V_mov rfl (fg3 F24)) ?_
  refine W_v rfl rfl (V_neq rfl (et rfl) rfl) ?_
  refine W_end ?_
  refine Qo_normal ?_
  refine gen_Q (fun A29 E29 => ?_)
  have Y29 := szq E29
  have F29 := fsE E29 (ck (cq1 F24 rfl) rfl rfl)
  clear E29 Y24 F24
  refine tk H28 ?_
  refine R_cond_dec (fg0 F29) (fun c30 => ?_) (fun c30 => ?_)
  ·refine R_seq (fun K31 H31 => ?_)
   refine R_region (by kernel_rfl) ?_
   refine W_v rfl rfl (V_mov rfl (fg4 F29)) ?_
   refine W_stCS (zs' := #[.int .i64 0]) 3 S26 rfl hc3_21 rfl rfl rfl (es rfl (fg3 F29)) rfl (by rfl) (by rfl) (by kernel_rfl) (by first | rfl | (simp only [List.setIfInBounds_toArray, List.set_cons_succ, List.set_cons_zero] <;> rfl)) (fun w32 c32 hc32 S32 => ?_)
   replace S32 : St w NoX (cb_21 :: c8_21 :: c4_21 :: c32 :: fr) w32 := S32
   refine W_stCS (zs' := #[.int .i64 ((ckS ((aS Xu nv ns x).2)).2)]) 2 S32 rfl hc4_21 rfl rfl rfl (es rfl (fg2 F29)) (et rfl) (by rfl) (by rfl) (by kernel_rfl) (by first | rfl | (simp only [List.setIfInBounds_toArray, List.set_cons_succ, List.set_cons_zero] <;> rfl)) (fun w33 c33 hc33 S33 => ?_)
   replace S33 : St w NoX (cb_21 :: c8_21 :: c33 :: c32 :: fr) w33 := S33
   refine W_end ?_
   refine Qo_normal ?_
   refine gen_Q (fun A34 E34 => ?_)
   have Y34 := szq E34
   have F34 := fsE E34 (cq1 F29 rfl)
   clear E34 Y29 F29
   refine tk H31 ?_
   refine R_ret ?_
   refine then_ret ?_
   refine inb_ret ?_
   exact (St.pack (l := [bx gb_12 29 #[cv, nv], bx g7 3 #[.int .i64 (_)], bx g4 34 #[.int .i64 (((ckS ((aS Xu nv ns x).2)).2))], bx g3 3 #[.int .i64 0]]) (fr := fr) (by have q0 : cb_21 = bx gb_12 29 #[cv, nv] := hcb_21; have q1 : c8_21 = bx g7 3 #[.int .i64 (_)] := hc8_21; have q2 : c33 = bx g4 34 #[.int .i64 (((ckS ((aS Xu nv ns x).2)).2))] := hc33; have q3 : c32 = bx g3 3 #[.int .i64 0] := hc32; subst q0 q1 q2 q3; exact S33) (⟨rfl, (ckS ((aS Xu nv ns x).2)).2, _, (ct_hit (ct_at hpre hz) (al_aS (nv := nv) hxl) (by omega)), rfl⟩))
  refine R_skip ?_
  refine tk H27 ?_
  refine R_region (by kernel_rfl) ?_
  refine W_r rfl rfl (VR_ldC rfl (fg1 F29) (cell_box (v := .int .i64 (n)) (S26.obj 1 rfl hc8_21) rfl) Try.underlying3 rfl) ?_
  refine W_v rfl rfl (V_mov rfl (es rfl (fg5 F29))) ?_
  refine W_v rfl rfl (V_add rfl (es rfl (et rfl)) (et rfl) (by omega) (by omega)) ?_
  refine W_stCS (zs' := #[.int .i64 ((n + (lnN ((aS Xu nv ns x).2))))]) 1 S26 rfl hc8_21 rfl rfl rfl (es3 rfl (fg1 F29)) (et rfl) (by rfl) (by rfl) (by kernel_rfl) (by first | rfl | (simp only [List.setIfInBounds_toArray, List.set_cons_succ, List.set_cons_zero] <;> rfl)) (fun w35 c35 hc35 S35 => ?_)
  replace S35 : St w NoX (cb_21 :: c35 :: c4_21 :: c3_21 :: fr) w35 := S35
  refine W_end ?_
  refine Qo_normal ?_
  refine gen_Q (fun A36 E36 => ?_)
  have Y36 := szq E36
  have F36 := fsE E36 (cq3 F29 rfl)
  clear E36 Y29 F29
  refine inb_n ?_
  exact (St.pack (l := [bx gb_12 29 #[cv, nv], bx g7 3 #[.int .i64 ((n + lnN (aS Xu nv ns x).2))], bx g4 34 #[.int .i64 0], bx g3 3 #[.int .i64 0]]) (fr := fr) (by have q0 : cb_21 = bx gb_12 29 #[cv, nv] := hcb_21; have q1 : c35 = bx g7 3 #[.int .i64 ((n + lnN (aS Xu nv ns x).2))] := hc35.trans (rfl); have q2 : c4_21 = bx g4 34 #[.int .i64 0] := hc4_21; have q3 : c3_21 = bx g3 3 #[.int .i64 0] := hc3_21; subst q0 q1 q2 q3; exact S35) (⟨(n + lnN (aS Xu nv ns x).2), (ct_snoc hpre hz (al_aS (nv := nv) hxl) (by omega)), (by subst hpre; simp at hn ⊢; omega), rfl⟩))
 ·intro D37 xs w37 hxs S37
  have hxs' : xs = (List.range (Xu.length + 1)) := hxs; subst hxs'; clear hxs
  obtain ⟨_, ⟨n, hz, hn, rfl⟩, S37⟩ := S37.unpack
  replace S37 : St w NoX ((bx gb_12 29 #[cv, nv]) :: (bx g7 3 #[.int .i64 (n)]) :: (bx g4 34 #[.int .i64 0]) :: (bx g3 3 #[.int .i64 0]) :: (ob D37 (.deferred (some []))) :: []) w37 := S37
  obtain ⟨cb_37, c8_37, c4_37, c3_37, cD37, hcb_37, hc8_37, hc4_37, hc3_37, hcD37, S37⟩ := gen5 S37
  refine gen_Q (fun A37 E37 => ?_)
  have Y37 := szq E37
  have hdf37 : A37.defers = [{ target := .collected D37, args := #[] }] := by rw [E37, df_mk, F13.d] <;> rfl
  have l2_37 := lookE E37 2 (mk_l (fg3 F13))
  have l3_37 := lookE E37 3 (mk_l (fg2 F13))
  have l4_37 := lookE E37 4 (mk_l (fg1 F13))
  clear E37
  refine inb_n ?_
  refine tk H10 ?_
  refine R_seq (fun K38 H38 => ?_)
  refine R_region (by kernel_rfl) ?_
  refine W_r rfl rfl (VR_ldC rfl l4_37 (cell_box (v := .int .i64 (n)) (S37.obj 1 rfl hc8_37) rfl) Try.underlying3 rfl) ?_
  refine W_stCS (zs' := #[.int .i64 (n)]) 3 S37 rfl hc3_37 rfl rfl rfl (es rfl l2_37) (et rfl) (by rfl) (by rfl) (by kernel_rfl) (by first | rfl | (simp only [List.setIfInBounds_toArray, List.set_cons_succ, List.set_cons_zero] <;> rfl)) (fun w39 c39 hc39 S39 => ?_)
  replace S39 : St w NoX [cb_37, c8_37, c4_37, c39, cD37] w39 := S39
  refine W_stCS (zs' := #[.int .i64 0]) 2 S39 rfl hc4_37 rfl rfl rfl (es rfl l3_37) rfl (by rfl) (by rfl) (by kernel_rfl) (by first | rfl | (simp only [List.setIfInBounds_toArray, List.set_cons_succ, List.set_cons_zero] <;> rfl)) (fun w40 c40 hc40 S40 => ?_)
  replace S40 : St w NoX [cb_37, c8_37, c40, c39, cD37] w40 := S40
  refine W_end ?_
  refine Qo_normal ?_
  refine gen_Q (fun A41 E41 => ?_)
  have Y41 := szq E41
  have F41 := ((fsE E41 (cq1 (FS.n hdf37) rfl)).c (lookE E41 2 (es rfl l2_37))).c (lookE E41 3 (es rfl l3_37))
  clear E41 Y37 hdf37 l2_37 l3_37 l4_37
  have S42 : St w NoX [c40, c39, cD37] w40 := S40.sel [2, 3, 4] (by decide) rfl
  refine tk H38 ?_
  refine R_ret ?_
  have hD43 := S42.obj 2 rfl hcD37
  have S43 := S42.put (o' := .deferred none) 2 rfl hcD37
  obtain ⟨w43, hw43⟩ : ∃ w', w' = w40.putObj D37 (.deferred none) := ⟨_, rfl⟩
  rw [← hw43] at S43
  replace S43 : St w NoX [c40, c39, (ob D37 (.deferred none))] w43 := S43
  refine ret_inR1' (D := D37) (w1 := w43) hw43 (results_2 Try.results15 (rv_cellC (fg1 F41) (cell_box (S43.obj 1 rfl hc39) rfl) Try.underlying3 rfl) (rv_cellC (fg0 F41) (cell_box (S43.obj 0 rfl hc40) rfl) Try.underlying34 rfl)) F41.d hD43 ?_
  have he := ct_end hz (by simp [csF_len])
  rw [he]
  exact ⟨rfl, S43.fin0⟩
 intro D44 cQ pre w44 hpre S44
 obtain ⟨_, hx, S44⟩ := S44.unpack
 rcases hx with ⟨rfl, e, n, hx, rfl⟩
 replace S44 : St w NoX ((bx gb_12 29 #[cv, nv]) :: (bx g7 3 #[.int .i64 (n)]) :: (bx g4 34 #[.int .i64 (e)]) :: (bx g3 3 #[.int .i64 0]) :: (ob D44 (.deferred (some []))) :: []) w44 := S44
 obtain ⟨cb_44, c8_44, c4_44, c3_44, cD44, hcb_44, hc8_44, hc4_44, hc3_44, hcD44, S44⟩ := gen5 S44
 refine gen_w (fun A44 E44 => ?_)
 have Y44 := szq E44
 have hdf44 : A44.defers = [{ target := .collected D44, args := #[] }] := by rw [E44, df_mk, F13.d] <;> rfl
 have l2_44 := lookE E44 2 (mk_l (fg3 F13))
 have l3_44 := lookE E44 3 (mk_l (fg2 F13))
 clear E44
 refine R_ret ?_
 refine inb_ret ?_
 refine then_ret ?_
 have hD45 := S44.obj 4 rfl hcD44
 have S45 := S44.put (o' := .deferred none) 4 rfl hcD44
 obtain ⟨w45, hw45⟩ : ∃ w', w' = w44.putObj D44 (.deferred none) := ⟨_, rfl⟩
 rw [← hw45] at S45
 replace S45 : St w NoX [cb_44, c8_44, c4_44, c3_44, (ob D44 (.deferred none))] w45 := S45
 refine ret_inR1' (D := D44) (w1 := w45) hw45 (results_2 Try.results15 (rv_cellC l2_44 (cell_box (S45.obj 3 rfl hc3_44) rfl) Try.underlying3 rfl) (rv_cellC l3_44 (cell_box (S45.obj 2 rfl hc4_44) rfl) Try.underlying34 rfl)) hdf44 hD45 ?_
 have he := hx
 rw [he]
 exact ⟨rfl, S45.fin0⟩

end Go.Proofs.Yteppjefmlibmoaa