import Derived.Test.YteppjefmlibmoaaProg
import Derived.Test.YteppjefmlibmoaaRm6
namespace Go.Proofs.Yteppjefmlibmoaa
open Go.RowKit Go.Own Go.Own.R Go.Own.S Go.Own.E


set_option maxHeartbeats 4000000 in
theorem kCt8_c {cv : Value} {X : List (List Int)} {nv : Value} {ns : List Int} {w : World} (h_cv : Ro w NoX (rmR cv X)) (h_nv : Ro w NoX (il .i64 nv ns)) (hxl : X.length ≤ 1000) :
  Calls Try.prog 15 #[.agg #[cv, nv]] w fun e w' => e = .returned (.tuple #[.int .i64 (ctP (X ++ [ns])).1, .int .i64 (ctP (X ++ [ns])).2]) ∧ St w NoX [] w' := by
 obtain ⟨Xu, hXu, k_cv, n_cv⟩ := rmR_open h_cv
 subst hXu
 have b_cv := SlN.le (sl_SlN k_cv.at)
 rw [csF_len] at hxl
 have f_al := nsi_all n_cv h_nv
 refine calls_inR 25 Try.func15 rfl rfl (by simp) (fun A0 hsz0 hdf0 hargs => ?_)
 have l0_0 := hargs 0 (.agg #[cv, nv]) rfl
 clear hargs; replace hsz0 : SzN A0 25 := ⟨hsz0⟩
 have hS := St.nil w
 have bh_nv := SlN.le (sl_SlN h_nv.at)
 have bk_cv := SlN.le (sl_SlN k_cv.at)
 refine R_seq (fun K1 hK1 => ?_)
 refine R_region (by kernel_rfl) ?_
 refine W_boxS (zs := #[cv, nv]) hS rfl rfl rfl l0_0 (by rfl) (fun g2 w2 c2 hc2 hS2 => ?_)
 replace hS2 : St w NoX [c2] w2 := hS2
 refine W_allocS (z := .int .i64 0) (zs := #[.int .i64 0]) hS2 rfl rfl rfl (by kernel_rfl) (by rfl) (fun g3 w3 c3 hc3 hS3 => ?_)
 replace hS3 : St w NoX [c3, c2] w3 := hS3
 refine W_allocS (z := .int .i64 0) (zs := #[.int .i64 0]) hS3 rfl rfl rfl (by kernel_rfl) (by rfl) (fun g4 w4 c4 hc4 hS4 => ?_)
 replace hS4 : St w NoX [c4, c3, c2] w4 := hS4
 refine W_end ?_
 refine Qo_normal ?_
 refine gen_Q (fun A5 hA5 => ?_)
 have hsz5 := szq hA5
 have hdf5 := dfE hA5 hdf0
 have l1_5 := lookE hA5 1 (e2 rfl (et rfl))
 have l2_5 := lookE hA5 2 (es rfl (et rfl))
 have l3_5 := lookE hA5 3 (et rfl)
 clear hA5 hsz0 hdf0 l0_0
 refine then_n (hK1 _ _ ?_)
 clear hK1
 refine R_seq (fun K6 hK6 => ?_)
 refine R_region (by kernel_rfl) ?_
 refine W_allocS (z := .int .i64 0) (zs := #[.int .i64 0]) hS4 rfl rfl rfl (by kernel_rfl) (by rfl) (fun g7 w7 c7 hc7 hS7 => ?_)
 replace hS7 : St w NoX [c7, c4, c3, c2] w7 := hS7
 refine W_stCS (zs' := #[.int .i64 0]) 0 hS7 rfl hc7 rfl rfl rfl (et rfl) rfl (by rfl) (by rfl) (by kernel_rfl) (by first | rfl | (simp only [List.setIfInBounds_toArray, List.set_cons_succ, List.set_cons_zero] <;> rfl)) (fun w8 c8 hc8 hS8 => ?_)
 replace hS8 : St w NoX [c8, c4, c3, c2] w8 := hS8
 refine W_end ?_
 refine Qo_normal ?_
 refine gen_Q (fun A9 hA9 => ?_)
 have hsz9 := szq hA9
 have hdf9 := dfE hA9 hdf5
 have l1_9 := lookE hA9 1 (es rfl l1_5)
 have l2_9 := lookE hA9 2 (es rfl l2_5)
 have l3_9 := lookE hA9 3 (es rfl l3_5)
 have l4_9 := lookE hA9 4 (et rfl)
 clear hA9 hsz5 hdf5 l1_5 l2_5 l3_5
 refine then_n (hK6 _ _ ?_)
 clear hK6
 refine R_seq (fun K10 hK10 => ?_)
 refine R_seq (fun K11 hK11 => ?_)
 refine R_region (by kernel_rfl) ?_
 refine W_r rfl rfl (VR_ldA rfl l1_9 (hS8.obj 3 rfl hc2) Try.underlying29 rfl (by kernel_rfl)) ?_
 refine W_call rfl rfl rfl Try.func41 (by kernel_rfl) rfl (args1 (et rfl)) (kall8_c (hS8.roC k_cv) (hS8.roC n_cv) (hS8.roC h_nv) ) ?_
 rintro _ w12 ⟨gb_12, rfl, hP12⟩
 refine ⟨_, rfl, ?_⟩
 obtain ⟨cb_12, hcb_12, hP12⟩ := gen1 hP12
 have hS12 := hS8.join hP12
 replace hS12 : St w NoX [cb_12, c8, c4, c3, c2] w12 := hS12
 refine W_end ?_
 refine Qo_normal ?_
 refine gen_Q (fun A13 hA13 => ?_)
 have hsz13 := szq hA13
 have hdf13 := dfE hA13 hdf9
 have l2_13 := ek2 hA13 2 rfl l2_9
 have l3_13 := ek2 hA13 3 rfl l3_9
 have l4_13 := ek2 hA13 4 rfl l4_9
 have l10_13 := lookE hA13 10 (et rfl)
 clear hA13 hsz9 hdf9 l1_9 l2_9 l3_9 l4_9
 have hS14 : St w NoX [cb_12, c8, c4, c3] w12 := hS12.sel [0, 1, 2, 3] (by decide) rfl
 refine then_n (hK11 _ _ ?_)
 clear hK11
 refine R_block ?_
 refine R_rangeS (α := Nat) l10_13 (fun args w => calls_enter Try.func71 rfl rfl args w) (kall8_it (gb := gb_12) (cv := cv) (U := Xu) (nv := nv) (ns := ns) (Rd := fun W => (bx gb_12 29 #[cv, nv]).at W ∧ (rl 1 fstC cv Xu).at W ∧ (nsi Xu).at W ∧ (il .i64 nv ns).at W) (fun _ h => h)) (fun _ => rfl) (fun pre => pk (fun l => ∃ (n : Int), (ctP (csF Xu ++ [ns]) = ctGo n ((csF Xu ++ [ns]).drop pre.length)) ∧ (0 ≤ n ∧ n ≤ 1600 * (pre.length : Int)) ∧ l = [bx gb_12 29 #[cv, nv], bx g7 3 #[.int .i64 (n)], bx g4 34 #[.int .i64 0], bx g3 3 #[.int .i64 0]])) (fun cQ pre => pk (fun l => (cQ = .ret ∧ ∃ (e : Int) (n : Int), (ctP (csF Xu ++ [ns]) = (0, e)) ∧ l = [bx gb_12 29 #[cv, nv], bx g7 3 #[.int .i64 (n)], bx g4 34 #[.int .i64 (e)], bx g3 3 #[.int .i64 0]]))) (St.pack (l := [bx gb_12 29 #[cv, nv], bx g7 3 #[.int .i64 (0)], bx g4 34 #[.int .i64 0], bx g3 3 #[.int .i64 0]]) (fr := []) (by have q0 : cb_12 = bx gb_12 29 #[cv, nv] := hcb_12; have q1 : c8 = bx g7 3 #[.int .i64 (0)] := hc8.trans (rfl); have q2 : c4 = bx g4 34 #[.int .i64 0] := hc4; have q3 : c3 = bx g3 3 #[.int .i64 0] := hc3; subst q0 q1 q2 q3; exact hS14) ⟨0, rfl, (by simp), rfl⟩)
  (fun pre W l' hS => by obtain ⟨l, ⟨n, hz, hn, rfl⟩, hl⟩ := pk_at (hS.ch 0 rfl); exact ⟨(hl 0 _ rfl), hS.ro k_cv, hS.ro n_cv, hS.ro h_nv⟩)
  (fun x a' cQ => ∃ g17 : Nat, SzN a' 25 ∧ a'.defers = [] ∧ EV a' (.tmp 2) = EV A13 (.tmp 2) ∧ EV a' (.tmp 3) = EV A13 (.tmp 3) ∧ EV a' (.tmp 4) = EV A13 (.tmp 4) ∧ EV a' (.tmp 6) = .pointer (some ⟨g17, 0, none⟩) ∧ cQ = pk (·= [bx g17 27 #[(aS Xu nv ns x).1]])) ?_ ?_ ?_ ?_
 ·intro la15 pre x wa15 fr K hSa15 hK
  simp only [encA]
  rw [rnd2]
  obtain ⟨A16, hA16⟩ : ∃ A, A = (PT (PT { tmps := A13.tmps, defers := [] } 11 (.int .i64 (aI Xu x))) 12 (.agg #[(aS Xu nv ns x).1])) := ⟨_, rfl⟩
  rw [← hA16]
  have hsz16 := szq hA16
  have hdf16 : A16.defers = [] := by rw [hA16]; rfl
  have l2_16 := lookE hA16 2 (e2 rfl (rnd_l l2_13))
  have l3_16 := lookE hA16 3 (e2 rfl (rnd_l l3_13))
  have l4_16 := lookE hA16 4 (e2 rfl (rnd_l l4_13))
  have l11_16 := lookE hA16 11 (es rfl (et rfl))
  have l12_16 := lookE hA16 12 (et rfl)
  clear hA16
  obtain ⟨cI, hcI, hSa15⟩ := gen1 hSa15
  refine R_region (by kernel_rfl) ?_
  refine W_allocS (z := .agg #[.slice none 0 0]) (zs := #[.slice none 0 0]) hSa15 rfl rfl rfl (by kernel_rfl) (by rfl) (fun g17 w17 c17 hc17 hS17 => ?_)
  replace hS17 : St w NoX (c17 :: cI :: fr) w17 := hS17
  refine W_stAS 0 hS17 rfl hc17 rfl rfl rfl (et rfl) (es rfl l12_16) (by simp only [List.all_toArray, List.all_cons, List.all_nil, SlN_one (sl_SlN (f_al x).at)] <;> rfl) (by rfl) (by kernel_rfl) (fun w18 c18 hc18 hS18 => ?_)
  replace hS18 : St w NoX (c18 :: cI :: fr) w18 := hS18
  refine W_end ?_
  refine Qo_normal ?_
  refine gen_Q (fun A19 hA19 => ?_)
  have hsz19 := szq hA19
  have hdf19 := dfE hA19 hdf16
  have l2_19 := lookE hA19 2 (es rfl l2_16)
  have l3_19 := lookE hA19 3 (es rfl l3_16)
  have l4_19 := lookE hA19 4 (es rfl l4_16)
  have l6_19 := lookE hA19 6 (et rfl)
  clear hA19 hsz16 hdf16 l2_16 l3_16 l4_16 l11_16 l12_16
  refine then_n ?_
  refine hK _ _ _ ⟨g17, hsz19, hdf19, (l2_19.trans l2_13.symm), (l3_19.trans l3_13.symm), (l4_19.trans l4_13.symm), l6_19, rfl⟩ ?_
  subst hc18 hcI; exact hS18.asg1
 ·rintro lb20 pre x A20 w20 cQ fr hAx hlr hS20 hVd
  obtain ⟨g17, hsz20, hdf20, u2_20, u3_20, u4_20, l6_20, rfl⟩ := hAx
  have l2_20 := u2_20.trans l2_13
  have l3_20 := u3_20.trans l3_13
  have l4_20 := u4_20.trans l4_13
  obtain ⟨_, _, ⟨n, hz, hn, rfl⟩, rfl, hS20⟩ := hS20.body2
  replace hS20 : St w NoX ((bx gb_12 29 #[cv, nv]) :: (bx g7 3 #[.int .i64 (n)]) :: (bx g4 34 #[.int .i64 0]) :: (bx g3 3 #[.int .i64 0]) :: (bx g17 27 #[(aS Xu nv ns x).1]) :: fr) w20 := hS20
  obtain ⟨cb_21, c8_21, c4_21, c3_21, c18_21, hcb_21, hc8_21, hc4_21, hc3_21, hc18_21, hS20⟩ := gen5 hS20
  obtain ⟨hxl, hpre⟩ := rng_vd hVd
  have bf_x := SlN.le (sl_SlN (f_al x).at)
  have hln := lnN_bd (aS Xu nv ns x).2
  have hpl : pre.length = x := by rw [hpre]; exact List.length_range
  refine R_block ?_
  refine R_seq (fun K22 hK22 => ?_)
  refine R_region (by kernel_rfl) ?_
  refine W_r rfl rfl (VR_ldA rfl l6_20 (hS20.obj 4 rfl hc18_21) Try.underlying27 rfl (by kernel_rfl)) ?_
  refine W_call rfl rfl rfl Try.func51 (by kernel_rfl) rfl (args1 (et rfl)) (kLen_c (hS20.roC (f_al x)) ) ?_
  rintro _ w23 ⟨rfl, hP23⟩
  refine ⟨_, rfl, ?_⟩
  have hS23 := hS20.join hP23
  replace hS23 : St w NoX (cb_21 :: c8_21 :: c4_21 :: c3_21 :: c18_21 :: fr) w23 := hS23
  refine W_v rfl rfl (V_mov rfl (et rfl)) ?_
  refine W_v rfl rfl (V_ext (v := .int .i64 ((lnN ((aS Xu nv ns x).2)))) rfl (et rfl) rfl) ?_
  refine W_v rfl rfl (V_ext (v := .int .i64 ((ckS ((aS Xu nv ns x).2)).2)) rfl (es rfl (et rfl)) rfl) ?_
  refine W_v rfl rfl (V_asg rfl (es rfl (et rfl))) ?_
  refine W_v rfl rfl (V_asg rfl (es rfl (et rfl))) ?_
  refine W_end ?_
  refine Qo_normal ?_
  refine gen_Q (fun A24 hA24 => ?_)
  have hsz24 := szq hA24
  have hdf24 := dfE hA24 hdf20
  have l2_24 := ek7 hA24 2 rfl l2_20
  have l3_24 := ek7 hA24 3 rfl l3_20
  have l4_24 := ek7 hA24 4 rfl l4_20
  have l7_24 := lookE hA24 7 (es rfl (et rfl))
  have l8_24 := lookE hA24 8 (et rfl)
  clear hA24 hsz20 hdf20 l2_20 l3_20 l4_20 l6_20
  have hS26 := hS23.del 4
  replace hS26 : St w NoX (cb_21 :: c8_21 :: c4_21 :: c3_21 :: fr) w23 := hS26
  refine then_n (hK22 _ _ ?_)
  clear hK22
  refine R_seq (fun K27 hK27 => ?_)
  refine R_seq (fun K28 hK28 => ?_)
  refine R_region (by kernel_rfl) ?_
  refine W_v rfl rfl (V_mov rfl l8_24) ?_
  refine W_v rfl rfl (V_neq rfl (et rfl) rfl) ?_
  refine W_end ?_
  refine Qo_normal ?_
  refine gen_Q (fun A29 hA29 => ?_)
  have hsz29 := szq hA29
  have hdf29 := dfE hA29 hdf24
  have l2_29 := ek2 hA29 2 rfl l2_24
  have l3_29 := ek2 hA29 3 rfl l3_24
  have l4_29 := ek2 hA29 4 rfl l4_24
  have l7_29 := ek2 hA29 7 rfl l7_24
  have l8_29 := ek2 hA29 8 rfl l8_24
  have l19_29 := lookE hA29 19 (et rfl)
  clear hA29 hsz24 hdf24 l2_24 l3_24 l4_24 l7_24 l8_24
  refine then_n (hK28 _ _ ?_)
  clear hK28
  refine R_cond_dec l19_29 (fun c30 => ?_) (fun c30 => ?_)
  ·refine R_seq (fun K31 hK31 => ?_)
   refine R_region (by kernel_rfl) ?_
   refine W_v rfl rfl (V_mov rfl l8_29) ?_
   refine W_stCS (zs' := #[.int .i64 0]) 3 hS26 rfl hc3_21 rfl rfl rfl (es rfl l2_29) rfl (by rfl) (by rfl) (by kernel_rfl) (by first | rfl | (simp only [List.setIfInBounds_toArray, List.set_cons_succ, List.set_cons_zero] <;> rfl)) (fun w32 c32 hc32 hS32 => ?_)
   replace hS32 : St w NoX (cb_21 :: c8_21 :: c4_21 :: c32 :: fr) w32 := hS32
   refine W_stCS (zs' := #[.int .i64 ((ckS ((aS Xu nv ns x).2)).2)]) 2 hS32 rfl hc4_21 rfl rfl rfl (es rfl l3_29) (et rfl) (by rfl) (by rfl) (by kernel_rfl) (by first | rfl | (simp only [List.setIfInBounds_toArray, List.set_cons_succ, List.set_cons_zero] <;> rfl)) (fun w33 c33 hc33 hS33 => ?_)
   replace hS33 : St w NoX (cb_21 :: c8_21 :: c33 :: c32 :: fr) w33 := hS33
   refine W_end ?_
   refine Qo_normal ?_
   refine gen_Q (fun A34 hA34 => ?_)
   have hsz34 := szq hA34
   have hdf34 := dfE hA34 hdf29
   have l2_34 := lookE hA34 2 (es rfl l2_29)
   have l3_34 := lookE hA34 3 (es rfl l3_29)
   clear hA34 hsz29 hdf29 l2_29 l3_29 l4_29 l7_29 l8_29 l19_29
   refine then_n (hK31 _ _ ?_)
   clear hK31
   refine R_ret ?_
   refine then_ret ?_
   refine inb_ret ?_
   exact (St.pack (l := [bx gb_12 29 #[cv, nv], bx g7 3 #[.int .i64 (_)], bx g4 34 #[.int .i64 (((ckS ((aS Xu nv ns x).2)).2))], bx g3 3 #[.int .i64 0]]) (fr := fr) (by have q0 : cb_21 = bx gb_12 29 #[cv, nv] := hcb_21; have q1 : c8_21 = bx g7 3 #[.int .i64 (_)] := hc8_21; have q2 : c33 = bx g4 34 #[.int .i64 (((ckS ((aS Xu nv ns x).2)).2))] := hc33; have q3 : c32 = bx g3 3 #[.int .i64 0] := hc32; subst q0 q1 q2 q3; exact hS33) (⟨rfl, (ckS ((aS Xu nv ns x).2)).2, _, (ct_hit (ct_at hpre hz) (al_aS (nv := nv) hxl) (by omega)), rfl⟩))
  ·refine R_skip ?_
   refine then_n (hK27 _ _ ?_)
   clear hK27
   refine R_region (by kernel_rfl) ?_
   refine W_r rfl rfl (VR_ldC rfl l4_29 (cell_box (v := .int .i64 (n)) (hS26.obj 1 rfl hc8_21) rfl) Try.underlying3 rfl) ?_
   refine W_v rfl rfl (V_mov rfl (es rfl l7_29)) ?_
   refine W_v rfl rfl (V_add rfl (es rfl (et rfl)) (et rfl) (by omega) (by omega)) ?_
   refine W_stCS (zs' := #[.int .i64 ((n + (lnN ((aS Xu nv ns x).2))))]) 1 hS26 rfl hc8_21 rfl rfl rfl (e3 rfl l4_29) (et rfl) (by rfl) (by rfl) (by kernel_rfl) (by first | rfl | (simp only [List.setIfInBounds_toArray, List.set_cons_succ, List.set_cons_zero] <;> rfl)) (fun w35 c35 hc35 hS35 => ?_)
   replace hS35 : St w NoX (cb_21 :: c35 :: c4_21 :: c3_21 :: fr) w35 := hS35
   refine W_end ?_
   refine Qo_normal ?_
   refine gen_Q (fun A36 hA36 => ?_)
   have hsz36 := szq hA36
   have hdf36 := dfE hA36 hdf29
   clear hA36 hsz29 hdf29 l2_29 l3_29 l4_29 l7_29 l8_29 l19_29
   refine inb_n ?_
   exact (St.pack (l := [bx gb_12 29 #[cv, nv], bx g7 3 #[.int .i64 ((n + lnN (aS Xu nv ns x).2))], bx g4 34 #[.int .i64 0], bx g3 3 #[.int .i64 0]]) (fr := fr) (by have q0 : cb_21 = bx gb_12 29 #[cv, nv] := hcb_21; have q1 : c35 = bx g7 3 #[.int .i64 ((n + lnN (aS Xu nv ns x).2))] := hc35.trans (rfl); have q2 : c4_21 = bx g4 34 #[.int .i64 0] := hc4_21; have q3 : c3_21 = bx g3 3 #[.int .i64 0] := hc3_21; subst q0 q1 q2 q3; exact hS35) (⟨(n + lnN (aS Xu nv ns x).2), (ct_snoc hpre hz (al_aS (nv := nv) hxl) (by omega)), (by subst hpre; simp at hn ⊢; omega), rfl⟩))
 ·intro D37 xs w37 hxs hS37
  have hxs' : xs = (List.range (Xu.length + 1)) := hxs; subst hxs'; clear hxs
  obtain ⟨_, ⟨n, hz, hn, rfl⟩, hS37⟩ := hS37.unpack
  replace hS37 : St w NoX ((bx gb_12 29 #[cv, nv]) :: (bx g7 3 #[.int .i64 (n)]) :: (bx g4 34 #[.int .i64 0]) :: (bx g3 3 #[.int .i64 0]) :: (ob D37 (.deferred (some []))) :: []) w37 := hS37
  obtain ⟨cb_37, c8_37, c4_37, c3_37, cD37, hcb_37, hc8_37, hc4_37, hc3_37, hcD37, hS37⟩ := gen5 hS37
  refine gen_Q (fun A37 hA37 => ?_)
  have hsz37 := szq hA37
  have hdf37 : A37.defers = [{ target := .collected D37, args := #[] }] := by rw [hA37, df_mk, hdf13] <;> rfl
  have l2_37 := lookE hA37 2 (mk_l l2_13)
  have l3_37 := lookE hA37 3 (mk_l l3_13)
  have l4_37 := lookE hA37 4 (mk_l l4_13)
  clear hA37
  refine inb_n ?_
  refine then_n (hK10 _ _ ?_)
  clear hK10
  refine R_seq (fun K38 hK38 => ?_)
  refine R_region (by kernel_rfl) ?_
  refine W_r rfl rfl (VR_ldC rfl l4_37 (cell_box (v := .int .i64 (n)) (hS37.obj 1 rfl hc8_37) rfl) Try.underlying3 rfl) ?_
  refine W_stCS (zs' := #[.int .i64 (n)]) 3 hS37 rfl hc3_37 rfl rfl rfl (es rfl l2_37) (et rfl) (by rfl) (by rfl) (by kernel_rfl) (by first | rfl | (simp only [List.setIfInBounds_toArray, List.set_cons_succ, List.set_cons_zero] <;> rfl)) (fun w39 c39 hc39 hS39 => ?_)
  replace hS39 : St w NoX [cb_37, c8_37, c4_37, c39, cD37] w39 := hS39
  refine W_stCS (zs' := #[.int .i64 0]) 2 hS39 rfl hc4_37 rfl rfl rfl (es rfl l3_37) rfl (by rfl) (by rfl) (by kernel_rfl) (by first | rfl | (simp only [List.setIfInBounds_toArray, List.set_cons_succ, List.set_cons_zero] <;> rfl)) (fun w40 c40 hc40 hS40 => ?_)
  replace hS40 : St w NoX [cb_37, c8_37, c40, c39, cD37] w40 := hS40
  refine W_end ?_
  refine Qo_normal ?_
  refine gen_Q (fun A41 hA41 => ?_)
  have hsz41 := szq hA41
  have hdf41 : A41.defers = [{ target := .collected D37, args := #[] }] := by rw [hA41]; simp only [df_put]; exact hdf37
  have l2_41 := lookE hA41 2 (es rfl l2_37)
  have l3_41 := lookE hA41 3 (es rfl l3_37)
  clear hA41 hsz37 hdf37 l2_37 l3_37 l4_37
  have hS42 : St w NoX [c40, c39, cD37] w40 := hS40.sel [2, 3, 4] (by decide) rfl
  refine then_n (hK38 _ _ ?_)
  clear hK38
  refine R_ret ?_
  have hD43 := hS42.obj 2 rfl hcD37
  have hS43 := hS42.put (o' := .deferred none) 2 rfl hcD37
  obtain ⟨w43, hw43⟩ : ∃ w', w' = w40.putObj D37 (.deferred none) := ⟨_, rfl⟩
  rw [← hw43] at hS43
  replace hS43 : St w NoX [c40, c39, (ob D37 (.deferred none))] w43 := hS43
  refine ret_inR1' (D := D37) (w1 := w43) hw43 (results_2 Try.results15 (rv_cellC l2_41 (cell_box (hS43.obj 1 rfl hc39) rfl) Try.underlying3 rfl) (rv_cellC l3_41 (cell_box (hS43.obj 0 rfl hc40) rfl) Try.underlying34 rfl)) hdf41 hD43 ?_
  have he := ct_end hz (by simp [csF_len])
  rw [he]
  exact ⟨rfl, hS43.fin0⟩
 ·intro D44 cQ pre w44 hpre hS44
  obtain ⟨_, hx, hS44⟩ := hS44.unpack
  rcases hx with ⟨rfl, e, n, hx, rfl⟩
  ·replace hS44 : St w NoX ((bx gb_12 29 #[cv, nv]) :: (bx g7 3 #[.int .i64 (n)]) :: (bx g4 34 #[.int .i64 (e)]) :: (bx g3 3 #[.int .i64 0]) :: (ob D44 (.deferred (some []))) :: []) w44 := hS44
   obtain ⟨cb_44, c8_44, c4_44, c3_44, cD44, hcb_44, hc8_44, hc4_44, hc3_44, hcD44, hS44⟩ := gen5 hS44
   refine gen_w (fun A44 hA44 => ?_)
   have hsz44 := szq hA44
   have hdf44 : A44.defers = [{ target := .collected D44, args := #[] }] := by rw [hA44, df_mk, hdf13] <;> rfl
   have l2_44 := lookE hA44 2 (mk_l l2_13)
   have l3_44 := lookE hA44 3 (mk_l l3_13)
   clear hA44
   refine R_ret ?_
   refine inb_ret ?_
   refine then_ret ?_
   have hD45 := hS44.obj 4 rfl hcD44
   have hS45 := hS44.put (o' := .deferred none) 4 rfl hcD44
   obtain ⟨w45, hw45⟩ : ∃ w', w' = w44.putObj D44 (.deferred none) := ⟨_, rfl⟩
   rw [← hw45] at hS45
   replace hS45 : St w NoX [cb_44, c8_44, c4_44, c3_44, (ob D44 (.deferred none))] w45 := hS45
   refine ret_inR1' (D := D44) (w1 := w45) hw45 (results_2 Try.results15 (rv_cellC l2_44 (cell_box (hS45.obj 3 rfl hc3_44) rfl) Try.underlying3 rfl) (rv_cellC l3_44 (cell_box (hS45.obj 2 rfl hc4_44) rfl) Try.underlying34 rfl)) hdf44 hD45 ?_
   have he := hx
   rw [he]
   exact ⟨rfl, hS45.fin0⟩

end Go.Proofs.Yteppjefmlibmoaa