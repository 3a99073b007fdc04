import Derived.Test.YtpgkfndbfocibaaGreatProg
import Derived.Test.YtpgkfndbfocibaaGreatSqL
import Derived.Test.YtpgkfndbfocibaaGreatGh4
import Derived.Test.YtpgkfndbfocibaaGreatPl15f
import Derived.Test.YtpgkfndbfocibaaGreatSepB
import Derived.Test.YtpgkfndbfocibaaGreatPl15g
import Derived.Test.YtpgkfndbfocibaaGreatPl15h
import Derived.Test.YtpgkfndbfocibaaGreatPl15i
namespace Go.Proofs.YtpgkfndbfocibaaGreat
open Go.RowKit Go.Own Go.Own.R Go.Own.G Go.Own.Gr


set_option maxHeartbeats 4000000 in
theorem krc_it {gov : Nat} {ov : Value} {O : List Ob} {rv : Value} {rs : List Int} {Rd : World → Prop} (hRd : ∀ W, Rd W → (bx gov 30 #[ov, rv]).at W ∧ (rl 2 obC ov O).at W ∧ (nst O).at W ∧ (il .i64 rv rs).at W) (hG : GG (O.map ab) rs) (hsm : SM (O.map ab)) :
  Iter (α := Int) Tryz.prog 95 #[.pointer (some ⟨gov, 0, none⟩)] (fun x : Int => #[.int .i64 x]) (·= (rcL (O.map ab) rs)) (·<+: (rcL (O.map ab) rs)) (·<+: (rcL (O.map ab) rs)) Rd := by
 have hwl := wt_le (M := ([] : List Int)) hsm hG.o4
 have hr8 := hG.r8
 intro l wb X cs ij J Jx w hij hR hY hS
 obtain ⟨hS, hback⟩ := hS.front hij
 clear hij
 generalize cs.eraseIdx ij = rest at hS hback
 obtain ⟨cj, hcj⟩ : ∃ c, c = J [] := ⟨_, rfl⟩
 rw [← hcj] at hS
 refine calls_inR 43 Tryz.func95 V V Zo (fun A0 Y0 hdf0 hargs => ?_)
 have l0_0 := hargs 0 (.func (.yield l) #[] #[]) V
 have l1_0 := hargs 1 (.pointer (some ⟨gov, 0, none⟩)) V
 clear hargs; replace Y0 : SzN A0 43 := ⟨Y0⟩
 have bh_ov := SlN.le (sl_SlN (hRd _ (hR _ _ _ 0 hS (congrArg some hcj))).2.1)
 have bh_rv := SlN.le (sl_SlN (hRd _ (hR _ _ _ 0 hS (congrArg some hcj))).2.2.2)
 refine R_seq (fun _ H1 => R_region kr (W_mkMapS .i64 hS V V V (fun g2 w2 c2 hc2 S2 => ?_)))
 replace hc2 : c2 = ms (.map (some g2)) [] := hc2
 replace S2 : St wb X (c2 :: cj :: rest) w2 := S2
 refine W_mapInsB 0 S2 V hc2 V V V V t0 V V Tryz.underlying139 Tryz.underlying3 Zo (fun w3 c3 hc3 S3 => ?_)
 replace hc3 : c3 = ms (.map (some g2)) ([] ++ [0]) := hc3
 replace S3 : St wb X (c3 :: cj :: rest) w3 := S3
 refine vm t0 (vt (W_end (Qo_normal (en ((((ck (cq2 (FS.n hdf0) V) V V)).c (es3 V l0_0)).c (Sc l1_0)) fun A4 Y4 F4 => tk H1 (R_seq (fun _ H5 => R_region kr (fa 1 (fg0 F4) (rc t0 (cell_box (v := rv) (ob_at (hRd _ (hR _ _ _ 1 S3 (congrArg some hcj))).1) V) (wc (args1 t0) (kcl_c (SlN.ro (sl_SlN (hRd _ (hR _ _ _ 1 S3 (congrArg some hcj))).2.2.2)) Zm) (fun _ w6 ⟨v_6, e, hP6⟩ => ⟨_, e, ?_⟩))))))))))
 obtain ⟨c_6, hc_6, hP6⟩ := gen1 hP6
 have S6 := S3.join hP6
 replace S6 : St wb X (c_6 :: c3 :: cj :: rest) w6 := S6
 refine vt (W_end (Qo_normal (eN (Ka (Qc F4)) fun A7 E7 Y7 F7 => ?_)))
 have l0_7 := lookE E7 0 (Sd (fg1 F4))
 have l1_7 := lookE E7 1 (Sd (fg0 F4))
 have l3_7 := lookE E7 3 (Sd (fg2 F4))
 clear E7 Y4 F4
 refine tk H5 (R_block ?_)
 -- loop 2
 refine R_loop (fun mz A' w' => SzN A' 43 ∧ A'.defers = [] ∧ (∃ (T : List Int) (M : List Int) (tv : Value), (mz = T.length + wt (O.map ab) M) ∧ (RcAt (O.map ab) rs T M) ∧ (EV A' (.tmp 4) = tv) ∧ (EV A' (.tmp 0) = EV A7 (.tmp 0)) ∧ (EV A' (.tmp 1) = EV A7 (.tmp 1)) ∧ (EV A' (.tmp 3) = EV A7 (.tmp 3)) ∧ (St wb X ((io .i64 tv T) :: (ms (.map (some g2)) ([0] ++ M)) :: (J M) :: rest) w'))) (rs.length + wt (O.map ab) []) ⟨Y7, F7.d, rs, [], v_6, rfl, (RcAt.init (O.map ab) rs), ((fg0 F7).trans Za), rfl, rfl, rfl, (by subst hc_6 hc3 hcj; exact S6)⟩ ?_
 clear S6 hc_6 hc3 hcj
 rintro n8 A8 w8 ⟨Y8, hdf8, T, M, tv, hm8, hrc, l4_8, u0_8, u1_8, u3_8, S8⟩
 have l0_8 := u0_8.trans l0_7
 have l1_8 := u1_8.trans l1_7
 have l3_8 := u3_8.trans l3_7
 obtain ⟨c_8, c3_8, cj_8, hc_8, hc3_8, hcj_8, S8⟩ := gen3 S8
 refine R_seq (fun _ H9 => R_seq (fun _ H10 => R_region kr (vm l4_8 (le_ t0 (ow_at (S8.cq 0 hc_8)) (vg t0 V (W_end (Qo_normal (en ((((((ck (cq2 (FS.n hdf8) V) V V)).c (es3 V l0_8)).c (es3 V l1_8)).c (es3 V l3_8)).c (Sc l4_8)) fun A11 _ F11 => tk H10 (R_cond_dec (fg4 F11) (fun c12 => ?_) (fun c12 => ?_))))))))))
 ·have hbd := hrc.bd
  refine R_skip (tk H9 (R_block (R_seq (fun _ H13 => R_region kr (vm (fg0 F11) (vm (Sa (fg0 F11)) (le_ t0 (ow_at (S8.cq 0 hc_8)) (su t0 V ?_))))))))
  have k14 : (T.length - 1) < T.length := om
  obtain ⟨y14, hy14⟩ := get_some (xs := T) (k := (T.length - 1)) k14
  obtain ⟨B14, O14, C14, hv14⟩ := (SlN.blk (ow_at (S8.chq 0 rfl hc_8)) om)
  refine wv (V_ixS (off := O14 + (T.length - 1)) 1 (T.length - 1) V (Sc t0) t0 hv14 Zb k14 Tryz.underlying25 kr (congrArg _ (Nat.mul_one _))) (rc t0 ((ow_at (S8.cq 0 hc_8)).cell hv14 (map_get hy14)) (vt (W_end (Qo_normal (en (Ka (Qf F11)) fun A15 _ F15 => tk H13 (R_seq (fun _ H16 => R_region kr (vm (fg1 F15) (vm (Sa (fg1 F15)) (le_ t0 (ow_at (S8.cq 0 hc_8)) (su t0 V ?_)))))))))))
  have k17 : 0 ≤ (T.length - 1) := by omega
  have m17 : (T.length - 1) ≤ T.length := by omega
  obtain ⟨c17, hc17, S17⟩ := S8.sub 0 rfl hc_8 (0) (T.length - 1) k17 m17
  replace hc17 : c17 = io .i64 (subS 1 tv 0 (T.length - 1)) (T.take (T.length - 1)) := hc17.trans (part_eq k17 m17 Zt)
  replace S17 : St wb X (c17 :: c3_8 :: cj_8 :: rest) w8 := S17
  refine wv (V_subS 1 0 (T.length - 1) V (Sc t0) (.inl ⟨rfl, rfl⟩) (.inr ⟨_, _, rfl, (et V), by omega⟩) Tryz.underlying25 kr (ow_at (S8.cq 0 hc_8)) k17 m17) (vt (W_end (Qo_normal (en (Ka (Qe (fx1 F15))) fun A18 _ F18 => tk H16 (R_seq (fun _ H19 => R_seq (fun _ H20 => R_region kr (vm (fg2 F18) (vm (Sa (fg1 F18)) (wr (VR_lookB V (Sa t0) t0 (S17.cq 1 hc3_8) Tryz.underlying139 Tryz.underlying3 kr) (W_end (Qo_normal (en (Ka (Qb F18)) fun A21 Y21 F21 => tk H20 (R_cond_dec (fg0 F21) (fun c22 => ?_) (fun c22 => ?_)))))))))))))))
  ·have hin : y14 = 0 ∨ y14 ∈ M := by simpa using c22
   refine R_exit (then_exit (inb_hit (then_n ⟨(T.take (T.length - 1)).length + wt (O.map ab) M, by first | (simp only [hm8, List.length_append, List.length_take]; omega) | (simp only [hm8, List.length_take]; omega), Y21, F21.d, (T.take (T.length - 1)), M, (subS 1 tv 0 (T.length - 1)), rfl, (hrc.skip hy14 hin), ((fg1 F21).trans Za), ((fg5 F21).trans l0_7.symm), ((fg4 F21).trans l1_7.symm), ((fg3 F21).trans l3_7.symm), (by subst hc17 hc3_8 hcj_8; exact S17)⟩)))
  have hn0 : ¬ (y14 = 0 ∨ y14 ∈ M) := by simpa using c22
  have hrg := hrc.rng hG hy14 hn0
  have hwt := wt_mark hrg (fun q => hn0 (.inr q))
  rw [List.length_map] at hrg
  refine R_skip (tk H19 (R_seq (fun _ H23 => R_region kr (vm (fg3 F21) (vm (Sa (fg2 F21)) (W_mapNewB 1 S17 V hc3_8 V V V V (Sa t0) t0 V Tryz.underlying139 Tryz.underlying3 (by simpa using hn0) (fun w24 c24 hc24 S24 => ?_)))))))
  replace hc24 : c24 = ms (.map (some g2)) (([0] ++ M) ++ [y14]) := hc24
  replace S24 : St wb X (c17 :: c24 :: cj_8 :: rest) w24 := S24
  refine W_end (Qo_normal (en (Qb F21) fun A25 _ F25 => tk H23 (R_seq (fun _ H26 => R_seq (fun _ H27 => R_regionI (I_v V V Zi (V_mov V (fg5 F25)) (I_v V V Zi (V_mov V (Sa (fg2 F25))) (I_yield V V Zi (hY M y14 _ _ 2 S24 (congrArg some hcj_8) (hrc.pre hG hy14 hn0)) (fun res hr => run_yield1 V (Sa t0) t0 hr) ?_))))))))
  rintro _ w28 (⟨rfl, S28⟩ | ⟨rfl, S28⟩)
  ·refine ⟨_, rfl, ?_⟩
   obtain ⟨cj28, hcj28⟩ : ∃ c_, c_ = J (M ++ [y14]) := ⟨_, rfl⟩
   rw [← hcj28] at S28
   replace S28 : St wb X (c17 :: c24 :: cj28 :: rest) w28 := S28
   refine I_up kr (wv (V_notT V t0) (W_end (Qo_normal (en (Ka (Qc F25)) fun A29 Y29 F29 => tk H27 (R_cond_f (fg0 F29) (R_skip (tk H26 (R_region kr (vm (fg2 F29) (fa 0 (Sa (fg5 F29)) (rc t0 (cell_box (v := ov) (ob_at (hRd _ (hR _ _ _ 2 S28 (congrArg some hcj28))).1) V) (vm (Sc (fg3 F29)) (su t0 V ?_)))))))))))))
   have k30 : (y14 - 1).toNat < O.length := om
   obtain ⟨y30, hy30⟩ := get_some (xs := O) (k := (y14 - 1).toNat) k30
   have hpt := pt_at hy30
   rw [hpt] at hwt
   obtain ⟨B30, O30, C30, hv30⟩ := (SlN.blk (sl_SlN (hRd _ (hR _ _ _ 2 S28 (congrArg some hcj28))).2.1) om)
   refine wv (V_ixS (off := O30 + ((y14 - 1).toNat) * 2) 2 ((y14 - 1).toNat) V (Sb t0) t0 hv30 Zb k30 Tryz.underlying28 kr V) (wv (V_fa (off' := O30 + ((y14 - 1).toNat) * 2 + 0) V t0 Tryz.underlying70 V Zj V) ?_)
   have bfn31 := SlN.le (sl_SlN (nst_at1 ((hRd _ (hR _ _ _ 2 S28 (congrArg some hcj28))).2.2.1) hy30))
   have bfn32 := SlN.le (sl_SlN (nst_at2 ((hRd _ (hR _ _ _ 2 S28 (congrArg some hcj28))).2.2.1) hy30))
   refine rd y30.1.1 t0 (SlN.row obC_len (sl_SlN (hRd _ (hR _ _ _ 2 S28 (congrArg some hcj28))).2.1) hv30 hy30 V 0 _ V) (W_appS 1 0 S28 V hc17 V V V (Sg t0) t0 Tryz.underlying25 Tryz.underlying25 (z := .int .i64 0) (bytes := 8) kr V Zg (sl_SlN (nst_at1 ((hRd _ (hR _ _ _ 2 S28 (congrArg some hcj28))).2.2.1) hy30)) ones_i Zd Zd (fun v33 w33 c33 hc33 S33 => ?_))
   replace hc33 : c33 = io .i64 v33 ((T.take (T.length - 1)) ++ y30.1.2) := hc33.trans (app_eq Zc)
   replace S33 : St wb X (c33 :: c24 :: cj28 :: rest) w33 := S33
   refine vt (W_end (Qo_normal (eN (Qb (Qh (fx2 F29))) fun A34 E34 Y34 F34 => ?_)))
   have l0_34 := lookE E34 0 (Sh (Sb (fg6 F29)))
   have l1_34 := lookE E34 1 (Sh (Sb (fg5 F29)))
   have l3_34 := lookE E34 3 (Sh (Sb (fg4 F29)))
   have l4_34 := lookE E34 4 t0
   clear E34 Y29 F29
   refine inb_n (then_n ⟨(T.take (T.length - 1) ++ y30.1.2).length + wt (O.map ab) (M ++ [y14]), by first | (simp only [hm8, List.length_append, List.length_take]; omega) | (simp only [hm8, List.length_take]; omega), Y34, F34.d, (T.take (T.length - 1) ++ y30.1.2), (M ++ [y14]), v33, rfl, (by have q := hrc.mark hG hy14 hn0; rw [hpt] at q; exact q), ((l4_34).trans Za), ((l0_34).trans l0_7.symm), ((l1_34).trans l1_7.symm), ((l3_34).trans l3_7.symm), (by have q0 := hc33; have q1 : c24 = ms (.map (some g2)) ([0] ++ (M ++ [y14])) := hc24.trans (by rw [List.append_assoc]); have q2 := hcj28; subst q0 q1 q2; exact S33)⟩)
  refine ⟨_, rfl, ?_⟩
  obtain ⟨cj28, hcj28⟩ : ∃ c_, c_ = Jx (M ++ [y14]) := ⟨_, rfl⟩
  rw [← hcj28] at S28
  replace S28 : St wb X (c17 :: c24 :: cj28 :: rest) w28 := S28
  refine I_up kr (wv (V_notF V t0) (W_end (Qo_normal (en (Ka (Qc F25)) fun A35 _ F35 => tk H27 (R_cond_t (fg0 F35) (R_ret (then_ret (inb_ret (then_ret (inb_ret (ret_inR0 (results_0 Tryz.results95) F35.d ?_)))))))))))
  have S37 := S28.del 0
  replace S37 : St wb X (c24 :: cj28 :: rest) w28 := S37
  have S38 := S37.del 0
  replace S38 : St wb X (cj28 :: rest) w28 := S38
  exact ⟨⟨_, rfl⟩, .inr ⟨_, (hrc.pre hG hy14 hn0), hback _ _ (hcj28 ▸ S38)⟩⟩
 refine R_exit (then_exit (then_exit (inb_hit (ret_inR0 (results_0 Tryz.results95) F11.d ?_))))
 have S40 := S8.del 0
 replace S40 : St wb X (c3_8 :: cj_8 :: rest) w8 := S40
 have S41 := S40.del 0
 replace S41 : St wb X (cj_8 :: rest) w8 := S41
 exact ⟨⟨_, rfl⟩, .inl ⟨_, (hrc.done Zb).1, hback _ _ (hcj_8 ▸ S41)⟩⟩

set_option maxHeartbeats 4000000 in
theorem krc_c {ov : Value} {O : List Ob} {rv : Value} {rs : List Int} {w : World} (h_ov : Ro w NoX (rl 2 obC ov O)) (n_ov : Ro w NoX (nst O)) (h_rv : Ro w NoX (il .i64 rv rs))  :
  Calls Tryz.prog 55 #[.agg #[ov, rv]] w fun e w' => ∃ gb, e = .returned (.func (.func 95) #[] #[.pointer (some ⟨gb, 0, none⟩)]) ∧ St w NoX [bx gb 30 #[ov, rv]] w' := by
 refine ci1 4 Tryz.func55 V (fun A0 _ F0 => ?_)
 have hS := St.nil w
 have bh_ov := SlN.le (sl_SlN h_ov.at)
 have bh_rv := SlN.le (sl_SlN h_rv.at)
 refine tb fun _ H1 => (wB (#[ov, rv]) hS (fg0 F0) (fun g2 w2 c2 hc2 S2 => vc (W_end (en (Qa (Ka F0)) fun A3 _ F3 => ta H1 fun _ H4 => (wv (V_mkf V args0 (args1 (fg0 F3))) (vt (W_end (en (Ka (Qa F3)) fun A5 _ F5 => tk H4 (wp_ret (rt1 F5 (rv_tmp (fg0 F5)) ?_))))))))))
 exact ⟨_, rfl, (S2.f1 0 hc2)⟩

end Go.Proofs.YtpgkfndbfocibaaGreat
namespace Go.Proofs.YtpgkfndbfocibaaGreat
open Go.RowKit Go.Own Go.Own.R Go.Own.G Go.Own.Gr


set_option maxHeartbeats 4000000 in
theorem kWd_c {ov : Value} {O : List Ob} {rv : Value} {rs : List Int} {w : World} (h_ov : Ro w NoX (rl 2 obC ov O)) (n_ov : Ro w NoX (nst O)) (h_rv : Ro w NoX (il .i64 rv rs)) (hsm : SM (O.map ab)) :
  Calls Tryz.prog 31 #[.agg #[ov, rv]] w fun e w' => e = .returned (.tuple #[.int .i64 (wdN (O.map ab) rs), .int .i64 (ckG (O.map ab) rs).2]) ∧ St w NoX [] w' := by
 refine calls_inR 33 Tryz.func31 V V Zo (fun A0 Y0 hdf0 hargs => ?_)
 have l0_0 := hargs 0 (.agg #[ov, rv]) V
 clear hargs; replace Y0 : SzN A0 33 := ⟨Y0⟩
 have hS := St.nil w
 have bh_ov := SlN.le (sl_SlN h_ov.at)
 have bh_rv := SlN.le (sl_SlN h_rv.at)
 refine R_seq (fun _ H1 => R_region kr (wB (#[ov, rv]) hS l0_0 (fun g2 w2 c2 hc2 S2 => vc (vc (W_end (Qo_normal (en (Qb (Ka (FS.n hdf0))) fun A3 _ F3 => tk H1 (R_seq (fun _ H4 => R_seq (fun _ H5 => R_region kr (ra (fg0 F3) (S2.ob 0 hc2) (wc (args2 t0 V) (kcd_c (ns := []) (nv := .slice none 0 0) (S2.roC h_ov) (S2.roC n_ov) (S2.roC h_rv) ro_nil) (C0 S2 fun w6 S6 => vt (W_end (Qo_normal (en (Ka (Qb F3)) fun A7 _ F7 => tk H5 (R_seq (fun _ H8 => R_region kr (vm (fg0 F7) (vn t0 V (W_end (Qo_normal (en (Ka (Qa F7)) fun A9 _ F9 => tk H8 (R_cond_dec (fg0 F9) (fun c10 => ?_) (fun c10 => ?_)))))))))))))))))))))))))
 ·refine R_seq (fun _ H11 => R_region kr (vm (fg1 F9) (vc (va (Sa t0) (W_end (Qo_normal (en (Kb (Qa F9)) fun A12 _ F12 => tk H11 (R_ret (then_ret (ret_inR0 (results_2 Tryz.results31 (rv_tmp (fg1 F12)) (rv_tmp (fg0 F12))) F12.d ?_))))))))))
  have hne : ¬ (ckG (O.map ab) rs).2 = 0 := by rw [← ckd_nil]; have hc := c10; simpa using hc
  rw [wdN_e hne]
  exact ⟨by first | rfl | (rw [ckd_nil]; done) | (rw [ckd_nil]; rfl), S6.fin0⟩
 have hck : (ckG (O.map ab) rs).2 = 0 := by rw [← ckd_nil]; simpa using c10
 have hG := ckG_iff.1 hck
 refine R_skip (tk H4 (R_seq (fun _ H14 => R_region kr (wZ (.int .i64 0) S6 (fun g15 w15 c15 hc15 S15 => xsC0 (zs' := #[.int .i64 0]) S15 hc15 V V V t0 V Zi (fun w16 c16 hc16 S16 => W_end (Qo_normal (en (Ka F9) fun A17 _ F17 => tk H14 (R_seq (fun _ H18 => R_seq (fun _ H19 => R_region kr (ra (fg3 F17) (S16.ob 1 hc2) (wc (args1 t0) (krc_c (S16.roC h_ov) (S16.roC n_ov) (S16.roC h_rv)) (fun _ w20 ⟨gb_20, e, hP20⟩ => ⟨_, e, ?_⟩))))))))))))))
 obtain ⟨cb_20, hcb_20, hP20⟩ := gen1 hP20
 have S20 := S16.j1 hP20
 refine W_end (Qo_normal (en (Ka (Qa F17)) fun A21 _ F21 => tk H19 (R_block ?_)))
 refine R_rangeS (α := Int) (fg0 F21) (fun args w => calls_enter Tryz.func95 V V args w) (krc_it (gov := gb_20) (ov := ov) (O := O) (rv := rv) (rs := rs) (Rd := fun W => (bx gb_20 30 #[ov, rv]).at W ∧ (rl 2 obC ov O).at W ∧ (nst O).at W ∧ (il .i64 rv rs).at W) (fun _ h => h) hG hsm) (fun _ => rfl) (fun pre => pk (fun l => (WB (O.map ab) pre) ∧ l = [bx gb_20 30 #[ov, rv], bx g15 3 #[.int .i64 (((pre.map (wd1 (O.map ab))).sum))], bx g2 30 #[ov, rv]])) (fun cQ pre => pk (fun l => False)) (St.pack (l := [bx gb_20 30 #[ov, rv], bx g15 3 #[.int .i64 ((([].map (wd1 (O.map ab))).sum))], bx g2 30 #[ov, rv]]) (fr := []) (by have q0 : cb_20 = bx gb_20 30 #[ov, rv] := hcb_20; have q1 : c16 = bx g15 3 #[.int .i64 ((([].map (wd1 (O.map ab))).sum))] := hc16.trans (rfl); have q2 : c2 = bx g2 30 #[ov, rv] := hc2; subst q0 q1 q2; exact S20) ⟨(by unfold WB; simp), rfl⟩)
  (fun pre W l' hS => by obtain ⟨l, ⟨hwb, rfl⟩, hl⟩ := pk_at (hS.ch 0 V); exact ⟨(hl 0 _ V), hS.ro h_ov, hS.ro n_ov, hS.ro h_rv⟩)
  (fun x a' cQ => SzN a' 33 ∧ a'.defers = [] ∧ EV a' (.tmp 1) = EV A21 (.tmp 1) ∧ EV a' (.tmp 5) = EV A21 (.tmp 5) ∧ EV a' (.tmp 6) = .int .i64 (x) ∧ cQ = pk (·= [])) ?_ ?_ ?_ ?_
 ·intro la22 pre x wa22 fr K hSa22 hK
  simp only [id]
  rw [rnd1]
  obtain ⟨A23, E23⟩ : ∃ A, A = (PT { tmps := A21.tmps, defers := [] } 15 (.int .i64 x)) := ⟨_, rfl⟩
  rw [← E23]
  have Y23 := szq E23
  have hdf23 : A23.defers = [] := by rw [E23]; rfl
  have l1_23 := lookE E23 1 (Sa (rnd_l (fg4 F21)))
  have l5_23 := lookE E23 5 (Sa (rnd_l (fg1 F21)))
  have l15_23 := lookE E23 15 t0
  clear E23
  obtain ⟨cI, hcI, hSa22⟩ := gen1 hSa22
  refine R_region kr (va l15_23 (W_end (Qo_normal (en ((((ck (FS.n hdf23) V V)).c (es V l1_23)).c (Sa l5_23)) fun A24 Y24 F24 => then_n (hK _ _ _ ⟨Y24, F24.d, ((fg1 F24).trans (fg4 F21).symm), ((fg0 F24).trans (fg1 F21).symm), (fg2 F24), rfl⟩ ?_)))))
  subst hcI; exact hSa22.asg0
 ·rintro lb25 pre x A25 w25 cQ fr hAx hlr S25 hVd
  obtain ⟨Y25, hdf25, u1_25, u5_25, l6_25, rfl⟩ := hAx
  have l1_25 := u1_25.trans (fg4 F21)
  have l5_25 := u5_25.trans (fg1 F21)
  obtain ⟨_, _, ⟨hwb, rfl⟩, rfl, S25⟩ := S25.body2
  replace S25 : St w NoX ((bx gb_20 30 #[ov, rv]) :: (bx g15 3 #[.int .i64 (((pre.map (wd1 (O.map ab))).sum))]) :: (bx g2 30 #[ov, rv]) :: fr) w25 := S25
  obtain ⟨cb_26, c16_26, c2_26, hcb_26, hc16_26, hc2_26, S25⟩ := gen3 S25
  have hxr := rcL_rng hG hVd
  rw [List.length_map] at hxr
  have hvl := hVd.length_le
  have hrl := rcL_len hG
  rw [List.length_append, List.length_singleton] at hvl
  have ho4 := hG.o4
  have hwb2 := hwb.bd Zb
  refine R_block (R_seq (fun _ H27 => R_region kr (fa 0 l1_25 (rL ov t0 (S25.ob 2 hc2_26) (vm (Sb l6_25) (su t0 V ?_))))))
  have k28 : (x - 1).toNat < O.length := om
  obtain ⟨y28, hy28⟩ := get_some (xs := O) (k := (x - 1).toNat) k28
  have hsy := hsm.at hy28
  obtain ⟨B28, O28, C28, hv28⟩ := (SlN.blk (sl_SlN h_ov.at) om)
  refine wv (V_ixS (off := O28 + ((x - 1).toNat) * 2) 2 ((x - 1).toNat) V (Sb t0) t0 hv28 Zb k28 Tryz.underlying28 kr V) ?_
  have fn29 : Ro w NoX (il .i64 y28.1.1 y28.1.2) := nst_ro1 n_ov hy28
  have bfn29 := SlN.le (sl_SlN (S25.ro fn29))
  have fn30 : Ro w NoX (il .u64 y28.2.1 y28.2.2) := nst_ro2 n_ov hy28
  have bfn30 := SlN.le (sl_SlN (S25.ro fn30))
  refine wr (VR_ldR (ys := obC y28) V t0 (SlN.row obC_len (sl_SlN (S25.ro h_ov)) hv28 hy28 V) Tryz.underlying70 V kr) (wA (#[.slice none 0 0, .slice none 0 0]) S25 (fun g31 w31 c31 hc31 S31 => ?_))
  replace S31 : St w NoX (c31 :: cb_26 :: c16_26 :: c2_26 :: fr) w31 := S31
  refine xsB 0 S31 V hc31 V V V t0 (Sa t0) (by simp only [List.all_toArray, List.all_cons, List.all_nil, obC, SlN_one (sl_SlN fn29.at), SlN_one (sl_SlN fn30.at)] <;> rfl) (fun w32 c32 hc32 S32 => ?_)
  replace S32 : St w NoX (c32 :: cb_26 :: c16_26 :: c2_26 :: fr) w32 := S32
  refine W_end (Qo_normal (en (((ck (cq6 (FS.n hdf25) V) V V)).c (Sg l5_25)) fun A33 _ F33 => tk H27 (R_region kr (rL (.int .i64 (((pre.map (wd1 (O.map ab))).sum))) (fg0 F33) (S32.ob 2 hc16_26) (fa 0 (Sa (fg1 F33)) (rL y28.1.1 t0 (S32.ob 0 hc32) (le_ t0 (sl_SlN fn29.at) (ad V t0 (fa 1 (Se (fg1 F33)) (rL y28.2.1 t0 (S32.ob 0 hc32) (le_ t0 (sl_SlN fn30.at) (ad (Sc t0) t0 (ad (Sh t0) t0 (xsC (zs' := #[.int .i64 ((((pre.map (wd1 (O.map ab))).sum) + ((1 + (y28.1.2.length : Int)) + (y28.2.2.length : Int))))]) 2 S32 V hc16_26 V V V (Sh (Sb (fg0 F33))) t0 Zi (fun w34 c34 hc34 S34 => ?_)))))))))))))))
  replace S34 : St w NoX (c32 :: cb_26 :: c34 :: c2_26 :: fr) w34 := S34
  refine W_end (Qo_normal (en (Qb (Qh F33)) fun A35 _ F35 => ?_))
  have S37 := S34.del 0
  replace S37 : St w NoX (cb_26 :: c34 :: c2_26 :: fr) w34 := S37
  refine inb_n ?_
  exact (St.pack (l := [bx gb_20 30 #[ov, rv], bx g15 3 #[.int .i64 ((((pre ++ [x]).map (wd1 (O.map ab))).sum))], bx g2 30 #[ov, rv]]) (fr := fr) (by have q0 : cb_26 = bx gb_20 30 #[ov, rv] := hcb_26; have q1 : c34 = bx g15 3 #[.int .i64 ((((pre ++ [x]).map (wd1 (O.map ab))).sum))] := hc34.trans ((congrArg (fun z => bx _ _ #[.int .i64 z]) (wd_snoc hy28).symm)); have q2 : c2_26 = bx g2 30 #[ov, rv] := hc2_26; subst q0 q1 q2; exact S37) (⟨(WB.snoc hwb hy28 hsm), rfl⟩))
 ·intro D38 xs w38 hxs S38
  have hxs' : xs = (rcL (O.map ab) rs) := hxs; subst hxs'; clear hxs
  obtain ⟨_, ⟨hwb, rfl⟩, S38⟩ := S38.unpack
  replace S38 : St w NoX ((bx gb_20 30 #[ov, rv]) :: (bx g15 3 #[.int .i64 ((((rcL (O.map ab) rs).map (wd1 (O.map ab))).sum))]) :: (bx g2 30 #[ov, rv]) :: (ob D38 (.deferred (some []))) :: []) w38 := S38
  obtain ⟨cb_38, c16_38, c2_38, cD38, hcb_38, hc16_38, hc2_38, hcD38, S38⟩ := gen4 S38
  refine gen_Q (fun A38 E38 => ?_)
  have Y38 := szq E38
  have hdf38 : A38.defers = [{ target := .collected D38, args := #[] }] := by rw [E38, df_mk, F21.d] <;> rfl
  have l5_38 := lookE E38 5 (mk_l (fg1 F21))
  clear E38
  refine inb_n (tk H18 (R_seq (fun _ H39 => R_region kr (rL (.int .i64 ((((rcL (O.map ab) rs).map (wd1 (O.map ab))).sum))) l5_38 (S38.ob 1 hc16_38) (vt (vc (W_end (Qo_normal (en (Kb (Qa (FS.n hdf38))) fun A40 _ F40 => ?_)))))))))
  have S41 := S38.se [3] [cD38]
  refine tk H39 (R_ret ?_)
  have hD42 := S41.ob 0 hcD38
  have S42 := S41.put (o' := .deferred none) 0 V hcD38
  obtain ⟨w42, hw42⟩ : ∃ w', w' = w38.putObj D38 (.deferred none) := ⟨_, rfl⟩
  rw [← hw42] at S42
  replace S42 : St w NoX [(ob D38 (.deferred none))] w42 := S42
  refine ret_inR1' (D := D38) (w1 := w42) hw42 (results_2 Tryz.results31 (rv_tmp (fg1 F40)) (rv_tmp (fg0 F40))) F40.d hD42 ?_
  rw [hck, wdN_k hck, ← rcL_sum hG]
  exact ⟨rfl, S42.fin0⟩
 intro D43 cQ pre w43 hpre S43
 obtain ⟨_, h, _⟩ := S43.unpack; exact h.elim

set_option maxHeartbeats 4000000 in
theorem qlv_c {ov : Value} {O : List Ob} {rv : Value} {rs : List Int} {w : World} (h_ov : Ro w NoX (rl 2 obC ov O)) (n_ov : Ro w NoX (nst O)) (h_rv : Ro w NoX (il .i64 rv rs)) (hG : GG (O.map ab) rs) (hsm : SM (O.map ab)) :
  Calls Tryz.prog 96 #[.agg #[ov, rv]] w fun e w' => ∃ v B M, e = .returned (v) ∧ (MB O.length B M) ∧ (Wl (O.map ab) rs M []) ∧ St w NoX [bo (v) (B)] w' := by
 have hwl := wt_le (M := ([] : List Int)) hsm hG.o4
 have hr8 := hG.r8
 have ho4 := hG.o4
 rw [List.length_map] at ho4
 refine ci1 44 Tryz.func96 V (fun A0 _ F0 => ?_)
 have hS := St.nil w
 have bh_ov := SlN.le (sl_SlN h_ov.at)
 have bh_rv := SlN.le (sl_SlN h_rv.at)
 refine tb fun _ H1 => (wB (#[ov, rv]) hS (fg0 F0) (fun g2 w2 c2 hc2 S2 => vc (W_end (en (Qa (Ka F0)) fun A3 _ F3 => ta H1 fun _ H4 => (fa 0 (fg0 F3) (rL ov t0 (S2.ob 0 hc2) (le_ t0 (sl_SlN h_ov.at) (ad t0 V (W_mkS (z := .bool false) (bytes := 1) (O.length + 1) S2 V V V t0 t0 Zb Tryz.underlying140 kr Zb V (fun v5 w5 c5 hc5 S5 => ?_))))))))))
 replace hc5 : c5 = bo v5 (List.replicate (O.length + 1) false) := hc5.trans (by simp only [io, bo, List.map_replicate, List.length_replicate])
 replace S5 : St w NoX [c5, c2] w5 := S5
 refine vt (W_end (en (Ka (Qe F3)) fun A6 Y6 F6 => ta H4 fun _ H7 => (W_litS (vs := []) (xs := []) 1 S5 V V V parts0 V Tryz.underlying25 kr Zg (by intro v hv; cases hv) Zi (fun g8 w8 c8 hc8 S8 => ?_))))
 replace hc8 : c8 = io .i64 (.slice (some ⟨g8, 0, none⟩) 0 0) [] := hc8
 replace S8 : St w NoX [c8, c5, c2] w8 := S8
 refine fa 1 (Sa (fg1 F6)) (rL rv t0 (S8.ob 2 hc2) (W_appS 1 0 S8 V hc8 V V V (Sb t0) t0 Tryz.underlying25 Tryz.underlying25 (z := .int .i64 0) (bytes := 8) kr V Zg (sl_SlN (S8.ro h_rv)) ones_i Zd Zd (fun v9 w9 c9 hc9 S9 => ?_)))
 replace hc9 : c9 = io .i64 v9 rs := hc9.trans (app_eq Zc)
 replace S9 : St w NoX [c9, c5, c2] w9 := S9
 refine vt (W_end (eN (Ka (Qd F6)) fun A10 E10 Y10 F10 => ?_))
 have l1_10 := lookE E10 1 (Se (fg1 F6))
 have l3_10 := lookE E10 3 (Se (fg0 F6))
 clear E10 Y6 F6
 refine tc H7 fun _ H11 => wp_block ?_
 -- loop 3
 refine loopX (fun mz A' w' => SzN A' 44 ∧ A'.defers = [] ∧ (∃ (T : List Int) (M : List Int) (B : List Bool) (tv : Value), (mz = T.length + wt (O.map ab) M) ∧ (RfAt (O.map ab) rs T M) ∧ (MB O.length B M) ∧ (EV A' (.tmp 4) = tv) ∧ (EV A' (.tmp 1) = EV A10 (.tmp 1)) ∧ (EV A' (.tmp 3) = EV A10 (.tmp 3)) ∧ (St w NoX [io .i64 tv T, bo v5 B, bx g2 30 #[ov, rv]] w'))) (rs.length + wt (O.map ab) []) ⟨Y10, F10.d, rs, [], (List.replicate (O.length + 1) false), v9, rfl, (RfAt.init (O.map ab) rs), (MB.init _ _ Zb), ((fg0 F10).trans Za), rfl, rfl, (by subst hc9 hc5 hc2; exact S9)⟩ ?_
 clear S9 hc9 hc5 hc2
 rintro n12 A12 w12 ⟨Y12, hdf12, T, M, B, tv, hm12, hrf, hB, l4_12, u1_12, u3_12, S12⟩
 have l1_12 := u1_12.trans l1_10
 have l3_12 := u3_12.trans l3_10
 obtain ⟨c9_12, c5_12, c2_12, hc9_12, hc5_12, hc2_12, S12⟩ := gen3 S12
 refine td fun _ H13 => tb fun _ H14 => (vm l4_12 (le_ t0 (ow_at (S12.cq 0 hc9_12)) (vg t0 V (W_end (en (((((ck (cq2 (FS.n hdf12) V) V V)).c (es3 V l1_12)).c (es3 V l3_12)).c (Sc l4_12)) fun A15 _ F15 => tk H14 (cd (fg3 F15) (fun c16 => ?_) fun c16 => ?_))))))
 ·have hbd := hrf.bd
  refine wp_skip (tk H13 (wp_block (tb fun _ H17 => (vm (fg0 F15) ?_))))
  have k18 : 0 < T.length := om
  obtain ⟨y18, hy18⟩ := get_some (xs := T) (k := 0) k18
  obtain ⟨B18, O18, C18, hv18⟩ := (SlN.blk (ow_at (S12.chq 0 rfl hc9_12)) om)
  refine wv (V_ixS (off := O18 + 0) 1 0 V t0 V hv18 Zb k18 Tryz.underlying25 kr (congrArg _ (Nat.mul_one _))) (rc t0 ((ow_at (S12.cq 0 hc9_12)).cell hv18 (map_get hy18)) (vt (W_end (en (Ka (Qc F15)) fun A19 _ F19 => ta H17 fun _ H20 => (vm (fg1 F19) ?_)))))
  have k21 : 1 ≤ T.length := by omega
  have m21 : T.length ≤ T.length := by omega
  obtain ⟨c21, hc21, S21⟩ := S12.sub 0 rfl hc9_12 (1) (T.length) k21 m21
  replace hc21 : c21 = io .i64 (subS 1 tv 1 T.length) (T.drop 1) := hc21.trans (part_eq k21 m21 Zt)
  replace S21 : St w NoX [c21, c5_12, c2_12] w12 := S21
  refine wv (V_subS 1 1 T.length V t0 (.inr ⟨_, _, rfl, rfl, by omega⟩) (.inl ⟨rfl, rfl⟩) Tryz.underlying25 kr (ow_at (S12.cq 0 hc9_12)) k21 m21) (vt (W_end (en (Ka (Qb (fx1 F19))) fun A22 _ F22 => tc H20 fun _ H23 => tb fun _ H24 => (vm (fg1 F22) (ve t0 V (W_split V V (V_mov V t0) (fun c25 => ?_) (fun c25 => ?_)))))))
  ·refine xo V t0 (xo V (Sa t0) (xo V (Sb t0) (xo V (Sc t0) (vT (Sd t0) V (W_end (en (Ke (Qc F22)) fun A26 Y26 F26 => tk H24 (cond_t (fg0 F26) (wp_exit (then_exit (inb_hit (then_n ⟨(T.drop 1).length + wt (O.map ab) M, by first | (simp only [hm12, List.length_append, List.length_drop]; omega) | (simp only [hm12, List.length_drop]; omega), Y26, F26.d, (T.drop 1), M, B, (subS 1 tv 1 T.length), rfl, (hrf.skip hy18 (.inl Zb)), hB, ((fg5 F26).trans Za), ((fg8 F26).trans l1_10.symm), ((fg7 F26).trans l3_10.symm), (by subst hc21 hc5_12 hc2_12; exact S21)⟩)))))))))))
  have hy0 : ¬ y18 = 0 := c25
  have hrg := hrf.rng hG hy18 hy0
  rw [List.length_map] at hrg
  have hBl := hB.1
  refine wg V t0 (uvm (Sc (fg2 F22))) (wg V (Sa t0) (uvm (Sd (fg1 F22))) ?_)
  have k27 : y18.toNat < B.length := om
  obtain ⟨y27, hy27⟩ := get_some (xs := B) (k := y18.toNat) k27
  have hbm := hB.at Zb hy27
  obtain ⟨B27, O27, C27, hv27⟩ := (SlN.blk (ow_at (S21.chq 1 rfl hc5_12)) om)
  refine wg V (Sb t0) (V_ixS (off := O27 + y18.toNat) 1 y18.toNat V (Sa t0) t0 hv27 Zb k27 Tryz.underlying140 kr (congrArg _ (Nat.mul_one _))) (wq V (Sc t0) (urc t0 ((ow_at (S21.cq 1 hc5_12)).cell hv27 (map_get hy27))) (vF (Sd t0) t0 (W_end (en (Ke (Qc F22)) fun A28 Y28 F28 => tk H24 (cond_b (fg0 F28) (fun c29 => ?_) (fun c29 => ?_))))))
  ·have hin : y18 ∈ M := by rw [c29] at hbm; exact of_decide_eq_true hbm.symm
   refine wp_exit (then_exit (inb_hit (then_n ⟨(T.drop 1).length + wt (O.map ab) M, by first | (simp only [hm12, List.length_append, List.length_drop]; omega) | (simp only [hm12, List.length_drop]; omega), Y28, F28.d, (T.drop 1), M, B, (subS 1 tv 1 T.length), rfl, (hrf.skip hy18 (.inr hin)), hB, ((fg5 F28).trans Za), ((fg8 F28).trans l1_10.symm), ((fg7 F28).trans l3_10.symm), (by subst hc21 hc5_12 hc2_12; exact S21)⟩)))
  have hin : ¬ y18 ∈ M := fun q => by rw [decide_eq_true q] at hbm; have hc := c29; rw [hbm] at hc; cases hc
  have hwt := wt_mark (hrf.rng hG hy18 hy0) hin
  refine wp_skip (ta H23 fun _ H30 => (vm (fg7 F28) (vm (Sa (fg6 F28)) (wv (V_ixS (off := O27 + y18.toNat) 1 y18.toNat V (Sa t0) t0 hv27 Zb k27 Tryz.underlying140 kr (congrArg _ (Nat.mul_one _))) (W_stE 1 S21 V hc5_12 hv27 V V V t0 V Zi V Zq kr (fun w32 c32 hc32 S32 => ?_))))))
  replace hc32 : c32 = bo v5 (B.set y18.toNat true) := hc32.trans (by simp [io, bo, List.map_set] <;> rfl)
  replace S32 : St w NoX [c21, c32, c2_12] w32 := S32
  refine W_end (en (Qc F28) fun A33 Y33 F33 => tk H30 (region_in (vm (fg5 F33) (fa 0 (Sa (fg8 F33)) (rL ov t0 (S32.ob 2 hc2_12) (vm (Sc (fg6 F33)) (su t0 V ?_)))))))
  have k34 : (y18 - 1).toNat < O.length := om
  obtain ⟨y34, hy34⟩ := get_some (xs := O) (k := (y18 - 1).toNat) k34
  have hpt := pt_at hy34
  rw [hpt] at hwt
  obtain ⟨B34, O34, C34, hv34⟩ := (SlN.blk (sl_SlN h_ov.at) om)
  refine wv (V_ixS (off := O34 + ((y18 - 1).toNat) * 2) 2 ((y18 - 1).toNat) V (Sb t0) t0 hv34 Zb k34 Tryz.underlying28 kr V) (wv (V_fa (off' := O34 + ((y18 - 1).toNat) * 2 + 0) V t0 Tryz.underlying70 V Zj V) ?_)
  have fn35 : Ro w NoX (il .i64 y34.1.1 y34.1.2) := nst_ro1 n_ov hy34
  have bfn35 := SlN.le (sl_SlN (S32.ro fn35))
  have fn36 : Ro w NoX (il .u64 y34.2.1 y34.2.2) := nst_ro2 n_ov hy34
  have bfn36 := SlN.le (sl_SlN (S32.ro fn36))
  refine rd y34.1.1 t0 (SlN.row obC_len (sl_SlN (S32.ro h_ov)) hv34 hy34 V 0 _ V) (W_appS 1 0 S32 V hc21 V V V (Sg t0) t0 Tryz.underlying25 Tryz.underlying25 (z := .int .i64 0) (bytes := 8) kr V Zg (sl_SlN (S32.ro fn35)) ones_i Zd Zd (fun v37 w37 c37 hc37 S37 => ?_))
  replace hc37 : c37 = io .i64 v37 ((T.drop 1) ++ y34.1.2) := hc37.trans (app_eq Zc)
  replace S37 : St w NoX [c37, c32, c2_12] w37 := S37
  refine vt (W_end (eN (Qb (Qh (fx5 F33))) fun A38 E38 Y38 F38 => ?_))
  have l1_38 := lookE E38 1 (Sh (Sb (fg8 F33)))
  have l3_38 := lookE E38 3 (Sh (Sb (fg7 F33)))
  have l4_38 := lookE E38 4 t0
  clear E38 Y33 F33
  refine inb_n (then_n ⟨(T.drop 1 ++ y34.1.2).length + wt (O.map ab) (M ++ [y18]), by first | (simp only [hm12, List.length_append, List.length_drop]; omega) | (simp only [hm12, List.length_drop]; omega), Y38, F38.d, (T.drop 1 ++ y34.1.2), (M ++ [y18]), (B.set y18.toNat true), v37, rfl, (by have q := hrf.mark hG hy18 hy0 hin; rw [hpt] at q; exact q), (hB.set Zb), ((l4_38).trans Za), ((l1_38).trans l1_10.symm), ((l3_38).trans l3_10.symm), (by subst hc37 hc32 hc2_12; exact S37)⟩)
 refine wp_exit (then_exit (then_exit (inb_hit (ta H11 fun _ H39 => (vm (fg1 F15) (vt (W_end (en (Ka (Qa F15)) fun A40 _ F40 => tk H39 (wp_ret (rt1 F40 (rv_tmp (fg0 F40)) ?_))))))))))
 exact ⟨_, _, _, rfl, hB, hrf.done Zb, (S12.f1 1 hc5_12)⟩

set_option maxHeartbeats 4000000 in
theorem qLv_c {ov : Value} {O : List Ob} {rv : Value} {rs : List Int} {w : World} (h_ov : Ro w NoX (rl 2 obC ov O)) (n_ov : Ro w NoX (nst O)) (h_rv : Ro w NoX (il .i64 rv rs)) (hsm : SM (O.map ab)) :
  Calls Tryz.prog 56 #[.agg #[ov, rv]] w fun e w' => ∃ v, e = .returned (.tuple #[v, .int .i64 (ckG (O.map ab) rs).2]) ∧ St w NoX [io .i64 (v) (lvT (O.map ab) rs)] w' := by
 refine ci1 34 Tryz.func56 V (fun A0 _ F0 => ?_)
 have hS := St.nil w
 have bh_ov := SlN.le (sl_SlN h_ov.at)
 have bh_rv := SlN.le (sl_SlN h_rv.at)
 refine tb fun _ H1 => (wB (#[ov, rv]) hS (fg0 F0) (fun g2 w2 c2 hc2 S2 => vc (vc (W_end (en (Qb (Ka F0)) fun A3 _ F3 => ta H1 fun _ H4 => (ra (fg0 F3) (S2.ob 0 hc2) (wc (args1 t0) (qCk_c (S2.roC h_ov) (S2.roC n_ov) (S2.roC h_rv)) (C0 S2 fun w5 S5 => vm t0 (vx (.int .i64 ((ckG (O.map ab) rs).1)) t0 (vx (.int .i64 ((ckG (O.map ab) rs).2)) (Sa t0) (va (Sa t0) (va (Sa t0) (W_end (en (Ka (Qf F3)) fun A6 _ F6 => tc H4 fun _ H7 => tb fun _ H8 => (vm (fg0 F6) (vn t0 V (W_end (en (Ka (Qa F6)) fun A9 _ F9 => tk H8 (cd (fg0 F9) (fun c10 => ?_) fun c10 => ?_)))))))))))))))))))
 ·refine tb fun _ H11 => (vm (fg1 F9) (vc (va (Sa t0) (W_end (en (Kb (Qa F9)) fun A12 _ F12 => ?_)))))
  have S13 := S5.se [] []
  refine tk H11 (wp_ret (then_ret (rt2 F12 (rv_tmp (fg1 F12)) (rv_tmp (fg0 F12)) ?_)))
  obtain ⟨c14, hc14, S14⟩ := S13.pnil (s := 1)
  have hne : ¬ (ckG (O.map ab) rs).2 = 0 := by have hc := c10; simpa using hc
  
  exact ⟨_, by first | rfl | rw [ckd_nil], (S14.f1 0 (hc14.trans (by rw [lvT_e hne] <;> rfl)))⟩
 have hck : (ckG (O.map ab) rs).2 = 0 := by simpa using c10
 have hG := ckG_iff.1 hck
 have ho4 := hG.o4
 rw [List.length_map] at ho4
 refine wp_skip (ta H7 fun _ H15 => (ra (fg2 F9) (S5.ob 0 hc2) (wc (args1 t0) (qlv_c (S5.roC h_ov) (S5.roC n_ov) (S5.roC h_rv) (by first | with_reducible assumption | with_reducible exact hG0) Ze) (fun _ w16 ⟨v_16, B_16, M_16, e, hB_16, hW_16, hP16⟩ => ⟨_, e, ?_⟩))))
 obtain ⟨c_16, hc_16, hP16⟩ := gen1 hP16
 have S16 := S5.j1 hP16
 refine vt (W_end (en (Ka (Qb F9)) fun A17 _ F17 => ?_))
 have S18 := S16.se [0] [c_16]
 refine ta H15 fun _ H19 => (vc (W_end (en (Ka F17) fun A20 _ F20 => tc H19 fun _ H21 => tb fun _ H22 => (vc (W_end (en (Ka F20) fun A23 Y23 F23 => tk H22 (wp_block ?_)))))))
 have hBl := hB_16.1
 obtain ⟨c24, hc24, S24⟩ := S18.pnil (s := 1)
 -- loop 7
 refine loopX (fun mz A' w' => SzN A' 34 ∧ A'.defers = [] ∧ (∃ (k : Nat) (v : Value), (mz = O.length - k) ∧ (k ≤ O.length) ∧ (EV A' (.tmp 8) = .int .i64 ((k : Int) + 1)) ∧ (EV A' (.tmp 7) = v) ∧ (EV A' (.tmp 6) = EV A23 (.tmp 6)) ∧ (St w NoX [io .i64 v (tgK M_16 k), bo v_16 B_16] w'))) (O.length - 0) ⟨Y23, F23.d, 0, (.slice none 0 0), rfl, Zb, ((fg0 F23).trans Za), ((fg1 F23).trans Za), rfl, (by have q0 : c24 = io .i64 (.slice none 0 0) (tgK M_16 0) := hc24.trans (rfl); have q1 := hc_16; subst q0 q1; exact S24)⟩ ?_
 clear S24 hc24 hc_16
 rintro n25 A25 w25 ⟨Y25, hdf25, k, v, hm25, hk, l8_25, l7_25, u6_25, S25⟩
 have l6_25 := u6_25.trans (fg2 F23)
 obtain ⟨c24_25, c_25, hc24_25, hc_25, S25⟩ := gen2 S25
 refine td fun _ H26 => tb fun _ H27 => (vm l8_25 (vm (Sa l6_25) (le_ t0 (ow_at (S25.cq 1 hc_25)) (vl (Sb t0) t0 (W_end (en (((((ck (cq3 (FS.n hdf25) V) V V)).c (es4 V l6_25)).c (es4 V l7_25)).c (Sd l8_25)) fun A28 _ F28 => tk H27 (cd (fg3 F28) (fun c29 => ?_) fun c29 => ?_)))))))
 ·have htl := tgK_len M_16 k
  refine wp_skip (tc H26 fun _ H30 => wp_block (tb fun _ H31 => (vm (fg2 F28) (vm (Sa (fg0 F28)) ?_))))
  have k32 : (k + 1) < B_16.length := om
  obtain ⟨y32, hy32⟩ := get_some (xs := B_16) (k := (k + 1)) k32
  have hbm := hB_16.at (q := (k : Int) + 1) Zb (by simpa using hy32)
  obtain ⟨B32, O32, C32, hv32⟩ := (SlN.blk (ow_at (S25.chq 1 rfl hc_25)) om)
  refine wv (V_ixS (off := O32 + (k + 1)) 1 (k + 1) V (Sa t0) t0 hv32 Zb k32 Tryz.underlying140 kr (congrArg _ (Nat.mul_one _))) (rc t0 ((ow_at (S25.cq 1 hc_25)).cell hv32 (map_get hy32)) (W_end (en (Ka (Qc F28)) fun A33 _ F33 => tk H31 (cond_b (fg0 F33) (fun c34 => ?_) (fun c34 => ?_)))))
  ·refine region_in (vm (fg2 F33) (vm (Sa (fg1 F33)) ?_))
   have hll35 : [((k : Int) + 1)].length = 1 := rfl
   refine xsL (vs := [.int .i64 (((k : Int) + 1))]) (xs := ([((k : Int) + 1)].map (Value.int .i64))) 1 S25 V V V (parts1 t0) Tryz.underlying25 (fun g35 w35 c35 hc35 S35 => ?_)
   replace hc35 : c35 = io .i64 (.slice (some ⟨g35, 0, none⟩) 1 1) [((k : Int) + 1)] := hc35
   replace S35 : St w NoX [c35, c24_25, c_25] w35 := S35
   refine W_appS 1 1 S35 V hc24_25 V V V (Sb t0) t0 Tryz.underlying25 Tryz.underlying25 (z := .int .i64 0) (bytes := 8) kr V Zg (ow_at (S35.cq 0 hc35)) ones_i Zd Zd (fun v36 w36 c36 hc36 S36 => ?_)
   replace hc36 : c36 = io .i64 v36 ((tgK M_16 k) ++ [((k : Int) + 1)]) := hc36.trans (app_eq Zc)
   replace S36 : St w NoX [c35, c36, c_25] w36 := S36
   refine vt (W_end (en (Ka (Qd (fx2 F33))) fun A37 _ F37 => ?_))
   have S38 := S36.se [1, 2] [c36, c_25]
   refine inb_n (tk H30 (region_in (vm (fg2 F37) (ad t0 V (vt (W_end (en (Ka (Qb (fx2 F37))) fun A39 Y39 F39 => then_n ⟨O.length - (k + 1), by simp only [hm25]; omega, Y39, F39.d, (k + 1), v36, rfl, Zb, ((fg0 F39).trans Za), ((fg1 F39).trans Za), ((fg3 F39).trans (fg2 F23).symm), (by have q0 : c36 = io .i64 v36 (tgK M_16 (k + 1)) := hc36.trans ((congrArg (io .i64 _) (tgK_in (by have q := hbm; rw [c34] at q; have q2 := of_decide_eq_true q.symm; simpa using q2)))); have q1 := hc_25; subst q0 q1; exact S38)⟩)))))))
  refine wp_skip (inb_n (tk H30 (region_in (vm (fg1 F33) (ad t0 V (vt (W_end (en (Ka (Qb (fx1 F33))) fun A40 Y40 F40 => then_n ⟨O.length - (k + 1), by simp only [hm25]; omega, Y40, F40.d, (k + 1), v, rfl, Zb, ((fg0 F40).trans Za), ((fg2 F40).trans Za), ((fg3 F40).trans (fg2 F23).symm), (by have q0 : c24_25 = io .i64 v (tgK M_16 (k + 1)) := hc24_25.trans ((congrArg (io .i64 _) (tgK_out (fun q => by rw [decide_eq_true (by simpa using q)] at hbm; have hc := c34; rw [hbm] at hc; cases hc)))); have q1 := hc_25; subst q0 q1; exact S25)⟩))))))))
 refine wp_exit (then_exit (then_exit (inb_hit (ta H21 fun _ H41 => (vm (fg1 F28) (vt (vc (W_end (en (Kb (Qa F28)) fun A42 _ F42 => tk H41 (wp_ret (rt2 F42 (rv_tmp (fg1 F42)) (rv_tmp (fg0 F42)) ?_)))))))))))
 rw [hck]
 exact ⟨_, rfl, (S25.f1 0 (hc24_25.trans (by rw [lvT_k hck, ← (lvL_eq hG hW_16).2, List.length_map, show k = O.length by omega])))⟩

set_option maxHeartbeats 4000000 in
theorem qWd_c {ov : Value} {O : List Ob} {rv : Value} {rs : List Int} {w : World} (h_ov : Ro w NoX (rl 2 obC ov O)) (n_ov : Ro w NoX (nst O)) (h_rv : Ro w NoX (il .i64 rv rs)) (hsm : SM (O.map ab)) :
  Calls Tryz.prog 32 #[.agg #[ov, rv]] w fun e w' => e = .returned (.tuple #[.int .i64 (wdN (O.map ab) rs), .int .i64 (ckG (O.map ab) rs).2]) ∧ St w NoX [] w' := by
 have hll := lvT_len (O.map ab) rs
 refine ci1 41 Tryz.func32 V (fun A0 _ F0 => ?_)
 have hS := St.nil w
 have bh_ov := SlN.le (sl_SlN h_ov.at)
 have bh_rv := SlN.le (sl_SlN h_rv.at)
 refine tb fun _ H1 => (wB (#[ov, rv]) hS (fg0 F0) (fun g2 w2 c2 hc2 S2 => vc (vc (W_end (en (Qb (Ka F0)) fun A3 _ F3 => ta H1 fun _ H4 => (ra (fg0 F3) (S2.ob 0 hc2) (wc (args1 t0) (qLv_c (S2.roC h_ov) (S2.roC n_ov) (S2.roC h_rv) Ze) (fun _ w5 ⟨v_5, e, hP5⟩ => ⟨_, e, ?_⟩))))))))
 obtain ⟨c_5, hc_5, hP5⟩ := gen1 hP5
 have S5 := S2.j1 hP5
 refine vm t0 (vx v_5 t0 (vx (.int .i64 ((ckG (O.map ab) rs).2)) (Sa t0) (va (Sa t0) (va (Sa t0) (W_end (en (Kb (Qe F3)) fun A6 _ F6 => ta H4 fun _ H7 => (vc (W_end (en (Ka F6) fun A8 _ F8 => tc H7 fun _ H9 => tb fun _ H10 => (vc (W_end (en (Ka F8) fun A11 Y11 F11 => tk H10 (wp_block ?_)))))))))))))
 -- loop 4
 refine loopX (fun mz A' w' => SzN A' 41 ∧ A'.defers = [] ∧ (∃ (k : Nat), (mz = (lvT (O.map ab) rs).length - k) ∧ (k ≤ (lvT (O.map ab) rs).length) ∧ (WB (O.map ab) ((lvT (O.map ab) rs).take k)) ∧ (EV A' (.tmp 7) = .int .i64 (k : Int)) ∧ (EV A' (.tmp 6) = .int .i64 ((((lvT (O.map ab) rs).take k).map (wd1 (O.map ab))).sum)) ∧ (EV A' (.tmp 1) = EV A11 (.tmp 1)) ∧ (EV A' (.tmp 4) = EV A11 (.tmp 4)) ∧ (EV A' (.tmp 5) = EV A11 (.tmp 5)) ∧ (St w NoX [io .i64 v_5 (lvT (O.map ab) rs), bx g2 30 #[ov, rv]] w'))) ((lvT (O.map ab) rs).length - 0) ⟨Y11, F11.d, 0, rfl, Zb, (by unfold WB; simp), ((fg0 F11).trans Za), ((fg1 F11).trans Za), rfl, rfl, rfl, (by subst hc_5 hc2; exact S5)⟩ ?_
 clear S5 hc_5 hc2
 rintro n12 A12 w12 ⟨Y12, hdf12, k, hm12, hk, hwb, l7_12, l6_12, u1_12, u4_12, u5_12, S12⟩
 have l1_12 := u1_12.trans (fg4 F11)
 have l4_12 := u4_12.trans (fg3 F11)
 have l5_12 := u5_12.trans (fg2 F11)
 obtain ⟨c_12, c2_12, hc_12, hc2_12, S12⟩ := gen2 S12
 refine td fun _ H13 => tb fun _ H14 => (vm l7_12 (vm (Sa l4_12) (le_ t0 (ow_at (S12.cq 0 hc_12)) (vl (Sb t0) t0 (W_end (en (((((((ck (cq3 (FS.n hdf12) V) V V)).c (es4 V l1_12)).c (es4 V l4_12)).c (es4 V l5_12)).c (es4 V l6_12)).c (Sd l7_12)) fun A15 _ F15 => tk H14 (cd (fg5 F15) (fun c16 => ?_) fun c16 => ?_)))))))
 ·have hwb2 := hwb.bd (by rw [List.length_take]; omega)
  refine wp_skip (tc H13 fun _ H17 => wp_block (td fun _ H18 => region_monoS 10 11 [none, none, none, none, none, none, none, none, none, some (SPv [] (fun _ => fun u l' => ∃ g_, u = .pointer (some ⟨g_, 0, none⟩) ∧ ∃ c_, c_ = bx g_ 70 #[.slice none 0 0, .slice none 0 0] ∧ l' = [c_]) 9)] kr kr (df 0 (fg4 F15) (dr (fun _ hx _ => (urc t0 (cell_box (v := ov) ((S12.grow hx).ob 1 hc2_12) V))) (dm (Sb (fg3 F15)) (dm (Sc (fg0 F15)) ?_))))))
  have k19 : k < (lvT (O.map ab) rs).length := om
  obtain ⟨y19, hy19⟩ := get_some (xs := (lvT (O.map ab) rs)) (k := k) k19
  have hxr := lvT_rng (List.mem_of_getElem? hy19)
  rw [List.length_map] at hxr
  obtain ⟨B19, O19, C19, hv19⟩ := (SlN.blk (ow_at (S12.chq 0 rfl hc_12)) om)
  refine dv (V_ixS (off := O19 + k) 1 k V (Sa t0) t0 hv19 Zb k19 Tryz.underlying25 kr (congrArg _ (Nat.mul_one _))) (dr (fun _ hx _ => (urc t0 ((ow_at ((S12.grow hx).cq 0 hc_12)).cell hv19 (map_get hy19)))) (dv (usu t0 V) ?_))
  have k20 : (y19 - 1).toNat < O.length := om
  obtain ⟨y20, hy20⟩ := get_some (xs := O) (k := (y19 - 1).toNat) k20
  have hsy := hsm.at hy20
  obtain ⟨B20, O20, C20, hv20⟩ := (SlN.blk (sl_SlN h_ov.at) om)
  refine dv (V_ixS (off := O20 + ((y19 - 1).toNat) * 2) 2 ((y19 - 1).toNat) V (Se t0) t0 hv20 Zb k20 Tryz.underlying28 kr V) ?_
  have fn21 : Ro w NoX (il .i64 y20.1.1 y20.1.2) := nst_ro1 n_ov hy20
  have bfn21 := SlN.le (sl_SlN (S12.ro fn21))
  have fn22 : Ro w NoX (il .u64 y20.2.1 y20.2.2) := nst_ro2 n_ov hy20
  have bfn22 := SlN.le (sl_SlN (S12.ro fn22))
  refine dr (fun sx hx hF => (VR_ldR (ys := obC y20) V t0 (SlN.row obC_len (sl_SlN ((S12.grow hx).ro h_ov)) hv20 hy20 V) Tryz.underlying70 V kr)) (D_lay (ts := []) (vs := []) (C0 := fun _ => fun u l' => ∃ g_, u = .pointer (some ⟨g_, 0, none⟩) ∧ ∃ c_, c_ = bx g_ 70 #[.slice none 0 0, .slice none 0 0] ∧ l' = [c_]) (C := fun u l' => ∃ g_, u = .pointer (some ⟨g_, 0, none⟩) ∧ ∃ c_, c_ = bx g_ 70 #[.slice none 0 0, .slice none 0 0] ∧ l' = [c_]) V V V V V V (fun sx hx hF => lay_alloc (z := .agg #[.slice none 0 0, .slice none 0 0]) V kr Zi) (fun u23 l23 hu23 => ?_))
  obtain ⟨g23, rfl, c23, hc23, hl23⟩ := hu23
  refine D_eff V (ZS_eff S12 V V (fun s24 hJ24 hL24 hF24 => ?_))
  obtain ⟨ll23, ws23, we23, ⟨g23q, hq23, c23r, hc23r, hl23r⟩, hm23, k23, e23⟩ := L.all_get hF24; cases hq23; subst hl23r
  replace hJ24 := hJ24.add hL24 (i := 9) V hm23 k23 e23
  have S24 := hJ24.st; clear hF24 hJ24 hL24
  generalize s24.1 = w24 at *
  replace S24 : St w NoX [c23r, c_12, c2_12] w24 := S24
  refine xsB0 S24 hc23r V V V t0 (Sa t0) (by simp only [List.all_toArray, List.all_cons, List.all_nil, obC, SlN_one (sl_SlN fn21.at), SlN_one (sl_SlN fn22.at)] <;> rfl) (fun w25 c25 hc25 S25 => W_end (Qo_normal (en (Ka (Qa (Qh F15))) fun A26 _ F26 => tk H18 (region_in (vm (fg2 F26) (ad t0 V (fa 0 (Sb (fg0 F26)) (rL y20.1.1 t0 (S25.ob 0 hc25) (le_ t0 (sl_SlN fn21.at) (ad (Sc t0) t0 (fa 1 (Sf (fg0 F26)) (rL y20.2.1 t0 (S25.ob 0 hc25) (le_ t0 (sl_SlN fn22.at) (ad (Sc t0) t0 (vt (W_end (en (Ka (Qb (Qh (fx2 F26)))) fun A27 _ F27 => ?_)))))))))))))))))
  have S28 := S25.se [1, 2] [c_12, c2_12]
  refine inb_n (tk H17 (region_in (vm (fg2 F27) (ad t0 V (vt (W_end (en (Ka (Qb (fx2 F27))) fun A29 Y29 F29 => then_n ⟨(lvT (O.map ab) rs).length - (k + 1), by simp only [hm12]; omega, Y29, F29.d, (k + 1), rfl, Zb, (by rw [tk_snoc hy19]; exact hwb.snoc hy20 hsm), ((fg0 F29).trans Za), ((fg1 F29).trans (by rw [tk_snoc hy19, wd_snoc hy20]; congr 1; omega)), ((fg5 F29).trans (fg4 F11).symm), ((fg4 F29).trans (fg3 F11).symm), ((fg3 F29).trans (fg2 F11).symm), (by subst hc_12 hc2_12; exact S28)⟩)))))))
 refine wp_exit (then_exit (then_exit (inb_hit (ta H9 fun _ H30 => (vm (fg1 F15) (vm (Sa (fg2 F15)) (va (Sa t0) (va (Sa t0) (W_end (en (Kb (Qb F15)) fun A31 _ F31 => tk H30 (wp_ret (rt2 F31 (rv_tmp (fg1 F31)) (rv_tmp (fg0 F31)) ?_))))))))))))
 have e : (lvT (O.map ab) rs).take k = (lvT (O.map ab) rs) := List.take_of_length_le Zb
 exact ⟨by rw [wdN_T, e], S12.fin0⟩

end Go.Proofs.YtpgkfndbfocibaaGreat
namespace Go.Proofs.YtpgkfndbfocibaaGreat
open Go.RowKit Go.Own Go.Own.R Go.Own.G Go.Own.Gr


set_option maxHeartbeats 4000000 in
theorem kNw_c {n : Int} {w : World}   :
  Calls Tryz.prog 89 #[.int .i64 n] w fun e w' => ∃ hv H qv, e = .returned (.tuple #[.agg #[hv, qv], .int .i64 (nwE n)]) ∧ (H.map ab = []) ∧ St w NoX [ro 2 obC hv H, owl .i64 (H.map (·.1)), owl .u64 (H.map (·.2)), io .i64 (qv) (nwR n)] w' := by
 refine ci1 14 Tryz.func89 V (fun A0 _ F0 => ?_)
 have hS := St.nil w
 refine tb fun _ H1 => (wA (#[.slice none 0 0, .slice none 0 0]) hS (fun g2 w2 c2 hc2 S2 => vc (W_end (en (Qa (Ka F0)) fun A3 _ F3 => tc H1 fun _ H4 => tb fun _ H5 => (vm (fg1 F3) (vl t0 V (W_split V V (V_mov V t0) (fun c6 => ?_) (fun c6 => ?_))))))))
 ·refine xo V t0 (xo V (Sa t0) (vT (Sb t0) V (W_end (en (Ka (Qe F3)) fun A7 _ F7 => tk H5 (cond_t (fg0 F7) (tb fun _ H8 => (wv (xbS (n := 2) (z := .agg #[.slice none 0 0, .slice none 0 0]) V parts0) (xsA0 S2 hc2 V V V (Sa (fg1 F7)) t0 (fun w9 c9 hc9 S9 => vc (W_end (en (Ka (Qa F7)) fun A10 _ F10 => tk H8 (wp_ret (then_ret (rt2 F10 (rvA (fg2 F10) (S9.ob 0 hc9)) (rv_tmp (fg0 F10)) ?_))))))))))))))
  obtain ⟨c11, hc11, S11⟩ := S9.pnil (s := 2)
  replace hc11 : c11 = ro 2 obC (.slice none 0 0) ([] : List Ob) := hc11
  obtain ⟨c12, cb12, hc12, hcb12, S12⟩ := gen2 (nst_nils S11)
  obtain ⟨c13, hc13, S13⟩ := S12.pnil (s := 1)
  have h := nw_e (n := n) Zb
  rw [h.1, h.2]
  exact ⟨_, ([] : List Ob), _, rfl, rfl, (S13.f4 3 hc11 1 hc12 2 hcb12 0 hc13)⟩
 refine wg V t0 (uvm (Sc (fg1 F3))) (wg V (Sa t0) (uvg t0 V) (vF (Sb t0) t0 (W_end (en (Ka (Qe F3)) fun A14 _ F14 => tk H5 (cd (fg0 F14) (fun c15 => ?_) fun c15 => ?_)))))
 ·refine tb fun _ H16 => (wv (xbS (n := 2) (z := .agg #[.slice none 0 0, .slice none 0 0]) V parts0) (xsA0 S2 hc2 V V V (Sa (fg1 F14)) t0 (fun w17 c17 hc17 S17 => vc (W_end (en (Ka (Qa F14)) fun A18 _ F18 => tk H16 (wp_ret (then_ret (rt2 F18 (rvA (fg2 F18) (S17.ob 0 hc17)) (rv_tmp (fg0 F18)) ?_))))))))
  obtain ⟨c19, hc19, S19⟩ := S17.pnil (s := 2)
  replace hc19 : c19 = ro 2 obC (.slice none 0 0) ([] : List Ob) := hc19
  obtain ⟨c20, cb20, hc20, hcb20, S20⟩ := gen2 (nst_nils S19)
  obtain ⟨c21, hc21, S21⟩ := S20.pnil (s := 1)
  have h := nw_e (n := n) Zb
  rw [h.1, h.2]
  exact ⟨_, ([] : List Ob), _, rfl, rfl, (S21.f4 3 hc19 1 hc20 2 hcb20 0 hc21)⟩
 refine wp_skip (ta H4 fun _ H22 => (vm (fg2 F14) (W_mkS (z := .int .i64 0) (bytes := 8) n.toNat S2 V V V t0 t0 Zb Tryz.underlying25 kr Zb V (fun v23 w23 c23 hc23 S23 => ?_))))
 replace hc23 : c23 = io .i64 v23 (List.replicate n.toNat (0 : Int)) := hc23.trans (by simp only [io, bo, List.map_replicate, List.length_replicate])
 replace S23 : St w NoX [c23, c2] w23 := S23
 refine wv (xbT (n := 2) (z := .agg #[.slice none 0 0, .slice none 0 0]) V (parts1 t0) (by simp only [List.all_cons, List.all_nil, SlN_one (ow_at (S23.cq 0 hc23)), Bool.and_true] <;> rfl)) (xsB1 S23 hc2 V V V (Sc (fg1 F14)) t0 (by simp only [List.all_toArray, List.all_cons, List.all_nil, SlN_one (ow_at (S23.cq 0 hc23))] <;> rfl) (fun w24 c24 hc24 S24 => vc (W_end (en (Ka (Qc F14)) fun A25 _ F25 => tk H22 (wp_ret (rt2 F25 (rvA (fg2 F25) (S24.ob 1 hc24)) (rv_tmp (fg0 F25)) ?_))))))
 obtain ⟨c26, hc26, S26⟩ := S24.pnil (s := 2)
 replace hc26 : c26 = ro 2 obC (.slice none 0 0) ([] : List Ob) := hc26
 obtain ⟨c27, cb27, hc27, hcb27, S27⟩ := gen2 (nst_nils S26)
 have h := nw_k (n := n) Zb
 rw [h.1, h.2]
 exact ⟨_, ([] : List Ob), _, rfl, rfl, (S27.f4 2 hc26 0 hc27 1 hcb27 3 hc23)⟩

set_option maxHeartbeats 4000000 in
theorem qNw_c {n : Int} {w : World}   :
  Calls Tryz.prog 49 #[.int .i64 n] w fun e w' => ∃ hv H qv, e = .returned (.tuple #[.agg #[hv, qv], .int .i64 (nwE n)]) ∧ (H.map ab = []) ∧ St w NoX [ro 2 obC hv H, owl .i64 (H.map (·.1)), owl .u64 (H.map (·.2)), io .i64 (qv) (nwR n)] w' := by
 refine ci1 14 Tryz.func49 V (fun A0 _ F0 => ?_)
 have hS := St.nil w
 refine tb fun _ H1 => (wA (#[.slice none 0 0, .slice none 0 0]) hS (fun g2 w2 c2 hc2 S2 => vc (W_end (en (Qa (Ka F0)) fun A3 _ F3 => tc H1 fun _ H4 => tb fun _ H5 => (vm (fg1 F3) (vl t0 V (W_split V V (V_mov V t0) (fun c6 => ?_) (fun c6 => ?_))))))))
 ·refine xo V t0 (xo V (Sa t0) (vT (Sb t0) V (W_end (en (Ka (Qe F3)) fun A7 _ F7 => tk H5 (cond_t (fg0 F7) (tb fun _ H8 => (wv (xbS (n := 2) (z := .agg #[.slice none 0 0, .slice none 0 0]) V parts0) (xsA0 S2 hc2 V V V (Sa (fg1 F7)) t0 (fun w9 c9 hc9 S9 => vc (W_end (en (Ka (Qa F7)) fun A10 _ F10 => tk H8 (wp_ret (then_ret (rt2 F10 (rvA (fg2 F10) (S9.ob 0 hc9)) (rv_tmp (fg0 F10)) ?_))))))))))))))
  obtain ⟨c11, hc11, S11⟩ := S9.pnil (s := 2)
  replace hc11 : c11 = ro 2 obC (.slice none 0 0) ([] : List Ob) := hc11
  obtain ⟨c12, cb12, hc12, hcb12, S12⟩ := gen2 (nst_nils S11)
  obtain ⟨c13, hc13, S13⟩ := S12.pnil (s := 1)
  have h := nw_e (n := n) Zb
  rw [h.1, h.2]
  exact ⟨_, ([] : List Ob), _, rfl, rfl, (S13.f4 3 hc11 1 hc12 2 hcb12 0 hc13)⟩
 refine wg V t0 (uvm (Sc (fg1 F3))) (wg V (Sa t0) (uvg t0 V) (vF (Sb t0) t0 (W_end (en (Ka (Qe F3)) fun A14 _ F14 => tk H5 (cd (fg0 F14) (fun c15 => ?_) fun c15 => ?_)))))
 ·refine tb fun _ H16 => (wv (xbS (n := 2) (z := .agg #[.slice none 0 0, .slice none 0 0]) V parts0) (xsA0 S2 hc2 V V V (Sa (fg1 F14)) t0 (fun w17 c17 hc17 S17 => vc (W_end (en (Ka (Qa F14)) fun A18 _ F18 => tk H16 (wp_ret (then_ret (rt2 F18 (rvA (fg2 F18) (S17.ob 0 hc17)) (rv_tmp (fg0 F18)) ?_))))))))
  obtain ⟨c19, hc19, S19⟩ := S17.pnil (s := 2)
  replace hc19 : c19 = ro 2 obC (.slice none 0 0) ([] : List Ob) := hc19
  obtain ⟨c20, cb20, hc20, hcb20, S20⟩ := gen2 (nst_nils S19)
  obtain ⟨c21, hc21, S21⟩ := S20.pnil (s := 1)
  have h := nw_e (n := n) Zb
  rw [h.1, h.2]
  exact ⟨_, ([] : List Ob), _, rfl, rfl, (S21.f4 3 hc19 1 hc20 2 hcb20 0 hc21)⟩
 refine wp_skip (ta H4 fun _ H22 => (vm (fg2 F14) (W_mkS (z := .int .i64 0) (bytes := 8) n.toNat S2 V V V t0 t0 Zb Tryz.underlying25 kr Zb V (fun v23 w23 c23 hc23 S23 => ?_))))
 replace hc23 : c23 = io .i64 v23 (List.replicate n.toNat (0 : Int)) := hc23.trans (by simp only [io, bo, List.map_replicate, List.length_replicate])
 replace S23 : St w NoX [c23, c2] w23 := S23
 refine wv (xbT (n := 2) (z := .agg #[.slice none 0 0, .slice none 0 0]) V (parts1 t0) (by simp only [List.all_cons, List.all_nil, SlN_one (ow_at (S23.cq 0 hc23)), Bool.and_true] <;> rfl)) (xsB1 S23 hc2 V V V (Sc (fg1 F14)) t0 (by simp only [List.all_toArray, List.all_cons, List.all_nil, SlN_one (ow_at (S23.cq 0 hc23))] <;> rfl) (fun w24 c24 hc24 S24 => vc (W_end (en (Ka (Qc F14)) fun A25 _ F25 => tk H22 (wp_ret (rt2 F25 (rvA (fg2 F25) (S24.ob 1 hc24)) (rv_tmp (fg0 F25)) ?_))))))
 obtain ⟨c26, hc26, S26⟩ := S24.pnil (s := 2)
 replace hc26 : c26 = ro 2 obC (.slice none 0 0) ([] : List Ob) := hc26
 obtain ⟨c27, cb27, hc27, hcb27, S27⟩ := gen2 (nst_nils S26)
 have h := nw_k (n := n) Zb
 rw [h.1, h.2]
 exact ⟨_, ([] : List Ob), _, rfl, rfl, (S27.f4 2 hc26 0 hc27 1 hcb27 3 hc23)⟩

set_option maxHeartbeats 4000000 in
theorem qCn_c {ov : Value} {O : List Ob} {rv : Value} {rs : List Int} {w : World} (h_ov : Ro w NoX (rl 2 obC ov O)) (n_ov : Ro w NoX (nst O)) (h_rv : Ro w NoX (il .i64 rv rs)) (hsm : SM (O.map ab)) (hrl : rs.length ≤ 1048576) (hol : O.length ≤ 1048576) :
  Calls Tryz.prog 21 #[.agg #[ov, rv]] w fun e w' => ∃ hv H qv, e = .returned (.agg #[hv, qv]) ∧ (H.map ab = (O.map ab)) ∧ St w NoX [ro 2 obC hv H, owl .i64 (H.map (·.1)), owl .u64 (H.map (·.2)), io .i64 (qv) rs] w' := by
 refine ci1 40 Tryz.func21 V (fun A0 _ F0 => ?_)
 have hS := St.nil w
 have bh_ov := SlN.le (sl_SlN h_ov.at)
 have bh_rv := SlN.le (sl_SlN h_rv.at)
 refine tb fun _ H1 => (wB (#[ov, rv]) hS (fg0 F0) (fun g2 w2 c2 hc2 S2 => wA (#[.slice none 0 0, .slice none 0 0]) S2 (fun g3 w3 c3 hc3 S3 => W_end (en (Kb F0) fun A4 _ F4 => ta H1 fun _ H5 => (W_litS (vs := []) (xs := []) 1 S3 V V V parts0 V Tryz.underlying25 kr Zg (by intro v hv; cases hv) Zi (fun g6 w6 c6 hc6 S6 => ?_))))))
 replace hc6 : c6 = io .i64 (.slice (some ⟨g6, 0, none⟩) 0 0) [] := hc6
 replace S6 : St w NoX [c6, c3, c2] w6 := S6
 refine fa 1 (Sa (fg1 F4)) (rL rv t0 (S6.ob 2 hc2) (W_appS 1 0 S6 V hc6 V V V (Sb t0) t0 Tryz.underlying25 Tryz.underlying25 (z := .int .i64 0) (bytes := 8) kr V Zg (sl_SlN (S6.ro h_rv)) ones_i Zd Zd (fun v7 w7 c7 hc7 S7 => ?_)))
 replace hc7 : c7 = io .i64 v7 rs := hc7.trans (app_eq Zc)
 replace S7 : St w NoX [c7, c3, c2] w7 := S7
 refine wv (xbT (n := 2) (z := .agg #[.slice none 0 0, .slice none 0 0]) V (parts1 t0) (by simp only [List.all_cons, List.all_nil, SlN_one (ow_at (S7.cq 0 hc7)), Bool.and_true] <;> rfl)) (wA (#[.slice none 0 0, .slice none 0 0]) S7 (fun g8 w8 c8 hc8 S8 => xsB0 S8 hc8 V V V t0 (Sa t0) (by simp only [List.all_toArray, List.all_cons, List.all_nil, obC, SlN_one (ow_at (S8.cq 1 hc7))] <;> rfl) (fun w9 c9 hc9 S9 => W_end (en (Ka (Qe F4)) fun A10 _ F10 => tc H5 fun _ H11 => tb fun _ H12 => (vc (W_end (en (Ka F10) fun A13 Y13 F13 => tk H12 (wp_block ?_))))))))
 obtain ⟨c14, hc14, S14⟩ := S9.pnil (s := 2)
 replace hc14 : c14 = ro 2 obC (.slice none 0 0) ([] : List Ob) := hc14
 obtain ⟨c15, cb15, hc15, hcb15, S15⟩ := gen2 (nst_nils S14)
 -- loop 3
 refine loopX (fun mz A' w' => SzN A' 40 ∧ A'.defers = [] ∧ (∃ (k : Nat) (hv : Value) (H : List Ob), (mz = O.length - k) ∧ (k ≤ O.length) ∧ (H.map ab = (O.map ab).take k) ∧ (EV A' (.tmp 4) = .int .i64 (k : Int)) ∧ (EV A' (.tmp 1) = EV A13 (.tmp 1)) ∧ (EV A' (.tmp 2) = EV A13 (.tmp 2)) ∧ (EV A' (.tmp 3) = EV A13 (.tmp 3)) ∧ (St w NoX [owl .i64 (H.map (·.1)), owl .u64 (H.map (·.2)), ro 2 obC hv H, bx g8 30 #[hv, v7], io .i64 v7 rs, bx g3 30 #[.slice none 0 0, .slice none 0 0], bx g2 30 #[ov, rv]] w'))) (O.length - 0) ⟨Y13, F13.d, 0, (.slice none 0 0), [], rfl, Zb, rfl, ((fg0 F13).trans Za), rfl, rfl, rfl, (by subst hc15 hcb15 hc14 hc9 hc7 hc3 hc2; exact S15)⟩ ?_
 clear S15 hc15 hcb15 hc14 hc9 hc7 hc3 hc2
 rintro n16 A16 w16 ⟨Y16, hdf16, k, hv, H, hm16, hk, hH, l4_16, u1_16, u2_16, u3_16, S16⟩
 have l1_16 := u1_16.trans (fg3 F13)
 have l2_16 := u2_16.trans (fg2 F13)
 have l3_16 := u3_16.trans (fg1 F13)
 obtain ⟨c15_16, cb15_16, c14_16, c9_16, c7_16, c3_16, c2_16, hc15_16, hcb15_16, hc14_16, hc9_16, hc7_16, hc3_16, hc2_16, S16⟩ := gen7 S16
 refine td fun _ H17 => tb fun _ H18 => (vm l4_16 (fa 0 (Sa l1_16) (rL ov t0 (S16.ob 6 hc2_16) (le_ t0 (sl_SlN h_ov.at) (vl (Sc t0) t0 (W_end (en ((((((ck (cq4 (FS.n hdf16) V) V V)).c (es5 V l1_16)).c (es5 V l2_16)).c (es5 V l3_16)).c (Se l4_16)) fun A19 _ F19 => tk H18 (cd (fg4 F19) (fun c20 => ?_) fun c20 => ?_))))))))
 ·have hHl := mp_len hH hk
  refine wp_skip (tc H17 fun _ H21 => wp_block ?_)
  have k23 : k < O.length := om
  obtain ⟨y23, hy23⟩ := get_some (xs := O) (k := k) k23
  have hsy := hsm.at hy23
  refine region_monoS 20 21 [none, none, some (SPv [] (fun _ => fun u l' => ∃ g_, u = .slice (some ⟨g_, 0, none⟩) 0 0 ∧ ∃ c_, c_ = io .i64 (.slice (some ⟨g_, 0, none⟩) 0 0) [] ∧ l' = [c_]) 2), none, none, none, none, none, none, some (SPv [] (fun _ => fun u l' => ∃ v_, u = v_ ∧ ∃ c_, c_ = io .i64 v_ y23.1.2 ∧ l' = [c_]) 9), some (SPv [] (fun _ => fun u l' => ∃ g_, u = .slice (some ⟨g_, 0, none⟩) 0 0 ∧ ∃ c_, c_ = io .u64 (.slice (some ⟨g_, 0, none⟩) 0 0) [] ∧ l' = [c_]) 10), none, none, none, none, none, none, some (SPv [] (fun _ => fun u l' => ∃ v_, u = v_ ∧ ∃ c_, c_ = io .u64 v_ y23.2.2 ∧ l' = [c_]) 17), none, some (SPv [26, 34] (fun vs => fun u l' => ∃ g_, u = .slice (some ⟨g_, 0, none⟩) 1 1 ∧ ∃ c_, c_ = ro 2 obC (.slice (some ⟨g_, 0, none⟩) 1 1) [(((vs.getD 0 undef), y23.1.2), ((vs.getD 1 undef), y23.2.2))] ∧ l' = [c_]) 19)] kr kr (df 0 (fg1 F19) (dr (fun _ hx _ => (urc t0 (cell_box (v := hv) ((S16.grow hx).ob 3 hc9_16) V))) (D_lay (ts := []) (vs := []) (C0 := fun _ => fun u l' => ∃ g_, u = .slice (some ⟨g_, 0, none⟩) 0 0 ∧ ∃ c_, c_ = io .i64 (.slice (some ⟨g_, 0, none⟩) 0 0) [] ∧ l' = [c_]) (C := fun u l' => ∃ g_, u = .slice (some ⟨g_, 0, none⟩) 0 0 ∧ ∃ c_, c_ = io .i64 (.slice (some ⟨g_, 0, none⟩) 0 0) [] ∧ l' = [c_]) V V V V V V (fun sx hx hF => lay_lit (vs := []) 1 V parts0 V Tryz.underlying25 kr Zg (by intro v hv; cases hv) Zi) (fun u22 l22 hu22 => ?_))))
  obtain ⟨g22, rfl, c22, hc22, hl22⟩ := hu22
  refine df 0 (Sc (fg3 F19)) (dr (fun _ hx _ => (urc t0 (cell_box (v := ov) ((S16.grow hx).ob 6 hc2_16) V))) (dm (Se (fg0 F19)) ?_))
  obtain ⟨B23, O23, C23, hv23⟩ := (SlN.blk (sl_SlN h_ov.at) om)
  refine dv (V_ixS (off := O23 + k * 2) 2 k V (Sa t0) t0 hv23 Zb k23 Tryz.underlying28 kr V) (dv (V_fa (off' := O23 + k * 2 + 0) V t0 Tryz.underlying70 V Zj V) ?_)
  have fn24 : Ro w NoX (il .i64 y23.1.1 y23.1.2) := nst_ro1 n_ov hy23
  have bfn24 := SlN.le (sl_SlN (S16.ro fn24))
  have fn25 : Ro w NoX (il .u64 y23.2.1 y23.2.2) := nst_ro2 n_ov hy23
  have bfn25 := SlN.le (sl_SlN (S16.ro fn25))
  refine dr (fun _ hx _ => (urd y23.1.1 t0 (SlN.row obC_len (sl_SlN ((S16.grow hx).ro h_ov)) hv23 hy23 V 0 _ V))) (D_lay (ts := []) (vs := []) (C0 := fun _ => fun u l' => ∃ v_, u = v_ ∧ ∃ c_, c_ = io .i64 v_ y23.1.2 ∧ l' = [c_]) (C := fun u l' => ∃ v_, u = v_ ∧ ∃ c_, c_ = io .i64 v_ y23.1.2 ∧ l' = [c_]) V V V V V V (fun sx hx hF => lay_app0 (a := (some ⟨g22, 0, none⟩)) 1 V (Sf t0) trivial t0 Tryz.underlying25 Tryz.underlying25 (z := .int .i64 0) (bytes := 8) kr V Zg (sl_SlN ((S16.grow hx).ro fn24)) ones_i Zd Zd) (fun u26 l26 hu26 => ?_))
  obtain ⟨v26, rfl, c26, hc26, hl26⟩ := hu26
  refine D_lay (ts := []) (vs := []) (C0 := fun _ => fun u l' => ∃ g_, u = .slice (some ⟨g_, 0, none⟩) 0 0 ∧ ∃ c_, c_ = io .u64 (.slice (some ⟨g_, 0, none⟩) 0 0) [] ∧ l' = [c_]) (C := fun u l' => ∃ g_, u = .slice (some ⟨g_, 0, none⟩) 0 0 ∧ ∃ c_, c_ = io .u64 (.slice (some ⟨g_, 0, none⟩) 0 0) [] ∧ l' = [c_]) V V V V V V (fun sx hx hF => lay_lit (vs := []) 1 V parts0 V Tryz.underlying68 kr Zg (by intro v hv; cases hv) Zi) (fun u27 l27 hu27 => ?_)
  obtain ⟨g27, rfl, c27, hc27, hl27⟩ := hu27
  refine df 0 (Sh (Sc (fg3 F19))) (dr (fun _ hx _ => (urc t0 (cell_box (v := ov) ((S16.grow hx).ob 6 hc2_16) V))) (dm (Sh (Se (fg0 F19))) (dv (V_ixS (off := O23 + k * 2) 2 k V (Sa t0) t0 hv23 Zb k23 Tryz.underlying28 kr V) (dv (V_fa (off' := O23 + k * 2 + 1) V t0 Tryz.underlying70 V Zj V) (dr (fun _ hx _ => (urd y23.2.1 t0 (SlN.row obC_len (sl_SlN ((S16.grow hx).ro h_ov)) hv23 hy23 V 1 _ V))) (D_lay (ts := []) (vs := []) (C0 := fun _ => fun u l' => ∃ v_, u = v_ ∧ ∃ c_, c_ = io .u64 v_ y23.2.2 ∧ l' = [c_]) (C := fun u l' => ∃ v_, u = v_ ∧ ∃ c_, c_ = io .u64 v_ y23.2.2 ∧ l' = [c_]) V V V V V V (fun sx hx hF => lay_app0 (a := (some ⟨g27, 0, none⟩)) 1 V (Sf t0) trivial t0 Tryz.underlying68 Tryz.underlying68 (z := .int .u64 0) (bytes := 8) kr V Zg (sl_SlN ((S16.grow hx).ro fn25)) ones_i Zd Zd) (fun u29 l29 hu29 => ?_)))))))
  obtain ⟨v29, rfl, c29, hc29, hl29⟩ := hu29
  refine D_r V V kr (fun sx hx hF => by obtain ⟨ll26, ws26, we26, ⟨v26q, hq26, c26_, hc26_, hl26_⟩, hm26, k26, e26⟩ := L.ancF_get (L.ancF_rest (L.ancF_rest hF)) kr; cases hq26; subst hl26_; obtain ⟨ll29, ws29, we29, ⟨v29q, hq29, c29_, hc29_, hl29_⟩, hm29, k29, e29⟩ := L.ancF_get hF kr; cases hq29; subst hl29_; exact ((V_bldS (n := 2) (z := .agg #[.slice none 0 0, .slice none 0 0]) V (parts2 (es8 V (et V)) (et V)) kr (by simp only [List.all_cons, List.all_nil, SlN_one (ow_at ((k26.grow e26).cq 0 hc26_)), SlN_one (ow_at ((k29.grow e29).cq 0 hc29_)), Bool.and_true] <;> rfl) kr Zn : Val _ _ _ _) _)) V V ?_
  have hll30 : [((u26, y23.1.2), (u29, y23.2.2))].length = 1 := rfl
  refine D_lay (ts := [26, 34]) (vs := [u26, u29]) (C0 := fun vs => fun u l' => ∃ g_, u = .slice (some ⟨g_, 0, none⟩) 1 1 ∧ ∃ c_, c_ = ro 2 obC (.slice (some ⟨g_, 0, none⟩) 1 1) [(((vs.getD 0 undef), y23.1.2), ((vs.getD 1 undef), y23.2.2))] ∧ l' = [c_]) (C := fun u l' => ∃ g_, u = .slice (some ⟨g_, 0, none⟩) 1 1 ∧ ∃ c_, c_ = ro 2 obC (.slice (some ⟨g_, 0, none⟩) 1 1) [((u26, y23.1.2), (u29, y23.2.2))] ∧ l' = [c_]) V V V V (ts2 (Sh (Sa t0)) (Sa t0)) V (fun sx hx hF => lay_lit (vs := [.agg #[u26, u29]]) 2 V (parts1 t0) V Tryz.underlying28 kr Zg (by intro v hv; simp only [List.mem_cons, List.not_mem_nil, or_false] at hv; rcases hv with rfl <;> rfl) Zi) (fun u30 l30 hu30 => ?_)
  obtain ⟨g30, rfl, c30, hc30, hl30⟩ := hu30
  refine D_eff V (ZS_eff S16 V V (fun s31 hJ31 hL31 hF31 => ?_))
  obtain ⟨ll22, ws22, we22, ⟨g22q, hq22, c22r, hc22r, hl22r⟩, hm22, k22, e22⟩ := L.all_get (L.all_rest (L.all_rest (L.all_rest (L.all_rest hF31)))); cases hq22; subst hl22r
  replace hJ31 := hJ31.add hL31 (i := 2) V hm22 k22 e22
  obtain ⟨ll26, ws26, we26, ⟨v26q, hq26, c26r, hc26r, hl26r⟩, hm26, k26, e26⟩ := L.all_get (L.all_rest (L.all_rest (L.all_rest hF31))); cases hq26; subst hl26r
  replace hJ31 := hJ31.add hL31 (i := 9) V hm26 k26 e26
  obtain ⟨ll27, ws27, we27, ⟨g27q, hq27, c27r, hc27r, hl27r⟩, hm27, k27, e27⟩ := L.all_get (L.all_rest (L.all_rest hF31)); cases hq27; subst hl27r
  replace hJ31 := hJ31.add hL31 (i := 10) V hm27 k27 e27
  obtain ⟨ll29, ws29, we29, ⟨v29q, hq29, c29r, hc29r, hl29r⟩, hm29, k29, e29⟩ := L.all_get (L.all_rest hF31); cases hq29; subst hl29r
  replace hJ31 := hJ31.add hL31 (i := 17) V hm29 k29 e29
  obtain ⟨ll30, ws30, we30, ⟨g30q, hq30, c30r, hc30r, hl30r⟩, hm30, k30, e30⟩ := L.all_get hF31; cases hq30; subst hl30r
  replace hJ31 := hJ31.add hL31 (i := 19) V hm30 k30 e30
  have S31 := hJ31.st; clear hF31 hJ31 hL31
  generalize s31.1 = w31 at *
  replace S31 : St w NoX [c30r, c29r, c27r, c26r, c22r, c15_16, cb15_16, c14_16, c9_16, c7_16, c3_16, c2_16] w31 := S31
  refine W_appS 2 7 S31 V hc14_16 V V V (Sh (Sh (Sb t0))) t0 Tryz.underlying28 Tryz.underlying28 (z := .agg #[.slice none 0 0, .slice none 0 0]) (bytes := 48) kr V Zg (ow_at (S31.cq 0 hc30r)) (by intro u hu; simp only [List.flatMap_cons, List.flatMap_nil, obC, List.append_nil, List.cons_append, List.nil_append, List.mem_cons, List.not_mem_nil, or_false] at hu; rcases hu with rfl | rfl <;> first | exact SlN_one (ow_at (S31.cq 3 hc26r)) | exact SlN_one (ow_at (S31.cq 1 hc29r))) Zd Zd (fun v32 w32 c32 hc32 S32 => ?_)
  replace hc32 : c32 = ro 2 obC v32 (H ++ [((u26, y23.1.2), (u29, y23.2.2))]) := hc32.trans (app_eqR Zc)
  replace S32 : St w NoX [c30r, c29r, c27r, c26r, c22r, c15_16, cb15_16, c32, c9_16, c7_16, c3_16, c2_16] w32 := S32
  have S33 := S32.se [3, 5, 1, 6, 0, 2, 4, 7, 8, 9, 10, 11] [c26r, c15_16, c29r, cb15_16, c30r, c27r, c22r, c32, c9_16, c7_16, c3_16, c2_16]
  rw [hc26r, hc15_16, hc29r, hcb15_16] at S33
  obtain ⟨c34, cb34, hc34, hcb34, S34⟩ := gen2 (nst_push (pv := u26) (ps := y23.1.2) (qv := u29) (qs := y23.2.2) (O := H) S33)
  replace hc34 : c34 = owl .i64 ((H ++ [((u26, y23.1.2), (u29, y23.2.2))]).map (·.1)) := hc34
  replace hcb34 : cb34 = owl .u64 ((H ++ [((u26, y23.1.2), (u29, y23.2.2))]).map (·.2)) := hcb34
  refine fa 0 (Sh (Sh (Se (fg1 F19)))) (xsC6 (zs' := #[v32, v7]) S34 hc9_16 V V V t0 (Sa t0) (SlN_one (ow_at (S34.cq 5 hc32))) (fun w35 c35 hc35 S35 => W_end (Qo_normal (en (Qf (Qh (Qh F19))) fun A36 _ F36 => ?_))))
  have S37 := S35.se [0, 1, 5, 6, 7, 8, 9] [c34, cb34, c32, c35, c7_16, c3_16, c2_16]
  refine inb_n (tk H21 (region_in (vm (fg0 F36) (ad t0 V (vt (W_end (en (Ka (Qb (fx0 F36))) fun A38 Y38 F38 => then_n ⟨O.length - (k + 1), by simp only [hm16]; omega, Y38, F38.d, (k + 1), v32, (H ++ [((u26, y23.1.2), (u29, y23.2.2))]), rfl, Zb, (mp_snoc hH hy23 V), ((fg0 F38).trans Za), ((fg3 F38).trans (fg3 F13).symm), ((fg2 F38).trans (fg2 F13).symm), ((fg1 F38).trans (fg1 F13).symm), (by subst hc34 hcb34 hc32 hc35 hc7_16 hc3_16 hc2_16; exact S37)⟩)))))))
 refine wp_exit (then_exit (then_exit (inb_hit (ta H11 fun _ H39 => (ra (fg1 F19) (S16.ob 3 hc9_16) (xsB 5 S16 V hc3_16 V V V (Sa (fg2 F19)) t0 (by simp only [List.all_toArray, List.all_cons, List.all_nil, obC, SlN_one (ow_at (S16.cq 2 hc14_16)), SlN_one (ow_at (S16.cq 4 hc7_16))] <;> rfl) (fun w40 c40 hc40 S40 => ?_)))))))
 replace S40 : St w NoX [c15_16, cb15_16, c14_16, c9_16, c7_16, c40, c2_16] w40 := S40
 refine W_end (en (Qa F19) fun A41 _ F41 => tk H39 (wp_ret (rt1 F41 (rvA (fg2 F41) (S40.ob 5 hc40)) ?_)))
 exact ⟨_, _, _, rfl, mp_done hH Zb, (S40.f4 2 hc14_16 0 hc15_16 1 hcb15_16 4 hc7_16)⟩

end Go.Proofs.YtpgkfndbfocibaaGreat
namespace Go.Own.Gr
open Go Go.Own Go.Own.R Go.Own.G
def chE (O : List Ab) (rs ns : List Int) (er : Int) : Int := if ckd O rs ns ≠ 0 then ckd O rs ns else er
def chO (O : List Ab) (rs ns : List Int) (er : Int) (O2 : List Ab) : List Ab := if ckd O rs ns ≠ 0 then [] else if er ≠ 0 then [] else O2
def chR (O : List Ab) (rs ns : List Int) (er : Int) (R2 : List Int) : List Int := if ckd O rs ns ≠ 0 then [] else if er ≠ 0 then [] else R2
section
variable {O O2 O' : List Ab} {rs ns R2 R' : List Int} {er a b f p r x : Int} {E : Int}
theorem ch_ck (h : ckd O rs ns ≠ 0) : chE O rs ns er = ckd O rs ns ∧ chO O rs ns er O2 = [] ∧ chR O rs ns er R2 = [] := by unfold chE chO chR; rw [if_pos h, if_pos h, if_pos h]; exact ⟨rfl, rfl, rfl⟩
theorem ch_er (h : ckd O rs ns = 0) (h2 : er ≠ 0) : chE O rs ns er = er ∧ chO O rs ns er O2 = [] ∧ chR O rs ns er R2 = [] := by
 unfold chE chO chR; simp [h, h2]
theorem ch_ok (h : ckd O rs ns = 0) (h2 : er = 0) : chE O rs ns er = 0 ∧ chO O rs ns er O2 = O2 ∧ chR O rs ns er R2 = R2 := by
 unfold chE chO chR; simp [h, h2]
theorem ch_gen (hk : ckd O rs ns ≠ 0 → E = ckd O rs ns ∧ O' = [] ∧ R' = []) (hi : ckd O rs ns = 0 → (er ≠ 0 → E = er ∧ O' = [] ∧ R' = []) ∧ (er = 0 → E = 0 ∧ O' = O2 ∧ R' = R2)) : chE O rs ns er = E ∧ chO O rs ns er O2 = O' ∧ chR O rs ns er R2 = R' := by
 by_cases h : ckd O rs ns = 0
 ·by_cases h2 : er = 0
  ·obtain ⟨q1, q2, q3⟩ := ch_ok (O2 := O2) (R2 := R2) h h2
   obtain ⟨p1, p2, p3⟩ := (hi h).2 h2
   exact ⟨q1.trans p1.symm, q2.trans p2.symm, q3.trans p3.symm⟩
  ·obtain ⟨q1, q2, q3⟩ := ch_er (O2 := O2) (R2 := R2) h h2
   obtain ⟨p1, p2, p3⟩ := (hi h).1 h2
   exact ⟨q1.trans p1.symm, q2.trans p2.symm, q3.trans p3.symm⟩
 ·obtain ⟨q1, q2, q3⟩ := ch_ck (er := er) (O2 := O2) (R2 := R2) h
  obtain ⟨p1, p2, p3⟩ := hk h
  exact ⟨q1.trans p1.symm, q2.trans p2.symm, q3.trans p3.symm⟩
theorem ch_al : chE O rs [a] (alX p r O.length) = alE O rs a p r ∧ chO O rs [a] (alX p r O.length) (alI p r O) = alO O rs a p r ∧ chR O rs [a] (alX p r O.length) (alJ a p r O rs) = alR O rs a p r := ch_gen al_ck al_in
theorem ch_ld : chE O rs [a, b] (ldX O rs b f) = ptE O rs [a, b] b f ∧ chO O rs [a, b] (ldX O rs b f) O = ldO O rs a b f ∧ chR O rs [a, b] (ldX O rs b f) (ldJ O rs a b f) = ldR O rs a b f := ch_gen ld_ck ld_in
theorem ch_so : chE O rs [a, b] (ldX O rs a f) = ptE O rs [a, b] a f ∧ chO O rs [a, b] (ldX O rs a f) (soI O rs a f b) = soO O rs a f b ∧ chR O rs [a, b] (ldX O rs a f) rs = soR O rs a f b := ch_gen so_ck so_in
theorem ch_wr : chE O rs [a] (wrX O rs a f) = rwE O rs [a] a f ∧ chO O rs [a] (wrX O rs a f) (wrI O rs a f x) = wrO O rs a f x ∧ chR O rs [a] (wrX O rs a f) rs = wrR O rs a f := ch_gen wr_ck wr_in
theorem ch_mv : chE O rs [a, b] 0 = ckd O rs [a, b] ∧ chO O rs [a, b] 0 O = kpO O rs [a, b] ∧ chR O rs [a, b] 0 (rs.set a.toNat (rg rs b)) = mvR O rs a b := ch_gen (fun h => ⟨rfl, (mv_ck h).2⟩) fun h => ⟨fun q => absurd rfl q, fun _ => ⟨h, mv_k h⟩⟩
theorem ch_cl : chE O rs [a] 0 = ckd O rs [a] ∧ chO O rs [a] 0 O = kpO O rs [a] ∧ chR O rs [a] 0 (rs.set a.toNat 0) = clR O rs a := ch_gen (fun h => ⟨rfl, (cl_ck h).2⟩) fun h => ⟨fun q => absurd rfl q, fun _ => ⟨h, cl_k h⟩⟩
end
end Go.Own.Gr

namespace Go.Proofs.YtpgkfndbfocibaaGreat
open Go.RowKit Go.Own Go.Own.R Go.Own.G Go.Own.Gr


set_option maxHeartbeats 4000000 in
theorem kAl1_c {ov : Value} {O : List Ob} {rv : Value} {rs : List Int} {gov : Nat} {p : Int} {gp : Nat} {r : Int} {gr : Nat} {a : Int} {ga : Nat} {w : World} {Y : Nat → Prop} (hb_p : Ro w Y (bx gp 3 #[.int .i64 p])) (hb_r : Ro w Y (bx gr 3 #[.int .i64 r])) (hb_a : Ro w Y (bx ga 3 #[.int .i64 a])) (hS : St w Y [bx gov 30 #[ov, rv], ro 2 obC ov O, owl .i64 (O.map (·.1)), owl .u64 (O.map (·.2)), io .i64 rv rs] w) (ha : 0 ≤ a ∧ a < (rs.length : Int)) (hol : O.length ≤ 400) :
  Calls Tryz.prog 117 #[.pointer (some ⟨gov, 0, none⟩), .pointer (some ⟨gp, 0, none⟩), .pointer (some ⟨gr, 0, none⟩), .pointer (some ⟨ga, 0, none⟩)] w fun e w' => ∃ hv H qv, e = .returned (.int .i64 (alX p r (O.map ab).length)) ∧ (H.map ab = alI p r (O.map ab)) ∧ St w Y [bx gov 30 #[hv, qv], ro 2 obC hv H, owl .i64 (H.map (·.1)), owl .u64 (H.map (·.2)), io .i64 (qv) (alJ a p r (O.map ab) rs)] w' := by
 refine ci4 55 Tryz.func117 V (fun A0 _ F0 => ?_)
 obtain ⟨mb_ov, m_ov, mp_ov, mq_ov, m_rv, hmb_ov, hm_ov, hmp_ov, hmq_ov, hm_rv, hS⟩ := gen5 hS
 have bm_ov := SlN.le (ow_at (hS.cq 1 hm_ov))
 have bm_rv := SlN.le (ow_at (hS.cq 4 hm_rv))
 refine tb fun _ H1 => (vc (W_end (en (Qa F0) fun A2 _ F2 => tc H1 fun _ H3 => wp_block (tb fun _ H4 => (rc (fg1 F2) (cell_box (v := .int .i64 (p)) (ob_at (hS.ro hb_p)) V) (vl t0 V (W_split V V (V_mov V t0) (fun c5 => ?_) (fun c5 => ?_))))))))
 ·refine xo V t0 (xo V (Sa t0) (vT (Sb t0) V (vt (W_end (en (Ka (Qf F2)) fun A6 _ F6 => tk H4 (cond_t (fg0 F6) (tb fun _ H7 => (vc (W_end (en (Ka F6) fun A8 _ F8 => tk H7 (wp_ret (inb_ret (then_ret (rt1 F8 (rv_tmp (fg0 F8)) ?_))))))))))))))
  have h : (alX p r (O.map ab).length) = 10 := alX_bad Zb
  have q := al_I (a := a) (rs := rs) (L := (O.map ab)) (p := p) (r := r) (by rw [h]; decide)
  rw [h, q.1]
  exact ⟨_, O, _, rfl, rfl, (hS.fin5 0 V (hmb_ov) 1 V (hm_ov) 2 V (hmp_ov) 3 V (hmq_ov) 4 V (hm_rv.trans (by rw [q.2])) Zg)⟩
 refine wq V t0 (urc (Sc (fg2 F2)) (cell_box (v := .int .i64 (r)) (ob_at (hS.ro hb_r)) V)) (wg V (Sa t0) (uvl t0 V) (vF (Sb t0) t0 (vt (W_end (en (Ka (Qf F2)) fun A9 _ F9 => tk H4 (cd (fg0 F9) (fun c10 => ?_) fun c10 => ?_))))))
 ·refine tb fun _ H11 => (vc (W_end (en (Ka F9) fun A12 _ F12 => tk H11 (wp_ret (inb_ret (then_ret (rt1 F12 (rv_tmp (fg0 F12)) ?_)))))))
  have h : (alX p r (O.map ab).length) = 10 := alX_bad Zb
  have q := al_I (a := a) (rs := rs) (L := (O.map ab)) (p := p) (r := r) (by rw [h]; decide)
  rw [h, q.1]
  exact ⟨_, O, _, rfl, rfl, (hS.fin5 0 V (hmb_ov) 1 V (hm_ov) 2 V (hmp_ov) 3 V (hmq_ov) 4 V (hm_rv.trans (by rw [q.2])) Zg)⟩
 refine tb fun _ H13 => (rc (fg2 F9) (cell_box (v := .int .i64 (p)) (ob_at (hS.ro hb_p)) V) (vg t0 V (W_split V V (V_mov V t0) (fun c14 => ?_) (fun c14 => ?_))))
 ·refine xo V t0 (xo V (Sa t0) (xo V (Sb t0) (xo V (Sc t0) (xo V (Sd t0) (vT (Se t0) V (vt (W_end (en (Ka (Qa (Qh F9))) fun A15 _ F15 => tk H13 (cond_t (fg0 F15) (tb fun _ H16 => (vc (W_end (en (Ka F15) fun A17 _ F17 => tk H16 (wp_ret (inb_ret (then_ret (rt1 F17 (rv_tmp (fg0 F17)) ?_)))))))))))))))))
  have h : (alX p r (O.map ab).length) = 11 := alX_big Zb Zb
  have q := al_I (a := a) (rs := rs) (L := (O.map ab)) (p := p) (r := r) (by rw [h]; decide)
  rw [h, q.1]
  exact ⟨_, O, _, rfl, rfl, (hS.fin5 0 V (hmb_ov) 1 V (hm_ov) 2 V (hmp_ov) 3 V (hmq_ov) 4 V (hm_rv.trans (by rw [q.2])) Zg)⟩
 refine wq V t0 (urc (Sc (fg2 F9)) (cell_box (v := .int .i64 (p)) (ob_at (hS.ro hb_p)) V)) (wq V (Sa t0) (urc (Sd (fg3 F9)) (cell_box (v := .int .i64 (r)) (ob_at (hS.ro hb_r)) V)) (wg V (Sb t0) (V_min V t0 V) (wg V (Sc t0) (uad (Sb t0) t0) (wg V (Sd t0) (uvg t0 V) (vF (Se t0) t0 (vt (W_end (en (Ka (Qa (Qh F9))) fun A18 _ F18 => tk H13 (cd (fg0 F18) (fun c19 => ?_) fun c19 => ?_)))))))))
 ·refine tb fun _ H20 => (vc (W_end (en (Ka F18) fun A21 _ F21 => tk H20 (wp_ret (inb_ret (then_ret (rt1 F21 (rv_tmp (fg0 F21)) ?_)))))))
  have h : (alX p r (O.map ab).length) = 11 := alX_big Zb Zb
  have q := al_I (a := a) (rs := rs) (L := (O.map ab)) (p := p) (r := r) (by rw [h]; decide)
  rw [h, q.1]
  exact ⟨_, O, _, rfl, rfl, (hS.fin5 0 V (hmb_ov) 1 V (hm_ov) 2 V (hmp_ov) 3 V (hmq_ov) 4 V (hm_rv.trans (by rw [q.2])) Zg)⟩
 refine tb fun _ H22 => (vm (fg2 F18) (ni t0 (fa 0 t0 (rL ov t0 (hS.ob 0 hmb_ov) (le_ t0 (ow_at (hS.cq 1 hm_ov)) (ve t0 V (vt (W_end (en (Ka (Qf F18)) fun A23 _ F23 => tk H22 (cd (fg0 F23) (fun c24 => ?_) fun c24 => ?_))))))))))
 ·refine tb fun _ H25 => (vc (W_end (en (Ka F23) fun A26 _ F26 => tk H25 (wp_ret (inb_ret (then_ret (rt1 F26 (rv_tmp (fg0 F26)) ?_)))))))
  have h : (alX p r (O.map ab).length) = 5 := alX_full Zb Zb Zp
  have q := al_I (a := a) (rs := rs) (L := (O.map ab)) (p := p) (r := r) (by rw [h]; decide)
  rw [h, q.1]
  exact ⟨_, O, _, rfl, rfl, (hS.fin5 0 V (hmb_ov) 1 V (hm_ov) 2 V (hmp_ov) 3 V (hmq_ov) 4 V (hm_rv.trans (by rw [q.2])) Zg)⟩
 refine wp_skip (inb_n (tc H3 fun _ H27 => region_monoS 11 12 [none, none, none, none, none, none, some (SPv [] (fun _ => fun u l' => ∃ v, u = v ∧ ∃ c, c = ow 1 p.toNat v (List.replicate p.toNat (.int .i64 0)) ∧ l' = [c]) 6), none, some (SPv [] (fun _ => fun u l' => ∃ v, u = v ∧ ∃ c, c = ow 1 r.toNat v (List.replicate r.toNat (.int .u64 0)) ∧ l' = [c]) 8), none, some (SPv [36, 38] (fun vs => fun u l' => ∃ g_, u = .slice (some ⟨g_, 0, none⟩) 1 1 ∧ ∃ c_, c_ = ro 2 obC (.slice (some ⟨g_, 0, none⟩) 1 1) [(((vs.getD 0 undef), (List.replicate p.toNat (0 : Int))), ((vs.getD 1 undef), (List.replicate r.toNat (0 : Int))))] ∧ l' = [c_]) 10)] kr kr (dm (fg3 F23) (dm (Sa (fg3 F23)) (dn t0 (df 0 t0 (dr (fun _ hx _ => (urc t0 (cell_box (v := ov) ((hS.grow hx).ob 0 hmb_ov) V))) (dr (fun _ hx _ => (urc (Se (fg4 F23)) (cell_box (v := .int .i64 (p)) (ob_at ((hS.grow hx).ro hb_p)) V))) (D_lay (ts := []) (vs := []) (C0 := fun _ => fun u l' => ∃ v, u = v ∧ ∃ c, c = ow 1 p.toNat v (List.replicate p.toNat (.int .i64 0)) ∧ l' = [c]) (C := fun u l' => ∃ v, u = v ∧ ∃ c, c = ow 1 p.toNat v (List.replicate p.toNat (.int .i64 0)) ∧ l' = [c]) V V V V V V (fun sx hx hF => lay_mk (z := .int .i64 0) (bytes := 8) p.toNat V t0 t0 Zb Tryz.underlying25 kr Zb V) (fun u28 l28 hu28 => ?_))))))))))
 obtain ⟨v28, rfl, c28, hc28, hl28⟩ := hu28
 replace hc28 : c28 = io .i64 u28 (List.replicate p.toNat (0 : Int)) := hc28.trans (by simp only [io, bo, List.map_replicate, List.length_replicate])
 refine dr (fun _ hx _ => (urc (Sg (fg5 F23)) (cell_box (v := .int .i64 (r)) (ob_at ((hS.grow hx).ro hb_r)) V))) (D_lay (ts := []) (vs := []) (C0 := fun _ => fun u l' => ∃ v, u = v ∧ ∃ c, c = ow 1 r.toNat v (List.replicate r.toNat (.int .u64 0)) ∧ l' = [c]) (C := fun u l' => ∃ v, u = v ∧ ∃ c, c = ow 1 r.toNat v (List.replicate r.toNat (.int .u64 0)) ∧ l' = [c]) V V V V V V (fun sx hx hF => lay_mk (z := .int .u64 0) (bytes := 8) r.toNat V t0 t0 Zb Tryz.underlying68 kr Zb V) (fun u29 l29 hu29 => ?_))
 obtain ⟨v29, rfl, c29, hc29, hl29⟩ := hu29
 replace hc29 : c29 = io .u64 u29 (List.replicate r.toNat (0 : Int)) := hc29.trans (by simp only [io, bo, List.map_replicate, List.length_replicate])
 refine D_r V V kr (fun sx hx hF => by obtain ⟨ll28, ws28, we28, ⟨v28q, hq28, c28_, hc28_, hl28_⟩, hm28, k28, e28⟩ := L.ancF_get (L.ancF_rest hF) kr; cases hq28; subst hl28_; obtain ⟨ll29, ws29, we29, ⟨v29q, hq29, c29_, hc29_, hl29_⟩, hm29, k29, e29⟩ := L.ancF_get hF kr; cases hq29; subst hl29_; exact ((V_bldS (n := 2) (z := .agg #[.slice none 0 0, .slice none 0 0]) V (parts2 (es2 V (et V)) (et V)) kr (by simp only [List.all_cons, List.all_nil, SlN_one (ow_at ((k28.grow e28).cq 0 hc28_)), SlN_one (ow_at ((k29.grow e29).cq 0 hc29_)), Bool.and_true] <;> rfl) kr Zn : Val _ _ _ _) _)) V V ?_
 have hll30 : [((u28, (List.replicate p.toNat (0 : Int))), (u29, (List.replicate r.toNat (0 : Int))))].length = 1 := rfl
 refine D_lay (ts := [36, 38]) (vs := [u28, u29]) (C0 := fun vs => fun u l' => ∃ g_, u = .slice (some ⟨g_, 0, none⟩) 1 1 ∧ ∃ c_, c_ = ro 2 obC (.slice (some ⟨g_, 0, none⟩) 1 1) [(((vs.getD 0 undef), (List.replicate p.toNat (0 : Int))), ((vs.getD 1 undef), (List.replicate r.toNat (0 : Int))))] ∧ l' = [c_]) (C := fun u l' => ∃ g_, u = .slice (some ⟨g_, 0, none⟩) 1 1 ∧ ∃ c_, c_ = ro 2 obC (.slice (some ⟨g_, 0, none⟩) 1 1) [((u28, (List.replicate p.toNat (0 : Int))), (u29, (List.replicate r.toNat (0 : Int))))] ∧ l' = [c_]) V V V V (ts2 (Sc t0) (Sa t0)) V (fun sx hx hF => lay_lit (vs := [.agg #[u28, u29]]) 2 V (parts1 t0) V Tryz.underlying28 kr Zg (by intro v hv; simp only [List.mem_cons, List.not_mem_nil, or_false] at hv; rcases hv with rfl <;> rfl) Zi) (fun u30 l30 hu30 => ?_)
 obtain ⟨g30, rfl, c30, hc30, hl30⟩ := hu30
 refine D_eff V (ZS_eff hS V V (fun s31 hJ31 hL31 hF31 => ?_))
 obtain ⟨ll28, ws28, we28, ⟨v28q, hq28, c28r, hc28r, hl28r⟩, hm28, k28, e28⟩ := L.all_get (L.all_rest (L.all_rest hF31)); cases hq28; subst hl28r
 replace hJ31 := hJ31.add hL31 (i := 6) V hm28 k28 e28
 replace hc28r : c28r = io .i64 u28 (List.replicate p.toNat (0 : Int)) := hc28r.trans (by simp only [io, bo, List.map_replicate, List.length_replicate])
 obtain ⟨ll29, ws29, we29, ⟨v29q, hq29, c29r, hc29r, hl29r⟩, hm29, k29, e29⟩ := L.all_get (L.all_rest hF31); cases hq29; subst hl29r
 replace hJ31 := hJ31.add hL31 (i := 8) V hm29 k29 e29
 replace hc29r : c29r = io .u64 u29 (List.replicate r.toNat (0 : Int)) := hc29r.trans (by simp only [io, bo, List.map_replicate, List.length_replicate])
 obtain ⟨ll30, ws30, we30, ⟨g30q, hq30, c30r, hc30r, hl30r⟩, hm30, k30, e30⟩ := L.all_get hF31; cases hq30; subst hl30r
 replace hJ31 := hJ31.add hL31 (i := 10) V hm30 k30 e30
 have S31 := hJ31.st; clear hF31 hJ31 hL31
 generalize s31.1 = w31 at *
 replace S31 : St w Y [c30r, c29r, c28r, mb_ov, m_ov, mp_ov, mq_ov, m_rv] w31 := S31
 refine W_appS 2 4 S31 V hm_ov V V V (Sf t0) t0 Tryz.underlying28 Tryz.underlying28 (z := .agg #[.slice none 0 0, .slice none 0 0]) (bytes := 48) kr V Zg (ow_at (S31.cq 0 hc30r)) (by intro u hu; simp only [List.flatMap_cons, List.flatMap_nil, obC, List.append_nil, List.cons_append, List.nil_append, List.mem_cons, List.not_mem_nil, or_false] at hu; rcases hu with rfl | rfl <;> first | exact SlN_one (ow_at (S31.cq 2 hc28r)) | exact SlN_one (ow_at (S31.cq 1 hc29r))) Zd Zd (fun v32 w32 c32 hc32 S32 => ?_)
 replace hc32 : c32 = ro 2 obC v32 (O ++ [((u28, (List.replicate p.toNat (0 : Int))), (u29, (List.replicate r.toNat (0 : Int))))]) := hc32.trans (app_eqR Zc)
 replace S32 : St w Y [c30r, c29r, c28r, mb_ov, c32, mp_ov, mq_ov, m_rv] w32 := S32
 have S33 := S32.se [2, 5, 1, 6, 0, 3, 4, 7] [c28r, mp_ov, c29r, mq_ov, c30r, mb_ov, c32, m_rv]
 rw [hc28r, hmp_ov, hc29r, hmq_ov] at S33
 obtain ⟨c34, cb34, hc34, hcb34, S34⟩ := gen2 (nst_push (pv := u28) (ps := (List.replicate p.toNat (0 : Int))) (qv := u29) (qs := (List.replicate r.toNat (0 : Int))) (O := O) S33)
 replace hc34 : c34 = owl .i64 ((O ++ [((u28, (List.replicate p.toNat (0 : Int))), (u29, (List.replicate r.toNat (0 : Int))))]).map (·.1)) := hc34
 replace hcb34 : cb34 = owl .u64 ((O ++ [((u28, (List.replicate p.toNat (0 : Int))), (u29, (List.replicate r.toNat (0 : Int))))]).map (·.2)) := hcb34
 refine ni (Sh (Sc t0)) (fa 0 t0 (xsC3 (zs' := #[v32, rv]) S34 hmb_ov V V V t0 (Sb t0) (SlN_one (ow_at (S34.cq 4 hc32))) (fun w35 c35 hc35 S35 => W_end (Qo_normal (en (Qf (Qh F23)) fun A36 _ F36 => ?_)))))
 have S37 := S35.se [0, 1, 3, 4, 5] [c34, cb34, c35, c32, m_rv]
 refine tc H27 fun _ H38 => region_monoS 11 12 [] kr kr (dm (fg3 F36) (dn t0 (df 1 t0 (dr (fun _ hx _ => (urc t0 (cell_box (v := rv) ((S37.grow hx).ob 2 hc35) V))) (dr (fun _ hx _ => (urc (Sd (fg6 F36)) (cell_box (v := .int .i64 (a)) (ob_at ((S37.grow hx).ro hb_a)) V))) (dm (Se (fg3 F36)) (dn t0 (df 0 t0 (dr (fun _ hx _ => (urc t0 (cell_box (v := v32) ((S37.grow hx).ob 2 hc35) V))) (dv (ule_ t0 (ow_at (S37.cq 3 hc32))) ?_))))))))))
 have k39 : a.toNat < rs.length := om
 obtain ⟨y39, hy39⟩ := get_some (xs := rs) (k := a.toNat) k39
 obtain ⟨B39, O39, C39, hv39⟩ := (SlN.blk (ow_at (S37.chq 4 rfl hm_rv)) om)
 refine dv (V_ixS (off := O39 + a.toNat) 1 a.toNat V (Sf t0) (Se t0) hv39 Zb k39 Tryz.underlying25 kr (congrArg _ (Nat.mul_one _))) (D_eff V (ZS_eff S37 V V (fun s40 hJ40 hL40 hF40 => ?_)))
 have S40 := hJ40.st; clear hF40 hJ40 hL40
 generalize s40.1 = w40 at *
 replace S40 : St w Y [c34, cb34, c35, c32, m_rv] w40 := S40
 refine W_stE 4 S40 V hm_rv hv39 V V V t0 (Sa t0) Zi V Zq kr (fun w41 c41 hc41 S41 => ?_)
 replace hc41 : c41 = io .i64 rv (rs.set a.toNat ((O ++ [((u28, (List.replicate p.toNat (0 : Int))), (u29, (List.replicate r.toNat (0 : Int))))]).length : Int)) := hc41.trans (by simp [io, bo, List.map_set] <;> rfl)
 replace S41 : St w Y [c34, cb34, c35, c32, c41] w41 := S41
 refine W_end (Qo_normal (en (Qc (Qh F36)) fun A42 _ F42 => ta H38 fun _ H43 => (vc (W_end (en (Ka F42) fun A44 _ F44 => tk H43 (wp_ret (rt1 F44 (rv_tmp (fg0 F44)) ?_)))))))
 have h : (alX p r (O.map ab).length) = 0 := alX_ok Zb Zb Zp
 have q := al_J (a := a) (rs := rs) (L := (O.map ab)) h
 rw [h, q.1]
 exact ⟨_, (O ++ [((u28, (List.replicate p.toNat (0 : Int))), (u29, (List.replicate r.toNat (0 : Int))))]), _, rfl, al_map, (S41.fin5 2 V (hc35) 3 V (hc32) 0 V (hc34) 1 V (hcb34) 4 V (hc41.trans ((congrArg (fun z => io .i64 _ (rs.set a.toNat z)) (show _ = (((O.map ab).length : Nat) : Int) + 1 by simp)).trans (by rw [q.2]))) Zg)⟩

set_option maxHeartbeats 4000000 in
theorem kLd1_c {ov : Value} {O : List Ob} {rv : Value} {rs : List Int} {gov : Nat} {b : Int} {gb : Nat} {f : Int} {gf : Nat} {a : Int} {ga : Nat} {w : World} {Y : Nat → Prop} (hb_b : Ro w Y (bx gb 3 #[.int .i64 b])) (hb_f : Ro w Y (bx gf 3 #[.int .i64 f])) (hb_a : Ro w Y (bx ga 3 #[.int .i64 a])) (hS : St w Y [bx gov 30 #[ov, rv], ro 2 obC ov O, owl .i64 (O.map (·.1)), owl .u64 (O.map (·.2)), io .i64 rv rs] w) (hrg : ∀ p ∈ rs, 0 ≤ p ∧ p ≤ (O.length : Int)) (ha : 0 ≤ a ∧ a < (rs.length : Int)) (hb : 0 ≤ b ∧ b < (rs.length : Int)) :
  Calls Tryz.prog 101 #[.pointer (some ⟨gov, 0, none⟩), .pointer (some ⟨gb, 0, none⟩), .pointer (some ⟨gf, 0, none⟩), .pointer (some ⟨ga, 0, none⟩)] w fun e w' => ∃ hv H qv, e = .returned (.int .i64 (ldX (O.map ab) rs b f)) ∧ (H.map ab = (O.map ab)) ∧ St w Y [bx gov 30 #[hv, qv], ro 2 obC hv H, owl .i64 (H.map (·.1)), owl .u64 (H.map (·.2)), io .i64 (qv) (ldJ (O.map ab) rs a b f)] w' := by
 refine ci4 22 Tryz.func101 V (fun A0 _ F0 => ?_)
 obtain ⟨mb_ov, m_ov, mp_ov, mq_ov, m_rv, hmb_ov, hm_ov, hmp_ov, hmq_ov, hm_rv, hS⟩ := gen5 hS
 have bm_ov := SlN.le (ow_at (hS.cq 1 hm_ov))
 have bm_rv := SlN.le (ow_at (hS.cq 4 hm_rv))
 refine tb fun _ H1 => (vc (W_end (en (Qa F0) fun A2 _ F2 => ta H1 fun _ H3 => (vm (fg0 F2) (rc (Sa (fg1 F2)) (cell_box (v := .int .i64 (b)) (ob_at (hS.ro hb_b)) V) (rc (Sb (fg2 F2)) (cell_box (v := .int .i64 (f)) (ob_at (hS.ro hb_f)) V) (wc (args3 (Sb t0) (Sa t0) t0) (kpt_c (gov := gov) (a := b) (f := f) (hS.cC 1 hm_ov).own (nst_of (hS.cC 2 hmp_ov) (hS.cC 3 hmq_ov)) (hS.cC 4 hm_rv).own (hS.cC 0 hmb_ov) (by first | with_reducible assumption | (have q := hG.reg; simpa using q)) Zm) ?_)))))))
 rintro _ w4 (⟨rfl, hz_4, hP4⟩ | ⟨B_4, O_4, C_4, y_4, x_4, rfl, hv_4, hy_4, hx_4, hz_4, hob_4, hP4⟩)
 ·refine ⟨_, rfl, ?_⟩
  have S4 := hS.j0 hP4
  refine vt (W_end (en (Ka (Qd F2)) fun A5 _ F5 => tc H3 fun _ H6 => tb fun _ H7 => (vm (fg0 F5) (wv (V_eqNN V t0 V Tryz.underlying104) (W_end (en (Ka (Qa F5)) fun A8 _ F8 => tk H7 (cond_t (fg0 F8) (tb fun _ H9 => (vc (W_end (en (Ka F8) fun A10 _ F10 => tk H9 (wp_ret (then_ret (rt1 F10 (rv_tmp (fg0 F10)) ?_))))))))))))))
  rw [ldX_n hz_4]
  exact ⟨_, O, _, rfl, rfl, (S4.fin5 0 V (hmb_ov) 1 V (hm_ov) 2 V (hmp_ov) 3 V (hmq_ov) 4 V (hm_rv.trans (by rw [ldJ_n hz_4])) Zg)⟩
 refine ⟨_, rfl, ?_⟩
 have S4 := hS.j0 hP4
 have bfn11 := SlN.le (sl_SlN (owl_at (mapE (g := (·.1)) hy_4) (S4.cq 2 hmp_ov)))
 have bfn12 := SlN.le (sl_SlN (owl_at (mapE (g := (·.2)) hy_4) (S4.cq 3 hmq_ov)))
 refine vt (W_end (en (Ka (Qd F2)) fun A13 _ F13 => tc H3 fun _ H14 => tb fun _ H15 => (vm (fg0 F13) (wv (V_eqPN V t0 V Tryz.underlying104) (W_end (en (Ka (Qa F13)) fun A16 _ F16 => tk H15 (cond_f (fg0 F16) (wp_skip (tc H14 fun _ H17 => region_monoS 9 10 [] kr kr (dm (fg2 F16) (dn t0 (df 1 t0 (dr (fun _ hx _ => (urc t0 (cell_box (v := rv) ((S4.grow hx).ob 0 hmb_ov) V))) (dr (fun _ hx _ => (urc (Sd (fg5 F16)) (cell_box (v := .int .i64 (a)) (ob_at ((S4.grow hx).ro hb_a)) V))) (dm (Se (fg1 F16)) (dn t0 (dr (fun _ hx _ => (urc t0 ((sl_SlN (owl_at (mapE (g := (·.1)) hy_4) ((S4.grow hx).cq 2 hmp_ov))).cell hv_4 (map_get hx_4)))) ?_)))))))))))))))))
 have k18 : a.toNat < rs.length := om
 obtain ⟨y18, hy18⟩ := get_some (xs := rs) (k := a.toNat) k18
 obtain ⟨B18, O18, C18, hv18⟩ := (SlN.blk (ow_at (S4.chq 4 rfl hm_rv)) om)
 refine dv (V_ixS (off := O18 + a.toNat) 1 a.toNat V (Sd t0) (Sc t0) hv18 Zb k18 Tryz.underlying25 kr (congrArg _ (Nat.mul_one _))) (D_eff V (ZS_eff S4 V V (fun s19 hJ19 hL19 hF19 => ?_)))
 have S19 := hJ19.st; clear hF19 hJ19 hL19
 generalize s19.1 = w19 at *
 replace S19 : St w Y [mb_ov, m_ov, mp_ov, mq_ov, m_rv] w19 := S19
 refine W_stE 4 S19 V hm_rv hv18 V V V t0 (Sa t0) Zi V Zq kr (fun w20 c20 hc20 S20 => ?_)
 replace hc20 : c20 = io .i64 rv (rs.set a.toNat x_4) := hc20.trans (by simp [io, bo, List.map_set] <;> rfl)
 replace S20 : St w Y [mb_ov, m_ov, mp_ov, mq_ov, c20] w20 := S20
 refine W_end (Qo_normal (en (Qa (Qh F16)) fun A21 _ F21 => ta H17 fun _ H22 => (vc (W_end (en (Ka F21) fun A23 _ F23 => tk H22 (wp_ret (rt1 F23 (rv_tmp (fg0 F23)) ?_)))))))
 rw [ldX_k hz_4]
 exact ⟨_, O, _, rfl, rfl, (S20.fin5 0 V (hmb_ov) 1 V (hm_ov) 2 V (hmp_ov) 3 V (hmq_ov) 4 V (hc20.trans ((congrArg (fun z => io .i64 _ (rs.set a.toNat z)) (getD_at hx_4).symm).trans (by rw [ldJ_k hz_4, hob_4] <;> rfl))) Zg)⟩

set_option maxHeartbeats 4000000 in
theorem kSo1_c {ov : Value} {O : List Ob} {rv : Value} {rs : List Int} {gov : Nat} {a : Int} {ga : Nat} {f : Int} {gf : Nat} {b : Int} {gb : Nat} {w : World} {Y : Nat → Prop} (hb_a : Ro w Y (bx ga 3 #[.int .i64 a])) (hb_f : Ro w Y (bx gf 3 #[.int .i64 f])) (hb_b : Ro w Y (bx gb 3 #[.int .i64 b])) (hS : St w Y [bx gov 30 #[ov, rv], ro 2 obC ov O, owl .i64 (O.map (·.1)), owl .u64 (O.map (·.2)), io .i64 rv rs] w) (hrg : ∀ p ∈ rs, 0 ≤ p ∧ p ≤ (O.length : Int)) (ha : 0 ≤ a ∧ a < (rs.length : Int)) (hb : 0 ≤ b ∧ b < (rs.length : Int)) :
  Calls Tryz.prog 103 #[.pointer (some ⟨gov, 0, none⟩), .pointer (some ⟨ga, 0, none⟩), .pointer (some ⟨gf, 0, none⟩), .pointer (some ⟨gb, 0, none⟩)] w fun e w' => ∃ hv H qv, e = .returned (.int .i64 (ldX (O.map ab) rs a f)) ∧ (H.map ab = soI (O.map ab) rs a f b) ∧ St w Y [bx gov 30 #[hv, qv], ro 2 obC hv H, owl .i64 (H.map (·.1)), owl .u64 (H.map (·.2)), io .i64 (qv) rs] w' := by
 refine ci4 22 Tryz.func103 V (fun A0 _ F0 => ?_)
 obtain ⟨mb_ov, m_ov, mp_ov, mq_ov, m_rv, hmb_ov, hm_ov, hmp_ov, hmq_ov, hm_rv, hS⟩ := gen5 hS
 have bm_ov := SlN.le (ow_at (hS.cq 1 hm_ov))
 have bm_rv := SlN.le (ow_at (hS.cq 4 hm_rv))
 refine tb fun _ H1 => (vc (W_end (en (Qa F0) fun A2 _ F2 => ta H1 fun _ H3 => (vm (fg0 F2) (rc (Sa (fg1 F2)) (cell_box (v := .int .i64 (a)) (ob_at (hS.ro hb_a)) V) (rc (Sb (fg2 F2)) (cell_box (v := .int .i64 (f)) (ob_at (hS.ro hb_f)) V) (wc (args3 (Sb t0) (Sa t0) t0) (kpt_c (gov := gov) (a := a) (f := f) (hS.cC 1 hm_ov).own (nst_of (hS.cC 2 hmp_ov) (hS.cC 3 hmq_ov)) (hS.cC 4 hm_rv).own (hS.cC 0 hmb_ov) (by first | with_reducible assumption | (have q := hG.reg; simpa using q)) Zm) ?_)))))))
 rintro _ w4 (⟨rfl, hz_4, hP4⟩ | ⟨B_4, O_4, C_4, y_4, x_4, rfl, hv_4, hy_4, hx_4, hz_4, hob_4, hP4⟩)
 ·refine ⟨_, rfl, ?_⟩
  have S4 := hS.j0 hP4
  refine vt (W_end (en (Ka (Qd F2)) fun A5 _ F5 => tc H3 fun _ H6 => tb fun _ H7 => (vm (fg0 F5) (wv (V_eqNN V t0 V Tryz.underlying104) (W_end (en (Ka (Qa F5)) fun A8 _ F8 => tk H7 (cond_t (fg0 F8) (tb fun _ H9 => (vc (W_end (en (Ka F8) fun A10 _ F10 => tk H9 (wp_ret (then_ret (rt1 F10 (rv_tmp (fg0 F10)) ?_))))))))))))))
  rw [ldX_n hz_4, soI_n hz_4]
  exact ⟨_, O, _, rfl, rfl, (S4.fin5 0 V (hmb_ov) 1 V (hm_ov) 2 V (hmp_ov) 3 V (hmq_ov) 4 V (hm_rv) Zg)⟩
 refine ⟨_, rfl, ?_⟩
 have S4 := hS.j0 hP4
 have bfn11 := SlN.le (sl_SlN (owl_at (mapE (g := (·.1)) hy_4) (S4.cq 2 hmp_ov)))
 have bfn12 := SlN.le (sl_SlN (owl_at (mapE (g := (·.2)) hy_4) (S4.cq 3 hmq_ov)))
 refine vt (W_end (en (Ka (Qd F2)) fun A13 _ F13 => tc H3 fun _ H14 => tb fun _ H15 => (vm (fg0 F13) (wv (V_eqPN V t0 V Tryz.underlying104) (W_end (en (Ka (Qa F13)) fun A16 _ F16 => tk H15 (cond_f (fg0 F16) (wp_skip (tc H14 fun _ H17 => region_monoS 9 10 [] kr kr (dm (fg1 F16) (dm (Sa (fg2 F16)) (dn t0 (df 1 t0 (dr (fun _ hx _ => (urc t0 (cell_box (v := rv) ((S4.grow hx).ob 0 hmb_ov) V))) (dr (fun _ hx _ => (urc (Se (fg5 F16)) (cell_box (v := .int .i64 (b)) (ob_at ((S4.grow hx).ro hb_b)) V))) ?_)))))))))))))))
 have k18 : b.toNat < rs.length := om
 obtain ⟨y18, hy18⟩ := get_some (xs := rs) (k := b.toNat) k18
 obtain ⟨B18, O18, C18, hv18⟩ := (SlN.blk (ow_at (S4.chq 4 rfl hm_rv)) om)
 refine dv (V_ixS (off := O18 + b.toNat) 1 b.toNat V (Sa t0) t0 hv18 Zb k18 Tryz.underlying25 kr (congrArg _ (Nat.mul_one _))) (dr (fun _ hx _ => (urc t0 ((ow_at ((S4.grow hx).cq 4 hm_rv)).cell hv18 (map_get hy18)))) (dn (Sg t0) (D_eff V (ZS_eff S4 V V (fun s19 hJ19 hL19 hF19 => ?_)))))
 have S19 := hJ19.st; clear hF19 hJ19 hL19
 generalize s19.1 = w19 at *
 replace S19 : St w Y [mb_ov, m_ov, mp_ov, mq_ov, m_rv] w19 := S19
 have S21 := S19.se [2, 3, 1, 0, 4] [mp_ov, mq_ov, m_ov, mb_ov, m_rv]
 refine W_stN1 S21 hmp_ov hmq_ov hm_ov hy_4 hv_4 V V V t0 (Sa t0) V (List.getElem?_eq_some_iff.1 hx_4).1 kr (fun w20 ca20 cb20 c20 hca20 hcb20 hc20 S20 => ?_)
 replace S20 : St w Y [ca20, cb20, c20, mb_ov, m_rv] w20 := S20
 refine W_end (Qo_normal (en (Qa (Qh F16)) fun A22 _ F22 => ta H17 fun _ H23 => (vc (W_end (en (Ka F22) fun A24 _ F24 => tk H23 (wp_ret (rt1 F24 (rv_tmp (fg0 F24)) ?_)))))))
 rw [ldX_k hz_4]
 exact ⟨_, (O.set ((rg rs a - 1).toNat) ((y_4.1.1, y_4.1.2.set ((f).toNat) y18), y_4.2)), _, rfl, so_map V hy_4 (rg_at hy18) hz_4, (S20.fin5 3 V (hmb_ov) 2 V (hc20) 0 V (hca20) 1 V (hcb20) 4 V (hm_rv) Zg)⟩

set_option maxHeartbeats 4000000 in
theorem kWr1_c {ov : Value} {O : List Ob} {rv : Value} {rs : List Int} {gov : Nat} {a : Int} {ga : Nat} {f : Int} {gf : Nat} {x : Int} {gx : Nat} {w : World} {Y : Nat → Prop} (hb_a : Ro w Y (bx ga 3 #[.int .i64 a])) (hb_f : Ro w Y (bx gf 3 #[.int .i64 f])) (hb_x : Ro w Y (bx gx 48 #[.int .u64 x])) (hS : St w Y [bx gov 30 #[ov, rv], ro 2 obC ov O, owl .i64 (O.map (·.1)), owl .u64 (O.map (·.2)), io .i64 rv rs] w) (hrg : ∀ p ∈ rs, 0 ≤ p ∧ p ≤ (O.length : Int)) (ha : 0 ≤ a ∧ a < (rs.length : Int)) :
  Calls Tryz.prog 105 #[.pointer (some ⟨gov, 0, none⟩), .pointer (some ⟨ga, 0, none⟩), .pointer (some ⟨gf, 0, none⟩), .pointer (some ⟨gx, 0, none⟩)] w fun e w' => ∃ hv H qv, e = .returned (.int .i64 (wrX (O.map ab) rs a f)) ∧ (H.map ab = wrI (O.map ab) rs a f x) ∧ St w Y [bx gov 30 #[hv, qv], ro 2 obC hv H, owl .i64 (H.map (·.1)), owl .u64 (H.map (·.2)), io .i64 (qv) rs] w' := by
 refine ci4 16 Tryz.func105 V (fun A0 _ F0 => ?_)
 obtain ⟨mb_ov, m_ov, mp_ov, mq_ov, m_rv, hmb_ov, hm_ov, hmp_ov, hmq_ov, hm_rv, hS⟩ := gen5 hS
 have bm_ov := SlN.le (ow_at (hS.cq 1 hm_ov))
 have bm_rv := SlN.le (ow_at (hS.cq 4 hm_rv))
 refine tb fun _ H1 => (vc (W_end (en (Qa F0) fun A2 _ F2 => ta H1 fun _ H3 => (vm (fg0 F2) (rc (Sa (fg1 F2)) (cell_box (v := .int .i64 (a)) (ob_at (hS.ro hb_a)) V) (rc (Sb (fg2 F2)) (cell_box (v := .int .i64 (f)) (ob_at (hS.ro hb_f)) V) (wc (args3 (Sb t0) (Sa t0) t0) (krw_c (gov := gov) (a := a) (f := f) (hS.cC 1 hm_ov).own (nst_of (hS.cC 2 hmp_ov) (hS.cC 3 hmq_ov)) (hS.cC 4 hm_rv).own (hS.cC 0 hmb_ov) (by first | with_reducible assumption | (have q := hG.reg; simpa using q)) Zm) ?_)))))))
 rintro _ w4 (⟨rfl, hz_4, hP4⟩ | ⟨B_4, O_4, C_4, y_4, x_4, rfl, hv_4, hy_4, hx_4, hz_4, hob_4, hP4⟩)
 ·refine ⟨_, rfl, ?_⟩
  have S4 := hS.j0 hP4
  refine vt (W_end (en (Ka (Qd F2)) fun A5 _ F5 => tc H3 fun _ H6 => tb fun _ H7 => (vm (fg0 F5) (wv (V_eqNN V t0 V Tryz.underlying148) (W_end (en (Ka (Qa F5)) fun A8 _ F8 => tk H7 (cond_t (fg0 F8) (tb fun _ H9 => (vc (W_end (en (Ka F8) fun A10 _ F10 => tk H9 (wp_ret (then_ret (rt1 F10 (rv_tmp (fg0 F10)) ?_))))))))))))))
  rw [wrX_n hz_4, wrI_n hz_4]
  exact ⟨_, O, _, rfl, rfl, (S4.fin5 0 V (hmb_ov) 1 V (hm_ov) 2 V (hmp_ov) 3 V (hmq_ov) 4 V (hm_rv) Zg)⟩
 refine ⟨_, rfl, ?_⟩
 have S4 := hS.j0 hP4
 have bfn11 := SlN.le (sl_SlN (owl_at (mapE (g := (·.1)) hy_4) (S4.cq 2 hmp_ov)))
 have bfn12 := SlN.le (sl_SlN (owl_at (mapE (g := (·.2)) hy_4) (S4.cq 3 hmq_ov)))
 refine vt (W_end (en (Ka (Qd F2)) fun A13 _ F13 => tc H3 fun _ H14 => tb fun _ H15 => (vm (fg0 F13) (wv (V_eqPN V t0 V Tryz.underlying148) (W_end (en (Ka (Qa F13)) fun A16 _ F16 => tk H15 (cond_f (fg0 F16) (wp_skip (ta H14 fun _ H17 => (vm (fg1 F16) (rc (Sa (fg5 F16)) (cell_box (v := .int .u64 (x)) (ob_at (S4.ro hb_x)) V) (ni (Sa t0) ?_))))))))))))
 have S19 := S4.se [3, 2, 1, 0, 4] [mq_ov, mp_ov, m_ov, mb_ov, m_rv]
 refine W_stN2 S19 hmq_ov hmp_ov hm_ov hy_4 hv_4 V V V t0 (Sa t0) V (List.getElem?_eq_some_iff.1 hx_4).1 kr (fun w18 ca18 cb18 c18 hca18 hcb18 hc18 S18 => ?_)
 replace S18 : St w Y [ca18, cb18, c18, mb_ov, m_rv] w18 := S18
 refine W_end (en (Qc F16) fun A20 _ F20 => ta H17 fun _ H21 => (vc (W_end (en (Ka F20) fun A22 _ F22 => tk H21 (wp_ret (rt1 F22 (rv_tmp (fg0 F22)) ?_))))))
 rw [wrX_k hz_4]
 exact ⟨_, (O.set ((rg rs a - 1).toNat) (y_4.1, (y_4.2.1, y_4.2.2.set ((f).toNat) x))), _, rfl, wr_map V hy_4 hz_4, (S18.fin5 3 V (hmb_ov) 2 V (hc18) 1 V (hcb18) 0 V (hca18) 4 V (hm_rv) Zg)⟩

set_option maxHeartbeats 4000000 in
theorem kMv1_c {ov : Value} {O : List Ob} {rv : Value} {rs : List Int} {gov : Nat} {b : Int} {gb : Nat} {a : Int} {ga : Nat} {w : World} {Y : Nat → Prop} (hb_b : Ro w Y (bx gb 3 #[.int .i64 b])) (hb_a : Ro w Y (bx ga 3 #[.int .i64 a])) (hS : St w Y [bx gov 30 #[ov, rv], ro 2 obC ov O, owl .i64 (O.map (·.1)), owl .u64 (O.map (·.2)), io .i64 rv rs] w) (ha : 0 ≤ a ∧ a < (rs.length : Int)) (hb : 0 ≤ b ∧ b < (rs.length : Int)) :
  Calls Tryz.prog 106 #[.pointer (some ⟨gov, 0, none⟩), .pointer (some ⟨gb, 0, none⟩), .pointer (some ⟨ga, 0, none⟩)] w fun e w' => ∃ hv H qv, e = .returned (.int .i64 0) ∧ (H.map ab = (O.map ab)) ∧ St w Y [bx gov 30 #[hv, qv], ro 2 obC hv H, owl .i64 (H.map (·.1)), owl .u64 (H.map (·.2)), io .i64 (qv) (rs.set a.toNat (rg rs b))] w' := by
 refine ci3 18 Tryz.func106 V (fun A0 _ F0 => ?_)
 obtain ⟨mb_ov, m_ov, mp_ov, mq_ov, m_rv, hmb_ov, hm_ov, hmp_ov, hmq_ov, hm_rv, hS⟩ := gen5 hS
 have bm_ov := SlN.le (ow_at (hS.cq 1 hm_ov))
 have bm_rv := SlN.le (ow_at (hS.cq 4 hm_rv))
 refine tb fun _ H1 => (vc (W_end (en (Qa F0) fun A2 _ F2 => tc H1 fun _ H3 => region_monoS 13 14 [] kr kr (dm (fg0 F2) (dn t0 (df 1 t0 (dr (fun _ hx _ => (urc t0 (cell_box (v := rv) ((hS.grow hx).ob 0 hmb_ov) V))) (dr (fun _ hx _ => (urc (Sd (fg2 F2)) (cell_box (v := .int .i64 (a)) (ob_at ((hS.grow hx).ro hb_a)) V))) (dm (Se (fg0 F2)) (dn t0 (df 1 t0 (dr (fun _ hx _ => (urc t0 (cell_box (v := rv) ((hS.grow hx).ob 0 hmb_ov) V))) (dr (fun _ hx _ => (urc (Sh (Sa (fg1 F2))) (cell_box (v := .int .i64 (b)) (ob_at ((hS.grow hx).ro hb_b)) V))) ?_)))))))))))))
 have k4 : b.toNat < rs.length := om
 obtain ⟨y4, hy4⟩ := get_some (xs := rs) (k := b.toNat) k4
 obtain ⟨B4, O4, C4, hv4⟩ := (SlN.blk (ow_at (hS.chq 4 rfl hm_rv)) om)
 refine dv (V_ixS (off := O4 + b.toNat) 1 b.toNat V (Sa t0) t0 hv4 Zb k4 Tryz.underlying25 kr (congrArg _ (Nat.mul_one _))) (dr (fun _ hx _ => (urc t0 ((ow_at ((hS.grow hx).cq 4 hm_rv)).cell hv4 (map_get hy4)))) ?_)
 have k5 : a.toNat < rs.length := om
 obtain ⟨y5, hy5⟩ := get_some (xs := rs) (k := a.toNat) k5
 refine dv (V_ixS (off := O4 + a.toNat) 1 a.toNat V (Sh t0) (Sg t0) hv4 Zb k5 Tryz.underlying25 kr (congrArg _ (Nat.mul_one _))) (D_eff V (ZS_eff hS V V (fun s6 hJ6 hL6 hF6 => ?_)))
 have S6 := hJ6.st; clear hF6 hJ6 hL6
 generalize s6.1 = w6 at *
 replace S6 : St w Y [mb_ov, m_ov, mp_ov, mq_ov, m_rv] w6 := S6
 refine W_stE 4 S6 V hm_rv hv4 V V V t0 (Sa t0) Zi V Zq kr (fun w7 c7 hc7 S7 => ?_)
 replace hc7 : c7 = io .i64 rv (rs.set a.toNat y4) := hc7.trans (by simp [io, bo, List.map_set] <;> rfl)
 replace S7 : St w Y [mb_ov, m_ov, mp_ov, mq_ov, c7] w7 := S7
 refine W_end (Qo_normal (en (Qe (Qh F2)) fun A8 _ F8 => ta H3 fun _ H9 => (vc (W_end (en (Ka F8) fun A10 _ F10 => tk H9 (wp_ret (rt1 F10 (rv_tmp (fg0 F10)) ?_)))))))
 exact ⟨_, O, _, rfl, rfl, (S7.fin5 0 V (hmb_ov) 1 V (hm_ov) 2 V (hmp_ov) 3 V (hmq_ov) 4 V (hc7.trans (by rw [rg_at hy4])) Zg)⟩

set_option maxHeartbeats 4000000 in
theorem kCl1_c {ov : Value} {O : List Ob} {rv : Value} {rs : List Int} {gov : Nat} {a : Int} {ga : Nat} {w : World} {Y : Nat → Prop} (hb_a : Ro w Y (bx ga 3 #[.int .i64 a])) (hS : St w Y [bx gov 30 #[ov, rv], ro 2 obC ov O, owl .i64 (O.map (·.1)), owl .u64 (O.map (·.2)), io .i64 rv rs] w) (ha : 0 ≤ a ∧ a < (rs.length : Int)) :
  Calls Tryz.prog 107 #[.pointer (some ⟨gov, 0, none⟩), .pointer (some ⟨ga, 0, none⟩)] w fun e w' => ∃ hv H qv, e = .returned (.int .i64 0) ∧ (H.map ab = (O.map ab)) ∧ St w Y [bx gov 30 #[hv, qv], ro 2 obC hv H, owl .i64 (H.map (·.1)), owl .u64 (H.map (·.2)), io .i64 (qv) (rs.set a.toNat 0)] w' := by
 refine ci2 10 Tryz.func107 V (fun A0 _ F0 => ?_)
 obtain ⟨mb_ov, m_ov, mp_ov, mq_ov, m_rv, hmb_ov, hm_ov, hmp_ov, hmq_ov, hm_rv, hS⟩ := gen5 hS
 have bm_ov := SlN.le (ow_at (hS.cq 1 hm_ov))
 have bm_rv := SlN.le (ow_at (hS.cq 4 hm_rv))
 refine tb fun _ H1 => (vc (W_end (en (Qa F0) fun A2 _ F2 => tc H1 fun _ H3 => region_monoS 6 7 [] kr kr (dm (fg0 F2) (dn t0 (df 1 t0 (dr (fun _ hx _ => (urc t0 (cell_box (v := rv) ((hS.grow hx).ob 0 hmb_ov) V))) (dr (fun _ hx _ => (urc (Sd (fg1 F2)) (cell_box (v := .int .i64 (a)) (ob_at ((hS.grow hx).ro hb_a)) V))) ?_))))))))
 have k4 : a.toNat < rs.length := om
 obtain ⟨y4, hy4⟩ := get_some (xs := rs) (k := a.toNat) k4
 obtain ⟨B4, O4, C4, hv4⟩ := (SlN.blk (ow_at (hS.chq 4 rfl hm_rv)) om)
 refine dv (V_ixS (off := O4 + a.toNat) 1 a.toNat V (Sa t0) t0 hv4 Zb k4 Tryz.underlying25 kr (congrArg _ (Nat.mul_one _))) (D_eff V (ZS_eff hS V V (fun s5 hJ5 hL5 hF5 => ?_)))
 have S5 := hJ5.st; clear hF5 hJ5 hL5
 generalize s5.1 = w5 at *
 replace S5 : St w Y [mb_ov, m_ov, mp_ov, mq_ov, m_rv] w5 := S5
 refine W_stE 4 S5 V hm_rv hv4 V V V t0 V Zi V Zq kr (fun w6 c6 hc6 S6 => ?_)
 replace hc6 : c6 = io .i64 rv (rs.set a.toNat 0) := hc6.trans (by simp [io, bo, List.map_set] <;> rfl)
 replace S6 : St w Y [mb_ov, m_ov, mp_ov, mq_ov, c6] w6 := S6
 refine W_end (Qo_normal (en (Qf F2) fun A7 _ F7 => ta H3 fun _ H8 => (vc (W_end (en (Ka F7) fun A9 _ F9 => tk H8 (wp_ret (rt1 F9 (rv_tmp (fg0 F9)) ?_)))))))
 exact ⟨_, O, _, rfl, rfl, (S6.fin5 0 V (hmb_ov) 1 V (hm_ov) 2 V (hmp_ov) 3 V (hmq_ov) 4 V (hc6) Zg)⟩

set_option maxHeartbeats 4000000 in
theorem kchG_c {ov : Value} {O : List Ob} {rv : Value} {rs : List Int} {fno : Nat} {caps : Array Value} {fnn : Func} {er : Int} {O2 : List Ab} {R2 : List Int} {nv : Value} {ns : List Int} {w : World} (h_ov : Ro w NoX (rl 2 obC ov O)) (n_ov : Ro w NoX (nst O)) (h_rv : Ro w NoX (il .i64 rv rs)) (h_nv : Ro w NoX (il .i64 nv ns)) (hsm : SM (O.map ab)) (hcf : Tryz.prog.funcs[fno]? = some fnn) (hcn : (fnn.name == "runtime.NumGoroutine") = false) (hcb : fnn.body.isNone = false) (hcl : ckd (O.map ab) rs ns = 0 → ∀ (W1 : World) (Y1 : Nat → Prop) (g : Nat) (hv : Value) (H : List Ob) (qv : Value), (∀ c : HP, Ro w NoX c → Ro W1 Y1 c) → H.map ab = O.map ab → St W1 Y1 [bx g 30 #[hv, qv], ro 2 obC hv H, owl .i64 (H.map (·.1)), owl .u64 (H.map (·.2)), io .i64 qv rs] W1 → Calls Tryz.prog fno (#[.pointer (some ⟨g, 0, none⟩)] ++ caps) W1 fun e w' => ∃ hv' H' qv', e = .returned (.int .i64 er) ∧ (H'.map ab = O2) ∧ St W1 Y1 [bx g 30 #[hv', qv'], ro 2 obC hv' H', owl .i64 (H'.map (·.1)), owl .u64 (H'.map (·.2)), io .i64 qv' R2] w') :
  Calls Tryz.prog 100 #[.agg #[ov, rv], .func (.func fno) #[] caps, nv] w fun e w' => ∃ hv H qv, e = .returned (.tuple #[.agg #[hv, qv], .int .i64 (chE (O.map ab) rs ns er)]) ∧ (H.map ab = (chO (O.map ab) rs ns er O2)) ∧ St w NoX [ro 2 obC hv H, owl .i64 (H.map (·.1)), owl .u64 (H.map (·.2)), io .i64 (qv) (chR (O.map ab) rs ns er R2)] w' := by
 refine ci3 51 Tryz.func100 V (fun A0 _ F0 => ?_)
 have hS := St.nil w
 have bh_ov := SlN.le (sl_SlN h_ov.at)
 have bh_rv := SlN.le (sl_SlN h_rv.at)
 have bh_nv := SlN.le (sl_SlN h_nv.at)
 refine tb fun _ H1 => (wB (#[ov, rv]) hS (fg0 F0) (fun g2 w2 c2 hc2 S2 => wA (#[.slice none 0 0, .slice none 0 0]) S2 (fun g3 w3 c3 hc3 S3 => vc (W_end (en (Qa (Kb F0)) fun A4 _ F4 => tc H1 fun _ H5 => tb fun _ H6 => (ra (fg1 F4) (S3.ob 1 hc2) (vm (Sa (fg4 F4)) (wc (args2 (Sa t0) t0) (kcd_c (S3.roC h_ov) (S3.roC n_ov) (S3.roC h_rv) (S3.roC h_nv)) (C0 S3 fun w7 S7 => vt (W_end (en (Ka (Qc F4)) fun A8 _ F8 => ta H6 fun _ H9 => (vm (fg0 F8) (vn t0 V (W_end (en (Ka (Qa F8)) fun A10 _ F10 => tk H9 (cd (fg0 F10) (fun c11 => ?_) fun c11 => ?_))))))))))))))))
 ·have hcd : ckd (O.map ab) rs ns ≠ 0 := by simpa using c11
  refine tb fun _ H12 => (wv (xbS (n := 2) (z := .agg #[.slice none 0 0, .slice none 0 0]) V parts0) (vm (Sa (fg1 F10)) (xsA0 S7 hc3 V V V (Sb (fg2 F10)) (Sa t0) (fun w13 c13 hc13 S13 => vt (W_end (en (Ka (Qb F10)) fun A14 _ F14 => ?_))))))
  have S15 := S13.se [0] [c13]
  refine tk H12 (wp_ret (then_ret (rt2 F14 (rvA (fg3 F14) (S15.ob 0 hc13)) (rv_tmp (fg0 F14)) ?_)))
  obtain ⟨c16, hc16, S16⟩ := S15.pnil (s := 2)
  replace hc16 : c16 = ro 2 obC (.slice none 0 0) ([] : List Ob) := hc16
  obtain ⟨c17, cb17, hc17, hcb17, S17⟩ := gen2 (nst_nils S16)
  obtain ⟨c18, hc18, S18⟩ := S17.pnil (s := 1)
  have h := ch_ck (er := er) (O2 := O2) (R2 := R2) hcd
  rw [h.1, h.2.1]
  exact ⟨_, ([] : List Ob), _, rfl, rfl, (S18.f4 3 hc16 1 hc17 2 hcb17 0 (hc18.trans (by rw [h.2.2] <;> rfl)))⟩
 have hcd : ckd (O.map ab) rs ns = 0 := by simpa using c11
 have hG := (ckd_0.1 hcd).1
 have ho4 := hG.o4
 have hr8 := hG.r8
 rw [List.length_map] at ho4
 refine wp_skip (ta H5 fun _ H19 => (fa 1 (fg3 F10) (rL rv t0 (S7.ob 1 hc2) (wc (args1 t0) (kcl_c (S7.roC h_rv) Zm) (fun _ w20 ⟨v_20, e, hP20⟩ => ⟨_, e, ?_⟩)))))
 obtain ⟨c_20, hc_20, hP20⟩ := gen1 hP20
 have S20 := S7.j1 hP20
 refine wv (xbT (n := 2) (z := .agg #[.slice none 0 0, .slice none 0 0]) V (parts1 t0) (by simp only [List.all_cons, List.all_nil, SlN_one (ow_at (S20.cq 0 hc_20)), Bool.and_true] <;> rfl)) (wA (#[.slice none 0 0, .slice none 0 0]) S20 (fun g21 w21 c21 hc21 S21 => xsB0 S21 hc21 V V V t0 (Sa t0) (by simp only [List.all_toArray, List.all_cons, List.all_nil, obC, SlN_one (ow_at (S21.cq 1 hc_20))] <;> rfl) (fun w22 c22 hc22 S22 => W_end (en (Ka (Qd F10)) fun A23 _ F23 => tc H19 fun _ H24 => tb fun _ H25 => (fa 0 (fg4 F23) (rL ov t0 (S22.ob 3 hc2) (le_ t0 (sl_SlN h_ov.at) (vm V (W_end (en (Kc (Qa F23)) fun A26 hsz26 F26 => ?_))))))))))
 have S27 := S22.se [0, 1, 2] [c22, c_20, c3]
 refine tk H25 (wp_block ?_)
 obtain ⟨c28, hc28, S28⟩ := S27.pnil (s := 2)
 replace hc28 : c28 = ro 2 obC (.slice none 0 0) ([] : List Ob) := hc28
 obtain ⟨c29, cb29, hc29, hcb29, S29⟩ := gen2 (nst_nils S28)
 -- loop 6
 refine loopX (fun mz A' w' => SzN A' 51 ∧ A'.defers = [] ∧ (∃ (k : Nat) (hv : Value) (H : List Ob), (mz = O.length - k) ∧ (k ≤ O.length) ∧ (H.map ab = (O.map ab).take k) ∧ (EV A' (.tmp 27) = .int .i64 (k : Int)) ∧ (EV A' (.tmp 1) = EV A26 (.tmp 1)) ∧ (EV A' (.tmp 6) = EV A26 (.tmp 6)) ∧ (EV A' (.tmp 9) = EV A26 (.tmp 9)) ∧ (EV A' (.tmp 25) = EV A26 (.tmp 25)) ∧ (EV A' (.tmp 26) = EV A26 (.tmp 26)) ∧ (St w NoX [owl .i64 (H.map (·.1)), owl .u64 (H.map (·.2)), ro 2 obC hv H, bx g21 30 #[hv, v_20], io .i64 v_20 rs, bx g3 30 #[.slice none 0 0, .slice none 0 0]] w'))) (O.length - 0) ⟨hsz26, F26.d, 0, (.slice none 0 0), [], rfl, Zb, rfl, ((fg0 F26).trans Za), rfl, rfl, rfl, rfl, rfl, (by subst hc29 hcb29 hc28 hc22 hc_20 hc3; exact S29)⟩ ?_
 clear S29 hc29 hcb29 hc28 hc22 hc_20 hc3
 rintro n30 A30 w30 ⟨hsz30, hdf30, k, hv, H, hm30, hk, hH, l27_30, u1_30, u6_30, u9_30, u25_30, u26_30, S30⟩
 have l1_30 := u1_30.trans (fg9 F26)
 have l6_30 := u6_30.trans (fg6 F26)
 have l9_30 := u9_30.trans (fg3 F26)
 have l25_30 := u25_30.trans (fg2 F26)
 have l26_30 := u26_30.trans (fg1 F26)
 obtain ⟨c29_30, cb29_30, c28_30, c22_30, c_30, c3_30, hc29_30, hcb29_30, hc28_30, hc22_30, hc_30, hc3_30, S30⟩ := gen6 S30
 refine tb fun _ H31 => (vl l27_30 l26_30 (W_end (en ((((((((ck (FS.n hdf30) V V)).c (es V l1_30)).c (es V l6_30)).c (es V l9_30)).c (es V l25_30)).c (es V l26_30)).c (Sa l27_30)) fun A32 _ F32 => tc H31 fun _ H33 => cd (fg6 F32) (fun c34 => ?_) fun c34 => ?_)))
 ·have hHl := mp_len hH hk
  refine wp_skip (tc H33 fun _ H35 => wp_block (tb fun _ H36 => ?_))
  have k37 : k < O.length := om
  obtain ⟨y37, hy37⟩ := get_some (xs := O) (k := k) k37
  have hsy := hsm.at hy37
  obtain ⟨B37, O37, C37, hv37⟩ := (SlN.blk (sl_SlN h_ov.at) om)
  refine wv (V_ixS (off := O37 + k * 2) 2 k V (fg2 F32) (fg0 F32) hv37 Zb k37 Tryz.underlying28 kr V) ?_
  have fn38 : Ro w NoX (il .i64 y37.1.1 y37.1.2) := nst_ro1 n_ov hy37
  have bfn38 := SlN.le (sl_SlN (S30.ro fn38))
  have fn39 : Ro w NoX (il .u64 y37.2.1 y37.2.2) := nst_ro2 n_ov hy37
  have bfn39 := SlN.le (sl_SlN (S30.ro fn39))
  refine wr (VR_ldR (ys := obC y37) V t0 (SlN.row obC_len (sl_SlN (S30.ro h_ov)) hv37 hy37 V) Tryz.underlying70 V kr) (wA (#[.slice none 0 0, .slice none 0 0]) S30 (fun g40 w40 c40 hc40 S40 => ?_))
  replace S40 : St w NoX [c40, c29_30, cb29_30, c28_30, c22_30, c_30, c3_30] w40 := S40
  refine xsB0 S40 hc40 V V V t0 (Sa t0) (by simp only [List.all_toArray, List.all_cons, List.all_nil, obC, SlN_one (sl_SlN fn38.at), SlN_one (sl_SlN fn39.at)] <;> rfl) (fun w41 c41 hc41 S41 => W_end (en (Ka (Qb F32)) fun A42 _ F42 => tk H36 (region_monoS 10 11 [none, none, none, none, some (SPv [] (fun _ => fun u l' => ∃ v_s, u = v_s ∧ ∃ c_s, c_s = io .i64 (v_s) y37.1.2 ∧ l' = [c_s]) 4), none, none, some (SPv [] (fun _ => fun u l' => ∃ v_s, u = v_s ∧ ∃ c_s, c_s = io .u64 (v_s) y37.2.2 ∧ l' = [c_s]) 7), none, some (SPv [35, 38] (fun vs => fun u l' => ∃ g_, u = .slice (some ⟨g_, 0, none⟩) 1 1 ∧ ∃ c_, c_ = ro 2 obC (.slice (some ⟨g_, 0, none⟩) 1 1) [(((vs.getD 0 undef), y37.1.2), ((vs.getD 1 undef), y37.2.2))] ∧ l' = [c_]) 9)] kr kr (df 0 (fg4 F42) (dr (fun _ hx _ => (urc t0 (cell_box (v := hv) ((S41.grow hx).ob 4 hc22_30) V))) (df 0 (Sb (fg0 F42)) (dr (fun _ hx _ => (urc t0 (cell_box (v := y37.1.1) ((S41.grow hx).ob 0 hc41) V))) (D_call (ts := []) (vs := []) (C0 := fun _ => fun u l' => ∃ v_s, u = v_s ∧ ∃ c_s, c_s = io .i64 (v_s) y37.1.2 ∧ l' = [c_s]) (C := fun u l' => ∃ v_s, u = v_s ∧ ∃ c_s, c_s = io .i64 (v_s) y37.1.2 ∧ l' = [c_s]) V V V Tryz.func36 kr V (args1 t0) V V V V (fun sx hx hF => ?_) (fun u43 l43 hu43 => ?_)))))))))
  ·refine (kcl_c ((S41.grow hx).roC fn38) Zm).mono ?_
   rintro _ _ ⟨v_43, rfl, hz⟩
   exact ⟨_, rfl, _, ⟨_, rfl, _, rfl, rfl⟩, hz⟩
  obtain ⟨v_43, rfl, c_43, hc_43, hl43⟩ := hu43
  refine df 1 (Se (fg0 F42)) (dr (fun _ hx _ => (urc t0 (cell_box (v := y37.2.1) ((S41.grow hx).ob 0 hc41) V))) (D_call (ts := []) (vs := []) (C0 := fun _ => fun u l' => ∃ v_s, u = v_s ∧ ∃ c_s, c_s = io .u64 (v_s) y37.2.2 ∧ l' = [c_s]) (C := fun u l' => ∃ v_s, u = v_s ∧ ∃ c_s, c_s = io .u64 (v_s) y37.2.2 ∧ l' = [c_s]) V V V Tryz.func37 kr V (args1 t0) V V V V (fun sx hx hF => ?_) (fun u44 l44 hu44 => ?_)))
  ·refine (kcu_c ((S41.grow hx).roC fn39) Zm).mono ?_
   rintro _ _ ⟨v_44, rfl, hz⟩
   exact ⟨_, rfl, _, ⟨_, rfl, _, rfl, rfl⟩, hz⟩
  obtain ⟨v_44, rfl, c_44, hc_44, hl44⟩ := hu44
  refine D_r V V kr (fun sx hx hF => by obtain ⟨ll43, ws43, we43, ⟨v_43q, hq43, c_43_, hc_43_, hl43_⟩, hm43, k43, e43⟩ := L.ancF_get (L.ancF_rest hF) kr; cases hq43; subst hl43_; obtain ⟨ll44, ws44, we44, ⟨v_44q, hq44, c_44_, hc_44_, hl44_⟩, hm44, k44, e44⟩ := L.ancF_get hF kr; cases hq44; subst hl44_; exact ((V_bldS (n := 2) (z := .agg #[.slice none 0 0, .slice none 0 0]) V (parts2 (es3 V (et V)) (et V)) kr (by simp only [List.all_cons, List.all_nil, SlN_one (ow_at ((k43.grow e43).cq 0 hc_43_)), SlN_one (ow_at ((k44.grow e44).cq 0 hc_44_)), Bool.and_true] <;> rfl) kr Zn : Val _ _ _ _) _)) V V ?_
  have hll45 : [((u43, y37.1.2), (u44, y37.2.2))].length = 1 := rfl
  refine D_lay (ts := [35, 38]) (vs := [u43, u44]) (C0 := fun vs => fun u l' => ∃ g_, u = .slice (some ⟨g_, 0, none⟩) 1 1 ∧ ∃ c_, c_ = ro 2 obC (.slice (some ⟨g_, 0, none⟩) 1 1) [(((vs.getD 0 undef), y37.1.2), ((vs.getD 1 undef), y37.2.2))] ∧ l' = [c_]) (C := fun u l' => ∃ g_, u = .slice (some ⟨g_, 0, none⟩) 1 1 ∧ ∃ c_, c_ = ro 2 obC (.slice (some ⟨g_, 0, none⟩) 1 1) [((u43, y37.1.2), (u44, y37.2.2))] ∧ l' = [c_]) V V V V (ts2 (Sd t0) (Sa t0)) V (fun sx hx hF => lay_lit (vs := [.agg #[u43, u44]]) 2 V (parts1 t0) V Tryz.underlying28 kr Zg (by intro v hv; simp only [List.mem_cons, List.not_mem_nil, or_false] at hv; rcases hv with rfl <;> rfl) Zi) (fun u45 l45 hu45 => ?_)
  obtain ⟨g45, rfl, c45, hc45, hl45⟩ := hu45
  refine D_eff V (ZS_eff S41 V V (fun s46 hJ46 hL46 hF46 => ?_))
  obtain ⟨ll43, ws43, we43, ⟨v_43q, hq43, c_43r, hc_43r, hl43r⟩, hm43, k43, e43⟩ := L.all_get (L.all_rest (L.all_rest hF46)); cases hq43; subst hl43r
  replace hJ46 := hJ46.add hL46 (i := 4) V hm43 k43 e43
  obtain ⟨ll44, ws44, we44, ⟨v_44q, hq44, c_44r, hc_44r, hl44r⟩, hm44, k44, e44⟩ := L.all_get (L.all_rest hF46); cases hq44; subst hl44r
  replace hJ46 := hJ46.add hL46 (i := 7) V hm44 k44 e44
  obtain ⟨ll45, ws45, we45, ⟨g45q, hq45, c45r, hc45r, hl45r⟩, hm45, k45, e45⟩ := L.all_get hF46; cases hq45; subst hl45r
  replace hJ46 := hJ46.add hL46 (i := 9) V hm45 k45 e45
  have S46 := hJ46.st; clear hF46 hJ46 hL46
  generalize s46.1 = w46 at *
  replace S46 : St w NoX [c45r, c_44r, c_43r, c41, c29_30, cb29_30, c28_30, c22_30, c_30, c3_30] w46 := S46
  refine W_appS 2 6 S46 V hc28_30 V V V (Sh t0) t0 Tryz.underlying28 Tryz.underlying28 (z := .agg #[.slice none 0 0, .slice none 0 0]) (bytes := 48) kr V Zg (ow_at (S46.cq 0 hc45r)) (by intro u hu; simp only [List.flatMap_cons, List.flatMap_nil, obC, List.append_nil, List.cons_append, List.nil_append, List.mem_cons, List.not_mem_nil, or_false] at hu; rcases hu with rfl | rfl <;> first | exact SlN_one (ow_at (S46.cq 2 hc_43r)) | exact SlN_one (ow_at (S46.cq 1 hc_44r))) Zd Zd (fun v47 w47 c47 hc47 S47 => ?_)
  replace hc47 : c47 = ro 2 obC v47 (H ++ [((u43, y37.1.2), (u44, y37.2.2))]) := hc47.trans (app_eqR Zc)
  replace S47 : St w NoX [c45r, c_44r, c_43r, c41, c29_30, cb29_30, c47, c22_30, c_30, c3_30] w47 := S47
  have S48 := S47.se [2, 4, 1, 5, 0, 3, 6, 7, 8, 9] [c_43r, c29_30, c_44r, cb29_30, c45r, c41, c47, c22_30, c_30, c3_30]
  rw [hc_43r, hc29_30, hc_44r, hcb29_30] at S48
  obtain ⟨c49, cb49, hc49, hcb49, S49⟩ := gen2 (nst_push (pv := u43) (ps := y37.1.2) (qv := u44) (qs := y37.2.2) (O := H) S48)
  replace hc49 : c49 = owl .i64 ((H ++ [((u43, y37.1.2), (u44, y37.2.2))]).map (·.1)) := hc49
  replace hcb49 : cb49 = owl .u64 ((H ++ [((u43, y37.1.2), (u44, y37.2.2))]).map (·.2)) := hcb49
  refine fa 0 (Sh (Sc (fg4 F42))) (xsC5 (zs' := #[v47, v_20]) S49 hc22_30 V V V t0 (Sa t0) (SlN_one (ow_at (S49.cq 4 hc47))) (fun w50 c50 hc50 S50 => W_end (Qo_normal (en (Qd (Qh F42)) fun A51 _ F51 => ?_))))
  have S52 := S50.se [0, 1, 4, 5, 6, 7] [c49, cb49, c47, c50, c_30, c3_30]
  refine inb_n (tk H35 (region_in (ad (fg1 F51) V (vm t0 (W_end (en (Ka (Qa (fx1 F51))) fun A53 hsz53 F53 => then_n ⟨O.length - (k + 1), by simp only [hm30]; omega, hsz53, F53.d, (k + 1), v47, (H ++ [((u43, y37.1.2), (u44, y37.2.2))]), rfl, Zb, (mp_snoc hH hy37 V), ((fg0 F53).trans Za), ((fg6 F53).trans (fg9 F26).symm), ((fg5 F53).trans (fg6 F26).symm), ((fg4 F53).trans (fg3 F26).symm), ((fg3 F53).trans (fg2 F26).symm), ((fg2 F53).trans (fg1 F26).symm), (by subst hc49 hcb49 hc47 hc50 hc_30 hc3_30; exact S52)⟩))))))
 have hHO := mp_done hH Zb
 have hHl := mp_lenE hHO
 rw [List.length_map] at hHl
 refine wp_exit (then_exit (then_exit (inb_hit (tc H24 fun _ H54 => tb fun _ H55 => (vm (fg5 F32) ?_)))))
 have S56 := S30.se [3, 2, 0, 1, 4, 5] [c22_30, c28_30, c29_30, cb29_30, c_30, c3_30]
 obtain ⟨Y57, hP57, hR57, hF57, hB57⟩ := St.call (pre := [c22_30, c28_30, c29_30, cb29_30, c_30]) (fr := [c3_30]) S56
 rw [hc22_30, hc28_30, hc29_30, hcb29_30, hc_30] at hP57
 refine W_callV V V V t0 hcf hcn hcb (args1 (Sa (fg3 F32))) (hcl hcd _ _ _ _ _ _ hR57 hHO hP57) (fun _ w58 ⟨hv_58, H_58, qv_58, e, hH_58, hP58⟩ => ⟨_, e, ?_⟩)
 obtain ⟨cB_58, cR_58, cP_58, cQ_58, cG_58, hcB_58, hcR_58, hcP_58, hcQ_58, hcG_58, hP58⟩ := gen5 hP58
 have S58 := (hB57 _ _ hP58).a5
 refine vt (W_end (en (Ka (Qb F32)) fun A59 _ F59 => ta H55 fun _ H60 => (vm (fg0 F59) (vn t0 V (W_end (en (Ka (Qa F59)) fun A61 _ F61 => tk H60 (cd (fg0 F61) (fun c62 => ?_) fun c62 => ?_)))))))
 ·refine tb fun _ H63 => (wv (xbS (n := 2) (z := .agg #[.slice none 0 0, .slice none 0 0]) V parts0) (vm (Sa (fg1 F61)) (xsA5 S58 hc3_30 V V V (Sb (fg6 F61)) (Sa t0) (fun w64 c64 hc64 S64 => vt (W_end (en (Ka (Qb F61)) fun A65 _ F65 => ?_))))))
  have S66 := S64.se [5] [c64]
  refine tk H63 (wp_ret (then_ret (rt2 F65 (rvA (fg7 F65) (S66.ob 0 hc64)) (rv_tmp (fg0 F65)) ?_)))
  obtain ⟨c67, hc67, S67⟩ := S66.pnil (s := 2)
  replace hc67 : c67 = ro 2 obC (.slice none 0 0) ([] : List Ob) := hc67
  obtain ⟨c68, cb68, hc68, hcb68, S68⟩ := gen2 (nst_nils S67)
  obtain ⟨c69, hc69, S69⟩ := S68.pnil (s := 1)
  have h := ch_er (O2 := O2) (R2 := R2) hcd (by simpa using c62)
  rw [h.1, h.2.1]
  exact ⟨_, ([] : List Ob), _, rfl, rfl, (S69.f4 3 hc67 1 hc68 2 hcb68 0 (hc69.trans (by rw [h.2.2] <;> rfl)))⟩
 refine wp_skip (ta H54 fun _ H70 => (ra (fg5 F61) (S58.ob 0 hcB_58) (xsB5 S58 hc3_30 V V V (Sa (fg6 F61)) t0 (by simp only [List.all_toArray, List.all_cons, List.all_nil, obC, SlN_one (ow_at (S58.cq 1 hcR_58)), SlN_one (ow_at (S58.cq 4 hcG_58))] <;> rfl) (fun w71 c71 hc71 S71 => vc (W_end (en (Ka (Qa F61)) fun A72 _ F72 => tk H70 (wp_ret (rt2 F72 (rvA (fg7 F72) (S71.ob 5 hc71)) (rv_tmp (fg0 F72)) ?_))))))))
 have h := ch_ok (O2 := O2) (R2 := R2) hcd (by simpa using c62)
 rw [h.1, h.2.1]
 exact ⟨_, H_58, _, rfl, hH_58, (S71.f4 1 hcR_58 2 hcP_58 3 hcQ_58 4 (hcG_58.trans (by rw [h.2.2] <;> rfl)))⟩

set_option maxHeartbeats 4000000 in
theorem kchAlloc_c {ov : Value} {O : List Ob} {rv : Value} {rs : List Int} {p : Int} {gp : Nat} {r : Int} {gr : Nat} {a : Int} {ga : Nat} {nv : Value} {ns : List Int} {w : World} (h_ov : Ro w NoX (rl 2 obC ov O)) (n_ov : Ro w NoX (nst O)) (h_rv : Ro w NoX (il .i64 rv rs)) (hb_p : Ro w NoX (bx gp 3 #[.int .i64 p])) (hb_r : Ro w NoX (bx gr 3 #[.int .i64 r])) (hb_a : Ro w NoX (bx ga 3 #[.int .i64 a])) (h_nv : Ro w NoX (il .i64 nv ns)) (hsm : SM (O.map ab)) (hns : ns = [a]) :
  Calls Tryz.prog 100 #[.agg #[ov, rv], .func (.func 117) #[] #[.pointer (some ⟨gp, 0, none⟩), .pointer (some ⟨gr, 0, none⟩), .pointer (some ⟨ga, 0, none⟩)], nv] w fun e w' => ∃ hv H qv, e = .returned (.tuple #[.agg #[hv, qv], .int .i64 (alE (O.map ab) rs a p r)]) ∧ (H.map ab = (alO (O.map ab) rs a p r)) ∧ St w NoX [ro 2 obC hv H, owl .i64 (H.map (·.1)), owl .u64 (H.map (·.2)), io .i64 (qv) (alR (O.map ab) rs a p r)] w' := by
 subst hns
 have hall : ckd (O.map ab) rs [a] = 0 → GG (O.map ab) rs ∧ (0 ≤ a ∧ a < (rs.length : Int)) := fun hcd => ⟨(ckd_0.1 hcd).1, (ckd_0.1 hcd).2 a Zo⟩
 refine (kchG_c (caps := #[.pointer (some ⟨gp, 0, none⟩), .pointer (some ⟨gr, 0, none⟩), .pointer (some ⟨ga, 0, none⟩)]) h_ov n_ov h_rv h_nv hsm Tryz.func117 kr V (er := alX p r (O.map ab).length) (O2 := alI p r (O.map ab)) (R2 := alJ a p r (O.map ab) rs) (fun hcd W1 Y1 g hv H qv hR hHO hP => ?_)).mono ?_
 ·obtain ⟨hG, hab⟩ := hall hcd
  have hr8 := hG.r8
  have ho4 := hG.o4
  have hHl := congrArg List.length hHO
  rw [List.length_map, List.length_map] at hHl
  rw [List.length_map] at ho4
  have hrg0 : ∀ p ∈ rs, 0 ≤ p ∧ p ≤ (O.length : Int) := fun p hp => by have q := hG.reg p hp; rw [List.length_map] at q; exact q
  have hrg : ∀ p ∈ rs, 0 ≤ p ∧ p ≤ (H.length : Int) := fun p hp => by rw [hHl]; exact hrg0 p hp
  have ha := (ckd_0.1 hcd).2 a Zo
  refine (kAl1_c (hR _ hb_p) (hR _ hb_r) (hR _ hb_a) hP (by first | omega | with_reducible assumption | simpa using hrg) (by first | omega | with_reducible assumption | simpa using hrg)).mono ?_
  rintro e w' ⟨hv', H', qv', rfl, h1, h2⟩
  try rw [hHO] at h1
  try rw [hHO] at h2
  try rw [hHO]
  exact ⟨hv', H', qv', rfl, h1, h2⟩
 rintro e w' ⟨hv, H, qv, rfl, h1, h2⟩
 obtain ⟨q1, q2, q3⟩ := ch_al (O := (O.map ab)) (rs := rs) (p := p) (r := r) (a := a)
 rw [q2] at h1
 rw [q3] at h2
 rw [q1]
 exact ⟨hv, H, qv, rfl, h1, h2⟩

set_option maxHeartbeats 4000000 in
theorem kchLoad_c {ov : Value} {O : List Ob} {rv : Value} {rs : List Int} {b : Int} {gb : Nat} {f : Int} {gf : Nat} {a : Int} {ga : Nat} {nv : Value} {ns : List Int} {w : World} (h_ov : Ro w NoX (rl 2 obC ov O)) (n_ov : Ro w NoX (nst O)) (h_rv : Ro w NoX (il .i64 rv rs)) (hb_b : Ro w NoX (bx gb 3 #[.int .i64 b])) (hb_f : Ro w NoX (bx gf 3 #[.int .i64 f])) (hb_a : Ro w NoX (bx ga 3 #[.int .i64 a])) (h_nv : Ro w NoX (il .i64 nv ns)) (hsm : SM (O.map ab)) (hns : ns = [a, b]) :
  Calls Tryz.prog 100 #[.agg #[ov, rv], .func (.func 101) #[] #[.pointer (some ⟨gb, 0, none⟩), .pointer (some ⟨gf, 0, none⟩), .pointer (some ⟨ga, 0, none⟩)], nv] w fun e w' => ∃ hv H qv, e = .returned (.tuple #[.agg #[hv, qv], .int .i64 (ptE (O.map ab) rs [a, b] b f)]) ∧ (H.map ab = (ldO (O.map ab) rs a b f)) ∧ St w NoX [ro 2 obC hv H, owl .i64 (H.map (·.1)), owl .u64 (H.map (·.2)), io .i64 (qv) (ldR (O.map ab) rs a b f)] w' := by
 subst hns
 have hall : ckd (O.map ab) rs [a, b] = 0 → GG (O.map ab) rs ∧ (0 ≤ a ∧ a < (rs.length : Int)) ∧ (0 ≤ b ∧ b < (rs.length : Int)) := fun hcd => ⟨(ckd_0.1 hcd).1, (ckd_0.1 hcd).2 a Zo, (ckd_0.1 hcd).2 b Zo⟩
 refine (kchG_c (caps := #[.pointer (some ⟨gb, 0, none⟩), .pointer (some ⟨gf, 0, none⟩), .pointer (some ⟨ga, 0, none⟩)]) h_ov n_ov h_rv h_nv hsm Tryz.func101 kr V (er := ldX (O.map ab) rs b f) (O2 := (O.map ab)) (R2 := ldJ (O.map ab) rs a b f) (fun hcd W1 Y1 g hv H qv hR hHO hP => ?_)).mono ?_
 ·obtain ⟨hG, hab⟩ := hall hcd
  have hr8 := hG.r8
  have ho4 := hG.o4
  have hHl := congrArg List.length hHO
  rw [List.length_map, List.length_map] at hHl
  rw [List.length_map] at ho4
  have hrg0 : ∀ p ∈ rs, 0 ≤ p ∧ p ≤ (O.length : Int) := fun p hp => by have q := hG.reg p hp; rw [List.length_map] at q; exact q
  have hrg : ∀ p ∈ rs, 0 ≤ p ∧ p ≤ (H.length : Int) := fun p hp => by rw [hHl]; exact hrg0 p hp
  have ha := (ckd_0.1 hcd).2 a Zo
  have hb := (ckd_0.1 hcd).2 b Zo
  refine (kLd1_c (hR _ hb_b) (hR _ hb_f) (hR _ hb_a) hP (by first | omega | with_reducible assumption | simpa using hrg) (by first | omega | with_reducible assumption | simpa using hrg) (by first | omega | with_reducible assumption | simpa using hrg)).mono ?_
  rintro e w' ⟨hv', H', qv', rfl, h1, h2⟩
  try rw [hHO] at h1
  try rw [hHO] at h2
  try rw [hHO]
  exact ⟨hv', H', qv', rfl, h1, h2⟩
 rintro e w' ⟨hv, H, qv, rfl, h1, h2⟩
 obtain ⟨q1, q2, q3⟩ := ch_ld (O := (O.map ab)) (rs := rs) (f := f) (a := a) (b := b)
 rw [q2] at h1
 rw [q3] at h2
 rw [q1]
 exact ⟨hv, H, qv, rfl, h1, h2⟩

set_option maxHeartbeats 4000000 in
theorem kchStore_c {ov : Value} {O : List Ob} {rv : Value} {rs : List Int} {a : Int} {ga : Nat} {f : Int} {gf : Nat} {b : Int} {gb : Nat} {nv : Value} {ns : List Int} {w : World} (h_ov : Ro w NoX (rl 2 obC ov O)) (n_ov : Ro w NoX (nst O)) (h_rv : Ro w NoX (il .i64 rv rs)) (hb_a : Ro w NoX (bx ga 3 #[.int .i64 a])) (hb_f : Ro w NoX (bx gf 3 #[.int .i64 f])) (hb_b : Ro w NoX (bx gb 3 #[.int .i64 b])) (h_nv : Ro w NoX (il .i64 nv ns)) (hsm : SM (O.map ab)) (hns : ns = [a, b]) :
  Calls Tryz.prog 100 #[.agg #[ov, rv], .func (.func 103) #[] #[.pointer (some ⟨ga, 0, none⟩), .pointer (some ⟨gf, 0, none⟩), .pointer (some ⟨gb, 0, none⟩)], nv] w fun e w' => ∃ hv H qv, e = .returned (.tuple #[.agg #[hv, qv], .int .i64 (ptE (O.map ab) rs [a, b] a f)]) ∧ (H.map ab = (soO (O.map ab) rs a f b)) ∧ St w NoX [ro 2 obC hv H, owl .i64 (H.map (·.1)), owl .u64 (H.map (·.2)), io .i64 (qv) (soR (O.map ab) rs a f b)] w' := by
 subst hns
 have hall : ckd (O.map ab) rs [a, b] = 0 → GG (O.map ab) rs ∧ (0 ≤ a ∧ a < (rs.length : Int)) ∧ (0 ≤ b ∧ b < (rs.length : Int)) := fun hcd => ⟨(ckd_0.1 hcd).1, (ckd_0.1 hcd).2 a Zo, (ckd_0.1 hcd).2 b Zo⟩
 refine (kchG_c (caps := #[.pointer (some ⟨ga, 0, none⟩), .pointer (some ⟨gf, 0, none⟩), .pointer (some ⟨gb, 0, none⟩)]) h_ov n_ov h_rv h_nv hsm Tryz.func103 kr V (er := ldX (O.map ab) rs a f) (O2 := soI (O.map ab) rs a f b) (R2 := rs) (fun hcd W1 Y1 g hv H qv hR hHO hP => ?_)).mono ?_
 ·obtain ⟨hG, hab⟩ := hall hcd
  have hr8 := hG.r8
  have ho4 := hG.o4
  have hHl := congrArg List.length hHO
  rw [List.length_map, List.length_map] at hHl
  rw [List.length_map] at ho4
  have hrg0 : ∀ p ∈ rs, 0 ≤ p ∧ p ≤ (O.length : Int) := fun p hp => by have q := hG.reg p hp; rw [List.length_map] at q; exact q
  have hrg : ∀ p ∈ rs, 0 ≤ p ∧ p ≤ (H.length : Int) := fun p hp => by rw [hHl]; exact hrg0 p hp
  have ha := (ckd_0.1 hcd).2 a Zo
  have hb := (ckd_0.1 hcd).2 b Zo
  refine (kSo1_c (hR _ hb_a) (hR _ hb_f) (hR _ hb_b) hP (by first | omega | with_reducible assumption | simpa using hrg) (by first | omega | with_reducible assumption | simpa using hrg) (by first | omega | with_reducible assumption | simpa using hrg)).mono ?_
  rintro e w' ⟨hv', H', qv', rfl, h1, h2⟩
  try rw [hHO] at h1
  try rw [hHO] at h2
  try rw [hHO]
  exact ⟨hv', H', qv', rfl, h1, h2⟩
 rintro e w' ⟨hv, H, qv, rfl, h1, h2⟩
 obtain ⟨q1, q2, q3⟩ := ch_so (O := (O.map ab)) (rs := rs) (f := f) (a := a) (b := b)
 rw [q2] at h1
 rw [q3] at h2
 rw [q1]
 exact ⟨hv, H, qv, rfl, h1, h2⟩

set_option maxHeartbeats 4000000 in
theorem kchWrite_c {ov : Value} {O : List Ob} {rv : Value} {rs : List Int} {a : Int} {ga : Nat} {f : Int} {gf : Nat} {x : Int} {gx : Nat} {nv : Value} {ns : List Int} {w : World} (h_ov : Ro w NoX (rl 2 obC ov O)) (n_ov : Ro w NoX (nst O)) (h_rv : Ro w NoX (il .i64 rv rs)) (hb_a : Ro w NoX (bx ga 3 #[.int .i64 a])) (hb_f : Ro w NoX (bx gf 3 #[.int .i64 f])) (hb_x : Ro w NoX (bx gx 48 #[.int .u64 x])) (h_nv : Ro w NoX (il .i64 nv ns)) (hsm : SM (O.map ab)) (hns : ns = [a]) :
  Calls Tryz.prog 100 #[.agg #[ov, rv], .func (.func 105) #[] #[.pointer (some ⟨ga, 0, none⟩), .pointer (some ⟨gf, 0, none⟩), .pointer (some ⟨gx, 0, none⟩)], nv] w fun e w' => ∃ hv H qv, e = .returned (.tuple #[.agg #[hv, qv], .int .i64 (rwE (O.map ab) rs [a] a f)]) ∧ (H.map ab = (wrO (O.map ab) rs a f x)) ∧ St w NoX [ro 2 obC hv H, owl .i64 (H.map (·.1)), owl .u64 (H.map (·.2)), io .i64 (qv) (wrR (O.map ab) rs a f)] w' := by
 subst hns
 have hall : ckd (O.map ab) rs [a] = 0 → GG (O.map ab) rs ∧ (0 ≤ a ∧ a < (rs.length : Int)) := fun hcd => ⟨(ckd_0.1 hcd).1, (ckd_0.1 hcd).2 a Zo⟩
 refine (kchG_c (caps := #[.pointer (some ⟨ga, 0, none⟩), .pointer (some ⟨gf, 0, none⟩), .pointer (some ⟨gx, 0, none⟩)]) h_ov n_ov h_rv h_nv hsm Tryz.func105 kr V (er := wrX (O.map ab) rs a f) (O2 := wrI (O.map ab) rs a f x) (R2 := rs) (fun hcd W1 Y1 g hv H qv hR hHO hP => ?_)).mono ?_
 ·obtain ⟨hG, hab⟩ := hall hcd
  have hr8 := hG.r8
  have ho4 := hG.o4
  have hHl := congrArg List.length hHO
  rw [List.length_map, List.length_map] at hHl
  rw [List.length_map] at ho4
  have hrg0 : ∀ p ∈ rs, 0 ≤ p ∧ p ≤ (O.length : Int) := fun p hp => by have q := hG.reg p hp; rw [List.length_map] at q; exact q
  have hrg : ∀ p ∈ rs, 0 ≤ p ∧ p ≤ (H.length : Int) := fun p hp => by rw [hHl]; exact hrg0 p hp
  have ha := (ckd_0.1 hcd).2 a Zo
  refine (kWr1_c (hR _ hb_a) (hR _ hb_f) (hR _ hb_x) hP (by first | omega | with_reducible assumption | simpa using hrg) (by first | omega | with_reducible assumption | simpa using hrg)).mono ?_
  rintro e w' ⟨hv', H', qv', rfl, h1, h2⟩
  try rw [hHO] at h1
  try rw [hHO] at h2
  try rw [hHO]
  exact ⟨hv', H', qv', rfl, h1, h2⟩
 rintro e w' ⟨hv, H, qv, rfl, h1, h2⟩
 obtain ⟨q1, q2, q3⟩ := ch_wr (O := (O.map ab)) (rs := rs) (f := f) (x := x) (a := a)
 rw [q2] at h1
 rw [q3] at h2
 rw [q1]
 exact ⟨hv, H, qv, rfl, h1, h2⟩

set_option maxHeartbeats 4000000 in
theorem kchMove_c {ov : Value} {O : List Ob} {rv : Value} {rs : List Int} {b : Int} {gb : Nat} {a : Int} {ga : Nat} {nv : Value} {ns : List Int} {w : World} (h_ov : Ro w NoX (rl 2 obC ov O)) (n_ov : Ro w NoX (nst O)) (h_rv : Ro w NoX (il .i64 rv rs)) (hb_b : Ro w NoX (bx gb 3 #[.int .i64 b])) (hb_a : Ro w NoX (bx ga 3 #[.int .i64 a])) (h_nv : Ro w NoX (il .i64 nv ns)) (hsm : SM (O.map ab)) (hns : ns = [a, b]) :
  Calls Tryz.prog 100 #[.agg #[ov, rv], .func (.func 106) #[] #[.pointer (some ⟨gb, 0, none⟩), .pointer (some ⟨ga, 0, none⟩)], nv] w fun e w' => ∃ hv H qv, e = .returned (.tuple #[.agg #[hv, qv], .int .i64 (ckd (O.map ab) rs [a, b])]) ∧ (H.map ab = (kpO (O.map ab) rs [a, b])) ∧ St w NoX [ro 2 obC hv H, owl .i64 (H.map (·.1)), owl .u64 (H.map (·.2)), io .i64 (qv) (mvR (O.map ab) rs a b)] w' := by
 subst hns
 have hall : ckd (O.map ab) rs [a, b] = 0 → GG (O.map ab) rs ∧ (0 ≤ a ∧ a < (rs.length : Int)) ∧ (0 ≤ b ∧ b < (rs.length : Int)) := fun hcd => ⟨(ckd_0.1 hcd).1, (ckd_0.1 hcd).2 a Zo, (ckd_0.1 hcd).2 b Zo⟩
 refine (kchG_c (caps := #[.pointer (some ⟨gb, 0, none⟩), .pointer (some ⟨ga, 0, none⟩)]) h_ov n_ov h_rv h_nv hsm Tryz.func106 kr V (er := 0) (O2 := (O.map ab)) (R2 := rs.set a.toNat (rg rs b)) (fun hcd W1 Y1 g hv H qv hR hHO hP => ?_)).mono ?_
 ·obtain ⟨hG, hab⟩ := hall hcd
  have hr8 := hG.r8
  have ho4 := hG.o4
  have hHl := congrArg List.length hHO
  rw [List.length_map, List.length_map] at hHl
  rw [List.length_map] at ho4
  have hrg0 : ∀ p ∈ rs, 0 ≤ p ∧ p ≤ (O.length : Int) := fun p hp => by have q := hG.reg p hp; rw [List.length_map] at q; exact q
  have hrg : ∀ p ∈ rs, 0 ≤ p ∧ p ≤ (H.length : Int) := fun p hp => by rw [hHl]; exact hrg0 p hp
  have ha := (ckd_0.1 hcd).2 a Zo
  have hb := (ckd_0.1 hcd).2 b Zo
  refine (kMv1_c (hR _ hb_b) (hR _ hb_a) hP (by first | omega | with_reducible assumption | simpa using hrg) (by first | omega | with_reducible assumption | simpa using hrg)).mono ?_
  rintro e w' ⟨hv', H', qv', rfl, h1, h2⟩
  try rw [hHO] at h1
  try rw [hHO] at h2
  try rw [hHO]
  exact ⟨hv', H', qv', rfl, h1, h2⟩
 rintro e w' ⟨hv, H, qv, rfl, h1, h2⟩
 obtain ⟨q1, q2, q3⟩ := ch_mv (O := (O.map ab)) (rs := rs)  (a := a) (b := b)
 rw [q2] at h1
 rw [q3] at h2
 rw [q1]
 exact ⟨hv, H, qv, rfl, h1, h2⟩

set_option maxHeartbeats 4000000 in
theorem kchClear_c {ov : Value} {O : List Ob} {rv : Value} {rs : List Int} {a : Int} {ga : Nat} {nv : Value} {ns : List Int} {w : World} (h_ov : Ro w NoX (rl 2 obC ov O)) (n_ov : Ro w NoX (nst O)) (h_rv : Ro w NoX (il .i64 rv rs)) (hb_a : Ro w NoX (bx ga 3 #[.int .i64 a])) (h_nv : Ro w NoX (il .i64 nv ns)) (hsm : SM (O.map ab)) (hns : ns = [a]) :
  Calls Tryz.prog 100 #[.agg #[ov, rv], .func (.func 107) #[] #[.pointer (some ⟨ga, 0, none⟩)], nv] w fun e w' => ∃ hv H qv, e = .returned (.tuple #[.agg #[hv, qv], .int .i64 (ckd (O.map ab) rs [a])]) ∧ (H.map ab = (kpO (O.map ab) rs [a])) ∧ St w NoX [ro 2 obC hv H, owl .i64 (H.map (·.1)), owl .u64 (H.map (·.2)), io .i64 (qv) (clR (O.map ab) rs a)] w' := by
 subst hns
 have hall : ckd (O.map ab) rs [a] = 0 → GG (O.map ab) rs ∧ (0 ≤ a ∧ a < (rs.length : Int)) := fun hcd => ⟨(ckd_0.1 hcd).1, (ckd_0.1 hcd).2 a Zo⟩
 refine (kchG_c (caps := #[.pointer (some ⟨ga, 0, none⟩)]) h_ov n_ov h_rv h_nv hsm Tryz.func107 kr V (er := 0) (O2 := (O.map ab)) (R2 := rs.set a.toNat 0) (fun hcd W1 Y1 g hv H qv hR hHO hP => ?_)).mono ?_
 ·obtain ⟨hG, hab⟩ := hall hcd
  have hr8 := hG.r8
  have ho4 := hG.o4
  have hHl := congrArg List.length hHO
  rw [List.length_map, List.length_map] at hHl
  rw [List.length_map] at ho4
  have hrg0 : ∀ p ∈ rs, 0 ≤ p ∧ p ≤ (O.length : Int) := fun p hp => by have q := hG.reg p hp; rw [List.length_map] at q; exact q
  have hrg : ∀ p ∈ rs, 0 ≤ p ∧ p ≤ (H.length : Int) := fun p hp => by rw [hHl]; exact hrg0 p hp
  have ha := (ckd_0.1 hcd).2 a Zo
  refine (kCl1_c (hR _ hb_a) hP (by first | omega | with_reducible assumption | simpa using hrg)).mono ?_
  rintro e w' ⟨hv', H', qv', rfl, h1, h2⟩
  try rw [hHO] at h1
  try rw [hHO] at h2
  try rw [hHO]
  exact ⟨hv', H', qv', rfl, h1, h2⟩
 rintro e w' ⟨hv, H, qv, rfl, h1, h2⟩
 obtain ⟨q1, q2, q3⟩ := ch_cl (O := (O.map ab)) (rs := rs)  (a := a)
 rw [q2] at h1
 rw [q3] at h2
 rw [q1]
 exact ⟨hv, H, qv, rfl, h1, h2⟩

end Go.Proofs.YtpgkfndbfocibaaGreat
namespace Go.Proofs.YtpgkfndbfocibaaGreat
open Go.RowKit Go.Own Go.Own.R Go.Own.G Go.Own.Gr


set_option maxHeartbeats 4000000 in
theorem kAlloc_c {ov : Value} {O : List Ob} {rv : Value} {rs : List Int} {a p r : Int} {w : World} (h_ov : Ro w NoX (rl 2 obC ov O)) (n_ov : Ro w NoX (nst O)) (h_rv : Ro w NoX (il .i64 rv rs)) (hsm : SM (O.map ab)) :
  Calls Tryz.prog 99 #[.agg #[ov, rv], .int .i64 a, .int .i64 p, .int .i64 r] w fun e w' => ∃ hv H qv, e = .returned (.tuple #[.agg #[hv, qv], .int .i64 (alE (O.map ab) rs a p r)]) ∧ (H.map ab = (alO (O.map ab) rs a p r)) ∧ St w NoX [ro 2 obC hv H, owl .i64 (H.map (·.1)), owl .u64 (H.map (·.2)), io .i64 (qv) (alR (O.map ab) rs a p r)] w' := by
 refine ci4 17 Tryz.func99 V (fun A0 _ F0 => ?_)
 have hS := St.nil w
 have bh_ov := SlN.le (sl_SlN h_ov.at)
 have bh_rv := SlN.le (sl_SlN h_rv.at)
 refine tb fun _ H1 => (wB (#[ov, rv]) hS (fg0 F0) (fun g2 w2 c2 hc2 S2 => wB (#[.int .i64 (a)]) S2 (Sa (fg1 F0)) (fun g3 w3 c3 hc3 S3 => wB (#[.int .i64 (p)]) S3 (Sb (fg2 F0)) (fun g4 w4 c4 hc4 S4 => wB (#[.int .i64 (r)]) S4 (Sc (fg3 F0)) (fun g5 w5 c5 hc5 S5 => wA (#[.slice none 0 0, .slice none 0 0]) S5 (fun g6 w6 c6 hc6 S6 => vc (W_end (en (Qa (Ke F0)) fun A7 _ F7 => ta H1 fun _ H8 => (ra (fg4 F7) (S6.ob 4 hc2) (wv (V_mkf V args0 (args3 (Sa (fg2 F7)) (Sa (fg1 F7)) (Sa (fg3 F7)))) (rL (.int .i64 (a)) (Sb (fg3 F7)) (S6.ob 3 hc3) ?_)))))))))))
 have hll9 : [a].length = 1 := rfl
 refine xsL (vs := [.int .i64 (a)]) (xs := ([a].map (Value.int .i64))) 1 S6 V V V (parts1 t0) Tryz.underlying25 (fun g9 w9 c9 hc9 S9 => ?_)
 replace hc9 : c9 = io .i64 (.slice (some ⟨g9, 0, none⟩) 1 1) [a] := hc9
 replace S9 : St w NoX [c9, c6, c5, c4, c3, c2] w9 := S9
 refine wc (args3 (Sc t0) (Sb t0) t0) (kchAlloc_c (p := p) (gp := g4) (r := r) (gr := g5) (a := a) (ga := g3) (S9.roC h_ov) (S9.roC n_ov) (S9.roC h_rv) (S9.cC 3 hc4) (S9.cC 2 hc5) (S9.cC 4 hc3) (S9.cC 0 hc9).own Ze rfl) (fun _ w10 ⟨hv_10, H_10, qv_10, e, hH_10, hP10⟩ => ⟨_, e, ?_⟩)
 obtain ⟨cR_10, cP_10, cQ_10, cG_10, hcR_10, hcP_10, hcQ_10, hcG_10, hP10⟩ := gen4 hP10
 have S10 := S9.j4 hP10
 refine vx (.agg #[hv_10, qv_10]) t0 (vx (.int .i64 ((alE (O.map ab) rs a p r))) (Sa t0) (xsB5 S10 hc6 V V V (Sg (fg0 F7)) (Sa t0) (by simp only [List.all_toArray, List.all_cons, List.all_nil, SlN_one (ow_at (S10.cq 0 hcR_10)), SlN_one (ow_at (S10.cq 3 hcG_10))] <;> rfl) (fun w11 c11 hc11 S11 => vt (W_end (en (Ka (Qg F7)) fun A12 _ F12 => tk H8 (wp_ret (rt2 F12 (rvA (fg1 F12) (S11.ob 5 hc11)) (rv_tmp (fg0 F12)) ?_)))))))
 exact ⟨_, H_10, _, rfl, hH_10, (S11.f4 0 hcR_10 1 hcP_10 2 hcQ_10 3 hcG_10)⟩

set_option maxHeartbeats 4000000 in
theorem kLoad_c {ov : Value} {O : List Ob} {rv : Value} {rs : List Int} {a b f : Int} {w : World} (h_ov : Ro w NoX (rl 2 obC ov O)) (n_ov : Ro w NoX (nst O)) (h_rv : Ro w NoX (il .i64 rv rs)) (hsm : SM (O.map ab)) :
  Calls Tryz.prog 66 #[.agg #[ov, rv], .int .i64 a, .int .i64 b, .int .i64 f] w fun e w' => ∃ hv H qv, e = .returned (.tuple #[.agg #[hv, qv], .int .i64 (ptE (O.map ab) rs [a, b] b f)]) ∧ (H.map ab = (ldO (O.map ab) rs a b f)) ∧ St w NoX [ro 2 obC hv H, owl .i64 (H.map (·.1)), owl .u64 (H.map (·.2)), io .i64 (qv) (ldR (O.map ab) rs a b f)] w' := by
 refine ci4 18 Tryz.func66 V (fun A0 _ F0 => ?_)
 have hS := St.nil w
 have bh_ov := SlN.le (sl_SlN h_ov.at)
 have bh_rv := SlN.le (sl_SlN h_rv.at)
 refine tb fun _ H1 => (wB (#[ov, rv]) hS (fg0 F0) (fun g2 w2 c2 hc2 S2 => wB (#[.int .i64 (a)]) S2 (Sa (fg1 F0)) (fun g3 w3 c3 hc3 S3 => wB (#[.int .i64 (b)]) S3 (Sb (fg2 F0)) (fun g4 w4 c4 hc4 S4 => wB (#[.int .i64 (f)]) S4 (Sc (fg3 F0)) (fun g5 w5 c5 hc5 S5 => wA (#[.slice none 0 0, .slice none 0 0]) S5 (fun g6 w6 c6 hc6 S6 => vc (W_end (en (Qa (Ke F0)) fun A7 _ F7 => ta H1 fun _ H8 => (ra (fg4 F7) (S6.ob 4 hc2) (wv (V_mkf V args0 (args3 (Sa (fg2 F7)) (Sa (fg1 F7)) (Sa (fg3 F7)))) (rL (.int .i64 (a)) (Sb (fg3 F7)) (S6.ob 3 hc3) (rL (.int .i64 (b)) (Sc (fg2 F7)) (S6.ob 2 hc4) ?_))))))))))))
 have hll9 : [a, b].length = 2 := rfl
 refine xsL (vs := [.int .i64 (a), .int .i64 (b)]) (xs := ([a, b].map (Value.int .i64))) 1 S6 V V V (parts2 (Sa t0) t0) Tryz.underlying25 (fun g9 w9 c9 hc9 S9 => ?_)
 replace hc9 : c9 = io .i64 (.slice (some ⟨g9, 0, none⟩) 2 2) [a, b] := hc9
 replace S9 : St w NoX [c9, c6, c5, c4, c3, c2] w9 := S9
 refine wc (args3 (Sd t0) (Sc t0) t0) (kchLoad_c (b := b) (gb := g4) (f := f) (gf := g5) (a := a) (ga := g3) (S9.roC h_ov) (S9.roC n_ov) (S9.roC h_rv) (S9.cC 3 hc4) (S9.cC 2 hc5) (S9.cC 4 hc3) (S9.cC 0 hc9).own Ze rfl) (fun _ w10 ⟨hv_10, H_10, qv_10, e, hH_10, hP10⟩ => ⟨_, e, ?_⟩)
 obtain ⟨cR_10, cP_10, cQ_10, cG_10, hcR_10, hcP_10, hcQ_10, hcG_10, hP10⟩ := gen4 hP10
 have S10 := S9.j4 hP10
 refine vx (.agg #[hv_10, qv_10]) t0 (vx (.int .i64 ((ptE (O.map ab) rs [a, b] b f))) (Sa t0) (xsB5 S10 hc6 V V V (Sh (fg0 F7)) (Sa t0) (by simp only [List.all_toArray, List.all_cons, List.all_nil, SlN_one (ow_at (S10.cq 0 hcR_10)), SlN_one (ow_at (S10.cq 3 hcG_10))] <;> rfl) (fun w11 c11 hc11 S11 => vt (W_end (en (Ka (Qh F7)) fun A12 _ F12 => tk H8 (wp_ret (rt2 F12 (rvA (fg1 F12) (S11.ob 5 hc11)) (rv_tmp (fg0 F12)) ?_)))))))
 exact ⟨_, H_10, _, rfl, hH_10, (S11.f4 0 hcR_10 1 hcP_10 2 hcQ_10 3 hcG_10)⟩

set_option maxHeartbeats 4000000 in
theorem kStore_c {ov : Value} {O : List Ob} {rv : Value} {rs : List Int} {a f b : Int} {w : World} (h_ov : Ro w NoX (rl 2 obC ov O)) (n_ov : Ro w NoX (nst O)) (h_rv : Ro w NoX (il .i64 rv rs)) (hsm : SM (O.map ab)) :
  Calls Tryz.prog 67 #[.agg #[ov, rv], .int .i64 a, .int .i64 f, .int .i64 b] w fun e w' => ∃ hv H qv, e = .returned (.tuple #[.agg #[hv, qv], .int .i64 (ptE (O.map ab) rs [a, b] a f)]) ∧ (H.map ab = (soO (O.map ab) rs a f b)) ∧ St w NoX [ro 2 obC hv H, owl .i64 (H.map (·.1)), owl .u64 (H.map (·.2)), io .i64 (qv) (soR (O.map ab) rs a f b)] w' := by
 refine ci4 18 Tryz.func67 V (fun A0 _ F0 => ?_)
 have hS := St.nil w
 have bh_ov := SlN.le (sl_SlN h_ov.at)
 have bh_rv := SlN.le (sl_SlN h_rv.at)
 refine tb fun _ H1 => (wB (#[ov, rv]) hS (fg0 F0) (fun g2 w2 c2 hc2 S2 => wB (#[.int .i64 (a)]) S2 (Sa (fg1 F0)) (fun g3 w3 c3 hc3 S3 => wB (#[.int .i64 (f)]) S3 (Sb (fg2 F0)) (fun g4 w4 c4 hc4 S4 => wB (#[.int .i64 (b)]) S4 (Sc (fg3 F0)) (fun g5 w5 c5 hc5 S5 => wA (#[.slice none 0 0, .slice none 0 0]) S5 (fun g6 w6 c6 hc6 S6 => vc (W_end (en (Qa (Ke F0)) fun A7 _ F7 => ta H1 fun _ H8 => (ra (fg4 F7) (S6.ob 4 hc2) (wv (V_mkf V args0 (args3 (Sa (fg3 F7)) (Sa (fg2 F7)) (Sa (fg1 F7)))) (rL (.int .i64 (a)) (Sb (fg3 F7)) (S6.ob 3 hc3) (rL (.int .i64 (b)) (Sc (fg1 F7)) (S6.ob 1 hc5) ?_))))))))))))
 have hll9 : [a, b].length = 2 := rfl
 refine xsL (vs := [.int .i64 (a), .int .i64 (b)]) (xs := ([a, b].map (Value.int .i64))) 1 S6 V V V (parts2 (Sa t0) t0) Tryz.underlying25 (fun g9 w9 c9 hc9 S9 => ?_)
 replace hc9 : c9 = io .i64 (.slice (some ⟨g9, 0, none⟩) 2 2) [a, b] := hc9
 replace S9 : St w NoX [c9, c6, c5, c4, c3, c2] w9 := S9
 refine wc (args3 (Sd t0) (Sc t0) t0) (kchStore_c (a := a) (ga := g3) (f := f) (gf := g4) (b := b) (gb := g5) (S9.roC h_ov) (S9.roC n_ov) (S9.roC h_rv) (S9.cC 4 hc3) (S9.cC 3 hc4) (S9.cC 2 hc5) (S9.cC 0 hc9).own Ze rfl) (fun _ w10 ⟨hv_10, H_10, qv_10, e, hH_10, hP10⟩ => ⟨_, e, ?_⟩)
 obtain ⟨cR_10, cP_10, cQ_10, cG_10, hcR_10, hcP_10, hcQ_10, hcG_10, hP10⟩ := gen4 hP10
 have S10 := S9.j4 hP10
 refine vx (.agg #[hv_10, qv_10]) t0 (vx (.int .i64 ((ptE (O.map ab) rs [a, b] a f))) (Sa t0) (xsB5 S10 hc6 V V V (Sh (fg0 F7)) (Sa t0) (by simp only [List.all_toArray, List.all_cons, List.all_nil, SlN_one (ow_at (S10.cq 0 hcR_10)), SlN_one (ow_at (S10.cq 3 hcG_10))] <;> rfl) (fun w11 c11 hc11 S11 => vt (W_end (en (Ka (Qh F7)) fun A12 _ F12 => tk H8 (wp_ret (rt2 F12 (rvA (fg1 F12) (S11.ob 5 hc11)) (rv_tmp (fg0 F12)) ?_)))))))
 exact ⟨_, H_10, _, rfl, hH_10, (S11.f4 0 hcR_10 1 hcP_10 2 hcQ_10 3 hcG_10)⟩

set_option maxHeartbeats 4000000 in
theorem kWrite_c {ov : Value} {O : List Ob} {rv : Value} {rs : List Int} {a f x : Int} {w : World} (h_ov : Ro w NoX (rl 2 obC ov O)) (n_ov : Ro w NoX (nst O)) (h_rv : Ro w NoX (il .i64 rv rs)) (hsm : SM (O.map ab)) :
  Calls Tryz.prog 69 #[.agg #[ov, rv], .int .i64 a, .int .i64 f, .int .u64 x] w fun e w' => ∃ hv H qv, e = .returned (.tuple #[.agg #[hv, qv], .int .i64 (rwE (O.map ab) rs [a] a f)]) ∧ (H.map ab = (wrO (O.map ab) rs a f x)) ∧ St w NoX [ro 2 obC hv H, owl .i64 (H.map (·.1)), owl .u64 (H.map (·.2)), io .i64 (qv) (wrR (O.map ab) rs a f)] w' := by
 refine ci4 17 Tryz.func69 V (fun A0 _ F0 => ?_)
 have hS := St.nil w
 have bh_ov := SlN.le (sl_SlN h_ov.at)
 have bh_rv := SlN.le (sl_SlN h_rv.at)
 refine tb fun _ H1 => (wB (#[ov, rv]) hS (fg0 F0) (fun g2 w2 c2 hc2 S2 => wB (#[.int .i64 (a)]) S2 (Sa (fg1 F0)) (fun g3 w3 c3 hc3 S3 => wB (#[.int .i64 (f)]) S3 (Sb (fg2 F0)) (fun g4 w4 c4 hc4 S4 => wB (#[.int .u64 (x)]) S4 (Sc (fg3 F0)) (fun g5 w5 c5 hc5 S5 => wA (#[.slice none 0 0, .slice none 0 0]) S5 (fun g6 w6 c6 hc6 S6 => vc (W_end (en (Qa (Ke F0)) fun A7 _ F7 => ta H1 fun _ H8 => (ra (fg4 F7) (S6.ob 4 hc2) (wv (V_mkf V args0 (args3 (Sa (fg3 F7)) (Sa (fg2 F7)) (Sa (fg1 F7)))) (rL (.int .i64 (a)) (Sb (fg3 F7)) (S6.ob 3 hc3) ?_)))))))))))
 have hll9 : [a].length = 1 := rfl
 refine xsL (vs := [.int .i64 (a)]) (xs := ([a].map (Value.int .i64))) 1 S6 V V V (parts1 t0) Tryz.underlying25 (fun g9 w9 c9 hc9 S9 => ?_)
 replace hc9 : c9 = io .i64 (.slice (some ⟨g9, 0, none⟩) 1 1) [a] := hc9
 replace S9 : St w NoX [c9, c6, c5, c4, c3, c2] w9 := S9
 refine wc (args3 (Sc t0) (Sb t0) t0) (kchWrite_c (a := a) (ga := g3) (f := f) (gf := g4) (x := x) (gx := g5) (S9.roC h_ov) (S9.roC n_ov) (S9.roC h_rv) (S9.cC 4 hc3) (S9.cC 3 hc4) (S9.cC 2 hc5) (S9.cC 0 hc9).own Ze rfl) (fun _ w10 ⟨hv_10, H_10, qv_10, e, hH_10, hP10⟩ => ⟨_, e, ?_⟩)
 obtain ⟨cR_10, cP_10, cQ_10, cG_10, hcR_10, hcP_10, hcQ_10, hcG_10, hP10⟩ := gen4 hP10
 have S10 := S9.j4 hP10
 refine vx (.agg #[hv_10, qv_10]) t0 (vx (.int .i64 ((rwE (O.map ab) rs [a] a f))) (Sa t0) (xsB5 S10 hc6 V V V (Sg (fg0 F7)) (Sa t0) (by simp only [List.all_toArray, List.all_cons, List.all_nil, SlN_one (ow_at (S10.cq 0 hcR_10)), SlN_one (ow_at (S10.cq 3 hcG_10))] <;> rfl) (fun w11 c11 hc11 S11 => vt (W_end (en (Ka (Qg F7)) fun A12 _ F12 => tk H8 (wp_ret (rt2 F12 (rvA (fg1 F12) (S11.ob 5 hc11)) (rv_tmp (fg0 F12)) ?_)))))))
 exact ⟨_, H_10, _, rfl, hH_10, (S11.f4 0 hcR_10 1 hcP_10 2 hcQ_10 3 hcG_10)⟩

set_option maxHeartbeats 4000000 in
theorem kMove_c {ov : Value} {O : List Ob} {rv : Value} {rs : List Int} {a b : Int} {w : World} (h_ov : Ro w NoX (rl 2 obC ov O)) (n_ov : Ro w NoX (nst O)) (h_rv : Ro w NoX (il .i64 rv rs)) (hsm : SM (O.map ab)) :
  Calls Tryz.prog 70 #[.agg #[ov, rv], .int .i64 a, .int .i64 b] w fun e w' => ∃ hv H qv, e = .returned (.tuple #[.agg #[hv, qv], .int .i64 (ckd (O.map ab) rs [a, b])]) ∧ (H.map ab = (kpO (O.map ab) rs [a, b])) ∧ St w NoX [ro 2 obC hv H, owl .i64 (H.map (·.1)), owl .u64 (H.map (·.2)), io .i64 (qv) (mvR (O.map ab) rs a b)] w' := by
 refine ci3 16 Tryz.func70 V (fun A0 _ F0 => ?_)
 have hS := St.nil w
 have bh_ov := SlN.le (sl_SlN h_ov.at)
 have bh_rv := SlN.le (sl_SlN h_rv.at)
 refine tb fun _ H1 => (wB (#[ov, rv]) hS (fg0 F0) (fun g2 w2 c2 hc2 S2 => wB (#[.int .i64 (a)]) S2 (Sa (fg1 F0)) (fun g3 w3 c3 hc3 S3 => wB (#[.int .i64 (b)]) S3 (Sb (fg2 F0)) (fun g4 w4 c4 hc4 S4 => wA (#[.slice none 0 0, .slice none 0 0]) S4 (fun g5 w5 c5 hc5 S5 => vc (W_end (en (Qa (Kd F0)) fun A6 _ F6 => ta H1 fun _ H7 => (ra (fg3 F6) (S5.ob 3 hc2) (wv (V_mkf V args0 (args2 (Sa (fg1 F6)) (Sa (fg2 F6)))) (rL (.int .i64 (a)) (Sb (fg2 F6)) (S5.ob 2 hc3) (rL (.int .i64 (b)) (Sc (fg1 F6)) (S5.ob 1 hc4) ?_)))))))))))
 have hll8 : [a, b].length = 2 := rfl
 refine xsL (vs := [.int .i64 (a), .int .i64 (b)]) (xs := ([a, b].map (Value.int .i64))) 1 S5 V V V (parts2 (Sa t0) t0) Tryz.underlying25 (fun g8 w8 c8 hc8 S8 => ?_)
 replace hc8 : c8 = io .i64 (.slice (some ⟨g8, 0, none⟩) 2 2) [a, b] := hc8
 replace S8 : St w NoX [c8, c5, c4, c3, c2] w8 := S8
 refine wc (args3 (Sd t0) (Sc t0) t0) (kchMove_c (b := b) (gb := g4) (a := a) (ga := g3) (S8.roC h_ov) (S8.roC n_ov) (S8.roC h_rv) (S8.cC 2 hc4) (S8.cC 3 hc3) (S8.cC 0 hc8).own Ze rfl) (fun _ w9 ⟨hv_9, H_9, qv_9, e, hH_9, hP9⟩ => ⟨_, e, ?_⟩)
 obtain ⟨cR_9, cP_9, cQ_9, cG_9, hcR_9, hcP_9, hcQ_9, hcG_9, hP9⟩ := gen4 hP9
 have S9 := S8.j4 hP9
 refine vx (.agg #[hv_9, qv_9]) t0 (vx (.int .i64 ((ckd (O.map ab) rs [a, b]))) (Sa t0) (xsB5 S9 hc5 V V V (Sh (fg0 F6)) (Sa t0) (by simp only [List.all_toArray, List.all_cons, List.all_nil, SlN_one (ow_at (S9.cq 0 hcR_9)), SlN_one (ow_at (S9.cq 3 hcG_9))] <;> rfl) (fun w10 c10 hc10 S10 => vt (W_end (en (Ka (Qh F6)) fun A11 _ F11 => tk H7 (wp_ret (rt2 F11 (rvA (fg1 F11) (S10.ob 5 hc10)) (rv_tmp (fg0 F11)) ?_)))))))
 exact ⟨_, H_9, _, rfl, hH_9, (S10.f4 0 hcR_9 1 hcP_9 2 hcQ_9 3 hcG_9)⟩

set_option maxHeartbeats 4000000 in
theorem kClear_c {ov : Value} {O : List Ob} {rv : Value} {rs : List Int} {a : Int} {w : World} (h_ov : Ro w NoX (rl 2 obC ov O)) (n_ov : Ro w NoX (nst O)) (h_rv : Ro w NoX (il .i64 rv rs)) (hsm : SM (O.map ab)) :
  Calls Tryz.prog 71 #[.agg #[ov, rv], .int .i64 a] w fun e w' => ∃ hv H qv, e = .returned (.tuple #[.agg #[hv, qv], .int .i64 (ckd (O.map ab) rs [a])]) ∧ (H.map ab = (kpO (O.map ab) rs [a])) ∧ St w NoX [ro 2 obC hv H, owl .i64 (H.map (·.1)), owl .u64 (H.map (·.2)), io .i64 (qv) (clR (O.map ab) rs a)] w' := by
 refine ci2 13 Tryz.func71 V (fun A0 _ F0 => ?_)
 have hS := St.nil w
 have bh_ov := SlN.le (sl_SlN h_ov.at)
 have bh_rv := SlN.le (sl_SlN h_rv.at)
 refine tb fun _ H1 => (wB (#[ov, rv]) hS (fg0 F0) (fun g2 w2 c2 hc2 S2 => wB (#[.int .i64 (a)]) S2 (Sa (fg1 F0)) (fun g3 w3 c3 hc3 S3 => wA (#[.slice none 0 0, .slice none 0 0]) S3 (fun g4 w4 c4 hc4 S4 => vc (W_end (en (Qa (Kc F0)) fun A5 _ F5 => ta H1 fun _ H6 => (ra (fg2 F5) (S4.ob 2 hc2) (wv (V_mkf V args0 (args1 (Sa (fg1 F5)))) (rL (.int .i64 (a)) (Sb (fg1 F5)) (S4.ob 1 hc3) ?_)))))))))
 have hll7 : [a].length = 1 := rfl
 refine xsL (vs := [.int .i64 (a)]) (xs := ([a].map (Value.int .i64))) 1 S4 V V V (parts1 t0) Tryz.underlying25 (fun g7 w7 c7 hc7 S7 => ?_)
 replace hc7 : c7 = io .i64 (.slice (some ⟨g7, 0, none⟩) 1 1) [a] := hc7
 replace S7 : St w NoX [c7, c4, c3, c2] w7 := S7
 refine wc (args3 (Sc t0) (Sb t0) t0) (kchClear_c (a := a) (ga := g3) (S7.roC h_ov) (S7.roC n_ov) (S7.roC h_rv) (S7.cC 2 hc3) (S7.cC 0 hc7).own Ze rfl) (fun _ w8 ⟨hv_8, H_8, qv_8, e, hH_8, hP8⟩ => ⟨_, e, ?_⟩)
 obtain ⟨cR_8, cP_8, cQ_8, cG_8, hcR_8, hcP_8, hcQ_8, hcG_8, hP8⟩ := gen4 hP8
 have S8 := S7.j4 hP8
 refine vx (.agg #[hv_8, qv_8]) t0 (vx (.int .i64 ((ckd (O.map ab) rs [a]))) (Sa t0) (xsB5 S8 hc4 V V V (Sg (fg0 F5)) (Sa t0) (by simp only [List.all_toArray, List.all_cons, List.all_nil, SlN_one (ow_at (S8.cq 0 hcR_8)), SlN_one (ow_at (S8.cq 3 hcG_8))] <;> rfl) (fun w9 c9 hc9 S9 => vt (W_end (en (Ka (Qg F5)) fun A10 _ F10 => tk H6 (wp_ret (rt2 F10 (rvA (fg1 F10) (S9.ob 5 hc9)) (rv_tmp (fg0 F10)) ?_)))))))
 exact ⟨_, H_8, _, rfl, hH_8, (S9.f4 0 hcR_8 1 hcP_8 2 hcQ_8 3 hcG_8)⟩

set_option maxHeartbeats 4000000 in
theorem qAlloc_c {ov : Value} {O : List Ob} {rv : Value} {rs : List Int} {a p r : Int} {w : World} (h_ov : Ro w NoX (rl 2 obC ov O)) (n_ov : Ro w NoX (nst O)) (h_rv : Ro w NoX (il .i64 rv rs)) (hsm : SM (O.map ab)) :
  Calls Tryz.prog 82 #[.agg #[ov, rv], .int .i64 a, .int .i64 p, .int .i64 r] w fun e w' => ∃ hv H qv, e = .returned (.tuple #[.agg #[hv, qv], .int .i64 (alE (O.map ab) rs a p r)]) ∧ (H.map ab = (alO (O.map ab) rs a p r)) ∧ St w NoX [ro 2 obC hv H, owl .i64 (H.map (·.1)), owl .u64 (H.map (·.2)), io .i64 (qv) (alR (O.map ab) rs a p r)] w' := by
 refine ci4 61 Tryz.func82 V (fun A0 _ F0 => ?_)
 have hS := St.nil w
 have bh_ov := SlN.le (sl_SlN h_ov.at)
 have bh_rv := SlN.le (sl_SlN h_rv.at)
 refine tb fun _ H1 => (wB (#[ov, rv]) hS (fg0 F0) (fun g2 w2 c2 hc2 S2 => wA (#[.slice none 0 0, .slice none 0 0]) S2 (fun g3 w3 c3 hc3 S3 => vc (W_end (en (Qa (Kb F0)) fun A4 _ F4 => ta H1 fun _ H5 => (ra (fg1 F4) (S3.ob 1 hc2) (vm (Sa (fg3 F4)) ?_)))))))
 have hll6 : [a].length = 1 := rfl
 refine xsL (vs := [.int .i64 (a)]) (xs := ([a].map (Value.int .i64))) 1 S3 V V V (parts1 t0) Tryz.underlying25 (fun g6 w6 c6 hc6 S6 => ?_)
 replace hc6 : c6 = io .i64 (.slice (some ⟨g6, 0, none⟩) 1 1) [a] := hc6
 replace S6 : St w NoX [c6, c3, c2] w6 := S6
 refine wc (args2 (Sb t0) t0) (qcd_c (S6.roC h_ov) (S6.roC n_ov) (S6.roC h_rv) (S6.cC 0 hc6).own) (C0 S6 fun w7 S7 => vt (W_end (en (Ka (Qd F4)) fun A8 _ F8 => ?_)))
 have S9 := S7.se [1, 2] [c3, c2]
 refine tc H5 fun _ H10 => tb fun _ H11 => (vm (fg0 F8) (vn t0 V (W_end (en (Ka (Qa F8)) fun A12 _ F12 => tk H11 (cd (fg0 F12) (fun c13 => ?_) fun c13 => ?_)))))
 ·refine tb fun _ H14 => (wv (xbS (n := 2) (z := .agg #[.slice none 0 0, .slice none 0 0]) V parts0) (vm (Sa (fg1 F12)) (xsA0 S9 hc3 V V V (Sb (fg2 F12)) (Sa t0) (fun w15 c15 hc15 S15 => vt (W_end (en (Ka (Qb F12)) fun A16 _ F16 => ?_))))))
  have S17 := S15.se [0] [c15]
  refine tk H14 (wp_ret (then_ret (rt2 F16 (rvA (fg3 F16) (S17.ob 0 hc15)) (rv_tmp (fg0 F16)) ?_)))
  obtain ⟨c18, hc18, S18⟩ := S17.pnil (s := 2)
  replace hc18 : c18 = ro 2 obC (.slice none 0 0) ([] : List Ob) := hc18
  obtain ⟨c19, cb19, hc19, hcb19, S19⟩ := gen2 (nst_nils S18)
  obtain ⟨c20, hc20, S20⟩ := S19.pnil (s := 1)
  have h := al_ck (p := p) (r := r) c13
  rw [h.1, h.2.1]
  exact ⟨_, ([] : List Ob), _, rfl, rfl, (S20.f4 3 hc18 1 hc19 2 hcb19 0 (hc20.trans (by rw [h.2.2] <;> rfl)))⟩
 have hcd : ckd (O.map ab) rs [a] = 0 := by simpa using c13
 have hG0 := (ckd_0.1 hcd).1
 have hG := hG0
 have hrg : ∀ p ∈ rs, 0 ≤ p ∧ p ≤ (O.length : Int) := fun p hp => by have q := hG0.reg p hp; rw [List.length_map] at q; exact q
 have ha := (ckd_0.1 hcd).2 a Zo
 refine wp_skip (tc H10 fun _ H21 => tb fun _ H22 => (vm (fg6 F12) (vl t0 V (W_split V V (V_mov V t0) (fun c23 => ?_) (fun c23 => ?_)))))
 ·refine xo V t0 (xo V (Sa t0) (vT (Sb t0) V (W_end (en (Ka (Qe F12)) fun A24 _ F24 => tk H22 (cond_t (fg0 F24) (tb fun _ H25 => (wv (xbS (n := 2) (z := .agg #[.slice none 0 0, .slice none 0 0]) V parts0) (xsA0 S9 hc3 V V V (Sa (fg3 F24)) t0 (fun w26 c26 hc26 S26 => vc (W_end (en (Ka (Qa F24)) fun A27 _ F27 => ?_)))))))))))
  have S28 := S26.se [0] [c26]
  refine tk H25 (wp_ret (then_ret (rt2 F27 (rvA (fg4 F27) (S28.ob 0 hc26)) (rv_tmp (fg0 F27)) ?_)))
  obtain ⟨c29, hc29, S29⟩ := S28.pnil (s := 2)
  replace hc29 : c29 = ro 2 obC (.slice none 0 0) ([] : List Ob) := hc29
  obtain ⟨c30, cb30, hc30, hcb30, S30⟩ := gen2 (nst_nils S29)
  obtain ⟨c31, hc31, S31⟩ := S30.pnil (s := 1)
  have hX : (alX p r (O.map ab).length) = 10 := alX_bad Zb
  have h := al_no (a := a) hcd (by rw [hX]; decide)
  rw [hX] at h
  rw [h.1, h.2.1]
  exact ⟨_, ([] : List Ob), _, rfl, rfl, (S31.f4 3 hc29 1 hc30 2 hcb30 0 (hc31.trans (by rw [h.2.2] <;> rfl)))⟩
 refine wg V t0 (uvm (Sc (fg7 F12))) (wg V (Sa t0) (uvl t0 V) (vF (Sb t0) t0 (W_end (en (Ka (Qe F12)) fun A32 _ F32 => tk H22 (cd (fg0 F32) (fun c33 => ?_) fun c33 => ?_)))))
 ·refine tb fun _ H34 => (wv (xbS (n := 2) (z := .agg #[.slice none 0 0, .slice none 0 0]) V parts0) (xsA0 S9 hc3 V V V (Sa (fg3 F32)) t0 (fun w35 c35 hc35 S35 => vc (W_end (en (Ka (Qa F32)) fun A36 _ F36 => ?_)))))
  have S37 := S35.se [0] [c35]
  refine tk H34 (wp_ret (then_ret (rt2 F36 (rvA (fg4 F36) (S37.ob 0 hc35)) (rv_tmp (fg0 F36)) ?_)))
  obtain ⟨c38, hc38, S38⟩ := S37.pnil (s := 2)
  replace hc38 : c38 = ro 2 obC (.slice none 0 0) ([] : List Ob) := hc38
  obtain ⟨c39, cb39, hc39, hcb39, S39⟩ := gen2 (nst_nils S38)
  obtain ⟨c40, hc40, S40⟩ := S39.pnil (s := 1)
  have hX : (alX p r (O.map ab).length) = 10 := alX_bad Zb
  have h := al_no (a := a) hcd (by rw [hX]; decide)
  rw [hX] at h
  rw [h.1, h.2.1]
  exact ⟨_, ([] : List Ob), _, rfl, rfl, (S40.f4 3 hc38 1 hc39 2 hcb39 0 (hc40.trans (by rw [h.2.2] <;> rfl)))⟩
 refine wp_skip (tc H21 fun _ H41 => tb fun _ H42 => (vm (fg7 F32) (vg t0 V (W_split V V (V_mov V t0) (fun c43 => ?_) (fun c43 => ?_)))))
 ·refine xo V t0 (xo V (Sa t0) (xo V (Sb t0) (xo V (Sc t0) (vT (Sd t0) V (W_end (en (Ka (Qg F32)) fun A44 _ F44 => tk H42 (cond_t (fg0 F44) (tb fun _ H45 => (wv (xbS (n := 2) (z := .agg #[.slice none 0 0, .slice none 0 0]) V parts0) (xsA0 S9 hc3 V V V (Sa (fg4 F44)) t0 (fun w46 c46 hc46 S46 => vc (W_end (en (Ka (Qa F44)) fun A47 _ F47 => ?_)))))))))))))
  have S48 := S46.se [0] [c46]
  refine tk H45 (wp_ret (then_ret (rt2 F47 (rvA (fg5 F47) (S48.ob 0 hc46)) (rv_tmp (fg0 F47)) ?_)))
  obtain ⟨c49, hc49, S49⟩ := S48.pnil (s := 2)
  replace hc49 : c49 = ro 2 obC (.slice none 0 0) ([] : List Ob) := hc49
  obtain ⟨c50, cb50, hc50, hcb50, S50⟩ := gen2 (nst_nils S49)
  obtain ⟨c51, hc51, S51⟩ := S50.pnil (s := 1)
  have hX : (alX p r (O.map ab).length) = 11 := alX_big Zb Zb
  have h := al_no (a := a) hcd (by rw [hX]; decide)
  rw [hX] at h
  rw [h.1, h.2.1]
  exact ⟨_, ([] : List Ob), _, rfl, rfl, (S51.f4 3 hc49 1 hc50 2 hcb50 0 (hc51.trans (by rw [h.2.2] <;> rfl)))⟩
 refine wg V t0 (uvm (Sc (fg8 F32))) (wg V (Sa t0) (uvm (Sd (fg7 F32))) (wg V (Sb t0) (usu V t0) (wg V (Sc t0) (uvg (Sb t0) t0) (vF (Sd t0) t0 (W_end (en (Ka (Qg F32)) fun A52 _ F52 => tk H42 (cd (fg0 F52) (fun c53 => ?_) fun c53 => ?_)))))))
 ·refine tb fun _ H54 => (wv (xbS (n := 2) (z := .agg #[.slice none 0 0, .slice none 0 0]) V parts0) (xsA0 S9 hc3 V V V (Sa (fg4 F52)) t0 (fun w55 c55 hc55 S55 => vc (W_end (en (Ka (Qa F52)) fun A56 _ F56 => ?_)))))
  have S57 := S55.se [0] [c55]
  refine tk H54 (wp_ret (then_ret (rt2 F56 (rvA (fg5 F56) (S57.ob 0 hc55)) (rv_tmp (fg0 F56)) ?_)))
  obtain ⟨c58, hc58, S58⟩ := S57.pnil (s := 2)
  replace hc58 : c58 = ro 2 obC (.slice none 0 0) ([] : List Ob) := hc58
  obtain ⟨c59, cb59, hc59, hcb59, S59⟩ := gen2 (nst_nils S58)
  obtain ⟨c60, hc60, S60⟩ := S59.pnil (s := 1)
  have hX : (alX p r (O.map ab).length) = 11 := alX_big Zb Zb
  have h := al_no (a := a) hcd (by rw [hX]; decide)
  rw [hX] at h
  rw [h.1, h.2.1]
  exact ⟨_, ([] : List Ob), _, rfl, rfl, (S60.f4 3 hc58 1 hc59 2 hcb59 0 (hc60.trans (by rw [h.2.2] <;> rfl)))⟩
 refine wp_skip (tc H41 fun _ H61 => tb fun _ H62 => (fa 0 (fg5 F52) (rL ov t0 (S9.ob 1 hc2) (le_ t0 (sl_SlN h_ov.at) (ve t0 V (W_end (en (Ka (Qc F52)) fun A63 _ F63 => tk H62 (cd (fg0 F63) (fun c64 => ?_) fun c64 => ?_))))))))
 ·refine tb fun _ H65 => (wv (xbS (n := 2) (z := .agg #[.slice none 0 0, .slice none 0 0]) V parts0) (xsA0 S9 hc3 V V V (Sa (fg5 F63)) t0 (fun w66 c66 hc66 S66 => vc (W_end (en (Ka (Qa F63)) fun A67 _ F67 => ?_)))))
  have S68 := S66.se [0] [c66]
  refine tk H65 (wp_ret (then_ret (rt2 F67 (rvA (fg6 F67) (S68.ob 0 hc66)) (rv_tmp (fg0 F67)) ?_)))
  obtain ⟨c69, hc69, S69⟩ := S68.pnil (s := 2)
  replace hc69 : c69 = ro 2 obC (.slice none 0 0) ([] : List Ob) := hc69
  obtain ⟨c70, cb70, hc70, hcb70, S70⟩ := gen2 (nst_nils S69)
  obtain ⟨c71, hc71, S71⟩ := S70.pnil (s := 1)
  have hX : (alX p r (O.map ab).length) = 5 := alX_full Zb Zb Zp
  have h := al_no (a := a) hcd (by rw [hX]; decide)
  rw [hX] at h
  rw [h.1, h.2.1]
  exact ⟨_, ([] : List Ob), _, rfl, rfl, (S71.f4 3 hc69 1 hc70 2 hcb70 0 (hc71.trans (by rw [h.2.2] <;> rfl)))⟩
 refine wp_skip (ta H61 fun _ H72 => (ra (fg6 F63) (S9.ob 1 hc2) (wc (args1 t0) (qCn_c (S9.roC h_ov) (S9.roC n_ov) (S9.roC h_rv) Ze (by first | omega | (have q := hG.r8; omega)) (by first | omega | (have q := hG.o4; rw [List.length_map] at q; omega))) (fun _ w73 ⟨hv_73, H_73, qv_73, e, hH_73, hP73⟩ => ⟨_, e, ?_⟩))))
 obtain ⟨cR_73, cP_73, cQ_73, cG_73, hcR_73, hcP_73, hcQ_73, hcG_73, hP73⟩ := gen4 hP73
 have S73 := S9.j4 hP73
 have hHl := mp_lenE hH_73
 rw [List.length_map] at hHl
 have hHo := hG.o4
 rw [List.length_map] at hHo
 refine wA (#[.slice none 0 0, .slice none 0 0]) S73 (fun g74 w74 c74 hc74 S74 => xsB0 S74 hc74 V V V t0 (Sa t0) (by simp only [List.all_toArray, List.all_cons, List.all_nil, SlN_one (ow_at (S74.cq 1 hcR_73)), SlN_one (ow_at (S74.cq 4 hcG_73))] <;> rfl) (fun w75 c75 hc75 S75 => W_end (en (Ka (Qb F63)) fun A76 _ F76 => ?_)))
 have S77 := S75.se [0, 1, 2, 3, 4, 5] [c75, cR_73, cP_73, cQ_73, cG_73, c3]
 refine tc H72 fun _ H78 => region_monoS 8 9 [none, none, none, some (SPv [] (fun _ => fun u l' => ∃ v, u = v ∧ ∃ c, c = ow 1 p.toNat v (List.replicate p.toNat (.int .i64 0)) ∧ l' = [c]) 3), none, some (SPv [] (fun _ => fun u l' => ∃ v, u = v ∧ ∃ c, c = ow 1 r.toNat v (List.replicate r.toNat (.int .u64 0)) ∧ l' = [c]) 5), none, some (SPv [46, 48] (fun vs => fun u l' => ∃ g_, u = .slice (some ⟨g_, 0, none⟩) 1 1 ∧ ∃ c_, c_ = ro 2 obC (.slice (some ⟨g_, 0, none⟩) 1 1) [(((vs.getD 0 undef), (List.replicate p.toNat (0 : Int))), ((vs.getD 1 undef), (List.replicate r.toNat (0 : Int))))] ∧ l' = [c_]) 7)] kr kr (df 0 (fg0 F76) (dr (fun _ hx _ => (urc t0 (cell_box (v := hv_73) ((S77.grow hx).ob 0 hc75) V))) (dm (Sb (fg10 F76)) (D_lay (ts := []) (vs := []) (C0 := fun _ => fun u l' => ∃ v, u = v ∧ ∃ c, c = ow 1 p.toNat v (List.replicate p.toNat (.int .i64 0)) ∧ l' = [c]) (C := fun u l' => ∃ v, u = v ∧ ∃ c, c = ow 1 p.toNat v (List.replicate p.toNat (.int .i64 0)) ∧ l' = [c]) V V V V V V (fun sx hx hF => lay_mk (z := .int .i64 0) (bytes := 8) p.toNat V t0 t0 Zb Tryz.underlying25 kr Zb V) (fun u79 l79 hu79 => ?_)))))
 obtain ⟨v79, rfl, c79, hc79, hl79⟩ := hu79
 replace hc79 : c79 = io .i64 u79 (List.replicate p.toNat (0 : Int)) := hc79.trans (by simp only [io, bo, List.map_replicate, List.length_replicate])
 refine dm (Sd (fg11 F76)) (D_lay (ts := []) (vs := []) (C0 := fun _ => fun u l' => ∃ v, u = v ∧ ∃ c, c = ow 1 r.toNat v (List.replicate r.toNat (.int .u64 0)) ∧ l' = [c]) (C := fun u l' => ∃ v, u = v ∧ ∃ c, c = ow 1 r.toNat v (List.replicate r.toNat (.int .u64 0)) ∧ l' = [c]) V V V V V V (fun sx hx hF => lay_mk (z := .int .u64 0) (bytes := 8) r.toNat V t0 t0 Zb Tryz.underlying68 kr Zb V) (fun u80 l80 hu80 => ?_))
 obtain ⟨v80, rfl, c80, hc80, hl80⟩ := hu80
 replace hc80 : c80 = io .u64 u80 (List.replicate r.toNat (0 : Int)) := hc80.trans (by simp only [io, bo, List.map_replicate, List.length_replicate])
 refine D_r V V kr (fun sx hx hF => by obtain ⟨ll79, ws79, we79, ⟨v79q, hq79, c79_, hc79_, hl79_⟩, hm79, k79, e79⟩ := L.ancF_get (L.ancF_rest hF) kr; cases hq79; subst hl79_; obtain ⟨ll80, ws80, we80, ⟨v80q, hq80, c80_, hc80_, hl80_⟩, hm80, k80, e80⟩ := L.ancF_get hF kr; cases hq80; subst hl80_; exact ((V_bldS (n := 2) (z := .agg #[.slice none 0 0, .slice none 0 0]) V (parts2 (es2 V (et V)) (et V)) kr (by simp only [List.all_cons, List.all_nil, SlN_one (ow_at ((k79.grow e79).cq 0 hc79_)), SlN_one (ow_at ((k80.grow e80).cq 0 hc80_)), Bool.and_true] <;> rfl) kr Zn : Val _ _ _ _) _)) V V ?_
 have hll81 : [((u79, (List.replicate p.toNat (0 : Int))), (u80, (List.replicate r.toNat (0 : Int))))].length = 1 := rfl
 refine D_lay (ts := [46, 48]) (vs := [u79, u80]) (C0 := fun vs => fun u l' => ∃ g_, u = .slice (some ⟨g_, 0, none⟩) 1 1 ∧ ∃ c_, c_ = ro 2 obC (.slice (some ⟨g_, 0, none⟩) 1 1) [(((vs.getD 0 undef), (List.replicate p.toNat (0 : Int))), ((vs.getD 1 undef), (List.replicate r.toNat (0 : Int))))] ∧ l' = [c_]) (C := fun u l' => ∃ g_, u = .slice (some ⟨g_, 0, none⟩) 1 1 ∧ ∃ c_, c_ = ro 2 obC (.slice (some ⟨g_, 0, none⟩) 1 1) [((u79, (List.replicate p.toNat (0 : Int))), (u80, (List.replicate r.toNat (0 : Int))))] ∧ l' = [c_]) V V V V (ts2 (Sc t0) (Sa t0)) V (fun sx hx hF => lay_lit (vs := [.agg #[u79, u80]]) 2 V (parts1 t0) V Tryz.underlying28 kr Zg (by intro v hv; simp only [List.mem_cons, List.not_mem_nil, or_false] at hv; rcases hv with rfl <;> rfl) Zi) (fun u81 l81 hu81 => ?_)
 obtain ⟨g81, rfl, c81, hc81, hl81⟩ := hu81
 refine D_eff V (ZS_eff S77 V V (fun s82 hJ82 hL82 hF82 => ?_))
 obtain ⟨ll79, ws79, we79, ⟨v79q, hq79, c79r, hc79r, hl79r⟩, hm79, k79, e79⟩ := L.all_get (L.all_rest (L.all_rest hF82)); cases hq79; subst hl79r
 replace hJ82 := hJ82.add hL82 (i := 3) V hm79 k79 e79
 replace hc79r : c79r = io .i64 u79 (List.replicate p.toNat (0 : Int)) := hc79r.trans (by simp only [io, bo, List.map_replicate, List.length_replicate])
 obtain ⟨ll80, ws80, we80, ⟨v80q, hq80, c80r, hc80r, hl80r⟩, hm80, k80, e80⟩ := L.all_get (L.all_rest hF82); cases hq80; subst hl80r
 replace hJ82 := hJ82.add hL82 (i := 5) V hm80 k80 e80
 replace hc80r : c80r = io .u64 u80 (List.replicate r.toNat (0 : Int)) := hc80r.trans (by simp only [io, bo, List.map_replicate, List.length_replicate])
 obtain ⟨ll81, ws81, we81, ⟨g81q, hq81, c81r, hc81r, hl81r⟩, hm81, k81, e81⟩ := L.all_get hF82; cases hq81; subst hl81r
 replace hJ82 := hJ82.add hL82 (i := 7) V hm81 k81 e81
 have S82 := hJ82.st; clear hF82 hJ82 hL82
 generalize s82.1 = w82 at *
 replace S82 : St w NoX [c81r, c80r, c79r, c75, cR_73, cP_73, cQ_73, cG_73, c3] w82 := S82
 refine W_appS 2 4 S82 V hcR_73 V V V (Sf t0) t0 Tryz.underlying28 Tryz.underlying28 (z := .agg #[.slice none 0 0, .slice none 0 0]) (bytes := 48) kr V Zg (ow_at (S82.cq 0 hc81r)) (by intro u hu; simp only [List.flatMap_cons, List.flatMap_nil, obC, List.append_nil, List.cons_append, List.nil_append, List.mem_cons, List.not_mem_nil, or_false] at hu; rcases hu with rfl | rfl <;> first | exact SlN_one (ow_at (S82.cq 2 hc79r)) | exact SlN_one (ow_at (S82.cq 1 hc80r))) Zd Zd (fun v83 w83 c83 hc83 S83 => ?_)
 replace hc83 : c83 = ro 2 obC v83 (H_73 ++ [((u79, (List.replicate p.toNat (0 : Int))), (u80, (List.replicate r.toNat (0 : Int))))]) := hc83.trans (app_eqR Zc)
 replace S83 : St w NoX [c81r, c80r, c79r, c75, c83, cP_73, cQ_73, cG_73, c3] w83 := S83
 have S84 := S83.se [2, 5, 1, 6, 0, 3, 4, 7, 8] [c79r, cP_73, c80r, cQ_73, c81r, c75, c83, cG_73, c3]
 rw [hc79r, hcP_73, hc80r, hcQ_73] at S84
 obtain ⟨c85, cb85, hc85, hcb85, S85⟩ := gen2 (nst_push (pv := u79) (ps := (List.replicate p.toNat (0 : Int))) (qv := u80) (qs := (List.replicate r.toNat (0 : Int))) (O := H_73) S84)
 replace hc85 : c85 = owl .i64 ((H_73 ++ [((u79, (List.replicate p.toNat (0 : Int))), (u80, (List.replicate r.toNat (0 : Int))))]).map (·.1)) := hc85
 replace hcb85 : cb85 = owl .u64 ((H_73 ++ [((u79, (List.replicate p.toNat (0 : Int))), (u80, (List.replicate r.toNat (0 : Int))))]).map (·.2)) := hcb85
 refine fa 0 (Sh (Sa (fg0 F76))) (xsC3 (zs' := #[v83, qv_73]) S85 hc75 V V V t0 (Sa t0) (SlN_one (ow_at (S85.cq 4 hc83))) (fun w86 c86 hc86 S86 => W_end (Qo_normal (en (Qb (Qh F76)) fun A87 _ F87 => ?_))))
 have S88 := S86.se [0, 1, 3, 4, 5, 6] [c85, cb85, c86, c83, cG_73, c3]
 refine ta H78 fun _ H89 => (fa 1 (fg0 F87) (rL qv_73 t0 (S88.ob 2 hc86) (vm (Sb (fg9 F87)) (fa 0 (Sc (fg0 F87)) (rL v83 t0 (S88.ob 2 hc86) (le_ t0 (ow_at (S88.cq 3 hc83)) ?_))))))
 have k90 : a.toNat < rs.length := om
 obtain ⟨y90, hy90⟩ := get_some (xs := rs) (k := a.toNat) k90
 obtain ⟨B90, O90, C90, hv90⟩ := (SlN.blk (ow_at (S88.chq 4 rfl hcG_73)) om)
 refine wv (V_ixS (off := O90 + a.toNat) 1 a.toNat V (Sd t0) (Sc t0) hv90 Zb k90 Tryz.underlying25 kr (congrArg _ (Nat.mul_one _))) (W_stE 4 S88 V hcG_73 hv90 V V V t0 (Sa t0) Zi V Zq kr (fun w91 c91 hc91 S91 => ?_))
 replace hc91 : c91 = io .i64 qv_73 (rs.set a.toNat ((H_73 ++ [((u79, (List.replicate p.toNat (0 : Int))), (u80, (List.replicate r.toNat (0 : Int))))]).length : Int)) := hc91.trans (by simp [io, bo, List.map_set] <;> rfl)
 replace S91 : St w NoX [c85, cb85, c86, c83, c91, c3] w91 := S91
 refine W_end (en (Qg F87) fun A92 _ F92 => ta H89 fun _ H93 => (ra (fg0 F92) (S91.ob 2 hc86) (xsB5 S91 hc3 V V V (Sa (fg6 F92)) t0 (by simp only [List.all_toArray, List.all_cons, List.all_nil, SlN_one (ow_at (S91.cq 3 hc83)), SlN_one (ow_at (S91.cq 4 hc91))] <;> rfl) (fun w94 c94 hc94 S94 => vc (W_end (en (Ka (Qa F92)) fun A95 _ F95 => tk H93 (wp_ret (rt2 F95 (rvA (fg7 F95) (S94.ob 5 hc94)) (rv_tmp (fg0 F95)) ?_))))))))
 have hX : (alX p r (O.map ab).length) = 0 := alX_ok Zb Zb Zp
 have h := al_ok' (a := a) hcd hX
 rw [h.1, h.2.1]
 exact ⟨_, (H_73 ++ [((u79, (List.replicate p.toNat (0 : Int))), (u80, (List.replicate r.toNat (0 : Int))))]), _, rfl, by rw [al_map, hH_73], (S94.f4 3 hc83 0 hc85 1 hcb85 4 (hc91.trans ((congrArg (fun z => io .i64 _ (rs.set a.toNat z)) (show _ = (((O.map ab).length : Nat) : Int) + 1 by simp [hHl])).trans (by rw [h.2.2]))))⟩

set_option maxHeartbeats 4000000 in
theorem qLoad_c {ov : Value} {O : List Ob} {rv : Value} {rs : List Int} {a b f : Int} {w : World} (h_ov : Ro w NoX (rl 2 obC ov O)) (n_ov : Ro w NoX (nst O)) (h_rv : Ro w NoX (il .i64 rv rs)) (hsm : SM (O.map ab)) :
  Calls Tryz.prog 83 #[.agg #[ov, rv], .int .i64 a, .int .i64 b, .int .i64 f] w fun e w' => ∃ hv H qv, e = .returned (.tuple #[.agg #[hv, qv], .int .i64 (ptE (O.map ab) rs [a, b] b f)]) ∧ (H.map ab = (ldO (O.map ab) rs a b f)) ∧ St w NoX [ro 2 obC hv H, owl .i64 (H.map (·.1)), owl .u64 (H.map (·.2)), io .i64 (qv) (ldR (O.map ab) rs a b f)] w' := by
 refine ci4 55 Tryz.func83 V (fun A0 _ F0 => ?_)
 have hS := St.nil w
 have bh_ov := SlN.le (sl_SlN h_ov.at)
 have bh_rv := SlN.le (sl_SlN h_rv.at)
 refine tb fun _ H1 => (wB (#[ov, rv]) hS (fg0 F0) (fun g2 w2 c2 hc2 S2 => wA (#[.slice none 0 0, .slice none 0 0]) S2 (fun g3 w3 c3 hc3 S3 => vc (W_end (en (Qa (Kb F0)) fun A4 _ F4 => ta H1 fun _ H5 => (ra (fg1 F4) (S3.ob 1 hc2) (vm (Sa (fg3 F4)) (vm (Sb (fg4 F4)) ?_))))))))
 have hll6 : [a, b].length = 2 := rfl
 refine xsL (vs := [.int .i64 (a), .int .i64 (b)]) (xs := ([a, b].map (Value.int .i64))) 1 S3 V V V (parts2 (Sa t0) t0) Tryz.underlying25 (fun g6 w6 c6 hc6 S6 => ?_)
 replace hc6 : c6 = io .i64 (.slice (some ⟨g6, 0, none⟩) 2 2) [a, b] := hc6
 replace S6 : St w NoX [c6, c3, c2] w6 := S6
 refine wc (args2 (Sc t0) t0) (qcd_c (S6.roC h_ov) (S6.roC n_ov) (S6.roC h_rv) (S6.cC 0 hc6).own) (C0 S6 fun w7 S7 => vt (W_end (en (Ka (Qe F4)) fun A8 _ F8 => ?_)))
 have S9 := S7.se [1, 2] [c3, c2]
 refine tc H5 fun _ H10 => tb fun _ H11 => (vm (fg0 F8) (vn t0 V (W_end (en (Ka (Qa F8)) fun A12 _ F12 => tk H11 (cd (fg0 F12) (fun c13 => ?_) fun c13 => ?_)))))
 ·refine tb fun _ H14 => (wv (xbS (n := 2) (z := .agg #[.slice none 0 0, .slice none 0 0]) V parts0) (vm (Sa (fg1 F12)) (xsA0 S9 hc3 V V V (Sb (fg2 F12)) (Sa t0) (fun w15 c15 hc15 S15 => vt (W_end (en (Ka (Qb F12)) fun A16 _ F16 => ?_))))))
  have S17 := S15.se [0] [c15]
  refine tk H14 (wp_ret (then_ret (rt2 F16 (rvA (fg3 F16) (S17.ob 0 hc15)) (rv_tmp (fg0 F16)) ?_)))
  obtain ⟨c18, hc18, S18⟩ := S17.pnil (s := 2)
  replace hc18 : c18 = ro 2 obC (.slice none 0 0) ([] : List Ob) := hc18
  obtain ⟨c19, cb19, hc19, hcb19, S19⟩ := gen2 (nst_nils S18)
  obtain ⟨c20, hc20, S20⟩ := S19.pnil (s := 1)
  obtain ⟨c21, hc21, S21⟩ := S20.pnil (s := 2)
  replace hc21 : c21 = ro 2 obC (.slice none 0 0) ([] : List Ob) := hc21
  obtain ⟨c22, cb22, hc22, hcb22, S22⟩ := gen2 (nst_nils S21)
  obtain ⟨c23, hc23, S23⟩ := S22.pnil (s := 1)
  have h := ld_ck (f := f) c13
  rw [h.1, h.2.1]
  exact ⟨_, ([] : List Ob), _, rfl, rfl, (S23.f4 3 hc21 1 hc22 2 hcb22 0 (hc23.trans (by rw [h.2.2] <;> rfl)))⟩
 have hcd : ckd (O.map ab) rs [a, b] = 0 := by simpa using c13
 have hG0 := (ckd_0.1 hcd).1
 have hG := hG0
 have hrg : ∀ p ∈ rs, 0 ≤ p ∧ p ≤ (O.length : Int) := fun p hp => by have q := hG0.reg p hp; rw [List.length_map] at q; exact q
 have ha := (ckd_0.1 hcd).2 a Zo
 have hb := (ckd_0.1 hcd).2 b Zo
 refine wp_skip (ta H10 fun _ H24 => (ra (fg3 F12) (S9.ob 1 hc2) (vm (Sa (fg6 F12)) (wc (args2 (Sa t0) t0) (qob_c (a := b) (S9.roC h_ov) (S9.roC n_ov) (S9.roC h_rv) (by first | with_reducible assumption | (have q := hG.reg; simpa using q)) Zm) ?_))))
 rintro _ w25 (⟨rfl, hz_25, hP25⟩ | ⟨y_25, rfl, hy_25, hz_25, hP25⟩)
 ·refine ⟨_, rfl, ?_⟩
  have S25 := S9.j0 hP25
  refine vm t0 (vx (.agg #[.slice none 0 0, .slice none 0 0]) t0 (vx (.bool false) (Sa t0) (wA (#[.slice none 0 0, .slice none 0 0]) S25 (fun g26 w26 c26 hc26 S26 => xsA0 S26 hc26 V V V t0 (Sb t0) (fun w27 c27 hc27 S27 => va (Sa t0) (W_end (en (Kb (Qf F12)) fun A28 _ F28 => tc H24 fun _ H29 => tb fun _ H30 => (vm (fg0 F28) (wv (V_notF V t0) (vm t0 (xo V t0 (xo V (Sa t0) (vT (Sb t0) V (vm t0 (xo V t0 (xo V (Sa t0) (xo V (Sb t0) (xo V (Sc t0) (xo V (Sd t0) (vT (Se t0) V (W_end (en (Ka (Qd (Qh F28))) fun A31 _ F31 => tk H30 (cond_t (fg0 F31) (tb fun _ H32 => (wv (xbS (n := 2) (z := .agg #[.slice none 0 0, .slice none 0 0]) V parts0) (xsA1 S27 hc3 V V V (Sa (fg5 F31)) t0 (fun w33 c33 hc33 S33 => vc (W_end (en (Ka (Qa F31)) fun A34 _ F34 => ?_)))))))))))))))))))))))))))))
  have S35 := S33.se [1] [c33]
  refine tk H32 (wp_ret (then_ret (rt2 F34 (rvA (fg6 F34) (S35.ob 0 hc33)) (rv_tmp (fg0 F34)) ?_)))
  obtain ⟨c36, hc36, S36⟩ := S35.pnil (s := 2)
  replace hc36 : c36 = ro 2 obC (.slice none 0 0) ([] : List Ob) := hc36
  obtain ⟨c37, cb37, hc37, hcb37, S37⟩ := gen2 (nst_nils S36)
  obtain ⟨c38, hc38, S38⟩ := S37.pnil (s := 1)
  have hE := pt_no (a := b) (f := f) hcd (.inl hz_25)
  have h := ld_e (by rw [hE]; decide)
  rw [hE, h.1]
  exact ⟨_, ([] : List Ob), _, rfl, rfl, (S38.f4 3 hc36 1 hc37 2 hcb37 0 (hc38.trans (by rw [h.2] <;> rfl)))⟩
 refine ⟨_, rfl, ?_⟩
 have S25 := S9.j0 hP25
 have fn39 : Ro w NoX (il .i64 y_25.1.1 y_25.1.2) := nst_ro1 n_ov hy_25
 have bfn39 := SlN.le (sl_SlN (S25.ro fn39))
 have fn40 : Ro w NoX (il .u64 y_25.2.1 y_25.2.2) := nst_ro2 n_ov hy_25
 have bfn40 := SlN.le (sl_SlN (S25.ro fn40))
 refine vm t0 (vx (.agg #[y_25.1.1, y_25.2.1]) t0 (vx (.bool true) (Sa t0) (wA (#[.slice none 0 0, .slice none 0 0]) S25 (fun g41 w41 c41 hc41 S41 => xsB0 S41 hc41 V V V t0 (Sb t0) (by simp only [List.all_toArray, List.all_cons, List.all_nil, obC, SlN_one (sl_SlN fn39.at), SlN_one (sl_SlN fn40.at)] <;> rfl) (fun w42 c42 hc42 S42 => va (Sa t0) (W_end (en (Kb (Qf F12)) fun A43 _ F43 => tc H24 fun _ H44 => tb fun _ H45 => (vm (fg0 F43) (wv (V_notT V t0) (vm t0 (wg V t0 (uvm (Sc (fg9 F43))) (wg V (Sa t0) (uvl t0 V) (vF (Sb t0) t0 (W_split V V (V_mov V t0) (fun c46 => ?_) (fun c46 => ?_)))))))))))))))
 ·refine xo V t0 (xo V (Sa t0) (xo V (Sb t0) (xo V (Sc t0) (xo V (Sd t0) (vT (Se t0) V (W_end (en (Ka (Qd (Qh F43))) fun A47 _ F47 => tk H45 (cond_t (fg0 F47) (tb fun _ H48 => (wv (xbS (n := 2) (z := .agg #[.slice none 0 0, .slice none 0 0]) V parts0) (xsA1 S42 hc3 V V V (Sa (fg5 F47)) t0 (fun w49 c49 hc49 S49 => vc (W_end (en (Ka (Qa F47)) fun A50 _ F50 => ?_))))))))))))))
  have S51 := S49.se [1] [c49]
  refine tk H48 (wp_ret (then_ret (rt2 F50 (rvA (fg6 F50) (S51.ob 0 hc49)) (rv_tmp (fg0 F50)) ?_)))
  obtain ⟨c52, hc52, S52⟩ := S51.pnil (s := 2)
  replace hc52 : c52 = ro 2 obC (.slice none 0 0) ([] : List Ob) := hc52
  obtain ⟨c53, cb53, hc53, hcb53, S53⟩ := gen2 (nst_nils S52)
  obtain ⟨c54, hc54, S54⟩ := S53.pnil (s := 1)
  have hE := pt_no (a := b) (f := f) hcd (.inr (.inl Zb))
  have h := ld_e (by rw [hE]; decide)
  rw [hE, h.1]
  exact ⟨_, ([] : List Ob), _, rfl, rfl, (S54.f4 3 hc52 1 hc53 2 hcb53 0 (hc54.trans (by rw [h.2] <;> rfl)))⟩
 refine wg V t0 (uvm (Sg (fg9 F43))) (wg V (Sa t0) (ufa 0 (Sh (fg1 F43))) (wq V (Sb t0) (urL y_25.1.1 t0 (S42.ob 0 hc42)) (wg V (Sc t0) (ule_ t0 (sl_SlN fn39.at)) (wg V (Sd t0) (uvh (Sc t0) t0) (vF (Se t0) t0 (W_end (en (Ka (Qd (Qh F43))) fun A55 _ F55 => tk H45 (cd (fg0 F55) (fun c56 => ?_) fun c56 => ?_))))))))
 ·refine tb fun _ H57 => (wv (xbS (n := 2) (z := .agg #[.slice none 0 0, .slice none 0 0]) V parts0) (xsA1 S42 hc3 V V V (Sa (fg5 F55)) t0 (fun w58 c58 hc58 S58 => vc (W_end (en (Ka (Qa F55)) fun A59 _ F59 => ?_)))))
  have S60 := S58.se [1] [c58]
  refine tk H57 (wp_ret (then_ret (rt2 F59 (rvA (fg6 F59) (S60.ob 0 hc58)) (rv_tmp (fg0 F59)) ?_)))
  obtain ⟨c61, hc61, S61⟩ := S60.pnil (s := 2)
  replace hc61 : c61 = ro 2 obC (.slice none 0 0) ([] : List Ob) := hc61
  obtain ⟨c62, cb62, hc62, hcb62, S62⟩ := gen2 (nst_nils S61)
  obtain ⟨c63, hc63, S63⟩ := S62.pnil (s := 1)
  have hE := pt_no (a := b) (f := f) hcd (.inr (.inr (by rw [ob_at hy_25]; simp only [ab]; omega)))
  have h := ld_e (by rw [hE]; decide)
  rw [hE, h.1]
  exact ⟨_, ([] : List Ob), _, rfl, rfl, (S63.f4 3 hc61 1 hc62 2 hcb62 0 (hc63.trans (by rw [h.2] <;> rfl)))⟩
 refine wp_skip (ta H44 fun _ H64 => (ra (fg6 F55) (S42.ob 2 hc2) (wc (args1 t0) (qCn_c (S42.roC h_ov) (S42.roC n_ov) (S42.roC h_rv) Ze (by first | omega | (have q := hG.r8; omega)) (by first | omega | (have q := hG.o4; rw [List.length_map] at q; omega))) (fun _ w65 ⟨hv_65, H_65, qv_65, e, hH_65, hP65⟩ => ⟨_, e, ?_⟩))))
 obtain ⟨cR_65, cP_65, cQ_65, cG_65, hcR_65, hcP_65, hcQ_65, hcG_65, hP65⟩ := gen4 hP65
 have S65 := S42.j4 hP65
 have hHl := mp_lenE hH_65
 rw [List.length_map] at hHl
 have hHo := hG.o4
 rw [List.length_map] at hHo
 refine wA (#[.slice none 0 0, .slice none 0 0]) S65 (fun g66 w66 c66 hc66 S66 => xsB0 S66 hc66 V V V t0 (Sa t0) (by simp only [List.all_toArray, List.all_cons, List.all_nil, obC, SlN_one (ow_at (S66.cq 1 hcR_65)), SlN_one (ow_at (S66.cq 4 hcG_65))] <;> rfl) (fun w67 c67 hc67 S67 => W_end (en (Ka (Qb F55)) fun A68 _ F68 => ?_)))
 have S69 := S67.se [0, 1, 2, 3, 4, 5, 6] [c67, cR_65, cP_65, cQ_65, cG_65, c42, c3]
 refine tc H64 fun _ H70 => region_monoS 9 10 [] kr kr (df 1 (fg0 F68) (dr (fun _ hx _ => (urc t0 (cell_box (v := qv_65) ((S69.grow hx).ob 0 hc67) V))) (dm (Sb (fg9 F68)) (df 0 (Sc (fg3 F68)) (dr (fun _ hx _ => (urc t0 (cell_box (v := y_25.1.1) ((S69.grow hx).ob 5 hc42) V))) (dm (Se (fg11 F68)) ?_))))))
 have k71 : f.toNat < y_25.1.2.length := om
 obtain ⟨y71, hy71⟩ := get_some (xs := y_25.1.2) (k := f.toNat) k71
 obtain ⟨B71, O71, C71, hv71⟩ := (SlN.blk (sl_SlN fn39.at) om)
 refine dv (V_ixS (off := O71 + f.toNat) 1 f.toNat V (Sa t0) t0 hv71 Zb k71 Tryz.underlying25 kr (congrArg _ (Nat.mul_one _))) (dr (fun _ hx _ => (urc t0 ((sl_SlN ((S69.grow hx).ro fn39)).cell hv71 (map_get hy71)))) ?_)
 have k72 : a.toNat < rs.length := om
 obtain ⟨y72, hy72⟩ := get_some (xs := rs) (k := a.toNat) k72
 have hq72 := rg_at hy72
 have hrg72 := hrg y72 (List.mem_of_getElem? hy72)
 obtain ⟨B72, O72, C72, hv72⟩ := (SlN.blk (ow_at (S69.chq 4 rfl hcG_65)) om)
 refine dv (V_ixS (off := O72 + a.toNat) 1 a.toNat V (Sf t0) (Se t0) hv72 Zb k72 Tryz.underlying25 kr (congrArg _ (Nat.mul_one _))) (D_eff V (ZS_eff S69 V V (fun s73 hJ73 hL73 hF73 => ?_)))
 have S73 := hJ73.st; clear hF73 hJ73 hL73
 generalize s73.1 = w73 at *
 replace S73 : St w NoX [c67, cR_65, cP_65, cQ_65, cG_65, c42, c3] w73 := S73
 refine W_stE 4 S73 V hcG_65 hv72 V V V t0 (Sa t0) Zi V Zq kr (fun w74 c74 hc74 S74 => ?_)
 replace hc74 : c74 = io .i64 qv_65 (rs.set a.toNat y71) := hc74.trans (by simp [io, bo, List.map_set] <;> rfl)
 replace S74 : St w NoX [c67, cR_65, cP_65, cQ_65, c74, c42, c3] w74 := S74
 refine W_end (Qo_normal (en (Qa (Qh F68)) fun A75 _ F75 => ?_))
 have S76 := S74.se [0, 1, 2, 3, 4, 6] [c67, cR_65, cP_65, cQ_65, c74, c3]
 refine ta H70 fun _ H77 => (ra (fg0 F75) (S76.ob 0 hc67) (xsB5 S76 hc3 V V V (Sa (fg6 F75)) t0 (by simp only [List.all_toArray, List.all_cons, List.all_nil, obC, SlN_one (ow_at (S76.cq 1 hcR_65)), SlN_one (ow_at (S76.cq 4 hc74))] <;> rfl) (fun w78 c78 hc78 S78 => vc (W_end (en (Ka (Qa F75)) fun A79 _ F79 => tk H77 (wp_ret (rt2 F79 (rvA (fg7 F79) (S78.ob 5 hc78)) (rv_tmp (fg0 F79)) ?_)))))))
 have hE := pt_ok (a := b) (f := f) hcd (by rintro (q | q | q) <;> first | omega | (rw [ob_at hy_25] at q; simp only [ab] at q; omega))
 have h := ld_k hE
 rw [hE, h.1]
 exact ⟨_, H_65, _, rfl, hH_65, (S78.f4 1 hcR_65 2 hcP_65 3 hcQ_65 4 (hc74.trans ((congrArg (fun z => io .i64 _ (rs.set a.toNat z)) (getD_at hy71).symm).trans (by rw [h.2, ob_at hy_25] <;> rfl))))⟩

end Go.Proofs.YtpgkfndbfocibaaGreat
namespace Go.Proofs.YtpgkfndbfocibaaGreat
open Go.RowKit Go.Own Go.Own.R Go.Own.G Go.Own.Gr


set_option maxHeartbeats 4000000 in
theorem qStore_c {ov : Value} {O : List Ob} {rv : Value} {rs : List Int} {a f b : Int} {w : World} (h_ov : Ro w NoX (rl 2 obC ov O)) (n_ov : Ro w NoX (nst O)) (h_rv : Ro w NoX (il .i64 rv rs)) (hsm : SM (O.map ab)) :
  Calls Tryz.prog 84 #[.agg #[ov, rv], .int .i64 a, .int .i64 f, .int .i64 b] w fun e w' => ∃ hv H qv, e = .returned (.tuple #[.agg #[hv, qv], .int .i64 (ptE (O.map ab) rs [a, b] a f)]) ∧ (H.map ab = (soO (O.map ab) rs a f b)) ∧ St w NoX [ro 2 obC hv H, owl .i64 (H.map (·.1)), owl .u64 (H.map (·.2)), io .i64 (qv) (soR (O.map ab) rs a f b)] w' := by
 refine ci4 64 Tryz.func84 V (fun A0 _ F0 => ?_)
 have hS := St.nil w
 have bh_ov := SlN.le (sl_SlN h_ov.at)
 have bh_rv := SlN.le (sl_SlN h_rv.at)
 refine tb fun _ H1 => (wB (#[ov, rv]) hS (fg0 F0) (fun g2 w2 c2 hc2 S2 => wA (#[.slice none 0 0, .slice none 0 0]) S2 (fun g3 w3 c3 hc3 S3 => vc (W_end (en (Qa (Kb F0)) fun A4 _ F4 => ta H1 fun _ H5 => (ra (fg1 F4) (S3.ob 1 hc2) (vm (Sa (fg3 F4)) (vm (Sb (fg5 F4)) ?_))))))))
 have hll6 : [a, b].length = 2 := rfl
 refine xsL (vs := [.int .i64 (a), .int .i64 (b)]) (xs := ([a, b].map (Value.int .i64))) 1 S3 V V V (parts2 (Sa t0) t0) Tryz.underlying25 (fun g6 w6 c6 hc6 S6 => ?_)
 replace hc6 : c6 = io .i64 (.slice (some ⟨g6, 0, none⟩) 2 2) [a, b] := hc6
 replace S6 : St w NoX [c6, c3, c2] w6 := S6
 refine wc (args2 (Sc t0) t0) (qcd_c (S6.roC h_ov) (S6.roC n_ov) (S6.roC h_rv) (S6.cC 0 hc6).own) (C0 S6 fun w7 S7 => vt (W_end (en (Ka (Qe F4)) fun A8 _ F8 => ?_)))
 have S9 := S7.se [1, 2] [c3, c2]
 refine tc H5 fun _ H10 => tb fun _ H11 => (vm (fg0 F8) (vn t0 V (W_end (en (Ka (Qa F8)) fun A12 _ F12 => tk H11 (cd (fg0 F12) (fun c13 => ?_) fun c13 => ?_)))))
 ·refine tb fun _ H14 => (wv (xbS (n := 2) (z := .agg #[.slice none 0 0, .slice none 0 0]) V parts0) (vm (Sa (fg1 F12)) (xsA0 S9 hc3 V V V (Sb (fg2 F12)) (Sa t0) (fun w15 c15 hc15 S15 => vt (W_end (en (Ka (Qb F12)) fun A16 _ F16 => ?_))))))
  have S17 := S15.se [0] [c15]
  refine tk H14 (wp_ret (then_ret (rt2 F16 (rvA (fg3 F16) (S17.ob 0 hc15)) (rv_tmp (fg0 F16)) ?_)))
  obtain ⟨c18, hc18, S18⟩ := S17.pnil (s := 2)
  replace hc18 : c18 = ro 2 obC (.slice none 0 0) ([] : List Ob) := hc18
  obtain ⟨c19, cb19, hc19, hcb19, S19⟩ := gen2 (nst_nils S18)
  obtain ⟨c20, hc20, S20⟩ := S19.pnil (s := 1)
  obtain ⟨c21, hc21, S21⟩ := S20.pnil (s := 2)
  replace hc21 : c21 = ro 2 obC (.slice none 0 0) ([] : List Ob) := hc21
  obtain ⟨c22, cb22, hc22, hcb22, S22⟩ := gen2 (nst_nils S21)
  obtain ⟨c23, hc23, S23⟩ := S22.pnil (s := 1)
  have h := so_ck (f := f) c13
  rw [h.1, h.2.1]
  exact ⟨_, ([] : List Ob), _, rfl, rfl, (S23.f4 3 hc21 1 hc22 2 hcb22 0 (hc23.trans (by rw [h.2.2] <;> rfl)))⟩
 have hcd : ckd (O.map ab) rs [a, b] = 0 := by simpa using c13
 have hG0 := (ckd_0.1 hcd).1
 have hG := hG0
 have hrg : ∀ p ∈ rs, 0 ≤ p ∧ p ≤ (O.length : Int) := fun p hp => by have q := hG0.reg p hp; rw [List.length_map] at q; exact q
 have ha := (ckd_0.1 hcd).2 a Zo
 have hb := (ckd_0.1 hcd).2 b Zo
 refine wp_skip (ta H10 fun _ H24 => (ra (fg3 F12) (S9.ob 1 hc2) (vm (Sa (fg5 F12)) (wc (args2 (Sa t0) t0) (qob_c (a := a) (S9.roC h_ov) (S9.roC n_ov) (S9.roC h_rv) (by first | with_reducible assumption | (have q := hG.reg; simpa using q)) Zm) ?_))))
 rintro _ w25 (⟨rfl, hz_25, hP25⟩ | ⟨y_25, rfl, hy_25, hz_25, hP25⟩)
 ·refine ⟨_, rfl, ?_⟩
  have S25 := S9.j0 hP25
  refine vm t0 (vx (.agg #[.slice none 0 0, .slice none 0 0]) t0 (vx (.bool false) (Sa t0) (wA (#[.slice none 0 0, .slice none 0 0]) S25 (fun g26 w26 c26 hc26 S26 => xsA0 S26 hc26 V V V t0 (Sb t0) (fun w27 c27 hc27 S27 => va (Sa t0) (W_end (en (Kb (Qf F12)) fun A28 _ F28 => tc H24 fun _ H29 => tb fun _ H30 => (vm (fg0 F28) (wv (V_notF V t0) (vm t0 (xo V t0 (xo V (Sa t0) (vT (Sb t0) V (vm t0 (xo V t0 (xo V (Sa t0) (xo V (Sb t0) (xo V (Sc t0) (xo V (Sd t0) (vT (Se t0) V (W_end (en (Ka (Qd (Qh F28))) fun A31 _ F31 => ?_))))))))))))))))))))))
  have S32 := S27.se [1, 2] [c3, c2]
  refine tk H30 (cond_t (fg0 F31) (tb fun _ H33 => (wv (xbS (n := 2) (z := .agg #[.slice none 0 0, .slice none 0 0]) V parts0) (xsA0 S32 hc3 V V V (Sa (fg5 F31)) t0 (fun w34 c34 hc34 S34 => vc (W_end (en (Ka (Qa F31)) fun A35 _ F35 => ?_)))))))
  have S36 := S34.se [0] [c34]
  refine tk H33 (wp_ret (then_ret (rt2 F35 (rvA (fg6 F35) (S36.ob 0 hc34)) (rv_tmp (fg0 F35)) ?_)))
  obtain ⟨c37, hc37, S37⟩ := S36.pnil (s := 2)
  replace hc37 : c37 = ro 2 obC (.slice none 0 0) ([] : List Ob) := hc37
  obtain ⟨c38, cb38, hc38, hcb38, S38⟩ := gen2 (nst_nils S37)
  obtain ⟨c39, hc39, S39⟩ := S38.pnil (s := 1)
  have hE := pt_no (a := a) (f := f) hcd (.inl hz_25)
  have h := so_e (by rw [hE]; decide)
  rw [hE, h.1]
  exact ⟨_, ([] : List Ob), _, rfl, rfl, (S39.f4 3 hc37 1 hc38 2 hcb38 0 (hc39.trans (by rw [h.2] <;> rfl)))⟩
 refine ⟨_, rfl, ?_⟩
 have S25 := S9.j0 hP25
 have fn40 : Ro w NoX (il .i64 y_25.1.1 y_25.1.2) := nst_ro1 n_ov hy_25
 have bfn40 := SlN.le (sl_SlN (S25.ro fn40))
 have fn41 : Ro w NoX (il .u64 y_25.2.1 y_25.2.2) := nst_ro2 n_ov hy_25
 have bfn41 := SlN.le (sl_SlN (S25.ro fn41))
 refine vm t0 (vx (.agg #[y_25.1.1, y_25.2.1]) t0 (vx (.bool true) (Sa t0) (wA (#[.slice none 0 0, .slice none 0 0]) S25 (fun g42 w42 c42 hc42 S42 => xsB0 S42 hc42 V V V t0 (Sb t0) (by simp only [List.all_toArray, List.all_cons, List.all_nil, obC, SlN_one (sl_SlN fn40.at), SlN_one (sl_SlN fn41.at)] <;> rfl) (fun w43 c43 hc43 S43 => va (Sa t0) (W_end (en (Kb (Qf F12)) fun A44 _ F44 => tc H24 fun _ H45 => tb fun _ H46 => (vm (fg0 F44) (wv (V_notT V t0) (vm t0 (wg V t0 (uvm (Sc (fg8 F44))) (wg V (Sa t0) (uvl t0 V) (vF (Sb t0) t0 (W_split V V (V_mov V t0) (fun c47 => ?_) (fun c47 => ?_)))))))))))))))
 ·refine xo V t0 (xo V (Sa t0) (xo V (Sb t0) (xo V (Sc t0) (xo V (Sd t0) (vT (Se t0) V (W_end (en (Ka (Qd (Qh F44))) fun A48 _ F48 => ?_)))))))
  have S49 := S43.se [1, 2] [c3, c2]
  refine tk H46 (cond_t (fg0 F48) (tb fun _ H50 => (wv (xbS (n := 2) (z := .agg #[.slice none 0 0, .slice none 0 0]) V parts0) (xsA0 S49 hc3 V V V (Sa (fg5 F48)) t0 (fun w51 c51 hc51 S51 => vc (W_end (en (Ka (Qa F48)) fun A52 _ F52 => ?_)))))))
  have S53 := S51.se [0] [c51]
  refine tk H50 (wp_ret (then_ret (rt2 F52 (rvA (fg6 F52) (S53.ob 0 hc51)) (rv_tmp (fg0 F52)) ?_)))
  obtain ⟨c54, hc54, S54⟩ := S53.pnil (s := 2)
  replace hc54 : c54 = ro 2 obC (.slice none 0 0) ([] : List Ob) := hc54
  obtain ⟨c55, cb55, hc55, hcb55, S55⟩ := gen2 (nst_nils S54)
  obtain ⟨c56, hc56, S56⟩ := S55.pnil (s := 1)
  have hE := pt_no (a := a) (f := f) hcd (.inr (.inl Zb))
  have h := so_e (by rw [hE]; decide)
  rw [hE, h.1]
  exact ⟨_, ([] : List Ob), _, rfl, rfl, (S56.f4 3 hc54 1 hc55 2 hcb55 0 (hc56.trans (by rw [h.2] <;> rfl)))⟩
 refine wg V t0 (uvm (Sg (fg8 F44))) (wg V (Sa t0) (ufa 0 (Sh (fg1 F44))) (wq V (Sb t0) (urL y_25.1.1 t0 (S43.ob 0 hc43)) (wg V (Sc t0) (ule_ t0 (sl_SlN fn40.at)) (wg V (Sd t0) (uvh (Sc t0) t0) (vF (Se t0) t0 (W_end (en (Ka (Qd (Qh F44))) fun A57 _ F57 => ?_)))))))
 have S58 := S43.se [1, 2] [c3, c2]
 refine tk H46 (cd (fg0 F57) (fun c59 => ?_) fun c59 => ?_)
 ·refine tb fun _ H60 => (wv (xbS (n := 2) (z := .agg #[.slice none 0 0, .slice none 0 0]) V parts0) (xsA0 S58 hc3 V V V (Sa (fg5 F57)) t0 (fun w61 c61 hc61 S61 => vc (W_end (en (Ka (Qa F57)) fun A62 _ F62 => ?_)))))
  have S63 := S61.se [0] [c61]
  refine tk H60 (wp_ret (then_ret (rt2 F62 (rvA (fg6 F62) (S63.ob 0 hc61)) (rv_tmp (fg0 F62)) ?_)))
  obtain ⟨c64, hc64, S64⟩ := S63.pnil (s := 2)
  replace hc64 : c64 = ro 2 obC (.slice none 0 0) ([] : List Ob) := hc64
  obtain ⟨c65, cb65, hc65, hcb65, S65⟩ := gen2 (nst_nils S64)
  obtain ⟨c66, hc66, S66⟩ := S65.pnil (s := 1)
  have hE := pt_no (a := a) (f := f) hcd (.inr (.inr (by rw [ob_at hy_25]; simp only [ab]; omega)))
  have h := so_e (by rw [hE]; decide)
  rw [hE, h.1]
  exact ⟨_, ([] : List Ob), _, rfl, rfl, (S66.f4 3 hc64 1 hc65 2 hcb65 0 (hc66.trans (by rw [h.2] <;> rfl)))⟩
 refine wp_skip (ta H45 fun _ H67 => (ra (fg6 F57) (S58.ob 1 hc2) (wc (args1 t0) (qCn_c (S58.roC h_ov) (S58.roC n_ov) (S58.roC h_rv) Ze (by first | omega | (have q := hG.r8; omega)) (by first | omega | (have q := hG.o4; rw [List.length_map] at q; omega))) (fun _ w68 ⟨hv_68, H_68, qv_68, e, hH_68, hP68⟩ => ⟨_, e, ?_⟩))))
 obtain ⟨cR_68, cP_68, cQ_68, cG_68, hcR_68, hcP_68, hcQ_68, hcG_68, hP68⟩ := gen4 hP68
 have S68 := S58.j4 hP68
 have hHl := mp_lenE hH_68
 rw [List.length_map] at hHl
 have hHo := hG.o4
 rw [List.length_map] at hHo
 refine wA (#[.slice none 0 0, .slice none 0 0]) S68 (fun g69 w69 c69 hc69 S69 => xsB0 S69 hc69 V V V t0 (Sa t0) (by simp only [List.all_toArray, List.all_cons, List.all_nil, obC, SlN_one (ow_at (S69.cq 1 hcR_68)), SlN_one (ow_at (S69.cq 4 hcG_68))] <;> rfl) (fun w70 c70 hc70 S70 => W_end (en (Ka (Qb F57)) fun A71 _ F71 => tc H67 fun _ H72 => region_monoS 18 19 [] kr kr (df 0 (fg0 F71) (dr (fun _ hx _ => (urc t0 (cell_box (v := hv_68) ((S70.grow hx).ob 0 hc70) V))) (df 1 (Sb (fg7 F71)) (dr (fun _ hx _ => (urc t0 (cell_box (v := rv) ((S70.grow hx).ob 6 hc2) V))) (dm (Sd (fg9 F71)) ?_))))))))
 have k73 : a.toNat < rs.length := om
 obtain ⟨y73, hy73⟩ := get_some (xs := rs) (k := a.toNat) k73
 have hq73 := rg_at hy73
 have hrg73 := hrg y73 (List.mem_of_getElem? hy73)
 obtain ⟨B73, O73, C73, hv73⟩ := (SlN.blk (sl_SlN h_rv.at) om)
 refine dv (V_ixS (off := O73 + a.toNat) 1 a.toNat V (Sa t0) t0 hv73 Zb k73 Tryz.underlying25 kr (congrArg _ (Nat.mul_one _))) (dr (fun _ hx _ => (urc t0 ((sl_SlN ((S70.grow hx).ro h_rv)).cell hv73 (map_get hy73)))) (dv (usu t0 V) ?_))
 have k74 : (rg rs a - 1).toNat < H_68.length := om
 obtain ⟨y74, hy74⟩ := get_some (xs := H_68) (k := (rg rs a - 1).toNat) k74
 have hmg74 := mp_get hH_68 hy74 hy_25
 have hml74 := congrArg List.length hmg74.1
 obtain ⟨B74, O74, C74, hv74⟩ := (SlN.blk (ow_at (S70.chq 1 rfl hcR_68)) om)
 refine dv (V_ixS (off := O74 + ((rg rs a - 1).toNat) * 2) 2 ((rg rs a - 1).toNat) V (Sf t0) t0 hv74 Zb k74 Tryz.underlying28 kr V) (dv (V_fa (off' := O74 + ((rg rs a - 1).toNat) * 2 + 0) V t0 Tryz.underlying70 V Zj V) ?_)
 have bfn75 := SlN.le (sl_SlN (owl_at (mapE (g := (·.1)) hy74) (S70.cq 2 hcP_68)))
 have bfn76 := SlN.le (sl_SlN (owl_at (mapE (g := (·.2)) hy74) (S70.cq 3 hcQ_68)))
 refine dr (fun _ hx _ => (urd y74.1.1 t0 (SlN.row obC_len (ow_at ((S70.grow hx).cq 1 hcR_68)) hv74 hy74 V 0 _ V))) (dm (Sh (Sc (fg10 F71))) (df 1 (Sh (Sd (fg7 F71))) (dr (fun _ hx _ => (urc t0 (cell_box (v := rv) ((S70.grow hx).ob 6 hc2) V))) (dm (Sh (Sf (fg11 F71))) ?_))))
 have k77 : b.toNat < rs.length := om
 obtain ⟨y77, hy77⟩ := get_some (xs := rs) (k := b.toNat) k77
 refine dv (V_ixS (off := O73 + b.toNat) 1 b.toNat V (Sa t0) t0 hv73 Zb k77 Tryz.underlying25 kr (congrArg _ (Nat.mul_one _))) (dr (fun _ hx _ => (urc t0 ((sl_SlN ((S70.grow hx).ro h_rv)).cell hv73 (map_get hy77)))) ?_)
 have k78 : f.toNat < y74.1.2.length := om
 obtain ⟨y78, hy78⟩ := get_some (xs := y74.1.2) (k := f.toNat) k78
 obtain ⟨B78, O78, C78, hv78⟩ := (SlN.blk (sl_SlN (owl_at (mapE (g := (·.1)) hy74) (S70.chq 2 rfl hcP_68))) om)
 refine dv (V_ixS (off := O78 + f.toNat) 1 f.toNat V (Sf t0) (Se t0) hv78 Zb k78 Tryz.underlying25 kr (congrArg _ (Nat.mul_one _))) (D_eff V (ZS_eff S70 V V (fun s79 hJ79 hL79 hF79 => ?_)))
 have S79 := hJ79.st; clear hF79 hJ79 hL79
 generalize s79.1 = w79 at *
 replace S79 : St w NoX [c70, cR_68, cP_68, cQ_68, cG_68, c3, c2] w79 := S79
 have S81 := S79.se [2, 3, 1, 0, 4, 5, 6] [cP_68, cQ_68, cR_68, c70, cG_68, c3, c2]
 refine W_stN1 S81 hcP_68 hcQ_68 hcR_68 hy74 hv78 V V V t0 (Sa t0) V (List.getElem?_eq_some_iff.1 hy78).1 kr (fun w80 ca80 cb80 c80 hca80 hcb80 hc80 S80 => ?_)
 replace S80 : St w NoX [ca80, cb80, c80, c70, cG_68, c3, c2] w80 := S80
 refine W_end (Qo_normal (en (Qb (Qh (Qh F71))) fun A82 _ F82 => ?_))
 have S83 := S80.se [0, 1, 2, 3, 4, 5] [ca80, cb80, c80, c70, cG_68, c3]
 refine ta H72 fun _ H84 => (ra (fg0 F82) (S83.ob 3 hc70) (xsB5 S83 hc3 V V V (Sa (fg6 F82)) t0 (by simp only [List.all_toArray, List.all_cons, List.all_nil, obC, SlN_one (ow_at (S83.cq 2 hc80)), SlN_one (ow_at (S83.cq 4 hcG_68))] <;> rfl) (fun w85 c85 hc85 S85 => vc (W_end (en (Ka (Qa F82)) fun A86 _ F86 => tk H84 (wp_ret (rt2 F86 (rvA (fg7 F86) (S85.ob 5 hc85)) (rv_tmp (fg0 F86)) ?_)))))))
 have hn : ¬ noP (O.map ab) rs a f := by rintro (q | q | q) <;> first | omega | (rw [ob_at hy_25] at q; simp only [ab] at q; omega)
 have hE := pt_ok (a := a) (f := f) hcd hn
 have h := so_k hE
 rw [hE, h.1]
 exact ⟨_, (H_68.set ((rg rs a - 1).toNat) ((y74.1.1, y74.1.2.set f.toNat y77), y74.2)), _, rfl, by rw [so_map V hy74 (rg_at hy77) (by rw [hH_68]; exact hn), hH_68, soI_k hn], (S85.f4 2 hc80 0 hca80 1 hcb80 4 (hcG_68.trans (by rw [h.2] <;> rfl)))⟩

set_option maxHeartbeats 4000000 in
theorem qWrite_c {ov : Value} {O : List Ob} {rv : Value} {rs : List Int} {a f x : Int} {w : World} (h_ov : Ro w NoX (rl 2 obC ov O)) (n_ov : Ro w NoX (nst O)) (h_rv : Ro w NoX (il .i64 rv rs)) (hsm : SM (O.map ab)) :
  Calls Tryz.prog 85 #[.agg #[ov, rv], .int .i64 a, .int .i64 f, .int .u64 x] w fun e w' => ∃ hv H qv, e = .returned (.tuple #[.agg #[hv, qv], .int .i64 (rwE (O.map ab) rs [a] a f)]) ∧ (H.map ab = (wrO (O.map ab) rs a f x)) ∧ St w NoX [ro 2 obC hv H, owl .i64 (H.map (·.1)), owl .u64 (H.map (·.2)), io .i64 (qv) (wrR (O.map ab) rs a f)] w' := by
 refine ci4 41 Tryz.func85 V (fun A0 _ F0 => ?_)
 have hS := St.nil w
 have bh_ov := SlN.le (sl_SlN h_ov.at)
 have bh_rv := SlN.le (sl_SlN h_rv.at)
 refine tb fun _ H1 => (wB (#[ov, rv]) hS (fg0 F0) (fun g2 w2 c2 hc2 S2 => wA (#[.slice none 0 0, .slice none 0 0]) S2 (fun g3 w3 c3 hc3 S3 => vc (W_end (en (Qa (Kb F0)) fun A4 _ F4 => ta H1 fun _ H5 => (ra (fg1 F4) (S3.ob 1 hc2) (vm (Sa (fg3 F4)) (vm (Sb (fg4 F4)) (wc (args3 (Sb t0) (Sa t0) t0) (qRd_c (a := a) (f := f) (S3.roC h_ov) (S3.roC n_ov) (S3.roC h_rv)) (C0 S3 fun w6 S6 => vm t0 (vx (.int .u64 ((rdV (O.map ab) rs a f))) t0 (vx (.int .i64 ((rwE (O.map ab) rs [a] a f))) (Sa t0) (va (Sa t0) (va (Sa t0) (W_end (en (Ka (Qh F4)) fun A7 _ F7 => tc H5 fun _ H8 => tb fun _ H9 => (vm (fg0 F7) (vn t0 V (W_end (en (Ka (Qa F7)) fun A10 _ F10 => tk H9 (cd (fg0 F10) (fun c11 => ?_) fun c11 => ?_)))))))))))))))))))))
 ·refine tb fun _ H12 => (wv (xbS (n := 2) (z := .agg #[.slice none 0 0, .slice none 0 0]) V parts0) (vm (Sa (fg1 F10)) (xsA0 S6 hc3 V V V (Sb (fg2 F10)) (Sa t0) (fun w13 c13 hc13 S13 => vt (W_end (en (Ka (Qb F10)) fun A14 _ F14 => ?_))))))
  have S15 := S13.se [0] [c13]
  refine tk H12 (wp_ret (then_ret (rt2 F14 (rvA (fg3 F14) (S15.ob 0 hc13)) (rv_tmp (fg0 F14)) ?_)))
  obtain ⟨c16, hc16, S16⟩ := S15.pnil (s := 2)
  replace hc16 : c16 = ro 2 obC (.slice none 0 0) ([] : List Ob) := hc16
  obtain ⟨c17, cb17, hc17, hcb17, S17⟩ := gen2 (nst_nils S16)
  obtain ⟨c18, hc18, S18⟩ := S17.pnil (s := 1)
  have h := wr_e (x := x) c11
  rw [h.1]
  exact ⟨_, ([] : List Ob), _, rfl, rfl, (S18.f4 3 hc16 1 hc17 2 hcb17 0 (hc18.trans (by rw [h.2] <;> rfl)))⟩
 have hrw : rwE (O.map ab) rs [a] a f = 0 := by simpa using c11
 have hn := (rw_inv hrw).2
 have hz0 : ¬ rg rs a = 0 := fun q => hn (.inl q)
 have hcd := (rw_inv hrw).1
 have hG0 := (ckd_0.1 hcd).1
 have hG := hG0
 have hrg : ∀ p ∈ rs, 0 ≤ p ∧ p ≤ (O.length : Int) := fun p hp => by have q := hG0.reg p hp; rw [List.length_map] at q; exact q
 have ha := (ckd_0.1 hcd).2 a Zo
 refine wp_skip (ta H8 fun _ H19 => (ra (fg3 F10) (S6.ob 1 hc2) (wc (args1 t0) (qCn_c (S6.roC h_ov) (S6.roC n_ov) (S6.roC h_rv) Ze (by first | omega | (have q := hG.r8; omega)) (by first | omega | (have q := hG.o4; rw [List.length_map] at q; omega))) (fun _ w20 ⟨hv_20, H_20, qv_20, e, hH_20, hP20⟩ => ⟨_, e, ?_⟩))))
 obtain ⟨cR_20, cP_20, cQ_20, cG_20, hcR_20, hcP_20, hcQ_20, hcG_20, hP20⟩ := gen4 hP20
 have S20 := S6.j4 hP20
 have hHl := mp_lenE hH_20
 rw [List.length_map] at hHl
 have hHo := hG.o4
 rw [List.length_map] at hHo
 refine wA (#[.slice none 0 0, .slice none 0 0]) S20 (fun g21 w21 c21 hc21 S21 => xsB0 S21 hc21 V V V t0 (Sa t0) (by simp only [List.all_toArray, List.all_cons, List.all_nil, obC, SlN_one (ow_at (S21.cq 1 hcR_20)), SlN_one (ow_at (S21.cq 4 hcG_20))] <;> rfl) (fun w22 c22 hc22 S22 => W_end (en (Ka (Qb F10)) fun A23 _ F23 => tc H19 fun _ H24 => region_monoS 14 15 [] kr kr (df 0 (fg0 F23) (dr (fun _ hx _ => (urc t0 (cell_box (v := hv_20) ((S22.grow hx).ob 0 hc22) V))) (df 1 (Sb (fg4 F23)) (dr (fun _ hx _ => (urc t0 (cell_box (v := rv) ((S22.grow hx).ob 6 hc2) V))) (dm (Sd (fg6 F23)) ?_))))))))
 have k25 : a.toNat < rs.length := om
 obtain ⟨y25, hy25⟩ := get_some (xs := rs) (k := a.toNat) k25
 have hq25 := rg_at hy25
 have hrg25 := hrg y25 (List.mem_of_getElem? hy25)
 obtain ⟨B25, O25, C25, hv25⟩ := (SlN.blk (sl_SlN h_rv.at) om)
 refine dv (V_ixS (off := O25 + a.toNat) 1 a.toNat V (Sa t0) t0 hv25 Zb k25 Tryz.underlying25 kr (congrArg _ (Nat.mul_one _))) (dr (fun _ hx _ => (urc t0 ((sl_SlN ((S22.grow hx).ro h_rv)).cell hv25 (map_get hy25)))) (dv (usu t0 V) ?_))
 have k26 : (y25 - 1).toNat < H_20.length := om
 obtain ⟨y26, hy26⟩ := get_some (xs := H_20) (k := (y25 - 1).toNat) k26
 have hob26 := ob_of hH_20 hy25 hy26
 have hlt26 := noR_lt hn hob26
 obtain ⟨B26, O26, C26, hv26⟩ := (SlN.blk (ow_at (S22.chq 1 rfl hcR_20)) om)
 refine dv (V_ixS (off := O26 + ((y25 - 1).toNat) * 2) 2 ((y25 - 1).toNat) V (Sf t0) t0 hv26 Zb k26 Tryz.underlying28 kr V) (dv (V_fa (off' := O26 + ((y25 - 1).toNat) * 2 + 1) V t0 Tryz.underlying70 V Zj V) ?_)
 have bfn27 := SlN.le (sl_SlN (owl_at (mapE (g := (·.1)) hy26) (S22.cq 2 hcP_20)))
 have bfn28 := SlN.le (sl_SlN (owl_at (mapE (g := (·.2)) hy26) (S22.cq 3 hcQ_20)))
 refine dr (fun _ hx _ => (urd y26.2.1 t0 (SlN.row obC_len (ow_at ((S22.grow hx).cq 1 hcR_20)) hv26 hy26 V 1 _ V))) (dm (Sh (Sc (fg7 F23))) (dm (Sh (Sd (fg8 F23))) ?_))
 have k29 : f.toNat < y26.2.2.length := om
 obtain ⟨y29, hy29⟩ := get_some (xs := y26.2.2) (k := f.toNat) k29
 obtain ⟨B29, O29, C29, hv29⟩ := (SlN.blk (sl_SlN (owl_at (mapE (g := (·.2)) hy26) (S22.chq 3 rfl hcQ_20))) om)
 refine dv (V_ixS (off := O29 + f.toNat) 1 f.toNat V (Sb t0) (Sa t0) hv29 Zb k29 Tryz.underlying68 kr (congrArg _ (Nat.mul_one _))) (D_eff V (ZS_eff S22 V V (fun s30 hJ30 hL30 hF30 => ?_)))
 have S30 := hJ30.st; clear hF30 hJ30 hL30
 generalize s30.1 = w30 at *
 replace S30 : St w NoX [c22, cR_20, cP_20, cQ_20, cG_20, c3, c2] w30 := S30
 have S32 := S30.se [3, 2, 1, 0, 4, 5, 6] [cQ_20, cP_20, cR_20, c22, cG_20, c3, c2]
 refine W_stN2 S32 hcQ_20 hcP_20 hcR_20 hy26 hv29 V V V t0 (Sa t0) V (List.getElem?_eq_some_iff.1 hy29).1 kr (fun w31 ca31 cb31 c31 hca31 hcb31 hc31 S31 => ?_)
 replace S31 : St w NoX [ca31, cb31, c31, c22, cG_20, c3, c2] w31 := S31
 refine W_end (Qo_normal (en (Qf (Qh F23)) fun A33 _ F33 => ?_))
 have S34 := S31.se [0, 1, 2, 3, 4, 5] [ca31, cb31, c31, c22, cG_20, c3]
 refine ta H24 fun _ H35 => (ra (fg0 F33) (S34.ob 3 hc22) (xsB5 S34 hc3 V V V (Sa (fg3 F33)) t0 (by simp only [List.all_toArray, List.all_cons, List.all_nil, obC, SlN_one (ow_at (S34.cq 2 hc31)), SlN_one (ow_at (S34.cq 4 hcG_20))] <;> rfl) (fun w36 c36 hc36 S36 => vc (W_end (en (Ka (Qa F33)) fun A37 _ F37 => tk H35 (wp_ret (rt2 F37 (rvA (fg4 F37) (S36.ob 5 hc36)) (rv_tmp (fg0 F37)) ?_)))))))
 have h := wr_k (x := x) hrw
 rw [hrw, h.1]
 exact ⟨_, (H_20.set ((y25 - 1).toNat) (y26.1, (y26.2.1, y26.2.2.set f.toNat x))), _, rfl, by rw [wr_map (by rw [rg_at hy25]) hy26 (by rw [hH_20]; exact hn), hH_20, wrI_k hn], (S36.f4 2 hc31 1 hcb31 0 hca31 4 (hcG_20.trans (by rw [h.2] <;> rfl)))⟩

set_option maxHeartbeats 4000000 in
theorem qMove_c {ov : Value} {O : List Ob} {rv : Value} {rs : List Int} {a b : Int} {w : World} (h_ov : Ro w NoX (rl 2 obC ov O)) (n_ov : Ro w NoX (nst O)) (h_rv : Ro w NoX (il .i64 rv rs)) (hsm : SM (O.map ab)) :
  Calls Tryz.prog 86 #[.agg #[ov, rv], .int .i64 a, .int .i64 b] w fun e w' => ∃ hv H qv, e = .returned (.tuple #[.agg #[hv, qv], .int .i64 (ckd (O.map ab) rs [a, b])]) ∧ (H.map ab = (kpO (O.map ab) rs [a, b])) ∧ St w NoX [ro 2 obC hv H, owl .i64 (H.map (·.1)), owl .u64 (H.map (·.2)), io .i64 (qv) (mvR (O.map ab) rs a b)] w' := by
 refine ci3 31 Tryz.func86 V (fun A0 _ F0 => ?_)
 have hS := St.nil w
 have bh_ov := SlN.le (sl_SlN h_ov.at)
 have bh_rv := SlN.le (sl_SlN h_rv.at)
 refine tb fun _ H1 => (wB (#[ov, rv]) hS (fg0 F0) (fun g2 w2 c2 hc2 S2 => wA (#[.slice none 0 0, .slice none 0 0]) S2 (fun g3 w3 c3 hc3 S3 => vc (W_end (en (Qa (Kb F0)) fun A4 _ F4 => ta H1 fun _ H5 => (ra (fg1 F4) (S3.ob 1 hc2) (vm (Sa (fg3 F4)) (vm (Sb (fg4 F4)) ?_))))))))
 have hll6 : [a, b].length = 2 := rfl
 refine xsL (vs := [.int .i64 (a), .int .i64 (b)]) (xs := ([a, b].map (Value.int .i64))) 1 S3 V V V (parts2 (Sa t0) t0) Tryz.underlying25 (fun g6 w6 c6 hc6 S6 => ?_)
 replace hc6 : c6 = io .i64 (.slice (some ⟨g6, 0, none⟩) 2 2) [a, b] := hc6
 replace S6 : St w NoX [c6, c3, c2] w6 := S6
 refine wc (args2 (Sc t0) t0) (qcd_c (S6.roC h_ov) (S6.roC n_ov) (S6.roC h_rv) (S6.cC 0 hc6).own) (C0 S6 fun w7 S7 => vt (W_end (en (Ka (Qe F4)) fun A8 _ F8 => ?_)))
 have S9 := S7.se [1, 2] [c3, c2]
 refine tc H5 fun _ H10 => tb fun _ H11 => (vm (fg0 F8) (vn t0 V (W_end (en (Ka (Qa F8)) fun A12 _ F12 => tk H11 (cd (fg0 F12) (fun c13 => ?_) fun c13 => ?_)))))
 ·refine tb fun _ H14 => (wv (xbS (n := 2) (z := .agg #[.slice none 0 0, .slice none 0 0]) V parts0) (vm (Sa (fg1 F12)) (xsA0 S9 hc3 V V V (Sb (fg2 F12)) (Sa t0) (fun w15 c15 hc15 S15 => vt (W_end (en (Ka (Qb F12)) fun A16 _ F16 => ?_))))))
  have S17 := S15.se [0] [c15]
  refine tk H14 (wp_ret (then_ret (rt2 F16 (rvA (fg3 F16) (S17.ob 0 hc15)) (rv_tmp (fg0 F16)) ?_)))
  obtain ⟨c18, hc18, S18⟩ := S17.pnil (s := 2)
  replace hc18 : c18 = ro 2 obC (.slice none 0 0) ([] : List Ob) := hc18
  obtain ⟨c19, cb19, hc19, hcb19, S19⟩ := gen2 (nst_nils S18)
  obtain ⟨c20, hc20, S20⟩ := S19.pnil (s := 1)
  have h := mv_ck c13
  rw [h.2.1]
  exact ⟨_, ([] : List Ob), _, rfl, rfl, (S20.f4 3 hc18 1 hc19 2 hcb19 0 (hc20.trans (by rw [h.2.2] <;> rfl)))⟩
 have hcd : ckd (O.map ab) rs [a, b] = 0 := by simpa using c13
 have hG0 := (ckd_0.1 hcd).1
 have hG := hG0
 have hrg : ∀ p ∈ rs, 0 ≤ p ∧ p ≤ (O.length : Int) := fun p hp => by have q := hG0.reg p hp; rw [List.length_map] at q; exact q
 have ha := (ckd_0.1 hcd).2 a Zo
 have hb := (ckd_0.1 hcd).2 b Zo
 refine wp_skip (ta H10 fun _ H21 => (ra (fg3 F12) (S9.ob 1 hc2) (wc (args1 t0) (qCn_c (S9.roC h_ov) (S9.roC n_ov) (S9.roC h_rv) Ze (by first | omega | (have q := hG.r8; omega)) (by first | omega | (have q := hG.o4; rw [List.length_map] at q; omega))) (fun _ w22 ⟨hv_22, H_22, qv_22, e, hH_22, hP22⟩ => ⟨_, e, ?_⟩))))
 obtain ⟨cR_22, cP_22, cQ_22, cG_22, hcR_22, hcP_22, hcQ_22, hcG_22, hP22⟩ := gen4 hP22
 have S22 := S9.j4 hP22
 have hHl := mp_lenE hH_22
 rw [List.length_map] at hHl
 have hHo := hG.o4
 rw [List.length_map] at hHo
 refine wA (#[.slice none 0 0, .slice none 0 0]) S22 (fun g23 w23 c23 hc23 S23 => xsB0 S23 hc23 V V V t0 (Sa t0) (by simp only [List.all_toArray, List.all_cons, List.all_nil, SlN_one (ow_at (S23.cq 1 hcR_22)), SlN_one (ow_at (S23.cq 4 hcG_22))] <;> rfl) (fun w24 c24 hc24 S24 => W_end (en (Ka (Qb F12)) fun A25 _ F25 => tc H21 fun _ H26 => region_monoS 9 10 [] kr kr (df 1 (fg0 F25) (dr (fun _ hx _ => (urc t0 (cell_box (v := qv_22) ((S24.grow hx).ob 0 hc24) V))) (dm (Sb (fg6 F25)) (df 1 (Sc (fg4 F25)) (dr (fun _ hx _ => (urc t0 (cell_box (v := rv) ((S24.grow hx).ob 6 hc2) V))) (dm (Se (fg7 F25)) ?_)))))))))
 have k27 : b.toNat < rs.length := om
 obtain ⟨y27, hy27⟩ := get_some (xs := rs) (k := b.toNat) k27
 obtain ⟨B27, O27, C27, hv27⟩ := (SlN.blk (sl_SlN h_rv.at) om)
 refine dv (V_ixS (off := O27 + b.toNat) 1 b.toNat V (Sa t0) t0 hv27 Zb k27 Tryz.underlying25 kr (congrArg _ (Nat.mul_one _))) (dr (fun _ hx _ => (urc t0 ((sl_SlN ((S24.grow hx).ro h_rv)).cell hv27 (map_get hy27)))) ?_)
 have k28 : a.toNat < rs.length := om
 obtain ⟨y28, hy28⟩ := get_some (xs := rs) (k := a.toNat) k28
 have hq28 := rg_at hy28
 have hrg28 := hrg y28 (List.mem_of_getElem? hy28)
 obtain ⟨B28, O28, C28, hv28⟩ := (SlN.blk (ow_at (S24.chq 4 rfl hcG_22)) om)
 refine dv (V_ixS (off := O28 + a.toNat) 1 a.toNat V (Sf t0) (Se t0) hv28 Zb k28 Tryz.underlying25 kr (congrArg _ (Nat.mul_one _))) (D_eff V (ZS_eff S24 V V (fun s29 hJ29 hL29 hF29 => ?_)))
 have S29 := hJ29.st; clear hF29 hJ29 hL29
 generalize s29.1 = w29 at *
 replace S29 : St w NoX [c24, cR_22, cP_22, cQ_22, cG_22, c3, c2] w29 := S29
 refine W_stE 4 S29 V hcG_22 hv28 V V V t0 (Sa t0) Zi V Zq kr (fun w30 c30 hc30 S30 => ?_)
 replace hc30 : c30 = io .i64 qv_22 (rs.set a.toNat y27) := hc30.trans (by simp [io, bo, List.map_set] <;> rfl)
 replace S30 : St w NoX [c24, cR_22, cP_22, cQ_22, c30, c3, c2] w30 := S30
 refine W_end (Qo_normal (en (Qa (Qh F25)) fun A31 _ F31 => ?_))
 have S32 := S30.se [0, 1, 2, 3, 4, 5] [c24, cR_22, cP_22, cQ_22, c30, c3]
 refine ta H26 fun _ H33 => (ra (fg0 F31) (S32.ob 0 hc24) (xsB5 S32 hc3 V V V (Sa (fg3 F31)) t0 (by simp only [List.all_toArray, List.all_cons, List.all_nil, SlN_one (ow_at (S32.cq 1 hcR_22)), SlN_one (ow_at (S32.cq 4 hc30))] <;> rfl) (fun w34 c34 hc34 S34 => vc (W_end (en (Ka (Qa F31)) fun A35 _ F35 => tk H33 (wp_ret (rt2 F35 (rvA (fg4 F35) (S34.ob 5 hc34)) (rv_tmp (fg0 F35)) ?_)))))))
 have h := mv_k hcd
 rw [hcd, h.1]
 exact ⟨_, H_22, _, rfl, hH_22, (S34.f4 1 hcR_22 2 hcP_22 3 hcQ_22 4 (hc30.trans (by rw [h.2, rg_at hy27] <;> rfl)))⟩

set_option maxHeartbeats 4000000 in
theorem qClear_c {ov : Value} {O : List Ob} {rv : Value} {rs : List Int} {a : Int} {w : World} (h_ov : Ro w NoX (rl 2 obC ov O)) (n_ov : Ro w NoX (nst O)) (h_rv : Ro w NoX (il .i64 rv rs)) (hsm : SM (O.map ab)) :
  Calls Tryz.prog 87 #[.agg #[ov, rv], .int .i64 a] w fun e w' => ∃ hv H qv, e = .returned (.tuple #[.agg #[hv, qv], .int .i64 (ckd (O.map ab) rs [a])]) ∧ (H.map ab = (kpO (O.map ab) rs [a])) ∧ St w NoX [ro 2 obC hv H, owl .i64 (H.map (·.1)), owl .u64 (H.map (·.2)), io .i64 (qv) (clR (O.map ab) rs a)] w' := by
 refine ci2 23 Tryz.func87 V (fun A0 _ F0 => ?_)
 have hS := St.nil w
 have bh_ov := SlN.le (sl_SlN h_ov.at)
 have bh_rv := SlN.le (sl_SlN h_rv.at)
 refine tb fun _ H1 => (wB (#[ov, rv]) hS (fg0 F0) (fun g2 w2 c2 hc2 S2 => wA (#[.slice none 0 0, .slice none 0 0]) S2 (fun g3 w3 c3 hc3 S3 => vc (W_end (en (Qa (Kb F0)) fun A4 _ F4 => ta H1 fun _ H5 => (ra (fg1 F4) (S3.ob 1 hc2) (vm (Sa (fg3 F4)) ?_)))))))
 have hll6 : [a].length = 1 := rfl
 refine xsL (vs := [.int .i64 (a)]) (xs := ([a].map (Value.int .i64))) 1 S3 V V V (parts1 t0) Tryz.underlying25 (fun g6 w6 c6 hc6 S6 => ?_)
 replace hc6 : c6 = io .i64 (.slice (some ⟨g6, 0, none⟩) 1 1) [a] := hc6
 replace S6 : St w NoX [c6, c3, c2] w6 := S6
 refine wc (args2 (Sb t0) t0) (qcd_c (S6.roC h_ov) (S6.roC n_ov) (S6.roC h_rv) (S6.cC 0 hc6).own) (C0 S6 fun w7 S7 => vt (W_end (en (Ka (Qd F4)) fun A8 _ F8 => ?_)))
 have S9 := S7.se [1, 2] [c3, c2]
 refine tc H5 fun _ H10 => tb fun _ H11 => (vm (fg0 F8) (vn t0 V (W_end (en (Ka (Qa F8)) fun A12 _ F12 => tk H11 (cd (fg0 F12) (fun c13 => ?_) fun c13 => ?_)))))
 ·refine tb fun _ H14 => (wv (xbS (n := 2) (z := .agg #[.slice none 0 0, .slice none 0 0]) V parts0) (vm (Sa (fg1 F12)) (xsA0 S9 hc3 V V V (Sb (fg2 F12)) (Sa t0) (fun w15 c15 hc15 S15 => vt (W_end (en (Ka (Qb F12)) fun A16 _ F16 => ?_))))))
  have S17 := S15.se [0] [c15]
  refine tk H14 (wp_ret (then_ret (rt2 F16 (rvA (fg3 F16) (S17.ob 0 hc15)) (rv_tmp (fg0 F16)) ?_)))
  obtain ⟨c18, hc18, S18⟩ := S17.pnil (s := 2)
  replace hc18 : c18 = ro 2 obC (.slice none 0 0) ([] : List Ob) := hc18
  obtain ⟨c19, cb19, hc19, hcb19, S19⟩ := gen2 (nst_nils S18)
  obtain ⟨c20, hc20, S20⟩ := S19.pnil (s := 1)
  have h := cl_ck c13
  rw [h.2.1]
  exact ⟨_, ([] : List Ob), _, rfl, rfl, (S20.f4 3 hc18 1 hc19 2 hcb19 0 (hc20.trans (by rw [h.2.2] <;> rfl)))⟩
 have hcd : ckd (O.map ab) rs [a] = 0 := by simpa using c13
 have hG0 := (ckd_0.1 hcd).1
 have hG := hG0
 have hrg : ∀ p ∈ rs, 0 ≤ p ∧ p ≤ (O.length : Int) := fun p hp => by have q := hG0.reg p hp; rw [List.length_map] at q; exact q
 have ha := (ckd_0.1 hcd).2 a Zo
 refine wp_skip (ta H10 fun _ H21 => (ra (fg3 F12) (S9.ob 1 hc2) (wc (args1 t0) (qCn_c (S9.roC h_ov) (S9.roC n_ov) (S9.roC h_rv) Ze (by first | omega | (have q := hG.r8; omega)) (by first | omega | (have q := hG.o4; rw [List.length_map] at q; omega))) (fun _ w22 ⟨hv_22, H_22, qv_22, e, hH_22, hP22⟩ => ⟨_, e, ?_⟩))))
 obtain ⟨cR_22, cP_22, cQ_22, cG_22, hcR_22, hcP_22, hcQ_22, hcG_22, hP22⟩ := gen4 hP22
 have S22 := S9.j4 hP22
 have hHl := mp_lenE hH_22
 rw [List.length_map] at hHl
 have hHo := hG.o4
 rw [List.length_map] at hHo
 refine wA (#[.slice none 0 0, .slice none 0 0]) S22 (fun g23 w23 c23 hc23 S23 => xsB0 S23 hc23 V V V t0 (Sa t0) (by simp only [List.all_toArray, List.all_cons, List.all_nil, SlN_one (ow_at (S23.cq 1 hcR_22)), SlN_one (ow_at (S23.cq 4 hcG_22))] <;> rfl) (fun w24 c24 hc24 S24 => W_end (en (Ka (Qb F12)) fun A25 _ F25 => ?_)))
 have S26 := S24.se [0, 1, 2, 3, 4, 5] [c24, cR_22, cP_22, cQ_22, cG_22, c3]
 refine ta H21 fun _ H27 => (fa 1 (fg0 F25) (rL qv_22 t0 (S26.ob 0 hc24) (vm (Sb (fg6 F25)) ?_)))
 have k28 : a.toNat < rs.length := om
 obtain ⟨y28, hy28⟩ := get_some (xs := rs) (k := a.toNat) k28
 have hq28 := rg_at hy28
 have hrg28 := hrg y28 (List.mem_of_getElem? hy28)
 obtain ⟨B28, O28, C28, hv28⟩ := (SlN.blk (ow_at (S26.chq 4 rfl hcG_22)) om)
 refine wv (V_ixS (off := O28 + a.toNat) 1 a.toNat V (Sa t0) t0 hv28 Zb k28 Tryz.underlying25 kr (congrArg _ (Nat.mul_one _))) (W_stE 4 S26 V hcG_22 hv28 V V V t0 V Zi V Zq kr (fun w29 c29 hc29 S29 => ?_))
 replace hc29 : c29 = io .i64 qv_22 (rs.set a.toNat 0) := hc29.trans (by simp [io, bo, List.map_set] <;> rfl)
 replace S29 : St w NoX [c24, cR_22, cP_22, cQ_22, c29, c3] w29 := S29
 refine W_end (en (Qd F25) fun A30 _ F30 => ta H27 fun _ H31 => (ra (fg0 F30) (S29.ob 0 hc24) (xsB5 S29 hc3 V V V (Sa (fg3 F30)) t0 (by simp only [List.all_toArray, List.all_cons, List.all_nil, SlN_one (ow_at (S29.cq 1 hcR_22)), SlN_one (ow_at (S29.cq 4 hc29))] <;> rfl) (fun w32 c32 hc32 S32 => vc (W_end (en (Ka (Qa F30)) fun A33 _ F33 => tk H31 (wp_ret (rt2 F33 (rvA (fg4 F33) (S32.ob 5 hc32)) (rv_tmp (fg0 F33)) ?_))))))))
 have h := cl_k hcd
 rw [hcd, h.1]
 exact ⟨_, H_22, _, rfl, hH_22, (S32.f4 1 hcR_22 2 hcP_22 3 hcQ_22 4 (hc29.trans (by rw [h.2] <;> rfl)))⟩

end Go.Proofs.YtpgkfndbfocibaaGreat