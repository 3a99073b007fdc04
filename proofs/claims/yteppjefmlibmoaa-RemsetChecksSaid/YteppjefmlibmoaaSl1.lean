import Derived.Test.YteppjefmlibmoaaProg
import Derived.Test.YteppjefmlibmoaaPl7c
import Derived.Test.YteppjefmlibmoaaSepE
import Derived.Test.YteppjefmlibmoaaSepQ
namespace Go.Proofs.Yteppjefmlibmoaa
open Go.RowKit Go.Own Go.Own.R Go.Own.S


set_option maxHeartbeats 4000000 in
theorem kpath_it {g0 : Nat} {g1 : Nat} {v : Value} {c : List Int} {a : Int} {Rd : World → Prop} (hRd : ∀ W, Rd W → (bx g0 3 #[.int .i64 a]).at W ∧ (bx g1 25 #[v]).at W ∧ (il .i64 v c).at W) (hp : P2 c.length) (ha : 1 ≤ a ∧ a ≤ 1600) :
  Iter (α := Int × Int) Try.prog 98 #[.pointer (some ⟨g0, 0, none⟩), .pointer (some ⟨g1, 0, none⟩)] encP (·= pthL c a) (·<+: pthL c a) (·<+: pthL c a) Rd := by
 have hpb := hp.bd
 intro l wb X cs ij J Jx w hij hR hY hS
 obtain ⟨hS, hback⟩ := hS.front hij
 clear hij
 generalize cs.eraseIdx ij = rest at hS hback
 obtain ⟨cj, hcj⟩ : ∃ c, c = J [] := ⟨_, rfl⟩
 rw [← hcj] at hS
 refine calls_inR 37 Try.func98 rfl rfl (by simp) (fun A0 hsz0 hdf0 hargs => ?_)
 have l0_0 := hargs 0 (.func (.yield l) #[] #[]) rfl
 have l1_0 := hargs 1 (.pointer (some ⟨g0, 0, none⟩)) rfl
 have l2_0 := hargs 2 (.pointer (some ⟨g1, 0, none⟩)) rfl
 clear hargs; replace hsz0 : SzN A0 37 := ⟨hsz0⟩
 have bh_v := SlN.le (sl_SlN (hRd _ (hR _ _ _ 0 hS (congrArg some hcj))).2.2)
 refine R_seq (fun K1 hK1 => ?_)
 refine R_region (by kernel_rfl) ?_
 refine W_r rfl rfl (VR_ldC rfl l1_0 (cell_box (v := .int .i64 (a)) (ob_at (hRd _ (hR _ _ _ 0 hS (congrArg some hcj))).1) rfl) Try.underlying3 rfl) ?_
 refine W_v rfl rfl (V_mul rfl (et rfl) rfl (by omega) (by omega)) ?_
 refine W_r rfl rfl (VR_ldC rfl (e2 rfl l2_0) (cell_box (v := v) (ob_at (hRd _ (hR _ _ _ 0 hS (congrArg some hcj))).2.1) rfl) Try.underlying25 rfl) ?_
 refine W_v rfl rfl (V_lenS rfl (et rfl) (sl_SlN (hRd _ (hR _ _ _ 0 hS (congrArg some hcj))).2.2) Try.underlying25) ?_
 refine W_v rfl rfl (V_sb rfl (et rfl) rfl (by omega) (by omega)) ?_
 refine W_v rfl rfl (V_and rfl (e3 rfl (et rfl)) (et rfl) (by omega) (by omega) (and_ps0 hp a)) ?_
 refine W_v rfl rfl (V_asg rfl (et rfl)) ?_
 refine W_end ?_
 refine Qo_normal ?_
 refine gen_Q (fun A2 hA2 => ?_)
 have hsz2 := szq hA2
 have hdf2 := dfE hA2 hdf0
 have l0_2 := ek7 hA2 0 rfl l0_0
 have l2_2 := ek7 hA2 2 rfl l2_0
 have l4_2 := lookE hA2 4 (et rfl)
 clear hA2 hsz0 hdf0 l0_0 l1_0 l2_0
 refine then_n (hK1 _ _ ?_)
 clear hK1
 refine R_seq (fun K3 hK3 => ?_)
 refine R_region (by kernel_rfl) ?_
 refine W_r rfl rfl (VR_ldC rfl l2_2 (cell_box (v := v) (ob_at (hRd _ (hR _ _ _ 0 hS (congrArg some hcj))).2.1) rfl) Try.underlying25 rfl) ?_
 refine W_v rfl rfl (V_lenS rfl (et rfl) (sl_SlN (hRd _ (hR _ _ _ 0 hS (congrArg some hcj))).2.2) Try.underlying25) ?_
 refine W_v rfl rfl (V_mov rfl rfl) ?_
 refine W_end ?_
 refine Qo_normal ?_
 refine gen_Q (fun A4 hA4 => ?_)
 have hsz4 := szq hA4
 have hdf4 := dfE hA4 hdf2
 have l0_4 := ek3 hA4 0 rfl l0_2
 have l2_4 := ek3 hA4 2 rfl l2_2
 have l4_4 := ek3 hA4 4 rfl l4_2
 have l12_4 := lookE hA4 12 (es rfl (et rfl))
 have l13_4 := lookE hA4 13 (et rfl)
 clear hA4 hsz2 hdf2 l0_2 l2_2 l4_2
 refine then_n (hK3 _ _ ?_)
 clear hK3
 refine R_block ?_
 -- loop 2
 refine R_loop (fun mz A' w' => SzN A' 37 ∧ A'.defers = [] ∧ (∃ (k : Nat), (mz = c.length - k) ∧ (k ≤ c.length) ∧ (∀ i, i < k → ¬ cl c a i = 0) ∧ (ps c.length a k < c.length) ∧ (EV A' (.tmp 13) = .int .i64 (k : Int)) ∧ (EV A' (.tmp 4) = .int .i64 ((ps c.length a k : Nat) : Int)) ∧ (EV A' (.tmp 0) = EV A4 (.tmp 0)) ∧ (EV A' (.tmp 2) = EV A4 (.tmp 2)) ∧ (EV A' (.tmp 12) = EV A4 (.tmp 12)) ∧ (St wb X ((J (pthK c a k)) :: rest) w'))) (c.length - 0) ⟨hsz4, hdf4, 0, rfl, (by omega), (fun i hi => by omega), (ps_lt (by omega) _ _), ((l13_4).trans (by first | rfl | (simp; done) | (congr 1; omega))), ((l4_4).trans (by first | rfl | (simp; done) | (congr 1; omega))), rfl, rfl, rfl, (by have q0 : cj = J (pthK c a 0) := hcj.trans (rfl); subst q0; exact hS)⟩ ?_
 clear hS hcj
 rintro n5 A5 w5 ⟨hsz5, hdf5, k, hm5, hk, hnz, hps, l13_5, l4_5, u0_5, u2_5, u12_5, hS5⟩
 have l0_5 := u0_5.trans l0_4
 have l2_5 := u2_5.trans l2_4
 have l12_5 := u12_5.trans l12_4
 obtain ⟨cj_5, hcj_5, hS5⟩ := gen1 hS5
 refine R_seq (fun K6 hK6 => ?_)
 refine R_region (by kernel_rfl) ?_
 refine W_v rfl rfl (V_lss rfl l13_5 l12_5) ?_
 refine W_end ?_
 refine Qo_normal ?_
 refine gen_Q (fun A7 hA7 => ?_)
 have hsz7 := szq hA7
 have hdf7 := dfE hA7 hdf5
 have l0_7 := lookE hA7 0 (es rfl l0_5)
 have l2_7 := lookE hA7 2 (es rfl l2_5)
 have l4_7 := lookE hA7 4 (es rfl l4_5)
 have l12_7 := lookE hA7 12 (es rfl l12_5)
 have l13_7 := lookE hA7 13 (es rfl l13_5)
 have l14_7 := lookE hA7 14 (et rfl)
 clear hA7 hsz5 hdf5 l13_5 l4_5 l0_5 l2_5 l12_5
 refine then_n (hK6 _ _ ?_)
 clear hK6
 refine R_seq (fun K8 hK8 => ?_)
 refine R_cond_dec l14_7 (fun c9 => ?_) (fun c9 => ?_)
 ·refine R_skip ?_
  refine then_n (hK8 _ _ ?_)
  clear hK8
  refine R_seq (fun K10 hK10 => ?_)
  refine R_block ?_
  refine R_seq (fun K11 hK11 => ?_)
  refine R_seq (fun K12 hK12 => ?_)
  refine R_regionI ?_
  refine I_v rfl rfl (by rfl) (V_mov rfl l0_7) ?_
  refine I_v rfl rfl (by rfl) (V_mov rfl (es rfl l4_7)) ?_
  refine I_r rfl rfl (by rfl) (VR_ldC rfl (e2 rfl l2_7) (cell_box (v := v) (ob_at (hRd _ (hR _ _ _ 0 hS5 (congrArg some hcj_5))).2.1) rfl) Try.underlying25 rfl) ?_
  refine I_v rfl rfl (by rfl) (V_mov rfl (e3 rfl l4_7)) ?_
  have k13 : (ps c.length a k) < c.length := by first | omega | (simp only [List.length_cons, List.length_nil]; omega) | (simp only [List.length_set]; omega) | decide
  obtain ⟨y13, hy13⟩ := get_some (xs := c) (k := (ps c.length a k)) k13
  obtain ⟨B13, O13, C13, hv13⟩ := (SlN.blk (sl_SlN (hRd _ (hR _ _ _ 0 hS5 (congrArg some hcj_5))).2.2) (by first | omega | (simp only [List.length_cons, List.length_nil]; omega) | (simp only [List.length_set]; omega) | decide))
  refine I_v rfl rfl (by rfl) (V_ixS (off := O13 + (ps c.length a k)) 1 ((ps c.length a k)) rfl (es rfl (et rfl)) (et rfl) hv13 (by omega) k13 Try.underlying25 (by kernel_rfl) (congrArg _ (Nat.mul_one _))) ?_
  refine I_r rfl rfl (by rfl) (VR_ldC rfl (et rfl) ((sl_SlN (hRd _ (hR _ _ _ 0 hS5 (congrArg some hcj_5))).2.2).cell hv13 (map_get hy13)) Try.underlying3 rfl) ?_
  refine I_yield rfl rfl (by rfl) (hY (pthK c a k) (((ps c.length a k : Nat) : Int), y13) _ _ 0 hS5 (congrArg some hcj_5) (pk_pre (by omega) hnz hy13)) (fun res hr => run_yield2 rfl (e5 rfl (et rfl)) (e4 rfl (et rfl)) (et rfl) hr) ?_
  rintro _ w14 (⟨rfl, hS14⟩ | ⟨rfl, hS14⟩)
  ·refine ⟨_, rfl, ?_⟩
   obtain ⟨cj14, hcj14⟩ : ∃ c_, c_ = J ((pthK c a k) ++ [(((ps c.length a k : Nat) : Int), y13)]) := ⟨_, rfl⟩
   rw [← hcj14] at hS14
   replace hS14 : St wb X (cj14 :: rest) w14 := hS14
   refine I_up (by kernel_rfl) ?_
   refine W_v rfl rfl (V_notT rfl (et rfl)) ?_
   refine W_v rfl rfl (V_mov rfl (et rfl)) ?_
   refine W_r rfl (wanted_t rfl rfl (et rfl) (ez rfl)) (VR_ldC rfl (e9 rfl l2_7) (cell_box (v := v) (ob_at (hRd _ (hR _ _ _ 0 hS14 (congrArg some hcj14))).2.1) rfl) Try.underlying25 rfl) ?_
   refine W_v rfl (wanted_t rfl rfl (es rfl (et rfl)) (ez rfl)) (V_mov rfl (e10 rfl l4_7)) ?_
   refine W_v rfl (wanted_t rfl rfl (e2 rfl (et rfl)) (ez rfl)) (V_ixS (off := O13 + (ps c.length a k)) 1 ((ps c.length a k)) rfl (es rfl (et rfl)) (et rfl) hv13 (by omega) k13 Try.underlying25 (by kernel_rfl) (congrArg _ (Nat.mul_one _))) ?_
   refine W_r rfl (wanted_t rfl rfl (e3 rfl (et rfl)) (ez rfl)) (VR_ldC rfl (et rfl) ((sl_SlN (hRd _ (hR _ _ _ 0 hS14 (congrArg some hcj14))).2.2).cell hv13 (map_get hy13)) Try.underlying3 rfl) ?_
   refine W_v rfl (wanted_t rfl rfl (e4 rfl (et rfl)) (ez rfl)) (V_eql rfl (et rfl) rfl) ?_
   refine W_v rfl rfl (V_pickF rfl (e5 rfl (et rfl)) (et rfl)) ?_
   refine W_end ?_
   refine Qo_normal ?_
   refine gen_Q (fun A16 hA16 => ?_)
   have hsz16 := szq hA16
   have hdf16 := dfE hA16 hdf7
   have l0_16 := ek15 hA16 0 rfl l0_7
   have l2_16 := ek15 hA16 2 rfl l2_7
   have l4_16 := ek15 hA16 4 rfl l4_7
   have l12_16 := ek15 hA16 12 rfl l12_7
   have l13_16 := ek15 hA16 13 rfl l13_7
   have l24_16 := lookE hA16 24 (e5 rfl (et rfl))
   have l25_16 := lookE hA16 25 (e4 rfl (et rfl))
   have l26_16 := lookE hA16 26 (e3 rfl (et rfl))
   have l27_16 := lookE hA16 27 (e2 rfl (et rfl))
   have l28_16 := lookE hA16 28 (es rfl (et rfl))
   have l29_16 := lookE hA16 29 (et rfl)
   clear hA16 hsz7 hdf7 l0_7 l2_7 l4_7 l12_7 l13_7 l14_7
   refine then_n (hK12 _ _ ?_)
   clear hK12
   refine R_cond_dec l29_16 (fun c17 => ?_) (fun c17 => ?_)
   ·refine R_ret ?_
    refine then_ret ?_
    refine inb_ret ?_
    refine then_ret ?_
    refine then_ret ?_
    refine inb_ret ?_
    refine ret_inR0 (results_0 Try.results98 ) hdf16 ?_
    exact ⟨⟨_, rfl⟩, .inl ⟨_, (pk_zero (by omega) hnz hy13 c17), hback _ _ (hcj14 ▸ hS14)⟩⟩
   ·refine R_skip ?_
    refine then_n (hK11 _ _ ?_)
    clear hK11
    refine R_region (by kernel_rfl) ?_
    refine W_v rfl rfl (V_mov rfl l4_16) ?_
    refine W_v rfl rfl (V_add rfl (et rfl) rfl (by omega) (by omega)) ?_
    refine W_r rfl rfl (VR_ldC rfl (e2 rfl l2_16) (cell_box (v := v) (ob_at (hRd _ (hR _ _ _ 0 hS14 (congrArg some hcj14))).2.1) rfl) Try.underlying25 rfl) ?_
    refine W_v rfl rfl (V_lenS rfl (et rfl) (sl_SlN (hRd _ (hR _ _ _ 0 hS14 (congrArg some hcj14))).2.2) Try.underlying25) ?_
    refine W_v rfl rfl (V_sb rfl (et rfl) rfl (by omega) (by omega)) ?_
    refine W_v rfl rfl (V_and rfl (e3 rfl (et rfl)) (et rfl) (by omega) (by omega) (and_psS hp a k)) ?_
    refine W_v rfl rfl (V_asg rfl (et rfl)) ?_
    refine W_end ?_
    refine Qo_normal ?_
    refine gen_Q (fun A18 hA18 => ?_)
    have hsz18 := szq hA18
    have hdf18 := dfE hA18 hdf16
    have l0_18 := ek7 hA18 0 rfl l0_16
    have l2_18 := ek7 hA18 2 rfl l2_16
    have l4_18 := lookE hA18 4 (et rfl)
    have l12_18 := ek7 hA18 12 rfl l12_16
    have l13_18 := ek7 hA18 13 rfl l13_16
    have l24_18 := ek7 hA18 24 rfl l24_16
    have l25_18 := ek7 hA18 25 rfl l25_16
    have l26_18 := ek7 hA18 26 rfl l26_16
    have l27_18 := ek7 hA18 27 rfl l27_16
    have l28_18 := ek7 hA18 28 rfl l28_16
    clear hA18 hsz16 hdf16 l0_16 l2_16 l4_16 l12_16 l13_16 l24_16 l25_16 l26_16 l27_16 l28_16 l29_16
    refine inb_n ?_
    refine then_n (hK10 _ _ ?_)
    clear hK10
    refine R_region (by kernel_rfl) ?_
    refine W_v rfl rfl (V_add rfl l13_18 rfl (by omega) (by omega)) ?_
    refine W_v rfl rfl (V_mov rfl (et rfl)) ?_
    refine W_end ?_
    refine Qo_normal ?_
    refine gen_Q (fun A19 hA19 => ?_)
    have hsz19 := szq hA19
    have hdf19 := dfE hA19 hdf18
    have l0_19 := ek2 hA19 0 rfl l0_18
    have l2_19 := ek2 hA19 2 rfl l2_18
    have l4_19 := ek2 hA19 4 rfl l4_18
    have l12_19 := ek2 hA19 12 rfl l12_18
    have l13_19 := lookE hA19 13 (et rfl)
    have l24_19 := ek2 hA19 24 rfl l24_18
    have l25_19 := ek2 hA19 25 rfl l25_18
    have l26_19 := ek2 hA19 26 rfl l26_18
    have l27_19 := ek2 hA19 27 rfl l27_18
    have l28_19 := ek2 hA19 28 rfl l28_18
    clear hA19 hsz18 hdf18 l0_18 l2_18 l4_18 l12_18 l13_18 l24_18 l25_18 l26_18 l27_18 l28_18
    refine then_n ⟨c.length - (k + 1), by simp only [hm5]; omega, hsz19, hdf19, (k + 1), rfl, (by omega), (nz_step hnz hy13 c17), (ps_lt (by omega) _ _), ((l13_19).trans (by first | rfl | (simp; done) | (congr 1; omega))), ((l4_19).trans (by first | rfl | (simp; done) | (congr 1; omega))), ((l0_19).trans l0_4.symm), ((l2_19).trans l2_4.symm), ((l12_19).trans l12_4.symm), (by have q0 : cj14 = J (pthK c a (k + 1)) := hcj14.trans (congrArg J (pk_snoc hy13)); subst q0; exact hS14)⟩
  ·refine ⟨_, rfl, ?_⟩
   obtain ⟨cj14, hcj14⟩ : ∃ c_, c_ = Jx ((pthK c a k) ++ [(((ps c.length a k : Nat) : Int), y13)]) := ⟨_, rfl⟩
   rw [← hcj14] at hS14
   replace hS14 : St wb X (cj14 :: rest) w14 := hS14
   refine I_up (by kernel_rfl) ?_
   refine W_v rfl rfl (V_notF rfl (et rfl)) ?_
   refine W_v rfl rfl (V_mov rfl (et rfl)) ?_
   refine W_off rfl (wanted_f rfl rfl (et rfl) (ez rfl) rfl) ?_
   refine W_off rfl (wanted_f rfl rfl (es rfl (et rfl)) (ez rfl) rfl) ?_
   refine W_off rfl (wanted_f rfl rfl (e2 rfl (et rfl)) (ez rfl) rfl) ?_
   refine W_off rfl (wanted_f rfl rfl (e3 rfl (et rfl)) (ez rfl) rfl) ?_
   refine W_off rfl (wanted_f rfl rfl (e4 rfl (et rfl)) (ez rfl) rfl) ?_
   refine W_v rfl rfl (V_pickT rfl (e5 rfl (et rfl)) rfl) ?_
   refine W_end ?_
   refine Qo_normal ?_
   refine gen_Q (fun A20 hA20 => ?_)
   have hsz20 := szq hA20
   have hdf20 := dfE hA20 hdf7
   have l0_20 := ek15 hA20 0 rfl l0_7
   have l2_20 := ek15 hA20 2 rfl l2_7
   have l4_20 := ek15 hA20 4 rfl l4_7
   have l12_20 := ek15 hA20 12 rfl l12_7
   have l13_20 := ek15 hA20 13 rfl l13_7
   have l24_20 := lookE hA20 24 (e5 rfl (et rfl))
   have l25_20 := lookE hA20 25 (e4 rfl (et rfl))
   have l26_20 := lookE hA20 26 (e3 rfl (et rfl))
   have l27_20 := lookE hA20 27 (e2 rfl (et rfl))
   have l28_20 := lookE hA20 28 (es rfl (et rfl))
   have l29_20 := lookE hA20 29 (et rfl)
   clear hA20 hsz7 hdf7 l0_7 l2_7 l4_7 l12_7 l13_7 l14_7
   refine then_n (hK12 _ _ ?_)
   clear hK12
   refine R_cond_t l29_20 ?_
   refine R_ret ?_
   refine then_ret ?_
   refine inb_ret ?_
   refine then_ret ?_
   refine then_ret ?_
   refine inb_ret ?_
   refine ret_inR0 (results_0 Try.results98 ) hdf20 ?_
   exact ⟨⟨_, rfl⟩, .inr ⟨_, (pk_pre (by omega) hnz hy13), hback _ _ (hcj14 ▸ hS14)⟩⟩
 ·refine R_exit ?_
  refine then_exit ?_
  refine then_exit ?_
  refine inb_hit ?_
  refine ret_inR0 (results_0 Try.results98 ) hdf7 ?_
  exact ⟨⟨_, rfl⟩, .inl ⟨_, (pk_all (by omega) (by omega) hnz), hback _ _ (hcj_5 ▸ hS5)⟩⟩

set_option maxHeartbeats 4000000 in
theorem kpath_c {v : Value} {c : List Int} {a : Int} {w : World} (h_v : Ro w NoX (il .i64 v c))  :
  Calls Try.prog 72 #[v, .int .i64 a] w fun e w' => ∃ ga gc, e = .returned (.func (.func 98) #[] #[.pointer (some ⟨ga, 0, none⟩), .pointer (some ⟨gc, 0, none⟩)]) ∧ St w NoX [bx ga 3 #[.int .i64 a], bx gc 25 #[v]] w' := by
 refine calls_in 6 Try.func72 rfl rfl (by simp) (fun A0 hsz0 hdf0 hargs => ?_)
 have l0_0 := hargs 0 (v) rfl
 have l1_0 := hargs 1 (.int .i64 a) rfl
 clear hargs; replace hsz0 : SzN A0 6 := ⟨hsz0⟩
 have hS := St.nil w
 have bh_v := SlN.le (sl_SlN h_v.at)
 refine wp_seq_k fun K1 hK1 => ?_
 refine region_in ?_
 refine W_boxS (zs := #[v]) hS rfl rfl rfl l0_0 (SlN_cells (sl_SlN h_v.at)) (fun g2 w2 c2 hc2 hS2 => ?_)
 replace hS2 : St w NoX [c2] w2 := hS2
 refine W_boxS (zs := #[.int .i64 (a)]) hS2 rfl rfl rfl (es rfl l1_0) (by rfl) (fun g3 w3 c3 hc3 hS3 => ?_)
 replace hS3 : St w NoX [c3, c2] w3 := hS3
 refine W_v rfl rfl (V_asg rfl rfl) ?_
 refine W_end (gen_Q fun A4 hA4 => ?_)
 have hsz4 := szq hA4
 have hdf4 := dfE hA4 hdf0
 have l2_4 := lookE hA4 2 (e2 rfl (et rfl))
 have l3_4 := lookE hA4 3 (es rfl (et rfl))
 clear hA4 hsz0 hdf0 l0_0 l1_0
 refine then_n (hK1 _ _ ?_)
 clear hK1
 refine wp_seq_k fun K5 hK5 => ?_
 refine region_in ?_
 refine W_v rfl rfl (V_mkf rfl (args0) (args2 l3_4 l2_4)) ?_
 refine W_v rfl rfl (V_asg rfl (et rfl)) ?_
 refine W_end (gen_Q fun A6 hA6 => ?_)
 have hsz6 := szq hA6
 have hdf6 := dfE hA6 hdf4
 have l4_6 := lookE hA6 4 (et rfl)
 clear hA6 hsz4 hdf4 l2_4 l3_4
 refine then_n (hK5 _ _ ?_)
 clear hK5
 refine wp_ret ?_
 refine ret_in (results_1 Try.results72 (rv_tmp l4_6)) hdf6 ?_
 exact ⟨_, _, rfl, (hS3.fin2 0 rfl (hc3) 1 rfl (hc2) (by decide))⟩

set_option maxHeartbeats 4000000 in
theorem kfind_c {cv : Value} {c : List Int} {a : Int} {w : World} (h_cv : Ro w NoX (il .i64 cv c)) (hp : P2 c.length) (ha : 1 ≤ a ∧ a ≤ 1600) :
  Calls Try.prog 115 #[cv, .int .i64 a] w fun e w' => e = .returned (.int .i64 (fnd c a)) ∧ St w NoX [] w' := by
 have hpb := hp.bd
 refine calls_inR 16 Try.func115 rfl rfl (by simp) (fun A0 hsz0 hdf0 hargs => ?_)
 have l0_0 := hargs 0 (cv) rfl
 have l1_0 := hargs 1 (.int .i64 a) rfl
 clear hargs; replace hsz0 : SzN A0 16 := ⟨hsz0⟩
 have hS := St.nil w
 have bh_cv := SlN.le (sl_SlN h_cv.at)
 refine R_seq (fun K1 hK1 => ?_)
 refine R_region (by kernel_rfl) ?_
 refine W_boxS (zs := #[.int .i64 (a)]) hS rfl rfl rfl l1_0 (by rfl) (fun g2 w2 c2 hc2 hS2 => ?_)
 replace hS2 : St w NoX [c2] w2 := hS2
 refine W_allocS (z := .int .i64 0) (zs := #[.int .i64 0]) hS2 rfl rfl rfl (by kernel_rfl) (by rfl) (fun g3 w3 c3 hc3 hS3 => ?_)
 replace hS3 : St w NoX [c3, c2] w3 := hS3
 refine W_end ?_
 refine Qo_normal ?_
 refine gen_Q (fun A4 hA4 => ?_)
 have hsz4 := szq hA4
 have hdf4 := dfE hA4 hdf0
 have l0_4 := ek2 hA4 0 rfl l0_0
 have l3_4 := lookE hA4 3 (es rfl (et rfl))
 have l4_4 := lookE hA4 4 (et rfl)
 clear hA4 hsz0 hdf0 l0_0 l1_0
 refine then_n (hK1 _ _ ?_)
 clear hK1
 refine R_seq (fun K5 hK5 => ?_)
 refine R_seq (fun K6 hK6 => ?_)
 refine R_region (by kernel_rfl) ?_
 refine W_v rfl rfl (V_mov rfl l0_4) ?_
 refine W_r rfl rfl (VR_ldC rfl (es rfl l3_4) (cell_box (v := .int .i64 (a)) (hS3.obj 1 rfl hc2) rfl) Try.underlying3 rfl) ?_
 refine W_call rfl rfl rfl Try.func72 (by kernel_rfl) rfl (args2 (es rfl (et rfl)) (et rfl)) (kpath_c (a := a) (hS3.roC h_cv) ) ?_
 rintro _ w7 ⟨ga_7, gc_7, rfl, hP7⟩
 refine ⟨_, rfl, ?_⟩
 obtain ⟨ca_7, cc_7, hca_7, hcc_7, hP7⟩ := gen2 hP7
 have hS7 := hS3.join hP7
 replace hS7 : St w NoX [ca_7, cc_7, c3, c2] w7 := hS7
 refine W_end ?_
 refine Qo_normal ?_
 refine gen_Q (fun A8 hA8 => ?_)
 have hsz8 := szq hA8
 have hdf8 := dfE hA8 hdf4
 have l3_8 := ek3 hA8 3 rfl l3_4
 have l4_8 := ek3 hA8 4 rfl l4_4
 have l9_8 := lookE hA8 9 (et rfl)
 clear hA8 hsz4 hdf4 l0_4 l3_4 l4_4
 refine then_n (hK6 _ _ ?_)
 clear hK6
 refine R_block ?_
 refine R_rangeS (α := Int × Int) l9_8 (fun args w => calls_enter Try.func98 rfl rfl args w) (kpath_it (g0 := ga_7) (g1 := gc_7) (v := cv) (c := c) (a := a) (Rd := fun W => (bx ga_7 3 #[.int .i64 a]).at W ∧ (bx gc_7 25 #[cv]).at W ∧ (il .i64 cv c).at W) (fun _ h => h) (hp) (ha)) (fun _ => rfl) (fun pre => pk (fun l => (∀ e ∈ pre, ¬ e.2 = a) ∧ l = [bx ga_7 3 #[.int .i64 (a)], bx gc_7 25 #[cv], bx g3 3 #[.int .i64 0], bx g2 3 #[.int .i64 (a)]])) (fun cQ pre => pk (fun l => (cQ = .ret ∧ ∃ (x : Int), (fnd c a = x) ∧ l = [bx ga_7 3 #[.int .i64 (a)], bx gc_7 25 #[cv], bx g3 3 #[.int .i64 (x)], bx g2 3 #[.int .i64 (a)]]))) (St.pack (l := [bx ga_7 3 #[.int .i64 (a)], bx gc_7 25 #[cv], bx g3 3 #[.int .i64 0], bx g2 3 #[.int .i64 (a)]]) (fr := []) (by have q0 : ca_7 = bx ga_7 3 #[.int .i64 (a)] := hca_7; have q1 : cc_7 = bx gc_7 25 #[cv] := hcc_7; have q2 : c3 = bx g3 3 #[.int .i64 0] := hc3; have q3 : c2 = bx g2 3 #[.int .i64 (a)] := hc2; subst q0 q1 q2 q3; exact hS7) ⟨(fun e he => by cases he), rfl⟩)
  (fun pre W l' hS => by obtain ⟨l, ⟨hno, rfl⟩, hl⟩ := pk_at (hS.ch 0 rfl); exact ⟨(hl 0 _ rfl), (hl 1 _ rfl), hS.ro h_cv⟩)
  (fun x a' cQ => match x with | (x1, x2) => SzN a' 16 ∧ a'.defers = [] ∧ EV a' (.tmp 3) = EV A8 (.tmp 3) ∧ EV a' (.tmp 4) = EV A8 (.tmp 4) ∧ EV a' (.tmp 5) = .int .i64 (x1) ∧ EV a' (.tmp 6) = .int .i64 (x2) ∧ cQ = pk (·= [])) ?_ ?_ ?_ ?_
 ·rintro la9 pre ⟨x1, x2⟩ wa9 fr K hSa9 hK
  simp only [encP]
  rw [rnd2]
  obtain ⟨A10, hA10⟩ : ∃ A, A = (PT (PT { tmps := A8.tmps, defers := [] } 10 (.int .i64 x1)) 11 (.int .i64 x2)) := ⟨_, rfl⟩
  rw [← hA10]
  have hsz10 := szq hA10
  have hdf10 : A10.defers = [] := by rw [hA10]; rfl
  have l3_10 := lookE hA10 3 (e2 rfl (rnd_l l3_8))
  have l4_10 := lookE hA10 4 (e2 rfl (rnd_l l4_8))
  have l10_10 := lookE hA10 10 (es rfl (et rfl))
  have l11_10 := lookE hA10 11 (et rfl)
  clear hA10
  obtain ⟨cI, hcI, hSa9⟩ := gen1 hSa9
  refine R_seq (fun K11 hK11 => ?_)
  refine R_region (by kernel_rfl) ?_
  refine W_v rfl rfl (V_asg rfl l10_10) ?_
  refine W_end ?_
  refine Qo_normal ?_
  refine gen_Q (fun A12 hA12 => ?_)
  have hsz12 := szq hA12
  have hdf12 := dfE hA12 hdf10
  have l3_12 := lookE hA12 3 (es rfl l3_10)
  have l4_12 := lookE hA12 4 (es rfl l4_10)
  have l5_12 := lookE hA12 5 (et rfl)
  have l11_12 := lookE hA12 11 (es rfl l11_10)
  clear hA12 hsz10 hdf10 l3_10 l4_10 l10_10 l11_10
  refine then_n (hK11 _ _ ?_)
  clear hK11
  refine R_region (by kernel_rfl) ?_
  refine W_v rfl rfl (V_asg rfl l11_12) ?_
  refine W_end ?_
  refine Qo_normal ?_
  refine gen_Q (fun A13 hA13 => ?_)
  have hsz13 := szq hA13
  have hdf13 := dfE hA13 hdf12
  have l3_13 := lookE hA13 3 (es rfl l3_12)
  have l4_13 := lookE hA13 4 (es rfl l4_12)
  have l5_13 := lookE hA13 5 (es rfl l5_12)
  have l6_13 := lookE hA13 6 (et rfl)
  clear hA13 hsz12 hdf12 l3_12 l4_12 l5_12 l11_12
  refine then_n ?_
  refine hK _ _ _ ⟨hsz13, hdf13, (l3_13.trans l3_8.symm), (l4_13.trans l4_8.symm), l5_13, l6_13, rfl⟩ ?_
  subst hcI; exact hSa9.asg0
 ·rintro lb14 pre ⟨x1, x2⟩ A14 w14 cQ fr hAx hlr hS14 hVd
  obtain ⟨hsz14, hdf14, u3_14, u4_14, l5_14, l6_14, rfl⟩ := hAx
  have l3_14 := u3_14.trans l3_8
  have l4_14 := u4_14.trans l4_8
  obtain ⟨_, _, ⟨hno, rfl⟩, rfl, hS14⟩ := hS14.body2
  replace hS14 : St w NoX ((bx ga_7 3 #[.int .i64 (a)]) :: (bx gc_7 25 #[cv]) :: (bx g3 3 #[.int .i64 0]) :: (bx g2 3 #[.int .i64 (a)]) :: fr) w14 := hS14
  obtain ⟨ca_15, cc_15, c3_15, c2_15, hca_15, hcc_15, hc3_15, hc2_15, hS14⟩ := gen4 hS14
  refine R_block ?_
  refine R_seq (fun K16 hK16 => ?_)
  refine R_region (by kernel_rfl) ?_
  refine W_v rfl rfl (V_mov rfl l6_14) ?_
  refine W_r rfl rfl (VR_ldC rfl (es rfl l3_14) (cell_box (v := .int .i64 (a)) (hS14.obj 3 rfl hc2_15) rfl) Try.underlying3 rfl) ?_
  refine W_v rfl rfl (V_eql rfl (es rfl (et rfl)) (et rfl)) ?_
  refine W_end ?_
  refine Qo_normal ?_
  refine gen_Q (fun A17 hA17 => ?_)
  have hsz17 := szq hA17
  have hdf17 := dfE hA17 hdf14
  have l4_17 := ek3 hA17 4 rfl l4_14
  have l5_17 := ek3 hA17 5 rfl l5_14
  have l14_17 := lookE hA17 14 (et rfl)
  clear hA17 hsz14 hdf14 l3_14 l4_14 l5_14 l6_14
  refine then_n (hK16 _ _ ?_)
  clear hK16
  refine R_cond_dec l14_17 (fun c18 => ?_) (fun c18 => ?_)
  ·refine R_seq (fun K19 hK19 => ?_)
   refine R_region (by kernel_rfl) ?_
   refine W_v rfl rfl (V_mov rfl l5_17) ?_
   refine W_stCS (zs' := #[.int .i64 (x1)]) 2 hS14 rfl hc3_15 rfl rfl rfl (es rfl l4_17) (et rfl) (by rfl) (by rfl) (by kernel_rfl) (by first | rfl | (simp only [List.setIfInBounds_toArray, List.set_cons_succ, List.set_cons_zero] <;> rfl)) (fun w20 c20 hc20 hS20 => ?_)
   replace hS20 : St w NoX (ca_15 :: cc_15 :: c20 :: c2_15 :: fr) w20 := hS20
   refine W_end ?_
   refine Qo_normal ?_
   refine gen_Q (fun A21 hA21 => ?_)
   have hsz21 := szq hA21
   have hdf21 := dfE hA21 hdf17
   have l4_21 := lookE hA21 4 (es rfl l4_17)
   clear hA21 hsz17 hdf17 l4_17 l5_17 l14_17
   refine then_n (hK19 _ _ ?_)
   clear hK19
   refine R_ret ?_
   refine inb_ret ?_
   exact (St.pack (l := [bx ga_7 3 #[.int .i64 (a)], bx gc_7 25 #[cv], bx g3 3 #[.int .i64 (x1)], bx g2 3 #[.int .i64 (a)]]) (fr := fr) (by have q0 : ca_15 = bx ga_7 3 #[.int .i64 (a)] := hca_15; have q1 : cc_15 = bx gc_7 25 #[cv] := hcc_15; have q2 : c20 = bx g3 3 #[.int .i64 (x1)] := hc20; have q3 : c2_15 = bx g2 3 #[.int .i64 (a)] := hc2_15; subst q0 q1 q2 q3; exact hS20) (⟨rfl, x1, (fnd_hit hVd hno c18), rfl⟩))
  ·refine R_skip ?_
   refine inb_n ?_
   exact (St.pack (l := [bx ga_7 3 #[.int .i64 (a)], bx gc_7 25 #[cv], bx g3 3 #[.int .i64 0], bx g2 3 #[.int .i64 (a)]]) (fr := fr) (by have q0 : ca_15 = bx ga_7 3 #[.int .i64 (a)] := hca_15; have q1 : cc_15 = bx gc_7 25 #[cv] := hcc_15; have q2 : c3_15 = bx g3 3 #[.int .i64 0] := hc3_15; have q3 : c2_15 = bx g2 3 #[.int .i64 (a)] := hc2_15; subst q0 q1 q2 q3; exact hS14) (⟨(all_snoc (p := fun e => e.2 = a) hno c18), rfl⟩))
 ·intro D22 xs w22 hxs hS22
  have hxs' : xs = pthL c a := hxs; subst hxs'; clear hxs
  obtain ⟨_, ⟨hno, rfl⟩, hS22⟩ := hS22.unpack
  replace hS22 : St w NoX ((bx ga_7 3 #[.int .i64 (a)]) :: (bx gc_7 25 #[cv]) :: (bx g3 3 #[.int .i64 0]) :: (bx g2 3 #[.int .i64 (a)]) :: (ob D22 (.deferred (some []))) :: []) w22 := hS22
  obtain ⟨ca_22, cc_22, c3_22, c2_22, cD22, hca_22, hcc_22, hc3_22, hc2_22, hcD22, hS22⟩ := gen5 hS22
  refine gen_Q (fun A22 hA22 => ?_)
  have hsz22 := szq hA22
  have hdf22 : A22.defers = [{ target := .collected D22, args := #[] }] := by rw [hA22, df_mk, hdf8] <;> rfl
  have l4_22 := lookE hA22 4 (mk_l l4_8)
  clear hA22
  refine inb_n ?_
  refine then_n (hK5 _ _ ?_)
  clear hK5
  refine R_seq (fun K23 hK23 => ?_)
  refine R_region (by kernel_rfl) ?_
  refine W_stCS (zs' := #[.int .i64 (-1)]) 2 hS22 rfl hc3_22 rfl rfl rfl l4_22 rfl (by rfl) (by rfl) (by kernel_rfl) (by first | rfl | (simp only [List.setIfInBounds_toArray, List.set_cons_succ, List.set_cons_zero] <;> rfl)) (fun w24 c24 hc24 hS24 => ?_)
  replace hS24 : St w NoX [ca_22, cc_22, c24, c2_22, cD22] w24 := hS24
  refine W_end ?_
  refine Qo_normal ?_
  refine then_n (hK23 _ _ ?_)
  clear hK23
  refine R_ret ?_
  have hD25 := hS24.obj 4 rfl hcD22
  have hS25 := hS24.put (o' := .deferred none) 4 rfl hcD22
  obtain ⟨w25, hw25⟩ : ∃ w', w' = w24.putObj D22 (.deferred none) := ⟨_, rfl⟩
  rw [← hw25] at hS25
  replace hS25 : St w NoX [ca_22, cc_22, c24, c2_22, (ob D22 (.deferred none))] w25 := hS25
  refine ret_inR1' (D := D22) (w1 := w25) hw25 (results_1 Try.results115 (rv_cellC l4_22 (cell_box (hS25.obj 2 rfl hc24) rfl) Try.underlying3 rfl)) hdf22 hD25 ?_
  rw [fnd_done ha.1 hno]
  exact ⟨rfl, hS25.fin0⟩
 ·intro D26 cQ pre w26 hpre hS26
  obtain ⟨_, hx, hS26⟩ := hS26.unpack
  rcases hx with ⟨rfl, x, hx, rfl⟩
  ·replace hS26 : St w NoX ((bx ga_7 3 #[.int .i64 (a)]) :: (bx gc_7 25 #[cv]) :: (bx g3 3 #[.int .i64 (x)]) :: (bx g2 3 #[.int .i64 (a)]) :: (ob D26 (.deferred (some []))) :: []) w26 := hS26
   obtain ⟨ca_26, cc_26, c3_26, c2_26, cD26, hca_26, hcc_26, hc3_26, hc2_26, hcD26, hS26⟩ := gen5 hS26
   refine gen_w (fun A26 hA26 => ?_)
   have hsz26 := szq hA26
   have hdf26 : A26.defers = [{ target := .collected D26, args := #[] }] := by rw [hA26, df_mk, hdf8] <;> rfl
   have l4_26 := lookE hA26 4 (mk_l l4_8)
   clear hA26
   refine R_ret ?_
   refine inb_ret ?_
   refine then_ret ?_
   have hD27 := hS26.obj 4 rfl hcD26
   have hS27 := hS26.put (o' := .deferred none) 4 rfl hcD26
   obtain ⟨w27, hw27⟩ : ∃ w', w' = w26.putObj D26 (.deferred none) := ⟨_, rfl⟩
   rw [← hw27] at hS27
   replace hS27 : St w NoX [ca_26, cc_26, c3_26, c2_26, (ob D26 (.deferred none))] w27 := hS27
   refine ret_inR1' (D := D26) (w1 := w27) hw27 (results_1 Try.results115 (rv_cellC l4_26 (cell_box (hS27.obj 2 rfl hc3_26) rfl) Try.underlying3 rfl)) hdf26 hD27 ?_
   rw [hx]
   exact ⟨rfl, hS27.fin0⟩

set_option maxHeartbeats 4000000 in
theorem kput_c {cv : Value} {c : List Int} {a : Int} {w : World} {Y : Nat → Prop}  (hS : St w Y [io .i64 cv c] w) (hp : P2 c.length) (ha : 1 ≤ a ∧ a ≤ 1600) :
  Calls Try.prog 126 #[cv, .int .i64 a] w fun e w' => e = .returned (.tuple #[]) ∧ St w Y [io .i64 cv (putT c a)] w' := by
 have hpb := hp.bd
 refine calls_inR 17 Try.func126 rfl rfl (by simp) (fun A0 hsz0 hdf0 hargs => ?_)
 have l0_0 := hargs 0 (cv) rfl
 have l1_0 := hargs 1 (.int .i64 a) rfl
 clear hargs; replace hsz0 : SzN A0 17 := ⟨hsz0⟩
 obtain ⟨m_cv, hm_cv, hS⟩ := gen1 hS
 replace hS : St w Y [m_cv] w := hS
 have bm_cv := SlN.le (ow_at (hS.chq 0 rfl hm_cv))
 refine R_seq (fun K1 hK1 => ?_)
 refine R_region (by kernel_rfl) ?_
 refine W_boxS (zs := #[cv]) hS rfl rfl rfl l0_0 (SlN_cells (ow_at (hS.chq 0 rfl hm_cv))) (fun g2 w2 c2 hc2 hS2 => ?_)
 replace hS2 : St w Y [c2, m_cv] w2 := hS2
 refine W_boxS (zs := #[.int .i64 (a)]) hS2 rfl rfl rfl (es rfl l1_0) (by rfl) (fun g3 w3 c3 hc3 hS3 => ?_)
 replace hS3 : St w Y [c3, c2, m_cv] w3 := hS3
 refine W_end ?_
 refine Qo_normal ?_
 refine gen_Q (fun A4 hA4 => ?_)
 have hsz4 := szq hA4
 have hdf4 := dfE hA4 hdf0
 have l2_4 := lookE hA4 2 (es rfl (et rfl))
 have l3_4 := lookE hA4 3 (et rfl)
 clear hA4 hsz0 hdf0 l0_0 l1_0
 refine then_n (hK1 _ _ ?_)
 clear hK1
 refine R_seq (fun K5 hK5 => ?_)
 refine R_region (by kernel_rfl) ?_
 refine W_r rfl rfl (VR_ldC rfl l2_4 (cell_box (v := cv) (hS3.obj 1 rfl hc2) rfl) Try.underlying25 rfl) ?_
 refine W_r rfl rfl (VR_ldC rfl (es rfl l3_4) (cell_box (v := .int .i64 (a)) (hS3.obj 0 rfl hc3) rfl) Try.underlying3 rfl) ?_
 refine W_call rfl rfl rfl Try.func72 (by kernel_rfl) rfl (args2 (es rfl (et rfl)) (et rfl)) (kpath_c (a := a) (hS3.chC 2 rfl hm_cv).own ) ?_
 rintro _ w6 ⟨ga_6, gc_6, rfl, hP6⟩
 refine ⟨_, rfl, ?_⟩
 obtain ⟨ca_6, cc_6, hca_6, hcc_6, hP6⟩ := gen2 hP6
 have hS6 := hS3.join hP6
 replace hS6 : St w Y [ca_6, cc_6, c3, c2, m_cv] w6 := hS6
 refine W_end ?_
 refine Qo_normal ?_
 refine gen_Q (fun A7 hA7 => ?_)
 have hsz7 := szq hA7
 have hdf7 := dfE hA7 hdf4
 have l2_7 := ek3 hA7 2 rfl l2_4
 have l3_7 := ek3 hA7 3 rfl l3_4
 have l8_7 := lookE hA7 8 (et rfl)
 clear hA7 hsz4 hdf4 l2_4 l3_4
 refine then_n (hK5 _ _ ?_)
 clear hK5
 refine R_block ?_
 refine R_rangeS (α := Int × Int) l8_7 (fun args w => calls_enter Try.func98 rfl rfl args w) (kpath_it (g0 := ga_6) (g1 := gc_6) (v := cv) (c := c) (a := a) (Rd := fun W => (bx ga_6 3 #[.int .i64 a]).at W ∧ (bx gc_6 25 #[cv]).at W ∧ (il .i64 cv c).at W) (fun _ h => h) (hp) (ha)) (fun _ => rfl) (fun pre => pk (fun l => (∀ e ∈ pre, ¬ e.2 ≤ 0) ∧ l = [bx ga_6 3 #[.int .i64 (a)], bx gc_6 25 #[cv], bx g3 3 #[.int .i64 (a)], bx g2 25 #[cv], io .i64 cv c])) (fun cQ pre => pk (fun l => (cQ = .ret ∧ l = [bx ga_6 3 #[.int .i64 (a)], bx gc_6 25 #[cv], bx g3 3 #[.int .i64 (a)], bx g2 25 #[cv], io .i64 cv (putT c a)]))) (St.pack (l := [bx ga_6 3 #[.int .i64 (a)], bx gc_6 25 #[cv], bx g3 3 #[.int .i64 (a)], bx g2 25 #[cv], io .i64 cv c]) (fr := []) (by have q0 : ca_6 = bx ga_6 3 #[.int .i64 (a)] := hca_6; have q1 : cc_6 = bx gc_6 25 #[cv] := hcc_6; have q2 : c3 = bx g3 3 #[.int .i64 (a)] := hc3; have q3 : c2 = bx g2 25 #[cv] := hc2; have q4 : m_cv = io .i64 cv c := hm_cv; subst q0 q1 q2 q3 q4; exact hS6) ⟨(fun e he => by cases he), rfl⟩)
  (fun pre W l' hS => by obtain ⟨l, ⟨hno, rfl⟩, hl⟩ := pk_at (hS.ch 0 rfl); exact ⟨(hl 0 _ rfl), (hl 1 _ rfl), (ow_sl_at (hl 4 _ rfl))⟩)
  (fun x a' cQ => match x with | (x1, x2) => SzN a' 17 ∧ a'.defers = [] ∧ EV a' (.tmp 2) = EV A7 (.tmp 2) ∧ EV a' (.tmp 3) = EV A7 (.tmp 3) ∧ EV a' (.tmp 4) = .int .i64 (x1) ∧ EV a' (.tmp 5) = .int .i64 (x2) ∧ cQ = pk (·= [])) ?_ ?_ ?_ ?_
 ·rintro la8 pre ⟨x1, x2⟩ wa8 fr K hSa8 hK
  simp only [encP]
  rw [rnd2]
  obtain ⟨A9, hA9⟩ : ∃ A, A = (PT (PT { tmps := A7.tmps, defers := [] } 9 (.int .i64 x1)) 10 (.int .i64 x2)) := ⟨_, rfl⟩
  rw [← hA9]
  have hsz9 := szq hA9
  have hdf9 : A9.defers = [] := by rw [hA9]; rfl
  have l2_9 := lookE hA9 2 (e2 rfl (rnd_l l2_7))
  have l3_9 := lookE hA9 3 (e2 rfl (rnd_l l3_7))
  have l9_9 := lookE hA9 9 (es rfl (et rfl))
  have l10_9 := lookE hA9 10 (et rfl)
  clear hA9
  obtain ⟨cI, hcI, hSa8⟩ := gen1 hSa8
  refine R_seq (fun K10 hK10 => ?_)
  refine R_region (by kernel_rfl) ?_
  refine W_v rfl rfl (V_asg rfl l9_9) ?_
  refine W_end ?_
  refine Qo_normal ?_
  refine gen_Q (fun A11 hA11 => ?_)
  have hsz11 := szq hA11
  have hdf11 := dfE hA11 hdf9
  have l2_11 := lookE hA11 2 (es rfl l2_9)
  have l3_11 := lookE hA11 3 (es rfl l3_9)
  have l4_11 := lookE hA11 4 (et rfl)
  have l10_11 := lookE hA11 10 (es rfl l10_9)
  clear hA11 hsz9 hdf9 l2_9 l3_9 l9_9 l10_9
  refine then_n (hK10 _ _ ?_)
  clear hK10
  refine R_region (by kernel_rfl) ?_
  refine W_v rfl rfl (V_asg rfl l10_11) ?_
  refine W_end ?_
  refine Qo_normal ?_
  refine gen_Q (fun A12 hA12 => ?_)
  have hsz12 := szq hA12
  have hdf12 := dfE hA12 hdf11
  have l2_12 := lookE hA12 2 (es rfl l2_11)
  have l3_12 := lookE hA12 3 (es rfl l3_11)
  have l4_12 := lookE hA12 4 (es rfl l4_11)
  have l5_12 := lookE hA12 5 (et rfl)
  clear hA12 hsz11 hdf11 l2_11 l3_11 l4_11 l10_11
  refine then_n ?_
  refine hK _ _ _ ⟨hsz12, hdf12, (l2_12.trans l2_7.symm), (l3_12.trans l3_7.symm), l4_12, l5_12, rfl⟩ ?_
  subst hcI; exact hSa8.asg0
 ·rintro lb13 pre ⟨x1, x2⟩ A13 w13 cQ fr hAx hlr hS13 hVd
  obtain ⟨hsz13, hdf13, u2_13, u3_13, l4_13, l5_13, rfl⟩ := hAx
  have l2_13 := u2_13.trans l2_7
  have l3_13 := u3_13.trans l3_7
  obtain ⟨_, _, ⟨hno, rfl⟩, rfl, hS13⟩ := hS13.body2
  replace hS13 : St w Y ((bx ga_6 3 #[.int .i64 (a)]) :: (bx gc_6 25 #[cv]) :: (bx g3 3 #[.int .i64 (a)]) :: (bx g2 25 #[cv]) :: (io .i64 cv c) :: fr) w13 := hS13
  obtain ⟨ca_14, cc_14, c3_14, c2_14, m_cv_14, hca_14, hcc_14, hc3_14, hc2_14, hm_cv_14, hS13⟩ := gen5 hS13
  have hxb := pth_bd hVd
  refine R_block ?_
  refine R_seq (fun K15 hK15 => ?_)
  refine R_region (by kernel_rfl) ?_
  refine W_v rfl rfl (V_mov rfl l5_13) ?_
  refine W_v rfl rfl (V_leq rfl (et rfl) rfl) ?_
  refine W_end ?_
  refine Qo_normal ?_
  refine gen_Q (fun A16 hA16 => ?_)
  have hsz16 := szq hA16
  have hdf16 := dfE hA16 hdf13
  have l2_16 := ek2 hA16 2 rfl l2_13
  have l3_16 := ek2 hA16 3 rfl l3_13
  have l4_16 := ek2 hA16 4 rfl l4_13
  have l12_16 := lookE hA16 12 (et rfl)
  clear hA16 hsz13 hdf13 l2_13 l3_13 l4_13 l5_13
  refine then_n (hK15 _ _ ?_)
  clear hK15
  refine R_cond_dec l12_16 (fun c17 => ?_) (fun c17 => ?_)
  ·refine R_seq (fun K18 hK18 => ?_)
   refine R_region (by kernel_rfl) ?_
   refine W_r rfl rfl (VR_ldC rfl l2_16 (cell_box (v := cv) (hS13.obj 3 rfl hc2_14) rfl) Try.underlying25 rfl) ?_
   refine W_v rfl rfl (V_mov rfl (es rfl l4_16)) ?_
   refine W_r rfl rfl (VR_ldC rfl (e2 rfl l3_16) (cell_box (v := .int .i64 (a)) (hS13.obj 2 rfl hc3_14) rfl) Try.underlying3 rfl) ?_
   have k19 : x1.toNat < c.length := by first | omega | (simp only [List.length_cons, List.length_nil]; omega) | (simp only [List.length_set]; omega) | decide
   obtain ⟨y19, hy19⟩ := get_some (xs := c) (k := x1.toNat) k19
   obtain ⟨B19, O19, C19, hv19⟩ := (SlN.blk (ow_at (hS13.chq 4 rfl hm_cv_14)) (by first | omega | (simp only [List.length_cons, List.length_nil]; omega) | (simp only [List.length_set]; omega) | decide))
   refine W_v rfl rfl (V_ixS (off := O19 + x1.toNat) 1 (x1.toNat) rfl (e2 rfl (et rfl)) (es rfl (et rfl)) hv19 (by omega) k19 Try.underlying25 (by kernel_rfl) (congrArg _ (Nat.mul_one _))) ?_
   refine W_stE 4 hS13 rfl hm_cv_14 hv19 rfl rfl rfl (et rfl) (es rfl (et rfl)) (by rfl) rfl (by first | (simp only [List.length_map]; omega) | omega) (by kernel_rfl) (fun w20 c20 hc20 hS20 => ?_)
   replace hc20 : c20 = io .i64 cv (c.set x1.toNat a) := hc20.trans (by simp [io, bo, List.map_set] <;> rfl)
   replace hS20 : St w Y (ca_14 :: cc_14 :: c3_14 :: c2_14 :: c20 :: fr) w20 := hS20
   refine W_end ?_
   refine Qo_normal ?_
   refine gen_Q (fun A21 hA21 => ?_)
   have hsz21 := szq hA21
   have hdf21 := dfE hA21 hdf16
   clear hA21 hsz16 hdf16 l2_16 l3_16 l4_16 l12_16
   refine then_n (hK18 _ _ ?_)
   clear hK18
   refine R_ret ?_
   refine inb_ret ?_
   exact (St.pack (l := [bx ga_6 3 #[.int .i64 (a)], bx gc_6 25 #[cv], bx g3 3 #[.int .i64 (a)], bx g2 25 #[cv], io .i64 cv (putT c a)]) (fr := fr) (by have q0 : ca_14 = bx ga_6 3 #[.int .i64 (a)] := hca_14; have q1 : cc_14 = bx gc_6 25 #[cv] := hcc_14; have q2 : c3_14 = bx g3 3 #[.int .i64 (a)] := hc3_14; have q3 : c2_14 = bx g2 25 #[cv] := hc2_14; have q4 : c20 = io .i64 cv (putT c a) := hc20.trans ((congrArg (io .i64 _) (put_hit hVd hno c17))); subst q0 q1 q2 q3 q4; exact hS20) (⟨rfl, rfl⟩))
  ·refine R_skip ?_
   refine inb_n ?_
   exact (St.pack (l := [bx ga_6 3 #[.int .i64 (a)], bx gc_6 25 #[cv], bx g3 3 #[.int .i64 (a)], bx g2 25 #[cv], io .i64 cv c]) (fr := fr) (by have q0 : ca_14 = bx ga_6 3 #[.int .i64 (a)] := hca_14; have q1 : cc_14 = bx gc_6 25 #[cv] := hcc_14; have q2 : c3_14 = bx g3 3 #[.int .i64 (a)] := hc3_14; have q3 : c2_14 = bx g2 25 #[cv] := hc2_14; have q4 : m_cv_14 = io .i64 cv c := hm_cv_14; subst q0 q1 q2 q3 q4; exact hS13) (⟨(all_snoc (p := fun e => e.2 ≤ 0) hno c17), rfl⟩))
 ·intro D22 xs w22 hxs hS22
  have hxs' : xs = pthL c a := hxs; subst hxs'; clear hxs
  obtain ⟨_, ⟨hno, rfl⟩, hS22⟩ := hS22.unpack
  replace hS22 : St w Y ((bx ga_6 3 #[.int .i64 (a)]) :: (bx gc_6 25 #[cv]) :: (bx g3 3 #[.int .i64 (a)]) :: (bx g2 25 #[cv]) :: (io .i64 cv c) :: (ob D22 (.deferred (some []))) :: []) w22 := hS22
  obtain ⟨ca_22, cc_22, c3_22, c2_22, m_cv_22, cD22, hca_22, hcc_22, hc3_22, hc2_22, hm_cv_22, hcD22, hS22⟩ := gen6 hS22
  refine gen_Q (fun A22 hA22 => ?_)
  have hsz22 := szq hA22
  have hdf22 : A22.defers = [{ target := .collected D22, args := #[] }] := by rw [hA22, df_mk, hdf7] <;> rfl
  clear hA22
  refine inb_n ?_
  have hD23 := hS22.obj 5 rfl hcD22
  have hS23 := hS22.put (o' := .deferred none) 5 rfl hcD22
  obtain ⟨w23, hw23⟩ : ∃ w', w' = w22.putObj D22 (.deferred none) := ⟨_, rfl⟩
  rw [← hw23] at hS23
  replace hS23 : St w Y [ca_22, cc_22, c3_22, c2_22, m_cv_22, (ob D22 (.deferred none))] w23 := hS23
  refine ret_inR1' (D := D22) (w1 := w23) hw23 (results_0 Try.results126 ) hdf22 hD23 ?_
  exact ⟨rfl, (hS23.fin1 4 rfl (hm_cv_22.trans (congrArg (io .i64 _) (put_done hno))))⟩
 ·intro D24 cQ pre w24 hpre hS24
  obtain ⟨_, hx, hS24⟩ := hS24.unpack
  rcases hx with ⟨rfl, rfl⟩
  ·replace hS24 : St w Y ((bx ga_6 3 #[.int .i64 (a)]) :: (bx gc_6 25 #[cv]) :: (bx g3 3 #[.int .i64 (a)]) :: (bx g2 25 #[cv]) :: (io .i64 cv (putT c a)) :: (ob D24 (.deferred (some []))) :: []) w24 := hS24
   obtain ⟨ca_24, cc_24, c3_24, c2_24, m_cv_24, cD24, hca_24, hcc_24, hc3_24, hc2_24, hm_cv_24, hcD24, hS24⟩ := gen6 hS24
   refine gen_w (fun A24 hA24 => ?_)
   have hsz24 := szq hA24
   have hdf24 : A24.defers = [{ target := .collected D24, args := #[] }] := by rw [hA24, df_mk, hdf7] <;> rfl
   clear hA24
   refine R_ret ?_
   refine inb_ret ?_
   have hD25 := hS24.obj 5 rfl hcD24
   have hS25 := hS24.put (o' := .deferred none) 5 rfl hcD24
   obtain ⟨w25, hw25⟩ : ∃ w', w' = w24.putObj D24 (.deferred none) := ⟨_, rfl⟩
   rw [← hw25] at hS25
   replace hS25 : St w Y [ca_24, cc_24, c3_24, c2_24, m_cv_24, (ob D24 (.deferred none))] w25 := hS25
   refine ret_inR1' (D := D24) (w1 := w25) hw25 (results_0 Try.results126 ) hdf24 hD25 ?_
   exact ⟨rfl, (hS25.fin1 4 rfl (hm_cv_24))⟩

set_option maxHeartbeats 4000000 in
theorem kcnt_c {cv : Value} {c : List Int} {w : World} (h_cv : Ro w NoX (il .i64 cv c))  :
  Calls Try.prog 82 #[cv] w fun e w' => e = .returned (.tuple #[.int .i64 ((usd c : Nat) : Int), .int .i64 ((adr c : Nat) : Int)]) ∧ St w NoX [] w' := by
 refine calls_in 25 Try.func82 rfl rfl (by simp) (fun A0 hsz0 hdf0 hargs => ?_)
 have l0_0 := hargs 0 (cv) rfl
 clear hargs; replace hsz0 : SzN A0 25 := ⟨hsz0⟩
 have hS := St.nil w
 have bh_cv := SlN.le (sl_SlN h_cv.at)
 refine wp_seq_k fun K1 hK1 => ?_
 refine region_in ?_
 refine W_v rfl rfl (V_asg rfl rfl) ?_
 refine W_v rfl rfl (V_asg rfl rfl) ?_
 refine W_end (gen_Q fun A2 hA2 => ?_)
 have hsz2 := szq hA2
 have hdf2 := dfE hA2 hdf0
 have l0_2 := ek2 hA2 0 rfl l0_0
 have l2_2 := lookE hA2 2 (es rfl (et rfl))
 have l3_2 := lookE hA2 3 (et rfl)
 clear hA2 hsz0 hdf0 l0_0
 refine then_n (hK1 _ _ ?_)
 clear hK1
 refine wp_seq_k fun K3 hK3 => ?_
 refine wp_seq_k fun K4 hK4 => ?_
 refine region_in ?_
 refine W_v rfl rfl (V_mov rfl l0_2) ?_
 refine W_v rfl rfl (V_lenS rfl (et rfl) (sl_SlN h_cv.at) Try.underlying25) ?_
 refine W_v rfl rfl (V_mov rfl rfl) ?_
 refine W_end (gen_Q fun A5 hA5 => ?_)
 have hsz5 := szq hA5
 have hdf5 := dfE hA5 hdf2
 have l2_5 := ek3 hA5 2 rfl l2_2
 have l3_5 := ek3 hA5 3 rfl l3_2
 have l6_5 := lookE hA5 6 (e2 rfl (et rfl))
 have l7_5 := lookE hA5 7 (es rfl (et rfl))
 have l8_5 := lookE hA5 8 (et rfl)
 clear hA5 hsz2 hdf2 l0_2 l2_2 l3_2
 refine then_n (hK4 _ _ ?_)
 clear hK4
 refine wp_block ?_
 -- loop 2
 refine loopX (fun mz A' w' => SzN A' 25 ∧ A'.defers = [] ∧ (∃ (k : Nat), (mz = c.length - k) ∧ (k ≤ c.length) ∧ (usd (c.take k) ≤ k ∧ adr (c.take k) ≤ k) ∧ (EV A' (.tmp 8) = .int .i64 (k : Int)) ∧ (EV A' (.tmp 2) = .int .i64 ((usd (c.take k) : Nat) : Int)) ∧ (EV A' (.tmp 3) = .int .i64 ((adr (c.take k) : Nat) : Int)) ∧ (EV A' (.tmp 6) = EV A5 (.tmp 6)) ∧ (EV A' (.tmp 7) = EV A5 (.tmp 7)) ∧ (St w NoX [] w'))) (c.length - 0) ⟨hsz5, hdf5, 0, rfl, (by omega), (cnt_bd _ _), ((l8_5).trans (by first | rfl | (simp; done) | (congr 1; omega))), ((l2_5).trans (rfl)), ((l3_5).trans (rfl)), rfl, rfl, hS⟩ ?_
 clear hS
 rintro n6 A6 w6 ⟨hsz6, hdf6, k, hm6, hk, hcb, l8_6, l2_6, l3_6, u6_6, u7_6, hS6⟩
 have l6_6 := u6_6.trans l6_5
 have l7_6 := u7_6.trans l7_5
 refine wp_seq_k fun K7 hK7 => ?_
 refine region_in ?_
 refine W_v rfl rfl (V_lss rfl l8_6 l7_6) ?_
 refine W_end (gen_Q fun A8 hA8 => ?_)
 have hsz8 := szq hA8
 have hdf8 := dfE hA8 hdf6
 have l2_8 := lookE hA8 2 (es rfl l2_6)
 have l3_8 := lookE hA8 3 (es rfl l3_6)
 have l6_8 := lookE hA8 6 (es rfl l6_6)
 have l7_8 := lookE hA8 7 (es rfl l7_6)
 have l8_8 := lookE hA8 8 (es rfl l8_6)
 have l9_8 := lookE hA8 9 (et rfl)
 clear hA8 hsz6 hdf6 l8_6 l2_6 l3_6 l6_6 l7_6
 refine then_n (hK7 _ _ ?_)
 clear hK7
 refine wp_seq_k fun K9 hK9 => ?_
 refine cond_dec l9_8 (fun c10 => ?_) (fun c10 => ?_)
 ·refine wp_skip ?_
  refine then_n (hK9 _ _ ?_)
  clear hK9
  refine wp_seq_k fun K11 hK11 => ?_
  refine wp_block ?_
  refine wp_seq_k fun K12 hK12 => ?_
  refine region_in ?_
  have k13 : k < c.length := by first | omega | (simp only [List.length_cons, List.length_nil]; omega) | (simp only [List.length_set]; omega) | decide
  obtain ⟨y13, hy13⟩ := get_some (xs := c) (k := k) k13
  obtain ⟨B13, O13, C13, hv13⟩ := (SlN.blk (sl_SlN h_cv.at) (by first | omega | (simp only [List.length_cons, List.length_nil]; omega) | (simp only [List.length_set]; omega) | decide))
  refine W_v rfl rfl (V_ixS (off := O13 + k) 1 (k) rfl l6_8 l8_8 hv13 (by omega) k13 Try.underlying25 (by kernel_rfl) (congrArg _ (Nat.mul_one _))) ?_
  refine W_r rfl rfl (VR_ldC rfl (et rfl) ((sl_SlN (hS6.ro h_cv)).cell hv13 (map_get hy13)) Try.underlying3 rfl) ?_
  refine W_v rfl rfl (V_asg rfl (et rfl)) ?_
  refine W_end (gen_Q fun A14 hA14 => ?_)
  have hsz14 := szq hA14
  have hdf14 := dfE hA14 hdf8
  have l2_14 := ek3 hA14 2 rfl l2_8
  have l3_14 := ek3 hA14 3 rfl l3_8
  have l5_14 := lookE hA14 5 (et rfl)
  have l6_14 := ek3 hA14 6 rfl l6_8
  have l7_14 := ek3 hA14 7 rfl l7_8
  have l8_14 := ek3 hA14 8 rfl l8_8
  clear hA14 hsz8 hdf8 l2_8 l3_8 l6_8 l7_8 l8_8 l9_8
  refine then_n (hK12 _ _ ?_)
  clear hK12
  refine wp_block ?_
  refine wp_seq_k fun K15 hK15 => ?_
  refine wp_block ?_
  refine wp_seq_k fun K16 hK16 => ?_
  refine wp_block ?_
  refine wp_seq_k fun K17 hK17 => ?_
  refine wp_seq_k fun K18 hK18 => ?_
  refine wp_seq_k fun K19 hK19 => ?_
  refine region_in ?_
  refine W_v rfl rfl (V_mov rfl l5_14) ?_
  refine W_v rfl rfl (V_gtr rfl (et rfl) rfl) ?_
  refine W_v rfl rfl (V_asg rfl (et rfl)) ?_
  refine W_end (gen_Q fun A20 hA20 => ?_)
  have hsz20 := szq hA20
  have hdf20 := dfE hA20 hdf14
  have l2_20 := ek3 hA20 2 rfl l2_14
  have l3_20 := ek3 hA20 3 rfl l3_14
  have l5_20 := ek3 hA20 5 rfl l5_14
  have l6_20 := ek3 hA20 6 rfl l6_14
  have l7_20 := ek3 hA20 7 rfl l7_14
  have l8_20 := ek3 hA20 8 rfl l8_14
  have l12_20 := lookE hA20 12 (et rfl)
  clear hA20 hsz14 hdf14 l2_14 l3_14 l5_14 l6_14 l7_14 l8_14
  refine then_n (hK19 _ _ ?_)
  clear hK19
  refine cond_dec l12_20 (fun c21 => ?_) (fun c21 => ?_)
  ·refine wp_exit ?_
   refine then_exit ?_
   refine then_exit ?_
   refine inb_hit ?_
   refine then_n (hK16 _ _ ?_)
   clear hK16
   refine region_in ?_
   refine W_v rfl rfl (V_mov rfl l3_20) ?_
   refine W_v rfl rfl (V_add rfl (et rfl) rfl (by omega) (by omega)) ?_
   refine W_v rfl rfl (V_asg rfl (et rfl)) ?_
   refine W_end (gen_Q fun A22 hA22 => ?_)
   have hsz22 := szq hA22
   have hdf22 := dfE hA22 hdf20
   have l2_22 := ek3 hA22 2 rfl l2_20
   have l3_22 := lookE hA22 3 (et rfl)
   have l6_22 := ek3 hA22 6 rfl l6_20
   have l7_22 := ek3 hA22 7 rfl l7_20
   have l8_22 := ek3 hA22 8 rfl l8_20
   clear hA22 hsz20 hdf20 l2_20 l3_20 l5_20 l6_20 l7_20 l8_20 l12_20
   refine inb_n ?_
   refine then_n (hK15 _ _ ?_)
   clear hK15
   refine wp_seq_k fun K23 hK23 => ?_
   refine region_in ?_
   refine W_v rfl rfl (V_mov rfl l2_22) ?_
   refine W_v rfl rfl (V_add rfl (et rfl) rfl (by omega) (by omega)) ?_
   refine W_v rfl rfl (V_asg rfl (et rfl)) ?_
   refine W_end (gen_Q fun A24 hA24 => ?_)
   have hsz24 := szq hA24
   have hdf24 := dfE hA24 hdf22
   have l2_24 := lookE hA24 2 (et rfl)
   have l3_24 := ek3 hA24 3 rfl l3_22
   have l6_24 := ek3 hA24 6 rfl l6_22
   have l7_24 := ek3 hA24 7 rfl l7_22
   have l8_24 := ek3 hA24 8 rfl l8_22
   clear hA24 hsz22 hdf22 l2_22 l3_22 l6_22 l7_22 l8_22
   refine then_n (hK23 _ _ ?_)
   clear hK23
   refine wp_exit ?_
   refine inb_hit ?_
   refine inb_n ?_
   refine then_n (hK11 _ _ ?_)
   clear hK11
   refine region_in ?_
   refine W_v rfl rfl (V_add rfl l8_24 rfl (by omega) (by omega)) ?_
   refine W_v rfl rfl (V_mov rfl (et rfl)) ?_
   refine W_end (gen_Q fun A25 hA25 => ?_)
   have hsz25 := szq hA25
   have hdf25 := dfE hA25 hdf24
   have l2_25 := ek2 hA25 2 rfl l2_24
   have l3_25 := ek2 hA25 3 rfl l3_24
   have l6_25 := ek2 hA25 6 rfl l6_24
   have l7_25 := ek2 hA25 7 rfl l7_24
   have l8_25 := lookE hA25 8 (et rfl)
   clear hA25 hsz24 hdf24 l2_24 l3_24 l6_24 l7_24 l8_24
   refine then_n ⟨c.length - (k + 1), by simp only [hm6]; omega, hsz25, hdf25, (k + 1), rfl, (by omega), (cnt_bd _ _), ((l8_25).trans (by first | rfl | (simp; done) | (congr 1; omega))), ((l2_25).trans ((by rw [usd_snoc hy13]; first | (rw [if_pos (by omega)]; rfl) | (rw [if_neg (by omega)]; rfl)))), ((l3_25).trans ((by rw [adr_snoc hy13]; first | (rw [if_pos (by omega)]; rfl) | (rw [if_neg (by omega)]; rfl)))), ((l6_25).trans l6_5.symm), ((l7_25).trans l7_5.symm), hS6⟩
  ·refine wp_skip ?_
   refine then_n (hK18 _ _ ?_)
   clear hK18
   refine wp_seq_k fun K26 hK26 => ?_
   refine region_in ?_
   refine W_v rfl rfl (V_mov rfl l5_20) ?_
   refine W_v rfl rfl (V_lss rfl (et rfl) rfl) ?_
   refine W_v rfl rfl (V_asg rfl (et rfl)) ?_
   refine W_end (gen_Q fun A27 hA27 => ?_)
   have hsz27 := szq hA27
   have hdf27 := dfE hA27 hdf20
   have l2_27 := ek3 hA27 2 rfl l2_20
   have l3_27 := ek3 hA27 3 rfl l3_20
   have l6_27 := ek3 hA27 6 rfl l6_20
   have l7_27 := ek3 hA27 7 rfl l7_20
   have l8_27 := ek3 hA27 8 rfl l8_20
   have l15_27 := lookE hA27 15 (et rfl)
   clear hA27 hsz20 hdf20 l2_20 l3_20 l5_20 l6_20 l7_20 l8_20 l12_20
   refine then_n (hK26 _ _ ?_)
   clear hK26
   refine cond_dec l15_27 (fun c28 => ?_) (fun c28 => ?_)
   ·refine wp_exit ?_
    refine then_exit ?_
    refine inb_miss rfl ?_
    refine then_exit ?_
    refine inb_hit ?_
    refine then_n (hK15 _ _ ?_)
    clear hK15
    refine wp_seq_k fun K29 hK29 => ?_
    refine region_in ?_
    refine W_v rfl rfl (V_mov rfl l2_27) ?_
    refine W_v rfl rfl (V_add rfl (et rfl) rfl (by omega) (by omega)) ?_
    refine W_v rfl rfl (V_asg rfl (et rfl)) ?_
    refine W_end (gen_Q fun A30 hA30 => ?_)
    have hsz30 := szq hA30
    have hdf30 := dfE hA30 hdf27
    have l2_30 := lookE hA30 2 (et rfl)
    have l3_30 := ek3 hA30 3 rfl l3_27
    have l6_30 := ek3 hA30 6 rfl l6_27
    have l7_30 := ek3 hA30 7 rfl l7_27
    have l8_30 := ek3 hA30 8 rfl l8_27
    clear hA30 hsz27 hdf27 l2_27 l3_27 l6_27 l7_27 l8_27 l15_27
    refine then_n (hK29 _ _ ?_)
    clear hK29
    refine wp_exit ?_
    refine inb_hit ?_
    refine inb_n ?_
    refine then_n (hK11 _ _ ?_)
    clear hK11
    refine region_in ?_
    refine W_v rfl rfl (V_add rfl l8_30 rfl (by omega) (by omega)) ?_
    refine W_v rfl rfl (V_mov rfl (et rfl)) ?_
    refine W_end (gen_Q fun A31 hA31 => ?_)
    have hsz31 := szq hA31
    have hdf31 := dfE hA31 hdf30
    have l2_31 := ek2 hA31 2 rfl l2_30
    have l3_31 := ek2 hA31 3 rfl l3_30
    have l6_31 := ek2 hA31 6 rfl l6_30
    have l7_31 := ek2 hA31 7 rfl l7_30
    have l8_31 := lookE hA31 8 (et rfl)
    clear hA31 hsz30 hdf30 l2_30 l3_30 l6_30 l7_30 l8_30
    refine then_n ⟨c.length - (k + 1), by simp only [hm6]; omega, hsz31, hdf31, (k + 1), rfl, (by omega), (cnt_bd _ _), ((l8_31).trans (by first | rfl | (simp; done) | (congr 1; omega))), ((l2_31).trans ((by rw [usd_snoc hy13]; first | (rw [if_pos (by omega)]; rfl) | (rw [if_neg (by omega)]; rfl)))), ((l3_31).trans ((by rw [adr_snoc hy13]; first | (rw [if_pos (by omega)]; rfl) | (rw [if_neg (by omega)]; rfl)))), ((l6_31).trans l6_5.symm), ((l7_31).trans l7_5.symm), hS6⟩
   ·refine wp_skip ?_
    refine then_n (hK17 _ _ ?_)
    clear hK17
    refine wp_exit ?_
    refine inb_miss rfl ?_
    refine then_exit ?_
    refine inb_miss rfl ?_
    refine then_exit ?_
    refine inb_hit ?_
    refine inb_n ?_
    refine then_n (hK11 _ _ ?_)
    clear hK11
    refine region_in ?_
    refine W_v rfl rfl (V_add rfl l8_27 rfl (by omega) (by omega)) ?_
    refine W_v rfl rfl (V_mov rfl (et rfl)) ?_
    refine W_end (gen_Q fun A32 hA32 => ?_)
    have hsz32 := szq hA32
    have hdf32 := dfE hA32 hdf27
    have l2_32 := ek2 hA32 2 rfl l2_27
    have l3_32 := ek2 hA32 3 rfl l3_27
    have l6_32 := ek2 hA32 6 rfl l6_27
    have l7_32 := ek2 hA32 7 rfl l7_27
    have l8_32 := lookE hA32 8 (et rfl)
    clear hA32 hsz27 hdf27 l2_27 l3_27 l6_27 l7_27 l8_27 l15_27
    refine then_n ⟨c.length - (k + 1), by simp only [hm6]; omega, hsz32, hdf32, (k + 1), rfl, (by omega), (cnt_bd _ _), ((l8_32).trans (by first | rfl | (simp; done) | (congr 1; omega))), ((l2_32).trans ((by rw [usd_snoc hy13]; first | (rw [if_pos (by omega)]; rfl) | (rw [if_neg (by omega)]; rfl)))), ((l3_32).trans ((by rw [adr_snoc hy13]; first | (rw [if_pos (by omega)]; rfl) | (rw [if_neg (by omega)]; rfl)))), ((l6_32).trans l6_5.symm), ((l7_32).trans l7_5.symm), hS6⟩
 ·refine wp_exit ?_
  refine then_exit ?_
  refine then_exit ?_
  refine inb_hit ?_
  refine then_n (hK3 _ _ ?_)
  clear hK3
  refine wp_seq_k fun K33 hK33 => ?_
  refine region_in ?_
  refine W_v rfl rfl (V_mov rfl l2_8) ?_
  refine W_v rfl rfl (V_mov rfl (es rfl l3_8)) ?_
  refine W_v rfl rfl (V_asg rfl (es rfl (et rfl))) ?_
  refine W_v rfl rfl (V_asg rfl (es rfl (et rfl))) ?_
  refine W_end (gen_Q fun A34 hA34 => ?_)
  have hsz34 := szq hA34
  have hdf34 := dfE hA34 hdf8
  have l2_34 := lookE hA34 2 (es rfl (et rfl))
  have l3_34 := lookE hA34 3 (et rfl)
  clear hA34 hsz8 hdf8 l2_8 l3_8 l6_8 l7_8 l8_8 l9_8
  refine then_n (hK33 _ _ ?_)
  clear hK33
  refine wp_ret ?_
  refine ret_in (results_2 Try.results82 (rv_tmp l2_34) (rv_tmp l3_34)) hdf34 ?_
  have e : c.take k = c := List.take_of_length_le (by omega)
  have e1 : usd c = usd (c.take k) := by rw [e]
  have e2 : adr c = adr (c.take k) := by rw [e]
  rw [e1, e2]
  exact ⟨rfl, hS6.fin0⟩

set_option maxHeartbeats 4000000 in
theorem qcnt_c {cv : Value} {c : List Int} {w : World} (h_cv : Ro w NoX (il .i64 cv c))  :
  Calls Try.prog 85 #[cv] w fun e w' => e = .returned (.tuple #[.int .i64 ((usd c : Nat) : Int), .int .i64 ((adr c : Nat) : Int)]) ∧ St w NoX [] w' := by
 refine calls_in 29 Try.func85 rfl rfl (by simp) (fun A0 hsz0 hdf0 hargs => ?_)
 have l0_0 := hargs 0 (cv) rfl
 clear hargs; replace hsz0 : SzN A0 29 := ⟨hsz0⟩
 have hS := St.nil w
 have bh_cv := SlN.le (sl_SlN h_cv.at)
 refine wp_seq_k fun K1 hK1 => ?_
 refine region_in ?_
 refine W_v rfl rfl (V_asg rfl rfl) ?_
 refine W_v rfl rfl (V_asg rfl rfl) ?_
 refine W_end (gen_Q fun A2 hA2 => ?_)
 have hsz2 := szq hA2
 have hdf2 := dfE hA2 hdf0
 have l0_2 := ek2 hA2 0 rfl l0_0
 clear hA2 hsz0 hdf0 l0_0
 refine then_n (hK1 _ _ ?_)
 clear hK1
 refine wp_seq_k fun K3 hK3 => ?_
 refine region_in ?_
 refine W_v rfl rfl (V_asg rfl rfl) ?_
 refine W_v rfl rfl (V_asg rfl rfl) ?_
 refine W_end (gen_Q fun A4 hA4 => ?_)
 have hsz4 := szq hA4
 have hdf4 := dfE hA4 hdf2
 have l0_4 := ek2 hA4 0 rfl l0_2
 have l4_4 := lookE hA4 4 (es rfl (et rfl))
 have l5_4 := lookE hA4 5 (et rfl)
 clear hA4 hsz2 hdf2 l0_2
 refine then_n (hK3 _ _ ?_)
 clear hK3
 refine wp_seq_k fun K5 hK5 => ?_
 refine wp_seq_k fun K6 hK6 => ?_
 refine region_in ?_
 refine W_v rfl rfl (V_asg rfl rfl) ?_
 refine W_end (gen_Q fun A7 hA7 => ?_)
 have hsz7 := szq hA7
 have hdf7 := dfE hA7 hdf4
 have l0_7 := lookE hA7 0 (es rfl l0_4)
 have l4_7 := lookE hA7 4 (es rfl l4_4)
 have l5_7 := lookE hA7 5 (es rfl l5_4)
 have l6_7 := lookE hA7 6 (et rfl)
 clear hA7 hsz4 hdf4 l0_4 l4_4 l5_4
 refine then_n (hK6 _ _ ?_)
 clear hK6
 refine wp_block ?_
 -- loop 3
 refine loopX (fun mz A' w' => SzN A' 29 ∧ A'.defers = [] ∧ (∃ (k : Nat), (mz = c.length - k) ∧ (k ≤ c.length) ∧ (usd (c.take k) ≤ k ∧ adr (c.take k) ≤ k) ∧ (EV A' (.tmp 6) = .int .i64 (k : Int)) ∧ (EV A' (.tmp 4) = .int .i64 ((usd (c.take k) : Nat) : Int)) ∧ (EV A' (.tmp 5) = .int .i64 ((adr (c.take k) : Nat) : Int)) ∧ (EV A' (.tmp 0) = EV A7 (.tmp 0)) ∧ (St w NoX [] w'))) (c.length - 0) ⟨hsz7, hdf7, 0, rfl, (by omega), (cnt_bd _ _), ((l6_7).trans (by first | rfl | (simp; done) | (congr 1; omega))), ((l4_7).trans (rfl)), ((l5_7).trans (rfl)), rfl, hS⟩ ?_
 clear hS
 rintro n8 A8 w8 ⟨hsz8, hdf8, k, hm8, hk, hcb, l6_8, l4_8, l5_8, u0_8, hS8⟩
 have l0_8 := u0_8.trans l0_7
 refine wp_seq_k fun K9 hK9 => ?_
 refine wp_seq_k fun K10 hK10 => ?_
 refine region_in ?_
 refine W_v rfl rfl (V_mov rfl l6_8) ?_
 refine W_v rfl rfl (V_mov rfl (es rfl l0_8)) ?_
 refine W_v rfl rfl (V_lenS rfl (et rfl) (sl_SlN h_cv.at) Try.underlying25) ?_
 refine W_v rfl rfl (V_lss rfl (e2 rfl (et rfl)) (et rfl)) ?_
 refine W_end (gen_Q fun A11 hA11 => ?_)
 have hsz11 := szq hA11
 have hdf11 := dfE hA11 hdf8
 have l0_11 := ek4 hA11 0 rfl l0_8
 have l4_11 := ek4 hA11 4 rfl l4_8
 have l5_11 := ek4 hA11 5 rfl l5_8
 have l6_11 := ek4 hA11 6 rfl l6_8
 have l10_11 := lookE hA11 10 (et rfl)
 clear hA11 hsz8 hdf8 l6_8 l4_8 l5_8 l0_8
 refine then_n (hK10 _ _ ?_)
 clear hK10
 refine cond_dec l10_11 (fun c12 => ?_) (fun c12 => ?_)
 ·refine wp_skip ?_
  refine then_n (hK9 _ _ ?_)
  clear hK9
  refine wp_seq_k fun K13 hK13 => ?_
  refine wp_block ?_
  refine wp_seq_k fun K14 hK14 => ?_
  refine wp_seq_k fun K15 hK15 => ?_
  refine region_in ?_
  refine W_v rfl rfl (V_mov rfl l0_11) ?_
  refine W_v rfl rfl (V_mov rfl (es rfl l6_11)) ?_
  have k16 : k < c.length := by first | omega | (simp only [List.length_cons, List.length_nil]; omega) | (simp only [List.length_set]; omega) | decide
  obtain ⟨y16, hy16⟩ := get_some (xs := c) (k := k) k16
  obtain ⟨B16, O16, C16, hv16⟩ := (SlN.blk (sl_SlN h_cv.at) (by first | omega | (simp only [List.length_cons, List.length_nil]; omega) | (simp only [List.length_set]; omega) | decide))
  refine W_v rfl rfl (V_ixS (off := O16 + k) 1 (k) rfl (es rfl (et rfl)) (et rfl) hv16 (by omega) k16 Try.underlying25 (by kernel_rfl) (congrArg _ (Nat.mul_one _))) ?_
  refine W_r rfl rfl (VR_ldC rfl (et rfl) ((sl_SlN (hS8.ro h_cv)).cell hv16 (map_get hy16)) Try.underlying3 rfl) ?_
  refine W_v rfl rfl (V_neq rfl (et rfl) rfl) ?_
  refine W_end (gen_Q fun A17 hA17 => ?_)
  have hsz17 := szq hA17
  have hdf17 := dfE hA17 hdf11
  have l0_17 := ek5 hA17 0 rfl l0_11
  have l4_17 := ek5 hA17 4 rfl l4_11
  have l5_17 := ek5 hA17 5 rfl l5_11
  have l6_17 := ek5 hA17 6 rfl l6_11
  have l17_17 := lookE hA17 17 (et rfl)
  clear hA17 hsz11 hdf11 l0_11 l4_11 l5_11 l6_11 l10_11
  refine then_n (hK15 _ _ ?_)
  clear hK15
  refine cond_dec l17_17 (fun c18 => ?_) (fun c18 => ?_)
  ·refine region_in ?_
   refine W_v rfl rfl (V_mov rfl l4_17) ?_
   refine W_v rfl rfl (V_add rfl (et rfl) rfl (by omega) (by omega)) ?_
   refine W_v rfl rfl (V_asg rfl (et rfl)) ?_
   refine W_end (gen_Q fun A19 hA19 => ?_)
   have hsz19 := szq hA19
   have hdf19 := dfE hA19 hdf17
   have l0_19 := ek3 hA19 0 rfl l0_17
   have l4_19 := lookE hA19 4 (et rfl)
   have l5_19 := ek3 hA19 5 rfl l5_17
   have l6_19 := ek3 hA19 6 rfl l6_17
   clear hA19 hsz17 hdf17 l0_17 l4_17 l5_17 l6_17 l17_17
   refine then_n (hK14 _ _ ?_)
   clear hK14
   refine wp_seq_k fun K20 hK20 => ?_
   refine region_in ?_
   refine W_v rfl rfl (V_mov rfl l0_19) ?_
   refine W_v rfl rfl (V_mov rfl (es rfl l6_19)) ?_
   refine W_v rfl rfl (V_ixS (off := O16 + k) 1 (k) rfl (es rfl (et rfl)) (et rfl) hv16 (by omega) k16 Try.underlying25 (by kernel_rfl) (congrArg _ (Nat.mul_one _))) ?_
   refine W_r rfl rfl (VR_ldC rfl (et rfl) ((sl_SlN (hS8.ro h_cv)).cell hv16 (map_get hy16)) Try.underlying3 rfl) ?_
   refine W_v rfl rfl (V_gtr rfl (et rfl) rfl) ?_
   refine W_end (gen_Q fun A22 hA22 => ?_)
   have hsz22 := szq hA22
   have hdf22 := dfE hA22 hdf19
   have l0_22 := ek5 hA22 0 rfl l0_19
   have l4_22 := ek5 hA22 4 rfl l4_19
   have l5_22 := ek5 hA22 5 rfl l5_19
   have l6_22 := ek5 hA22 6 rfl l6_19
   have l24_22 := lookE hA22 24 (et rfl)
   clear hA22 hsz19 hdf19 l0_19 l4_19 l5_19 l6_19
   refine then_n (hK20 _ _ ?_)
   clear hK20
   refine cond_dec l24_22 (fun c23 => ?_) (fun c23 => ?_)
   ·refine region_in ?_
    refine W_v rfl rfl (V_mov rfl l5_22) ?_
    refine W_v rfl rfl (V_add rfl (et rfl) rfl (by omega) (by omega)) ?_
    refine W_v rfl rfl (V_asg rfl (et rfl)) ?_
    refine W_end (gen_Q fun A24 hA24 => ?_)
    have hsz24 := szq hA24
    have hdf24 := dfE hA24 hdf22
    have l0_24 := ek3 hA24 0 rfl l0_22
    have l4_24 := ek3 hA24 4 rfl l4_22
    have l5_24 := lookE hA24 5 (et rfl)
    have l6_24 := ek3 hA24 6 rfl l6_22
    clear hA24 hsz22 hdf22 l0_22 l4_22 l5_22 l6_22 l24_22
    refine inb_n ?_
    refine then_n (hK13 _ _ ?_)
    clear hK13
    refine region_in ?_
    refine W_v rfl rfl (V_mov rfl l6_24) ?_
    refine W_v rfl rfl (V_add rfl (et rfl) rfl (by omega) (by omega)) ?_
    refine W_v rfl rfl (V_asg rfl (et rfl)) ?_
    refine W_end (gen_Q fun A25 hA25 => ?_)
    have hsz25 := szq hA25
    have hdf25 := dfE hA25 hdf24
    have l0_25 := ek3 hA25 0 rfl l0_24
    have l4_25 := ek3 hA25 4 rfl l4_24
    have l5_25 := ek3 hA25 5 rfl l5_24
    have l6_25 := lookE hA25 6 (et rfl)
    clear hA25 hsz24 hdf24 l0_24 l4_24 l5_24 l6_24
    refine then_n ⟨c.length - (k + 1), by simp only [hm8]; omega, hsz25, hdf25, (k + 1), rfl, (by omega), (cnt_bd _ _), ((l6_25).trans (by first | rfl | (simp; done) | (congr 1; omega))), ((l4_25).trans ((by rw [usd_snoc hy16]; first | (rw [if_pos (by omega)]; rfl) | (rw [if_neg (by omega)]; rfl)))), ((l5_25).trans ((by rw [adr_snoc hy16]; first | (rw [if_pos (by omega)]; rfl) | (rw [if_neg (by omega)]; rfl)))), ((l0_25).trans l0_7.symm), hS8⟩
   ·refine wp_skip ?_
    refine inb_n ?_
    refine then_n (hK13 _ _ ?_)
    clear hK13
    refine region_in ?_
    refine W_v rfl rfl (V_mov rfl l6_22) ?_
    refine W_v rfl rfl (V_add rfl (et rfl) rfl (by omega) (by omega)) ?_
    refine W_v rfl rfl (V_asg rfl (et rfl)) ?_
    refine W_end (gen_Q fun A26 hA26 => ?_)
    have hsz26 := szq hA26
    have hdf26 := dfE hA26 hdf22
    have l0_26 := ek3 hA26 0 rfl l0_22
    have l4_26 := ek3 hA26 4 rfl l4_22
    have l5_26 := ek3 hA26 5 rfl l5_22
    have l6_26 := lookE hA26 6 (et rfl)
    clear hA26 hsz22 hdf22 l0_22 l4_22 l5_22 l6_22 l24_22
    refine then_n ⟨c.length - (k + 1), by simp only [hm8]; omega, hsz26, hdf26, (k + 1), rfl, (by omega), (cnt_bd _ _), ((l6_26).trans (by first | rfl | (simp; done) | (congr 1; omega))), ((l4_26).trans ((by rw [usd_snoc hy16]; first | (rw [if_pos (by omega)]; rfl) | (rw [if_neg (by omega)]; rfl)))), ((l5_26).trans ((by rw [adr_snoc hy16]; first | (rw [if_pos (by omega)]; rfl) | (rw [if_neg (by omega)]; rfl)))), ((l0_26).trans l0_7.symm), hS8⟩
  ·refine wp_skip ?_
   refine then_n (hK14 _ _ ?_)
   clear hK14
   refine wp_seq_k fun K27 hK27 => ?_
   refine region_in ?_
   refine W_v rfl rfl (V_mov rfl l0_17) ?_
   refine W_v rfl rfl (V_mov rfl (es rfl l6_17)) ?_
   refine W_v rfl rfl (V_ixS (off := O16 + k) 1 (k) rfl (es rfl (et rfl)) (et rfl) hv16 (by omega) k16 Try.underlying25 (by kernel_rfl) (congrArg _ (Nat.mul_one _))) ?_
   refine W_r rfl rfl (VR_ldC rfl (et rfl) ((sl_SlN (hS8.ro h_cv)).cell hv16 (map_get hy16)) Try.underlying3 rfl) ?_
   refine W_v rfl rfl (V_gtr rfl (et rfl) rfl) ?_
   refine W_end (gen_Q fun A29 hA29 => ?_)
   have hsz29 := szq hA29
   have hdf29 := dfE hA29 hdf17
   have l0_29 := ek5 hA29 0 rfl l0_17
   have l4_29 := ek5 hA29 4 rfl l4_17
   have l5_29 := ek5 hA29 5 rfl l5_17
   have l6_29 := ek5 hA29 6 rfl l6_17
   have l24_29 := lookE hA29 24 (et rfl)
   clear hA29 hsz17 hdf17 l0_17 l4_17 l5_17 l6_17 l17_17
   refine then_n (hK27 _ _ ?_)
   clear hK27
   refine cond_dec l24_29 (fun c30 => ?_) (fun c30 => ?_)
   ·refine region_in ?_
    refine W_v rfl rfl (V_mov rfl l5_29) ?_
    refine W_v rfl rfl (V_add rfl (et rfl) rfl (by omega) (by omega)) ?_
    refine W_v rfl rfl (V_asg rfl (et rfl)) ?_
    refine W_end (gen_Q fun A31 hA31 => ?_)
    have hsz31 := szq hA31
    have hdf31 := dfE hA31 hdf29
    have l0_31 := ek3 hA31 0 rfl l0_29
    have l4_31 := ek3 hA31 4 rfl l4_29
    have l5_31 := lookE hA31 5 (et rfl)
    have l6_31 := ek3 hA31 6 rfl l6_29
    clear hA31 hsz29 hdf29 l0_29 l4_29 l5_29 l6_29 l24_29
    refine inb_n ?_
    refine then_n (hK13 _ _ ?_)
    clear hK13
    refine region_in ?_
    refine W_v rfl rfl (V_mov rfl l6_31) ?_
    refine W_v rfl rfl (V_add rfl (et rfl) rfl (by omega) (by omega)) ?_
    refine W_v rfl rfl (V_asg rfl (et rfl)) ?_
    refine W_end (gen_Q fun A32 hA32 => ?_)
    have hsz32 := szq hA32
    have hdf32 := dfE hA32 hdf31
    have l0_32 := ek3 hA32 0 rfl l0_31
    have l4_32 := ek3 hA32 4 rfl l4_31
    have l5_32 := ek3 hA32 5 rfl l5_31
    have l6_32 := lookE hA32 6 (et rfl)
    clear hA32 hsz31 hdf31 l0_31 l4_31 l5_31 l6_31
    refine then_n ⟨c.length - (k + 1), by simp only [hm8]; omega, hsz32, hdf32, (k + 1), rfl, (by omega), (cnt_bd _ _), ((l6_32).trans (by first | rfl | (simp; done) | (congr 1; omega))), ((l4_32).trans ((by rw [usd_snoc hy16]; first | (rw [if_pos (by omega)]; rfl) | (rw [if_neg (by omega)]; rfl)))), ((l5_32).trans ((by rw [adr_snoc hy16]; first | (rw [if_pos (by omega)]; rfl) | (rw [if_neg (by omega)]; rfl)))), ((l0_32).trans l0_7.symm), hS8⟩
   ·refine wp_skip ?_
    refine inb_n ?_
    refine then_n (hK13 _ _ ?_)
    clear hK13
    refine region_in ?_
    refine W_v rfl rfl (V_mov rfl l6_29) ?_
    refine W_v rfl rfl (V_add rfl (et rfl) rfl (by omega) (by omega)) ?_
    refine W_v rfl rfl (V_asg rfl (et rfl)) ?_
    refine W_end (gen_Q fun A33 hA33 => ?_)
    have hsz33 := szq hA33
    have hdf33 := dfE hA33 hdf29
    have l0_33 := ek3 hA33 0 rfl l0_29
    have l4_33 := ek3 hA33 4 rfl l4_29
    have l5_33 := ek3 hA33 5 rfl l5_29
    have l6_33 := lookE hA33 6 (et rfl)
    clear hA33 hsz29 hdf29 l0_29 l4_29 l5_29 l6_29 l24_29
    refine then_n ⟨c.length - (k + 1), by simp only [hm8]; omega, hsz33, hdf33, (k + 1), rfl, (by omega), (cnt_bd _ _), ((l6_33).trans (by first | rfl | (simp; done) | (congr 1; omega))), ((l4_33).trans ((by rw [usd_snoc hy16]; first | (rw [if_pos (by omega)]; rfl) | (rw [if_neg (by omega)]; rfl)))), ((l5_33).trans ((by rw [adr_snoc hy16]; first | (rw [if_pos (by omega)]; rfl) | (rw [if_neg (by omega)]; rfl)))), ((l0_33).trans l0_7.symm), hS8⟩
 ·refine wp_exit ?_
  refine then_exit ?_
  refine then_exit ?_
  refine inb_hit ?_
  refine then_n (hK5 _ _ ?_)
  clear hK5
  refine wp_seq_k fun K34 hK34 => ?_
  refine region_in ?_
  refine W_v rfl rfl (V_mov rfl l4_11) ?_
  refine W_v rfl rfl (V_mov rfl (es rfl l5_11)) ?_
  refine W_v rfl rfl (V_asg rfl (es rfl (et rfl))) ?_
  refine W_v rfl rfl (V_asg rfl (es rfl (et rfl))) ?_
  refine W_end (gen_Q fun A35 hA35 => ?_)
  have hsz35 := szq hA35
  have hdf35 := dfE hA35 hdf11
  have l2_35 := lookE hA35 2 (es rfl (et rfl))
  have l3_35 := lookE hA35 3 (et rfl)
  clear hA35 hsz11 hdf11 l0_11 l4_11 l5_11 l6_11 l10_11
  refine then_n (hK34 _ _ ?_)
  clear hK34
  refine wp_ret ?_
  refine ret_in (results_2 Try.results85 (rv_tmp l2_35) (rv_tmp l3_35)) hdf35 ?_
  have e : c.take k = c := List.take_of_length_le (by omega)
  have e1 : usd c = usd (c.take k) := by rw [e]
  have e2 : adr c = adr (c.take k) := by rw [e]
  rw [e1, e2]
  exact ⟨rfl, hS8.fin0⟩

set_option maxHeartbeats 4000000 in
theorem kadr_c {a : Int} {w : World}   :
  Calls Try.prog 125 #[.int .i64 a] w fun e w' => e = .returned (.bool (decide (1 ≤ a ∧ a ≤ 1600))) ∧ St w NoX [] w' := by
 refine calls_in 9 Try.func125 rfl rfl (by simp) (fun A0 hsz0 hdf0 hargs => ?_)
 have l0_0 := hargs 0 (.int .i64 a) rfl
 clear hargs; replace hsz0 : SzN A0 9 := ⟨hsz0⟩
 have hS := St.nil w
 refine wp_seq_k fun K1 hK1 => ?_
 refine region_in ?_
 refine W_v rfl rfl (V_asg rfl rfl) ?_
 refine W_end (gen_Q fun A2 hA2 => ?_)
 have hsz2 := szq hA2
 have hdf2 := dfE hA2 hdf0
 have l0_2 := lookE hA2 0 (es rfl l0_0)
 clear hA2 hsz0 hdf0 l0_0
 refine then_n (hK1 _ _ ?_)
 clear hK1
 refine wp_seq_k fun K3 hK3 => ?_
 refine region_in ?_
 refine W_v rfl rfl (V_mov rfl l0_2) ?_
 refine W_v rfl rfl (V_geq rfl (et rfl) rfl) ?_
 refine W_split rfl rfl (V_mov rfl (et rfl)) (fun c4 => ?_) (fun c4 => ?_)
 ·refine W_v rfl (wanted_t rfl rfl (et rfl) (ez rfl)) (V_mov rfl (e3 rfl l0_2)) ?_
  refine W_v rfl (wanted_t rfl rfl (es rfl (et rfl)) (ez rfl)) (V_leq rfl (et rfl) rfl) ?_
  refine W_v rfl rfl (V_pickT rfl (e2 rfl (et rfl)) (et rfl)) ?_
  refine W_v rfl rfl (V_asg rfl (et rfl)) ?_
  refine W_end (gen_Q fun A5 hA5 => ?_)
  have hsz5 := szq hA5
  have hdf5 := dfE hA5 hdf2
  have l2_5 := lookE hA5 2 (et rfl)
  clear hA5 hsz2 hdf2 l0_2
  refine then_n (hK3 _ _ ?_)
  clear hK3
  refine wp_ret ?_
  refine ret_in (results_1 Try.results125 (rv_tmp l2_5)) hdf5 ?_
  rw [show (decide (1 ≤ a ∧ a ≤ 1600)) = decide (a ≤ 1600) by exact decide_eq_decide.2 (by omega)]
  exact ⟨rfl, hS.fin0⟩
 ·refine W_off rfl (wanted_f rfl rfl (et rfl) (ez rfl) rfl) ?_
  refine W_off rfl (wanted_f rfl rfl (es rfl (et rfl)) (ez rfl) rfl) ?_
  refine W_v rfl rfl (V_pickF rfl (e2 rfl (et rfl)) rfl) ?_
  refine W_v rfl rfl (V_asg rfl (et rfl)) ?_
  refine W_end (gen_Q fun A6 hA6 => ?_)
  have hsz6 := szq hA6
  have hdf6 := dfE hA6 hdf2
  have l2_6 := lookE hA6 2 (et rfl)
  clear hA6 hsz2 hdf2 l0_2
  refine then_n (hK3 _ _ ?_)
  clear hK3
  refine wp_ret ?_
  refine ret_in (results_1 Try.results125 (rv_tmp l2_6)) hdf6 ?_
  rw [show (decide (1 ≤ a ∧ a ≤ 1600)) = false by exact decide_eq_false (by omega)]
  exact ⟨rfl, hS.fin0⟩

set_option maxHeartbeats 4000000 in
theorem kown_c {cv : Value} {c : List Int} {w : World} (h_cv : Ro w NoX (il .i64 cv c)) (hl : c.length ≤ 8192) :
  Calls Try.prog 81 #[.agg #[cv]] w fun e w' => ∃ v, e = .returned (v) ∧ St w NoX [io .i64 (v) c] w' := by
 refine calls_in 13 Try.func81 rfl rfl (by simp) (fun A0 hsz0 hdf0 hargs => ?_)
 have l0_0 := hargs 0 (.agg #[cv]) rfl
 clear hargs; replace hsz0 : SzN A0 13 := ⟨hsz0⟩
 have hS := St.nil w
 have bh_cv := SlN.le (sl_SlN h_cv.at)
 refine wp_seq_k fun K1 hK1 => ?_
 refine region_in ?_
 refine W_boxS (zs := #[cv]) hS rfl rfl rfl l0_0 (by rfl) (fun g2 w2 c2 hc2 hS2 => ?_)
 replace hS2 : St w NoX [c2] w2 := hS2
 refine W_v rfl rfl (V_asg rfl rfl) ?_
 refine W_end (gen_Q fun A3 hA3 => ?_)
 have hsz3 := szq hA3
 have hdf3 := dfE hA3 hdf0
 have l1_3 := lookE hA3 1 (es rfl (et rfl))
 clear hA3 hsz0 hdf0 l0_0
 refine then_n (hK1 _ _ ?_)
 clear hK1
 refine wp_seq_k fun K4 hK4 => ?_
 refine region_in ?_
 refine W_v rfl rfl (V_fa (off' := 0) rfl l1_3 Try.underlying27 rfl (by decide +kernel) rfl) ?_
 refine W_r rfl rfl (VR_ldC rfl (et rfl) (cell_box (v := cv) (hS2.obj 0 rfl hc2) rfl) Try.underlying25 rfl) ?_
 refine W_v rfl rfl (V_lenS rfl (et rfl) (sl_SlN h_cv.at) Try.underlying25) ?_
 refine W_mkS (z := .int .i64 0) (bytes := 8) c.length hS2 rfl rfl rfl (et rfl) (et rfl) (by omega) Try.underlying25 (by kernel_rfl) (by omega) rfl (fun v5 w5 c5 hc5 hS5 => ?_)
 replace hc5 : c5 = io .i64 v5 (List.replicate c.length (0 : Int)) := hc5.trans (by simp only [io, bo, List.map_replicate, List.length_replicate])
 replace hS5 : St w NoX [c5, c2] w5 := hS5
 refine W_v rfl rfl (V_asg rfl (et rfl)) ?_
 refine W_end (gen_Q fun A6 hA6 => ?_)
 have hsz6 := szq hA6
 have hdf6 := dfE hA6 hdf3
 have l1_6 := ek5 hA6 1 rfl l1_3
 have l3_6 := lookE hA6 3 (et rfl)
 clear hA6 hsz3 hdf3 l1_3
 refine then_n (hK4 _ _ ?_)
 clear hK4
 refine wp_seq_k fun K7 hK7 => ?_
 refine region_in ?_
 refine W_v rfl rfl (V_mov rfl l3_6) ?_
 refine W_v rfl rfl (V_fa (off' := 0) rfl (es rfl l1_6) Try.underlying27 rfl (by decide +kernel) rfl) ?_
 refine W_r rfl rfl (VR_ldC rfl (et rfl) (cell_box (v := cv) (hS5.obj 1 rfl hc2) rfl) Try.underlying25 rfl) ?_
 refine W_copyS 0 hS5 rfl hc5 rfl rfl rfl (e2 rfl (et rfl)) (et rfl) Try.underlying25 (by kernel_rfl) (SlN_cast (sl_SlN (hS5.ro h_cv)) (by simp)) ones_i (fun w8 c8 hc8 hS8 => ?_)
 replace hc8 : c8 = io .i64 v5 c := hc8.trans (by simp [io, bo])
 replace hS8 : St w NoX [c8, c2] w8 := hS8
 refine W_end (gen_Q fun A9 hA9 => ?_)
 have hsz9 := szq hA9
 have hdf9 := dfE hA9 hdf6
 have l3_9 := ek4 hA9 3 rfl l3_6
 clear hA9 hsz6 hdf6 l1_6 l3_6
 have hS10 : St w NoX [c8] w8 := hS8.sel [0] (by decide) rfl
 refine then_n (hK7 _ _ ?_)
 clear hK7
 refine wp_seq_k fun K11 hK11 => ?_
 refine region_in ?_
 refine W_v rfl rfl (V_mov rfl l3_9) ?_
 refine W_v rfl rfl (V_asg rfl (et rfl)) ?_
 refine W_end (gen_Q fun A12 hA12 => ?_)
 have hsz12 := szq hA12
 have hdf12 := dfE hA12 hdf9
 have l2_12 := lookE hA12 2 (et rfl)
 clear hA12 hsz9 hdf9 l3_9
 refine then_n (hK11 _ _ ?_)
 clear hK11
 refine wp_ret ?_
 refine ret_in (results_1 Try.results81 (rv_tmp l2_12)) hdf12 ?_
 exact ⟨_, rfl, (hS10.fin1 0 rfl (hc8))⟩

set_option maxHeartbeats 4000000 in
theorem knew_c  {w : World}   :
  Calls Try.prog 52 #[] w fun e w' => ∃ v, e = .returned (.agg #[v]) ∧ St w NoX [io .i64 (v) (List.replicate 8 (0 : Int))] w' := by
 refine calls_in 3 Try.func52 rfl rfl (by simp) (fun A0 hsz0 hdf0 hargs => ?_)
 clear hargs; replace hsz0 : SzN A0 3 := ⟨hsz0⟩
 have hS := St.nil w
 refine wp_seq_k fun K1 hK1 => ?_
 refine region_in ?_
 refine W_allocS (z := .agg #[.slice none 0 0]) (zs := #[.slice none 0 0]) hS rfl rfl rfl (by kernel_rfl) (by rfl) (fun g2 w2 c2 hc2 hS2 => ?_)
 replace hS2 : St w NoX [c2] w2 := hS2
 refine W_end (gen_Q fun A3 hA3 => ?_)
 have hsz3 := szq hA3
 have hdf3 := dfE hA3 hdf0
 have l0_3 := lookE hA3 0 (et rfl)
 clear hA3 hsz0 hdf0
 refine then_n (hK1 _ _ ?_)
 clear hK1
 refine wp_seq_k fun K4 hK4 => ?_
 refine region_in ?_
 refine W_mkS (z := .int .i64 0) (bytes := 8) 8 hS2 rfl rfl rfl rfl rfl (by omega) Try.underlying25 (by kernel_rfl) (by omega) rfl (fun v5 w5 c5 hc5 hS5 => ?_)
 replace hc5 : c5 = io .i64 v5 (List.replicate 8 (0 : Int)) := hc5.trans (by simp only [io, bo, List.map_replicate, List.length_replicate])
 replace hS5 : St w NoX [c5, c2] w5 := hS5
 refine W_v rfl rfl (V_bldS (n := 1) (z := .agg #[.slice none 0 0]) rfl (parts1 (et rfl)) (by kernel_rfl) (by simp only [List.all_cons, List.all_nil, SlN_one (ow_at (hS5.chq 0 rfl hc5)), Bool.and_true] <;> rfl) (by kernel_rfl) (by simp only [List.foldl_cons, List.foldl_nil, Value.cells, List.setIfInBounds_toArray, List.set_cons_succ, List.set_cons_zero] <;> rfl)) ?_
 refine W_stAS 1 hS5 rfl hc2 rfl rfl rfl (e2 rfl l0_3) (et rfl) (by simp only [List.all_toArray, List.all_cons, List.all_nil, SlN_one (ow_at (hS5.chq 0 rfl hc5))] <;> rfl) (by rfl) (by kernel_rfl) (fun w6 c6 hc6 hS6 => ?_)
 replace hS6 : St w NoX [c5, c6] w6 := hS6
 refine W_end (gen_Q fun A7 hA7 => ?_)
 have hsz7 := szq hA7
 have hdf7 := dfE hA7 hdf3
 have l0_7 := ek2 hA7 0 rfl l0_3
 clear hA7 hsz3 hdf3 l0_3
 refine then_n (hK4 _ _ ?_)
 clear hK4
 refine wp_ret ?_
 refine ret_in (results_1 Try.results52 (rv_cellA l0_7 (hS6.obj 1 rfl hc6) Try.underlying27 rfl (by kernel_rfl))) hdf7 ?_
 exact ⟨_, rfl, (hS6.fin1 0 rfl (hc5))⟩

set_option maxHeartbeats 4000000 in
theorem qnew_c  {w : World}   :
  Calls Try.prog 55 #[] w fun e w' => ∃ v, e = .returned (.agg #[v]) ∧ St w NoX [io .i64 (v) (List.replicate 8 (0 : Int))] w' := by
 refine calls_in 3 Try.func55 rfl rfl (by simp) (fun A0 hsz0 hdf0 hargs => ?_)
 clear hargs; replace hsz0 : SzN A0 3 := ⟨hsz0⟩
 have hS := St.nil w
 refine wp_seq_k fun K1 hK1 => ?_
 refine region_in ?_
 refine W_allocS (z := .agg #[.slice none 0 0]) (zs := #[.slice none 0 0]) hS rfl rfl rfl (by kernel_rfl) (by rfl) (fun g2 w2 c2 hc2 hS2 => ?_)
 replace hS2 : St w NoX [c2] w2 := hS2
 refine W_end (gen_Q fun A3 hA3 => ?_)
 have hsz3 := szq hA3
 have hdf3 := dfE hA3 hdf0
 have l0_3 := lookE hA3 0 (et rfl)
 clear hA3 hsz0 hdf0
 refine then_n (hK1 _ _ ?_)
 clear hK1
 refine wp_seq_k fun K4 hK4 => ?_
 refine region_in ?_
 refine W_mkS (z := .int .i64 0) (bytes := 8) 8 hS2 rfl rfl rfl rfl rfl (by omega) Try.underlying25 (by kernel_rfl) (by omega) rfl (fun v5 w5 c5 hc5 hS5 => ?_)
 replace hc5 : c5 = io .i64 v5 (List.replicate 8 (0 : Int)) := hc5.trans (by simp only [io, bo, List.map_replicate, List.length_replicate])
 replace hS5 : St w NoX [c5, c2] w5 := hS5
 refine W_v rfl rfl (V_bldS (n := 1) (z := .agg #[.slice none 0 0]) rfl (parts1 (et rfl)) (by kernel_rfl) (by simp only [List.all_cons, List.all_nil, SlN_one (ow_at (hS5.chq 0 rfl hc5)), Bool.and_true] <;> rfl) (by kernel_rfl) (by simp only [List.foldl_cons, List.foldl_nil, Value.cells, List.setIfInBounds_toArray, List.set_cons_succ, List.set_cons_zero] <;> rfl)) ?_
 refine W_stAS 1 hS5 rfl hc2 rfl rfl rfl (e2 rfl l0_3) (et rfl) (by simp only [List.all_toArray, List.all_cons, List.all_nil, SlN_one (ow_at (hS5.chq 0 rfl hc5))] <;> rfl) (by rfl) (by kernel_rfl) (fun w6 c6 hc6 hS6 => ?_)
 replace hS6 : St w NoX [c5, c6] w6 := hS6
 refine W_end (gen_Q fun A7 hA7 => ?_)
 have hsz7 := szq hA7
 have hdf7 := dfE hA7 hdf3
 have l0_7 := ek2 hA7 0 rfl l0_3
 clear hA7 hsz3 hdf3 l0_3
 refine then_n (hK4 _ _ ?_)
 clear hK4
 refine wp_ret ?_
 refine ret_in (results_1 Try.results55 (rv_cellA l0_7 (hS6.obj 1 rfl hc6) Try.underlying27 rfl (by kernel_rfl))) hdf7 ?_
 exact ⟨_, rfl, (hS6.fin1 0 rfl (hc5))⟩

set_option maxHeartbeats 4000000 in
theorem ksr1_c {x : Int} {w : World}   :
  Calls Try.prog 100 #[.int .i64 x] w fun e w' => e = .returned (.bool (decide (x ≤ 0))) ∧ St w NoX [] w' := by
 refine calls_in 5 Try.func100 rfl rfl (by simp) (fun A0 hsz0 hdf0 hargs => ?_)
 have l0_0 := hargs 0 (.int .i64 x) rfl
 clear hargs; replace hsz0 : SzN A0 5 := ⟨hsz0⟩
 have hS := St.nil w
 refine wp_seq_k fun K1 hK1 => ?_
 refine region_in ?_
 refine W_v rfl rfl (V_asg rfl rfl) ?_
 refine W_end (gen_Q fun A2 hA2 => ?_)
 have hsz2 := szq hA2
 have hdf2 := dfE hA2 hdf0
 have l0_2 := lookE hA2 0 (es rfl l0_0)
 clear hA2 hsz0 hdf0 l0_0
 refine then_n (hK1 _ _ ?_)
 clear hK1
 refine wp_seq_k fun K3 hK3 => ?_
 refine region_in ?_
 refine W_v rfl rfl (V_mov rfl l0_2) ?_
 refine W_v rfl rfl (V_leq rfl (et rfl) rfl) ?_
 refine W_v rfl rfl (V_asg rfl (et rfl)) ?_
 refine W_end (gen_Q fun A4 hA4 => ?_)
 have hsz4 := szq hA4
 have hdf4 := dfE hA4 hdf2
 have l2_4 := lookE hA4 2 (et rfl)
 clear hA4 hsz2 hdf2 l0_2
 refine then_n (hK3 _ _ ?_)
 clear hK3
 refine wp_ret ?_
 refine ret_in (results_1 Try.results100 (rv_tmp l2_4)) hdf4 ?_
 exact ⟨rfl, hS.fin0⟩

set_option maxHeartbeats 4000000 in
theorem kixs_c {rv : Value} {l : List Int} {w : World} (h_rv : Ro w NoX (il .i64 rv l))  :
  Calls Try.prog 101 #[rv, .func (.func 100) #[] #[]] w fun e w' => e = .returned (.int .i64 (idxF (fun x => decide (x ≤ 0)) l)) ∧ St w NoX [] w' := by
 refine calls_in 19 Try.func101 rfl rfl (by simp) (fun A0 hsz0 hdf0 hargs => ?_)
 have l0_0 := hargs 0 (rv) rfl
 have l1_0 := hargs 1 (.func (.func 100) #[] #[]) rfl
 clear hargs; replace hsz0 : SzN A0 19 := ⟨hsz0⟩
 have hS := St.nil w
 have bh_rv := SlN.le (sl_SlN h_rv.at)
 refine wp_seq_k fun K1 hK1 => ?_
 refine region_in ?_
 refine W_v rfl rfl (V_asg rfl rfl) ?_
 refine W_end (gen_Q fun A2 hA2 => ?_)
 have hsz2 := szq hA2
 have hdf2 := dfE hA2 hdf0
 have l0_2 := lookE hA2 0 (es rfl l0_0)
 have l1_2 := lookE hA2 1 (es rfl l1_0)
 clear hA2 hsz0 hdf0 l0_0 l1_0
 refine then_n (hK1 _ _ ?_)
 clear hK1
 refine wp_seq_k fun K3 hK3 => ?_
 refine wp_seq_k fun K4 hK4 => ?_
 refine region_in ?_
 refine W_v rfl rfl (V_mov rfl l0_2) ?_
 refine W_v rfl rfl (V_lenS rfl (et rfl) (sl_SlN h_rv.at) Try.underlying25) ?_
 refine W_v rfl rfl (V_mov rfl rfl) ?_
 refine W_end (gen_Q fun A5 hA5 => ?_)
 have hsz5 := szq hA5
 have hdf5 := dfE hA5 hdf2
 have l0_5 := ek3 hA5 0 rfl l0_2
 have l1_5 := ek3 hA5 1 rfl l1_2
 have l7_5 := lookE hA5 7 (es rfl (et rfl))
 have l8_5 := lookE hA5 8 (et rfl)
 clear hA5 hsz2 hdf2 l0_2 l1_2
 refine then_n (hK4 _ _ ?_)
 clear hK4
 refine wp_block ?_
 -- loop 2
 refine loopX (fun mz A' w' => SzN A' 19 ∧ A'.defers = [] ∧ (∃ (k : Nat), (mz = l.length - k) ∧ (k ≤ l.length) ∧ (∀ i, i < k → ∀ x, l[i]? = some x → (fun x => decide (x ≤ 0)) x = false) ∧ (EV A' (.tmp 8) = .int .i64 (k : Int)) ∧ (EV A' (.tmp 0) = EV A5 (.tmp 0)) ∧ (EV A' (.tmp 1) = EV A5 (.tmp 1)) ∧ (EV A' (.tmp 7) = EV A5 (.tmp 7)) ∧ (St w NoX [] w'))) (l.length - 0) ⟨hsz5, hdf5, 0, rfl, (Nat.zero_le _), (fun i hi => by omega), ((l8_5).trans (by first | rfl | (simp; done) | (congr 1; omega))), rfl, rfl, rfl, hS⟩ ?_
 clear hS
 rintro n6 A6 w6 ⟨hsz6, hdf6, k, hm6, hk, hz, l8_6, u0_6, u1_6, u7_6, hS6⟩
 have l0_6 := u0_6.trans l0_5
 have l1_6 := u1_6.trans l1_5
 have l7_6 := u7_6.trans l7_5
 refine wp_seq_k fun K7 hK7 => ?_
 refine region_in ?_
 refine W_v rfl rfl (V_lss rfl l8_6 l7_6) ?_
 refine W_end (gen_Q fun A8 hA8 => ?_)
 have hsz8 := szq hA8
 have hdf8 := dfE hA8 hdf6
 have l0_8 := lookE hA8 0 (es rfl l0_6)
 have l1_8 := lookE hA8 1 (es rfl l1_6)
 have l7_8 := lookE hA8 7 (es rfl l7_6)
 have l8_8 := lookE hA8 8 (es rfl l8_6)
 have l9_8 := lookE hA8 9 (et rfl)
 clear hA8 hsz6 hdf6 l8_6 l0_6 l1_6 l7_6
 refine then_n (hK7 _ _ ?_)
 clear hK7
 refine wp_seq_k fun K9 hK9 => ?_
 refine cond_dec l9_8 (fun c10 => ?_) (fun c10 => ?_)
 ·refine wp_skip ?_
  refine then_n (hK9 _ _ ?_)
  clear hK9
  refine wp_seq_k fun K11 hK11 => ?_
  refine wp_block ?_
  refine wp_seq_k fun K12 hK12 => ?_
  refine region_in ?_
  refine W_v rfl rfl (V_mov rfl l8_8) ?_
  refine W_v rfl rfl (V_asg rfl (et rfl)) ?_
  refine W_end (gen_Q fun A13 hA13 => ?_)
  have hsz13 := szq hA13
  have hdf13 := dfE hA13 hdf8
  have l0_13 := ek2 hA13 0 rfl l0_8
  have l1_13 := ek2 hA13 1 rfl l1_8
  have l5_13 := lookE hA13 5 (et rfl)
  have l7_13 := ek2 hA13 7 rfl l7_8
  have l8_13 := ek2 hA13 8 rfl l8_8
  clear hA13 hsz8 hdf8 l0_8 l1_8 l7_8 l8_8 l9_8
  refine then_n (hK12 _ _ ?_)
  clear hK12
  refine wp_seq_k fun K14 hK14 => ?_
  refine region_in ?_
  refine W_v rfl rfl (V_mov rfl l1_13) ?_
  refine W_v rfl rfl (V_mov rfl (es rfl l0_13)) ?_
  refine W_v rfl rfl (V_mov rfl (e2 rfl l5_13)) ?_
  have k15 : k < l.length := by first | omega | (simp only [List.length_cons, List.length_nil]; omega) | (simp only [List.length_set]; omega) | decide
  obtain ⟨y15, hy15⟩ := get_some (xs := l) (k := k) k15
  obtain ⟨B15, O15, C15, hv15⟩ := (SlN.blk (sl_SlN h_rv.at) (by first | omega | (simp only [List.length_cons, List.length_nil]; omega) | (simp only [List.length_set]; omega) | decide))
  refine W_v rfl rfl (V_ixS (off := O15 + k) 1 (k) rfl (es rfl (et rfl)) (et rfl) hv15 (by omega) k15 Try.underlying25 (by kernel_rfl) (congrArg _ (Nat.mul_one _))) ?_
  refine W_r rfl rfl (VR_ldC rfl (et rfl) ((sl_SlN (hS6.ro h_rv)).cell hv15 (map_get hy15)) Try.underlying3 rfl) ?_
  refine W_callV rfl rfl rfl (e4 rfl (et rfl)) Try.func100 (by kernel_rfl) rfl (args1 (et rfl)) (ksr1_c (x := y15)  ) ?_
  rintro _ w16 ⟨rfl, hP16⟩
  refine ⟨_, rfl, ?_⟩
  have hS16 := hS6.join hP16
  replace hS16 : St w NoX [] w16 := hS16
  refine W_end (gen_Q fun A17 hA17 => ?_)
  have hsz17 := szq hA17
  have hdf17 := dfE hA17 hdf13
  have l0_17 := ek6 hA17 0 rfl l0_13
  have l1_17 := ek6 hA17 1 rfl l1_13
  have l5_17 := ek6 hA17 5 rfl l5_13
  have l7_17 := ek6 hA17 7 rfl l7_13
  have l8_17 := ek6 hA17 8 rfl l8_13
  have l16_17 := lookE hA17 16 (et rfl)
  clear hA17 hsz13 hdf13 l0_13 l1_13 l5_13 l7_13 l8_13
  refine then_n (hK14 _ _ ?_)
  clear hK14
  refine cond_dec l16_17 (fun c18 => ?_) (fun c18 => ?_)
  ·refine wp_seq_k fun K19 hK19 => ?_
   refine region_in ?_
   refine W_v rfl rfl (V_mov rfl l5_17) ?_
   refine W_v rfl rfl (V_asg rfl (et rfl)) ?_
   refine W_end (gen_Q fun A20 hA20 => ?_)
   have hsz20 := szq hA20
   have hdf20 := dfE hA20 hdf17
   have l4_20 := lookE hA20 4 (et rfl)
   clear hA20 hsz17 hdf17 l0_17 l1_17 l5_17 l7_17 l8_17 l16_17
   refine then_n (hK19 _ _ ?_)
   clear hK19
   refine wp_ret ?_
   refine inb_ret ?_
   refine then_ret ?_
   refine then_ret ?_
   refine inb_ret ?_
   refine then_ret ?_
   refine ret_in (results_1 Try.results101 (rv_tmp l4_20)) hdf20 ?_
   have e0 : idxF (fun x => decide (x ≤ 0)) l = (k : Int) := by exact idxF_at hz hy15 (show (fun x => decide (x ≤ 0)) y15 = true by have hc := c18; first | simpa using hc | (simp at hc ⊢; omega))
   rw [e0]
   exact ⟨rfl, hS16.fin0⟩
  ·refine wp_skip ?_
   refine inb_n ?_
   refine then_n (hK11 _ _ ?_)
   clear hK11
   refine region_in ?_
   refine W_v rfl rfl (V_add rfl l8_17 rfl (by omega) (by omega)) ?_
   refine W_v rfl rfl (V_mov rfl (et rfl)) ?_
   refine W_end (gen_Q fun A21 hA21 => ?_)
   have hsz21 := szq hA21
   have hdf21 := dfE hA21 hdf17
   have l0_21 := ek2 hA21 0 rfl l0_17
   have l1_21 := ek2 hA21 1 rfl l1_17
   have l7_21 := ek2 hA21 7 rfl l7_17
   have l8_21 := lookE hA21 8 (et rfl)
   clear hA21 hsz17 hdf17 l0_17 l1_17 l5_17 l7_17 l8_17 l16_17
   refine then_n ⟨l.length - (k + 1), by simp only [hm6]; omega, hsz21, hdf21, (k + 1), rfl, (by omega), (no_step hz hy15 (show (fun x => decide (x ≤ 0)) y15 = false by have hc := c18; first | simpa using hc | (simp at hc ⊢; omega))), ((l8_21).trans (by first | rfl | (simp; done) | (congr 1; omega))), ((l0_21).trans l0_5.symm), ((l1_21).trans l1_5.symm), ((l7_21).trans l7_5.symm), hS16⟩
 ·refine wp_exit ?_
  refine then_exit ?_
  refine then_exit ?_
  refine inb_hit ?_
  refine then_n (hK3 _ _ ?_)
  clear hK3
  refine wp_seq_k fun K22 hK22 => ?_
  refine region_in ?_
  refine W_v rfl rfl (V_asg rfl rfl) ?_
  refine W_end (gen_Q fun A23 hA23 => ?_)
  have hsz23 := szq hA23
  have hdf23 := dfE hA23 hdf8
  have l4_23 := lookE hA23 4 (et rfl)
  clear hA23 hsz8 hdf8 l0_8 l1_8 l7_8 l8_8 l9_8
  refine then_n (hK22 _ _ ?_)
  clear hK22
  refine wp_ret ?_
  refine ret_in (results_1 Try.results101 (rv_tmp l4_23)) hdf23 ?_
  have e0 : idxF (fun x => decide (x ≤ 0)) l = (-1) := by exact idxF_no (fun i hi x hx => hz i (by omega) x hx)
  rw [e0]
  exact ⟨rfl, hS6.fin0⟩

set_option maxHeartbeats 4000000 in
theorem kdls_c {v : Value} {l : List Int} {w : World} {Y : Nat → Prop}  (hS : St w Y [io .i64 v l] w)  :
  Calls Try.prog 76 #[v, .func (.func 100) #[] #[]] w fun e w' => ∃ u, e = .returned (u) ∧ (capS u = capS v) ∧ St w Y [io .i64 (u) (fl (fun x => decide (x ≤ 0)) l)] w' := by
 refine calls_in 42 Try.func76 rfl rfl (by simp) (fun A0 hsz0 hdf0 hargs => ?_)
 have l0_0 := hargs 0 (v) rfl
 have l1_0 := hargs 1 (.func (.func 100) #[] #[]) rfl
 clear hargs; replace hsz0 : SzN A0 42 := ⟨hsz0⟩
 obtain ⟨m_v, hm_v, hS⟩ := gen1 hS
 replace hS : St w Y [m_v] w := hS
 have bm_v := SlN.le (ow_at (hS.chq 0 rfl hm_v))
 refine wp_seq_k fun K1 hK1 => ?_
 refine region_in ?_
 refine W_v rfl rfl (V_asg rfl rfl) ?_
 refine W_end (gen_Q fun A2 hA2 => ?_)
 have hsz2 := szq hA2
 have hdf2 := dfE hA2 hdf0
 have l0_2 := lookE hA2 0 (es rfl l0_0)
 have l1_2 := lookE hA2 1 (es rfl l1_0)
 clear hA2 hsz0 hdf0 l0_0 l1_0
 refine then_n (hK1 _ _ ?_)
 clear hK1
 refine wp_seq_k fun K3 hK3 => ?_
 refine region_in ?_
 refine W_v rfl rfl (V_mov rfl l0_2) ?_
 refine W_v rfl rfl (V_mov rfl (es rfl l1_2)) ?_
 refine W_call rfl rfl rfl Try.func101 (by kernel_rfl) rfl (args2 (es rfl (et rfl)) (et rfl)) (kixs_c (hS.chC 0 rfl hm_v).own ) ?_
 rintro _ w4 ⟨rfl, hP4⟩
 refine ⟨_, rfl, ?_⟩
 have hS4 := hS.join hP4
 replace hS4 : St w Y [m_v] w4 := hS4
 refine W_v rfl rfl (V_asg rfl (et rfl)) ?_
 refine W_end (gen_Q fun A5 hA5 => ?_)
 have hsz5 := szq hA5
 have hdf5 := dfE hA5 hdf2
 have l0_5 := ek4 hA5 0 rfl l0_2
 have l1_5 := ek4 hA5 1 rfl l1_2
 have l5_5 := lookE hA5 5 (et rfl)
 clear hA5 hsz2 hdf2 l0_2 l1_2
 refine then_n (hK3 _ _ ?_)
 clear hK3
 refine wp_seq_k fun K6 hK6 => ?_
 refine wp_seq_k fun K7 hK7 => ?_
 refine region_in ?_
 refine W_v rfl rfl (V_mov rfl l5_5) ?_
 refine W_v rfl rfl (V_eql rfl (et rfl) rfl) ?_
 refine W_end (gen_Q fun A8 hA8 => ?_)
 have hsz8 := szq hA8
 have hdf8 := dfE hA8 hdf5
 have l0_8 := ek2 hA8 0 rfl l0_5
 have l1_8 := ek2 hA8 1 rfl l1_5
 have l5_8 := ek2 hA8 5 rfl l5_5
 have l12_8 := lookE hA8 12 (et rfl)
 clear hA8 hsz5 hdf5 l0_5 l1_5 l5_5
 refine then_n (hK7 _ _ ?_)
 clear hK7
 refine cond_dec l12_8 (fun c9 => ?_) (fun c9 => ?_)
 ·refine wp_seq_k fun K10 hK10 => ?_
  refine region_in ?_
  refine W_v rfl rfl (V_mov rfl l0_8) ?_
  refine W_v rfl rfl (V_asg rfl (et rfl)) ?_
  refine W_end (gen_Q fun A11 hA11 => ?_)
  have hsz11 := szq hA11
  have hdf11 := dfE hA11 hdf8
  have l4_11 := lookE hA11 4 (et rfl)
  clear hA11 hsz8 hdf8 l0_8 l1_8 l5_8 l12_8
  refine then_n (hK10 _ _ ?_)
  clear hK10
  refine wp_ret ?_
  refine then_ret ?_
  refine ret_in (results_1 Try.results76 (rv_tmp l4_11)) hdf11 ?_
  exact ⟨_, rfl, rfl, (hS4.fin1 0 rfl (hm_v.trans (congrArg (io .i64 _) (fl_no c9))))⟩
 ·obtain ⟨k0, y0, hk0, hy0, hpy0, hn0⟩ := idxF_spec (p := (fun x => decide (x ≤ 0))) c9
  have h0 := df_init hy0 hpy0 hn0
  have hk0l := (List.getElem?_eq_some_iff.1 hy0).1
  refine wp_skip ?_
  refine then_n (hK6 _ _ ?_)
  clear hK6
  refine wp_seq_k fun K12 hK12 => ?_
  refine wp_seq_k fun K13 hK13 => ?_
  refine region_in ?_
  refine W_v rfl rfl (V_mov rfl l5_8) ?_
  refine W_v rfl rfl (V_add rfl (et rfl) rfl (by omega) (by omega)) ?_
  refine W_v rfl rfl (V_asg rfl (et rfl)) ?_
  refine W_end (gen_Q fun A14 hA14 => ?_)
  have hsz14 := szq hA14
  have hdf14 := dfE hA14 hdf8
  have l0_14 := ek3 hA14 0 rfl l0_8
  have l1_14 := ek3 hA14 1 rfl l1_8
  have l5_14 := ek3 hA14 5 rfl l5_8
  have l6_14 := lookE hA14 6 (et rfl)
  clear hA14 hsz8 hdf8 l0_8 l1_8 l5_8 l12_8
  refine then_n (hK13 _ _ ?_)
  clear hK13
  refine wp_block ?_
  -- loop 5
  refine loopX (fun mz A' w' => SzN A' 42 ∧ A'.defers = [] ∧ (∃ (j : Nat) (gar : List Int), (mz = l.length - j) ∧ (j ≤ l.length) ∧ ((fl (fun x => decide (x ≤ 0)) (l.take j)).length + gar.length = j) ∧ ((dfD (fun x => decide (x ≤ 0)) l gar j).length = l.length) ∧ (EV A' (.tmp 6) = .int .i64 (j : Int)) ∧ (EV A' (.tmp 5) = .int .i64 ((fl (fun x => decide (x ≤ 0)) (l.take j)).length : Int)) ∧ (EV A' (.tmp 0) = EV A14 (.tmp 0)) ∧ (EV A' (.tmp 1) = EV A14 (.tmp 1)) ∧ (St w Y [io .i64 v (dfD (fun x => decide (x ≤ 0)) l gar j)] w'))) (l.length - (k0 + 1)) ⟨hsz14, hdf14, (k0 + 1), [y0], rfl, (by omega), (by rw [h0.2]; rfl), (by rw [← h0.1]), ((l6_14).trans ((by rw [hk0]; rfl))), ((l5_14).trans ((by rw [h0.2, hk0]))), rfl, rfl, (by have q0 : m_v = io .i64 v (dfD (fun x => decide (x ≤ 0)) l [y0] (k0 + 1)) := hm_v.trans ((congrArg (io .i64 _) h0.1)); subst q0; exact hS4)⟩ ?_
  clear hS4 hm_v
  rintro n15 A15 w15 ⟨hsz15, hdf15, j, gar, hm15, hj, hgl, hdl, l6_15, l5_15, u0_15, u1_15, hS15⟩
  have l0_15 := u0_15.trans l0_14
  have l1_15 := u1_15.trans l1_14
  obtain ⟨m_v_15, hm_v_15, hS15⟩ := gen1 hS15
  refine wp_seq_k fun K16 hK16 => ?_
  refine wp_seq_k fun K17 hK17 => ?_
  refine region_in ?_
  refine W_v rfl rfl (V_mov rfl l6_15) ?_
  refine W_v rfl rfl (V_mov rfl (es rfl l0_15)) ?_
  refine W_v rfl rfl (V_lenS rfl (et rfl) (ow_at (hS15.chq 0 rfl hm_v_15)) Try.underlying25) ?_
  refine W_v rfl rfl (V_lss rfl (e2 rfl (et rfl)) (et rfl)) ?_
  refine W_end (gen_Q fun A18 hA18 => ?_)
  have hsz18 := szq hA18
  have hdf18 := dfE hA18 hdf15
  have l0_18 := ek4 hA18 0 rfl l0_15
  have l1_18 := ek4 hA18 1 rfl l1_15
  have l5_18 := ek4 hA18 5 rfl l5_15
  have l6_18 := ek4 hA18 6 rfl l6_15
  have l19_18 := lookE hA18 19 (et rfl)
  clear hA18 hsz15 hdf15 l6_15 l5_15 l0_15 l1_15
  refine then_n (hK17 _ _ ?_)
  clear hK17
  refine cond_dec l19_18 (fun c19 => ?_) (fun c19 => ?_)
  ·refine wp_skip ?_
   refine then_n (hK16 _ _ ?_)
   clear hK16
   refine wp_seq_k fun K20 hK20 => ?_
   refine wp_block ?_
   refine wp_seq_k fun K21 hK21 => ?_
   refine region_in ?_
   refine W_v rfl rfl (V_mov rfl l0_18) ?_
   refine W_v rfl rfl (V_mov rfl (es rfl l6_18)) ?_
   have k22 : j < (dfD (fun x => decide (x ≤ 0)) l gar j).length := by first | omega | (simp only [List.length_cons, List.length_nil]; omega) | (simp only [List.length_set]; omega) | decide
   obtain ⟨y22, hy22⟩ := get_some (xs := (dfD (fun x => decide (x ≤ 0)) l gar j)) (k := j) k22
   have hq22 := df_get hgl hy22
   obtain ⟨B22, O22, C22, hv22⟩ := (SlN.blk (ow_at (hS15.chq 0 rfl hm_v_15)) (by first | omega | (simp only [List.length_cons, List.length_nil]; omega) | (simp only [List.length_set]; omega) | decide))
   refine W_v rfl rfl (V_ixS (off := O22 + j) 1 (j) rfl (es rfl (et rfl)) (et rfl) hv22 (by omega) k22 Try.underlying25 (by kernel_rfl) (congrArg _ (Nat.mul_one _))) ?_
   refine W_r rfl rfl (VR_ldC rfl (et rfl) ((ow_at (hS15.chq 0 rfl hm_v_15)).cell hv22 (map_get hy22)) Try.underlying3 rfl) ?_
   refine W_v rfl rfl (V_asg rfl (et rfl)) ?_
   refine W_end (gen_Q fun A23 hA23 => ?_)
   have hsz23 := szq hA23
   have hdf23 := dfE hA23 hdf18
   have l0_23 := ek5 hA23 0 rfl l0_18
   have l1_23 := ek5 hA23 1 rfl l1_18
   have l5_23 := ek5 hA23 5 rfl l5_18
   have l6_23 := ek5 hA23 6 rfl l6_18
   have l7_23 := lookE hA23 7 (et rfl)
   clear hA23 hsz18 hdf18 l0_18 l1_18 l5_18 l6_18 l19_18
   refine then_n (hK21 _ _ ?_)
   clear hK21
   refine wp_seq_k fun K24 hK24 => ?_
   refine region_in ?_
   refine W_v rfl rfl (V_mov rfl l1_23) ?_
   refine W_v rfl rfl (V_mov rfl (es rfl l7_23)) ?_
   refine W_callV rfl rfl rfl (es rfl (et rfl)) Try.func100 (by kernel_rfl) rfl (args1 (et rfl)) (ksr1_c (x := y22)  ) ?_
   rintro _ w25 ⟨rfl, hP25⟩
   refine ⟨_, rfl, ?_⟩
   have hS25 := hS15.join hP25
   replace hS25 : St w Y [m_v_15] w25 := hS25
   refine W_v rfl rfl (V_notd rfl (et rfl)) ?_
   refine W_end (gen_Q fun A26 hA26 => ?_)
   have hsz26 := szq hA26
   have hdf26 := dfE hA26 hdf23
   have l0_26 := ek4 hA26 0 rfl l0_23
   have l1_26 := ek4 hA26 1 rfl l1_23
   have l5_26 := ek4 hA26 5 rfl l5_23
   have l6_26 := ek4 hA26 6 rfl l6_23
   have l7_26 := ek4 hA26 7 rfl l7_23
   have l29_26 := lookE hA26 29 (et rfl)
   clear hA26 hsz23 hdf23 l0_23 l1_23 l5_23 l6_23 l7_23
   refine then_n (hK24 _ _ ?_)
   clear hK24
   refine cond_dec l29_26 (fun c27 => ?_) (fun c27 => ?_)
   ·refine wp_seq_k fun K28 hK28 => ?_
    refine region_in ?_
    refine W_v rfl rfl (V_mov rfl l0_26) ?_
    refine W_v rfl rfl (V_mov rfl (es rfl l5_26)) ?_
    refine W_v rfl rfl (V_mov rfl (e2 rfl l7_26)) ?_
    have k29 : (fl (fun x => decide (x ≤ 0)) (l.take j)).length < (dfD (fun x => decide (x ≤ 0)) l gar j).length := by first | omega | (simp only [List.length_cons, List.length_nil]; omega) | (simp only [List.length_set]; omega) | decide
    obtain ⟨y29, hy29⟩ := get_some (xs := (dfD (fun x => decide (x ≤ 0)) l gar j)) (k := (fl (fun x => decide (x ≤ 0)) (l.take j)).length) k29
    refine W_v rfl rfl (V_ixS (off := O22 + ((fl (fun x => decide (x ≤ 0)) (l.take j)).length)) 1 ((fl (fun x => decide (x ≤ 0)) (l.take j)).length) rfl (e2 rfl (et rfl)) (es rfl (et rfl)) hv22 (by omega) k29 Try.underlying25 (by kernel_rfl) (congrArg _ (Nat.mul_one _))) ?_
    refine W_stE 0 hS25 rfl hm_v_15 hv22 rfl rfl rfl (et rfl) (es rfl (et rfl)) (by rfl) rfl (by first | (simp only [List.length_map]; omega) | omega) (by kernel_rfl) (fun w30 c30 hc30 hS30 => ?_)
    replace hc30 : c30 = io .i64 v ((dfD (fun x => decide (x ≤ 0)) l gar j).set ((fl (fun x => decide (x ≤ 0)) (l.take j)).length) y22) := hc30.trans (by simp [io, bo, List.map_set] <;> rfl)
    replace hS30 : St w Y [c30] w30 := hS30
    refine W_end (gen_Q fun A31 hA31 => ?_)
    have hsz31 := szq hA31
    have hdf31 := dfE hA31 hdf26
    have l0_31 := ek4 hA31 0 rfl l0_26
    have l1_31 := ek4 hA31 1 rfl l1_26
    have l5_31 := ek4 hA31 5 rfl l5_26
    have l6_31 := ek4 hA31 6 rfl l6_26
    clear hA31 hsz26 hdf26 l0_26 l1_26 l5_26 l6_26 l7_26 l29_26
    refine then_n (hK28 _ _ ?_)
    clear hK28
    refine region_in ?_
    refine W_v rfl rfl (V_mov rfl l5_31) ?_
    refine W_v rfl rfl (V_add rfl (et rfl) rfl (by omega) (by omega)) ?_
    refine W_v rfl rfl (V_asg rfl (et rfl)) ?_
    refine W_end (gen_Q fun A32 hA32 => ?_)
    have hsz32 := szq hA32
    have hdf32 := dfE hA32 hdf31
    have l0_32 := ek3 hA32 0 rfl l0_31
    have l1_32 := ek3 hA32 1 rfl l1_31
    have l5_32 := lookE hA32 5 (et rfl)
    have l6_32 := ek3 hA32 6 rfl l6_31
    clear hA32 hsz31 hdf31 l0_31 l1_31 l5_31 l6_31
    refine inb_n ?_
    refine then_n (hK20 _ _ ?_)
    clear hK20
    refine region_in ?_
    refine W_v rfl rfl (V_mov rfl l6_32) ?_
    refine W_v rfl rfl (V_add rfl (et rfl) rfl (by omega) (by omega)) ?_
    refine W_v rfl rfl (V_asg rfl (et rfl)) ?_
    refine W_end (gen_Q fun A33 hA33 => ?_)
    have hsz33 := szq hA33
    have hdf33 := dfE hA33 hdf32
    have l0_33 := ek3 hA33 0 rfl l0_32
    have l1_33 := ek3 hA33 1 rfl l1_32
    have l5_33 := ek3 hA33 5 rfl l5_32
    have l6_33 := lookE hA33 6 (et rfl)
    clear hA33 hsz32 hdf32 l0_32 l1_32 l5_32 l6_32
    refine then_n ⟨l.length - (j + 1), by simp only [hm15]; omega, hsz33, hdf33, (j + 1), (gar ++ [y22]).tail, rfl, (by omega), (df_keep hgl hq22 (show (fun x => decide (x ≤ 0)) y22 = false by have hc := c27; first | simpa using hc | (simp at hc ⊢; omega))).2.2, (dfD_len (by omega) (df_keep hgl hq22 (show (fun x => decide (x ≤ 0)) y22 = false by have hc := c27; first | simpa using hc | (simp at hc ⊢; omega))).2.2), ((l6_33).trans (by first | rfl | (simp; done) | (congr 1; omega))), ((l5_33).trans ((by rw [(df_keep hgl hq22 (show (fun x => decide (x ≤ 0)) y22 = false by have hc := c27; first | simpa using hc | (simp at hc ⊢; omega))).2.1] <;> first | rfl | (congr 1; omega)))), ((l0_33).trans l0_14.symm), ((l1_33).trans l1_14.symm), (by have q0 : c30 = io .i64 v (dfD (fun x => decide (x ≤ 0)) l ((gar ++ [y22]).tail) (j + 1)) := hc30.trans ((congrArg (io .i64 _) (df_keep hgl hq22 (show (fun x => decide (x ≤ 0)) y22 = false by have hc := c27; first | simpa using hc | (simp at hc ⊢; omega))).1)); subst q0; exact hS30)⟩
   ·refine wp_skip ?_
    refine inb_n ?_
    refine then_n (hK20 _ _ ?_)
    clear hK20
    refine region_in ?_
    refine W_v rfl rfl (V_mov rfl l6_26) ?_
    refine W_v rfl rfl (V_add rfl (et rfl) rfl (by omega) (by omega)) ?_
    refine W_v rfl rfl (V_asg rfl (et rfl)) ?_
    refine W_end (gen_Q fun A34 hA34 => ?_)
    have hsz34 := szq hA34
    have hdf34 := dfE hA34 hdf26
    have l0_34 := ek3 hA34 0 rfl l0_26
    have l1_34 := ek3 hA34 1 rfl l1_26
    have l5_34 := ek3 hA34 5 rfl l5_26
    have l6_34 := lookE hA34 6 (et rfl)
    clear hA34 hsz26 hdf26 l0_26 l1_26 l5_26 l6_26 l7_26 l29_26
    refine then_n ⟨l.length - (j + 1), by simp only [hm15]; omega, hsz34, hdf34, (j + 1), (gar ++ [y22]), rfl, (by omega), (df_drop hgl hq22 (show (fun x => decide (x ≤ 0)) y22 = true by have hc := c27; first | simpa using hc | (simp at hc ⊢; omega))).2.2, (dfD_len (by omega) (df_drop hgl hq22 (show (fun x => decide (x ≤ 0)) y22 = true by have hc := c27; first | simpa using hc | (simp at hc ⊢; omega))).2.2), ((l6_34).trans (by first | rfl | (simp; done) | (congr 1; omega))), ((l5_34).trans ((by rw [(df_drop hgl hq22 (show (fun x => decide (x ≤ 0)) y22 = true by have hc := c27; first | simpa using hc | (simp at hc ⊢; omega))).2.1] <;> first | rfl | (congr 1; omega)))), ((l0_34).trans l0_14.symm), ((l1_34).trans l1_14.symm), (by have q0 : m_v_15 = io .i64 v (dfD (fun x => decide (x ≤ 0)) l (gar ++ [y22]) (j + 1)) := hm_v_15.trans ((congrArg (io .i64 _) (df_drop hgl hq22 (show (fun x => decide (x ≤ 0)) y22 = true by have hc := c27; first | simpa using hc | (simp at hc ⊢; omega))).1)); subst q0; exact hS25)⟩
  ·refine wp_exit ?_
   refine then_exit ?_
   refine then_exit ?_
   refine inb_hit ?_
   refine then_n (hK12 _ _ ?_)
   clear hK12
   refine wp_seq_k fun K35 hK35 => ?_
   refine region_in ?_
   refine W_v rfl rfl (V_mov rfl l0_18) ?_
   refine W_v rfl rfl (V_mov rfl (es rfl l5_18)) ?_
   have k36 : (fl (fun x => decide (x ≤ 0)) (l.take j)).length ≤ (dfD (fun x => decide (x ≤ 0)) l gar j).length := by omega
   have m36 : (dfD (fun x => decide (x ≤ 0)) l gar j).length ≤ (dfD (fun x => decide (x ≤ 0)) l gar j).length := by omega
   refine W_v rfl rfl (V_subS 1 ((fl (fun x => decide (x ≤ 0)) (l.take j)).length) ((dfD (fun x => decide (x ≤ 0)) l gar j).length) rfl (es rfl (et rfl)) (.inr ⟨_, _, rfl, (et rfl), by omega⟩) (.inl ⟨rfl, rfl⟩) Try.underlying25 (by kernel_rfl) (ow_at (hS15.chq 0 rfl hm_v_15)) k36 m36) ?_
   refine W_clearS (z := .int .i64 0) 0 ((fl (fun x => decide (x ≤ 0)) (l.take j)).length) hS15 rfl hm_v_15 (by omega) rfl rfl rfl (et rfl) Try.underlying25 (by kernel_rfl) rfl rfl (fun w37 c37 hc37 hS37 => ?_)
   replace hc37 : c37 = io .i64 v ((dfD (fun x => decide (x ≤ 0)) l gar j).take ((fl (fun x => decide (x ≤ 0)) (l.take j)).length) ++ List.replicate ((dfD (fun x => decide (x ≤ 0)) l gar j).length - ((fl (fun x => decide (x ≤ 0)) (l.take j)).length)) (0 : Int)) := hc37.trans (clr_eq (by omega))
   have hcl37 : ((dfD (fun x => decide (x ≤ 0)) l gar j).take ((fl (fun x => decide (x ≤ 0)) (l.take j)).length) ++ List.replicate ((dfD (fun x => decide (x ≤ 0)) l gar j).length - ((fl (fun x => decide (x ≤ 0)) (l.take j)).length)) (0 : Int)).length = (dfD (fun x => decide (x ≤ 0)) l gar j).length := by rw [List.length_append, List.length_take, List.length_replicate]; omega
   replace hS37 : St w Y [c37] w37 := hS37
   refine W_end (gen_Q fun A38 hA38 => ?_)
   have hsz38 := szq hA38
   have hdf38 := dfE hA38 hdf18
   have l0_38 := ek3 hA38 0 rfl l0_18
   have l5_38 := ek3 hA38 5 rfl l5_18
   clear hA38 hsz18 hdf18 l0_18 l1_18 l5_18 l6_18 l19_18
   refine then_n (hK35 _ _ ?_)
   clear hK35
   refine wp_seq_k fun K39 hK39 => ?_
   refine region_in ?_
   refine W_v rfl rfl (V_mov rfl l0_38) ?_
   refine W_v rfl rfl (V_mov rfl (es rfl l5_38)) ?_
   have k40 : 0 ≤ (fl (fun x => decide (x ≤ 0)) (l.take j)).length := by omega
   have m40 : (fl (fun x => decide (x ≤ 0)) (l.take j)).length ≤ ((dfD (fun x => decide (x ≤ 0)) l gar j).take ((fl (fun x => decide (x ≤ 0)) (l.take j)).length) ++ List.replicate ((dfD (fun x => decide (x ≤ 0)) l gar j).length - ((fl (fun x => decide (x ≤ 0)) (l.take j)).length)) (0 : Int)).length := by omega
   obtain ⟨c40, hc40, hS40⟩ := hS37.sub 0 rfl hc37 (0) ((fl (fun x => decide (x ≤ 0)) (l.take j)).length) k40 m40
   replace hc40 : c40 = io .i64 (subS 1 v 0 ((fl (fun x => decide (x ≤ 0)) (l.take j)).length)) (((dfD (fun x => decide (x ≤ 0)) l gar j).take ((fl (fun x => decide (x ≤ 0)) (l.take j)).length) ++ List.replicate ((dfD (fun x => decide (x ≤ 0)) l gar j).length - ((fl (fun x => decide (x ≤ 0)) (l.take j)).length)) (0 : Int)).take ((fl (fun x => decide (x ≤ 0)) (l.take j)).length)) := hc40.trans (part_eq k40 m40 (by first | (simp; done) | exact List.take_of_length_le (by rw [List.length_drop]; omega)))
   replace hS40 : St w Y [c40] w37 := hS40
   refine W_v rfl rfl (V_subS 1 (0) ((fl (fun x => decide (x ≤ 0)) (l.take j)).length) rfl (es rfl (et rfl)) (.inl ⟨rfl, rfl⟩) (.inr ⟨_, _, rfl, (et rfl), by omega⟩) Try.underlying25 (by kernel_rfl) (ow_at (hS37.chq 0 rfl hc37)) k40 m40) ?_
   refine W_v rfl rfl (V_asg rfl (et rfl)) ?_
   refine W_end (gen_Q fun A41 hA41 => ?_)
   have hsz41 := szq hA41
   have hdf41 := dfE hA41 hdf38
   have l4_41 := lookE hA41 4 (et rfl)
   clear hA41 hsz38 hdf38 l0_38 l5_38
   refine then_n (hK39 _ _ ?_)
   clear hK39
   refine wp_ret ?_
   refine ret_in (results_1 Try.results76 (rv_tmp l4_41)) hdf41 ?_
   exact ⟨_, rfl, capS_sub _ _, (hS40.fin1 0 rfl (hc40.trans (congrArg (io .i64 _) (df_end (by omega) rfl))))⟩

end Go.Proofs.Yteppjefmlibmoaa