import Derived.Test.YteppjefmlibmoaaProg
import Derived.Test.YteppjefmlibmoaaPl7c
import Derived.Test.YteppjefmlibmoaaSepE
import Derived.Test.YteppjefmlibmoaaSepQ
namespace Go.Proofs.Yteppjefmlibmoaa
open Go.RowKit Go.Own Go.Own.R Go.Own.S


set_option maxHeartbeats 4000000 in
theorem kpath_it {g0 : Nat} {g1 : Nat} {v : Value} {c : List Int} {a : Int} {Rd : World → Prop} (hRd : ∀ W, Rd W → (bx g0 3 #[.int .i64 a]).at W ∧ (bx g1 25 #[v]).at W ∧ (il .i64 v c).at W) (hp : P2 c.length) (ha : 1 ≤ a ∧ a ≤ 1600) :
  Iter (α := Int × Int) Try.prog 98 #[.pointer (some ⟨g0, 0, none⟩), .pointer (some ⟨g1, 0, none⟩)] encP (·= pthL c a) (·<+: pthL c a) (·<+: pthL c a) Rd := by
 have hpb := hp.bd
 intro l wb X cs ij J Jx w hij hR hY hS
 obtain ⟨hS, hback⟩ := hS.front hij
 clear hij
 generalize cs.eraseIdx ij = rest at hS hback
 obtain ⟨cj, hcj⟩ : ∃ c, c = J [] := ⟨_, rfl⟩
 rw [← hcj] at hS
 refine calls_inR 37 Try.func98 rfl rfl (by simp) (fun A0 Y0 hdf0 hargs => ?_)
 have l0_0 := hargs 0 (.func (.yield l) #[] #[]) rfl
 have l1_0 := hargs 1 (.pointer (some ⟨g0, 0, none⟩)) rfl
 have l2_0 := hargs 2 (.pointer (some ⟨g1, 0, none⟩)) rfl
 clear hargs; replace Y0 : SzN A0 37 := ⟨Y0⟩
 have bh_v := SlN.le (sl_SlN (hRd _ (hR _ _ _ 0 hS (congrArg some hcj))).2.2)
 refine R_seq (fun K1 H1 => ?_)
 refine R_region (by kernel_rfl) ?_
 refine W_r rfl rfl (VR_ldC rfl l1_0 (cell_box (v := .int .i64 (a)) (ob_at (hRd _ (hR _ _ _ 0 hS (congrArg some hcj))).1) rfl) Try.underlying3 rfl) ?_
 refine W_v rfl rfl (V_mul rfl (et rfl) rfl (by omega) (by omega)) ?_
 refine W_r rfl rfl (VR_ldC rfl (es2 rfl l2_0) (cell_box (v := v) (ob_at (hRd _ (hR _ _ _ 0 hS (congrArg some hcj))).2.1) rfl) Try.underlying25 rfl) ?_
 refine W_v rfl rfl (V_lenS rfl (et rfl) (sl_SlN (hRd _ (hR _ _ _ 0 hS (congrArg some hcj))).2.2) Try.underlying25) ?_
 refine W_v rfl rfl (V_sb rfl (et rfl) rfl (by omega) (by omega)) ?_
 refine W_v rfl rfl (V_and rfl (es3 rfl (et rfl)) (et rfl) (by omega) (by omega) (and_ps0 hp a)) ?_
 refine W_v rfl rfl (V_asg rfl (et rfl)) ?_
 refine W_end ?_
 refine Qo_normal ?_
 refine gen_Q (fun A2 E2 => ?_)
 have Y2 := szq E2
 have F2 := ((fsE E2 (ck (cq6 (FS.n hdf0) rfl) rfl rfl)).c (lookE E2 0 (es7 rfl l0_0))).c (lookE E2 2 (es7 rfl l2_0))
 clear E2 Y0 hdf0 l0_0 l1_0 l2_0
 refine tk H1 ?_
 refine R_seq (fun K3 H3 => ?_)
 refine R_region (by kernel_rfl) ?_
 refine W_r rfl rfl (VR_ldC rfl (fg0 F2) (cell_box (v := v) (ob_at (hRd _ (hR _ _ _ 0 hS (congrArg some hcj))).2.1) rfl) Try.underlying25 rfl) ?_
 refine W_v rfl rfl (V_lenS rfl (et rfl) (sl_SlN (hRd _ (hR _ _ _ 0 hS (congrArg some hcj))).2.2) Try.underlying25) ?_
 refine W_v rfl rfl (V_mov rfl rfl) ?_
 refine W_end ?_
 refine Qo_normal ?_
 refine gen_Q (fun A4 E4 => ?_)
 have Y4 := szq E4
 have F4 := fsE E4 (ck (ck (cq1 F2 rfl) rfl rfl) rfl rfl)
 clear E4 Y2 F2
 refine tk H3 ?_
 refine R_block ?_
 -- loop 2
 refine R_loop (fun mz A' w' => SzN A' 37 ∧ A'.defers = [] ∧ (∃ (k : Nat), (mz = c.length - k) ∧ (k ≤ c.length) ∧ (∀ i, i < k → ¬ cl c a i = 0) ∧ (ps c.length a k < c.length) ∧ (EV A' (.tmp 13) = .int .i64 (k : Int)) ∧ (EV A' (.tmp 4) = .int .i64 ((ps c.length a k : Nat) : Int)) ∧ (EV A' (.tmp 0) = EV A4 (.tmp 0)) ∧ (EV A' (.tmp 2) = EV A4 (.tmp 2)) ∧ (EV A' (.tmp 12) = EV A4 (.tmp 12)) ∧ (St wb X ((J (pthK c a k)) :: rest) w'))) (c.length - 0) ⟨Y4, F4.d, 0, rfl, (by omega), (fun i hi => by omega), (ps_lt (by omega) _ _), (((fg0 F4)).trans (by first | rfl | (simp; done) | (congr 1; omega))), (((fg4 F4)).trans (by first | rfl | (simp; done) | (congr 1; omega))), rfl, rfl, rfl, (by have q0 : cj = J (pthK c a 0) := hcj.trans (rfl); subst q0; exact hS)⟩ ?_
 clear hS hcj
 rintro n5 A5 w5 ⟨Y5, hdf5, k, hm5, hk, hnz, hps, l13_5, l4_5, u0_5, u2_5, u12_5, S5⟩
 have l0_5 := u0_5.trans (fg3 F4)
 have l2_5 := u2_5.trans (fg2 F4)
 have l12_5 := u12_5.trans (fg1 F4)
 obtain ⟨cj_5, hcj_5, S5⟩ := gen1 S5
 refine R_seq (fun K6 H6 => ?_)
 refine R_region (by kernel_rfl) ?_
 refine W_v rfl rfl (V_lss rfl l13_5 l12_5) ?_
 refine W_end ?_
 refine Qo_normal ?_
 refine gen_Q (fun A7 E7 => ?_)
 have Y7 := szq E7
 have F7 := (((((fsE E7 (ck (FS.n hdf5) rfl rfl)).c (lookE E7 0 (es rfl l0_5))).c (lookE E7 2 (es rfl l2_5))).c (lookE E7 4 (es rfl l4_5))).c (lookE E7 12 (es rfl l12_5))).c (lookE E7 13 (es rfl l13_5))
 clear E7 Y5 hdf5 l13_5 l4_5 l0_5 l2_5 l12_5
 refine tk H6 ?_
 refine R_seq (fun K8 H8 => ?_)
 refine R_cond_dec (fg5 F7) (fun c9 => ?_) (fun c9 => ?_)
 ·refine R_skip ?_
  refine tk H8 ?_
  refine R_seq (fun K10 H10 => ?_)
  refine R_block ?_
  refine R_seq (fun K11 H11 => ?_)
  refine R_seq (fun K12 H12 => ?_)
  refine R_regionI ?_
  refine I_v rfl rfl (by rfl) (V_mov rfl (fg4 F7)) ?_
  refine I_v rfl rfl (by rfl) (V_mov rfl (es rfl (fg2 F7))) ?_
  refine I_r rfl rfl (by rfl) (VR_ldC rfl (es2 rfl (fg3 F7)) (cell_box (v := v) (ob_at (hRd _ (hR _ _ _ 0 S5 (congrArg some hcj_5))).2.1) rfl) Try.underlying25 rfl) ?_
  refine I_v rfl rfl (by rfl) (V_mov rfl (es3 rfl (fg2 F7))) ?_
  have k13 : (ps c.length a k) < c.length := by first | omega | (simp only [List.length_cons, List.length_nil]; omega) | (simp only [List.length_set]; omega) | decide
  obtain ⟨y13, hy13⟩ := get_some (xs := c) (k := (ps c.length a k)) k13
  obtain ⟨B13, O13, C13, hv13⟩ := (SlN.blk (sl_SlN (hRd _ (hR _ _ _ 0 S5 (congrArg some hcj_5))).2.2) (by first | omega | (simp only [List.length_cons, List.length_nil]; omega) | (simp only [List.length_set]; omega) | decide))
  refine I_v rfl rfl (by rfl) (V_ixS (off := O13 + (ps c.length a k)) 1 ((ps c.length a k)) rfl (es rfl (et rfl)) (et rfl) hv13 (by omega) k13 Try.underlying25 (by kernel_rfl) (congrArg _ (Nat.mul_one _))) ?_
  refine I_r rfl rfl (by rfl) (VR_ldC rfl (et rfl) ((sl_SlN (hRd _ (hR _ _ _ 0 S5 (congrArg some hcj_5))).2.2).cell hv13 (map_get hy13)) Try.underlying3 rfl) ?_
  refine I_yield rfl rfl (by rfl) (hY (pthK c a k) (((ps c.length a k : Nat) : Int), y13) _ _ 0 S5 (congrArg some hcj_5) (pk_pre (by omega) hnz hy13)) (fun res hr => run_yield2 rfl (es5 rfl (et rfl)) (es4 rfl (et rfl)) (et rfl) hr) ?_
  rintro _ w14 (⟨rfl, S14⟩ | ⟨rfl, S14⟩)
  ·refine ⟨_, rfl, ?_⟩
   obtain ⟨cj14, hcj14⟩ : ∃ c_, c_ = J ((pthK c a k) ++ [(((ps c.length a k : Nat) : Int), y13)]) := ⟨_, rfl⟩
   rw [← hcj14] at S14
   replace S14 : St wb X (cj14 :: rest) w14 := S14
   refine I_up (by kernel_rfl) ?_
   refine W_v rfl rfl (V_notT rfl (et rfl)) ?_
   refine W_v rfl rfl (V_mov rfl (et rfl)) ?_
   refine W_r rfl (wanted_t rfl rfl (et rfl) (ez rfl)) (VR_ldC rfl (es8 rfl (es rfl (fg3 F7))) (cell_box (v := v) (ob_at (hRd _ (hR _ _ _ 0 S14 (congrArg some hcj14))).2.1) rfl) Try.underlying25 rfl) ?_
   refine W_v rfl (wanted_t rfl rfl (es rfl (et rfl)) (ez rfl)) (V_mov rfl (es8 rfl (es2 rfl (fg2 F7)))) ?_
   refine W_v rfl (wanted_t rfl rfl (es2 rfl (et rfl)) (ez rfl)) (V_ixS (off := O13 + (ps c.length a k)) 1 ((ps c.length a k)) rfl (es rfl (et rfl)) (et rfl) hv13 (by omega) k13 Try.underlying25 (by kernel_rfl) (congrArg _ (Nat.mul_one _))) ?_
   refine W_r rfl (wanted_t rfl rfl (es3 rfl (et rfl)) (ez rfl)) (VR_ldC rfl (et rfl) ((sl_SlN (hRd _ (hR _ _ _ 0 S14 (congrArg some hcj14))).2.2).cell hv13 (map_get hy13)) Try.underlying3 rfl) ?_
   refine W_v rfl (wanted_t rfl rfl (es4 rfl (et rfl)) (ez rfl)) (V_eql rfl (et rfl) rfl) ?_
   refine W_v rfl rfl (V_pickF rfl (es5 rfl (et rfl)) (et rfl)) ?_
   refine W_end ?_
   refine Qo_normal ?_
   refine gen_Q (fun A16 E16 => ?_)
   have Y16 := szq E16
   have F16 := fsE E16 (ck (ck (ck (ck (ck (ck (cq1 (cq8 F7 rfl) rfl) rfl rfl) rfl rfl) rfl rfl) rfl rfl) rfl rfl) rfl rfl)
   clear E16 Y7 F7
   refine tk H12 ?_
   refine R_cond_dec (fg0 F16) (fun c17 => ?_) (fun c17 => ?_)
   ·refine R_ret ?_
    refine then_ret ?_
    refine inb_ret ?_
    refine then_ret ?_
    refine then_ret ?_
    refine inb_ret ?_
    refine ret_inR0 (results_0 Try.results98 ) F16.d ?_
    exact ⟨⟨_, rfl⟩, .inl ⟨_, (pk_zero (by omega) hnz hy13 c17), hback _ _ (hcj14 ▸ S14)⟩⟩
   refine R_skip ?_
   refine tk H11 ?_
   refine R_region (by kernel_rfl) ?_
   refine W_v rfl rfl (V_mov rfl (fg8 F16)) ?_
   refine W_v rfl rfl (V_add rfl (et rfl) rfl (by omega) (by omega)) ?_
   refine W_r rfl rfl (VR_ldC rfl (es2 rfl (fg9 F16)) (cell_box (v := v) (ob_at (hRd _ (hR _ _ _ 0 S14 (congrArg some hcj14))).2.1) rfl) Try.underlying25 rfl) ?_
   refine W_v rfl rfl (V_lenS rfl (et rfl) (sl_SlN (hRd _ (hR _ _ _ 0 S14 (congrArg some hcj14))).2.2) Try.underlying25) ?_
   refine W_v rfl rfl (V_sb rfl (et rfl) rfl (by omega) (by omega)) ?_
   refine W_v rfl rfl (V_and rfl (es3 rfl (et rfl)) (et rfl) (by omega) (by omega) (and_psS hp a k)) ?_
   refine W_v rfl rfl (V_asg rfl (et rfl)) ?_
   refine W_end ?_
   refine Qo_normal ?_
   refine gen_Q (fun A18 E18 => ?_)
   have Y18 := szq E18
   have F18 := fsE E18 (ck (cq6 (fx8 F16) rfl) rfl rfl)
   clear E18 Y16 F16
   refine inb_n ?_
   refine tk H10 ?_
   refine R_region (by kernel_rfl) ?_
   refine W_v rfl rfl (V_add rfl (fg7 F18) rfl (by omega) (by omega)) ?_
   refine W_v rfl rfl (V_mov rfl (et rfl)) ?_
   refine W_end ?_
   refine Qo_normal ?_
   refine gen_Q (fun A19 E19 => ?_)
   have Y19 := szq E19
   have F19 := fsE E19 (ck (cq1 (fx7 F18) rfl) rfl rfl)
   clear E19 Y18 F18
   refine then_n ⟨c.length - (k + 1), by simp only [hm5]; omega, Y19, F19.d, (k + 1), rfl, (by omega), (nz_step hnz hy13 c17), (ps_lt (by omega) _ _), (((fg0 F19)).trans (by first | rfl | (simp; done) | (congr 1; omega))), (((fg1 F19)).trans (by first | rfl | (simp; done) | (congr 1; omega))), (((fg10 F19)).trans (fg3 F4).symm), (((fg9 F19)).trans (fg2 F4).symm), (((fg8 F19)).trans (fg1 F4).symm), (by have q0 : cj14 = J (pthK c a (k + 1)) := hcj14.trans (congrArg J (pk_snoc hy13)); subst q0; exact S14)⟩
  refine ⟨_, rfl, ?_⟩
  obtain ⟨cj14, hcj14⟩ : ∃ c_, c_ = Jx ((pthK c a k) ++ [(((ps c.length a k : Nat) : Int), y13)]) := ⟨_, rfl⟩
  rw [← hcj14] at S14
  replace S14 : St wb X (cj14 :: rest) w14 := S14
  refine I_up (by kernel_rfl) ?_
  refine W_v rfl rfl (V_notF rfl (et rfl)) ?_
  refine W_v rfl rfl (V_mov rfl (et rfl)) ?_
  refine W_off rfl (wanted_f rfl rfl (et rfl) (ez rfl) rfl) ?_
  refine W_off rfl (wanted_f rfl rfl (es rfl (et rfl)) (ez rfl) rfl) ?_
  refine W_off rfl (wanted_f rfl rfl (es2 rfl (et rfl)) (ez rfl) rfl) ?_
  refine W_off rfl (wanted_f rfl rfl (es3 rfl (et rfl)) (ez rfl) rfl) ?_
  refine W_off rfl (wanted_f rfl rfl (es4 rfl (et rfl)) (ez rfl) rfl) ?_
  refine W_v rfl rfl (V_pickT rfl (es5 rfl (et rfl)) rfl) ?_
  refine W_end ?_
  refine Qo_normal ?_
  refine gen_Q (fun A20 E20 => ?_)
  have Y20 := szq E20
  have F20 := fsE E20 (ck (ck (ck (ck (ck (ck (cq1 (cq8 F7 rfl) rfl) rfl rfl) rfl rfl) rfl rfl) rfl rfl) rfl rfl) rfl rfl)
  clear E20 Y7 F7
  refine tk H12 ?_
  refine R_cond_t (fg0 F20) ?_
  refine R_ret ?_
  refine then_ret ?_
  refine inb_ret ?_
  refine then_ret ?_
  refine then_ret ?_
  refine inb_ret ?_
  refine ret_inR0 (results_0 Try.results98 ) F20.d ?_
  exact ⟨⟨_, rfl⟩, .inr ⟨_, (pk_pre (by omega) hnz hy13), hback _ _ (hcj14 ▸ S14)⟩⟩
 refine R_exit ?_
 refine then_exit ?_
 refine then_exit ?_
 refine inb_hit ?_
 refine ret_inR0 (results_0 Try.results98 ) F7.d ?_
 exact ⟨⟨_, rfl⟩, .inl ⟨_, (pk_all (by omega) (by omega) hnz), hback _ _ (hcj_5 ▸ S5)⟩⟩

set_option maxHeartbeats 4000000 in
theorem kpath_c {v : Value} {c : List Int} {a : Int} {w : World} (h_v : Ro w NoX (il .i64 v c))  :
  Calls Try.prog 72 #[v, .int .i64 a] w fun e w' => ∃ ga gc, e = .returned (.func (.func 98) #[] #[.pointer (some ⟨ga, 0, none⟩), .pointer (some ⟨gc, 0, none⟩)]) ∧ St w NoX [bx ga 3 #[.int .i64 a], bx gc 25 #[v]] w' := by
 refine calls_in 6 Try.func72 rfl rfl (by simp) (fun A0 Y0 hdf0 hargs => ?_)
 have l0_0 := hargs 0 (v) rfl
 have l1_0 := hargs 1 (.int .i64 a) rfl
 clear hargs; replace Y0 : SzN A0 6 := ⟨Y0⟩
 have hS := St.nil w
 have bh_v := SlN.le (sl_SlN h_v.at)
 refine wp_seq_k fun K1 H1 => ?_
 refine region_in ?_
 refine W_boxS (zs := #[v]) hS rfl rfl rfl l0_0 (SlN_cells (sl_SlN h_v.at)) (fun g2 w2 c2 hc2 S2 => ?_)
 replace S2 : St w NoX [c2] w2 := S2
 refine W_boxS (zs := #[.int .i64 (a)]) S2 rfl rfl rfl (es rfl l1_0) (by rfl) (fun g3 w3 c3 hc3 S3 => ?_)
 replace S3 : St w NoX [c3, c2] w3 := S3
 refine W_v rfl rfl (V_asg rfl rfl) ?_
 refine W_end (gen_Q fun A4 E4 => ?_)
 have Y4 := szq E4
 have F4 := fsE E4 (cq1 (ck (ck (FS.n hdf0) rfl rfl) rfl rfl) rfl)
 clear E4 Y0 hdf0 l0_0 l1_0
 refine tk H1 ?_
 refine wp_seq_k fun K5 H5 => ?_
 refine region_in ?_
 refine W_v rfl rfl (V_mkf rfl (args0) (args2 (fg0 F4) (fg1 F4))) ?_
 refine W_v rfl rfl (V_asg rfl (et rfl)) ?_
 refine W_end (gen_Q fun A6 E6 => ?_)
 have Y6 := szq E6
 have F6 := fsE E6 (ck (cq1 F4 rfl) rfl rfl)
 clear E6 Y4 F4
 refine tk H5 ?_
 refine wp_ret ?_
 refine ret_in (results_1 Try.results72 (rv_tmp (fg0 F6))) F6.d ?_
 exact ⟨_, _, rfl, (S3.fin2 0 rfl (hc3) 1 rfl (hc2) (by decide))⟩

set_option maxHeartbeats 4000000 in
theorem kfind_c {cv : Value} {c : List Int} {a : Int} {w : World} (h_cv : Ro w NoX (il .i64 cv c)) (hp : P2 c.length) (ha : 1 ≤ a ∧ a ≤ 1600) :
  Calls Try.prog 115 #[cv, .int .i64 a] w fun e w' => e = .returned (.int .i64 (fnd c a)) ∧ St w NoX [] w' := by
 have hpb := hp.bd
 refine calls_inR 16 Try.func115 rfl rfl (by simp) (fun A0 Y0 hdf0 hargs => ?_)
 have l0_0 := hargs 0 (cv) rfl
 have l1_0 := hargs 1 (.int .i64 a) rfl
 clear hargs; replace Y0 : SzN A0 16 := ⟨Y0⟩
 have hS := St.nil w
 have bh_cv := SlN.le (sl_SlN h_cv.at)
 refine R_seq (fun K1 H1 => ?_)
 refine R_region (by kernel_rfl) ?_
 refine W_boxS (zs := #[.int .i64 (a)]) hS rfl rfl rfl l1_0 (by rfl) (fun g2 w2 c2 hc2 S2 => ?_)
 replace S2 : St w NoX [c2] w2 := S2
 refine W_allocS (z := .int .i64 0) (zs := #[.int .i64 0]) S2 rfl rfl rfl (by kernel_rfl) (by rfl) (fun g3 w3 c3 hc3 S3 => ?_)
 replace S3 : St w NoX [c3, c2] w3 := S3
 refine W_end ?_
 refine Qo_normal ?_
 refine gen_Q (fun A4 E4 => ?_)
 have Y4 := szq E4
 have F4 := (fsE E4 (ck (ck (FS.n hdf0) rfl rfl) rfl rfl)).c (lookE E4 0 (es2 rfl l0_0))
 clear E4 Y0 hdf0 l0_0 l1_0
 refine tk H1 ?_
 refine R_seq (fun K5 H5 => ?_)
 refine R_seq (fun K6 H6 => ?_)
 refine R_region (by kernel_rfl) ?_
 refine W_v rfl rfl (V_mov rfl (fg0 F4)) ?_
 refine W_r rfl rfl (VR_ldC rfl (es rfl (fg2 F4)) (cell_box (v := .int .i64 (a)) (S3.obj 1 rfl hc2) rfl) Try.underlying3 rfl) ?_
 refine W_call rfl rfl rfl Try.func72 (by kernel_rfl) rfl (args2 (es rfl (et rfl)) (et rfl)) (kpath_c (a := a) (S3.roC h_cv) ) ?_
 rintro _ w7 ⟨ga_7, gc_7, rfl, hP7⟩
 refine ⟨_, rfl, ?_⟩
 obtain ⟨ca_7, cc_7, hca_7, hcc_7, hP7⟩ := gen2 hP7
 have S7 := S3.join hP7
 replace S7 : St w NoX [ca_7, cc_7, c3, c2] w7 := S7
 refine W_end ?_
 refine Qo_normal ?_
 refine gen_Q (fun A8 E8 => ?_)
 have Y8 := szq E8
 have F8 := fsE E8 (ck (cq2 F4 rfl) rfl rfl)
 clear E8 Y4 F4
 refine tk H6 ?_
 refine R_block ?_
 refine R_rangeS (α := Int × Int) (fg0 F8) (fun args w => calls_enter Try.func98 rfl rfl args w) (kpath_it (g0 := ga_7) (g1 := gc_7) (v := cv) (c := c) (a := a) (Rd := fun W => (bx ga_7 3 #[.int .i64 a]).at W ∧ (bx gc_7 25 #[cv]).at W ∧ (il .i64 cv c).at W) (fun _ h => h) (hp) (ha)) (fun _ => rfl) (fun pre => pk (fun l => (∀ e ∈ pre, ¬ e.2 = a) ∧ l = [bx ga_7 3 #[.int .i64 (a)], bx gc_7 25 #[cv], bx g3 3 #[.int .i64 0], bx g2 3 #[.int .i64 (a)]])) (fun cQ pre => pk (fun l => (cQ = .ret ∧ ∃ (x : Int), (fnd c a = x) ∧ l = [bx ga_7 3 #[.int .i64 (a)], bx gc_7 25 #[cv], bx g3 3 #[.int .i64 (x)], bx g2 3 #[.int .i64 (a)]]))) (St.pack (l := [bx ga_7 3 #[.int .i64 (a)], bx gc_7 25 #[cv], bx g3 3 #[.int .i64 0], bx g2 3 #[.int .i64 (a)]]) (fr := []) (by have q0 : ca_7 = bx ga_7 3 #[.int .i64 (a)] := hca_7; have q1 : cc_7 = bx gc_7 25 #[cv] := hcc_7; have q2 : c3 = bx g3 3 #[.int .i64 0] := hc3; have q3 : c2 = bx g2 3 #[.int .i64 (a)] := hc2; subst q0 q1 q2 q3; exact S7) ⟨(fun e he => by cases he), rfl⟩)
  (fun pre W l' hS => by obtain ⟨l, ⟨hno, rfl⟩, hl⟩ := pk_at (hS.ch 0 rfl); exact ⟨(hl 0 _ rfl), (hl 1 _ rfl), hS.ro h_cv⟩)
  (fun x a' cQ => match x with | (x1, x2) => SzN a' 16 ∧ a'.defers = [] ∧ EV a' (.tmp 3) = EV A8 (.tmp 3) ∧ EV a' (.tmp 4) = EV A8 (.tmp 4) ∧ EV a' (.tmp 5) = .int .i64 (x1) ∧ EV a' (.tmp 6) = .int .i64 (x2) ∧ cQ = pk (·= [])) ?_ ?_ ?_ ?_
 ·rintro la9 pre ⟨x1, x2⟩ wa9 fr K hSa9 hK
  simp only [encP]
  rw [rnd2]
  obtain ⟨A10, E10⟩ : ∃ A, A = (PT (PT { tmps := A8.tmps, defers := [] } 10 (.int .i64 x1)) 11 (.int .i64 x2)) := ⟨_, rfl⟩
  rw [← E10]
  have Y10 := szq E10
  have hdf10 : A10.defers = [] := by rw [E10]; rfl
  have l3_10 := lookE E10 3 (es2 rfl (rnd_l (fg3 F8)))
  have l4_10 := lookE E10 4 (es2 rfl (rnd_l (fg2 F8)))
  have l10_10 := lookE E10 10 (es rfl (et rfl))
  have l11_10 := lookE E10 11 (et rfl)
  clear E10
  obtain ⟨cI, hcI, hSa9⟩ := gen1 hSa9
  refine R_seq (fun K11 H11 => ?_)
  refine R_region (by kernel_rfl) ?_
  refine W_v rfl rfl (V_asg rfl l10_10) ?_
  refine W_end ?_
  refine Qo_normal ?_
  refine gen_Q (fun A12 E12 => ?_)
  have Y12 := szq E12
  have F12 := (((fsE E12 (ck (FS.n hdf10) rfl rfl)).c (lookE E12 3 (es rfl l3_10))).c (lookE E12 4 (es rfl l4_10))).c (lookE E12 11 (es rfl l11_10))
  clear E12 Y10 hdf10 l3_10 l4_10 l10_10 l11_10
  refine tk H11 ?_
  refine R_region (by kernel_rfl) ?_
  refine W_v rfl rfl (V_asg rfl (fg0 F12)) ?_
  refine W_end ?_
  refine Qo_normal ?_
  refine gen_Q (fun A13 E13 => ?_)
  have Y13 := szq E13
  have F13 := fsE E13 (ck F12 rfl rfl)
  clear E13 Y12 F12
  refine then_n ?_
  refine hK _ _ _ ⟨Y13, F13.d, ((fg3 F13).trans (fg3 F8).symm), ((fg2 F13).trans (fg2 F8).symm), (fg4 F13), (fg0 F13), rfl⟩ ?_
  subst hcI; exact hSa9.asg0
 ·rintro lb14 pre ⟨x1, x2⟩ A14 w14 cQ fr hAx hlr S14 hVd
  obtain ⟨Y14, hdf14, u3_14, u4_14, l5_14, l6_14, rfl⟩ := hAx
  have l3_14 := u3_14.trans (fg3 F8)
  have l4_14 := u4_14.trans (fg2 F8)
  obtain ⟨_, _, ⟨hno, rfl⟩, rfl, S14⟩ := S14.body2
  replace S14 : St w NoX ((bx ga_7 3 #[.int .i64 (a)]) :: (bx gc_7 25 #[cv]) :: (bx g3 3 #[.int .i64 0]) :: (bx g2 3 #[.int .i64 (a)]) :: fr) w14 := S14
  obtain ⟨ca_15, cc_15, c3_15, c2_15, hca_15, hcc_15, hc3_15, hc2_15, S14⟩ := gen4 S14
  refine R_block ?_
  refine R_seq (fun K16 H16 => ?_)
  refine R_region (by kernel_rfl) ?_
  refine W_v rfl rfl (V_mov rfl l6_14) ?_
  refine W_r rfl rfl (VR_ldC rfl (es rfl l3_14) (cell_box (v := .int .i64 (a)) (S14.obj 3 rfl hc2_15) rfl) Try.underlying3 rfl) ?_
  refine W_v rfl rfl (V_eql rfl (es rfl (et rfl)) (et rfl)) ?_
  refine W_end ?_
  refine Qo_normal ?_
  refine gen_Q (fun A17 E17 => ?_)
  have Y17 := szq E17
  have F17 := ((fsE E17 (ck (cq2 (FS.n hdf14) rfl) rfl rfl)).c (lookE E17 4 (es3 rfl l4_14))).c (lookE E17 5 (es3 rfl l5_14))
  clear E17 Y14 hdf14 l3_14 l4_14 l5_14 l6_14
  refine tk H16 ?_
  refine R_cond_dec (fg2 F17) (fun c18 => ?_) (fun c18 => ?_)
  ·refine R_seq (fun K19 H19 => ?_)
   refine R_region (by kernel_rfl) ?_
   refine W_v rfl rfl (V_mov rfl (fg0 F17)) ?_
   refine W_stCS (zs' := #[.int .i64 (x1)]) 2 S14 rfl hc3_15 rfl rfl rfl (es rfl (fg1 F17)) (et rfl) (by rfl) (by rfl) (by kernel_rfl) (by first | rfl | (simp only [List.setIfInBounds_toArray, List.set_cons_succ, List.set_cons_zero] <;> rfl)) (fun w20 c20 hc20 S20 => ?_)
   replace S20 : St w NoX (ca_15 :: cc_15 :: c20 :: c2_15 :: fr) w20 := S20
   refine W_end ?_
   refine Qo_normal ?_
   refine gen_Q (fun A21 E21 => ?_)
   have Y21 := szq E21
   have F21 := fsE E21 (cq1 F17 rfl)
   clear E21 Y17 F17
   refine tk H19 ?_
   refine R_ret ?_
   refine inb_ret ?_
   exact (St.pack (l := [bx ga_7 3 #[.int .i64 (a)], bx gc_7 25 #[cv], bx g3 3 #[.int .i64 (x1)], bx g2 3 #[.int .i64 (a)]]) (fr := fr) (by have q0 : ca_15 = bx ga_7 3 #[.int .i64 (a)] := hca_15; have q1 : cc_15 = bx gc_7 25 #[cv] := hcc_15; have q2 : c20 = bx g3 3 #[.int .i64 (x1)] := hc20; have q3 : c2_15 = bx g2 3 #[.int .i64 (a)] := hc2_15; subst q0 q1 q2 q3; exact S20) (⟨rfl, x1, (fnd_hit hVd hno c18), rfl⟩))
  refine R_skip ?_
  refine inb_n ?_
  exact (St.pack (l := [bx ga_7 3 #[.int .i64 (a)], bx gc_7 25 #[cv], bx g3 3 #[.int .i64 0], bx g2 3 #[.int .i64 (a)]]) (fr := fr) (by have q0 : ca_15 = bx ga_7 3 #[.int .i64 (a)] := hca_15; have q1 : cc_15 = bx gc_7 25 #[cv] := hcc_15; have q2 : c3_15 = bx g3 3 #[.int .i64 0] := hc3_15; have q3 : c2_15 = bx g2 3 #[.int .i64 (a)] := hc2_15; subst q0 q1 q2 q3; exact S14) (⟨(all_snoc (p := fun e => e.2 = a) hno c18), rfl⟩))
 ·intro D22 xs w22 hxs S22
  have hxs' : xs = pthL c a := hxs; subst hxs'; clear hxs
  obtain ⟨_, ⟨hno, rfl⟩, S22⟩ := S22.unpack
  replace S22 : St w NoX ((bx ga_7 3 #[.int .i64 (a)]) :: (bx gc_7 25 #[cv]) :: (bx g3 3 #[.int .i64 0]) :: (bx g2 3 #[.int .i64 (a)]) :: (ob D22 (.deferred (some []))) :: []) w22 := S22
  obtain ⟨ca_22, cc_22, c3_22, c2_22, cD22, hca_22, hcc_22, hc3_22, hc2_22, hcD22, S22⟩ := gen5 S22
  refine gen_Q (fun A22 E22 => ?_)
  have Y22 := szq E22
  have hdf22 : A22.defers = [{ target := .collected D22, args := #[] }] := by rw [E22, df_mk, F8.d] <;> rfl
  have l4_22 := lookE E22 4 (mk_l (fg2 F8))
  clear E22
  refine inb_n ?_
  refine tk H5 ?_
  refine R_seq (fun K23 H23 => ?_)
  refine R_region (by kernel_rfl) ?_
  refine W_stCS (zs' := #[.int .i64 (-1)]) 2 S22 rfl hc3_22 rfl rfl rfl l4_22 rfl (by rfl) (by rfl) (by kernel_rfl) (by first | rfl | (simp only [List.setIfInBounds_toArray, List.set_cons_succ, List.set_cons_zero] <;> rfl)) (fun w24 c24 hc24 S24 => ?_)
  replace S24 : St w NoX [ca_22, cc_22, c24, c2_22, cD22] w24 := S24
  refine W_end ?_
  refine Qo_normal ?_
  refine tk H23 ?_
  refine R_ret ?_
  have hD25 := S24.obj 4 rfl hcD22
  have S25 := S24.put (o' := .deferred none) 4 rfl hcD22
  obtain ⟨w25, hw25⟩ : ∃ w', w' = w24.putObj D22 (.deferred none) := ⟨_, rfl⟩
  rw [← hw25] at S25
  replace S25 : St w NoX [ca_22, cc_22, c24, c2_22, (ob D22 (.deferred none))] w25 := S25
  refine ret_inR1' (D := D22) (w1 := w25) hw25 (results_1 Try.results115 (rv_cellC l4_22 (cell_box (S25.obj 2 rfl hc24) rfl) Try.underlying3 rfl)) hdf22 hD25 ?_
  rw [fnd_done ha.1 hno]
  exact ⟨rfl, S25.fin0⟩
 intro D26 cQ pre w26 hpre S26
 obtain ⟨_, hx, S26⟩ := S26.unpack
 rcases hx with ⟨rfl, x, hx, rfl⟩
 replace S26 : St w NoX ((bx ga_7 3 #[.int .i64 (a)]) :: (bx gc_7 25 #[cv]) :: (bx g3 3 #[.int .i64 (x)]) :: (bx g2 3 #[.int .i64 (a)]) :: (ob D26 (.deferred (some []))) :: []) w26 := S26
 obtain ⟨ca_26, cc_26, c3_26, c2_26, cD26, hca_26, hcc_26, hc3_26, hc2_26, hcD26, S26⟩ := gen5 S26
 refine gen_w (fun A26 E26 => ?_)
 have Y26 := szq E26
 have hdf26 : A26.defers = [{ target := .collected D26, args := #[] }] := by rw [E26, df_mk, F8.d] <;> rfl
 have l4_26 := lookE E26 4 (mk_l (fg2 F8))
 clear E26
 refine R_ret ?_
 refine inb_ret ?_
 refine then_ret ?_
 have hD27 := S26.obj 4 rfl hcD26
 have S27 := S26.put (o' := .deferred none) 4 rfl hcD26
 obtain ⟨w27, hw27⟩ : ∃ w', w' = w26.putObj D26 (.deferred none) := ⟨_, rfl⟩
 rw [← hw27] at S27
 replace S27 : St w NoX [ca_26, cc_26, c3_26, c2_26, (ob D26 (.deferred none))] w27 := S27
 refine ret_inR1' (D := D26) (w1 := w27) hw27 (results_1 Try.results115 (rv_cellC l4_26 (cell_box (S27.obj 2 rfl hc3_26) rfl) Try.underlying3 rfl)) hdf26 hD27 ?_
 rw [hx]
 exact ⟨rfl, S27.fin0⟩

set_option maxHeartbeats 4000000 in
theorem kput_c {cv : Value} {c : List Int} {a : Int} {w : World} {Y : Nat → Prop}  (hS : St w Y [io .i64 cv c] w) (hp : P2 c.length) (ha : 1 ≤ a ∧ a ≤ 1600) :
  Calls Try.prog 126 #[cv, .int .i64 a] w fun e w' => e = .returned (.tuple #[]) ∧ St w Y [io .i64 cv (putT c a)] w' := by
 have hpb := hp.bd
 refine calls_inR 17 Try.func126 rfl rfl (by simp) (fun A0 Y0 hdf0 hargs => ?_)
 have l0_0 := hargs 0 (cv) rfl
 have l1_0 := hargs 1 (.int .i64 a) rfl
 clear hargs; replace Y0 : SzN A0 17 := ⟨Y0⟩
 obtain ⟨m_cv, hm_cv, hS⟩ := gen1 hS
 replace hS : St w Y [m_cv] w := hS
 have bm_cv := SlN.le (ow_at (hS.chq 0 rfl hm_cv))
 refine R_seq (fun K1 H1 => ?_)
 refine R_region (by kernel_rfl) ?_
 refine W_boxS (zs := #[cv]) hS rfl rfl rfl l0_0 (SlN_cells (ow_at (hS.chq 0 rfl hm_cv))) (fun g2 w2 c2 hc2 S2 => ?_)
 replace S2 : St w Y [c2, m_cv] w2 := S2
 refine W_boxS (zs := #[.int .i64 (a)]) S2 rfl rfl rfl (es rfl l1_0) (by rfl) (fun g3 w3 c3 hc3 S3 => ?_)
 replace S3 : St w Y [c3, c2, m_cv] w3 := S3
 refine W_end ?_
 refine Qo_normal ?_
 refine gen_Q (fun A4 E4 => ?_)
 have Y4 := szq E4
 have F4 := fsE E4 (ck (ck (FS.n hdf0) rfl rfl) rfl rfl)
 clear E4 Y0 hdf0 l0_0 l1_0
 refine tk H1 ?_
 refine R_seq (fun K5 H5 => ?_)
 refine R_region (by kernel_rfl) ?_
 refine W_r rfl rfl (VR_ldC rfl (fg1 F4) (cell_box (v := cv) (S3.obj 1 rfl hc2) rfl) Try.underlying25 rfl) ?_
 refine W_r rfl rfl (VR_ldC rfl (es rfl (fg0 F4)) (cell_box (v := .int .i64 (a)) (S3.obj 0 rfl hc3) rfl) Try.underlying3 rfl) ?_
 refine W_call rfl rfl rfl Try.func72 (by kernel_rfl) rfl (args2 (es rfl (et rfl)) (et rfl)) (kpath_c (a := a) (S3.chC 2 rfl hm_cv).own ) ?_
 rintro _ w6 ⟨ga_6, gc_6, rfl, hP6⟩
 refine ⟨_, rfl, ?_⟩
 obtain ⟨ca_6, cc_6, hca_6, hcc_6, hP6⟩ := gen2 hP6
 have S6 := S3.join hP6
 replace S6 : St w Y [ca_6, cc_6, c3, c2, m_cv] w6 := S6
 refine W_end ?_
 refine Qo_normal ?_
 refine gen_Q (fun A7 E7 => ?_)
 have Y7 := szq E7
 have F7 := fsE E7 (ck (cq2 F4 rfl) rfl rfl)
 clear E7 Y4 F4
 refine tk H5 ?_
 refine R_block ?_
 refine R_rangeS (α := Int × Int) (fg0 F7) (fun args w => calls_enter Try.func98 rfl rfl args w) (kpath_it (g0 := ga_6) (g1 := gc_6) (v := cv) (c := c) (a := a) (Rd := fun W => (bx ga_6 3 #[.int .i64 a]).at W ∧ (bx gc_6 25 #[cv]).at W ∧ (il .i64 cv c).at W) (fun _ h => h) (hp) (ha)) (fun _ => rfl) (fun pre => pk (fun l => (∀ e ∈ pre, ¬ e.2 ≤ 0) ∧ l = [bx ga_6 3 #[.int .i64 (a)], bx gc_6 25 #[cv], bx g3 3 #[.int .i64 (a)], bx g2 25 #[cv], io .i64 cv c])) (fun cQ pre => pk (fun l => (cQ = .ret ∧ l = [bx ga_6 3 #[.int .i64 (a)], bx gc_6 25 #[cv], bx g3 3 #[.int .i64 (a)], bx g2 25 #[cv], io .i64 cv (putT c a)]))) (St.pack (l := [bx ga_6 3 #[.int .i64 (a)], bx gc_6 25 #[cv], bx g3 3 #[.int .i64 (a)], bx g2 25 #[cv], io .i64 cv c]) (fr := []) (by have q0 : ca_6 = bx ga_6 3 #[.int .i64 (a)] := hca_6; have q1 : cc_6 = bx gc_6 25 #[cv] := hcc_6; have q2 : c3 = bx g3 3 #[.int .i64 (a)] := hc3; have q3 : c2 = bx g2 25 #[cv] := hc2; have q4 : m_cv = io .i64 cv c := hm_cv; subst q0 q1 q2 q3 q4; exact S6) ⟨(fun e he => by cases he), rfl⟩)
  (fun pre W l' hS => by obtain ⟨l, ⟨hno, rfl⟩, hl⟩ := pk_at (hS.ch 0 rfl); exact ⟨(hl 0 _ rfl), (hl 1 _ rfl), (ow_sl_at (hl 4 _ rfl))⟩)
  (fun x a' cQ => match x with | (x1, x2) => SzN a' 17 ∧ a'.defers = [] ∧ EV a' (.tmp 2) = EV A7 (.tmp 2) ∧ EV a' (.tmp 3) = EV A7 (.tmp 3) ∧ EV a' (.tmp 4) = .int .i64 (x1) ∧ EV a' (.tmp 5) = .int .i64 (x2) ∧ cQ = pk (·= [])) ?_ ?_ ?_ ?_
 ·rintro la8 pre ⟨x1, x2⟩ wa8 fr K hSa8 hK
  simp only [encP]
  rw [rnd2]
  obtain ⟨A9, E9⟩ : ∃ A, A = (PT (PT { tmps := A7.tmps, defers := [] } 9 (.int .i64 x1)) 10 (.int .i64 x2)) := ⟨_, rfl⟩
  rw [← E9]
  have Y9 := szq E9
  have hdf9 : A9.defers = [] := by rw [E9]; rfl
  have l2_9 := lookE E9 2 (es2 rfl (rnd_l (fg2 F7)))
  have l3_9 := lookE E9 3 (es2 rfl (rnd_l (fg1 F7)))
  have l9_9 := lookE E9 9 (es rfl (et rfl))
  have l10_9 := lookE E9 10 (et rfl)
  clear E9
  obtain ⟨cI, hcI, hSa8⟩ := gen1 hSa8
  refine R_seq (fun K10 H10 => ?_)
  refine R_region (by kernel_rfl) ?_
  refine W_v rfl rfl (V_asg rfl l9_9) ?_
  refine W_end ?_
  refine Qo_normal ?_
  refine gen_Q (fun A11 E11 => ?_)
  have Y11 := szq E11
  have F11 := (((fsE E11 (ck (FS.n hdf9) rfl rfl)).c (lookE E11 2 (es rfl l2_9))).c (lookE E11 3 (es rfl l3_9))).c (lookE E11 10 (es rfl l10_9))
  clear E11 Y9 hdf9 l2_9 l3_9 l9_9 l10_9
  refine tk H10 ?_
  refine R_region (by kernel_rfl) ?_
  refine W_v rfl rfl (V_asg rfl (fg0 F11)) ?_
  refine W_end ?_
  refine Qo_normal ?_
  refine gen_Q (fun A12 E12 => ?_)
  have Y12 := szq E12
  have F12 := fsE E12 (ck F11 rfl rfl)
  clear E12 Y11 F11
  refine then_n ?_
  refine hK _ _ _ ⟨Y12, F12.d, ((fg3 F12).trans (fg2 F7).symm), ((fg2 F12).trans (fg1 F7).symm), (fg4 F12), (fg0 F12), rfl⟩ ?_
  subst hcI; exact hSa8.asg0
 ·rintro lb13 pre ⟨x1, x2⟩ A13 w13 cQ fr hAx hlr S13 hVd
  obtain ⟨Y13, hdf13, u2_13, u3_13, l4_13, l5_13, rfl⟩ := hAx
  have l2_13 := u2_13.trans (fg2 F7)
  have l3_13 := u3_13.trans (fg1 F7)
  obtain ⟨_, _, ⟨hno, rfl⟩, rfl, S13⟩ := S13.body2
  replace S13 : St w Y ((bx ga_6 3 #[.int .i64 (a)]) :: (bx gc_6 25 #[cv]) :: (bx g3 3 #[.int .i64 (a)]) :: (bx g2 25 #[cv]) :: (io .i64 cv c) :: fr) w13 := S13
  obtain ⟨ca_14, cc_14, c3_14, c2_14, m_cv_14, hca_14, hcc_14, hc3_14, hc2_14, hm_cv_14, S13⟩ := gen5 S13
  have hxb := pth_bd hVd
  refine R_block ?_
  refine R_seq (fun K15 H15 => ?_)
  refine R_region (by kernel_rfl) ?_
  refine W_v rfl rfl (V_mov rfl l5_13) ?_
  refine W_v rfl rfl (V_leq rfl (et rfl) rfl) ?_
  refine W_end ?_
  refine Qo_normal ?_
  refine gen_Q (fun A16 E16 => ?_)
  have Y16 := szq E16
  have F16 := (((fsE E16 (ck (cq1 (FS.n hdf13) rfl) rfl rfl)).c (lookE E16 2 (es2 rfl l2_13))).c (lookE E16 3 (es2 rfl l3_13))).c (lookE E16 4 (es2 rfl l4_13))
  clear E16 Y13 hdf13 l2_13 l3_13 l4_13 l5_13
  refine tk H15 ?_
  refine R_cond_dec (fg3 F16) (fun c17 => ?_) (fun c17 => ?_)
  ·refine R_seq (fun K18 H18 => ?_)
   refine R_region (by kernel_rfl) ?_
   refine W_r rfl rfl (VR_ldC rfl (fg2 F16) (cell_box (v := cv) (S13.obj 3 rfl hc2_14) rfl) Try.underlying25 rfl) ?_
   refine W_v rfl rfl (V_mov rfl (es rfl (fg0 F16))) ?_
   refine W_r rfl rfl (VR_ldC rfl (es2 rfl (fg1 F16)) (cell_box (v := .int .i64 (a)) (S13.obj 2 rfl hc3_14) rfl) Try.underlying3 rfl) ?_
   have k19 : x1.toNat < c.length := by first | omega | (simp only [List.length_cons, List.length_nil]; omega) | (simp only [List.length_set]; omega) | decide
   obtain ⟨y19, hy19⟩ := get_some (xs := c) (k := x1.toNat) k19
   obtain ⟨B19, O19, C19, hv19⟩ := (SlN.blk (ow_at (S13.chq 4 rfl hm_cv_14)) (by first | omega | (simp only [List.length_cons, List.length_nil]; omega) | (simp only [List.length_set]; omega) | decide))
   refine W_v rfl rfl (V_ixS (off := O19 + x1.toNat) 1 (x1.toNat) rfl (es2 rfl (et rfl)) (es rfl (et rfl)) hv19 (by omega) k19 Try.underlying25 (by kernel_rfl) (congrArg _ (Nat.mul_one _))) ?_
   refine W_stE 4 S13 rfl hm_cv_14 hv19 rfl rfl rfl (et rfl) (es rfl (et rfl)) (by rfl) rfl (by first | (simp only [List.length_map]; omega) | omega) (by kernel_rfl) (fun w20 c20 hc20 S20 => ?_)
   replace hc20 : c20 = io .i64 cv (c.set x1.toNat a) := hc20.trans (by simp [io, bo, List.map_set] <;> rfl)
   replace S20 : St w Y (ca_14 :: cc_14 :: c3_14 :: c2_14 :: c20 :: fr) w20 := S20
   refine W_end ?_
   refine Qo_normal ?_
   refine gen_Q (fun A21 E21 => ?_)
   have Y21 := szq E21
   have F21 := fsE E21 (cq4 F16 rfl)
   clear E21 Y16 F16
   refine tk H18 ?_
   refine R_ret ?_
   refine inb_ret ?_
   exact (St.pack (l := [bx ga_6 3 #[.int .i64 (a)], bx gc_6 25 #[cv], bx g3 3 #[.int .i64 (a)], bx g2 25 #[cv], io .i64 cv (putT c a)]) (fr := fr) (by have q0 : ca_14 = bx ga_6 3 #[.int .i64 (a)] := hca_14; have q1 : cc_14 = bx gc_6 25 #[cv] := hcc_14; have q2 : c3_14 = bx g3 3 #[.int .i64 (a)] := hc3_14; have q3 : c2_14 = bx g2 25 #[cv] := hc2_14; have q4 : c20 = io .i64 cv (putT c a) := hc20.trans ((congrArg (io .i64 _) (put_hit hVd hno c17))); subst q0 q1 q2 q3 q4; exact S20) (⟨rfl, rfl⟩))
  refine R_skip ?_
  refine inb_n ?_
  exact (St.pack (l := [bx ga_6 3 #[.int .i64 (a)], bx gc_6 25 #[cv], bx g3 3 #[.int .i64 (a)], bx g2 25 #[cv], io .i64 cv c]) (fr := fr) (by have q0 : ca_14 = bx ga_6 3 #[.int .i64 (a)] := hca_14; have q1 : cc_14 = bx gc_6 25 #[cv] := hcc_14; have q2 : c3_14 = bx g3 3 #[.int .i64 (a)] := hc3_14; have q3 : c2_14 = bx g2 25 #[cv] := hc2_14; have q4 : m_cv_14 = io .i64 cv c := hm_cv_14; subst q0 q1 q2 q3 q4; exact S13) (⟨(all_snoc (p := fun e => e.2 ≤ 0) hno c17), rfl⟩))
 ·intro D22 xs w22 hxs S22
  have hxs' : xs = pthL c a := hxs; subst hxs'; clear hxs
  obtain ⟨_, ⟨hno, rfl⟩, S22⟩ := S22.unpack
  replace S22 : St w Y ((bx ga_6 3 #[.int .i64 (a)]) :: (bx gc_6 25 #[cv]) :: (bx g3 3 #[.int .i64 (a)]) :: (bx g2 25 #[cv]) :: (io .i64 cv c) :: (ob D22 (.deferred (some []))) :: []) w22 := S22
  obtain ⟨ca_22, cc_22, c3_22, c2_22, m_cv_22, cD22, hca_22, hcc_22, hc3_22, hc2_22, hm_cv_22, hcD22, S22⟩ := gen6 S22
  refine gen_Q (fun A22 E22 => ?_)
  have Y22 := szq E22
  have hdf22 : A22.defers = [{ target := .collected D22, args := #[] }] := by rw [E22, df_mk, F7.d] <;> rfl
  clear E22
  refine inb_n ?_
  have hD23 := S22.obj 5 rfl hcD22
  have S23 := S22.put (o' := .deferred none) 5 rfl hcD22
  obtain ⟨w23, hw23⟩ : ∃ w', w' = w22.putObj D22 (.deferred none) := ⟨_, rfl⟩
  rw [← hw23] at S23
  replace S23 : St w Y [ca_22, cc_22, c3_22, c2_22, m_cv_22, (ob D22 (.deferred none))] w23 := S23
  refine ret_inR1' (D := D22) (w1 := w23) hw23 (results_0 Try.results126 ) hdf22 hD23 ?_
  exact ⟨rfl, (S23.fin1 4 rfl (hm_cv_22.trans (congrArg (io .i64 _) (put_done hno))))⟩
 intro D24 cQ pre w24 hpre S24
 obtain ⟨_, hx, S24⟩ := S24.unpack
 rcases hx with ⟨rfl, rfl⟩
 replace S24 : St w Y ((bx ga_6 3 #[.int .i64 (a)]) :: (bx gc_6 25 #[cv]) :: (bx g3 3 #[.int .i64 (a)]) :: (bx g2 25 #[cv]) :: (io .i64 cv (putT c a)) :: (ob D24 (.deferred (some []))) :: []) w24 := S24
 obtain ⟨ca_24, cc_24, c3_24, c2_24, m_cv_24, cD24, hca_24, hcc_24, hc3_24, hc2_24, hm_cv_24, hcD24, S24⟩ := gen6 S24
 refine gen_w (fun A24 E24 => ?_)
 have Y24 := szq E24
 have hdf24 : A24.defers = [{ target := .collected D24, args := #[] }] := by rw [E24, df_mk, F7.d] <;> rfl
 clear E24
 refine R_ret ?_
 refine inb_ret ?_
 have hD25 := S24.obj 5 rfl hcD24
 have S25 := S24.put (o' := .deferred none) 5 rfl hcD24
 obtain ⟨w25, hw25⟩ : ∃ w', w' = w24.putObj D24 (.deferred none) := ⟨_, rfl⟩
 rw [← hw25] at S25
 replace S25 : St w Y [ca_24, cc_24, c3_24, c2_24, m_cv_24, (ob D24 (.deferred none))] w25 := S25
 refine ret_inR1' (D := D24) (w1 := w25) hw25 (results_0 Try.results126 ) hdf24 hD25 ?_
 exact ⟨rfl, (S25.fin1 4 rfl (hm_cv_24))⟩

set_option maxHeartbeats 4000000 in
theorem kcnt_c {cv : Value} {c : List Int} {w : World} (h_cv : Ro w NoX (il .i64 cv c))  :
  Calls Try.prog 82 #[cv] w fun e w' => e = .returned (.tuple #[.int .i64 ((usd c : Nat) : Int), .int .i64 ((adr c : Nat) : Int)]) ∧ St w NoX [] w' := by
 refine calls_in 25 Try.func82 rfl rfl (by simp) (fun A0 Y0 hdf0 hargs => ?_)
 have l0_0 := hargs 0 (cv) rfl
 clear hargs; replace Y0 : SzN A0 25 := ⟨Y0⟩
 have hS := St.nil w
 have bh_cv := SlN.le (sl_SlN h_cv.at)
 refine wp_seq_k fun K1 H1 => ?_
 refine region_in ?_
 refine W_v rfl rfl (V_asg rfl rfl) ?_
 refine W_v rfl rfl (V_asg rfl rfl) ?_
 refine W_end (gen_Q fun A2 E2 => ?_)
 have Y2 := szq E2
 have F2 := (fsE E2 (ck (ck (FS.n hdf0) rfl rfl) rfl rfl)).c (lookE E2 0 (es2 rfl l0_0))
 clear E2 Y0 hdf0 l0_0
 refine tk H1 ?_
 refine wp_seq_k fun K3 H3 => ?_
 refine wp_seq_k fun K4 H4 => ?_
 refine region_in ?_
 refine W_v rfl rfl (V_mov rfl (fg0 F2)) ?_
 refine W_v rfl rfl (V_lenS rfl (et rfl) (sl_SlN h_cv.at) Try.underlying25) ?_
 refine W_v rfl rfl (V_mov rfl rfl) ?_
 refine W_end (gen_Q fun A5 E5 => ?_)
 have Y5 := szq E5
 have F5 := fsE E5 (ck (ck (ck F2 rfl rfl) rfl rfl) rfl rfl)
 clear E5 Y2 F2
 refine tk H4 ?_
 refine wp_block ?_
 -- loop 2
 refine loopX (fun mz A' w' => SzN A' 25 ∧ A'.defers = [] ∧ (∃ (k : Nat), (mz = c.length - k) ∧ (k ≤ c.length) ∧ (usd (c.take k) ≤ k ∧ adr (c.take k) ≤ k) ∧ (EV A' (.tmp 8) = .int .i64 (k : Int)) ∧ (EV A' (.tmp 2) = .int .i64 ((usd (c.take k) : Nat) : Int)) ∧ (EV A' (.tmp 3) = .int .i64 ((adr (c.take k) : Nat) : Int)) ∧ (EV A' (.tmp 6) = EV A5 (.tmp 6)) ∧ (EV A' (.tmp 7) = EV A5 (.tmp 7)) ∧ (St w NoX [] w'))) (c.length - 0) ⟨Y5, F5.d, 0, rfl, (by omega), (cnt_bd _ _), (((fg0 F5)).trans (by first | rfl | (simp; done) | (congr 1; omega))), (((fg5 F5)).trans (rfl)), (((fg4 F5)).trans (rfl)), rfl, rfl, hS⟩ ?_
 clear hS
 rintro n6 A6 w6 ⟨Y6, hdf6, k, hm6, hk, hcb, l8_6, l2_6, l3_6, u6_6, u7_6, S6⟩
 have l6_6 := u6_6.trans (fg2 F5)
 have l7_6 := u7_6.trans (fg1 F5)
 refine wp_seq_k fun K7 H7 => ?_
 refine region_in ?_
 refine W_v rfl rfl (V_lss rfl l8_6 l7_6) ?_
 refine W_end (gen_Q fun A8 E8 => ?_)
 have Y8 := szq E8
 have F8 := (((((fsE E8 (ck (FS.n hdf6) rfl rfl)).c (lookE E8 2 (es rfl l2_6))).c (lookE E8 3 (es rfl l3_6))).c (lookE E8 6 (es rfl l6_6))).c (lookE E8 7 (es rfl l7_6))).c (lookE E8 8 (es rfl l8_6))
 clear E8 Y6 hdf6 l8_6 l2_6 l3_6 l6_6 l7_6
 refine tk H7 ?_
 refine wp_seq_k fun K9 H9 => ?_
 refine cond_dec (fg5 F8) (fun c10 => ?_) (fun c10 => ?_)
 ·refine wp_skip ?_
  refine tk H9 ?_
  refine wp_seq_k fun K11 H11 => ?_
  refine wp_block ?_
  refine wp_seq_k fun K12 H12 => ?_
  refine region_in ?_
  have k13 : k < c.length := by first | omega | (simp only [List.length_cons, List.length_nil]; omega) | (simp only [List.length_set]; omega) | decide
  obtain ⟨y13, hy13⟩ := get_some (xs := c) (k := k) k13
  obtain ⟨B13, O13, C13, hv13⟩ := (SlN.blk (sl_SlN h_cv.at) (by first | omega | (simp only [List.length_cons, List.length_nil]; omega) | (simp only [List.length_set]; omega) | decide))
  refine W_v rfl rfl (V_ixS (off := O13 + k) 1 (k) rfl (fg2 F8) (fg0 F8) hv13 (by omega) k13 Try.underlying25 (by kernel_rfl) (congrArg _ (Nat.mul_one _))) ?_
  refine W_r rfl rfl (VR_ldC rfl (et rfl) ((sl_SlN (S6.ro h_cv)).cell hv13 (map_get hy13)) Try.underlying3 rfl) ?_
  refine W_v rfl rfl (V_asg rfl (et rfl)) ?_
  refine W_end (gen_Q fun A14 E14 => ?_)
  have Y14 := szq E14
  have F14 := fsE E14 (ck (cq2 F8 rfl) rfl rfl)
  clear E14 Y8 F8
  refine tk H12 ?_
  refine wp_block ?_
  refine wp_seq_k fun K15 H15 => ?_
  refine wp_block ?_
  refine wp_seq_k fun K16 H16 => ?_
  refine wp_block ?_
  refine wp_seq_k fun K17 H17 => ?_
  refine wp_seq_k fun K18 H18 => ?_
  refine wp_seq_k fun K19 H19 => ?_
  refine region_in ?_
  refine W_v rfl rfl (V_mov rfl (fg0 F14)) ?_
  refine W_v rfl rfl (V_gtr rfl (et rfl) rfl) ?_
  refine W_v rfl rfl (V_asg rfl (et rfl)) ?_
  refine W_end (gen_Q fun A20 E20 => ?_)
  have Y20 := szq E20
  have F20 := fsE E20 (ck (cq2 F14 rfl) rfl rfl)
  clear E20 Y14 F14
  refine tk H19 ?_
  refine cond_dec (fg0 F20) (fun c21 => ?_) (fun c21 => ?_)
  ·refine wp_exit ?_
   refine then_exit ?_
   refine then_exit ?_
   refine inb_hit ?_
   refine tk H16 ?_
   refine region_in ?_
   refine W_v rfl rfl (V_mov rfl (fg5 F20)) ?_
   refine W_v rfl rfl (V_add rfl (et rfl) rfl (by omega) (by omega)) ?_
   refine W_v rfl rfl (V_asg rfl (et rfl)) ?_
   refine W_end (gen_Q fun A22 E22 => ?_)
   have Y22 := szq E22
   have F22 := fsE E22 (ck (cq2 (fx5 F20) rfl) rfl rfl)
   clear E22 Y20 F20
   refine inb_n ?_
   refine tk H15 ?_
   refine wp_seq_k fun K23 H23 => ?_
   refine region_in ?_
   refine W_v rfl rfl (V_mov rfl (fg6 F22)) ?_
   refine W_v rfl rfl (V_add rfl (et rfl) rfl (by omega) (by omega)) ?_
   refine W_v rfl rfl (V_asg rfl (et rfl)) ?_
   refine W_end (gen_Q fun A24 E24 => ?_)
   have Y24 := szq E24
   have F24 := fsE E24 (ck (cq2 (fx6 F22) rfl) rfl rfl)
   clear E24 Y22 F22
   refine tk H23 ?_
   refine wp_exit ?_
   refine inb_hit ?_
   refine inb_n ?_
   refine tk H11 ?_
   refine region_in ?_
   refine W_v rfl rfl (V_add rfl (fg4 F24) rfl (by omega) (by omega)) ?_
   refine W_v rfl rfl (V_mov rfl (et rfl)) ?_
   refine W_end (gen_Q fun A25 E25 => ?_)
   have Y25 := szq E25
   have F25 := fsE E25 (ck (cq1 (fx4 F24) rfl) rfl rfl)
   clear E25 Y24 F24
   refine then_n ⟨c.length - (k + 1), by simp only [hm6]; omega, Y25, F25.d, (k + 1), rfl, (by omega), (cnt_bd _ _), (((fg0 F25)).trans (by first | rfl | (simp; done) | (congr 1; omega))), (((fg1 F25)).trans ((by rw [usd_snoc hy13]; first | (rw [if_pos (by omega)]; rfl) | (rw [if_neg (by omega)]; rfl)))), (((fg2 F25)).trans ((by rw [adr_snoc hy13]; first | (rw [if_pos (by omega)]; rfl) | (rw [if_neg (by omega)]; rfl)))), (((fg6 F25)).trans (fg2 F5).symm), (((fg5 F25)).trans (fg1 F5).symm), S6⟩
  refine wp_skip ?_
  refine tk H18 ?_
  refine wp_seq_k fun K26 H26 => ?_
  refine region_in ?_
  refine W_v rfl rfl (V_mov rfl (fg1 F20)) ?_
  refine W_v rfl rfl (V_lss rfl (et rfl) rfl) ?_
  refine W_v rfl rfl (V_asg rfl (et rfl)) ?_
  refine W_end (gen_Q fun A27 E27 => ?_)
  have Y27 := szq E27
  have F27 := fsE E27 (ck (cq2 F20 rfl) rfl rfl)
  clear E27 Y20 F20
  refine tk H26 ?_
  refine cond_dec (fg0 F27) (fun c28 => ?_) (fun c28 => ?_)
  ·refine wp_exit ?_
   refine then_exit ?_
   refine inb_miss rfl ?_
   refine then_exit ?_
   refine inb_hit ?_
   refine tk H15 ?_
   refine wp_seq_k fun K29 H29 => ?_
   refine region_in ?_
   refine W_v rfl rfl (V_mov rfl (fg7 F27)) ?_
   refine W_v rfl rfl (V_add rfl (et rfl) rfl (by omega) (by omega)) ?_
   refine W_v rfl rfl (V_asg rfl (et rfl)) ?_
   refine W_end (gen_Q fun A30 E30 => ?_)
   have Y30 := szq E30
   have F30 := fsE E30 (ck (cq2 (fx7 F27) rfl) rfl rfl)
   clear E30 Y27 F27
   refine tk H29 ?_
   refine wp_exit ?_
   refine inb_hit ?_
   refine inb_n ?_
   refine tk H11 ?_
   refine region_in ?_
   refine W_v rfl rfl (V_add rfl (fg4 F30) rfl (by omega) (by omega)) ?_
   refine W_v rfl rfl (V_mov rfl (et rfl)) ?_
   refine W_end (gen_Q fun A31 E31 => ?_)
   have Y31 := szq E31
   have F31 := fsE E31 (ck (cq1 (fx4 F30) rfl) rfl rfl)
   clear E31 Y30 F30
   refine then_n ⟨c.length - (k + 1), by simp only [hm6]; omega, Y31, F31.d, (k + 1), rfl, (by omega), (cnt_bd _ _), (((fg0 F31)).trans (by first | rfl | (simp; done) | (congr 1; omega))), (((fg1 F31)).trans ((by rw [usd_snoc hy13]; first | (rw [if_pos (by omega)]; rfl) | (rw [if_neg (by omega)]; rfl)))), (((fg7 F31)).trans ((by rw [adr_snoc hy13]; first | (rw [if_pos (by omega)]; rfl) | (rw [if_neg (by omega)]; rfl)))), (((fg6 F31)).trans (fg2 F5).symm), (((fg5 F31)).trans (fg1 F5).symm), S6⟩
  refine wp_skip ?_
  refine tk H17 ?_
  refine wp_exit ?_
  refine inb_miss rfl ?_
  refine then_exit ?_
  refine inb_miss rfl ?_
  refine then_exit ?_
  refine inb_hit ?_
  refine inb_n ?_
  refine tk H11 ?_
  refine region_in ?_
  refine W_v rfl rfl (V_add rfl (fg3 F27) rfl (by omega) (by omega)) ?_
  refine W_v rfl rfl (V_mov rfl (et rfl)) ?_
  refine W_end (gen_Q fun A32 E32 => ?_)
  have Y32 := szq E32
  have F32 := fsE E32 (ck (cq1 (fx3 F27) rfl) rfl rfl)
  clear E32 Y27 F27
  refine then_n ⟨c.length - (k + 1), by simp only [hm6]; omega, Y32, F32.d, (k + 1), rfl, (by omega), (cnt_bd _ _), (((fg0 F32)).trans (by first | rfl | (simp; done) | (congr 1; omega))), (((fg7 F32)).trans ((by rw [usd_snoc hy13]; first | (rw [if_pos (by omega)]; rfl) | (rw [if_neg (by omega)]; rfl)))), (((fg6 F32)).trans ((by rw [adr_snoc hy13]; first | (rw [if_pos (by omega)]; rfl) | (rw [if_neg (by omega)]; rfl)))), (((fg5 F32)).trans (fg2 F5).symm), (((fg4 F32)).trans (fg1 F5).symm), S6⟩
 refine wp_exit ?_
 refine then_exit ?_
 refine then_exit ?_
 refine inb_hit ?_
 refine tk H3 ?_
 refine wp_seq_k fun K33 H33 => ?_
 refine region_in ?_
 refine W_v rfl rfl (V_mov rfl (fg4 F8)) ?_
 refine W_v rfl rfl (V_mov rfl (es rfl (fg3 F8))) ?_
 refine W_v rfl rfl (V_asg rfl (es rfl (et rfl))) ?_
 refine W_v rfl rfl (V_asg rfl (es rfl (et rfl))) ?_
 refine W_end (gen_Q fun A34 E34 => ?_)
 have Y34 := szq E34
 have F34 := fsE E34 (ck (ck (cq2 (fx3 (fx3 F8)) rfl) rfl rfl) rfl rfl)
 clear E34 Y8 F8
 refine tk H33 ?_
 refine wp_ret ?_
 refine ret_in (results_2 Try.results82 (rv_tmp (fg1 F34)) (rv_tmp (fg0 F34))) F34.d ?_
 have e : c.take k = c := List.take_of_length_le (by omega)
 have e1 : usd c = usd (c.take k) := by rw [e]
 have e2 : adr c = adr (c.take k) := by rw [e]
 rw [e1, e2]
 exact ⟨rfl, S6.fin0⟩

set_option maxHeartbeats 4000000 in
theorem kadr_c {a : Int} {w : World}   :
  Calls Try.prog 125 #[.int .i64 a] w fun e w' => e = .returned (.bool (decide (1 ≤ a ∧ a ≤ 1600))) ∧ St w NoX [] w' := by
 refine calls_in 9 Try.func125 rfl rfl (by simp) (fun A0 Y0 hdf0 hargs => ?_)
 have l0_0 := hargs 0 (.int .i64 a) rfl
 clear hargs; replace Y0 : SzN A0 9 := ⟨Y0⟩
 have hS := St.nil w
 refine wp_seq_k fun K1 H1 => ?_
 refine region_in ?_
 refine W_v rfl rfl (V_asg rfl rfl) ?_
 refine W_end (gen_Q fun A2 E2 => ?_)
 have Y2 := szq E2
 have F2 := (fsE E2 (cq1 (FS.n hdf0) rfl)).c (lookE E2 0 (es rfl l0_0))
 clear E2 Y0 hdf0 l0_0
 refine tk H1 ?_
 refine wp_seq_k fun K3 H3 => ?_
 refine region_in ?_
 refine W_v rfl rfl (V_mov rfl (fg0 F2)) ?_
 refine W_v rfl rfl (V_geq rfl (et rfl) rfl) ?_
 refine W_split rfl rfl (V_mov rfl (et rfl)) (fun c4 => ?_) (fun c4 => ?_)
 ·refine W_v rfl (wanted_t rfl rfl (et rfl) (ez rfl)) (V_mov rfl (es3 rfl (fg0 F2))) ?_
  refine W_v rfl (wanted_t rfl rfl (es rfl (et rfl)) (ez rfl)) (V_leq rfl (et rfl) rfl) ?_
  refine W_v rfl rfl (V_pickT rfl (es2 rfl (et rfl)) (et rfl)) ?_
  refine W_v rfl rfl (V_asg rfl (et rfl)) ?_
  refine W_end (gen_Q fun A5 E5 => ?_)
  have Y5 := szq E5
  have F5 := fsE E5 (ck (cq6 F2 rfl) rfl rfl)
  clear E5 Y2 F2
  refine tk H3 ?_
  refine wp_ret ?_
  refine ret_in (results_1 Try.results125 (rv_tmp (fg0 F5))) F5.d ?_
  rw [show (decide (1 ≤ a ∧ a ≤ 1600)) = decide (a ≤ 1600) by exact decide_eq_decide.2 (by omega)]
  exact ⟨rfl, hS.fin0⟩
 refine W_off rfl (wanted_f rfl rfl (et rfl) (ez rfl) rfl) ?_
 refine W_off rfl (wanted_f rfl rfl (es rfl (et rfl)) (ez rfl) rfl) ?_
 refine W_v rfl rfl (V_pickF rfl (es2 rfl (et rfl)) rfl) ?_
 refine W_v rfl rfl (V_asg rfl (et rfl)) ?_
 refine W_end (gen_Q fun A6 E6 => ?_)
 have Y6 := szq E6
 have F6 := fsE E6 (ck (cq6 F2 rfl) rfl rfl)
 clear E6 Y2 F2
 refine tk H3 ?_
 refine wp_ret ?_
 refine ret_in (results_1 Try.results125 (rv_tmp (fg0 F6))) F6.d ?_
 rw [show (decide (1 ≤ a ∧ a ≤ 1600)) = false by exact decide_eq_false (by omega)]
 exact ⟨rfl, hS.fin0⟩

set_option maxHeartbeats 4000000 in
theorem kown_c {cv : Value} {c : List Int} {w : World} (h_cv : Ro w NoX (il .i64 cv c)) (hl : c.length ≤ 8192) :
  Calls Try.prog 81 #[.agg #[cv]] w fun e w' => ∃ v, e = .returned (v) ∧ St w NoX [io .i64 (v) c] w' := by
 refine calls_in 13 Try.func81 rfl rfl (by simp) (fun A0 Y0 hdf0 hargs => ?_)
 have l0_0 := hargs 0 (.agg #[cv]) rfl
 clear hargs; replace Y0 : SzN A0 13 := ⟨Y0⟩
 have hS := St.nil w
 have bh_cv := SlN.le (sl_SlN h_cv.at)
 refine wp_seq_k fun K1 H1 => ?_
 refine region_in ?_
 refine W_boxS (zs := #[cv]) hS rfl rfl rfl l0_0 (by rfl) (fun g2 w2 c2 hc2 S2 => ?_)
 replace S2 : St w NoX [c2] w2 := S2
 refine W_v rfl rfl (V_asg rfl rfl) ?_
 refine W_end (gen_Q fun A3 E3 => ?_)
 have Y3 := szq E3
 have F3 := fsE E3 (cq1 (ck (FS.n hdf0) rfl rfl) rfl)
 clear E3 Y0 hdf0 l0_0
 refine tk H1 ?_
 refine wp_seq_k fun K4 H4 => ?_
 refine region_in ?_
 refine W_v rfl rfl (V_fa (off' := 0) rfl (fg0 F3) Try.underlying27 rfl (by decide +kernel) rfl) ?_
 refine W_r rfl rfl (VR_ldC rfl (et rfl) (cell_box (v := cv) (S2.obj 0 rfl hc2) rfl) Try.underlying25 rfl) ?_
 refine W_v rfl rfl (V_lenS rfl (et rfl) (sl_SlN h_cv.at) Try.underlying25) ?_
 refine W_mkS (z := .int .i64 0) (bytes := 8) c.length S2 rfl rfl rfl (et rfl) (et rfl) (by omega) Try.underlying25 (by kernel_rfl) (by omega) rfl (fun v5 w5 c5 hc5 S5 => ?_)
 replace hc5 : c5 = io .i64 v5 (List.replicate c.length (0 : Int)) := hc5.trans (by simp only [io, bo, List.map_replicate, List.length_replicate])
 replace S5 : St w NoX [c5, c2] w5 := S5
 refine W_v rfl rfl (V_asg rfl (et rfl)) ?_
 refine W_end (gen_Q fun A6 E6 => ?_)
 have Y6 := szq E6
 have F6 := fsE E6 (ck (cq4 F3 rfl) rfl rfl)
 clear E6 Y3 F3
 refine tk H4 ?_
 refine wp_seq_k fun K7 H7 => ?_
 refine region_in ?_
 refine W_v rfl rfl (V_mov rfl (fg0 F6)) ?_
 refine W_v rfl rfl (V_fa (off' := 0) rfl (es rfl (fg1 F6)) Try.underlying27 rfl (by decide +kernel) rfl) ?_
 refine W_r rfl rfl (VR_ldC rfl (et rfl) (cell_box (v := cv) (S5.obj 1 rfl hc2) rfl) Try.underlying25 rfl) ?_
 refine W_copyS 0 S5 rfl hc5 rfl rfl rfl (es2 rfl (et rfl)) (et rfl) Try.underlying25 (by kernel_rfl) (SlN_cast (sl_SlN (S5.ro h_cv)) (by simp)) ones_i (fun w8 c8 hc8 S8 => ?_)
 replace hc8 : c8 = io .i64 v5 c := hc8.trans (by simp [io, bo])
 replace S8 : St w NoX [c8, c2] w8 := S8
 refine W_end (gen_Q fun A9 E9 => ?_)
 have Y9 := szq E9
 have F9 := fsE E9 (cq4 F6 rfl)
 clear E9 Y6 F6
 have S10 : St w NoX [c8] w8 := S8.sel [0] (by decide) rfl
 refine tk H7 ?_
 refine wp_seq_k fun K11 H11 => ?_
 refine region_in ?_
 refine W_v rfl rfl (V_mov rfl (fg0 F9)) ?_
 refine W_v rfl rfl (V_asg rfl (et rfl)) ?_
 refine W_end (gen_Q fun A12 E12 => ?_)
 have Y12 := szq E12
 have F12 := fsE E12 (ck (cq1 F9 rfl) rfl rfl)
 clear E12 Y9 F9
 refine tk H11 ?_
 refine wp_ret ?_
 refine ret_in (results_1 Try.results81 (rv_tmp (fg0 F12))) F12.d ?_
 exact ⟨_, rfl, (S10.fin1 0 rfl (hc8))⟩

set_option maxHeartbeats 4000000 in
theorem knew_c  {w : World}   :
  Calls Try.prog 52 #[] w fun e w' => ∃ v, e = .returned (.agg #[v]) ∧ St w NoX [io .i64 (v) (List.replicate 8 (0 : Int))] w' := by
 refine calls_in 3 Try.func52 rfl rfl (by simp) (fun A0 Y0 hdf0 hargs => ?_)
 clear hargs; replace Y0 : SzN A0 3 := ⟨Y0⟩
 have hS := St.nil w
 refine wp_seq_k fun K1 H1 => ?_
 refine region_in ?_
 refine W_allocS (z := .agg #[.slice none 0 0]) (zs := #[.slice none 0 0]) hS rfl rfl rfl (by kernel_rfl) (by rfl) (fun g2 w2 c2 hc2 S2 => ?_)
 replace S2 : St w NoX [c2] w2 := S2
 refine W_end (gen_Q fun A3 E3 => ?_)
 have Y3 := szq E3
 have F3 := fsE E3 (ck (FS.n hdf0) rfl rfl)
 clear E3 Y0 hdf0
 refine tk H1 ?_
 refine wp_seq_k fun K4 H4 => ?_
 refine region_in ?_
 refine W_mkS (z := .int .i64 0) (bytes := 8) 8 S2 rfl rfl rfl rfl rfl (by omega) Try.underlying25 (by kernel_rfl) (by omega) rfl (fun v5 w5 c5 hc5 S5 => ?_)
 replace hc5 : c5 = io .i64 v5 (List.replicate 8 (0 : Int)) := hc5.trans (by simp only [io, bo, List.map_replicate, List.length_replicate])
 replace S5 : St w NoX [c5, c2] w5 := S5
 refine W_v rfl rfl (V_bldS (n := 1) (z := .agg #[.slice none 0 0]) rfl (parts1 (et rfl)) (by kernel_rfl) (by simp only [List.all_cons, List.all_nil, SlN_one (ow_at (S5.chq 0 rfl hc5)), Bool.and_true] <;> rfl) (by kernel_rfl) (by simp only [List.foldl_cons, List.foldl_nil, Value.cells, List.setIfInBounds_toArray, List.set_cons_succ, List.set_cons_zero] <;> rfl)) ?_
 refine W_stAS 1 S5 rfl hc2 rfl rfl rfl (es2 rfl (fg0 F3)) (et rfl) (by simp only [List.all_toArray, List.all_cons, List.all_nil, SlN_one (ow_at (S5.chq 0 rfl hc5))] <;> rfl) (by rfl) (by kernel_rfl) (fun w6 c6 hc6 S6 => ?_)
 replace S6 : St w NoX [c5, c6] w6 := S6
 refine W_end (gen_Q fun A7 E7 => ?_)
 have Y7 := szq E7
 have F7 := fsE E7 (cq2 F3 rfl)
 clear E7 Y3 F3
 refine tk H4 ?_
 refine wp_ret ?_
 refine ret_in (results_1 Try.results52 (rv_cellA (fg0 F7) (S6.obj 1 rfl hc6) Try.underlying27 rfl (by kernel_rfl))) F7.d ?_
 exact ⟨_, rfl, (S6.fin1 0 rfl (hc5))⟩

set_option maxHeartbeats 4000000 in
theorem ksr1_c {x : Int} {w : World}   :
  Calls Try.prog 100 #[.int .i64 x] w fun e w' => e = .returned (.bool (decide (x ≤ 0))) ∧ St w NoX [] w' := by
 refine calls_in 5 Try.func100 rfl rfl (by simp) (fun A0 Y0 hdf0 hargs => ?_)
 have l0_0 := hargs 0 (.int .i64 x) rfl
 clear hargs; replace Y0 : SzN A0 5 := ⟨Y0⟩
 have hS := St.nil w
 refine wp_seq_k fun K1 H1 => ?_
 refine region_in ?_
 refine W_v rfl rfl (V_asg rfl rfl) ?_
 refine W_end (gen_Q fun A2 E2 => ?_)
 have Y2 := szq E2
 have F2 := (fsE E2 (cq1 (FS.n hdf0) rfl)).c (lookE E2 0 (es rfl l0_0))
 clear E2 Y0 hdf0 l0_0
 refine tk H1 ?_
 refine wp_seq_k fun K3 H3 => ?_
 refine region_in ?_
 refine W_v rfl rfl (V_mov rfl (fg0 F2)) ?_
 refine W_v rfl rfl (V_leq rfl (et rfl) rfl) ?_
 refine W_v rfl rfl (V_asg rfl (et rfl)) ?_
 refine W_end (gen_Q fun A4 E4 => ?_)
 have Y4 := szq E4
 have F4 := fsE E4 (ck (cq2 F2 rfl) rfl rfl)
 clear E4 Y2 F2
 refine tk H3 ?_
 refine wp_ret ?_
 refine ret_in (results_1 Try.results100 (rv_tmp (fg0 F4))) F4.d ?_
 exact ⟨rfl, hS.fin0⟩

set_option maxHeartbeats 4000000 in
theorem krg1_c {x : Int} {f : Int} {gf : Nat} {t : Int} {gt : Nat} {w : World} (hb_f : Ro w NoX (bx gf 3 #[.int .i64 f])) (hb_t : Ro w NoX (bx gt 3 #[.int .i64 t]))  :
  Calls Try.prog 77 #[.int .i64 x, .pointer (some ⟨gf, 0, none⟩), .pointer (some ⟨gt, 0, none⟩)] w fun e w' => e = .returned (.bool (decide (x < f ∨ t ≤ x))) ∧ St w NoX [] w' := by
 refine calls_in 13 Try.func77 rfl rfl (by simp) (fun A0 Y0 hdf0 hargs => ?_)
 have l0_0 := hargs 0 (.int .i64 x) rfl
 have l1_0 := hargs 1 (.pointer (some ⟨gf, 0, none⟩)) rfl
 have l2_0 := hargs 2 (.pointer (some ⟨gt, 0, none⟩)) rfl
 clear hargs; replace Y0 : SzN A0 13 := ⟨Y0⟩
 have hS := St.nil w
 refine wp_seq_k fun K1 H1 => ?_
 refine region_in ?_
 refine W_v rfl rfl (V_asg rfl rfl) ?_
 refine W_end (gen_Q fun A2 E2 => ?_)
 have Y2 := szq E2
 have F2 := (((fsE E2 (cq1 (FS.n hdf0) rfl)).c (lookE E2 0 (es rfl l0_0))).c (lookE E2 1 (es rfl l1_0))).c (lookE E2 2 (es rfl l2_0))
 clear E2 Y0 hdf0 l0_0 l1_0 l2_0
 refine tk H1 ?_
 refine wp_seq_k fun K3 H3 => ?_
 refine region_in ?_
 refine W_v rfl rfl (V_mov rfl (fg2 F2)) ?_
 refine W_r rfl rfl (VR_ldC rfl (es rfl (fg1 F2)) (cell_box (v := .int .i64 (f)) (ob_at (hS.ro hb_f)) rfl) Try.underlying3 rfl) ?_
 refine W_v rfl rfl (V_lss rfl (es rfl (et rfl)) (et rfl)) ?_
 refine W_split rfl rfl (V_mov rfl (et rfl)) (fun c4 => ?_) (fun c4 => ?_)
 ·refine W_off rfl (wanted_f rfl rfl (et rfl) (ez rfl) rfl) ?_
  refine W_off rfl (wanted_f rfl rfl (es rfl (et rfl)) (ez rfl) rfl) ?_
  refine W_off rfl (wanted_f rfl rfl (es2 rfl (et rfl)) (ez rfl) rfl) ?_
  refine W_v rfl rfl (V_pickT rfl (es3 rfl (et rfl)) rfl) ?_
  refine W_v rfl rfl (V_asg rfl (et rfl)) ?_
  refine W_end (gen_Q fun A5 E5 => ?_)
  have Y5 := szq E5
  have F5 := fsE E5 (ck (cq8 F2 rfl) rfl rfl)
  clear E5 Y2 F2
  refine tk H3 ?_
  refine wp_ret ?_
  refine ret_in (results_1 Try.results77 (rv_tmp (fg0 F5))) F5.d ?_
  rw [show (decide (x < f ∨ t ≤ x)) = true by exact decide_eq_true (by omega)]
  exact ⟨rfl, hS.fin0⟩
 refine W_v rfl (wanted_t rfl rfl (et rfl) (ez rfl)) (V_mov rfl (es4 rfl (fg2 F2))) ?_
 refine W_r rfl (wanted_t rfl rfl (es rfl (et rfl)) (ez rfl)) (VR_ldC rfl (es5 rfl (fg0 F2)) (cell_box (v := .int .i64 (t)) (ob_at (hS.ro hb_t)) rfl) Try.underlying3 rfl) ?_
 refine W_v rfl (wanted_t rfl rfl (es2 rfl (et rfl)) (ez rfl)) (V_geq rfl (es rfl (et rfl)) (et rfl)) ?_
 refine W_v rfl rfl (V_pickF rfl (es3 rfl (et rfl)) (et rfl)) ?_
 refine W_v rfl rfl (V_asg rfl (et rfl)) ?_
 refine W_end (gen_Q fun A6 E6 => ?_)
 have Y6 := szq E6
 have F6 := fsE E6 (ck (cq8 F2 rfl) rfl rfl)
 clear E6 Y2 F2
 refine tk H3 ?_
 refine wp_ret ?_
 refine ret_in (results_1 Try.results77 (rv_tmp (fg0 F6))) F6.d ?_
 rw [show (decide (x < f ∨ t ≤ x)) = decide (t ≤ x) by exact decide_eq_decide.2 (by omega)]
 exact ⟨rfl, hS.fin0⟩

set_option maxHeartbeats 4000000 in
theorem kixs_c {rv : Value} {l : List Int} {w : World} (h_rv : Ro w NoX (il .i64 rv l))  :
  Calls Try.prog 101 #[rv, .func (.func 100) #[] #[]] w fun e w' => e = .returned (.int .i64 (idxF (fun x => decide (x ≤ 0)) l)) ∧ St w NoX [] w' := by
 refine calls_in 19 Try.func101 rfl rfl (by simp) (fun A0 Y0 hdf0 hargs => ?_)
 have l0_0 := hargs 0 (rv) rfl
 have l1_0 := hargs 1 (.func (.func 100) #[] #[]) rfl
 clear hargs; replace Y0 : SzN A0 19 := ⟨Y0⟩
 have hS := St.nil w
 have bh_rv := SlN.le (sl_SlN h_rv.at)
 refine wp_seq_k fun K1 H1 => ?_
 refine region_in ?_
 refine W_v rfl rfl (V_asg rfl rfl) ?_
 refine W_end (gen_Q fun A2 E2 => ?_)
 have Y2 := szq E2
 have F2 := ((fsE E2 (cq1 (FS.n hdf0) rfl)).c (lookE E2 0 (es rfl l0_0))).c (lookE E2 1 (es rfl l1_0))
 clear E2 Y0 hdf0 l0_0 l1_0
 refine tk H1 ?_
 refine wp_seq_k fun K3 H3 => ?_
 refine wp_seq_k fun K4 H4 => ?_
 refine region_in ?_
 refine W_v rfl rfl (V_mov rfl (fg1 F2)) ?_
 refine W_v rfl rfl (V_lenS rfl (et rfl) (sl_SlN h_rv.at) Try.underlying25) ?_
 refine W_v rfl rfl (V_mov rfl rfl) ?_
 refine W_end (gen_Q fun A5 E5 => ?_)
 have Y5 := szq E5
 have F5 := fsE E5 (ck (cq2 F2 rfl) rfl rfl)
 have l0_5 := lookE E5 0 (es3 rfl (fg1 F2))
 have l1_5 := lookE E5 1 (es3 rfl (fg0 F2))
 have l7_5 := lookE E5 7 (es rfl (et rfl))
 clear E5 Y2 F2
 refine tk H4 ?_
 refine wp_block ?_
 -- loop 2
 refine loopX (fun mz A' w' => SzN A' 19 ∧ A'.defers = [] ∧ (∃ (k : Nat), (mz = l.length - k) ∧ (k ≤ l.length) ∧ (∀ i, i < k → ∀ x, l[i]? = some x → (fun x => decide (x ≤ 0)) x = false) ∧ (EV A' (.tmp 8) = .int .i64 (k : Int)) ∧ (EV A' (.tmp 0) = EV A5 (.tmp 0)) ∧ (EV A' (.tmp 1) = EV A5 (.tmp 1)) ∧ (EV A' (.tmp 7) = EV A5 (.tmp 7)) ∧ (St w NoX [] w'))) (l.length - 0) ⟨Y5, F5.d, 0, rfl, (Nat.zero_le _), (fun i hi => by omega), (((fg0 F5)).trans (by first | rfl | (simp; done) | (congr 1; omega))), rfl, rfl, rfl, hS⟩ ?_
 clear hS
 rintro n6 A6 w6 ⟨Y6, hdf6, k, hm6, hk, hz, l8_6, u0_6, u1_6, u7_6, S6⟩
 have l0_6 := u0_6.trans l0_5
 have l1_6 := u1_6.trans l1_5
 have l7_6 := u7_6.trans l7_5
 refine wp_seq_k fun K7 H7 => ?_
 refine region_in ?_
 refine W_v rfl rfl (V_lss rfl l8_6 l7_6) ?_
 refine W_end (gen_Q fun A8 E8 => ?_)
 have Y8 := szq E8
 have F8 := ((((fsE E8 (ck (FS.n hdf6) rfl rfl)).c (lookE E8 0 (es rfl l0_6))).c (lookE E8 1 (es rfl l1_6))).c (lookE E8 7 (es rfl l7_6))).c (lookE E8 8 (es rfl l8_6))
 clear E8 Y6 hdf6 l8_6 l0_6 l1_6 l7_6
 refine tk H7 ?_
 refine wp_seq_k fun K9 H9 => ?_
 refine cond_dec (fg4 F8) (fun c10 => ?_) (fun c10 => ?_)
 ·refine wp_skip ?_
  refine tk H9 ?_
  refine wp_seq_k fun K11 H11 => ?_
  refine wp_block ?_
  refine wp_seq_k fun K12 H12 => ?_
  refine region_in ?_
  refine W_v rfl rfl (V_mov rfl (fg0 F8)) ?_
  refine W_v rfl rfl (V_asg rfl (et rfl)) ?_
  refine W_end (gen_Q fun A13 E13 => ?_)
  have Y13 := szq E13
  have F13 := fsE E13 (ck (cq1 F8 rfl) rfl rfl)
  clear E13 Y8 F8
  refine tk H12 ?_
  refine wp_seq_k fun K14 H14 => ?_
  refine region_in ?_
  refine W_v rfl rfl (V_mov rfl (fg3 F13)) ?_
  refine W_v rfl rfl (V_mov rfl (es rfl (fg4 F13))) ?_
  refine W_v rfl rfl (V_mov rfl (es2 rfl (fg0 F13))) ?_
  have k15 : k < l.length := by first | omega | (simp only [List.length_cons, List.length_nil]; omega) | (simp only [List.length_set]; omega) | decide
  obtain ⟨y15, hy15⟩ := get_some (xs := l) (k := k) k15
  obtain ⟨B15, O15, C15, hv15⟩ := (SlN.blk (sl_SlN h_rv.at) (by first | omega | (simp only [List.length_cons, List.length_nil]; omega) | (simp only [List.length_set]; omega) | decide))
  refine W_v rfl rfl (V_ixS (off := O15 + k) 1 (k) rfl (es rfl (et rfl)) (et rfl) hv15 (by omega) k15 Try.underlying25 (by kernel_rfl) (congrArg _ (Nat.mul_one _))) ?_
  refine W_r rfl rfl (VR_ldC rfl (et rfl) ((sl_SlN (S6.ro h_rv)).cell hv15 (map_get hy15)) Try.underlying3 rfl) ?_
  refine W_callV rfl rfl rfl (es4 rfl (et rfl)) Try.func100 (by kernel_rfl) rfl (args1 (et rfl)) (ksr1_c (x := y15)  ) ?_
  rintro _ w16 ⟨rfl, hP16⟩
  refine ⟨_, rfl, ?_⟩
  have S16 := S6.join hP16
  replace S16 : St w NoX [] w16 := S16
  refine W_end (gen_Q fun A17 E17 => ?_)
  have Y17 := szq E17
  have F17 := fsE E17 (ck (cq5 F13 rfl) rfl rfl)
  clear E17 Y13 F13
  refine tk H14 ?_
  refine cond_dec (fg0 F17) (fun c18 => ?_) (fun c18 => ?_)
  ·refine wp_seq_k fun K19 H19 => ?_
   refine region_in ?_
   refine W_v rfl rfl (V_mov rfl (fg1 F17)) ?_
   refine W_v rfl rfl (V_asg rfl (et rfl)) ?_
   refine W_end (gen_Q fun A20 E20 => ?_)
   have Y20 := szq E20
   have F20 := fsE E20 (ck (cq1 F17 rfl) rfl rfl)
   clear E20 Y17 F17
   refine tk H19 ?_
   refine wp_ret ?_
   refine inb_ret ?_
   refine then_ret ?_
   refine then_ret ?_
   refine inb_ret ?_
   refine then_ret ?_
   refine ret_in (results_1 Try.results101 (rv_tmp (fg0 F20))) F20.d ?_
   have e0 : idxF (fun x => decide (x ≤ 0)) l = (k : Int) := by exact idxF_at hz hy15 (show (fun x => decide (x ≤ 0)) y15 = true by have hc := c18; first | simpa using hc | (simp at hc ⊢; omega))
   rw [e0]
   exact ⟨rfl, S16.fin0⟩
  refine wp_skip ?_
  refine inb_n ?_
  refine tk H11 ?_
  refine region_in ?_
  refine W_v rfl rfl (V_add rfl (fg2 F17) rfl (by omega) (by omega)) ?_
  refine W_v rfl rfl (V_mov rfl (et rfl)) ?_
  refine W_end (gen_Q fun A21 E21 => ?_)
  have Y21 := szq E21
  have F21 := fsE E21 (cq2 (fx2 F17) rfl)
  have l0_21 := lookE E21 0 (es2 rfl (fg5 F17))
  have l1_21 := lookE E21 1 (es2 rfl (fg4 F17))
  have l7_21 := lookE E21 7 (es2 rfl (fg3 F17))
  have l8_21 := lookE E21 8 (et rfl)
  clear E21 Y17 F17
  refine then_n ⟨l.length - (k + 1), by simp only [hm6]; omega, Y21, F21.d, (k + 1), rfl, (by omega), (no_step hz hy15 (show (fun x => decide (x ≤ 0)) y15 = false by have hc := c18; first | simpa using hc | (simp at hc ⊢; omega))), ((l8_21).trans (by first | rfl | (simp; done) | (congr 1; omega))), ((l0_21).trans l0_5.symm), ((l1_21).trans l1_5.symm), ((l7_21).trans l7_5.symm), S16⟩
 refine wp_exit ?_
 refine then_exit ?_
 refine then_exit ?_
 refine inb_hit ?_
 refine tk H3 ?_
 refine wp_seq_k fun K22 H22 => ?_
 refine region_in ?_
 refine W_v rfl rfl (V_asg rfl rfl) ?_
 refine W_end (gen_Q fun A23 E23 => ?_)
 have Y23 := szq E23
 have F23 := fsE E23 (ck F8 rfl rfl)
 clear E23 Y8 F8
 refine tk H22 ?_
 refine wp_ret ?_
 refine ret_in (results_1 Try.results101 (rv_tmp (fg0 F23))) F23.d ?_
 have e0 : idxF (fun x => decide (x ≤ 0)) l = (-1) := by exact idxF_no (fun i hi x hx => hz i (by omega) x hx)
 rw [e0]
 exact ⟨rfl, S6.fin0⟩

set_option maxHeartbeats 4000000 in
theorem kdls_c {v : Value} {l : List Int} {w : World} {Y : Nat → Prop}  (hS : St w Y [io .i64 v l] w)  :
  Calls Try.prog 76 #[v, .func (.func 100) #[] #[]] w fun e w' => ∃ u, e = .returned (u) ∧ (capS u = capS v) ∧ St w Y [io .i64 (u) (fl (fun x => decide (x ≤ 0)) l)] w' := by
 refine calls_in 42 Try.func76 rfl rfl (by simp) (fun A0 Y0 hdf0 hargs => ?_)
 have l0_0 := hargs 0 (v) rfl
 have l1_0 := hargs 1 (.func (.func 100) #[] #[]) rfl
 clear hargs; replace Y0 : SzN A0 42 := ⟨Y0⟩
 obtain ⟨m_v, hm_v, hS⟩ := gen1 hS
 replace hS : St w Y [m_v] w := hS
 have bm_v := SlN.le (ow_at (hS.chq 0 rfl hm_v))
 refine wp_seq_k fun K1 H1 => ?_
 refine region_in ?_
 refine W_v rfl rfl (V_asg rfl rfl) ?_
 refine W_end (gen_Q fun A2 E2 => ?_)
 have Y2 := szq E2
 have F2 := ((fsE E2 (cq1 (FS.n hdf0) rfl)).c (lookE E2 0 (es rfl l0_0))).c (lookE E2 1 (es rfl l1_0))
 clear E2 Y0 hdf0 l0_0 l1_0
 refine tk H1 ?_
 refine wp_seq_k fun K3 H3 => ?_
 refine region_in ?_
 refine W_v rfl rfl (V_mov rfl (fg1 F2)) ?_
 refine W_v rfl rfl (V_mov rfl (es rfl (fg0 F2))) ?_
 refine W_call rfl rfl rfl Try.func101 (by kernel_rfl) rfl (args2 (es rfl (et rfl)) (et rfl)) (kixs_c (hS.chC 0 rfl hm_v).own ) ?_
 rintro _ w4 ⟨rfl, hP4⟩
 refine ⟨_, rfl, ?_⟩
 have S4 := hS.join hP4
 replace S4 : St w Y [m_v] w4 := S4
 refine W_v rfl rfl (V_asg rfl (et rfl)) ?_
 refine W_end (gen_Q fun A5 E5 => ?_)
 have Y5 := szq E5
 have F5 := fsE E5 (ck (cq3 F2 rfl) rfl rfl)
 clear E5 Y2 F2
 refine tk H3 ?_
 refine wp_seq_k fun K6 H6 => ?_
 refine wp_seq_k fun K7 H7 => ?_
 refine region_in ?_
 refine W_v rfl rfl (V_mov rfl (fg0 F5)) ?_
 refine W_v rfl rfl (V_eql rfl (et rfl) rfl) ?_
 refine W_end (gen_Q fun A8 E8 => ?_)
 have Y8 := szq E8
 have F8 := fsE E8 (ck (cq1 F5 rfl) rfl rfl)
 clear E8 Y5 F5
 refine tk H7 ?_
 refine cond_dec (fg0 F8) (fun c9 => ?_) (fun c9 => ?_)
 ·refine wp_seq_k fun K10 H10 => ?_
  refine region_in ?_
  refine W_v rfl rfl (V_mov rfl (fg3 F8)) ?_
  refine W_v rfl rfl (V_asg rfl (et rfl)) ?_
  refine W_end (gen_Q fun A11 E11 => ?_)
  have Y11 := szq E11
  have F11 := fsE E11 (ck (cq1 F8 rfl) rfl rfl)
  clear E11 Y8 F8
  refine tk H10 ?_
  refine wp_ret ?_
  refine then_ret ?_
  refine ret_in (results_1 Try.results76 (rv_tmp (fg0 F11))) F11.d ?_
  exact ⟨_, rfl, rfl, (S4.fin1 0 rfl (hm_v.trans (congrArg (io .i64 _) (fl_no c9))))⟩
 obtain ⟨k0, y0, hk0, hy0, hpy0, hn0⟩ := idxF_spec (p := (fun x => decide (x ≤ 0))) c9
 have h0 := df_init hy0 hpy0 hn0
 have hk0l := (List.getElem?_eq_some_iff.1 hy0).1
 refine wp_skip ?_
 refine tk H6 ?_
 refine wp_seq_k fun K12 H12 => ?_
 refine wp_seq_k fun K13 H13 => ?_
 refine region_in ?_
 refine W_v rfl rfl (V_mov rfl (fg1 F8)) ?_
 refine W_v rfl rfl (V_add rfl (et rfl) rfl (by omega) (by omega)) ?_
 refine W_v rfl rfl (V_asg rfl (et rfl)) ?_
 refine W_end (gen_Q fun A14 E14 => ?_)
 have Y14 := szq E14
 have F14 := fsE E14 (ck (cq2 F8 rfl) rfl rfl)
 have l0_14 := lookE E14 0 (es3 rfl (fg3 F8))
 have l1_14 := lookE E14 1 (es3 rfl (fg2 F8))
 clear E14 Y8 F8
 refine tk H13 ?_
 refine wp_block ?_
 -- loop 5
 refine loopX (fun mz A' w' => SzN A' 42 ∧ A'.defers = [] ∧ (∃ (j : Nat) (gar : List Int), (mz = l.length - j) ∧ (j ≤ l.length) ∧ ((fl (fun x => decide (x ≤ 0)) (l.take j)).length + gar.length = j) ∧ ((dfD (fun x => decide (x ≤ 0)) l gar j).length = l.length) ∧ (EV A' (.tmp 6) = .int .i64 (j : Int)) ∧ (EV A' (.tmp 5) = .int .i64 ((fl (fun x => decide (x ≤ 0)) (l.take j)).length : Int)) ∧ (EV A' (.tmp 0) = EV A14 (.tmp 0)) ∧ (EV A' (.tmp 1) = EV A14 (.tmp 1)) ∧ (St w Y [io .i64 v (dfD (fun x => decide (x ≤ 0)) l gar j)] w'))) (l.length - (k0 + 1)) ⟨Y14, F14.d, (k0 + 1), [y0], rfl, (by omega), (by rw [h0.2]; rfl), (by rw [← h0.1]), (((fg0 F14)).trans ((by rw [hk0]; rfl))), (((fg2 F14)).trans ((by rw [h0.2, hk0]))), rfl, rfl, (by have q0 : m_v = io .i64 v (dfD (fun x => decide (x ≤ 0)) l [y0] (k0 + 1)) := hm_v.trans ((congrArg (io .i64 _) h0.1)); subst q0; exact S4)⟩ ?_
 clear S4 hm_v
 rintro n15 A15 w15 ⟨Y15, hdf15, j, gar, hm15, hj, hgl, hdl, l6_15, l5_15, u0_15, u1_15, S15⟩
 have l0_15 := u0_15.trans l0_14
 have l1_15 := u1_15.trans l1_14
 obtain ⟨m_v_15, hm_v_15, S15⟩ := gen1 S15
 refine wp_seq_k fun K16 H16 => ?_
 refine wp_seq_k fun K17 H17 => ?_
 refine region_in ?_
 refine W_v rfl rfl (V_mov rfl l6_15) ?_
 refine W_v rfl rfl (V_mov rfl (es rfl l0_15)) ?_
 refine W_v rfl rfl (V_lenS rfl (et rfl) (ow_at (S15.chq 0 rfl hm_v_15)) Try.underlying25) ?_
 refine W_v rfl rfl (V_lss rfl (es2 rfl (et rfl)) (et rfl)) ?_
 refine W_end (gen_Q fun A18 E18 => ?_)
 have Y18 := szq E18
 have F18 := ((((fsE E18 (ck (cq3 (FS.n hdf15) rfl) rfl rfl)).c (lookE E18 0 (es4 rfl l0_15))).c (lookE E18 1 (es4 rfl l1_15))).c (lookE E18 5 (es4 rfl l5_15))).c (lookE E18 6 (es4 rfl l6_15))
 clear E18 Y15 hdf15 l6_15 l5_15 l0_15 l1_15
 refine tk H17 ?_
 refine cond_dec (fg4 F18) (fun c19 => ?_) (fun c19 => ?_)
 ·refine wp_skip ?_
  refine tk H16 ?_
  refine wp_seq_k fun K20 H20 => ?_
  refine wp_block ?_
  refine wp_seq_k fun K21 H21 => ?_
  refine region_in ?_
  refine W_v rfl rfl (V_mov rfl (fg3 F18)) ?_
  refine W_v rfl rfl (V_mov rfl (es rfl (fg0 F18))) ?_
  have k22 : j < (dfD (fun x => decide (x ≤ 0)) l gar j).length := by first | omega | (simp only [List.length_cons, List.length_nil]; omega) | (simp only [List.length_set]; omega) | decide
  obtain ⟨y22, hy22⟩ := get_some (xs := (dfD (fun x => decide (x ≤ 0)) l gar j)) (k := j) k22
  have hq22 := df_get hgl hy22
  obtain ⟨B22, O22, C22, hv22⟩ := (SlN.blk (ow_at (S15.chq 0 rfl hm_v_15)) (by first | omega | (simp only [List.length_cons, List.length_nil]; omega) | (simp only [List.length_set]; omega) | decide))
  refine W_v rfl rfl (V_ixS (off := O22 + j) 1 (j) rfl (es rfl (et rfl)) (et rfl) hv22 (by omega) k22 Try.underlying25 (by kernel_rfl) (congrArg _ (Nat.mul_one _))) ?_
  refine W_r rfl rfl (VR_ldC rfl (et rfl) ((ow_at (S15.chq 0 rfl hm_v_15)).cell hv22 (map_get hy22)) Try.underlying3 rfl) ?_
  refine W_v rfl rfl (V_asg rfl (et rfl)) ?_
  refine W_end (gen_Q fun A23 E23 => ?_)
  have Y23 := szq E23
  have F23 := fsE E23 (ck (cq4 F18 rfl) rfl rfl)
  clear E23 Y18 F18
  refine tk H21 ?_
  refine wp_seq_k fun K24 H24 => ?_
  refine region_in ?_
  refine W_v rfl rfl (V_mov rfl (fg3 F23)) ?_
  refine W_v rfl rfl (V_mov rfl (es rfl (fg0 F23))) ?_
  refine W_callV rfl rfl rfl (es rfl (et rfl)) Try.func100 (by kernel_rfl) rfl (args1 (et rfl)) (ksr1_c (x := y22)  ) ?_
  rintro _ w25 ⟨rfl, hP25⟩
  refine ⟨_, rfl, ?_⟩
  have S25 := S15.join hP25
  replace S25 : St w Y [m_v_15] w25 := S25
  refine W_v rfl rfl (V_notd rfl (et rfl)) ?_
  refine W_end (gen_Q fun A26 E26 => ?_)
  have Y26 := szq E26
  have F26 := fsE E26 (ck (cq3 F23 rfl) rfl rfl)
  clear E26 Y23 F23
  refine tk H24 ?_
  refine cond_dec (fg0 F26) (fun c27 => ?_) (fun c27 => ?_)
  ·refine wp_seq_k fun K28 H28 => ?_
   refine region_in ?_
   refine W_v rfl rfl (V_mov rfl (fg5 F26)) ?_
   refine W_v rfl rfl (V_mov rfl (es rfl (fg3 F26))) ?_
   refine W_v rfl rfl (V_mov rfl (es2 rfl (fg1 F26))) ?_
   have k29 : (fl (fun x => decide (x ≤ 0)) (l.take j)).length < (dfD (fun x => decide (x ≤ 0)) l gar j).length := by first | omega | (simp only [List.length_cons, List.length_nil]; omega) | (simp only [List.length_set]; omega) | decide
   obtain ⟨y29, hy29⟩ := get_some (xs := (dfD (fun x => decide (x ≤ 0)) l gar j)) (k := (fl (fun x => decide (x ≤ 0)) (l.take j)).length) k29
   refine W_v rfl rfl (V_ixS (off := O22 + ((fl (fun x => decide (x ≤ 0)) (l.take j)).length)) 1 ((fl (fun x => decide (x ≤ 0)) (l.take j)).length) rfl (es2 rfl (et rfl)) (es rfl (et rfl)) hv22 (by omega) k29 Try.underlying25 (by kernel_rfl) (congrArg _ (Nat.mul_one _))) ?_
   refine W_stE 0 S25 rfl hm_v_15 hv22 rfl rfl rfl (et rfl) (es rfl (et rfl)) (by rfl) rfl (by first | (simp only [List.length_map]; omega) | omega) (by kernel_rfl) (fun w30 c30 hc30 S30 => ?_)
   replace hc30 : c30 = io .i64 v ((dfD (fun x => decide (x ≤ 0)) l gar j).set ((fl (fun x => decide (x ≤ 0)) (l.take j)).length) y22) := hc30.trans (by simp [io, bo, List.map_set] <;> rfl)
   replace S30 : St w Y [c30] w30 := S30
   refine W_end (gen_Q fun A31 E31 => ?_)
   have Y31 := szq E31
   have F31 := fsE E31 (cq4 F26 rfl)
   clear E31 Y26 F26
   refine tk H28 ?_
   refine region_in ?_
   refine W_v rfl rfl (V_mov rfl (fg3 F31)) ?_
   refine W_v rfl rfl (V_add rfl (et rfl) rfl (by omega) (by omega)) ?_
   refine W_v rfl rfl (V_asg rfl (et rfl)) ?_
   refine W_end (gen_Q fun A32 E32 => ?_)
   have Y32 := szq E32
   have F32 := fsE E32 (ck (cq2 (fx3 F31) rfl) rfl rfl)
   clear E32 Y31 F31
   refine inb_n ?_
   refine tk H20 ?_
   refine region_in ?_
   refine W_v rfl rfl (V_mov rfl (fg3 F32)) ?_
   refine W_v rfl rfl (V_add rfl (et rfl) rfl (by omega) (by omega)) ?_
   refine W_v rfl rfl (V_asg rfl (et rfl)) ?_
   refine W_end (gen_Q fun A33 E33 => ?_)
   have Y33 := szq E33
   have F33 := fsE E33 (cq3 (fx3 F32) rfl)
   have l0_33 := lookE E33 0 (es3 rfl (fg5 F32))
   have l1_33 := lookE E33 1 (es3 rfl (fg4 F32))
   have l5_33 := lookE E33 5 (es3 rfl (fg0 F32))
   have l6_33 := lookE E33 6 (et rfl)
   clear E33 Y32 F32
   refine then_n ⟨l.length - (j + 1), by simp only [hm15]; omega, Y33, F33.d, (j + 1), (gar ++ [y22]).tail, rfl, (by omega), (df_keep hgl hq22 (show (fun x => decide (x ≤ 0)) y22 = false by have hc := c27; first | simpa using hc | (simp at hc ⊢; omega))).2.2, (dfD_len (by omega) (df_keep hgl hq22 (show (fun x => decide (x ≤ 0)) y22 = false by have hc := c27; first | simpa using hc | (simp at hc ⊢; omega))).2.2), ((l6_33).trans (by first | rfl | (simp; done) | (congr 1; omega))), ((l5_33).trans ((by rw [(df_keep hgl hq22 (show (fun x => decide (x ≤ 0)) y22 = false by have hc := c27; first | simpa using hc | (simp at hc ⊢; omega))).2.1] <;> first | rfl | (congr 1; omega)))), ((l0_33).trans l0_14.symm), ((l1_33).trans l1_14.symm), (by have q0 : c30 = io .i64 v (dfD (fun x => decide (x ≤ 0)) l ((gar ++ [y22]).tail) (j + 1)) := hc30.trans ((congrArg (io .i64 _) (df_keep hgl hq22 (show (fun x => decide (x ≤ 0)) y22 = false by have hc := c27; first | simpa using hc | (simp at hc ⊢; omega))).1)); subst q0; exact S30)⟩
  refine wp_skip ?_
  refine inb_n ?_
  refine tk H20 ?_
  refine region_in ?_
  refine W_v rfl rfl (V_mov rfl (fg2 F26)) ?_
  refine W_v rfl rfl (V_add rfl (et rfl) rfl (by omega) (by omega)) ?_
  refine W_v rfl rfl (V_asg rfl (et rfl)) ?_
  refine W_end (gen_Q fun A34 E34 => ?_)
  have Y34 := szq E34
  have F34 := fsE E34 (cq3 (fx2 F26) rfl)
  have l0_34 := lookE E34 0 (es3 rfl (fg5 F26))
  have l1_34 := lookE E34 1 (es3 rfl (fg4 F26))
  have l5_34 := lookE E34 5 (es3 rfl (fg3 F26))
  have l6_34 := lookE E34 6 (et rfl)
  clear E34 Y26 F26
  refine then_n ⟨l.length - (j + 1), by simp only [hm15]; omega, Y34, F34.d, (j + 1), (gar ++ [y22]), rfl, (by omega), (df_drop hgl hq22 (show (fun x => decide (x ≤ 0)) y22 = true by have hc := c27; first | simpa using hc | (simp at hc ⊢; omega))).2.2, (dfD_len (by omega) (df_drop hgl hq22 (show (fun x => decide (x ≤ 0)) y22 = true by have hc := c27; first | simpa using hc | (simp at hc ⊢; omega))).2.2), ((l6_34).trans (by first | rfl | (simp; done) | (congr 1; omega))), ((l5_34).trans ((by rw [(df_drop hgl hq22 (show (fun x => decide (x ≤ 0)) y22 = true by have hc := c27; first | simpa using hc | (simp at hc ⊢; omega))).2.1] <;> first | rfl | (congr 1; omega)))), ((l0_34).trans l0_14.symm), ((l1_34).trans l1_14.symm), (by have q0 : m_v_15 = io .i64 v (dfD (fun x => decide (x ≤ 0)) l (gar ++ [y22]) (j + 1)) := hm_v_15.trans ((congrArg (io .i64 _) (df_drop hgl hq22 (show (fun x => decide (x ≤ 0)) y22 = true by have hc := c27; first | simpa using hc | (simp at hc ⊢; omega))).1)); subst q0; exact S25)⟩
 refine wp_exit ?_
 refine then_exit ?_
 refine then_exit ?_
 refine inb_hit ?_
 refine tk H12 ?_
 refine wp_seq_k fun K35 H35 => ?_
 refine region_in ?_
 refine W_v rfl rfl (V_mov rfl (fg3 F18)) ?_
 refine W_v rfl rfl (V_mov rfl (es rfl (fg1 F18))) ?_
 have k36 : (fl (fun x => decide (x ≤ 0)) (l.take j)).length ≤ (dfD (fun x => decide (x ≤ 0)) l gar j).length := by omega
 have m36 : (dfD (fun x => decide (x ≤ 0)) l gar j).length ≤ (dfD (fun x => decide (x ≤ 0)) l gar j).length := by omega
 refine W_v rfl rfl (V_subS 1 ((fl (fun x => decide (x ≤ 0)) (l.take j)).length) ((dfD (fun x => decide (x ≤ 0)) l gar j).length) rfl (es rfl (et rfl)) (.inr ⟨_, _, rfl, (et rfl), by omega⟩) (.inl ⟨rfl, rfl⟩) Try.underlying25 (by kernel_rfl) (ow_at (S15.chq 0 rfl hm_v_15)) k36 m36) ?_
 refine W_clearS (z := .int .i64 0) 0 ((fl (fun x => decide (x ≤ 0)) (l.take j)).length) S15 rfl hm_v_15 (by omega) rfl rfl rfl (et rfl) Try.underlying25 (by kernel_rfl) rfl rfl (fun w37 c37 hc37 S37 => ?_)
 replace hc37 : c37 = io .i64 v ((dfD (fun x => decide (x ≤ 0)) l gar j).take ((fl (fun x => decide (x ≤ 0)) (l.take j)).length) ++ List.replicate ((dfD (fun x => decide (x ≤ 0)) l gar j).length - ((fl (fun x => decide (x ≤ 0)) (l.take j)).length)) (0 : Int)) := hc37.trans (clr_eq (by omega))
 have hcl37 : ((dfD (fun x => decide (x ≤ 0)) l gar j).take ((fl (fun x => decide (x ≤ 0)) (l.take j)).length) ++ List.replicate ((dfD (fun x => decide (x ≤ 0)) l gar j).length - ((fl (fun x => decide (x ≤ 0)) (l.take j)).length)) (0 : Int)).length = (dfD (fun x => decide (x ≤ 0)) l gar j).length := by rw [List.length_append, List.length_take, List.length_replicate]; omega
 replace S37 : St w Y [c37] w37 := S37
 refine W_end (gen_Q fun A38 E38 => ?_)
 have Y38 := szq E38
 have F38 := fsE E38 (cq3 F18 rfl)
 clear E38 Y18 F18
 refine tk H35 ?_
 refine wp_seq_k fun K39 H39 => ?_
 refine region_in ?_
 refine W_v rfl rfl (V_mov rfl (fg3 F38)) ?_
 refine W_v rfl rfl (V_mov rfl (es rfl (fg1 F38))) ?_
 have k40 : 0 ≤ (fl (fun x => decide (x ≤ 0)) (l.take j)).length := by omega
 have m40 : (fl (fun x => decide (x ≤ 0)) (l.take j)).length ≤ ((dfD (fun x => decide (x ≤ 0)) l gar j).take ((fl (fun x => decide (x ≤ 0)) (l.take j)).length) ++ List.replicate ((dfD (fun x => decide (x ≤ 0)) l gar j).length - ((fl (fun x => decide (x ≤ 0)) (l.take j)).length)) (0 : Int)).length := by omega
 obtain ⟨c40, hc40, S40⟩ := S37.sub 0 rfl hc37 (0) ((fl (fun x => decide (x ≤ 0)) (l.take j)).length) k40 m40
 replace hc40 : c40 = io .i64 (subS 1 v 0 ((fl (fun x => decide (x ≤ 0)) (l.take j)).length)) (((dfD (fun x => decide (x ≤ 0)) l gar j).take ((fl (fun x => decide (x ≤ 0)) (l.take j)).length) ++ List.replicate ((dfD (fun x => decide (x ≤ 0)) l gar j).length - ((fl (fun x => decide (x ≤ 0)) (l.take j)).length)) (0 : Int)).take ((fl (fun x => decide (x ≤ 0)) (l.take j)).length)) := hc40.trans (part_eq k40 m40 (by first | (simp; done) | exact List.take_of_length_le (by rw [List.length_drop]; omega)))
 replace S40 : St w Y [c40] w37 := S40
 refine W_v rfl rfl (V_subS 1 (0) ((fl (fun x => decide (x ≤ 0)) (l.take j)).length) rfl (es rfl (et rfl)) (.inl ⟨rfl, rfl⟩) (.inr ⟨_, _, rfl, (et rfl), by omega⟩) Try.underlying25 (by kernel_rfl) (ow_at (S37.chq 0 rfl hc37)) k40 m40) ?_
 refine W_v rfl rfl (V_asg rfl (et rfl)) ?_
 refine W_end (gen_Q fun A41 E41 => ?_)
 have Y41 := szq E41
 have F41 := fsE E41 (ck (cq3 F38 rfl) rfl rfl)
 clear E41 Y38 F38
 refine tk H39 ?_
 refine wp_ret ?_
 refine ret_in (results_1 Try.results76 (rv_tmp (fg0 F41))) F41.d ?_
 exact ⟨_, rfl, capS_sub _ _, (S40.fin1 0 rfl (hc40.trans (congrArg (io .i64 _) (df_end (by omega) rfl))))⟩

set_option maxHeartbeats 4000000 in
theorem kixr_c {rv : Value} {l : List Int} {f : Int} {gf : Nat} {t : Int} {gt : Nat} {w : World} (h_rv : Ro w NoX (il .i64 rv l)) (hb_f : Ro w NoX (bx gf 3 #[.int .i64 f])) (hb_t : Ro w NoX (bx gt 3 #[.int .i64 t]))  :
  Calls Try.prog 101 #[rv, .func (.func 77) #[] #[.pointer (some ⟨gf, 0, none⟩), .pointer (some ⟨gt, 0, none⟩)]] w fun e w' => e = .returned (.int .i64 (idxF (fun x => decide (x < f ∨ t ≤ x)) l)) ∧ St w NoX [] w' := by
 refine calls_in 19 Try.func101 rfl rfl (by simp) (fun A0 Y0 hdf0 hargs => ?_)
 have l0_0 := hargs 0 (rv) rfl
 have l1_0 := hargs 1 (.func (.func 77) #[] #[.pointer (some ⟨gf, 0, none⟩), .pointer (some ⟨gt, 0, none⟩)]) rfl
 clear hargs; replace Y0 : SzN A0 19 := ⟨Y0⟩
 have hS := St.nil w
 have bh_rv := SlN.le (sl_SlN h_rv.at)
 refine wp_seq_k fun K1 H1 => ?_
 refine region_in ?_
 refine W_v rfl rfl (V_asg rfl rfl) ?_
 refine W_end (gen_Q fun A2 E2 => ?_)
 have Y2 := szq E2
 have F2 := ((fsE E2 (cq1 (FS.n hdf0) rfl)).c (lookE E2 0 (es rfl l0_0))).c (lookE E2 1 (es rfl l1_0))
 clear E2 Y0 hdf0 l0_0 l1_0
 refine tk H1 ?_
 refine wp_seq_k fun K3 H3 => ?_
 refine wp_seq_k fun K4 H4 => ?_
 refine region_in ?_
 refine W_v rfl rfl (V_mov rfl (fg1 F2)) ?_
 refine W_v rfl rfl (V_lenS rfl (et rfl) (sl_SlN h_rv.at) Try.underlying25) ?_
 refine W_v rfl rfl (V_mov rfl rfl) ?_
 refine W_end (gen_Q fun A5 E5 => ?_)
 have Y5 := szq E5
 have F5 := fsE E5 (ck (cq2 F2 rfl) rfl rfl)
 have l0_5 := lookE E5 0 (es3 rfl (fg1 F2))
 have l1_5 := lookE E5 1 (es3 rfl (fg0 F2))
 have l7_5 := lookE E5 7 (es rfl (et rfl))
 clear E5 Y2 F2
 refine tk H4 ?_
 refine wp_block ?_
 -- loop 2
 refine loopX (fun mz A' w' => SzN A' 19 ∧ A'.defers = [] ∧ (∃ (k : Nat), (mz = l.length - k) ∧ (k ≤ l.length) ∧ (∀ i, i < k → ∀ x, l[i]? = some x → (fun x => decide (x < f ∨ t ≤ x)) x = false) ∧ (EV A' (.tmp 8) = .int .i64 (k : Int)) ∧ (EV A' (.tmp 0) = EV A5 (.tmp 0)) ∧ (EV A' (.tmp 1) = EV A5 (.tmp 1)) ∧ (EV A' (.tmp 7) = EV A5 (.tmp 7)) ∧ (St w NoX [] w'))) (l.length - 0) ⟨Y5, F5.d, 0, rfl, (Nat.zero_le _), (fun i hi => by omega), (((fg0 F5)).trans (by first | rfl | (simp; done) | (congr 1; omega))), rfl, rfl, rfl, hS⟩ ?_
 clear hS
 rintro n6 A6 w6 ⟨Y6, hdf6, k, hm6, hk, hz, l8_6, u0_6, u1_6, u7_6, S6⟩
 have l0_6 := u0_6.trans l0_5
 have l1_6 := u1_6.trans l1_5
 have l7_6 := u7_6.trans l7_5
 refine wp_seq_k fun K7 H7 => ?_
 refine region_in ?_
 refine W_v rfl rfl (V_lss rfl l8_6 l7_6) ?_
 refine W_end (gen_Q fun A8 E8 => ?_)
 have Y8 := szq E8
 have F8 := ((((fsE E8 (ck (FS.n hdf6) rfl rfl)).c (lookE E8 0 (es rfl l0_6))).c (lookE E8 1 (es rfl l1_6))).c (lookE E8 7 (es rfl l7_6))).c (lookE E8 8 (es rfl l8_6))
 clear E8 Y6 hdf6 l8_6 l0_6 l1_6 l7_6
 refine tk H7 ?_
 refine wp_seq_k fun K9 H9 => ?_
 refine cond_dec (fg4 F8) (fun c10 => ?_) (fun c10 => ?_)
 ·refine wp_skip ?_
  refine tk H9 ?_
  refine wp_seq_k fun K11 H11 => ?_
  refine wp_block ?_
  refine wp_seq_k fun K12 H12 => ?_
  refine region_in ?_
  refine W_v rfl rfl (V_mov rfl (fg0 F8)) ?_
  refine W_v rfl rfl (V_asg rfl (et rfl)) ?_
  refine W_end (gen_Q fun A13 E13 => ?_)
  have Y13 := szq E13
  have F13 := fsE E13 (ck (cq1 F8 rfl) rfl rfl)
  clear E13 Y8 F8
  refine tk H12 ?_
  refine wp_seq_k fun K14 H14 => ?_
  refine region_in ?_
  refine W_v rfl rfl (V_mov rfl (fg3 F13)) ?_
  refine W_v rfl rfl (V_mov rfl (es rfl (fg4 F13))) ?_
  refine W_v rfl rfl (V_mov rfl (es2 rfl (fg0 F13))) ?_
  have k15 : k < l.length := by first | omega | (simp only [List.length_cons, List.length_nil]; omega) | (simp only [List.length_set]; omega) | decide
  obtain ⟨y15, hy15⟩ := get_some (xs := l) (k := k) k15
  obtain ⟨B15, O15, C15, hv15⟩ := (SlN.blk (sl_SlN h_rv.at) (by first | omega | (simp only [List.length_cons, List.length_nil]; omega) | (simp only [List.length_set]; omega) | decide))
  refine W_v rfl rfl (V_ixS (off := O15 + k) 1 (k) rfl (es rfl (et rfl)) (et rfl) hv15 (by omega) k15 Try.underlying25 (by kernel_rfl) (congrArg _ (Nat.mul_one _))) ?_
  refine W_r rfl rfl (VR_ldC rfl (et rfl) ((sl_SlN (S6.ro h_rv)).cell hv15 (map_get hy15)) Try.underlying3 rfl) ?_
  refine W_callV rfl rfl rfl (es4 rfl (et rfl)) Try.func77 (by kernel_rfl) rfl (args1 (et rfl)) (krg1_c (x := y15) (f := f) (gf := gf) (t := t) (gt := gt) (S6.roC hb_f) (S6.roC hb_t) ) ?_
  rintro _ w16 ⟨rfl, hP16⟩
  refine ⟨_, rfl, ?_⟩
  have S16 := S6.join hP16
  replace S16 : St w NoX [] w16 := S16
  refine W_end (gen_Q fun A17 E17 => ?_)
  have Y17 := szq E17
  have F17 := fsE E17 (ck (cq5 F13 rfl) rfl rfl)
  clear E17 Y13 F13
  refine tk H14 ?_
  refine cond_dec (fg0 F17) (fun c18 => ?_) (fun c18 => ?_)
  ·refine wp_seq_k fun K19 H19 => ?_
   refine region_in ?_
   refine W_v rfl rfl (V_mov rfl (fg1 F17)) ?_
   refine W_v rfl rfl (V_asg rfl (et rfl)) ?_
   refine W_end (gen_Q fun A20 E20 => ?_)
   have Y20 := szq E20
   have F20 := fsE E20 (ck (cq1 F17 rfl) rfl rfl)
   clear E20 Y17 F17
   refine tk H19 ?_
   refine wp_ret ?_
   refine inb_ret ?_
   refine then_ret ?_
   refine then_ret ?_
   refine inb_ret ?_
   refine then_ret ?_
   refine ret_in (results_1 Try.results101 (rv_tmp (fg0 F20))) F20.d ?_
   have e0 : idxF (fun x => decide (x < f ∨ t ≤ x)) l = (k : Int) := by exact idxF_at hz hy15 (show (fun x => decide (x < f ∨ t ≤ x)) y15 = true by have hc := c18; first | simpa using hc | (simp at hc ⊢; omega))
   rw [e0]
   exact ⟨rfl, S16.fin0⟩
  refine wp_skip ?_
  refine inb_n ?_
  refine tk H11 ?_
  refine region_in ?_
  refine W_v rfl rfl (V_add rfl (fg2 F17) rfl (by omega) (by omega)) ?_
  refine W_v rfl rfl (V_mov rfl (et rfl)) ?_
  refine W_end (gen_Q fun A21 E21 => ?_)
  have Y21 := szq E21
  have F21 := fsE E21 (cq2 (fx2 F17) rfl)
  have l0_21 := lookE E21 0 (es2 rfl (fg5 F17))
  have l1_21 := lookE E21 1 (es2 rfl (fg4 F17))
  have l7_21 := lookE E21 7 (es2 rfl (fg3 F17))
  have l8_21 := lookE E21 8 (et rfl)
  clear E21 Y17 F17
  refine then_n ⟨l.length - (k + 1), by simp only [hm6]; omega, Y21, F21.d, (k + 1), rfl, (by omega), (no_step hz hy15 (show (fun x => decide (x < f ∨ t ≤ x)) y15 = false by have hc := c18; first | simpa using hc | (simp at hc ⊢; omega))), ((l8_21).trans (by first | rfl | (simp; done) | (congr 1; omega))), ((l0_21).trans l0_5.symm), ((l1_21).trans l1_5.symm), ((l7_21).trans l7_5.symm), S16⟩
 refine wp_exit ?_
 refine then_exit ?_
 refine then_exit ?_
 refine inb_hit ?_
 refine tk H3 ?_
 refine wp_seq_k fun K22 H22 => ?_
 refine region_in ?_
 refine W_v rfl rfl (V_asg rfl rfl) ?_
 refine W_end (gen_Q fun A23 E23 => ?_)
 have Y23 := szq E23
 have F23 := fsE E23 (ck F8 rfl rfl)
 clear E23 Y8 F8
 refine tk H22 ?_
 refine wp_ret ?_
 refine ret_in (results_1 Try.results101 (rv_tmp (fg0 F23))) F23.d ?_
 have e0 : idxF (fun x => decide (x < f ∨ t ≤ x)) l = (-1) := by exact idxF_no (fun i hi x hx => hz i (by omega) x hx)
 rw [e0]
 exact ⟨rfl, S6.fin0⟩

set_option maxHeartbeats 4000000 in
theorem kdlr_c {v : Value} {l : List Int} {f : Int} {gf : Nat} {t : Int} {gt : Nat} {w : World} {Y : Nat → Prop} (hb_f : Ro w Y (bx gf 3 #[.int .i64 f])) (hb_t : Ro w Y (bx gt 3 #[.int .i64 t])) (hS : St w Y [io .i64 v l] w)  :
  Calls Try.prog 76 #[v, .func (.func 77) #[] #[.pointer (some ⟨gf, 0, none⟩), .pointer (some ⟨gt, 0, none⟩)]] w fun e w' => ∃ u, e = .returned (u) ∧ (capS u = capS v) ∧ St w Y [io .i64 (u) (fl (fun x => decide (x < f ∨ t ≤ x)) l)] w' := by
 refine calls_in 42 Try.func76 rfl rfl (by simp) (fun A0 Y0 hdf0 hargs => ?_)
 have l0_0 := hargs 0 (v) rfl
 have l1_0 := hargs 1 (.func (.func 77) #[] #[.pointer (some ⟨gf, 0, none⟩), .pointer (some ⟨gt, 0, none⟩)]) rfl
 clear hargs; replace Y0 : SzN A0 42 := ⟨Y0⟩
 obtain ⟨m_v, hm_v, hS⟩ := gen1 hS
 replace hS : St w Y [m_v] w := hS
 have bm_v := SlN.le (ow_at (hS.chq 0 rfl hm_v))
 refine wp_seq_k fun K1 H1 => ?_
 refine region_in ?_
 refine W_v rfl rfl (V_asg rfl rfl) ?_
 refine W_end (gen_Q fun A2 E2 => ?_)
 have Y2 := szq E2
 have F2 := ((fsE E2 (cq1 (FS.n hdf0) rfl)).c (lookE E2 0 (es rfl l0_0))).c (lookE E2 1 (es rfl l1_0))
 clear E2 Y0 hdf0 l0_0 l1_0
 refine tk H1 ?_
 refine wp_seq_k fun K3 H3 => ?_
 refine region_in ?_
 refine W_v rfl rfl (V_mov rfl (fg1 F2)) ?_
 refine W_v rfl rfl (V_mov rfl (es rfl (fg0 F2))) ?_
 refine W_call rfl rfl rfl Try.func101 (by kernel_rfl) rfl (args2 (es rfl (et rfl)) (et rfl)) (kixr_c (f := f) (gf := gf) (t := t) (gt := gt) (hS.chC 0 rfl hm_v).own (hS.roC hb_f) (hS.roC hb_t) ) ?_
 rintro _ w4 ⟨rfl, hP4⟩
 refine ⟨_, rfl, ?_⟩
 have S4 := hS.join hP4
 replace S4 : St w Y [m_v] w4 := S4
 refine W_v rfl rfl (V_asg rfl (et rfl)) ?_
 refine W_end (gen_Q fun A5 E5 => ?_)
 have Y5 := szq E5
 have F5 := fsE E5 (ck (cq3 F2 rfl) rfl rfl)
 clear E5 Y2 F2
 refine tk H3 ?_
 refine wp_seq_k fun K6 H6 => ?_
 refine wp_seq_k fun K7 H7 => ?_
 refine region_in ?_
 refine W_v rfl rfl (V_mov rfl (fg0 F5)) ?_
 refine W_v rfl rfl (V_eql rfl (et rfl) rfl) ?_
 refine W_end (gen_Q fun A8 E8 => ?_)
 have Y8 := szq E8
 have F8 := fsE E8 (ck (cq1 F5 rfl) rfl rfl)
 clear E8 Y5 F5
 refine tk H7 ?_
 refine cond_dec (fg0 F8) (fun c9 => ?_) (fun c9 => ?_)
 ·refine wp_seq_k fun K10 H10 => ?_
  refine region_in ?_
  refine W_v rfl rfl (V_mov rfl (fg3 F8)) ?_
  refine W_v rfl rfl (V_asg rfl (et rfl)) ?_
  refine W_end (gen_Q fun A11 E11 => ?_)
  have Y11 := szq E11
  have F11 := fsE E11 (ck (cq1 F8 rfl) rfl rfl)
  clear E11 Y8 F8
  refine tk H10 ?_
  refine wp_ret ?_
  refine then_ret ?_
  refine ret_in (results_1 Try.results76 (rv_tmp (fg0 F11))) F11.d ?_
  exact ⟨_, rfl, rfl, (S4.fin1 0 rfl (hm_v.trans (congrArg (io .i64 _) (fl_no c9))))⟩
 obtain ⟨k0, y0, hk0, hy0, hpy0, hn0⟩ := idxF_spec (p := (fun x => decide (x < f ∨ t ≤ x))) c9
 have h0 := df_init hy0 hpy0 hn0
 have hk0l := (List.getElem?_eq_some_iff.1 hy0).1
 refine wp_skip ?_
 refine tk H6 ?_
 refine wp_seq_k fun K12 H12 => ?_
 refine wp_seq_k fun K13 H13 => ?_
 refine region_in ?_
 refine W_v rfl rfl (V_mov rfl (fg1 F8)) ?_
 refine W_v rfl rfl (V_add rfl (et rfl) rfl (by omega) (by omega)) ?_
 refine W_v rfl rfl (V_asg rfl (et rfl)) ?_
 refine W_end (gen_Q fun A14 E14 => ?_)
 have Y14 := szq E14
 have F14 := fsE E14 (ck (cq2 F8 rfl) rfl rfl)
 have l0_14 := lookE E14 0 (es3 rfl (fg3 F8))
 have l1_14 := lookE E14 1 (es3 rfl (fg2 F8))
 clear E14 Y8 F8
 refine tk H13 ?_
 refine wp_block ?_
 -- loop 5
 refine loopX (fun mz A' w' => SzN A' 42 ∧ A'.defers = [] ∧ (∃ (j : Nat) (gar : List Int), (mz = l.length - j) ∧ (j ≤ l.length) ∧ ((fl (fun x => decide (x < f ∨ t ≤ x)) (l.take j)).length + gar.length = j) ∧ ((dfD (fun x => decide (x < f ∨ t ≤ x)) l gar j).length = l.length) ∧ (EV A' (.tmp 6) = .int .i64 (j : Int)) ∧ (EV A' (.tmp 5) = .int .i64 ((fl (fun x => decide (x < f ∨ t ≤ x)) (l.take j)).length : Int)) ∧ (EV A' (.tmp 0) = EV A14 (.tmp 0)) ∧ (EV A' (.tmp 1) = EV A14 (.tmp 1)) ∧ (St w Y [io .i64 v (dfD (fun x => decide (x < f ∨ t ≤ x)) l gar j)] w'))) (l.length - (k0 + 1)) ⟨Y14, F14.d, (k0 + 1), [y0], rfl, (by omega), (by rw [h0.2]; rfl), (by rw [← h0.1]), (((fg0 F14)).trans ((by rw [hk0]; rfl))), (((fg2 F14)).trans ((by rw [h0.2, hk0]))), rfl, rfl, (by have q0 : m_v = io .i64 v (dfD (fun x => decide (x < f ∨ t ≤ x)) l [y0] (k0 + 1)) := hm_v.trans ((congrArg (io .i64 _) h0.1)); subst q0; exact S4)⟩ ?_
 clear S4 hm_v
 rintro n15 A15 w15 ⟨Y15, hdf15, j, gar, hm15, hj, hgl, hdl, l6_15, l5_15, u0_15, u1_15, S15⟩
 have l0_15 := u0_15.trans l0_14
 have l1_15 := u1_15.trans l1_14
 obtain ⟨m_v_15, hm_v_15, S15⟩ := gen1 S15
 refine wp_seq_k fun K16 H16 => ?_
 refine wp_seq_k fun K17 H17 => ?_
 refine region_in ?_
 refine W_v rfl rfl (V_mov rfl l6_15) ?_
 refine W_v rfl rfl (V_mov rfl (es rfl l0_15)) ?_
 refine W_v rfl rfl (V_lenS rfl (et rfl) (ow_at (S15.chq 0 rfl hm_v_15)) Try.underlying25) ?_
 refine W_v rfl rfl (V_lss rfl (es2 rfl (et rfl)) (et rfl)) ?_
 refine W_end (gen_Q fun A18 E18 => ?_)
 have Y18 := szq E18
 have F18 := ((((fsE E18 (ck (cq3 (FS.n hdf15) rfl) rfl rfl)).c (lookE E18 0 (es4 rfl l0_15))).c (lookE E18 1 (es4 rfl l1_15))).c (lookE E18 5 (es4 rfl l5_15))).c (lookE E18 6 (es4 rfl l6_15))
 clear E18 Y15 hdf15 l6_15 l5_15 l0_15 l1_15
 refine tk H17 ?_
 refine cond_dec (fg4 F18) (fun c19 => ?_) (fun c19 => ?_)
 ·refine wp_skip ?_
  refine tk H16 ?_
  refine wp_seq_k fun K20 H20 => ?_
  refine wp_block ?_
  refine wp_seq_k fun K21 H21 => ?_
  refine region_in ?_
  refine W_v rfl rfl (V_mov rfl (fg3 F18)) ?_
  refine W_v rfl rfl (V_mov rfl (es rfl (fg0 F18))) ?_
  have k22 : j < (dfD (fun x => decide (x < f ∨ t ≤ x)) l gar j).length := by first | omega | (simp only [List.length_cons, List.length_nil]; omega) | (simp only [List.length_set]; omega) | decide
  obtain ⟨y22, hy22⟩ := get_some (xs := (dfD (fun x => decide (x < f ∨ t ≤ x)) l gar j)) (k := j) k22
  have hq22 := df_get hgl hy22
  obtain ⟨B22, O22, C22, hv22⟩ := (SlN.blk (ow_at (S15.chq 0 rfl hm_v_15)) (by first | omega | (simp only [List.length_cons, List.length_nil]; omega) | (simp only [List.length_set]; omega) | decide))
  refine W_v rfl rfl (V_ixS (off := O22 + j) 1 (j) rfl (es rfl (et rfl)) (et rfl) hv22 (by omega) k22 Try.underlying25 (by kernel_rfl) (congrArg _ (Nat.mul_one _))) ?_
  refine W_r rfl rfl (VR_ldC rfl (et rfl) ((ow_at (S15.chq 0 rfl hm_v_15)).cell hv22 (map_get hy22)) Try.underlying3 rfl) ?_
  refine W_v rfl rfl (V_asg rfl (et rfl)) ?_
  refine W_end (gen_Q fun A23 E23 => ?_)
  have Y23 := szq E23
  have F23 := fsE E23 (ck (cq4 F18 rfl) rfl rfl)
  clear E23 Y18 F18
  refine tk H21 ?_
  refine wp_seq_k fun K24 H24 => ?_
  refine region_in ?_
  refine W_v rfl rfl (V_mov rfl (fg3 F23)) ?_
  refine W_v rfl rfl (V_mov rfl (es rfl (fg0 F23))) ?_
  refine W_callV rfl rfl rfl (es rfl (et rfl)) Try.func77 (by kernel_rfl) rfl (args1 (et rfl)) (krg1_c (x := y22) (f := f) (gf := gf) (t := t) (gt := gt) (S15.roC hb_f) (S15.roC hb_t) ) ?_
  rintro _ w25 ⟨rfl, hP25⟩
  refine ⟨_, rfl, ?_⟩
  have S25 := S15.join hP25
  replace S25 : St w Y [m_v_15] w25 := S25
  refine W_v rfl rfl (V_notd rfl (et rfl)) ?_
  refine W_end (gen_Q fun A26 E26 => ?_)
  have Y26 := szq E26
  have F26 := fsE E26 (ck (cq3 F23 rfl) rfl rfl)
  clear E26 Y23 F23
  refine tk H24 ?_
  refine cond_dec (fg0 F26) (fun c27 => ?_) (fun c27 => ?_)
  ·refine wp_seq_k fun K28 H28 => ?_
   refine region_in ?_
   refine W_v rfl rfl (V_mov rfl (fg5 F26)) ?_
   refine W_v rfl rfl (V_mov rfl (es rfl (fg3 F26))) ?_
   refine W_v rfl rfl (V_mov rfl (es2 rfl (fg1 F26))) ?_
   have k29 : (fl (fun x => decide (x < f ∨ t ≤ x)) (l.take j)).length < (dfD (fun x => decide (x < f ∨ t ≤ x)) l gar j).length := by first | omega | (simp only [List.length_cons, List.length_nil]; omega) | (simp only [List.length_set]; omega) | decide
   obtain ⟨y29, hy29⟩ := get_some (xs := (dfD (fun x => decide (x < f ∨ t ≤ x)) l gar j)) (k := (fl (fun x => decide (x < f ∨ t ≤ x)) (l.take j)).length) k29
   refine W_v rfl rfl (V_ixS (off := O22 + ((fl (fun x => decide (x < f ∨ t ≤ x)) (l.take j)).length)) 1 ((fl (fun x => decide (x < f ∨ t ≤ x)) (l.take j)).length) rfl (es2 rfl (et rfl)) (es rfl (et rfl)) hv22 (by omega) k29 Try.underlying25 (by kernel_rfl) (congrArg _ (Nat.mul_one _))) ?_
   refine W_stE 0 S25 rfl hm_v_15 hv22 rfl rfl rfl (et rfl) (es rfl (et rfl)) (by rfl) rfl (by first | (simp only [List.length_map]; omega) | omega) (by kernel_rfl) (fun w30 c30 hc30 S30 => ?_)
   replace hc30 : c30 = io .i64 v ((dfD (fun x => decide (x < f ∨ t ≤ x)) l gar j).set ((fl (fun x => decide (x < f ∨ t ≤ x)) (l.take j)).length) y22) := hc30.trans (by simp [io, bo, List.map_set] <;> rfl)
   replace S30 : St w Y [c30] w30 := S30
   refine W_end (gen_Q fun A31 E31 => ?_)
   have Y31 := szq E31
   have F31 := fsE E31 (cq4 F26 rfl)
   clear E31 Y26 F26
   refine tk H28 ?_
   refine region_in ?_
   refine W_v rfl rfl (V_mov rfl (fg3 F31)) ?_
   refine W_v rfl rfl (V_add rfl (et rfl) rfl (by omega) (by omega)) ?_
   refine W_v rfl rfl (V_asg rfl (et rfl)) ?_
   refine W_end (gen_Q fun A32 E32 => ?_)
   have Y32 := szq E32
   have F32 := fsE E32 (ck (cq2 (fx3 F31) rfl) rfl rfl)
   clear E32 Y31 F31
   refine inb_n ?_
   refine tk H20 ?_
   refine region_in ?_
   refine W_v rfl rfl (V_mov rfl (fg3 F32)) ?_
   refine W_v rfl rfl (V_add rfl (et rfl) rfl (by omega) (by omega)) ?_
   refine W_v rfl rfl (V_asg rfl (et rfl)) ?_
   refine W_end (gen_Q fun A33 E33 => ?_)
   have Y33 := szq E33
   have F33 := fsE E33 (cq3 (fx3 F32) rfl)
   have l0_33 := lookE E33 0 (es3 rfl (fg5 F32))
   have l1_33 := lookE E33 1 (es3 rfl (fg4 F32))
   have l5_33 := lookE E33 5 (es3 rfl (fg0 F32))
   have l6_33 := lookE E33 6 (et rfl)
   clear E33 Y32 F32
   refine then_n ⟨l.length - (j + 1), by simp only [hm15]; omega, Y33, F33.d, (j + 1), (gar ++ [y22]).tail, rfl, (by omega), (df_keep hgl hq22 (show (fun x => decide (x < f ∨ t ≤ x)) y22 = false by have hc := c27; first | simpa using hc | (simp at hc ⊢; omega))).2.2, (dfD_len (by omega) (df_keep hgl hq22 (show (fun x => decide (x < f ∨ t ≤ x)) y22 = false by have hc := c27; first | simpa using hc | (simp at hc ⊢; omega))).2.2), ((l6_33).trans (by first | rfl | (simp; done) | (congr 1; omega))), ((l5_33).trans ((by rw [(df_keep hgl hq22 (show (fun x => decide (x < f ∨ t ≤ x)) y22 = false by have hc := c27; first | simpa using hc | (simp at hc ⊢; omega))).2.1] <;> first | rfl | (congr 1; omega)))), ((l0_33).trans l0_14.symm), ((l1_33).trans l1_14.symm), (by have q0 : c30 = io .i64 v (dfD (fun x => decide (x < f ∨ t ≤ x)) l ((gar ++ [y22]).tail) (j + 1)) := hc30.trans ((congrArg (io .i64 _) (df_keep hgl hq22 (show (fun x => decide (x < f ∨ t ≤ x)) y22 = false by have hc := c27; first | simpa using hc | (simp at hc ⊢; omega))).1)); subst q0; exact S30)⟩
  refine wp_skip ?_
  refine inb_n ?_
  refine tk H20 ?_
  refine region_in ?_
  refine W_v rfl rfl (V_mov rfl (fg2 F26)) ?_
  refine W_v rfl rfl (V_add rfl (et rfl) rfl (by omega) (by omega)) ?_
  refine W_v rfl rfl (V_asg rfl (et rfl)) ?_
  refine W_end (gen_Q fun A34 E34 => ?_)
  have Y34 := szq E34
  have F34 := fsE E34 (cq3 (fx2 F26) rfl)
  have l0_34 := lookE E34 0 (es3 rfl (fg5 F26))
  have l1_34 := lookE E34 1 (es3 rfl (fg4 F26))
  have l5_34 := lookE E34 5 (es3 rfl (fg3 F26))
  have l6_34 := lookE E34 6 (et rfl)
  clear E34 Y26 F26
  refine then_n ⟨l.length - (j + 1), by simp only [hm15]; omega, Y34, F34.d, (j + 1), (gar ++ [y22]), rfl, (by omega), (df_drop hgl hq22 (show (fun x => decide (x < f ∨ t ≤ x)) y22 = true by have hc := c27; first | simpa using hc | (simp at hc ⊢; omega))).2.2, (dfD_len (by omega) (df_drop hgl hq22 (show (fun x => decide (x < f ∨ t ≤ x)) y22 = true by have hc := c27; first | simpa using hc | (simp at hc ⊢; omega))).2.2), ((l6_34).trans (by first | rfl | (simp; done) | (congr 1; omega))), ((l5_34).trans ((by rw [(df_drop hgl hq22 (show (fun x => decide (x < f ∨ t ≤ x)) y22 = true by have hc := c27; first | simpa using hc | (simp at hc ⊢; omega))).2.1] <;> first | rfl | (congr 1; omega)))), ((l0_34).trans l0_14.symm), ((l1_34).trans l1_14.symm), (by have q0 : m_v_15 = io .i64 v (dfD (fun x => decide (x < f ∨ t ≤ x)) l (gar ++ [y22]) (j + 1)) := hm_v_15.trans ((congrArg (io .i64 _) (df_drop hgl hq22 (show (fun x => decide (x < f ∨ t ≤ x)) y22 = true by have hc := c27; first | simpa using hc | (simp at hc ⊢; omega))).1)); subst q0; exact S25)⟩
 refine wp_exit ?_
 refine then_exit ?_
 refine then_exit ?_
 refine inb_hit ?_
 refine tk H12 ?_
 refine wp_seq_k fun K35 H35 => ?_
 refine region_in ?_
 refine W_v rfl rfl (V_mov rfl (fg3 F18)) ?_
 refine W_v rfl rfl (V_mov rfl (es rfl (fg1 F18))) ?_
 have k36 : (fl (fun x => decide (x < f ∨ t ≤ x)) (l.take j)).length ≤ (dfD (fun x => decide (x < f ∨ t ≤ x)) l gar j).length := by omega
 have m36 : (dfD (fun x => decide (x < f ∨ t ≤ x)) l gar j).length ≤ (dfD (fun x => decide (x < f ∨ t ≤ x)) l gar j).length := by omega
 refine W_v rfl rfl (V_subS 1 ((fl (fun x => decide (x < f ∨ t ≤ x)) (l.take j)).length) ((dfD (fun x => decide (x < f ∨ t ≤ x)) l gar j).length) rfl (es rfl (et rfl)) (.inr ⟨_, _, rfl, (et rfl), by omega⟩) (.inl ⟨rfl, rfl⟩) Try.underlying25 (by kernel_rfl) (ow_at (S15.chq 0 rfl hm_v_15)) k36 m36) ?_
 refine W_clearS (z := .int .i64 0) 0 ((fl (fun x => decide (x < f ∨ t ≤ x)) (l.take j)).length) S15 rfl hm_v_15 (by omega) rfl rfl rfl (et rfl) Try.underlying25 (by kernel_rfl) rfl rfl (fun w37 c37 hc37 S37 => ?_)
 replace hc37 : c37 = io .i64 v ((dfD (fun x => decide (x < f ∨ t ≤ x)) l gar j).take ((fl (fun x => decide (x < f ∨ t ≤ x)) (l.take j)).length) ++ List.replicate ((dfD (fun x => decide (x < f ∨ t ≤ x)) l gar j).length - ((fl (fun x => decide (x < f ∨ t ≤ x)) (l.take j)).length)) (0 : Int)) := hc37.trans (clr_eq (by omega))
 have hcl37 : ((dfD (fun x => decide (x < f ∨ t ≤ x)) l gar j).take ((fl (fun x => decide (x < f ∨ t ≤ x)) (l.take j)).length) ++ List.replicate ((dfD (fun x => decide (x < f ∨ t ≤ x)) l gar j).length - ((fl (fun x => decide (x < f ∨ t ≤ x)) (l.take j)).length)) (0 : Int)).length = (dfD (fun x => decide (x < f ∨ t ≤ x)) l gar j).length := by rw [List.length_append, List.length_take, List.length_replicate]; omega
 replace S37 : St w Y [c37] w37 := S37
 refine W_end (gen_Q fun A38 E38 => ?_)
 have Y38 := szq E38
 have F38 := fsE E38 (cq3 F18 rfl)
 clear E38 Y18 F18
 refine tk H35 ?_
 refine wp_seq_k fun K39 H39 => ?_
 refine region_in ?_
 refine W_v rfl rfl (V_mov rfl (fg3 F38)) ?_
 refine W_v rfl rfl (V_mov rfl (es rfl (fg1 F38))) ?_
 have k40 : 0 ≤ (fl (fun x => decide (x < f ∨ t ≤ x)) (l.take j)).length := by omega
 have m40 : (fl (fun x => decide (x < f ∨ t ≤ x)) (l.take j)).length ≤ ((dfD (fun x => decide (x < f ∨ t ≤ x)) l gar j).take ((fl (fun x => decide (x < f ∨ t ≤ x)) (l.take j)).length) ++ List.replicate ((dfD (fun x => decide (x < f ∨ t ≤ x)) l gar j).length - ((fl (fun x => decide (x < f ∨ t ≤ x)) (l.take j)).length)) (0 : Int)).length := by omega
 obtain ⟨c40, hc40, S40⟩ := S37.sub 0 rfl hc37 (0) ((fl (fun x => decide (x < f ∨ t ≤ x)) (l.take j)).length) k40 m40
 replace hc40 : c40 = io .i64 (subS 1 v 0 ((fl (fun x => decide (x < f ∨ t ≤ x)) (l.take j)).length)) (((dfD (fun x => decide (x < f ∨ t ≤ x)) l gar j).take ((fl (fun x => decide (x < f ∨ t ≤ x)) (l.take j)).length) ++ List.replicate ((dfD (fun x => decide (x < f ∨ t ≤ x)) l gar j).length - ((fl (fun x => decide (x < f ∨ t ≤ x)) (l.take j)).length)) (0 : Int)).take ((fl (fun x => decide (x < f ∨ t ≤ x)) (l.take j)).length)) := hc40.trans (part_eq k40 m40 (by first | (simp; done) | exact List.take_of_length_le (by rw [List.length_drop]; omega)))
 replace S40 : St w Y [c40] w37 := S40
 refine W_v rfl rfl (V_subS 1 (0) ((fl (fun x => decide (x < f ∨ t ≤ x)) (l.take j)).length) rfl (es rfl (et rfl)) (.inl ⟨rfl, rfl⟩) (.inr ⟨_, _, rfl, (et rfl), by omega⟩) Try.underlying25 (by kernel_rfl) (ow_at (S37.chq 0 rfl hc37)) k40 m40) ?_
 refine W_v rfl rfl (V_asg rfl (et rfl)) ?_
 refine W_end (gen_Q fun A41 E41 => ?_)
 have Y41 := szq E41
 have F41 := fsE E41 (ck (cq3 F38 rfl) rfl rfl)
 clear E41 Y38 F38
 refine tk H39 ?_
 refine wp_ret ?_
 refine ret_in (results_1 Try.results76 (rv_tmp (fg0 F41))) F41.d ?_
 exact ⟨_, rfl, capS_sub _ _, (S40.fin1 0 rfl (hc40.trans (congrArg (io .i64 _) (df_end (by omega) rfl))))⟩

end Go.Proofs.Yteppjefmlibmoaa