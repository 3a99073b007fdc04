import Derived.Test.YtpgkfndbfocibaaProg
import Derived.Test.YtpgkfndbfocibaaMs11
import Derived.Test.YtpgkfndbfocibaaSep29f
namespace Go.Proofs.Ytpgkfndbfocibaa
open Go.RowKit Go.Own Go.Own.R Go.Own.G Go.Own.Gr Go.Own.Ml


set_option maxHeartbeats 4000000 in
theorem kpl_c {C : Int} {N : Int} {Z : Int} {K : Int} {Q : Int} {lv : Value} {os : List OpC} {fv : Value} {full : List Int} {w : World} (h_lv : Ro w NoX (rl 7 opC lv os)) (h_fv : Ro w NoX (il .i64 fv full))  :
  Calls Try.prog 23 #[.agg #[.int .i64 C, .int .i64 N, .int .i64 Z, .int .i64 K, .int .i64 Q], lv, fv] w fun e w' => (e = .returned (.tuple #[.slice none 0 0, .slice none 0 0, .int .i64 (plF (cfE C N Z K Q) (lgN C N Z K Q) K os full).1, .int .i64 (plF (cfE C N Z K Q) (lgN C N Z K Q) K os full).2]) ∧ ((plF (cfE C N Z K Q) (lgN C N Z K Q) K os full).2 ≠ 0) ∧ St w NoX [] w') ∨ (∃ gv Gs av, e = .returned (.tuple #[gv, av, .int .i64 0, .int .i64 0]) ∧ ((plF (cfE C N Z K Q) (lgN C N Z K Q) K os full) = (0, 0)) ∧ (Gs.map gab = (plG (cfE C N Z K Q) (lgN C N Z K Q) K os full)) ∧ St w NoX [ro 2 grC gv Gs, gls Gs, ro 3 anC av (plA (cfE C N Z K Q) (lgN C N Z K Q) K os full)] w') := by
 refine calls_inR 81 Try.func23 rfl rfl (by simp) (fun A0 Y0 hdf0 hargs => ?_)
 have l0_0 := hargs 0 (.agg #[.int .i64 C, .int .i64 N, .int .i64 Z, .int .i64 K, .int .i64 Q]) rfl
 have l1_0 := hargs 1 (lv) rfl
 have l2_0 := hargs 2 (fv) rfl
 clear hargs; replace Y0 : SzN A0 81 := ⟨Y0⟩
 have hS := St.nil w
 have bh_lv := SlN.le (sl_SlN h_lv.at)
 have bh_fv := SlN.le (sl_SlN h_fv.at)
 refine R_seq (fun K1 H1 => ?_)
 refine R_region (by kernel_rfl) ?_
 refine W_boxS (zs := #[.int .i64 (C), .int .i64 (N), .int .i64 (Z), .int .i64 (K), .int .i64 (Q)]) hS rfl rfl rfl l0_0 (by rfl) (fun g2 w2 c2 hc2 S2 => ?_)
 replace S2 : St w NoX [c2] w2 := S2
 refine W_boxS (zs := #[fv]) S2 rfl rfl rfl (es rfl l2_0) (SlN_cells (sl_SlN h_fv.at)) (fun g3 w3 c3 hc3 S3 => ?_)
 replace S3 : St w NoX [c3, c2] w3 := S3
 refine W_allocS (z := .slice none 0 0) (zs := #[.slice none 0 0]) S3 rfl rfl rfl (by kernel_rfl) (by rfl) (fun g4 w4 c4 hc4 S4 => ?_)
 replace S4 : St w NoX [c4, c3, c2] w4 := S4
 refine W_allocS (z := .slice none 0 0) (zs := #[.slice none 0 0]) S4 rfl rfl rfl (by kernel_rfl) (by rfl) (fun g5 w5 c5 hc5 S5 => ?_)
 replace S5 : St w NoX [c5, c4, c3, c2] w5 := S5
 refine W_allocS (z := .int .i64 0) (zs := #[.int .i64 0]) S5 rfl rfl rfl (by kernel_rfl) (by rfl) (fun g6 w6 c6 hc6 S6 => ?_)
 replace S6 : St w NoX [c6, c5, c4, c3, c2] w6 := S6
 refine W_allocS (z := .int .i64 0) (zs := #[.int .i64 0]) S6 rfl rfl rfl (by kernel_rfl) (by rfl) (fun g7 w7 c7 hc7 S7 => ?_)
 replace S7 : St w NoX [c7, c6, c5, c4, c3, c2] w7 := S7
 refine W_end ?_
 refine Qo_normal ?_
 refine gen_Q (fun A8 E8 => ?_)
 have Y8 := szq E8
 have F8 := (fsE E8 (ck (ck (ck (ck (ck (ck (FS.n hdf0) rfl rfl) rfl rfl) rfl rfl) rfl rfl) rfl rfl) rfl rfl)).c (lookE E8 1 (es6 rfl l1_0))
 clear E8 Y0 hdf0 l0_0 l1_0 l2_0
 refine tk H1 ?_
 refine R_seq (fun K9 H9 => ?_)
 refine R_region (by kernel_rfl) ?_
 refine W_r rfl rfl (VR_ldA rfl (fg6 F8) (S7.obj 5 rfl hc2) Try.underlying23 rfl (by kernel_rfl)) ?_
 refine W_v rfl rfl (V_mov rfl (es rfl (fg0 F8))) ?_
 refine W_call rfl rfl rfl Try.func32 (by kernel_rfl) rfl (args2 (es rfl (et rfl)) (et rfl)) (kbg_c (C := C) (N := N) (Z := Z) (K := K) (Q := Q) (S7.roC h_lv) ) ?_
 rintro _ w10 (⟨rfl, hz_10, hP10⟩ | ⟨gs_10, hv_10, H_10, qv_10, q_10, rfl, hz_10, hg_10, hP10⟩)
 ·refine ⟨_, rfl, ?_⟩
  have S10 := S7.join hP10
  replace S10 : St w NoX [c7, c6, c5, c4, c3, c2] w10 := S10
  refine W_v rfl rfl (V_mov rfl (et rfl)) ?_
  refine W_v rfl rfl (V_ext (v := .pointer none) rfl (et rfl) rfl) ?_
  refine W_v rfl rfl (V_ext (v := .int .i64 ((scE (cfE C N Z K Q) os).1)) rfl (es rfl (et rfl)) rfl) ?_
  refine W_v rfl rfl (V_ext (v := .int .i64 ((scE (cfE C N Z K Q) os).2)) rfl (es2 rfl (et rfl)) rfl) ?_
  refine W_allocS (z := .pointer none) (zs := #[.pointer none]) S10 rfl rfl rfl (by kernel_rfl) (by rfl) (fun g11 w11 c11 hc11 S11 => ?_)
  replace S11 : St w NoX [c11, c7, c6, c5, c4, c3, c2] w11 := S11
  refine xsC (zs' := #[.pointer none]) 0 S11 rfl hc11 rfl rfl rfl (et rfl) (es3 rfl (et rfl)) (by rfl) (fun w12 c12 hc12 S12 => ?_)
  replace S12 : St w NoX [c12, c7, c6, c5, c4, c3, c2] w12 := S12
  refine xsC (zs' := #[.int .i64 ((scE (cfE C N Z K Q) os).1)]) 2 S12 rfl hc6 rfl rfl rfl (es8 rfl (fg2 F8)) (es2 rfl (et rfl)) (by rfl) (fun w13 c13 hc13 S13 => ?_)
  replace S13 : St w NoX [c12, c7, c13, c5, c4, c3, c2] w13 := S13
  refine xsC (zs' := #[.int .i64 ((scE (cfE C N Z K Q) os).2)]) 1 S13 rfl hc7 rfl rfl rfl (es8 rfl (fg1 F8)) (es rfl (et rfl)) (by rfl) (fun w14 c14 hc14 S14 => ?_)
  replace S14 : St w NoX [c12, c14, c13, c5, c4, c3, c2] w14 := S14
  refine W_end ?_
  refine Qo_normal ?_
  refine gen_Q (fun A15 E15 => ?_)
  have Y15 := szq E15
  have F15 := fsE E15 (ck (cq7 F8 rfl) rfl rfl)
  clear E15 Y8 F8
  have S16 : St w NoX [c12, c14, c13, c5, c4, c3] w14 := S14.sel [0, 1, 2, 3, 4, 5] (by decide) rfl
  refine tk H9 ?_
  refine R_seq (fun K17 H17 => ?_)
  refine R_seq (fun K18 H18 => ?_)
  refine R_region (by kernel_rfl) ?_
  refine W_r rfl rfl (xlC (v := .int .i64 ((scE (cfE C N Z K Q) os).2)) rfl (fg2 F15) (S16.obj 1 rfl hc14) Try.underlying28) ?_
  refine W_v rfl rfl (V_neq rfl (et rfl) rfl) ?_
  refine W_end ?_
  refine Qo_normal ?_
  refine gen_Q (fun A19 E19 => ?_)
  have Y19 := szq E19
  have F19 := fsE E19 (ck (cq1 F15 rfl) rfl rfl)
  clear E19 Y15 F15
  refine tk H18 ?_
  refine R_cond_sure (fg0 F19) (by rw [decide_eq_true_eq]; exact hz_10) ?_
  refine R_seq (fun K20 H20 => ?_)
  refine R_any (by kernel_rfl) (by kernel_rfl) 6 rfl (fun w141 hx141 => ?_)
  have S141 := S16.grow hx141
  refine AX_parL (l0 := [c12, c14, c13, c5, c4, c3]) (k := 0) [⟨[2], [], [26], fun vs => [], fun vs => (vs.getD 0 undef) = .int .i64 ((scE (cfE C N Z K Q) os).1)⟩, ⟨[1], [], [27], fun vs => [], fun vs => (vs.getD 0 undef) = .int .i64 ((scE (cfE C N Z K Q) os).2)⟩, ⟨[], [4], [], fun vs => [bx g4 62 #[.slice none 0 0]], fun vs => True⟩, ⟨[], [3], [], fun vs => [bx g5 37 #[.slice none 0 0]], fun vs => True⟩, ⟨[], [2], [], fun vs => [bx g6 3 #[.int .i64 ((scE (cfE C N Z K Q) os).1)]], fun vs => True⟩, ⟨[], [1], [], fun vs => [bx g7 28 #[.int .i64 ((scE (cfE C N Z K Q) os).2)]], fun vs => True⟩] [c12, c14, c13, c5, c4, c3] S141 rfl (by kernel_rfl) rfl ⟨?_, ?_, ?_, ?_, ?_, ?_, trivial⟩ ?_
  ·refine stepI [] (fun vs => [c13]) rfl (fun a => by kernel_rfl) ?_
   intro A142 w142 rst hFr hF S142
   replace S142 : St w NoX [c13, rst] w142 := S142
   have Y142 : SzN A142 81 := ⟨hFr.sz.trans Y19.out⟩
   have hdf142 : A142.defers = [] := hFr.df.trans F19.d
   have l8_142 := (oldS hFr 8 (by kernel_rfl)).trans (fg4 F19)
   obtain ⟨c13_142, hc13_142, S142⟩ := gen1 S142
   replace hc13_142 := hc13_142.trans hc13
   refine W_r rfl rfl (xlC (v := .int .i64 ((scE (cfE C N Z K Q) os).1)) rfl l8_142 (S142.obj 0 rfl hc13_142) Try.underlying3) ?_
   refine W_end ?_
   refine kq _ ?_
   exact ⟨_, [.int .i64 ((scE (cfE C N Z K Q) os).1)], rfl, ts1 (et rfl), rfl, rfl, by subst hc13_142 hc13; exact S142⟩
  ·refine stepI [] (fun vs => [c14]) rfl (fun a => by kernel_rfl) ?_
   intro A143 w143 rst hFr hF S143
   replace S143 : St w NoX [c14, rst] w143 := S143
   have Y143 : SzN A143 81 := ⟨hFr.sz.trans Y19.out⟩
   have hdf143 : A143.defers = [] := hFr.df.trans F19.d
   have l9_143 := (oldS hFr 9 (by kernel_rfl)).trans (fg3 F19)
   obtain ⟨c14_143, hc14_143, S143⟩ := gen1 S143
   replace hc14_143 := hc14_143.trans hc14
   refine W_r rfl rfl (xlC (v := .int .i64 ((scE (cfE C N Z K Q) os).2)) rfl l9_143 (S143.obj 0 rfl hc14_143) Try.underlying28) ?_
   refine W_end ?_
   refine kq _ ?_
   exact ⟨_, [.int .i64 ((scE (cfE C N Z K Q) os).2)], rfl, ts1 (et rfl), rfl, rfl, by subst hc14_143 hc14; exact S143⟩
  ·refine stepI [] (fun vs => [c4]) rfl (fun a => by kernel_rfl) ?_
   intro A144 w144 rst hFr hF S144
   replace S144 : St w NoX [c4, rst] w144 := S144
   have Y144 : SzN A144 81 := ⟨hFr.sz.trans Y19.out⟩
   have hdf144 : A144.defers = [] := hFr.df.trans F19.d
   have l6_144 := (oldS hFr 6 (by kernel_rfl)).trans (fg6 F19)
   obtain ⟨c4_144, hc4_144, S144⟩ := gen1 S144
   replace hc4_144 := hc4_144.trans hc4
   refine xsC (zs' := #[.slice none 0 0]) 0 S144 rfl hc4_144 rfl rfl rfl l6_144 rfl (by rfl) (fun w145 c145 hc145 S145 => ?_)
   replace S145 : St w NoX (c145 :: [rst]) w145 := S145
   refine W_end ?_
   refine kq _ ?_
   exact ⟨undef, [], rfl, rfl, trivial, rfl, by subst hc145 hc4; exact S145⟩
  ·refine stepI [] (fun vs => [c5]) rfl (fun a => by kernel_rfl) ?_
   intro A146 w146 rst hFr hF S146
   replace S146 : St w NoX [c5, rst] w146 := S146
   have Y146 : SzN A146 81 := ⟨hFr.sz.trans Y19.out⟩
   have hdf146 : A146.defers = [] := hFr.df.trans F19.d
   have l7_146 := (oldS hFr 7 (by kernel_rfl)).trans (fg5 F19)
   obtain ⟨c5_146, hc5_146, S146⟩ := gen1 S146
   replace hc5_146 := hc5_146.trans hc5
   refine xsC (zs' := #[.slice none 0 0]) 0 S146 rfl hc5_146 rfl rfl rfl l7_146 rfl (by rfl) (fun w147 c147 hc147 S147 => ?_)
   replace S147 : St w NoX (c147 :: [rst]) w147 := S147
   refine W_end ?_
   refine kq _ ?_
   exact ⟨undef, [], rfl, rfl, trivial, rfl, by subst hc147 hc5; exact S147⟩
  ·refine stepI [] (fun vs => [c13]) rfl (fun a => by kernel_rfl) ?_
   intro A148 w148 rst hFr hF S148
   replace S148 : St w NoX [c13, rst] w148 := S148
   have f26_148 : EV A148 (.tmp 26) = .int .i64 ((scE (cfE C N Z K Q) os).1) := hF 0 (by kernel_rfl)
   generalize q26_148 : EV A148 (.tmp 26) = us26 at S148 f26_148
   have l26_148 := q26_148.trans f26_148
   have Y148 : SzN A148 81 := ⟨hFr.sz.trans Y19.out⟩
   have hdf148 : A148.defers = [] := hFr.df.trans F19.d
   have l8_148 := (oldS hFr 8 (by kernel_rfl)).trans (fg4 F19)
   obtain ⟨c13_148, hc13_148, S148⟩ := gen1 S148
   replace hc13_148 := hc13_148.trans hc13
   refine xsC (zs' := #[.int .i64 ((scE (cfE C N Z K Q) os).1)]) 0 S148 rfl hc13_148 rfl rfl rfl l8_148 l26_148 (by rfl) (fun w149 c149 hc149 S149 => ?_)
   replace S149 : St w NoX (c149 :: [rst]) w149 := S149
   refine W_end ?_
   refine kq _ ?_
   subst q26_148
   exact ⟨undef, [], rfl, rfl, trivial, rfl, by subst hc149 hc13; exact S149⟩
  ·refine stepI [] (fun vs => [c14]) rfl (fun a => by kernel_rfl) ?_
   intro A150 w150 rst hFr hF S150
   replace S150 : St w NoX [c14, rst] w150 := S150
   have f27_150 : EV A150 (.tmp 27) = .int .i64 ((scE (cfE C N Z K Q) os).2) := hF 1 (by kernel_rfl)
   generalize q27_150 : EV A150 (.tmp 27) = us27 at S150 f27_150
   have l27_150 := q27_150.trans f27_150
   have Y150 : SzN A150 81 := ⟨hFr.sz.trans Y19.out⟩
   have hdf150 : A150.defers = [] := hFr.df.trans F19.d
   have l9_150 := (oldS hFr 9 (by kernel_rfl)).trans (fg3 F19)
   obtain ⟨c14_150, hc14_150, S150⟩ := gen1 S150
   replace hc14_150 := hc14_150.trans hc14
   refine xsC (zs' := #[.int .i64 ((scE (cfE C N Z K Q) os).2)]) 0 S150 rfl hc14_150 rfl rfl rfl l9_150 l27_150 (by rfl) (fun w151 c151 hc151 S151 => ?_)
   replace S151 : St w NoX (c151 :: [rst]) w151 := S151
   refine W_end ?_
   refine kq _ ?_
   subst q27_150
   exact ⟨undef, [], rfl, rfl, trivial, rfl, by subst hc151 hc14; exact S151⟩
  intro A152 w152 hFr hF S152
  replace S152 : St w NoX [c12, bx g7 28 #[.int .i64 ((scE (cfE C N Z K Q) os).2)], bx g6 3 #[.int .i64 ((scE (cfE C N Z K Q) os).1)], bx g5 37 #[.slice none 0 0], bx g4 62 #[.slice none 0 0], c3] w152 := S152.cast (by kernel_rfl)
  have Y152 : SzN A152 81 := ⟨hFr.sz.trans Y19.out⟩
  have hdf152 : A152.defers = [] := hFr.df.trans F19.d
  obtain ⟨c12_152, c84_152, c83_152, c82_152, c81_152, c3_152, hc12_152, hc84_152, hc83_152, hc82_152, hc81_152, hc3_152, S152⟩ := gen6 S152
  replace hc12_152 := hc12_152.trans hc12
  replace hc3_152 := hc3_152.trans hc3
  have l6_152 := (oldS hFr 6 (by kernel_rfl)).trans (fg6 F19)
  have l7_152 := (oldS hFr 7 (by kernel_rfl)).trans (fg5 F19)
  have l8_152 := (oldS hFr 8 (by kernel_rfl)).trans (fg4 F19)
  have l9_152 := (oldS hFr 9 (by kernel_rfl)).trans (fg3 F19)
  clear Y19 F19 S16
  refine Qo_normal ?_
  have S153 : St w NoX [c84_152, c83_152, c82_152, c81_152] w152 := S152.sel [1, 2, 3, 4] (by decide) rfl
  refine tk H20 ?_
  refine R_ret ?_
  refine then_ret ?_
  refine ret_inR0 (results_4 Try.results23 (rv_cellC l6_152 (cell_box (S153.obj 3 rfl hc81_152) rfl) Try.underlying62 rfl) (rv_cellC l7_152 (cell_box (S153.obj 2 rfl hc82_152) rfl) Try.underlying37 rfl) (rv_cellC l8_152 (cell_box (S153.obj 1 rfl hc83_152) rfl) Try.underlying3 rfl) (rv_cellC l9_152 (cell_box (S153.obj 0 rfl hc84_152) rfl) Try.underlying28 rfl)) hdf152 ?_
  have h : (plF (cfE C N Z K Q) (lgN C N Z K Q) K os full) = ((scE (cfE C N Z K Q) os).1, (scE (cfE C N Z K Q) os).2) := pl_sc hz_10
  rw [h]
  exact .inl ⟨rfl, hz_10, S153.fin0⟩
 refine ⟨_, rfl, ?_⟩
 obtain ⟨cB_10, cK_10, hcB_10, hcK_10, hP10⟩ := gen2 hP10
 have S10 := S7.join hP10
 replace S10 : St w NoX [cB_10, cK_10, c7, c6, c5, c4, c3, c2] w10 := S10
 obtain ⟨hcf, hl2, hops, hsz⟩ := sc_inv (cf := (cfE C N Z K Q)) (l := os) (by rw [hz_10])
 have hsm0 : SM (gab ((hv_10, H_10), (qv_10, q_10))).1 := by rw [hg_10]; exact SM_nil
 have hgK : gab ((hv_10, H_10), (qv_10, q_10)) = g00 K := hg_10
 refine W_v rfl rfl (V_mov rfl (et rfl)) ?_
 refine W_v rfl rfl (V_ext (v := .pointer (some ⟨gs_10, 0, none⟩)) rfl (et rfl) rfl) ?_
 refine W_v rfl rfl (V_ext (v := .int .i64 0) rfl (es rfl (et rfl)) rfl) ?_
 refine W_v rfl rfl (V_ext (v := .int .i64 0) rfl (es2 rfl (et rfl)) rfl) ?_
 refine W_allocS (z := .pointer none) (zs := #[.pointer none]) S10 rfl rfl rfl (by kernel_rfl) (by rfl) (fun g154 w154 c154 hc154 S154 => ?_)
 replace S154 : St w NoX [c154, cB_10, cK_10, c7, c6, c5, c4, c3, c2] w154 := S154
 refine xsC (zs' := #[.pointer (some ⟨gs_10, 0, none⟩)]) 0 S154 rfl hc154 rfl rfl rfl (et rfl) (es3 rfl (et rfl)) (by rfl) (fun w155 c155 hc155 S155 => ?_)
 replace S155 : St w NoX [c155, cB_10, cK_10, c7, c6, c5, c4, c3, c2] w155 := S155
 refine xsC (zs' := #[.int .i64 0]) 4 S155 rfl hc6 rfl rfl rfl (es8 rfl (fg2 F8)) (es2 rfl (et rfl)) (by rfl) (fun w156 c156 hc156 S156 => ?_)
 replace S156 : St w NoX [c155, cB_10, cK_10, c7, c156, c5, c4, c3, c2] w156 := S156
 refine xsC (zs' := #[.int .i64 0]) 3 S156 rfl hc7 rfl rfl rfl (es8 rfl (fg1 F8)) (es rfl (et rfl)) (by rfl) (fun w157 c157 hc157 S157 => ?_)
 replace S157 : St w NoX [c155, cB_10, cK_10, c157, c156, c5, c4, c3, c2] w157 := S157
 refine W_end ?_
 refine Qo_normal ?_
 refine gen_Q (fun A158 E158 => ?_)
 have Y158 := szq E158
 have F158 := fsE E158 (ck (cq7 F8 rfl) rfl rfl)
 clear E158 Y8 F8
 have S159 : St w NoX [c155, cB_10, cK_10, c157, c156, c5, c4, c3] w157 := S157.sel [0, 1, 2, 3, 4, 5, 6, 7] (by decide) rfl
 refine tk H9 ?_
 refine R_seq (fun K160 H160 => ?_)
 refine R_seq (fun K161 H161 => ?_)
 refine R_region (by kernel_rfl) ?_
 refine W_r rfl rfl (xlC (v := .int .i64 0) rfl (fg2 F158) (S159.obj 3 rfl hc157) Try.underlying28) ?_
 refine W_v rfl rfl (V_neq rfl (et rfl) rfl) ?_
 refine W_end ?_
 refine Qo_normal ?_
 refine gen_Q (fun A162 E162 => ?_)
 have Y162 := szq E162
 have F162 := fsE E162 (ck (cq1 F158 rfl) rfl rfl)
 clear E162 Y158 F158
 refine tk H161 ?_
 refine R_cond_not (fg0 F162) (by decide) ?_
 refine R_skip ?_
 refine tk H160 ?_
 refine R_seq (fun K163 H163 => ?_)
 refine R_region (by kernel_rfl) ?_
 refine W_v rfl rfl (V_asg rfl rfl) ?_
 refine W_end ?_
 refine Qo_normal ?_
 refine gen_Q (fun A164 E164 => ?_)
 have Y164 := szq E164
 have F164 := fsE E164 (ck F162 rfl rfl)
 clear E164 Y162 F162
 refine tk H163 ?_
 refine R_seq (fun K165 H165 => ?_)
 refine R_seq (fun K166 H166 => ?_)
 refine R_region (by kernel_rfl) ?_
 refine W_r rfl rfl (xlC (v := fv) rfl (fg8 F164) (S159.obj 7 rfl hc3) Try.underlying25) ?_
 refine W_v rfl rfl (V_lenS rfl (et rfl) (sl_SlN h_fv.at) Try.underlying25) ?_
 refine W_v rfl rfl (V_mov rfl rfl) ?_
 refine W_end ?_
 refine Qo_normal ?_
 refine gen_Q (fun A167 E167 => ?_)
 have Y167 := szq E167
 have F167 := fsE E167 (ck (ck (ck F164 rfl rfl) rfl rfl) rfl rfl)
 clear E167 Y164 F164
 refine tk H166 ?_
 refine R_block ?_
 -- loop 6
 refine R_loop (fun mz A' w' => SzN A' 81 ∧ A'.defers = [] ∧ (∃ (k : Nat) (last : Int), (mz = full.length - k) ∧ (k ≤ full.length) ∧ (fcF (-1) full os.length = fcF last (full.drop k) os.length) ∧ (EV A' (.tmp 30) = .int .i64 (k : Int)) ∧ (EV A' (.tmp 11) = .int .i64 last) ∧ (EV A' (.tmp 1) = EV A167 (.tmp 1)) ∧ (EV A' (.tmp 5) = EV A167 (.tmp 5)) ∧ (EV A' (.tmp 6) = EV A167 (.tmp 6)) ∧ (EV A' (.tmp 7) = EV A167 (.tmp 7)) ∧ (EV A' (.tmp 8) = EV A167 (.tmp 8)) ∧ (EV A' (.tmp 9) = EV A167 (.tmp 9)) ∧ (EV A' (.tmp 10) = EV A167 (.tmp 10)) ∧ (EV A' (.tmp 28) = EV A167 (.tmp 28)) ∧ (EV A' (.tmp 29) = EV A167 (.tmp 29)) ∧ (St w NoX [bx g154 73 #[.pointer (some ⟨gs_10, 0, none⟩)], bx gs_10 75 #[hv_10, qv_10, .int .i64 ((lgN C N Z K Q))], gls [((hv_10, H_10), (qv_10, q_10))], bx g7 28 #[.int .i64 0], bx g6 3 #[.int .i64 0], bx g5 37 #[.slice none 0 0], bx g4 62 #[.slice none 0 0], bx g3 25 #[fv]] w'))) (full.length - 0) ⟨Y167, F167.d, 0, (-1), rfl, (by omega), rfl, (((fg0 F167)).trans (by first | rfl | (simp; done) | (congr 1; omega))), (((fg3 F167)).trans (by first | rfl | (simp; done) | (congr 1; omega))), rfl, rfl, rfl, rfl, rfl, rfl, rfl, rfl, rfl, (by subst hc155 hcB_10 hcK_10 hc157 hc156 hc5 hc4 hc3; exact S159)⟩ ?_
 clear S159 hc155 hcB_10 hcK_10 hc157 hc156 hc5 hc4 hc3
 rintro n168 A168 w168 ⟨Y168, hdf168, k, last, hm168, hk, hfc, l30_168, l11_168, u1_168, u5_168, u6_168, u7_168, u8_168, u9_168, u10_168, u28_168, u29_168, S168⟩
 have l1_168 := u1_168.trans (fg6 F167)
 have l5_168 := u5_168.trans (fg11 F167)
 have l6_168 := u6_168.trans (fg10 F167)
 have l7_168 := u7_168.trans (fg9 F167)
 have l8_168 := u8_168.trans (fg8 F167)
 have l9_168 := u9_168.trans (fg7 F167)
 have l10_168 := u10_168.trans (fg5 F167)
 have l28_168 := u28_168.trans (fg2 F167)
 have l29_168 := u29_168.trans (fg1 F167)
 obtain ⟨c155_168, cB_168, cK_168, c157_168, c156_168, c5_168, c4_168, c3_168, hc155_168, hcB_168, hcK_168, hc157_168, hc156_168, hc5_168, hc4_168, hc3_168, S168⟩ := gen8 S168
 refine R_seq (fun K169 H169 => ?_)
 refine R_region (by kernel_rfl) ?_
 refine W_v rfl rfl (V_lss rfl l30_168 l29_168) ?_
 refine W_end ?_
 refine Qo_normal ?_
 refine gen_Q (fun A170 E170 => ?_)
 have Y170 := szq E170
 have F170 := (((((((((((fsE E170 (ck (FS.n hdf168) rfl rfl)).c (lookE E170 1 (es rfl l1_168))).c (lookE E170 5 (es rfl l5_168))).c (lookE E170 6 (es rfl l6_168))).c (lookE E170 7 (es rfl l7_168))).c (lookE E170 8 (es rfl l8_168))).c (lookE E170 9 (es rfl l9_168))).c (lookE E170 10 (es rfl l10_168))).c (lookE E170 11 (es rfl l11_168))).c (lookE E170 28 (es rfl l28_168))).c (lookE E170 29 (es rfl l29_168))).c (lookE E170 30 (es rfl l30_168))
 clear E170 Y168 hdf168 l30_168 l11_168 l1_168 l5_168 l6_168 l7_168 l8_168 l9_168 l10_168 l28_168 l29_168
 refine tk H169 ?_
 refine R_seq (fun K171 H171 => ?_)
 refine R_cond_dec (fg11 F170) (fun c172 => ?_) (fun c172 => ?_)
 ·refine R_skip ?_
  refine tk H171 ?_
  refine R_seq (fun K173 H173 => ?_)
  refine R_block ?_
  refine R_seq (fun K174 H174 => ?_)
  refine R_region (by kernel_rfl) ?_
  have k175 : k < full.length := by first | omega | (simp only [List.length_cons, List.length_nil]; omega) | (simp only [List.length_set]; omega) | decide
  obtain ⟨y175, hy175⟩ := get_some (xs := full) (k := k) k175
  obtain ⟨B175, O175, C175, hv175⟩ := (SlN.blk (sl_SlN h_fv.at) (by first | omega | (simp only [List.length_cons, List.length_nil]; omega) | (simp only [List.length_set]; omega) | decide))
  refine W_v rfl rfl (V_ixS (off := O175 + k) 1 (k) rfl (fg2 F170) (fg0 F170) hv175 (by omega) k175 Try.underlying25 (by kernel_rfl) (congrArg _ (Nat.mul_one _))) ?_
  refine W_r rfl rfl (VR_ldC rfl (et rfl) ((sl_SlN (S168.ro h_fv)).cell hv175 (map_get hy175)) Try.underlying3 rfl) ?_
  refine W_v rfl rfl (V_asg rfl (et rfl)) ?_
  refine W_end ?_
  refine Qo_normal ?_
  refine gen_Q (fun A176 E176 => ?_)
  have Y176 := szq E176
  have F176 := fsE E176 (ck (cq2 F170 rfl) rfl rfl)
  clear E176 Y170 F170
  refine tk H174 ?_
  refine R_seq (fun K177 H177 => ?_)
  refine R_seq (fun K178 H178 => ?_)
  refine R_region (by kernel_rfl) ?_
  refine W_v rfl rfl (V_mov rfl (fg0 F176)) ?_
  refine W_v rfl rfl (V_mov rfl (es rfl (fg4 F176))) ?_
  refine W_v rfl rfl (V_leq rfl (es rfl (et rfl)) (et rfl)) ?_
  refine W_split rfl rfl (V_mov rfl (et rfl)) (fun c179 => ?_) (fun c179 => ?_)
  ·refine xof rfl rfl rfl (et rfl) ?_
   refine xof rfl rfl rfl (es rfl (et rfl)) ?_
   refine xof rfl rfl rfl (es2 rfl (et rfl)) ?_
   refine xof rfl rfl rfl (es3 rfl (et rfl)) ?_
   refine W_v rfl rfl (V_pickT rfl (es4 rfl (et rfl)) rfl) ?_
   refine W_end ?_
   refine Qo_normal ?_
   refine gen_Q (fun A180 E180 => ?_)
   have Y180 := szq E180
   have F180 := fsE E180 (ck (ck (ck (ck (ck (cq4 F176 rfl) rfl rfl) rfl rfl) rfl rfl) rfl rfl) rfl rfl)
   clear E180 Y176 F176
   refine tk H178 ?_
   refine R_cond_t (fg0 F180) ?_
   refine R_seq (fun K181 H181 => ?_)
   refine R_region (by kernel_rfl) ?_
   refine xsC (zs' := #[.slice none 0 0]) 6 S168 rfl hc4_168 rfl rfl rfl (fg14 F180) rfl (by rfl) (fun w182 c182 hc182 S182 => ?_)
   replace S182 : St w NoX [c155_168, cB_168, cK_168, c157_168, c156_168, c5_168, c182, c3_168] w182 := S182
   refine xsC (zs' := #[.slice none 0 0]) 5 S182 rfl hc5_168 rfl rfl rfl (fg13 F180) rfl (by rfl) (fun w183 c183 hc183 S183 => ?_)
   replace S183 : St w NoX [c155_168, cB_168, cK_168, c157_168, c156_168, c183, c182, c3_168] w183 := S183
   refine xsC (zs' := #[.int .i64 (-1)]) 4 S183 rfl hc156_168 rfl rfl rfl (fg12 F180) rfl (by rfl) (fun w184 c184 hc184 S184 => ?_)
   replace S184 : St w NoX [c155_168, cB_168, cK_168, c157_168, c184, c183, c182, c3_168] w184 := S184
   refine xsC (zs' := #[.int .i64 6]) 3 S184 rfl hc157_168 rfl rfl rfl (fg11 F180) rfl (by rfl) (fun w185 c185 hc185 S185 => ?_)
   replace S185 : St w NoX [c155_168, cB_168, cK_168, c185, c184, c183, c182, c3_168] w185 := S185
   refine W_end ?_
   refine Qo_normal ?_
   refine tk H181 ?_
   refine R_ret ?_
   refine then_ret ?_
   refine inb_ret ?_
   refine then_ret ?_
   refine then_ret ?_
   refine inb_ret ?_
   refine then_ret ?_
   refine ret_inR0 (results_4 Try.results23 (rv_cellC (fg14 F180) (cell_box (S185.obj 6 rfl hc182) rfl) Try.underlying62 rfl) (rv_cellC (fg13 F180) (cell_box (S185.obj 5 rfl hc183) rfl) Try.underlying37 rfl) (rv_cellC (fg12 F180) (cell_box (S185.obj 4 rfl hc184) rfl) Try.underlying3 rfl) (rv_cellC (fg11 F180) (cell_box (S185.obj 3 rfl hc185) rfl) Try.underlying28 rfl)) F180.d ?_
   have h : (plF (cfE C N Z K Q) (lgN C N Z K Q) K os full) = ((-1), 6) := pl_fc hsz (fc_bad hfc hy175 (by omega))
   rw [h]
   exact .inl ⟨rfl, by decide, S185.fin0⟩
  refine W_v rfl (xwt rfl rfl (et rfl)) (V_mov rfl (es4 rfl (fg0 F176))) ?_
  refine W_v rfl (xwt rfl rfl (es rfl (et rfl))) (V_mov rfl (es5 rfl (fg11 F176))) ?_
  refine W_v rfl (xwt rfl rfl (es2 rfl (et rfl))) (V_lenS rfl (et rfl) (sl_SlN h_lv.at) Try.underlying24) ?_
  refine W_v rfl (xwt rfl rfl (es3 rfl (et rfl))) (V_geq rfl (es2 rfl (et rfl)) (et rfl)) ?_
  refine W_v rfl rfl (V_pickF rfl (es4 rfl (et rfl)) (et rfl)) ?_
  refine W_end ?_
  refine Qo_normal ?_
  refine gen_Q (fun A186 E186 => ?_)
  have Y186 := szq E186
  have F186 := fsE E186 (ck (ck (ck (ck (ck (cq4 F176 rfl) rfl rfl) rfl rfl) rfl rfl) rfl rfl) rfl rfl)
  clear E186 Y176 F176
  refine tk H178 ?_
  refine R_cond_dec (fg0 F186) (fun c187 => ?_) (fun c187 => ?_)
  ·refine R_seq (fun K188 H188 => ?_)
   refine R_region (by kernel_rfl) ?_
   refine xsC (zs' := #[.slice none 0 0]) 6 S168 rfl hc4_168 rfl rfl rfl (fg14 F186) rfl (by rfl) (fun w189 c189 hc189 S189 => ?_)
   replace S189 : St w NoX [c155_168, cB_168, cK_168, c157_168, c156_168, c5_168, c189, c3_168] w189 := S189
   refine xsC (zs' := #[.slice none 0 0]) 5 S189 rfl hc5_168 rfl rfl rfl (fg13 F186) rfl (by rfl) (fun w190 c190 hc190 S190 => ?_)
   replace S190 : St w NoX [c155_168, cB_168, cK_168, c157_168, c156_168, c190, c189, c3_168] w190 := S190
   refine xsC (zs' := #[.int .i64 (-1)]) 4 S190 rfl hc156_168 rfl rfl rfl (fg12 F186) rfl (by rfl) (fun w191 c191 hc191 S191 => ?_)
   replace S191 : St w NoX [c155_168, cB_168, cK_168, c157_168, c191, c190, c189, c3_168] w191 := S191
   refine xsC (zs' := #[.int .i64 6]) 3 S191 rfl hc157_168 rfl rfl rfl (fg11 F186) rfl (by rfl) (fun w192 c192 hc192 S192 => ?_)
   replace S192 : St w NoX [c155_168, cB_168, cK_168, c192, c191, c190, c189, c3_168] w192 := S192
   refine W_end ?_
   refine Qo_normal ?_
   refine tk H188 ?_
   refine R_ret ?_
   refine then_ret ?_
   refine inb_ret ?_
   refine then_ret ?_
   refine then_ret ?_
   refine inb_ret ?_
   refine then_ret ?_
   refine ret_inR0 (results_4 Try.results23 (rv_cellC (fg14 F186) (cell_box (S192.obj 6 rfl hc189) rfl) Try.underlying62 rfl) (rv_cellC (fg13 F186) (cell_box (S192.obj 5 rfl hc190) rfl) Try.underlying37 rfl) (rv_cellC (fg12 F186) (cell_box (S192.obj 4 rfl hc191) rfl) Try.underlying3 rfl) (rv_cellC (fg11 F186) (cell_box (S192.obj 3 rfl hc192) rfl) Try.underlying28 rfl)) F186.d ?_
   have h : (plF (cfE C N Z K Q) (lgN C N Z K Q) K os full) = ((-1), 6) := pl_fc hsz (fc_bad hfc hy175 (by omega))
   rw [h]
   exact .inl ⟨rfl, by decide, S192.fin0⟩
  refine R_skip ?_
  refine tk H177 ?_
  refine R_region (by kernel_rfl) ?_
  refine W_v rfl rfl (V_mov rfl (fg5 F186)) ?_
  refine W_v rfl rfl (V_asg rfl (et rfl)) ?_
  refine W_end ?_
  refine Qo_normal ?_
  refine gen_Q (fun A193 E193 => ?_)
  have Y193 := szq E193
  have F193 := fsE E193 (ck (cq1 (fx9 F186) rfl) rfl rfl)
  clear E193 Y186 F186
  refine inb_n ?_
  refine tk H173 ?_
  refine R_region (by kernel_rfl) ?_
  refine W_v rfl rfl (V_add rfl (fg7 F193) rfl (by omega) (by omega)) ?_
  refine W_v rfl rfl (V_mov rfl (et rfl)) ?_
  refine W_end ?_
  refine Qo_normal ?_
  refine gen_Q (fun A194 E194 => ?_)
  have Y194 := szq E194
  have F194 := fsE E194 (ck (cq1 (fx7 F193) rfl) rfl rfl)
  clear E194 Y193 F193
  refine then_n ⟨full.length - (k + 1), by simp only [hm168]; omega, Y194, F194.d, (k + 1), y175, rfl, (by omega), (fc_step hfc hy175 (by omega)), (((fg0 F194)).trans (by first | rfl | (simp; done) | (congr 1; omega))), (((fg1 F194)).trans (by first | rfl | (simp; done) | (congr 1; omega))), (((fg16 F194)).trans (fg6 F167).symm), (((fg15 F194)).trans (fg11 F167).symm), (((fg14 F194)).trans (fg10 F167).symm), (((fg13 F194)).trans (fg9 F167).symm), (((fg12 F194)).trans (fg8 F167).symm), (((fg11 F194)).trans (fg7 F167).symm), (((fg10 F194)).trans (fg5 F167).symm), (((fg9 F194)).trans (fg2 F167).symm), (((fg8 F194)).trans (fg1 F167).symm), (by subst hc155_168 hcB_168 hcK_168 hc157_168 hc156_168 hc5_168 hc4_168 hc3_168; exact S168)⟩
 refine R_exit ?_
 refine then_exit ?_
 refine then_exit ?_
 refine inb_hit ?_
 refine tk H165 ?_
 refine R_seq (fun K195 H195 => ?_)
 refine R_region (by kernel_rfl) ?_
 refine W_v rfl rfl (V_mkf rfl (args0) (args1 (fg9 F170))) ?_
 refine W_allocS (z := .nilFunc) (zs := #[.nilFunc]) S168 rfl rfl rfl (by kernel_rfl) (by rfl) (fun g196 w196 c196 hc196 S196 => ?_)
 replace S196 : St w NoX [c196, c155_168, cB_168, cK_168, c157_168, c156_168, c5_168, c4_168, c3_168] w196 := S196
 refine xsC (zs' := #[.func (.func 36) #[] #[.pointer (some ⟨g3, 0, none⟩)]]) 0 S196 rfl hc196 rfl rfl rfl (et rfl) (es rfl (et rfl)) (by rfl) (fun w197 c197 hc197 S197 => ?_)
 replace S197 : St w NoX [c197, c155_168, cB_168, cK_168, c157_168, c156_168, c5_168, c4_168, c3_168] w197 := S197
 refine W_end ?_
 refine Qo_normal ?_
 refine gen_Q (fun A198 E198 => ?_)
 have Y198 := szq E198
 have F198 := fsE E198 (ck (cq1 F170 rfl) rfl rfl)
 clear E198 Y170 F170
 refine tk H195 ?_
 refine R_seq (fun K199 H199 => ?_)
 refine R_monoS (by kernel_rfl) 7 8 [none, none, none, none, none, some (SPv [] (fun _ => fun u l' => ∃ g_, u = .slice (some ⟨g_, 0, none⟩) 1 1 ∧ ∃ c_, c_ = ro 2 grC (.slice (some ⟨g_, 0, none⟩) 1 1) [((hv_10, H_10), (qv_10, q_10))] ∧ l' = [c_]) 5), some (SPv [] (fun _ => fun u l' => ∃ v_, u = v_ ∧ ∃ c_, c_ = ro 2 grC v_ [((hv_10, H_10), (qv_10, q_10))] ∧ l' = [c_]) 6)] (by kernel_rfl) (by kernel_rfl) ?_
 refine D_r rfl rfl (by kernel_rfl) (fun sx hx hF => (VR_ldC rfl (fg9 F198) (cell_box (v := .slice none 0 0) ((S197.grow hx).obj 7 rfl hc4_168) rfl) Try.underlying62 rfl)) rfl rfl ?_
 refine D_r rfl rfl (by kernel_rfl) (fun sx hx hF => (VR_ldC rfl (es rfl (fg5 F198)) (cell_box (v := .pointer (some ⟨gs_10, 0, none⟩)) ((S197.grow hx).obj 1 rfl hc155_168) rfl) Try.underlying73 rfl)) rfl rfl ?_
 refine D_v rfl rfl (V_nil rfl (et rfl)) rfl rfl ?_
 refine D_v rfl rfl (V_fa (off' := 0) rfl (et rfl) Try.underlying75 rfl (by decide +kernel) rfl) rfl rfl ?_
 refine D_r rfl rfl (by kernel_rfl) (fun sx hx hF => (VR_ldP (ys := [hv_10, qv_10]) rfl (et rfl) ((S197.grow hx).obj 2 rfl hcB_168) (ldP_at rfl) Try.underlying36 rfl (by kernel_rfl))) rfl rfl ?_
 have hll200 : [((hv_10, H_10), (qv_10, q_10))].length = 1 := rfl
 refine D_lay (ts := []) (vs := []) (C0 := fun _ => fun u l' => ∃ g_, u = .slice (some ⟨g_, 0, none⟩) 1 1 ∧ ∃ c_, c_ = ro 2 grC (.slice (some ⟨g_, 0, none⟩) 1 1) [((hv_10, H_10), (qv_10, q_10))] ∧ l' = [c_]) (C := fun u l' => ∃ g_, u = .slice (some ⟨g_, 0, none⟩) 1 1 ∧ ∃ c_, c_ = ro 2 grC (.slice (some ⟨g_, 0, none⟩) 1 1) [((hv_10, H_10), (qv_10, q_10))] ∧ l' = [c_]) rfl rfl rfl rfl rfl rfl (fun sx hx hF => lay_lit (vs := [.agg #[hv_10, qv_10]]) 2 rfl (parts1 (et rfl)) rfl Try.underlying62 (by kernel_rfl) (by decide) (by intro v hv; simp only [List.mem_cons, List.not_mem_nil, or_false] at hv; rcases hv with rfl <;> rfl) (by rfl)) (fun u200 l200 hu200 => ?_)
 obtain ⟨g200, rfl, c200, hc200, hl200⟩ := hu200
 refine D_lay (ts := []) (vs := []) (C0 := fun _ => fun u l' => ∃ v_, u = v_ ∧ ∃ c_, c_ = ro 2 grC v_ [((hv_10, H_10), (qv_10, q_10))] ∧ l' = [c_]) (C := fun u l' => ∃ v_, u = v_ ∧ ∃ c_, c_ = ro 2 grC v_ [((hv_10, H_10), (qv_10, q_10))] ∧ l' = [c_]) rfl rfl rfl rfl rfl rfl (fun sx hx hF => by obtain ⟨ll200, ws200, we200, ⟨g200q, hq200, c200_, hc200_, hl200_⟩, hm200, k200, e200⟩ := L.ancF_get hF (by kernel_rfl); cases hq200; subst hl200_; exact lay_app0 (a := none) 2 rfl (es5 rfl (et rfl)) trivial (et rfl) Try.underlying62 Try.underlying62 (z := .agg #[.slice none 0 0, .slice none 0 0]) (bytes := 48) (by kernel_rfl) rfl (by decide) (ow_at ((k200.grow e200).chq 0 rfl hc200_)) (by intro u hu; simp only [List.flatMap_cons, List.flatMap_nil, grC, List.append_nil, List.cons_append, List.nil_append, List.mem_cons, List.not_mem_nil, or_false] at hu; rcases hu with rfl | rfl <;> first | exact SlN_one (sl_SlN (gl_oa m1 (S197.chq 3 rfl hcK_168))) | exact SlN_one (sl_SlN (gl_ra m1 (S197.chq 3 rfl hcK_168)))) (by first | omega | (simp; done) | (simp; omega)) (by first | omega | (simp; done) | (simp; omega))) (fun u201 l201 hu201 => ?_)
 obtain ⟨v201, rfl, c201, hc201, hl201⟩ := hu201
 refine D_eff rfl ?_
 refine ZS_eff S197 rfl rfl (fun s202 hJ202 hL202 hF202 => ?_)
 obtain ⟨ll200, ws200, we200, ⟨g200q, hq200, c200r, hc200r, hl200r⟩, hm200, k200, e200⟩ := L.all_get (L.all_rest hF202); cases hq200; subst hl200r
 replace hJ202 := hJ202.add hL202 (i := 5) rfl hm200 k200 e200
 obtain ⟨ll201, ws201, we201, ⟨v201q, hq201, c201r, hc201r, hl201r⟩, hm201, k201, e201⟩ := L.all_get hF202; cases hq201; subst hl201r
 replace hJ202 := hJ202.add hL202 (i := 6) rfl hm201 k201 e201
 have S202 := hJ202.st; clear hF202 hJ202 hL202
 generalize s202.1 = w202 at *
 replace S202 : St w NoX [c201r, c200r, c197, c155_168, cB_168, cK_168, c157_168, c156_168, c5_168, c4_168, c3_168] w202 := S202
 refine xsC (zs' := #[u201]) 9 S202 rfl hc4_168 rfl rfl rfl (es7 rfl (fg9 F198)) (et rfl) (SlN_one (ow_at (S202.chq 0 rfl hc201r))) (fun w203 c203 hc203 S203 => ?_)
 replace S203 : St w NoX [c201r, c200r, c197, c155_168, cB_168, cK_168, c157_168, c156_168, c5_168, c203, c3_168] w203 := S203
 refine W_end ?_
 refine Qo_normal ?_
 refine gen_Q (fun A204 E204 => ?_)
 have Y204 := szq E204
 have F204 := fsE E204 (cq7 F198 rfl)
 clear E204 Y198 F198
 have S205 : St w NoX [c201r, c197, c155_168, cB_168, cK_168, c157_168, c156_168, c5_168, c203, c3_168] w203 := S203.sel [0, 2, 3, 4, 5, 6, 7, 8, 9, 10] (by decide) rfl
 refine tk H199 ?_
 refine R_seq (fun K206 H206 => ?_)
 refine R_seq (fun K207 H207 => ?_)
 refine R_region (by kernel_rfl) ?_
 refine W_r rfl rfl (xlC (v := .pointer (some ⟨gs_10, 0, none⟩)) rfl (fg5 F204) (S205.obj 2 rfl hc155_168) Try.underlying73) ?_
 refine W_v rfl rfl (V_mov rfl (es rfl (fg11 F204))) ?_
 refine W_r rfl rfl (xlC (v := .func (.func 36) #[] #[.pointer (some ⟨g3, 0, none⟩)]) rfl (es2 rfl (fg0 F204)) (S205.obj 1 rfl hc197) Try.underlying85) ?_
 refine W_call rfl rfl rfl Try.func34 (by kernel_rfl) rfl (args3 (es2 rfl (et rfl)) (es rfl (et rfl)) (et rfl)) (kmtP_c (gs := gs_10) (gc := g3) (S205.roC h_lv) ) ?_
 rintro _ w208 ⟨g4_208, g3_208, g7_208, g5_208, rfl, hP208⟩
 refine ⟨_, rfl, ?_⟩
 obtain ⟨cb4_208, cb3_208, cb7_208, cb5_208, hcb4_208, hcb3_208, hcb7_208, hcb5_208, hP208⟩ := gen4 hP208
 have S208 := S205.join hP208
 replace S208 : St w NoX [cb4_208, cb3_208, cb7_208, cb5_208, c201r, c197, c155_168, cB_168, cK_168, c157_168, c156_168, c5_168, c203, c3_168] w208 := S208
 refine W_end ?_
 refine Qo_normal ?_
 refine gen_Q (fun A209 E209 => ?_)
 have Y209 := szq E209
 have F209 := fsE E209 (ck (cq3 F204 rfl) rfl rfl)
 clear E209 Y204 F204
 refine tk H207 ?_
 refine R_block ?_
 have hfull := fc_end hfc (by omega)
 have hasc := (fc_asc full (-1) os.length hfull).2
 have hfl := fc_len hfull
 obtain ⟨c210, hc210, S210⟩ := S208.pnil (s := 3)
 have S212 := S210.sel [0, 8, 9, 1, 2, 3, 4, 5, 6, 7, 10, 11, 12, 13, 14] (by decide) (l' := [c210, cB_168, cK_168, cb4_208, cb3_208, cb7_208, cb5_208, c201r, c197, c155_168, c157_168, c156_168, c5_168, c203, c3_168]) rfl
 replace S212 : St w NoX [c210, cB_168, cK_168, cb4_208, cb3_208, cb7_208, cb5_208, c201r, c197, c155_168, c157_168, c156_168, c5_168, c203, c3_168] w208 := S212
 obtain ⟨ct213, hct213, S213⟩ := genS (mT_shut (gs := gs_10) (T := 75) (n := (lgN C N Z K Q)) (G0 := ((hv_10, H_10), (qv_10, q_10))) (pre := []) (hcB_168) hcK_168 S212)
 replace S213 : St w NoX [c210, ct213, cb4_208, cb3_208, cb7_208, cb5_208, c201r, c197, c155_168, c157_168, c156_168, c5_168, c203, c3_168] w208 := S213
 have S214 := S213.sel [0, 2, 3, 4, 5, 6, 7, 8, 9, 10, 11, 12, 13, 1] (by decide) (l' := [c210, cb4_208, cb3_208, cb7_208, cb5_208, c201r, c197, c155_168, c157_168, c156_168, c5_168, c203, c3_168, ct213]) rfl
 replace S214 : St w NoX [c210, cb4_208, cb3_208, cb7_208, cb5_208, c201r, c197, c155_168, c157_168, c156_168, c5_168, c203, c3_168, ct213] w208 := S214
 refine R_rangeT (α := ME) (fg0 F209) (fun args w => calls_enter Try.func61 rfl rfl args w) (kmoP_it (gs := gs_10) (g3 := g3_208) (g4 := g4_208) (g5 := g5_208) (g7 := g7_208) (gc := g3) (G0 := ((hv_10, H_10), (qv_10, q_10))) (n := (lgN C N Z K Q)) (lv := lv) (os := os) (fv := fv) (full := full) (Rd := fun W => (bx g4_208 24 #[lv]).at W ∧ (rl 7 opC lv os).at W ∧ (bx g3_208 73 #[.pointer (some ⟨gs_10, 0, none⟩)]).at W ∧ (bx g7_208 76 #[.func (.func 30) #[.pointer (some ⟨gs_10, 0, none⟩)] #[]]).at W ∧ (bx g5_208 85 #[.func (.func 36) #[] #[.pointer (some ⟨g3, 0, none⟩)]]).at W ∧ (bx g3 25 #[fv]).at W ∧ (il .i64 fv full).at W) (fun _ h => h) (hsm0) (lg_rng) (hops) (hl2) (hasc) ((by omega))) (fun _ => rfl) (fun pre => pk (fun l => ∃ (gv : Value) (av : Value), (fbd (rfP full) 0 (moP (lgN C N Z K Q) K os full) = fbd (rfP full) pre.length ((moP (lgN C N Z K Q) K os full).drop pre.length)) ∧ l = [ro 3 anC av (pre.map fun x : ME => x.2.1), bx g4_208 24 #[lv], bx g3_208 73 #[.pointer (some ⟨gs_10, 0, none⟩)], bx g7_208 76 #[.func (.func 30) #[.pointer (some ⟨gs_10, 0, none⟩)] #[]], bx g5_208 85 #[.func (.func 36) #[] #[.pointer (some ⟨g3, 0, none⟩)]], ro 2 grC gv (gsM ((hv_10, H_10), (qv_10, q_10)) pre), bx g196 85 #[.func (.func 36) #[] #[.pointer (some ⟨g3, 0, none⟩)]], bx g154 73 #[.pointer (some ⟨gs_10, 0, none⟩)], bx g7 28 #[.int .i64 0], bx g6 3 #[.int .i64 0], bx g5 37 #[av], bx g4 62 #[gv], bx g3 25 #[fv]])) (fun cQ pre => pk (fun l => (cQ = .ret ∧ ∃ (gv : Value) (gL : List GV) (av : Value) (aL : List AnC) (a : Int) (er : Int), (fbd (rfP full) 0 (moP (lgN C N Z K Q) K os full) = (a, er)) ∧ (er ≠ 0) ∧ l = [ro 3 anC av aL, bx g4_208 24 #[lv], bx g3_208 73 #[.pointer (some ⟨gs_10, 0, none⟩)], bx g7_208 76 #[.func (.func 30) #[.pointer (some ⟨gs_10, 0, none⟩)] #[]], bx g5_208 85 #[.func (.func 36) #[] #[.pointer (some ⟨g3, 0, none⟩)]], ro 2 grC gv gL, bx g196 85 #[.func (.func 36) #[] #[.pointer (some ⟨g3, 0, none⟩)]], bx g154 73 #[.pointer (some ⟨gs_10, 0, none⟩)], bx g7 28 #[.int .i64 (er)], bx g6 3 #[.int .i64 (a)], bx g5 37 #[.slice none 0 0], bx g4 62 #[.slice none 0 0], bx g3 25 #[fv]]))) (St.pack (l := [ro 3 anC (.slice none 0 0) ([].map fun x : ME => x.2.1), bx g4_208 24 #[lv], bx g3_208 73 #[.pointer (some ⟨gs_10, 0, none⟩)], bx g7_208 76 #[.func (.func 30) #[.pointer (some ⟨gs_10, 0, none⟩)] #[]], bx g5_208 85 #[.func (.func 36) #[] #[.pointer (some ⟨g3, 0, none⟩)]], ro 2 grC u201 (gsM ((hv_10, H_10), (qv_10, q_10)) []), bx g196 85 #[.func (.func 36) #[] #[.pointer (some ⟨g3, 0, none⟩)]], bx g154 73 #[.pointer (some ⟨gs_10, 0, none⟩)], bx g7 28 #[.int .i64 0], bx g6 3 #[.int .i64 0], bx g5 37 #[(.slice none 0 0)], bx g4 62 #[u201], bx g3 25 #[fv]]) (fr := (mT gs_10 75 (lgN C N Z K Q) ((hv_10, H_10), (qv_10, q_10)) [] :: [])) (by have q0 : c210 = ro 3 anC (.slice none 0 0) ([].map fun x : ME => x.2.1) := hc210; have q1 : cb4_208 = bx g4_208 24 #[lv] := hcb4_208; have q2 : cb3_208 = bx g3_208 73 #[.pointer (some ⟨gs_10, 0, none⟩)] := hcb3_208; have q3 : cb7_208 = bx g7_208 76 #[.func (.func 30) #[.pointer (some ⟨gs_10, 0, none⟩)] #[]] := hcb7_208; have q4 : cb5_208 = bx g5_208 85 #[.func (.func 36) #[] #[.pointer (some ⟨g3, 0, none⟩)]] := hcb5_208; have q5 : c201r = ro 2 grC u201 (gsM ((hv_10, H_10), (qv_10, q_10)) []) := hc201r; have q6 : c197 = bx g196 85 #[.func (.func 36) #[] #[.pointer (some ⟨g3, 0, none⟩)]] := hc197; have q7 : c155_168 = bx g154 73 #[.pointer (some ⟨gs_10, 0, none⟩)] := hc155_168; have q8 : c157_168 = bx g7 28 #[.int .i64 0] := hc157_168; have q9 : c156_168 = bx g6 3 #[.int .i64 0] := hc156_168; have q10 : c5_168 = bx g5 37 #[(.slice none 0 0)] := hc5_168; have q11 : c203 = bx g4 62 #[u201] := hc203; have q12 : c3_168 = bx g3 25 #[fv] := hc3_168; have q13 := hct213; subst q0 q1 q2 q3 q4 q5 q6 q7 q8 q9 q10 q11 q12 q13; exact S214) ⟨u201, (.slice none 0 0), rfl, rfl⟩)
  (fun pre W l' hS => by obtain ⟨l, ⟨gv, av, hz, rfl⟩, hl⟩ := pk_at (hS.ch 0 rfl); exact ⟨(hl 1 _ rfl), hS.ro h_lv, (hl 2 _ rfl), (hl 3 _ rfl), (hl 4 _ rfl), (hl 12 _ rfl), hS.ro h_fv⟩)
  (fun x a' cQ => ∃ g218 : Nat, SzN a' 81 ∧ a'.defers = [] ∧ EV a' (.tmp 6) = EV A209 (.tmp 6) ∧ EV a' (.tmp 7) = EV A209 (.tmp 7) ∧ EV a' (.tmp 8) = EV A209 (.tmp 8) ∧ EV a' (.tmp 9) = EV A209 (.tmp 9) ∧ EV a' (.tmp 10) = EV A209 (.tmp 10) ∧ EV a' (.tmp 14) = EV A209 (.tmp 14) ∧ EV a' (.tmp 15) = .int .i64 (x.1) ∧ EV a' (.tmp 16) = .pointer (some ⟨g218, 0, none⟩) ∧ cQ = pk (·= [bx g218 44 #[.int .i64 (x.2.1.e), .bool (x.2.1.t), .int .u64 (x.2.1.v)]])) ?_ ?_ ?_ ?_
 ·intro la211 pre x wa211 fr K hSa211 hK
  simp only [Ml.encM]
  rw [rnd2]
  obtain ⟨A215, E215⟩ : ∃ A, A = (PT (PT { tmps := A209.tmps, defers := [] } 57 (.int .i64 x.1)) 58 (.agg #[.int .i64 x.2.1.e, .bool x.2.1.t, .int .u64 x.2.1.v])) := ⟨_, rfl⟩
  rw [← E215]
  have Y215 := szq E215
  have hdf215 : A215.defers = [] := by rw [E215]; rfl
  have l6_215 := lookE E215 6 (es2 rfl (rnd_l (fg10 F209)))
  have l7_215 := lookE E215 7 (es2 rfl (rnd_l (fg9 F209)))
  have l8_215 := lookE E215 8 (es2 rfl (rnd_l (fg8 F209)))
  have l9_215 := lookE E215 9 (es2 rfl (rnd_l (fg7 F209)))
  have l10_215 := lookE E215 10 (es2 rfl (rnd_l (fg6 F209)))
  have l14_215 := lookE E215 14 (es2 rfl (rnd_l (fg1 F209)))
  have l57_215 := lookE E215 57 (es rfl (et rfl))
  have l58_215 := lookE E215 58 (et rfl)
  clear E215
  obtain ⟨cI, hcI, hSa211⟩ := gen1 hSa211
  refine R_seq (fun K216 H216 => ?_)
  refine R_region (by kernel_rfl) ?_
  refine W_v rfl rfl (V_asg rfl l57_215) ?_
  refine W_end ?_
  refine Qo_normal ?_
  refine gen_Q (fun A217 E217 => ?_)
  have Y217 := szq E217
  have F217 := (((((((fsE E217 (ck (FS.n hdf215) rfl rfl)).c (lookE E217 6 (es rfl l6_215))).c (lookE E217 7 (es rfl l7_215))).c (lookE E217 8 (es rfl l8_215))).c (lookE E217 9 (es rfl l9_215))).c (lookE E217 10 (es rfl l10_215))).c (lookE E217 14 (es rfl l14_215))).c (lookE E217 58 (es rfl l58_215))
  clear E217 Y215 hdf215 l6_215 l7_215 l8_215 l9_215 l10_215 l14_215 l57_215 l58_215
  refine tk H216 ?_
  refine R_region (by kernel_rfl) ?_
  refine W_allocS (z := .agg #[.int .i64 0, .bool false, .int .u64 0]) (zs := #[.int .i64 0, .bool false, .int .u64 0]) hSa211 rfl rfl rfl (by kernel_rfl) (by rfl) (fun g218 w218 c218 hc218 S218 => ?_)
  replace S218 : St w NoX (c218 :: cI :: fr) w218 := S218
  refine xsA 0 S218 rfl hc218 rfl rfl rfl (et rfl) (es rfl (fg0 F217)) (fun w219 c219 hc219 S219 => ?_)
  replace S219 : St w NoX (c219 :: cI :: fr) w219 := S219
  refine W_end ?_
  refine Qo_normal ?_
  refine gen_Q (fun A220 E220 => ?_)
  have Y220 := szq E220
  have F220 := fsE E220 (ck F217 rfl rfl)
  clear E220 Y217 F217
  refine then_n ?_
  refine hK _ _ _ ⟨g218, Y220, F220.d, ((fg7 F220).trans (fg10 F209).symm), ((fg6 F220).trans (fg9 F209).symm), ((fg5 F220).trans (fg8 F209).symm), ((fg4 F220).trans (fg7 F209).symm), ((fg3 F220).trans (fg6 F209).symm), ((fg2 F220).trans (fg1 F209).symm), (fg8 F220), (fg0 F220), rfl⟩ ?_
  subst hc219 hcI; exact S219.asg1
 ·rintro lb221 pre x A221 w221 cQ fr hAx hlr S221 hVd
  obtain ⟨g218, Y221, hdf221, u6_221, u7_221, u8_221, u9_221, u10_221, u14_221, l15_221, l16_221, rfl⟩ := hAx
  have l6_221 := u6_221.trans (fg10 F209)
  have l7_221 := u7_221.trans (fg9 F209)
  have l8_221 := u8_221.trans (fg8 F209)
  have l9_221 := u9_221.trans (fg7 F209)
  have l10_221 := u10_221.trans (fg6 F209)
  have l14_221 := u14_221.trans (fg1 F209)
  obtain ⟨_, _, ⟨gv, av, hz, rfl⟩, rfl, S221⟩ := S221.body2
  replace S221 : St w NoX ((ro 3 anC av (pre.map fun x : ME => x.2.1)) :: (bx g4_208 24 #[lv]) :: (bx g3_208 73 #[.pointer (some ⟨gs_10, 0, none⟩)]) :: (bx g7_208 76 #[.func (.func 30) #[.pointer (some ⟨gs_10, 0, none⟩)] #[]]) :: (bx g5_208 85 #[.func (.func 36) #[] #[.pointer (some ⟨g3, 0, none⟩)]]) :: (ro 2 grC gv (gsM ((hv_10, H_10), (qv_10, q_10)) pre)) :: (bx g196 85 #[.func (.func 36) #[] #[.pointer (some ⟨g3, 0, none⟩)]]) :: (bx g154 73 #[.pointer (some ⟨gs_10, 0, none⟩)]) :: (bx g7 28 #[.int .i64 0]) :: (bx g6 3 #[.int .i64 0]) :: (bx g5 37 #[av]) :: (bx g4 62 #[gv]) :: (bx g3 25 #[fv]) :: (bx g218 44 #[.int .i64 (x.2.1.e), .bool (x.2.1.t), .int .u64 (x.2.1.v)]) :: (mT gs_10 75 (lgN C N Z K Q) ((hv_10, H_10), (qv_10, q_10)) (pre ++ [x])) :: fr) w221 := S221
  obtain ⟨c210_222, cb4_222, cb3_222, cb7_222, cb5_222, c201r_222, c197_222, c155_222, c157_222, c156_222, c5_222, c203_222, c3_222, c219_222, ct_222, hc210_222, hcb4_222, hcb3_222, hcb7_222, hcb5_222, hc201r_222, hc197_222, hc155_222, hc157_222, hc156_222, hc5_222, hc203_222, hc3_222, hc219_222, hct_222, S221⟩ := gen15 S221
  have S223 : St w NoX (c210_222 :: ct_222 :: cb4_222 :: cb3_222 :: cb7_222 :: cb5_222 :: c201r_222 :: c197_222 :: c155_222 :: c157_222 :: c156_222 :: c5_222 :: c203_222 :: c3_222 :: c219_222 :: fr) w221 := St.selR (l := [c210_222, cb4_222, cb3_222, cb7_222, cb5_222, c201r_222, c197_222, c155_222, c157_222, c156_222, c5_222, c203_222, c3_222, c219_222, ct_222]) (l' := [c210_222, ct_222, cb4_222, cb3_222, cb7_222, cb5_222, c201r_222, c197_222, c155_222, c157_222, c156_222, c5_222, c203_222, c3_222, c219_222]) (fr := fr) S221 [0, 14, 1, 2, 3, 4, 5, 6, 7, 8, 9, 10, 11, 12, 13] (by decide) (by rfl) rfl
  obtain ⟨cb224, ck224, hcb224, hck224, S224⟩ := mT_open (hct_222 ▸ S223)
  rw [lastG_app] at hcb224
  replace S224 : St w NoX (c210_222 :: cb224 :: ck224 :: cb4_222 :: cb3_222 :: cb7_222 :: cb5_222 :: c201r_222 :: c197_222 :: c155_222 :: c157_222 :: c156_222 :: c5_222 :: c203_222 :: c3_222 :: c219_222 :: fr) w221 := S224
  have hpl : pre.length + 1 ≤ os.length := by have := hVd.len; simpa using this
  have hgl : (gsM ((hv_10, H_10), (qv_10, q_10)) pre).length = pre.length + 1 := by simp [gsM]
  refine R_block ?_
  refine R_seq (fun K225 H225 => ?_)
  refine R_seq (fun K226 H226 => ?_)
  refine R_region (by kernel_rfl) ?_
  refine W_r rfl rfl (xlC (v := .func (.func 36) #[] #[.pointer (some ⟨g3, 0, none⟩)]) rfl l14_221 (S224.obj 8 rfl hc197_222) Try.underlying85) ?_
  refine W_v rfl rfl (V_mov rfl (es rfl l15_221)) ?_
  refine W_callV rfl rfl rfl (es rfl (et rfl)) Try.func36 (by kernel_rfl) rfl (args1 (et rfl)) (kp1_c (i := x.1) (gfv := g3) (S224.chC 14 rfl hc3_222) (S224.roC h_fv) (by first | with_reducible assumption) (by first | with_reducible assumption | omega)) ?_
  rintro _ w227 ⟨rfl, hP227⟩
  refine ⟨_, rfl, ?_⟩
  have S227 := S224.join hP227
  replace S227 : St w NoX (c210_222 :: cb224 :: ck224 :: cb4_222 :: cb3_222 :: cb7_222 :: cb5_222 :: c201r_222 :: c197_222 :: c155_222 :: c157_222 :: c156_222 :: c5_222 :: c203_222 :: c3_222 :: c219_222 :: fr) w227 := S227
  refine W_split rfl rfl (V_mov rfl (et rfl)) (fun c228 => ?_) (fun c228 => ?_)
  ·refine W_v rfl (xwt rfl rfl (et rfl)) (V_fa (off' := 0) rfl (es4 rfl l16_221) Try.underlying44 rfl (by decide +kernel) rfl) ?_
   refine W_r rfl (xwt rfl rfl (es rfl (et rfl))) (xlC (v := .int .i64 (x.2.1.e)) rfl (et rfl) (S227.obj 15 rfl hc219_222) Try.underlying28) ?_
   refine W_v rfl (xwt rfl rfl (es2 rfl (et rfl))) (V_neq rfl (et rfl) rfl) ?_
   refine W_v rfl rfl (V_pickT rfl (es3 rfl (et rfl)) (et rfl)) ?_
   refine W_end ?_
   refine Qo_normal ?_
   refine gen_Q (fun A229 E229 => ?_)
   have Y229 := szq E229
   have F229 := (((((((fsE E229 (ck (cq7 (FS.n hdf221) rfl) rfl rfl)).c (lookE E229 6 (es8 rfl l6_221))).c (lookE E229 7 (es8 rfl l7_221))).c (lookE E229 8 (es8 rfl l8_221))).c (lookE E229 9 (es8 rfl l9_221))).c (lookE E229 10 (es8 rfl l10_221))).c (lookE E229 15 (es8 rfl l15_221))).c (lookE E229 16 (es8 rfl l16_221))
   clear E229 Y221 hdf221 l6_221 l7_221 l8_221 l9_221 l10_221 l14_221 l15_221 l16_221
   refine tk H226 ?_
   refine R_cond_dec (fg7 F229) (fun c230 => ?_) (fun c230 => ?_)
   ·refine R_seq (fun K231 H231 => ?_)
    refine R_region (by kernel_rfl) ?_
    refine W_v rfl rfl (V_mov rfl (fg1 F229)) ?_
    refine xsC (zs' := #[.slice none 0 0]) 13 S227 rfl hc203_222 rfl rfl rfl (es rfl (fg6 F229)) rfl (by rfl) (fun w232 c232 hc232 S232 => ?_)
    replace S232 : St w NoX (c210_222 :: cb224 :: ck224 :: cb4_222 :: cb3_222 :: cb7_222 :: cb5_222 :: c201r_222 :: c197_222 :: c155_222 :: c157_222 :: c156_222 :: c5_222 :: c232 :: c3_222 :: c219_222 :: fr) w232 := S232
    refine xsC (zs' := #[.slice none 0 0]) 12 S232 rfl hc5_222 rfl rfl rfl (es rfl (fg5 F229)) rfl (by rfl) (fun w233 c233 hc233 S233 => ?_)
    replace S233 : St w NoX (c210_222 :: cb224 :: ck224 :: cb4_222 :: cb3_222 :: cb7_222 :: cb5_222 :: c201r_222 :: c197_222 :: c155_222 :: c157_222 :: c156_222 :: c233 :: c232 :: c3_222 :: c219_222 :: fr) w233 := S233
    refine xsC (zs' := #[.int .i64 (x.1)]) 11 S233 rfl hc156_222 rfl rfl rfl (es rfl (fg4 F229)) (et rfl) (by rfl) (fun w234 c234 hc234 S234 => ?_)
    replace S234 : St w NoX (c210_222 :: cb224 :: ck224 :: cb4_222 :: cb3_222 :: cb7_222 :: cb5_222 :: c201r_222 :: c197_222 :: c155_222 :: c157_222 :: c234 :: c233 :: c232 :: c3_222 :: c219_222 :: fr) w234 := S234
    refine xsC (zs' := #[.int .i64 2]) 10 S234 rfl hc157_222 rfl rfl rfl (es rfl (fg3 F229)) rfl (by rfl) (fun w235 c235 hc235 S235 => ?_)
    replace S235 : St w NoX (c210_222 :: cb224 :: ck224 :: cb4_222 :: cb3_222 :: cb7_222 :: cb5_222 :: c201r_222 :: c197_222 :: c155_222 :: c235 :: c234 :: c233 :: c232 :: c3_222 :: c219_222 :: fr) w235 := S235
    refine W_end ?_
    refine Qo_normal ?_
    refine gen_Q (fun A236 E236 => ?_)
    have Y236 := szq E236
    have F236 := fsE E236 (cq1 F229 rfl)
    clear E236 Y229 F229
    have S238 := S235.del 15
    replace S238 : St w NoX (c210_222 :: cb224 :: ck224 :: cb4_222 :: cb3_222 :: cb7_222 :: cb5_222 :: c201r_222 :: c197_222 :: c155_222 :: c235 :: c234 :: c233 :: c232 :: c3_222 :: fr) w235 := S238
    refine tk H231 ?_
    refine R_ret ?_
    refine then_ret ?_
    refine inb_ret ?_
    obtain ⟨ct239, hct239, S239⟩ := genS (mT_shut (gs := gs_10) (T := 75) (n := (lgN C N Z K Q)) (G0 := ((hv_10, H_10), (qv_10, q_10))) (pre := (pre ++ [x])) (hcb224.trans (by rw [lastG_app])) hck224 S238)
    replace S239 : St w NoX (c210_222 :: ct239 :: cb4_222 :: cb3_222 :: cb7_222 :: cb5_222 :: c201r_222 :: c197_222 :: c155_222 :: c235 :: c234 :: c233 :: c232 :: c3_222 :: fr) w235 := S239
    have S240 : St w NoX (c210_222 :: cb4_222 :: cb3_222 :: cb7_222 :: cb5_222 :: c201r_222 :: c197_222 :: c155_222 :: c235 :: c234 :: c233 :: c232 :: c3_222 :: ct239 :: fr) w235 := St.selR (l := [c210_222, ct239, cb4_222, cb3_222, cb7_222, cb5_222, c201r_222, c197_222, c155_222, c235, c234, c233, c232, c3_222]) (l' := [c210_222, cb4_222, cb3_222, cb7_222, cb5_222, c201r_222, c197_222, c155_222, c235, c234, c233, c232, c3_222, ct239]) (fr := fr) S239 [0, 2, 3, 4, 5, 6, 7, 8, 9, 10, 11, 12, 13, 1] (by decide) (by rfl) rfl
    exact (St.pack (l := [ro 3 anC av (pre.map fun x : ME => x.2.1), bx g4_208 24 #[lv], bx g3_208 73 #[.pointer (some ⟨gs_10, 0, none⟩)], bx g7_208 76 #[.func (.func 30) #[.pointer (some ⟨gs_10, 0, none⟩)] #[]], bx g5_208 85 #[.func (.func 36) #[] #[.pointer (some ⟨g3, 0, none⟩)]], ro 2 grC gv (gsM ((hv_10, H_10), (qv_10, q_10)) pre), bx g196 85 #[.func (.func 36) #[] #[.pointer (some ⟨g3, 0, none⟩)]], bx g154 73 #[.pointer (some ⟨gs_10, 0, none⟩)], bx g7 28 #[.int .i64 (2)], bx g6 3 #[.int .i64 (x.1)], bx g5 37 #[.slice none 0 0], bx g4 62 #[.slice none 0 0], bx g3 25 #[fv]]) (fr := (mT gs_10 75 (lgN C N Z K Q) ((hv_10, H_10), (qv_10, q_10)) (pre ++ [x]) :: fr)) (by have q0 : c210_222 = ro 3 anC av (pre.map fun x : ME => x.2.1) := hc210_222; have q1 : cb4_222 = bx g4_208 24 #[lv] := hcb4_222; have q2 : cb3_222 = bx g3_208 73 #[.pointer (some ⟨gs_10, 0, none⟩)] := hcb3_222; have q3 : cb7_222 = bx g7_208 76 #[.func (.func 30) #[.pointer (some ⟨gs_10, 0, none⟩)] #[]] := hcb7_222; have q4 : cb5_222 = bx g5_208 85 #[.func (.func 36) #[] #[.pointer (some ⟨g3, 0, none⟩)]] := hcb5_222; have q5 : c201r_222 = ro 2 grC gv (gsM ((hv_10, H_10), (qv_10, q_10)) pre) := hc201r_222; have q6 : c197_222 = bx g196 85 #[.func (.func 36) #[] #[.pointer (some ⟨g3, 0, none⟩)]] := hc197_222; have q7 : c155_222 = bx g154 73 #[.pointer (some ⟨gs_10, 0, none⟩)] := hc155_222; have q8 : c235 = bx g7 28 #[.int .i64 (2)] := hc235; have q9 : c234 = bx g6 3 #[.int .i64 (x.1)] := hc234; have q10 : c233 = bx g5 37 #[.slice none 0 0] := hc233; have q11 : c232 = bx g4 62 #[.slice none 0 0] := hc232; have q12 : c3_222 = bx g3 25 #[fv] := hc3_222; have q13 := hct239; subst q0 q1 q2 q3 q4 q5 q6 q7 q8 q9 q10 q11 q12 q13; exact S240) (⟨rfl, gv, (gsM ((hv_10, H_10), (qv_10, q_10)) pre), av, (pre.map fun x : ME => x.2.1), x.1, 2, (pl_bad hgK hVd hz c228 c230), (by decide), rfl⟩))
   refine R_skip ?_
   refine tk H225 ?_
   have hll241 : [x.2.2].length = 1 := rfl
   have hll243 : [(AnC.mk x.2.1.e x.2.1.t x.2.1.v)].length = 1 := rfl
   refine R_any (by kernel_rfl) (by kernel_rfl) 13 rfl (fun w361 hx361 => ?_)
   have S361 := S227.grow hx361
   have S361 := pkR (l := [c210_222, cb224, ck224, cb4_222, cb3_222, cb7_222, cb5_222, c201r_222, c197_222, c155_222, c157_222, c156_222, c5_222, c203_222, c3_222, c219_222]) (fr := fr) S361
   refine AX_parL (l0 := [c210_222, cb224, ck224, cb4_222, cb3_222, cb7_222, cb5_222, c201r_222, c197_222, c155_222, c157_222, c156_222, c5_222, c203_222, c3_222, c219_222, pk (·= fr)]) (k := 2) [⟨[13], [], [68], fun vs => [], fun vs => (vs.getD 0 undef) = gv⟩, ⟨[9], [], [69], fun vs => [], fun vs => (vs.getD 0 undef) = .pointer (some ⟨gs_10, 0, none⟩)⟩, ⟨[], [], [70], fun vs => [], fun vs => (vs.getD 0 undef) = .pointer (some ⟨gs_10, 0, none⟩)⟩, ⟨[], [], [71], fun vs => [], fun vs => (vs.getD 0 undef) = .pointer (some ⟨gs_10, 0, none⟩)⟩, ⟨[1], [], [72], fun vs => [], fun vs => (vs.getD 0 undef) = .agg #[x.2.2.1.1, x.2.2.2.1]⟩, ⟨[], [17], [73], fun vs => [ro 2 grC (vs.getD 0 undef) [x.2.2]], fun vs => True⟩, ⟨[17, 2], [7], [74], fun vs => [ro 2 grC (vs.getD 0 undef) ((gsM ((hv_10, H_10), (qv_10, q_10)) pre) ++ [x.2.2])], fun vs => True⟩, ⟨[12], [], [75], fun vs => [], fun vs => (vs.getD 0 undef) = av⟩, ⟨[15], [], [76], fun vs => [], fun vs => (vs.getD 0 undef) = .agg #[.int .i64 (x.2.1.e), .bool (x.2.1.t), .int .u64 (x.2.1.v)]⟩, ⟨[], [18], [77], fun vs => [ro 3 anC (vs.getD 0 undef) [(AnC.mk x.2.1.e x.2.1.t x.2.1.v)]], fun vs => True⟩, ⟨[18], [0], [78], fun vs => [ro 3 anC (vs.getD 0 undef) ((pre.map fun x : ME => x.2.1) ++ [(AnC.mk x.2.1.e x.2.1.t x.2.1.v)])], fun vs => True⟩, ⟨[7], [13], [74], fun vs => [bx g4 62 #[(vs.getD 0 undef)]], fun vs => True⟩, ⟨[0], [12], [78], fun vs => [bx g5 37 #[(vs.getD 0 undef)]], fun vs => True⟩] [c210_222, cb224, ck224, cb4_222, cb3_222, cb7_222, cb5_222, c201r_222, c197_222, c155_222, c157_222, c156_222, c5_222, c203_222, c3_222, c219_222, pk (·= fr), pu True, pu True] S361 rfl (by kernel_rfl) rfl ⟨?_, ?_, ?_, ?_, ?_, ?_, ?_, ?_, ?_, ?_, ?_, ?_, ?_, trivial⟩ ?_
   ·refine stepI [] (fun vs => [c203_222]) rfl (fun a => by kernel_rfl) ?_
    intro A362 w362 rst hFr hF S362
    replace S362 : St w NoX [c203_222, rst] w362 := S362
    have Y362 : SzN A362 81 := ⟨hFr.sz.trans Y229.out⟩
    have hdf362 : A362.defers = [] := hFr.df.trans F229.d
    have l6_362 := (oldS hFr 6 (by kernel_rfl)).trans (fg6 F229)
    obtain ⟨c203_362, hc203_362, S362⟩ := gen1 S362
    replace hc203_362 := hc203_362.trans hc203_222
    refine W_r rfl rfl (xlC (v := gv) rfl l6_362 (S362.obj 0 rfl hc203_362) Try.underlying62) ?_
    refine W_end ?_
    refine kq _ ?_
    exact ⟨_, [gv], rfl, ts1 (et rfl), rfl, rfl, by subst hc203_362 hc203_222; exact S362⟩
   ·refine stepI [] (fun vs => [c155_222]) rfl (fun a => by kernel_rfl) ?_
    intro A363 w363 rst hFr hF S363
    replace S363 : St w NoX [c155_222, rst] w363 := S363
    have Y363 : SzN A363 81 := ⟨hFr.sz.trans Y229.out⟩
    have hdf363 : A363.defers = [] := hFr.df.trans F229.d
    have l10_363 := (oldS hFr 10 (by kernel_rfl)).trans (fg2 F229)
    obtain ⟨c155_363, hc155_363, S363⟩ := gen1 S363
    replace hc155_363 := hc155_363.trans hc155_222
    refine W_r rfl rfl (xlC (v := .pointer (some ⟨gs_10, 0, none⟩)) rfl l10_363 (S363.obj 0 rfl hc155_363) Try.underlying73) ?_
    refine W_end ?_
    refine kq _ ?_
    exact ⟨_, [.pointer (some ⟨gs_10, 0, none⟩)], rfl, ts1 (et rfl), rfl, rfl, by subst hc155_363 hc155_222; exact S363⟩
   ·refine stepI [] (fun vs => []) rfl (fun a => by kernel_rfl) ?_
    intro A364 w364 rst hFr hF S364
    replace S364 : St w NoX [rst] w364 := S364
    have f69_364 : EV A364 (.tmp 69) = .pointer (some ⟨gs_10, 0, none⟩) := hF 1 (by kernel_rfl)
    generalize q69_364 : EV A364 (.tmp 69) = us69 at S364 f69_364
    have l69_364 := q69_364.trans f69_364
    have Y364 : SzN A364 81 := ⟨hFr.sz.trans Y229.out⟩
    have hdf364 : A364.defers = [] := hFr.df.trans F229.d
    refine W_v rfl rfl (V_nil rfl l69_364) ?_
    refine W_end ?_
    refine kq _ ?_
    subst q69_364
    exact ⟨_, [.pointer (some ⟨gs_10, 0, none⟩)], rfl, ts1 (et rfl), rfl, rfl, S364⟩
   ·refine stepI [] (fun vs => []) rfl (fun a => by kernel_rfl) ?_
    intro A365 w365 rst hFr hF S365
    replace S365 : St w NoX [rst] w365 := S365
    have f70_365 : EV A365 (.tmp 70) = .pointer (some ⟨gs_10, 0, none⟩) := hF 2 (by kernel_rfl)
    generalize q70_365 : EV A365 (.tmp 70) = us70 at S365 f70_365
    have l70_365 := q70_365.trans f70_365
    have Y365 : SzN A365 81 := ⟨hFr.sz.trans Y229.out⟩
    have hdf365 : A365.defers = [] := hFr.df.trans F229.d
    refine W_v rfl rfl (V_fa (off' := 0) rfl l70_365 Try.underlying75 rfl (by decide +kernel) rfl) ?_
    refine W_end ?_
    refine kq _ ?_
    subst q70_365
    exact ⟨_, [.pointer (some ⟨gs_10, 0, none⟩)], rfl, ts1 (et rfl), rfl, rfl, S365⟩
   ·refine stepI [] (fun vs => [cb224]) rfl (fun a => by kernel_rfl) ?_
    intro A366 w366 rst hFr hF S366
    replace S366 : St w NoX [cb224, rst] w366 := S366
    have f71_366 : EV A366 (.tmp 71) = .pointer (some ⟨gs_10, 0, none⟩) := hF 3 (by kernel_rfl)
    generalize q71_366 : EV A366 (.tmp 71) = us71 at S366 f71_366
    have l71_366 := q71_366.trans f71_366
    have Y366 : SzN A366 81 := ⟨hFr.sz.trans Y229.out⟩
    have hdf366 : A366.defers = [] := hFr.df.trans F229.d
    obtain ⟨cb224_366, hcb224_366, S366⟩ := gen1 S366
    replace hcb224_366 := hcb224_366.trans hcb224
    refine W_r rfl rfl (VR_ldP (ys := [x.2.2.1.1, x.2.2.2.1]) rfl l71_366 (S366.obj 0 rfl hcb224_366) (ldP_at rfl) Try.underlying36 rfl (by kernel_rfl)) ?_
    refine W_end ?_
    refine kq _ ?_
    subst q71_366
    exact ⟨_, [.agg #[x.2.2.1.1, x.2.2.2.1]], rfl, ts1 (et rfl), rfl, rfl, by subst hcb224_366 hcb224; exact S366⟩
   ·refine stepI [] (fun vs => [pu True]) rfl (fun a => by kernel_rfl) ?_
    intro A367 w367 rst hFr hF S367
    replace S367 : St w NoX [pu True, rst] w367 := S367
    have f72_367 : EV A367 (.tmp 72) = .agg #[x.2.2.1.1, x.2.2.2.1] := hF 4 (by kernel_rfl)
    generalize q72_367 : EV A367 (.tmp 72) = us72 at S367 f72_367
    have l72_367 := q72_367.trans f72_367
    have Y367 : SzN A367 81 := ⟨hFr.sz.trans Y229.out⟩
    have hdf367 : A367.defers = [] := hFr.df.trans F229.d
    obtain ⟨cz_367, hcz_367, S367⟩ := gen1 S367
    have hll368 : [x.2.2].length = 1 := rfl
    refine xsL (vs := [.agg #[x.2.2.1.1, x.2.2.2.1]]) (xs := ([x.2.2].flatMap grC)) 2 S367 rfl rfl rfl (parts1 l72_367) Try.underlying62 (fun g368 w368 c368 hc368 S368 => ?_)
    replace hc368 : c368 = ro 2 grC (.slice (some ⟨g368, 0, none⟩) 1 1) [x.2.2] := hc368
    replace S368 : St w NoX (c368 :: cz_367 :: [rst]) w368 := S368
    refine W_end ?_
    refine kq _ ?_
    have S370 := S368.del 1
    replace S370 : St w NoX (c368 :: [rst]) w368 := S370
    subst q72_367
    exact ⟨_, [(.slice (some ⟨g368, 0, none⟩) 1 1)], rfl, ts1 (et rfl), trivial, rfl, by subst hc368; exact S370⟩
   ·refine stepI [73] (fun vs => [ro 2 grC (vs.getD 0 undef) [x.2.2], ck224, c201r_222]) rfl (fun a => by kernel_rfl) ?_
    intro A371 w371 rst hFr hF S371
    replace S371 : St w NoX [ro 2 grC (EV A371 (.tmp 73)) [x.2.2], ck224, c201r_222, rst] w371 := S371
    have f68_371 : EV A371 (.tmp 68) = gv := hF 0 (by kernel_rfl)
    generalize q68_371 : EV A371 (.tmp 68) = us68 at S371 f68_371
    generalize q73_371 : EV A371 (.tmp 73) = us73 at S371 f68_371
    have l68_371 := q68_371.trans f68_371
    have l73_371 := q73_371
    have Y371 : SzN A371 81 := ⟨hFr.sz.trans Y229.out⟩
    have hdf371 : A371.defers = [] := hFr.df.trans F229.d
    obtain ⟨c301_371, ck224_371, c201r_371, hc301_371, hck224_371, hc201r_371, S371⟩ := gen3 S371
    replace hck224_371 := hck224_371.trans hck224
    replace hc201r_371 := hc201r_371.trans hc201r_222
    refine W_appS 2 2 S371 rfl hc201r_371 rfl rfl rfl l68_371 l73_371 Try.underlying62 Try.underlying62 (z := .agg #[.slice none 0 0, .slice none 0 0]) (bytes := 48) (by kernel_rfl) rfl (by decide) (ow_at (S371.chq 0 rfl hc301_371)) (by intro u hu; simp only [List.flatMap_cons, List.flatMap_nil, grC, List.append_nil, List.cons_append, List.nil_append, List.mem_cons, List.not_mem_nil, or_false] at hu; rcases hu with rfl | rfl <;> first | exact SlN_one (sl_SlN (gl_oa gsM_last (S371.chq 1 rfl hck224_371))) | exact SlN_one (sl_SlN (gl_ra gsM_last (S371.chq 1 rfl hck224_371)))) (by first | omega | (simp; done) | (simp; omega)) (by first | omega | (simp; done) | (simp; omega)) (fun v372 w372 c372 hc372 S372 => ?_)
    replace hc372 : c372 = ro 2 grC v372 ((gsM ((hv_10, H_10), (qv_10, q_10)) pre) ++ [x.2.2]) := hc372.trans (app_eqR (by first | (simp; done) | (rw [List.take_of_length_le (l := List.drop _ _) (by rw [List.length_drop]; exact Nat.le_refl _)])))
    replace S372 : St w NoX (c301_371 :: ck224_371 :: c372 :: [rst]) w372 := S372
    refine W_end ?_
    refine kq _ ?_
    subst q68_371 q73_371
    exact ⟨_, [v372], rfl, ts1 (et rfl), trivial, rfl, by subst hc301_371 hck224_371 hc372 hck224 hc201r_222; exact S372⟩
   ·refine stepI [] (fun vs => [c5_222]) rfl (fun a => by kernel_rfl) ?_
    intro A373 w373 rst hFr hF S373
    replace S373 : St w NoX [c5_222, rst] w373 := S373
    have Y373 : SzN A373 81 := ⟨hFr.sz.trans Y229.out⟩
    have hdf373 : A373.defers = [] := hFr.df.trans F229.d
    have l7_373 := (oldS hFr 7 (by kernel_rfl)).trans (fg5 F229)
    obtain ⟨c5_373, hc5_373, S373⟩ := gen1 S373
    replace hc5_373 := hc5_373.trans hc5_222
    refine W_r rfl rfl (xlC (v := av) rfl l7_373 (S373.obj 0 rfl hc5_373) Try.underlying37) ?_
    refine W_end ?_
    refine kq _ ?_
    exact ⟨_, [av], rfl, ts1 (et rfl), rfl, rfl, by subst hc5_373 hc5_222; exact S373⟩
   ·refine stepI [] (fun vs => [c219_222]) rfl (fun a => by kernel_rfl) ?_
    intro A374 w374 rst hFr hF S374
    replace S374 : St w NoX [c219_222, rst] w374 := S374
    have Y374 : SzN A374 81 := ⟨hFr.sz.trans Y229.out⟩
    have hdf374 : A374.defers = [] := hFr.df.trans F229.d
    have l16_374 := (oldS hFr 16 (by kernel_rfl)).trans (fg0 F229)
    obtain ⟨c219_374, hc219_374, S374⟩ := gen1 S374
    replace hc219_374 := hc219_374.trans hc219_222
    refine W_r rfl rfl (VR_ldA rfl l16_374 (S374.obj 0 rfl hc219_374) Try.underlying44 rfl (by kernel_rfl)) ?_
    refine W_end ?_
    refine kq _ ?_
    exact ⟨_, [.agg #[.int .i64 (x.2.1.e), .bool (x.2.1.t), .int .u64 (x.2.1.v)]], rfl, ts1 (et rfl), rfl, rfl, by subst hc219_374 hc219_222; exact S374⟩
   ·refine stepI [] (fun vs => [pu True]) rfl (fun a => by kernel_rfl) ?_
    intro A375 w375 rst hFr hF S375
    replace S375 : St w NoX [pu True, rst] w375 := S375
    have f76_375 : EV A375 (.tmp 76) = .agg #[.int .i64 (x.2.1.e), .bool (x.2.1.t), .int .u64 (x.2.1.v)] := hF 8 (by kernel_rfl)
    generalize q76_375 : EV A375 (.tmp 76) = us76 at S375 f76_375
    have l76_375 := q76_375.trans f76_375
    have Y375 : SzN A375 81 := ⟨hFr.sz.trans Y229.out⟩
    have hdf375 : A375.defers = [] := hFr.df.trans F229.d
    obtain ⟨cz_375, hcz_375, S375⟩ := gen1 S375
    have hll376 : [(AnC.mk x.2.1.e x.2.1.t x.2.1.v)].length = 1 := rfl
    refine xsL (vs := [.agg #[.int .i64 (x.2.1.e), .bool (x.2.1.t), .int .u64 (x.2.1.v)]]) (xs := ([(AnC.mk x.2.1.e x.2.1.t x.2.1.v)].flatMap anC)) 3 S375 rfl rfl rfl (parts1 l76_375) Try.underlying37 (fun g376 w376 c376 hc376 S376 => ?_)
    replace hc376 : c376 = ro 3 anC (.slice (some ⟨g376, 0, none⟩) 1 1) [(AnC.mk x.2.1.e x.2.1.t x.2.1.v)] := hc376
    replace S376 : St w NoX (c376 :: cz_375 :: [rst]) w376 := S376
    refine W_end ?_
    refine kq _ ?_
    have S378 := S376.del 1
    replace S378 : St w NoX (c376 :: [rst]) w376 := S378
    subst q76_375
    exact ⟨_, [(.slice (some ⟨g376, 0, none⟩) 1 1)], rfl, ts1 (et rfl), trivial, rfl, by subst hc376; exact S378⟩
   ·refine stepI [77] (fun vs => [ro 3 anC (vs.getD 0 undef) [(AnC.mk x.2.1.e x.2.1.t x.2.1.v)], c210_222]) rfl (fun a => by kernel_rfl) ?_
    intro A379 w379 rst hFr hF S379
    replace S379 : St w NoX [ro 3 anC (EV A379 (.tmp 77)) [(AnC.mk x.2.1.e x.2.1.t x.2.1.v)], c210_222, rst] w379 := S379
    have f75_379 : EV A379 (.tmp 75) = av := hF 7 (by kernel_rfl)
    generalize q75_379 : EV A379 (.tmp 75) = us75 at S379 f75_379
    generalize q77_379 : EV A379 (.tmp 77) = us77 at S379 f75_379
    have l75_379 := q75_379.trans f75_379
    have l77_379 := q77_379
    have Y379 : SzN A379 81 := ⟨hFr.sz.trans Y229.out⟩
    have hdf379 : A379.defers = [] := hFr.df.trans F229.d
    obtain ⟨c303_379, c210_379, hc303_379, hc210_379, S379⟩ := gen2 S379
    replace hc210_379 := hc210_379.trans hc210_222
    refine W_appS 3 1 S379 rfl hc210_379 rfl rfl rfl l75_379 l77_379 Try.underlying37 Try.underlying37 (z := .agg #[.int .i64 0, .bool false, .int .u64 0]) (bytes := 24) (by kernel_rfl) rfl (by decide) (ow_at (S379.chq 0 rfl hc303_379)) (ones_r anC_one) (by first | omega | (simp; done) | (simp; omega)) (by first | omega | (simp; done) | (simp; omega)) (fun v380 w380 c380 hc380 S380 => ?_)
    replace hc380 : c380 = ro 3 anC v380 ((pre.map fun x : ME => x.2.1) ++ [(AnC.mk x.2.1.e x.2.1.t x.2.1.v)]) := hc380.trans (app_eqR (by first | (simp; done) | (rw [List.take_of_length_le (l := List.drop _ _) (by rw [List.length_drop]; exact Nat.le_refl _)])))
    replace S380 : St w NoX (c303_379 :: c380 :: [rst]) w380 := S380
    refine W_end ?_
    refine kq _ ?_
    subst q75_379 q77_379
    exact ⟨_, [v380], rfl, ts1 (et rfl), trivial, rfl, by subst hc303_379 hc380 hc210_222; exact S380⟩
   ·refine stepI [74] (fun vs => [ro 2 grC (vs.getD 0 undef) ((gsM ((hv_10, H_10), (qv_10, q_10)) pre) ++ [x.2.2]), c203_222]) rfl (fun a => by kernel_rfl) ?_
    intro A381 w381 rst hFr hF S381
    replace S381 : St w NoX [ro 2 grC (EV A381 (.tmp 74)) ((gsM ((hv_10, H_10), (qv_10, q_10)) pre) ++ [x.2.2]), c203_222, rst] w381 := S381
    generalize q74_381 : EV A381 (.tmp 74) = us74 at S381
    have l74_381 := q74_381
    have Y381 : SzN A381 81 := ⟨hFr.sz.trans Y229.out⟩
    have hdf381 : A381.defers = [] := hFr.df.trans F229.d
    have l6_381 := (oldS hFr 6 (by kernel_rfl)).trans (fg6 F229)
    obtain ⟨c302_381, c203_381, hc302_381, hc203_381, S381⟩ := gen2 S381
    replace hc203_381 := hc203_381.trans hc203_222
    refine xsC (zs' := #[us74]) 1 S381 rfl hc203_381 rfl rfl rfl l6_381 l74_381 (SlN_one (ow_at (S381.chq 0 rfl hc302_381))) (fun w382 c382 hc382 S382 => ?_)
    replace S382 : St w NoX (c302_381 :: c382 :: [rst]) w382 := S382
    refine W_end ?_
    refine kq _ ?_
    subst q74_381
    exact ⟨undef, [EV A381 (.tmp 74)], rfl, ts1 rfl, trivial, rfl, by subst hc302_381 hc382 hc203_222; exact S382⟩
   ·refine stepI [78] (fun vs => [ro 3 anC (vs.getD 0 undef) ((pre.map fun x : ME => x.2.1) ++ [(AnC.mk x.2.1.e x.2.1.t x.2.1.v)]), c5_222]) rfl (fun a => by kernel_rfl) ?_
    intro A383 w383 rst hFr hF S383
    replace S383 : St w NoX [ro 3 anC (EV A383 (.tmp 78)) ((pre.map fun x : ME => x.2.1) ++ [(AnC.mk x.2.1.e x.2.1.t x.2.1.v)]), c5_222, rst] w383 := S383
    generalize q78_383 : EV A383 (.tmp 78) = us78 at S383
    have l78_383 := q78_383
    have Y383 : SzN A383 81 := ⟨hFr.sz.trans Y229.out⟩
    have hdf383 : A383.defers = [] := hFr.df.trans F229.d
    have l7_383 := (oldS hFr 7 (by kernel_rfl)).trans (fg5 F229)
    obtain ⟨c304_383, c5_383, hc304_383, hc5_383, S383⟩ := gen2 S383
    replace hc5_383 := hc5_383.trans hc5_222
    refine xsC (zs' := #[us78]) 1 S383 rfl hc5_383 rfl rfl rfl l7_383 l78_383 (SlN_one (ow_at (S383.chq 0 rfl hc304_383))) (fun w384 c384 hc384 S384 => ?_)
    replace S384 : St w NoX (c304_383 :: c384 :: [rst]) w384 := S384
    refine W_end ?_
    refine kq _ ?_
    subst q78_383
    exact ⟨undef, [EV A383 (.tmp 78)], rfl, ts1 rfl, trivial, rfl, by subst hc304_383 hc384 hc5_222; exact S384⟩
   intro A385 w385 hFr hF S385
   replace S385 : St w NoX [ro 3 anC (EV A385 (.tmp 78)) ((pre.map fun x : ME => x.2.1) ++ [(AnC.mk x.2.1.e x.2.1.t x.2.1.v)]), cb224, ck224, cb4_222, cb3_222, cb7_222, cb5_222, ro 2 grC (EV A385 (.tmp 74)) ((gsM ((hv_10, H_10), (qv_10, q_10)) pre) ++ [x.2.2]), c197_222, c155_222, c157_222, c156_222, bx g5 37 #[(EV A385 (.tmp 78))], bx g4 62 #[(EV A385 (.tmp 74))], c3_222, c219_222, pk (·= fr), ro 2 grC (EV A385 (.tmp 73)) [x.2.2], ro 3 anC (EV A385 (.tmp 77)) [(AnC.mk x.2.1.e x.2.1.t x.2.1.v)]] w385 := S385.cast (by kernel_rfl)
   generalize q78_385 : EV A385 (.tmp 78) = us78 at S385
   generalize q74_385 : EV A385 (.tmp 74) = us74 at S385
   generalize q73_385 : EV A385 (.tmp 73) = us73 at S385
   generalize q77_385 : EV A385 (.tmp 77) = us77 at S385
   have l78_385 := q78_385
   have l74_385 := q74_385
   have l73_385 := q73_385
   have l77_385 := q77_385
   have Y385 : SzN A385 81 := ⟨hFr.sz.trans Y229.out⟩
   have hdf385 : A385.defers = [] := hFr.df.trans F229.d
   have S385 := unpkR (l := [ro 3 anC us78 ((pre.map fun x : ME => x.2.1) ++ [(AnC.mk x.2.1.e x.2.1.t x.2.1.v)]), cb224, ck224, cb4_222, cb3_222, cb7_222, cb5_222, ro 2 grC us74 ((gsM ((hv_10, H_10), (qv_10, q_10)) pre) ++ [x.2.2]), c197_222, c155_222, c157_222, c156_222, bx g5 37 #[us78], bx g4 62 #[us74], c3_222, c219_222, ro 2 grC us73 [x.2.2], ro 3 anC us77 [(AnC.mk x.2.1.e x.2.1.t x.2.1.v)]]) (fr := fr) (S385.sel [0, 1, 2, 3, 4, 5, 6, 7, 8, 9, 10, 11, 12, 13, 14, 15, 17, 18, 16] (by decide) rfl)
   replace S385 : St w NoX ((ro 3 anC us78 ((pre.map fun x : ME => x.2.1) ++ [(AnC.mk x.2.1.e x.2.1.t x.2.1.v)])) :: cb224 :: ck224 :: cb4_222 :: cb3_222 :: cb7_222 :: cb5_222 :: (ro 2 grC us74 ((gsM ((hv_10, H_10), (qv_10, q_10)) pre) ++ [x.2.2])) :: c197_222 :: c155_222 :: c157_222 :: c156_222 :: (bx g5 37 #[us78]) :: (bx g4 62 #[us74]) :: c3_222 :: c219_222 :: (ro 2 grC us73 [x.2.2]) :: (ro 3 anC us77 [(AnC.mk x.2.1.e x.2.1.t x.2.1.v)]) :: fr) w385 := S385
   obtain ⟨c304_385, cb224_385, ck224_385, cb4_385, cb3_385, cb7_385, cb5_385, c302_385, c197_385, c155_385, c157_385, c156_385, c306_385, c305_385, c3_385, c219_385, c301_385, c303_385, hc304_385, hcb224_385, hck224_385, hcb4_385, hcb3_385, hcb7_385, hcb5_385, hc302_385, hc197_385, hc155_385, hc157_385, hc156_385, hc306_385, hc305_385, hc3_385, hc219_385, hc301_385, hc303_385, S385⟩ := gen18 S385
   replace hcb224_385 := hcb224_385.trans hcb224
   replace hck224_385 := hck224_385.trans hck224
   replace hcb4_385 := hcb4_385.trans hcb4_222
   replace hcb3_385 := hcb3_385.trans hcb3_222
   replace hcb7_385 := hcb7_385.trans hcb7_222
   replace hcb5_385 := hcb5_385.trans hcb5_222
   replace hc197_385 := hc197_385.trans hc197_222
   replace hc155_385 := hc155_385.trans hc155_222
   replace hc157_385 := hc157_385.trans hc157_222
   replace hc156_385 := hc156_385.trans hc156_222
   replace hc3_385 := hc3_385.trans hc3_222
   replace hc219_385 := hc219_385.trans hc219_222
   clear Y229 F229 S227
   refine Qo_normal ?_
   have S387 := S385.del 15
   replace S387 : St w NoX (c304_385 :: cb224_385 :: ck224_385 :: cb4_385 :: cb3_385 :: cb7_385 :: cb5_385 :: c302_385 :: c197_385 :: c155_385 :: c157_385 :: c156_385 :: c306_385 :: c305_385 :: c3_385 :: c301_385 :: c303_385 :: fr) w385 := S387
   have S388 := S387.del 15
   replace S388 : St w NoX (c304_385 :: cb224_385 :: ck224_385 :: cb4_385 :: cb3_385 :: cb7_385 :: cb5_385 :: c302_385 :: c197_385 :: c155_385 :: c157_385 :: c156_385 :: c306_385 :: c305_385 :: c3_385 :: c303_385 :: fr) w385 := S388
   have S389 := S388.del 15
   replace S389 : St w NoX (c304_385 :: cb224_385 :: ck224_385 :: cb4_385 :: cb3_385 :: cb7_385 :: cb5_385 :: c302_385 :: c197_385 :: c155_385 :: c157_385 :: c156_385 :: c306_385 :: c305_385 :: c3_385 :: fr) w385 := S389
   refine inb_n ?_
   obtain ⟨ct390, hct390, S390⟩ := genS (mT_shut (gs := gs_10) (T := 75) (n := (lgN C N Z K Q)) (G0 := ((hv_10, H_10), (qv_10, q_10))) (pre := (pre ++ [x])) (hcb224_385.trans (by rw [lastG_app])) hck224_385 S389)
   replace S390 : St w NoX (c304_385 :: ct390 :: cb4_385 :: cb3_385 :: cb7_385 :: cb5_385 :: c302_385 :: c197_385 :: c155_385 :: c157_385 :: c156_385 :: c306_385 :: c305_385 :: c3_385 :: fr) w385 := S390
   have S391 : St w NoX (c304_385 :: cb4_385 :: cb3_385 :: cb7_385 :: cb5_385 :: c302_385 :: c197_385 :: c155_385 :: c157_385 :: c156_385 :: c306_385 :: c305_385 :: c3_385 :: ct390 :: fr) w385 := St.selR (l := [c304_385, ct390, cb4_385, cb3_385, cb7_385, cb5_385, c302_385, c197_385, c155_385, c157_385, c156_385, c306_385, c305_385, c3_385]) (l' := [c304_385, cb4_385, cb3_385, cb7_385, cb5_385, c302_385, c197_385, c155_385, c157_385, c156_385, c306_385, c305_385, c3_385, ct390]) (fr := fr) S390 [0, 2, 3, 4, 5, 6, 7, 8, 9, 10, 11, 12, 13, 1] (by decide) (by rfl) rfl
   exact (St.pack (l := [ro 3 anC us78 ((pre ++ [x]).map fun x : ME => x.2.1), bx g4_208 24 #[lv], bx g3_208 73 #[.pointer (some ⟨gs_10, 0, none⟩)], bx g7_208 76 #[.func (.func 30) #[.pointer (some ⟨gs_10, 0, none⟩)] #[]], bx g5_208 85 #[.func (.func 36) #[] #[.pointer (some ⟨g3, 0, none⟩)]], ro 2 grC us74 (gsM ((hv_10, H_10), (qv_10, q_10)) (pre ++ [x])), bx g196 85 #[.func (.func 36) #[] #[.pointer (some ⟨g3, 0, none⟩)]], bx g154 73 #[.pointer (some ⟨gs_10, 0, none⟩)], bx g7 28 #[.int .i64 0], bx g6 3 #[.int .i64 0], bx g5 37 #[us78], bx g4 62 #[us74], bx g3 25 #[fv]]) (fr := (mT gs_10 75 (lgN C N Z K Q) ((hv_10, H_10), (qv_10, q_10)) (pre ++ [x]) :: fr)) (by have q0 : c304_385 = ro 3 anC us78 ((pre ++ [x]).map fun x : ME => x.2.1) := hc304_385.trans ((by rw [List.map_append]; rfl)); have q1 : cb4_385 = bx g4_208 24 #[lv] := hcb4_385; have q2 : cb3_385 = bx g3_208 73 #[.pointer (some ⟨gs_10, 0, none⟩)] := hcb3_385; have q3 : cb7_385 = bx g7_208 76 #[.func (.func 30) #[.pointer (some ⟨gs_10, 0, none⟩)] #[]] := hcb7_385; have q4 : cb5_385 = bx g5_208 85 #[.func (.func 36) #[] #[.pointer (some ⟨g3, 0, none⟩)]] := hcb5_385; have q5 : c302_385 = ro 2 grC us74 (gsM ((hv_10, H_10), (qv_10, q_10)) (pre ++ [x])) := hc302_385.trans ((by rw [gsM_app])); have q6 : c197_385 = bx g196 85 #[.func (.func 36) #[] #[.pointer (some ⟨g3, 0, none⟩)]] := hc197_385; have q7 : c155_385 = bx g154 73 #[.pointer (some ⟨gs_10, 0, none⟩)] := hc155_385; have q8 : c157_385 = bx g7 28 #[.int .i64 0] := hc157_385; have q9 : c156_385 = bx g6 3 #[.int .i64 0] := hc156_385; have q10 : c306_385 = bx g5 37 #[us78] := hc306_385; have q11 : c305_385 = bx g4 62 #[us74] := hc305_385; have q12 : c3_385 = bx g3 25 #[fv] := hc3_385; have q13 := hct390; subst q0 q1 q2 q3 q4 q5 q6 q7 q8 q9 q10 q11 q12 q13; exact S391) (⟨us74, us78, (pl_nx hgK hVd hz (fun q => c230 q.2)), rfl⟩))
  refine xof rfl rfl rfl (et rfl) ?_
  refine xof rfl rfl rfl (es rfl (et rfl)) ?_
  refine xof rfl rfl rfl (es2 rfl (et rfl)) ?_
  refine W_v rfl rfl (V_pickF rfl (es3 rfl (et rfl)) rfl) ?_
  refine W_end ?_
  refine Qo_normal ?_
  refine gen_Q (fun A392 E392 => ?_)
  have Y392 := szq E392
  have F392 := (((((((fsE E392 (ck (cq7 (FS.n hdf221) rfl) rfl rfl)).c (lookE E392 6 (es8 rfl l6_221))).c (lookE E392 7 (es8 rfl l7_221))).c (lookE E392 8 (es8 rfl l8_221))).c (lookE E392 9 (es8 rfl l9_221))).c (lookE E392 10 (es8 rfl l10_221))).c (lookE E392 15 (es8 rfl l15_221))).c (lookE E392 16 (es8 rfl l16_221))
  clear E392 Y221 hdf221 l6_221 l7_221 l8_221 l9_221 l10_221 l14_221 l15_221 l16_221
  refine tk H226 ?_
  refine R_cond_f (fg7 F392) ?_
  refine R_skip ?_
  refine tk H225 ?_
  have hll393 : [x.2.2].length = 1 := rfl
  have hll395 : [(AnC.mk x.2.1.e x.2.1.t x.2.1.v)].length = 1 := rfl
  refine R_any (by kernel_rfl) (by kernel_rfl) 13 rfl (fun w513 hx513 => ?_)
  have S513 := S227.grow hx513
  have S513 := pkR (l := [c210_222, cb224, ck224, cb4_222, cb3_222, cb7_222, cb5_222, c201r_222, c197_222, c155_222, c157_222, c156_222, c5_222, c203_222, c3_222, c219_222]) (fr := fr) S513
  refine AX_parL (l0 := [c210_222, cb224, ck224, cb4_222, cb3_222, cb7_222, cb5_222, c201r_222, c197_222, c155_222, c157_222, c156_222, c5_222, c203_222, c3_222, c219_222, pk (·= fr)]) (k := 2) [⟨[13], [], [68], fun vs => [], fun vs => (vs.getD 0 undef) = gv⟩, ⟨[9], [], [69], fun vs => [], fun vs => (vs.getD 0 undef) = .pointer (some ⟨gs_10, 0, none⟩)⟩, ⟨[], [], [70], fun vs => [], fun vs => (vs.getD 0 undef) = .pointer (some ⟨gs_10, 0, none⟩)⟩, ⟨[], [], [71], fun vs => [], fun vs => (vs.getD 0 undef) = .pointer (some ⟨gs_10, 0, none⟩)⟩, ⟨[1], [], [72], fun vs => [], fun vs => (vs.getD 0 undef) = .agg #[x.2.2.1.1, x.2.2.2.1]⟩, ⟨[], [17], [73], fun vs => [ro 2 grC (vs.getD 0 undef) [x.2.2]], fun vs => True⟩, ⟨[17, 2], [7], [74], fun vs => [ro 2 grC (vs.getD 0 undef) ((gsM ((hv_10, H_10), (qv_10, q_10)) pre) ++ [x.2.2])], fun vs => True⟩, ⟨[12], [], [75], fun vs => [], fun vs => (vs.getD 0 undef) = av⟩, ⟨[15], [], [76], fun vs => [], fun vs => (vs.getD 0 undef) = .agg #[.int .i64 (x.2.1.e), .bool (x.2.1.t), .int .u64 (x.2.1.v)]⟩, ⟨[], [18], [77], fun vs => [ro 3 anC (vs.getD 0 undef) [(AnC.mk x.2.1.e x.2.1.t x.2.1.v)]], fun vs => True⟩, ⟨[18], [0], [78], fun vs => [ro 3 anC (vs.getD 0 undef) ((pre.map fun x : ME => x.2.1) ++ [(AnC.mk x.2.1.e x.2.1.t x.2.1.v)])], fun vs => True⟩, ⟨[7], [13], [74], fun vs => [bx g4 62 #[(vs.getD 0 undef)]], fun vs => True⟩, ⟨[0], [12], [78], fun vs => [bx g5 37 #[(vs.getD 0 undef)]], fun vs => True⟩] [c210_222, cb224, ck224, cb4_222, cb3_222, cb7_222, cb5_222, c201r_222, c197_222, c155_222, c157_222, c156_222, c5_222, c203_222, c3_222, c219_222, pk (·= fr), pu True, pu True] S513 rfl (by kernel_rfl) rfl ⟨?_, ?_, ?_, ?_, ?_, ?_, ?_, ?_, ?_, ?_, ?_, ?_, ?_, trivial⟩ ?_
  ·refine stepI [] (fun vs => [c203_222]) rfl (fun a => by kernel_rfl) ?_
   intro A514 w514 rst hFr hF S514
   replace S514 : St w NoX [c203_222, rst] w514 := S514
   have Y514 : SzN A514 81 := ⟨hFr.sz.trans Y392.out⟩
   have hdf514 : A514.defers = [] := hFr.df.trans F392.d
   have l6_514 := (oldS hFr 6 (by kernel_rfl)).trans (fg6 F392)
   obtain ⟨c203_514, hc203_514, S514⟩ := gen1 S514
   replace hc203_514 := hc203_514.trans hc203_222
   refine W_r rfl rfl (xlC (v := gv) rfl l6_514 (S514.obj 0 rfl hc203_514) Try.underlying62) ?_
   refine W_end ?_
   refine kq _ ?_
   exact ⟨_, [gv], rfl, ts1 (et rfl), rfl, rfl, by subst hc203_514 hc203_222; exact S514⟩
  ·refine stepI [] (fun vs => [c155_222]) rfl (fun a => by kernel_rfl) ?_
   intro A515 w515 rst hFr hF S515
   replace S515 : St w NoX [c155_222, rst] w515 := S515
   have Y515 : SzN A515 81 := ⟨hFr.sz.trans Y392.out⟩
   have hdf515 : A515.defers = [] := hFr.df.trans F392.d
   have l10_515 := (oldS hFr 10 (by kernel_rfl)).trans (fg2 F392)
   obtain ⟨c155_515, hc155_515, S515⟩ := gen1 S515
   replace hc155_515 := hc155_515.trans hc155_222
   refine W_r rfl rfl (xlC (v := .pointer (some ⟨gs_10, 0, none⟩)) rfl l10_515 (S515.obj 0 rfl hc155_515) Try.underlying73) ?_
   refine W_end ?_
   refine kq _ ?_
   exact ⟨_, [.pointer (some ⟨gs_10, 0, none⟩)], rfl, ts1 (et rfl), rfl, rfl, by subst hc155_515 hc155_222; exact S515⟩
  ·refine stepI [] (fun vs => []) rfl (fun a => by kernel_rfl) ?_
   intro A516 w516 rst hFr hF S516
   replace S516 : St w NoX [rst] w516 := S516
   have f69_516 : EV A516 (.tmp 69) = .pointer (some ⟨gs_10, 0, none⟩) := hF 1 (by kernel_rfl)
   generalize q69_516 : EV A516 (.tmp 69) = us69 at S516 f69_516
   have l69_516 := q69_516.trans f69_516
   have Y516 : SzN A516 81 := ⟨hFr.sz.trans Y392.out⟩
   have hdf516 : A516.defers = [] := hFr.df.trans F392.d
   refine W_v rfl rfl (V_nil rfl l69_516) ?_
   refine W_end ?_
   refine kq _ ?_
   subst q69_516
   exact ⟨_, [.pointer (some ⟨gs_10, 0, none⟩)], rfl, ts1 (et rfl), rfl, rfl, S516⟩
  ·refine stepI [] (fun vs => []) rfl (fun a => by kernel_rfl) ?_
   intro A517 w517 rst hFr hF S517
   replace S517 : St w NoX [rst] w517 := S517
   have f70_517 : EV A517 (.tmp 70) = .pointer (some ⟨gs_10, 0, none⟩) := hF 2 (by kernel_rfl)
   generalize q70_517 : EV A517 (.tmp 70) = us70 at S517 f70_517
   have l70_517 := q70_517.trans f70_517
   have Y517 : SzN A517 81 := ⟨hFr.sz.trans Y392.out⟩
   have hdf517 : A517.defers = [] := hFr.df.trans F392.d
   refine W_v rfl rfl (V_fa (off' := 0) rfl l70_517 Try.underlying75 rfl (by decide +kernel) rfl) ?_
   refine W_end ?_
   refine kq _ ?_
   subst q70_517
   exact ⟨_, [.pointer (some ⟨gs_10, 0, none⟩)], rfl, ts1 (et rfl), rfl, rfl, S517⟩
  ·refine stepI [] (fun vs => [cb224]) rfl (fun a => by kernel_rfl) ?_
   intro A518 w518 rst hFr hF S518
   replace S518 : St w NoX [cb224, rst] w518 := S518
   have f71_518 : EV A518 (.tmp 71) = .pointer (some ⟨gs_10, 0, none⟩) := hF 3 (by kernel_rfl)
   generalize q71_518 : EV A518 (.tmp 71) = us71 at S518 f71_518
   have l71_518 := q71_518.trans f71_518
   have Y518 : SzN A518 81 := ⟨hFr.sz.trans Y392.out⟩
   have hdf518 : A518.defers = [] := hFr.df.trans F392.d
   obtain ⟨cb224_518, hcb224_518, S518⟩ := gen1 S518
   replace hcb224_518 := hcb224_518.trans hcb224
   refine W_r rfl rfl (VR_ldP (ys := [x.2.2.1.1, x.2.2.2.1]) rfl l71_518 (S518.obj 0 rfl hcb224_518) (ldP_at rfl) Try.underlying36 rfl (by kernel_rfl)) ?_
   refine W_end ?_
   refine kq _ ?_
   subst q71_518
   exact ⟨_, [.agg #[x.2.2.1.1, x.2.2.2.1]], rfl, ts1 (et rfl), rfl, rfl, by subst hcb224_518 hcb224; exact S518⟩
  ·refine stepI [] (fun vs => [pu True]) rfl (fun a => by kernel_rfl) ?_
   intro A519 w519 rst hFr hF S519
   replace S519 : St w NoX [pu True, rst] w519 := S519
   have f72_519 : EV A519 (.tmp 72) = .agg #[x.2.2.1.1, x.2.2.2.1] := hF 4 (by kernel_rfl)
   generalize q72_519 : EV A519 (.tmp 72) = us72 at S519 f72_519
   have l72_519 := q72_519.trans f72_519
   have Y519 : SzN A519 81 := ⟨hFr.sz.trans Y392.out⟩
   have hdf519 : A519.defers = [] := hFr.df.trans F392.d
   obtain ⟨cz_519, hcz_519, S519⟩ := gen1 S519
   have hll520 : [x.2.2].length = 1 := rfl
   refine xsL (vs := [.agg #[x.2.2.1.1, x.2.2.2.1]]) (xs := ([x.2.2].flatMap grC)) 2 S519 rfl rfl rfl (parts1 l72_519) Try.underlying62 (fun g520 w520 c520 hc520 S520 => ?_)
   replace hc520 : c520 = ro 2 grC (.slice (some ⟨g520, 0, none⟩) 1 1) [x.2.2] := hc520
   replace S520 : St w NoX (c520 :: cz_519 :: [rst]) w520 := S520
   refine W_end ?_
   refine kq _ ?_
   have S522 := S520.del 1
   replace S522 : St w NoX (c520 :: [rst]) w520 := S522
   subst q72_519
   exact ⟨_, [(.slice (some ⟨g520, 0, none⟩) 1 1)], rfl, ts1 (et rfl), trivial, rfl, by subst hc520; exact S522⟩
  ·refine stepI [73] (fun vs => [ro 2 grC (vs.getD 0 undef) [x.2.2], ck224, c201r_222]) rfl (fun a => by kernel_rfl) ?_
   intro A523 w523 rst hFr hF S523
   replace S523 : St w NoX [ro 2 grC (EV A523 (.tmp 73)) [x.2.2], ck224, c201r_222, rst] w523 := S523
   have f68_523 : EV A523 (.tmp 68) = gv := hF 0 (by kernel_rfl)
   generalize q68_523 : EV A523 (.tmp 68) = us68 at S523 f68_523
   generalize q73_523 : EV A523 (.tmp 73) = us73 at S523 f68_523
   have l68_523 := q68_523.trans f68_523
   have l73_523 := q73_523
   have Y523 : SzN A523 81 := ⟨hFr.sz.trans Y392.out⟩
   have hdf523 : A523.defers = [] := hFr.df.trans F392.d
   obtain ⟨c453_523, ck224_523, c201r_523, hc453_523, hck224_523, hc201r_523, S523⟩ := gen3 S523
   replace hck224_523 := hck224_523.trans hck224
   replace hc201r_523 := hc201r_523.trans hc201r_222
   refine W_appS 2 2 S523 rfl hc201r_523 rfl rfl rfl l68_523 l73_523 Try.underlying62 Try.underlying62 (z := .agg #[.slice none 0 0, .slice none 0 0]) (bytes := 48) (by kernel_rfl) rfl (by decide) (ow_at (S523.chq 0 rfl hc453_523)) (by intro u hu; simp only [List.flatMap_cons, List.flatMap_nil, grC, List.append_nil, List.cons_append, List.nil_append, List.mem_cons, List.not_mem_nil, or_false] at hu; rcases hu with rfl | rfl <;> first | exact SlN_one (sl_SlN (gl_oa gsM_last (S523.chq 1 rfl hck224_523))) | exact SlN_one (sl_SlN (gl_ra gsM_last (S523.chq 1 rfl hck224_523)))) (by first | omega | (simp; done) | (simp; omega)) (by first | omega | (simp; done) | (simp; omega)) (fun v524 w524 c524 hc524 S524 => ?_)
   replace hc524 : c524 = ro 2 grC v524 ((gsM ((hv_10, H_10), (qv_10, q_10)) pre) ++ [x.2.2]) := hc524.trans (app_eqR (by first | (simp; done) | (rw [List.take_of_length_le (l := List.drop _ _) (by rw [List.length_drop]; exact Nat.le_refl _)])))
   replace S524 : St w NoX (c453_523 :: ck224_523 :: c524 :: [rst]) w524 := S524
   refine W_end ?_
   refine kq _ ?_
   subst q68_523 q73_523
   exact ⟨_, [v524], rfl, ts1 (et rfl), trivial, rfl, by subst hc453_523 hck224_523 hc524 hck224 hc201r_222; exact S524⟩
  ·refine stepI [] (fun vs => [c5_222]) rfl (fun a => by kernel_rfl) ?_
   intro A525 w525 rst hFr hF S525
   replace S525 : St w NoX [c5_222, rst] w525 := S525
   have Y525 : SzN A525 81 := ⟨hFr.sz.trans Y392.out⟩
   have hdf525 : A525.defers = [] := hFr.df.trans F392.d
   have l7_525 := (oldS hFr 7 (by kernel_rfl)).trans (fg5 F392)
   obtain ⟨c5_525, hc5_525, S525⟩ := gen1 S525
   replace hc5_525 := hc5_525.trans hc5_222
   refine W_r rfl rfl (xlC (v := av) rfl l7_525 (S525.obj 0 rfl hc5_525) Try.underlying37) ?_
   refine W_end ?_
   refine kq _ ?_
   exact ⟨_, [av], rfl, ts1 (et rfl), rfl, rfl, by subst hc5_525 hc5_222; exact S525⟩
  ·refine stepI [] (fun vs => [c219_222]) rfl (fun a => by kernel_rfl) ?_
   intro A526 w526 rst hFr hF S526
   replace S526 : St w NoX [c219_222, rst] w526 := S526
   have Y526 : SzN A526 81 := ⟨hFr.sz.trans Y392.out⟩
   have hdf526 : A526.defers = [] := hFr.df.trans F392.d
   have l16_526 := (oldS hFr 16 (by kernel_rfl)).trans (fg0 F392)
   obtain ⟨c219_526, hc219_526, S526⟩ := gen1 S526
   replace hc219_526 := hc219_526.trans hc219_222
   refine W_r rfl rfl (VR_ldA rfl l16_526 (S526.obj 0 rfl hc219_526) Try.underlying44 rfl (by kernel_rfl)) ?_
   refine W_end ?_
   refine kq _ ?_
   exact ⟨_, [.agg #[.int .i64 (x.2.1.e), .bool (x.2.1.t), .int .u64 (x.2.1.v)]], rfl, ts1 (et rfl), rfl, rfl, by subst hc219_526 hc219_222; exact S526⟩
  ·refine stepI [] (fun vs => [pu True]) rfl (fun a => by kernel_rfl) ?_
   intro A527 w527 rst hFr hF S527
   replace S527 : St w NoX [pu True, rst] w527 := S527
   have f76_527 : EV A527 (.tmp 76) = .agg #[.int .i64 (x.2.1.e), .bool (x.2.1.t), .int .u64 (x.2.1.v)] := hF 8 (by kernel_rfl)
   generalize q76_527 : EV A527 (.tmp 76) = us76 at S527 f76_527
   have l76_527 := q76_527.trans f76_527
   have Y527 : SzN A527 81 := ⟨hFr.sz.trans Y392.out⟩
   have hdf527 : A527.defers = [] := hFr.df.trans F392.d
   obtain ⟨cz_527, hcz_527, S527⟩ := gen1 S527
   have hll528 : [(AnC.mk x.2.1.e x.2.1.t x.2.1.v)].length = 1 := rfl
   refine xsL (vs := [.agg #[.int .i64 (x.2.1.e), .bool (x.2.1.t), .int .u64 (x.2.1.v)]]) (xs := ([(AnC.mk x.2.1.e x.2.1.t x.2.1.v)].flatMap anC)) 3 S527 rfl rfl rfl (parts1 l76_527) Try.underlying37 (fun g528 w528 c528 hc528 S528 => ?_)
   replace hc528 : c528 = ro 3 anC (.slice (some ⟨g528, 0, none⟩) 1 1) [(AnC.mk x.2.1.e x.2.1.t x.2.1.v)] := hc528
   replace S528 : St w NoX (c528 :: cz_527 :: [rst]) w528 := S528
   refine W_end ?_
   refine kq _ ?_
   have S530 := S528.del 1
   replace S530 : St w NoX (c528 :: [rst]) w528 := S530
   subst q76_527
   exact ⟨_, [(.slice (some ⟨g528, 0, none⟩) 1 1)], rfl, ts1 (et rfl), trivial, rfl, by subst hc528; exact S530⟩
  ·refine stepI [77] (fun vs => [ro 3 anC (vs.getD 0 undef) [(AnC.mk x.2.1.e x.2.1.t x.2.1.v)], c210_222]) rfl (fun a => by kernel_rfl) ?_
   intro A531 w531 rst hFr hF S531
   replace S531 : St w NoX [ro 3 anC (EV A531 (.tmp 77)) [(AnC.mk x.2.1.e x.2.1.t x.2.1.v)], c210_222, rst] w531 := S531
   have f75_531 : EV A531 (.tmp 75) = av := hF 7 (by kernel_rfl)
   generalize q75_531 : EV A531 (.tmp 75) = us75 at S531 f75_531
   generalize q77_531 : EV A531 (.tmp 77) = us77 at S531 f75_531
   have l75_531 := q75_531.trans f75_531
   have l77_531 := q77_531
   have Y531 : SzN A531 81 := ⟨hFr.sz.trans Y392.out⟩
   have hdf531 : A531.defers = [] := hFr.df.trans F392.d
   obtain ⟨c455_531, c210_531, hc455_531, hc210_531, S531⟩ := gen2 S531
   replace hc210_531 := hc210_531.trans hc210_222
   refine W_appS 3 1 S531 rfl hc210_531 rfl rfl rfl l75_531 l77_531 Try.underlying37 Try.underlying37 (z := .agg #[.int .i64 0, .bool false, .int .u64 0]) (bytes := 24) (by kernel_rfl) rfl (by decide) (ow_at (S531.chq 0 rfl hc455_531)) (ones_r anC_one) (by first | omega | (simp; done) | (simp; omega)) (by first | omega | (simp; done) | (simp; omega)) (fun v532 w532 c532 hc532 S532 => ?_)
   replace hc532 : c532 = ro 3 anC v532 ((pre.map fun x : ME => x.2.1) ++ [(AnC.mk x.2.1.e x.2.1.t x.2.1.v)]) := hc532.trans (app_eqR (by first | (simp; done) | (rw [List.take_of_length_le (l := List.drop _ _) (by rw [List.length_drop]; exact Nat.le_refl _)])))
   replace S532 : St w NoX (c455_531 :: c532 :: [rst]) w532 := S532
   refine W_end ?_
   refine kq _ ?_
   subst q75_531 q77_531
   exact ⟨_, [v532], rfl, ts1 (et rfl), trivial, rfl, by subst hc455_531 hc532 hc210_222; exact S532⟩
  ·refine stepI [74] (fun vs => [ro 2 grC (vs.getD 0 undef) ((gsM ((hv_10, H_10), (qv_10, q_10)) pre) ++ [x.2.2]), c203_222]) rfl (fun a => by kernel_rfl) ?_
   intro A533 w533 rst hFr hF S533
   replace S533 : St w NoX [ro 2 grC (EV A533 (.tmp 74)) ((gsM ((hv_10, H_10), (qv_10, q_10)) pre) ++ [x.2.2]), c203_222, rst] w533 := S533
   generalize q74_533 : EV A533 (.tmp 74) = us74 at S533
   have l74_533 := q74_533
   have Y533 : SzN A533 81 := ⟨hFr.sz.trans Y392.out⟩
   have hdf533 : A533.defers = [] := hFr.df.trans F392.d
   have l6_533 := (oldS hFr 6 (by kernel_rfl)).trans (fg6 F392)
   obtain ⟨c454_533, c203_533, hc454_533, hc203_533, S533⟩ := gen2 S533
   replace hc203_533 := hc203_533.trans hc203_222
   refine xsC (zs' := #[us74]) 1 S533 rfl hc203_533 rfl rfl rfl l6_533 l74_533 (SlN_one (ow_at (S533.chq 0 rfl hc454_533))) (fun w534 c534 hc534 S534 => ?_)
   replace S534 : St w NoX (c454_533 :: c534 :: [rst]) w534 := S534
   refine W_end ?_
   refine kq _ ?_
   subst q74_533
   exact ⟨undef, [EV A533 (.tmp 74)], rfl, ts1 rfl, trivial, rfl, by subst hc454_533 hc534 hc203_222; exact S534⟩
  ·refine stepI [78] (fun vs => [ro 3 anC (vs.getD 0 undef) ((pre.map fun x : ME => x.2.1) ++ [(AnC.mk x.2.1.e x.2.1.t x.2.1.v)]), c5_222]) rfl (fun a => by kernel_rfl) ?_
   intro A535 w535 rst hFr hF S535
   replace S535 : St w NoX [ro 3 anC (EV A535 (.tmp 78)) ((pre.map fun x : ME => x.2.1) ++ [(AnC.mk x.2.1.e x.2.1.t x.2.1.v)]), c5_222, rst] w535 := S535
   generalize q78_535 : EV A535 (.tmp 78) = us78 at S535
   have l78_535 := q78_535
   have Y535 : SzN A535 81 := ⟨hFr.sz.trans Y392.out⟩
   have hdf535 : A535.defers = [] := hFr.df.trans F392.d
   have l7_535 := (oldS hFr 7 (by kernel_rfl)).trans (fg5 F392)
   obtain ⟨c456_535, c5_535, hc456_535, hc5_535, S535⟩ := gen2 S535
   replace hc5_535 := hc5_535.trans hc5_222
   refine xsC (zs' := #[us78]) 1 S535 rfl hc5_535 rfl rfl rfl l7_535 l78_535 (SlN_one (ow_at (S535.chq 0 rfl hc456_535))) (fun w536 c536 hc536 S536 => ?_)
   replace S536 : St w NoX (c456_535 :: c536 :: [rst]) w536 := S536
   refine W_end ?_
   refine kq _ ?_
   subst q78_535
   exact ⟨undef, [EV A535 (.tmp 78)], rfl, ts1 rfl, trivial, rfl, by subst hc456_535 hc536 hc5_222; exact S536⟩
  intro A537 w537 hFr hF S537
  replace S537 : St w NoX [ro 3 anC (EV A537 (.tmp 78)) ((pre.map fun x : ME => x.2.1) ++ [(AnC.mk x.2.1.e x.2.1.t x.2.1.v)]), cb224, ck224, cb4_222, cb3_222, cb7_222, cb5_222, ro 2 grC (EV A537 (.tmp 74)) ((gsM ((hv_10, H_10), (qv_10, q_10)) pre) ++ [x.2.2]), c197_222, c155_222, c157_222, c156_222, bx g5 37 #[(EV A537 (.tmp 78))], bx g4 62 #[(EV A537 (.tmp 74))], c3_222, c219_222, pk (·= fr), ro 2 grC (EV A537 (.tmp 73)) [x.2.2], ro 3 anC (EV A537 (.tmp 77)) [(AnC.mk x.2.1.e x.2.1.t x.2.1.v)]] w537 := S537.cast (by kernel_rfl)
  generalize q78_537 : EV A537 (.tmp 78) = us78 at S537
  generalize q74_537 : EV A537 (.tmp 74) = us74 at S537
  generalize q73_537 : EV A537 (.tmp 73) = us73 at S537
  generalize q77_537 : EV A537 (.tmp 77) = us77 at S537
  have l78_537 := q78_537
  have l74_537 := q74_537
  have l73_537 := q73_537
  have l77_537 := q77_537
  have Y537 : SzN A537 81 := ⟨hFr.sz.trans Y392.out⟩
  have hdf537 : A537.defers = [] := hFr.df.trans F392.d
  have S537 := unpkR (l := [ro 3 anC us78 ((pre.map fun x : ME => x.2.1) ++ [(AnC.mk x.2.1.e x.2.1.t x.2.1.v)]), cb224, ck224, cb4_222, cb3_222, cb7_222, cb5_222, ro 2 grC us74 ((gsM ((hv_10, H_10), (qv_10, q_10)) pre) ++ [x.2.2]), c197_222, c155_222, c157_222, c156_222, bx g5 37 #[us78], bx g4 62 #[us74], c3_222, c219_222, ro 2 grC us73 [x.2.2], ro 3 anC us77 [(AnC.mk x.2.1.e x.2.1.t x.2.1.v)]]) (fr := fr) (S537.sel [0, 1, 2, 3, 4, 5, 6, 7, 8, 9, 10, 11, 12, 13, 14, 15, 17, 18, 16] (by decide) rfl)
  replace S537 : St w NoX ((ro 3 anC us78 ((pre.map fun x : ME => x.2.1) ++ [(AnC.mk x.2.1.e x.2.1.t x.2.1.v)])) :: cb224 :: ck224 :: cb4_222 :: cb3_222 :: cb7_222 :: cb5_222 :: (ro 2 grC us74 ((gsM ((hv_10, H_10), (qv_10, q_10)) pre) ++ [x.2.2])) :: c197_222 :: c155_222 :: c157_222 :: c156_222 :: (bx g5 37 #[us78]) :: (bx g4 62 #[us74]) :: c3_222 :: c219_222 :: (ro 2 grC us73 [x.2.2]) :: (ro 3 anC us77 [(AnC.mk x.2.1.e x.2.1.t x.2.1.v)]) :: fr) w537 := S537
  obtain ⟨c456_537, cb224_537, ck224_537, cb4_537, cb3_537, cb7_537, cb5_537, c454_537, c197_537, c155_537, c157_537, c156_537, c458_537, c457_537, c3_537, c219_537, c453_537, c455_537, hc456_537, hcb224_537, hck224_537, hcb4_537, hcb3_537, hcb7_537, hcb5_537, hc454_537, hc197_537, hc155_537, hc157_537, hc156_537, hc458_537, hc457_537, hc3_537, hc219_537, hc453_537, hc455_537, S537⟩ := gen18 S537
  replace hcb224_537 := hcb224_537.trans hcb224
  replace hck224_537 := hck224_537.trans hck224
  replace hcb4_537 := hcb4_537.trans hcb4_222
  replace hcb3_537 := hcb3_537.trans hcb3_222
  replace hcb7_537 := hcb7_537.trans hcb7_222
  replace hcb5_537 := hcb5_537.trans hcb5_222
  replace hc197_537 := hc197_537.trans hc197_222
  replace hc155_537 := hc155_537.trans hc155_222
  replace hc157_537 := hc157_537.trans hc157_222
  replace hc156_537 := hc156_537.trans hc156_222
  replace hc3_537 := hc3_537.trans hc3_222
  replace hc219_537 := hc219_537.trans hc219_222
  clear Y392 F392 S227
  refine Qo_normal ?_
  have S539 := S537.del 15
  replace S539 : St w NoX (c456_537 :: cb224_537 :: ck224_537 :: cb4_537 :: cb3_537 :: cb7_537 :: cb5_537 :: c454_537 :: c197_537 :: c155_537 :: c157_537 :: c156_537 :: c458_537 :: c457_537 :: c3_537 :: c453_537 :: c455_537 :: fr) w537 := S539
  have S540 := S539.del 15
  replace S540 : St w NoX (c456_537 :: cb224_537 :: ck224_537 :: cb4_537 :: cb3_537 :: cb7_537 :: cb5_537 :: c454_537 :: c197_537 :: c155_537 :: c157_537 :: c156_537 :: c458_537 :: c457_537 :: c3_537 :: c455_537 :: fr) w537 := S540
  have S541 := S540.del 15
  replace S541 : St w NoX (c456_537 :: cb224_537 :: ck224_537 :: cb4_537 :: cb3_537 :: cb7_537 :: cb5_537 :: c454_537 :: c197_537 :: c155_537 :: c157_537 :: c156_537 :: c458_537 :: c457_537 :: c3_537 :: fr) w537 := S541
  refine inb_n ?_
  obtain ⟨ct542, hct542, S542⟩ := genS (mT_shut (gs := gs_10) (T := 75) (n := (lgN C N Z K Q)) (G0 := ((hv_10, H_10), (qv_10, q_10))) (pre := (pre ++ [x])) (hcb224_537.trans (by rw [lastG_app])) hck224_537 S541)
  replace S542 : St w NoX (c456_537 :: ct542 :: cb4_537 :: cb3_537 :: cb7_537 :: cb5_537 :: c454_537 :: c197_537 :: c155_537 :: c157_537 :: c156_537 :: c458_537 :: c457_537 :: c3_537 :: fr) w537 := S542
  have S543 : St w NoX (c456_537 :: cb4_537 :: cb3_537 :: cb7_537 :: cb5_537 :: c454_537 :: c197_537 :: c155_537 :: c157_537 :: c156_537 :: c458_537 :: c457_537 :: c3_537 :: ct542 :: fr) w537 := St.selR (l := [c456_537, ct542, cb4_537, cb3_537, cb7_537, cb5_537, c454_537, c197_537, c155_537, c157_537, c156_537, c458_537, c457_537, c3_537]) (l' := [c456_537, cb4_537, cb3_537, cb7_537, cb5_537, c454_537, c197_537, c155_537, c157_537, c156_537, c458_537, c457_537, c3_537, ct542]) (fr := fr) S542 [0, 2, 3, 4, 5, 6, 7, 8, 9, 10, 11, 12, 13, 1] (by decide) (by rfl) rfl
  exact (St.pack (l := [ro 3 anC us78 ((pre ++ [x]).map fun x : ME => x.2.1), bx g4_208 24 #[lv], bx g3_208 73 #[.pointer (some ⟨gs_10, 0, none⟩)], bx g7_208 76 #[.func (.func 30) #[.pointer (some ⟨gs_10, 0, none⟩)] #[]], bx g5_208 85 #[.func (.func 36) #[] #[.pointer (some ⟨g3, 0, none⟩)]], ro 2 grC us74 (gsM ((hv_10, H_10), (qv_10, q_10)) (pre ++ [x])), bx g196 85 #[.func (.func 36) #[] #[.pointer (some ⟨g3, 0, none⟩)]], bx g154 73 #[.pointer (some ⟨gs_10, 0, none⟩)], bx g7 28 #[.int .i64 0], bx g6 3 #[.int .i64 0], bx g5 37 #[us78], bx g4 62 #[us74], bx g3 25 #[fv]]) (fr := (mT gs_10 75 (lgN C N Z K Q) ((hv_10, H_10), (qv_10, q_10)) (pre ++ [x]) :: fr)) (by have q0 : c456_537 = ro 3 anC us78 ((pre ++ [x]).map fun x : ME => x.2.1) := hc456_537.trans ((by rw [List.map_append]; rfl)); have q1 : cb4_537 = bx g4_208 24 #[lv] := hcb4_537; have q2 : cb3_537 = bx g3_208 73 #[.pointer (some ⟨gs_10, 0, none⟩)] := hcb3_537; have q3 : cb7_537 = bx g7_208 76 #[.func (.func 30) #[.pointer (some ⟨gs_10, 0, none⟩)] #[]] := hcb7_537; have q4 : cb5_537 = bx g5_208 85 #[.func (.func 36) #[] #[.pointer (some ⟨g3, 0, none⟩)]] := hcb5_537; have q5 : c454_537 = ro 2 grC us74 (gsM ((hv_10, H_10), (qv_10, q_10)) (pre ++ [x])) := hc454_537.trans ((by rw [gsM_app])); have q6 : c197_537 = bx g196 85 #[.func (.func 36) #[] #[.pointer (some ⟨g3, 0, none⟩)]] := hc197_537; have q7 : c155_537 = bx g154 73 #[.pointer (some ⟨gs_10, 0, none⟩)] := hc155_537; have q8 : c157_537 = bx g7 28 #[.int .i64 0] := hc157_537; have q9 : c156_537 = bx g6 3 #[.int .i64 0] := hc156_537; have q10 : c458_537 = bx g5 37 #[us78] := hc458_537; have q11 : c457_537 = bx g4 62 #[us74] := hc457_537; have q12 : c3_537 = bx g3 25 #[fv] := hc3_537; have q13 := hct542; subst q0 q1 q2 q3 q4 q5 q6 q7 q8 q9 q10 q11 q12 q13; exact S543) (⟨us74, us78, (pl_nx hgK hVd hz (fun q => c228 q.1)), rfl⟩))
 ·intro D544 xs544 w544 hxs544 S544
  obtain ⟨_, ⟨gv, av, hz, rfl⟩, S544⟩ := S544.unpack
  replace S544 : St w NoX ((ro 3 anC av (xs544.map fun x : ME => x.2.1)) :: (bx g4_208 24 #[lv]) :: (bx g3_208 73 #[.pointer (some ⟨gs_10, 0, none⟩)]) :: (bx g7_208 76 #[.func (.func 30) #[.pointer (some ⟨gs_10, 0, none⟩)] #[]]) :: (bx g5_208 85 #[.func (.func 36) #[] #[.pointer (some ⟨g3, 0, none⟩)]]) :: (ro 2 grC gv (gsM ((hv_10, H_10), (qv_10, q_10)) xs544)) :: (bx g196 85 #[.func (.func 36) #[] #[.pointer (some ⟨g3, 0, none⟩)]]) :: (bx g154 73 #[.pointer (some ⟨gs_10, 0, none⟩)]) :: (bx g7 28 #[.int .i64 0]) :: (bx g6 3 #[.int .i64 0]) :: (bx g5 37 #[av]) :: (bx g4 62 #[gv]) :: (bx g3 25 #[fv]) :: (ob D544 (.deferred (some []))) :: (mT gs_10 75 (lgN C N Z K Q) ((hv_10, H_10), (qv_10, q_10)) xs544) :: []) w544 := S544
  obtain ⟨c210_544, cb4_544, cb3_544, cb7_544, cb5_544, c201r_544, c197_544, c155_544, c157_544, c156_544, c5_544, c203_544, c3_544, cD544, ct_544, hc210_544, hcb4_544, hcb3_544, hcb7_544, hcb5_544, hc201r_544, hc197_544, hc155_544, hc157_544, hc156_544, hc5_544, hc203_544, hc3_544, hcD544, hct_544, S544⟩ := gen15 S544
  have S545 := S544.sel [0, 14, 1, 2, 3, 4, 5, 6, 7, 8, 9, 10, 11, 12, 13] (by decide) (l' := [c210_544, ct_544, cb4_544, cb3_544, cb7_544, cb5_544, c201r_544, c197_544, c155_544, c157_544, c156_544, c5_544, c203_544, c3_544, cD544]) rfl
  replace S545 : St w NoX [c210_544, ct_544, cb4_544, cb3_544, cb7_544, cb5_544, c201r_544, c197_544, c155_544, c157_544, c156_544, c5_544, c203_544, c3_544, cD544] w544 := S545
  obtain ⟨cb546, ck546, hcb546, hck546, S546⟩ := mT_open (hct_544 ▸ S545)
  replace S546 : St w NoX [c210_544, cb546, ck546, cb4_544, cb3_544, cb7_544, cb5_544, c201r_544, c197_544, c155_544, c157_544, c156_544, c5_544, c203_544, c3_544, cD544] w544 := S546
  refine gen_Q (fun A544 E544 => ?_)
  have Y544 := szq E544
  have hdf544 : A544.defers = [{ target := .collected D544, args := #[] }] := by rw [E544, df_mk, F209.d] <;> rfl
  have l6_544 := lookE E544 6 (mk_l (fg10 F209))
  have l7_544 := lookE E544 7 (mk_l (fg9 F209))
  have l8_544 := lookE E544 8 (mk_l (fg8 F209))
  have l9_544 := lookE E544 9 (mk_l (fg7 F209))
  clear E544
  refine inb_n ?_
  refine tk H206 ?_
  refine R_seq (fun K547 H547 => ?_)
  refine R_any (by kernel_rfl) (by kernel_rfl) 6 rfl (fun w668 hx668 => ?_)
  have S668 := S546.grow hx668
  refine AX_parL (l0 := [c210_544, cb546, ck546, cb4_544, cb3_544, cb7_544, cb5_544, c201r_544, c197_544, c155_544, c157_544, c156_544, c5_544, c203_544, c3_544, cD544]) (k := 0) [⟨[13], [], [79], fun vs => [], fun vs => (vs.getD 0 undef) = gv⟩, ⟨[12], [], [80], fun vs => [], fun vs => (vs.getD 0 undef) = av⟩, ⟨[7], [13], [], fun vs => [bx g4 62 #[gv]], fun vs => True⟩, ⟨[0], [12], [], fun vs => [bx g5 37 #[av]], fun vs => True⟩, ⟨[], [11], [], fun vs => [bx g6 3 #[.int .i64 0]], fun vs => True⟩, ⟨[], [10], [], fun vs => [bx g7 28 #[.int .i64 0]], fun vs => True⟩] [c210_544, cb546, ck546, cb4_544, cb3_544, cb7_544, cb5_544, c201r_544, c197_544, c155_544, c157_544, c156_544, c5_544, c203_544, c3_544, cD544] S668 rfl (by kernel_rfl) rfl ⟨?_, ?_, ?_, ?_, ?_, ?_, trivial⟩ ?_
  ·refine stepI [] (fun vs => [c203_544]) rfl (fun a => by kernel_rfl) ?_
   intro A669 w669 rst hFr hF S669
   replace S669 : St w NoX [c203_544, rst] w669 := S669
   have Y669 : SzN A669 81 := ⟨hFr.sz.trans Y544.out⟩
   have hdf669 : A669.defers = [{ target := .collected D544, args := #[] }] := hFr.df.trans hdf544
   have l6_669 := (oldS hFr 6 (by kernel_rfl)).trans l6_544
   obtain ⟨c203_669, hc203_669, S669⟩ := gen1 S669
   replace hc203_669 := hc203_669.trans hc203_544
   refine W_r rfl rfl (xlC (v := gv) rfl l6_669 (S669.obj 0 rfl hc203_669) Try.underlying62) ?_
   refine W_end ?_
   refine kq _ ?_
   exact ⟨_, [gv], rfl, ts1 (et rfl), rfl, rfl, by subst hc203_669 hc203_544; exact S669⟩
  ·refine stepI [] (fun vs => [c5_544]) rfl (fun a => by kernel_rfl) ?_
   intro A670 w670 rst hFr hF S670
   replace S670 : St w NoX [c5_544, rst] w670 := S670
   have Y670 : SzN A670 81 := ⟨hFr.sz.trans Y544.out⟩
   have hdf670 : A670.defers = [{ target := .collected D544, args := #[] }] := hFr.df.trans hdf544
   have l7_670 := (oldS hFr 7 (by kernel_rfl)).trans l7_544
   obtain ⟨c5_670, hc5_670, S670⟩ := gen1 S670
   replace hc5_670 := hc5_670.trans hc5_544
   refine W_r rfl rfl (xlC (v := av) rfl l7_670 (S670.obj 0 rfl hc5_670) Try.underlying37) ?_
   refine W_end ?_
   refine kq _ ?_
   exact ⟨_, [av], rfl, ts1 (et rfl), rfl, rfl, by subst hc5_670 hc5_544; exact S670⟩
  ·refine stepI [] (fun vs => [c201r_544, c203_544]) rfl (fun a => by kernel_rfl) ?_
   intro A671 w671 rst hFr hF S671
   replace S671 : St w NoX [c201r_544, c203_544, rst] w671 := S671
   have f79_671 : EV A671 (.tmp 79) = gv := hF 0 (by kernel_rfl)
   generalize q79_671 : EV A671 (.tmp 79) = us79 at S671 f79_671
   have l79_671 := q79_671.trans f79_671
   have Y671 : SzN A671 81 := ⟨hFr.sz.trans Y544.out⟩
   have hdf671 : A671.defers = [{ target := .collected D544, args := #[] }] := hFr.df.trans hdf544
   have l6_671 := (oldS hFr 6 (by kernel_rfl)).trans l6_544
   obtain ⟨c201r_671, c203_671, hc201r_671, hc203_671, S671⟩ := gen2 S671
   replace hc201r_671 := hc201r_671.trans hc201r_544
   replace hc203_671 := hc203_671.trans hc203_544
   refine xsC (zs' := #[gv]) 1 S671 rfl hc203_671 rfl rfl rfl l6_671 l79_671 (SlN_one (ow_at (S671.chq 0 rfl hc201r_671))) (fun w672 c672 hc672 S672 => ?_)
   replace S672 : St w NoX (c201r_671 :: c672 :: [rst]) w672 := S672
   refine W_end ?_
   refine kq _ ?_
   subst q79_671
   exact ⟨undef, [], rfl, rfl, trivial, rfl, by subst hc201r_671 hc672 hc201r_544 hc203_544; exact S672⟩
  ·refine stepI [] (fun vs => [c210_544, c5_544]) rfl (fun a => by kernel_rfl) ?_
   intro A673 w673 rst hFr hF S673
   replace S673 : St w NoX [c210_544, c5_544, rst] w673 := S673
   have f80_673 : EV A673 (.tmp 80) = av := hF 1 (by kernel_rfl)
   generalize q80_673 : EV A673 (.tmp 80) = us80 at S673 f80_673
   have l80_673 := q80_673.trans f80_673
   have Y673 : SzN A673 81 := ⟨hFr.sz.trans Y544.out⟩
   have hdf673 : A673.defers = [{ target := .collected D544, args := #[] }] := hFr.df.trans hdf544
   have l7_673 := (oldS hFr 7 (by kernel_rfl)).trans l7_544
   obtain ⟨c210_673, c5_673, hc210_673, hc5_673, S673⟩ := gen2 S673
   replace hc210_673 := hc210_673.trans hc210_544
   replace hc5_673 := hc5_673.trans hc5_544
   refine xsC (zs' := #[av]) 1 S673 rfl hc5_673 rfl rfl rfl l7_673 l80_673 (SlN_one (ow_at (S673.chq 0 rfl hc210_673))) (fun w674 c674 hc674 S674 => ?_)
   replace S674 : St w NoX (c210_673 :: c674 :: [rst]) w674 := S674
   refine W_end ?_
   refine kq _ ?_
   subst q80_673
   exact ⟨undef, [], rfl, rfl, trivial, rfl, by subst hc210_673 hc674 hc210_544 hc5_544; exact S674⟩
  ·refine stepI [] (fun vs => [c156_544]) rfl (fun a => by kernel_rfl) ?_
   intro A675 w675 rst hFr hF S675
   replace S675 : St w NoX [c156_544, rst] w675 := S675
   have Y675 : SzN A675 81 := ⟨hFr.sz.trans Y544.out⟩
   have hdf675 : A675.defers = [{ target := .collected D544, args := #[] }] := hFr.df.trans hdf544
   have l8_675 := (oldS hFr 8 (by kernel_rfl)).trans l8_544
   obtain ⟨c156_675, hc156_675, S675⟩ := gen1 S675
   replace hc156_675 := hc156_675.trans hc156_544
   refine xsC (zs' := #[.int .i64 0]) 0 S675 rfl hc156_675 rfl rfl rfl l8_675 rfl (by rfl) (fun w676 c676 hc676 S676 => ?_)
   replace S676 : St w NoX (c676 :: [rst]) w676 := S676
   refine W_end ?_
   refine kq _ ?_
   exact ⟨undef, [], rfl, rfl, trivial, rfl, by subst hc676 hc156_544; exact S676⟩
  ·refine stepI [] (fun vs => [c157_544]) rfl (fun a => by kernel_rfl) ?_
   intro A677 w677 rst hFr hF S677
   replace S677 : St w NoX [c157_544, rst] w677 := S677
   have Y677 : SzN A677 81 := ⟨hFr.sz.trans Y544.out⟩
   have hdf677 : A677.defers = [{ target := .collected D544, args := #[] }] := hFr.df.trans hdf544
   have l9_677 := (oldS hFr 9 (by kernel_rfl)).trans l9_544
   obtain ⟨c157_677, hc157_677, S677⟩ := gen1 S677
   replace hc157_677 := hc157_677.trans hc157_544
   refine xsC (zs' := #[.int .i64 0]) 0 S677 rfl hc157_677 rfl rfl rfl l9_677 rfl (by rfl) (fun w678 c678 hc678 S678 => ?_)
   replace S678 : St w NoX (c678 :: [rst]) w678 := S678
   refine W_end ?_
   refine kq _ ?_
   exact ⟨undef, [], rfl, rfl, trivial, rfl, by subst hc678 hc157_544; exact S678⟩
  intro A679 w679 hFr hF S679
  replace S679 : St w NoX [c210_544, cb546, ck546, cb4_544, cb3_544, cb7_544, cb5_544, c201r_544, c197_544, c155_544, bx g7 28 #[.int .i64 0], bx g6 3 #[.int .i64 0], bx g5 37 #[av], bx g4 62 #[gv], c3_544, cD544] w679 := S679.cast (by kernel_rfl)
  have Y679 : SzN A679 81 := ⟨hFr.sz.trans Y544.out⟩
  have hdf679 : A679.defers = [{ target := .collected D544, args := #[] }] := hFr.df.trans hdf544
  obtain ⟨c210_679, cb546_679, ck546_679, cb4_679, cb3_679, cb7_679, cb5_679, c201r_679, c197_679, c155_679, c611_679, c610_679, c609_679, c608_679, c3_679, cD544_679, hc210_679, hcb546_679, hck546_679, hcb4_679, hcb3_679, hcb7_679, hcb5_679, hc201r_679, hc197_679, hc155_679, hc611_679, hc610_679, hc609_679, hc608_679, hc3_679, hcD544_679, S679⟩ := gen16 S679
  replace hc210_679 := hc210_679.trans hc210_544
  replace hcb546_679 := hcb546_679.trans hcb546
  replace hck546_679 := hck546_679.trans hck546
  replace hcb4_679 := hcb4_679.trans hcb4_544
  replace hcb3_679 := hcb3_679.trans hcb3_544
  replace hcb7_679 := hcb7_679.trans hcb7_544
  replace hcb5_679 := hcb5_679.trans hcb5_544
  replace hc201r_679 := hc201r_679.trans hc201r_544
  replace hc197_679 := hc197_679.trans hc197_544
  replace hc155_679 := hc155_679.trans hc155_544
  replace hc3_679 := hc3_679.trans hc3_544
  replace hcD544_679 := hcD544_679.trans hcD544
  have l6_679 := (oldS hFr 6 (by kernel_rfl)).trans l6_544
  have l7_679 := (oldS hFr 7 (by kernel_rfl)).trans l7_544
  have l8_679 := (oldS hFr 8 (by kernel_rfl)).trans l8_544
  have l9_679 := (oldS hFr 9 (by kernel_rfl)).trans l9_544
  clear Y544 hdf544 S546 l6_544 l7_544 l8_544 l9_544
  refine Qo_normal ?_
  have S680 : St w NoX [c210_679, cb546_679, ck546_679, c201r_679, c611_679, c610_679, c609_679, c608_679, c3_679, cD544_679] w679 := S679.sel [0, 1, 2, 7, 10, 11, 12, 13, 14, 15] (by decide) rfl
  refine tk H547 ?_
  refine R_ret ?_
  have hD681 := S680.obj 9 rfl hcD544_679
  have S681 := S680.put (o' := .deferred none) 9 rfl hcD544_679
  obtain ⟨w681, hw681⟩ : ∃ w', w' = w679.putObj D544 (.deferred none) := ⟨_, rfl⟩
  rw [← hw681] at S681
  replace S681 : St w NoX [c210_679, cb546_679, ck546_679, c201r_679, c611_679, c610_679, c609_679, c608_679, c3_679, (ob D544 (.deferred none))] w681 := S681
  refine ret_inR1' (D := D544) (w1 := w681) hw681 (results_4 Try.results23 (rv_cellC l6_679 (cell_box (S681.obj 7 rfl hc608_679) rfl) Try.underlying62 rfl) (rv_cellC l7_679 (cell_box (S681.obj 6 rfl hc609_679) rfl) Try.underlying37 rfl) (rv_cellC l8_679 (cell_box (S681.obj 5 rfl hc610_679) rfl) Try.underlying3 rfl) (rv_cellC l9_679 (cell_box (S681.obj 4 rfl hc611_679) rfl) Try.underlying28 rfl)) hdf679 hD681 ?_
  have hd := pl_done hgK hxs544.1 hxs544.2 hsz hfull hz
  exact .inr ⟨_, _, _, rfl, hd.1, hd.2.1, (S681.fin3 3 rfl (hc201r_679) 2 rfl (hck546_679) 0 rfl (hc210_679.trans (congrArg (ro 3 anC _) hd.2.2)) (by decide))⟩
 intro D682 cQ pre w682 hpre S682
 obtain ⟨_, hx, S682⟩ := S682.unpack
 rcases hx with ⟨rfl, gv, gL, av, aL, a, er, hx, hne, rfl⟩
 replace S682 : St w NoX ((ro 3 anC av aL) :: (bx g4_208 24 #[lv]) :: (bx g3_208 73 #[.pointer (some ⟨gs_10, 0, none⟩)]) :: (bx g7_208 76 #[.func (.func 30) #[.pointer (some ⟨gs_10, 0, none⟩)] #[]]) :: (bx g5_208 85 #[.func (.func 36) #[] #[.pointer (some ⟨g3, 0, none⟩)]]) :: (ro 2 grC gv gL) :: (bx g196 85 #[.func (.func 36) #[] #[.pointer (some ⟨g3, 0, none⟩)]]) :: (bx g154 73 #[.pointer (some ⟨gs_10, 0, none⟩)]) :: (bx g7 28 #[.int .i64 (er)]) :: (bx g6 3 #[.int .i64 (a)]) :: (bx g5 37 #[.slice none 0 0]) :: (bx g4 62 #[.slice none 0 0]) :: (bx g3 25 #[fv]) :: (ob D682 (.deferred (some []))) :: (mT gs_10 75 (lgN C N Z K Q) ((hv_10, H_10), (qv_10, q_10)) pre) :: []) w682 := S682
 obtain ⟨c210_682, cb4_682, cb3_682, cb7_682, cb5_682, c201r_682, c197_682, c155_682, c157_682, c156_682, c5_682, c203_682, c3_682, cD682, ct_682, hc210_682, hcb4_682, hcb3_682, hcb7_682, hcb5_682, hc201r_682, hc197_682, hc155_682, hc157_682, hc156_682, hc5_682, hc203_682, hc3_682, hcD682, hct_682, S682⟩ := gen15 S682
 have S683 := S682.sel [0, 14, 1, 2, 3, 4, 5, 6, 7, 8, 9, 10, 11, 12, 13] (by decide) (l' := [c210_682, ct_682, cb4_682, cb3_682, cb7_682, cb5_682, c201r_682, c197_682, c155_682, c157_682, c156_682, c5_682, c203_682, c3_682, cD682]) rfl
 replace S683 : St w NoX [c210_682, ct_682, cb4_682, cb3_682, cb7_682, cb5_682, c201r_682, c197_682, c155_682, c157_682, c156_682, c5_682, c203_682, c3_682, cD682] w682 := S683
 obtain ⟨cb684, ck684, hcb684, hck684, S684⟩ := mT_open (hct_682 ▸ S683)
 replace S684 : St w NoX [c210_682, cb684, ck684, cb4_682, cb3_682, cb7_682, cb5_682, c201r_682, c197_682, c155_682, c157_682, c156_682, c5_682, c203_682, c3_682, cD682] w682 := S684
 refine gen_w (fun A682 E682 => ?_)
 have Y682 := szq E682
 have hdf682 : A682.defers = [{ target := .collected D682, args := #[] }] := by rw [E682, df_mk, F209.d] <;> rfl
 have l6_682 := lookE E682 6 (mk_l (fg10 F209))
 have l7_682 := lookE E682 7 (mk_l (fg9 F209))
 have l8_682 := lookE E682 8 (mk_l (fg8 F209))
 have l9_682 := lookE E682 9 (mk_l (fg7 F209))
 clear E682
 refine R_ret ?_
 refine inb_ret ?_
 refine then_ret ?_
 have hD685 := S684.obj 15 rfl hcD682
 have S685 := S684.put (o' := .deferred none) 15 rfl hcD682
 obtain ⟨w685, hw685⟩ : ∃ w', w' = w682.putObj D682 (.deferred none) := ⟨_, rfl⟩
 rw [← hw685] at S685
 replace S685 : St w NoX [c210_682, cb684, ck684, cb4_682, cb3_682, cb7_682, cb5_682, c201r_682, c197_682, c155_682, c157_682, c156_682, c5_682, c203_682, c3_682, (ob D682 (.deferred none))] w685 := S685
 refine ret_inR1' (D := D682) (w1 := w685) hw685 (results_4 Try.results23 (rv_cellC l6_682 (cell_box (S685.obj 13 rfl hc203_682) rfl) Try.underlying62 rfl) (rv_cellC l7_682 (cell_box (S685.obj 12 rfl hc5_682) rfl) Try.underlying37 rfl) (rv_cellC l8_682 (cell_box (S685.obj 11 rfl hc156_682) rfl) Try.underlying3 rfl) (rv_cellC l9_682 (cell_box (S685.obj 10 rfl hc157_682) rfl) Try.underlying28 rfl)) hdf682 hD685 ?_
 have h : (plF (cfE C N Z K Q) (lgN C N Z K Q) K os full) = (a, er) := (pl_fb hsz hfull).trans hx
 rw [h]
 exact .inl ⟨rfl, hne, S685.fin0⟩

end Go.Proofs.Ytpgkfndbfocibaa