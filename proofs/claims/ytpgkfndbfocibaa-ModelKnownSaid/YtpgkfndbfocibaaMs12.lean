import Derived.Test.YtpgkfndbfocibaaProg
import Derived.Test.YtpgkfndbfocibaaMs11
import Derived.Test.YtpgkfndbfocibaaSep29f
import Derived.Test.YtpgkfndbfocibaaSep29g
namespace Go.Proofs.Ytpgkfndbfocibaa
open Go.RowKit Go.Own Go.Own.R Go.Own.G Go.Own.Gr Go.Own.Ml


set_option maxHeartbeats 4000000 in
theorem kpl_c {C : Int} {N : Int} {Z : Int} {K : Int} {Q : Int} {lv : Value} {os : List OpC} {fv : Value} {full : List Int} {w : World} (h_lv : Ro w NoX (rl 7 opC lv os)) (h_fv : Ro w NoX (il .i64 fv full))  :
  Calls Try.prog 23 #[.agg #[.int .i64 C, .int .i64 N, .int .i64 Z, .int .i64 K, .int .i64 Q], lv, fv] w fun e w' => (e = .returned (.tuple #[.slice none 0 0, .slice none 0 0, .int .i64 (plF (cfE C N Z K Q) (lgN C N Z K Q) K os full).1, .int .i64 (plF (cfE C N Z K Q) (lgN C N Z K Q) K os full).2]) ∧ ((plF (cfE C N Z K Q) (lgN C N Z K Q) K os full).2 ≠ 0) ∧ St w NoX [] w') ∨ (∃ gv Gs av, e = .returned (.tuple #[gv, av, .int .i64 0, .int .i64 0]) ∧ ((plF (cfE C N Z K Q) (lgN C N Z K Q) K os full) = (0, 0)) ∧ (Gs.map gab = (plG (cfE C N Z K Q) (lgN C N Z K Q) K os full)) ∧ St w NoX [ro 2 grC gv Gs, gls Gs, ro 3 anC av (plA (cfE C N Z K Q) (lgN C N Z K Q) K os full)] w') := by
 refine calls_inR 81 Try.func23 V V (by simp) (fun A0 Y0 hdf0 hargs => ?_)
 have l0_0 := hargs 0 (.agg #[.int .i64 C, .int .i64 N, .int .i64 Z, .int .i64 K, .int .i64 Q]) V
 have l1_0 := hargs 1 (lv) V
 have l2_0 := hargs 2 (fv) V
 clear hargs; replace Y0 : SzN A0 81 := ⟨Y0⟩
 have hS := St.nil w
 have bh_lv := SlN.le (sl_SlN h_lv.at)
 have bh_fv := SlN.le (sl_SlN h_fv.at)
 refine R_seq (fun K1 H1 => ?_)
 refine R_region (by kernel_rfl) ?_
 refine W_boxS (zs := #[.int .i64 (C), .int .i64 (N), .int .i64 (Z), .int .i64 (K), .int .i64 (Q)]) hS V V V l0_0 (by rfl) (fun g2 w2 c2 hc2 S2 => ?_)
 replace S2 : St w NoX [c2] w2 := S2
 refine W_boxS (zs := #[fv]) S2 V V V (es V l2_0) (SlN_cells (sl_SlN h_fv.at)) (fun g3 w3 c3 hc3 S3 => ?_)
 replace S3 : St w NoX [c3, c2] w3 := S3
 refine W_allocS (z := .slice none 0 0) (zs := #[.slice none 0 0]) S3 V V V (by kernel_rfl) (by rfl) (fun g4 w4 c4 hc4 S4 => ?_)
 replace S4 : St w NoX [c4, c3, c2] w4 := S4
 refine W_allocS (z := .slice none 0 0) (zs := #[.slice none 0 0]) S4 V V V (by kernel_rfl) (by rfl) (fun g5 w5 c5 hc5 S5 => ?_)
 replace S5 : St w NoX [c5, c4, c3, c2] w5 := S5
 refine W_allocS (z := .int .i64 0) (zs := #[.int .i64 0]) S5 V V V (by kernel_rfl) (by rfl) (fun g6 w6 c6 hc6 S6 => ?_)
 replace S6 : St w NoX [c6, c5, c4, c3, c2] w6 := S6
 refine W_allocS (z := .int .i64 0) (zs := #[.int .i64 0]) S6 V V V (by kernel_rfl) (by rfl) (fun g7 w7 c7 hc7 S7 => ?_)
 replace S7 : St w NoX [c7, c6, c5, c4, c3, c2] w7 := S7
 refine W_end (Qo_normal ?_)
 refine gen_Q (fun A8 E8 => ?_)
 have Y8 := szq E8
 have F8 := (fsE E8 (ck (ck (ck (ck (ck (ck (FS.n hdf0) V V) V V) V V) V V) V V) V V)).c (lookE E8 1 (es6 V l1_0))
 clear E8 Y0 hdf0 l0_0 l1_0 l2_0
 refine tk H1 ?_
 refine R_seq (fun K9 H9 => ?_)
 refine R_region (by kernel_rfl) ?_
 refine W_r V V (VR_ldA V (fg6 F8) (S7.obj 5 V hc2) Try.underlying23 V (by kernel_rfl)) ?_
 refine W_v V V (V_mov V (es V (fg0 F8))) ?_
 refine W_call V V V Try.func32 (by kernel_rfl) V (args2 (es V (et V)) (et V)) (kbg_c (C := C) (N := N) (Z := Z) (K := K) (Q := Q) (S7.roC h_lv) ) ?_
 rintro _ w10 (⟨rfl, hz_10, hP10⟩ | ⟨gs_10, hv_10, H_10, qv_10, q_10, rfl, hz_10, hg_10, hP10⟩)
 ·refine ⟨_, rfl, ?_⟩
  have S10 := S7.join hP10
  replace S10 : St w NoX [c7, c6, c5, c4, c3, c2] w10 := S10
  refine W_v V V (V_mov V (et V)) ?_
  refine W_v V V (V_ext (v := .pointer none) V (et V) V) ?_
  refine W_v V V (V_ext (v := .int .i64 ((scE (cfE C N Z K Q) os).1)) V (es V (et V)) V) ?_
  refine W_v V V (V_ext (v := .int .i64 ((scE (cfE C N Z K Q) os).2)) V (es2 V (et V)) V) ?_
  refine W_allocS (z := .pointer none) (zs := #[.pointer none]) S10 V V V (by kernel_rfl) (by rfl) (fun g11 w11 c11 hc11 S11 => ?_)
  replace S11 : St w NoX [c11, c7, c6, c5, c4, c3, c2] w11 := S11
  refine xsC (zs' := #[.pointer none]) 0 S11 V hc11 V V V (et V) (es3 V (et V)) (by rfl) (fun w12 c12 hc12 S12 => ?_)
  replace S12 : St w NoX [c12, c7, c6, c5, c4, c3, c2] w12 := S12
  refine xsC (zs' := #[.int .i64 ((scE (cfE C N Z K Q) os).1)]) 2 S12 V hc6 V V V (es8 V (fg2 F8)) (es2 V (et V)) (by rfl) (fun w13 c13 hc13 S13 => ?_)
  replace S13 : St w NoX [c12, c7, c13, c5, c4, c3, c2] w13 := S13
  refine xsC (zs' := #[.int .i64 ((scE (cfE C N Z K Q) os).2)]) 1 S13 V hc7 V V V (es8 V (fg1 F8)) (es V (et V)) (by rfl) (fun w14 c14 hc14 S14 => ?_)
  replace S14 : St w NoX [c12, c14, c13, c5, c4, c3, c2] w14 := S14
  refine W_end (Qo_normal ?_)
  refine gen_Q (fun A15 E15 => ?_)
  have Y15 := szq E15
  have F15 := fsE E15 (ck (cq7 F8 V) V V)
  clear E15 Y8 F8
  have S16 : St w NoX [c12, c14, c13, c5, c4, c3] w14 := S14.sel [0, 1, 2, 3, 4, 5] (by decide) V
  refine tk H9 ?_
  refine R_seq (fun K17 H17 => ?_)
  refine R_seq (fun K18 H18 => ?_)
  refine R_region (by kernel_rfl) ?_
  refine W_r V V (xlC (v := .int .i64 ((scE (cfE C N Z K Q) os).2)) V (fg2 F15) (S16.obj 1 V hc14) Try.underlying28) ?_
  refine W_v V V (V_neq V (et V) V) ?_
  refine W_end (Qo_normal ?_)
  refine gen_Q (fun A19 E19 => ?_)
  have Y19 := szq E19
  have F19 := fsE E19 (ck (cq1 F15 V) V V)
  clear E19 Y15 F15
  refine tk H18 ?_
  refine R_cond_sure (fg0 F19) (by rw [decide_eq_true_eq]; exact hz_10) ?_
  refine R_seq (fun K20 H20 => ?_)
  refine R_any (by kernel_rfl) (by kernel_rfl) 6 V (fun w141 hx141 => ?_)
  have S141 := S16.grow hx141
  refine AX_parL (l0 := [c12, c14, c13, c5, c4, c3]) (k := 0) [⟨[2], [], [26], fun vs => [], fun vs => (vs.getD 0 undef) = .int .i64 ((scE (cfE C N Z K Q) os).1)⟩, ⟨[1], [], [27], fun vs => [], fun vs => (vs.getD 0 undef) = .int .i64 ((scE (cfE C N Z K Q) os).2)⟩, ⟨[], [4], [], fun vs => [bx g4 62 #[.slice none 0 0]], fun vs => True⟩, ⟨[], [3], [], fun vs => [bx g5 37 #[.slice none 0 0]], fun vs => True⟩, ⟨[], [2], [], fun vs => [bx g6 3 #[.int .i64 ((scE (cfE C N Z K Q) os).1)]], fun vs => True⟩, ⟨[], [1], [], fun vs => [bx g7 28 #[.int .i64 ((scE (cfE C N Z K Q) os).2)]], fun vs => True⟩] [c12, c14, c13, c5, c4, c3] S141 V (by kernel_rfl) V ⟨?_, ?_, ?_, ?_, ?_, ?_, trivial⟩ ?_
  ·refine stepI [] (fun vs => [c13]) V (fun a => by kernel_rfl) ?_
   intro A142 w142 rst hFr hF S142
   replace S142 : St w NoX [c13, rst] w142 := S142
   have Y142 : SzN A142 81 := ⟨hFr.sz.trans Y19.out⟩
   have hdf142 : A142.defers = [] := hFr.df.trans F19.d
   have l8_142 := (oldS hFr 8 (by kernel_rfl)).trans (fg4 F19)
   obtain ⟨c13_142, hc13_142, S142⟩ := gen1 S142
   replace hc13_142 := hc13_142.trans hc13
   refine W_r V V (xlC (v := .int .i64 ((scE (cfE C N Z K Q) os).1)) V l8_142 (S142.obj 0 V hc13_142) Try.underlying3) ?_
   refine W_end (kq _ ?_)
   exact ⟨_, [.int .i64 ((scE (cfE C N Z K Q) os).1)], rfl, ts1 (et V), rfl, rfl, by subst hc13_142 hc13; exact S142⟩
  ·refine stepI [] (fun vs => [c14]) V (fun a => by kernel_rfl) ?_
   intro A143 w143 rst hFr hF S143
   replace S143 : St w NoX [c14, rst] w143 := S143
   have Y143 : SzN A143 81 := ⟨hFr.sz.trans Y19.out⟩
   have hdf143 : A143.defers = [] := hFr.df.trans F19.d
   have l9_143 := (oldS hFr 9 (by kernel_rfl)).trans (fg3 F19)
   obtain ⟨c14_143, hc14_143, S143⟩ := gen1 S143
   replace hc14_143 := hc14_143.trans hc14
   refine W_r V V (xlC (v := .int .i64 ((scE (cfE C N Z K Q) os).2)) V l9_143 (S143.obj 0 V hc14_143) Try.underlying28) ?_
   refine W_end (kq _ ?_)
   exact ⟨_, [.int .i64 ((scE (cfE C N Z K Q) os).2)], rfl, ts1 (et V), rfl, rfl, by subst hc14_143 hc14; exact S143⟩
  ·refine stepI [] (fun vs => [c4]) V (fun a => by kernel_rfl) ?_
   intro A144 w144 rst hFr hF S144
   replace S144 : St w NoX [c4, rst] w144 := S144
   have Y144 : SzN A144 81 := ⟨hFr.sz.trans Y19.out⟩
   have hdf144 : A144.defers = [] := hFr.df.trans F19.d
   have l6_144 := (oldS hFr 6 (by kernel_rfl)).trans (fg6 F19)
   obtain ⟨c4_144, hc4_144, S144⟩ := gen1 S144
   replace hc4_144 := hc4_144.trans hc4
   refine xsC (zs' := #[.slice none 0 0]) 0 S144 V hc4_144 V V V l6_144 V (by rfl) (fun w145 c145 hc145 S145 => ?_)
   replace S145 : St w NoX (c145 :: [rst]) w145 := S145
   refine W_end (kq _ ?_)
   exact ⟨undef, [], rfl, rfl, trivial, rfl, by subst hc145 hc4; exact S145⟩
  ·refine stepI [] (fun vs => [c5]) V (fun a => by kernel_rfl) ?_
   intro A146 w146 rst hFr hF S146
   replace S146 : St w NoX [c5, rst] w146 := S146
   have Y146 : SzN A146 81 := ⟨hFr.sz.trans Y19.out⟩
   have hdf146 : A146.defers = [] := hFr.df.trans F19.d
   have l7_146 := (oldS hFr 7 (by kernel_rfl)).trans (fg5 F19)
   obtain ⟨c5_146, hc5_146, S146⟩ := gen1 S146
   replace hc5_146 := hc5_146.trans hc5
   refine xsC (zs' := #[.slice none 0 0]) 0 S146 V hc5_146 V V V l7_146 V (by rfl) (fun w147 c147 hc147 S147 => ?_)
   replace S147 : St w NoX (c147 :: [rst]) w147 := S147
   refine W_end (kq _ ?_)
   exact ⟨undef, [], rfl, rfl, trivial, rfl, by subst hc147 hc5; exact S147⟩
  ·refine stepI [] (fun vs => [c13]) V (fun a => by kernel_rfl) ?_
   intro A148 w148 rst hFr hF S148
   replace S148 : St w NoX [c13, rst] w148 := S148
   have f26_148 : EV A148 (.tmp 26) = .int .i64 ((scE (cfE C N Z K Q) os).1) := hF 0 (by kernel_rfl)
   generalize q26_148 : EV A148 (.tmp 26) = us26 at S148 f26_148
   have l26_148 := q26_148.trans f26_148
   have Y148 : SzN A148 81 := ⟨hFr.sz.trans Y19.out⟩
   have hdf148 : A148.defers = [] := hFr.df.trans F19.d
   have l8_148 := (oldS hFr 8 (by kernel_rfl)).trans (fg4 F19)
   obtain ⟨c13_148, hc13_148, S148⟩ := gen1 S148
   replace hc13_148 := hc13_148.trans hc13
   refine xsC (zs' := #[.int .i64 ((scE (cfE C N Z K Q) os).1)]) 0 S148 V hc13_148 V V V l8_148 l26_148 (by rfl) (fun w149 c149 hc149 S149 => ?_)
   replace S149 : St w NoX (c149 :: [rst]) w149 := S149
   refine W_end (kq _ ?_)
   subst q26_148
   exact ⟨undef, [], rfl, rfl, trivial, rfl, by subst hc149 hc13; exact S149⟩
  ·refine stepI [] (fun vs => [c14]) V (fun a => by kernel_rfl) ?_
   intro A150 w150 rst hFr hF S150
   replace S150 : St w NoX [c14, rst] w150 := S150
   have f27_150 : EV A150 (.tmp 27) = .int .i64 ((scE (cfE C N Z K Q) os).2) := hF 1 (by kernel_rfl)
   generalize q27_150 : EV A150 (.tmp 27) = us27 at S150 f27_150
   have l27_150 := q27_150.trans f27_150
   have Y150 : SzN A150 81 := ⟨hFr.sz.trans Y19.out⟩
   have hdf150 : A150.defers = [] := hFr.df.trans F19.d
   have l9_150 := (oldS hFr 9 (by kernel_rfl)).trans (fg3 F19)
   obtain ⟨c14_150, hc14_150, S150⟩ := gen1 S150
   replace hc14_150 := hc14_150.trans hc14
   refine xsC (zs' := #[.int .i64 ((scE (cfE C N Z K Q) os).2)]) 0 S150 V hc14_150 V V V l9_150 l27_150 (by rfl) (fun w151 c151 hc151 S151 => ?_)
   replace S151 : St w NoX (c151 :: [rst]) w151 := S151
   refine W_end (kq _ ?_)
   subst q27_150
   exact ⟨undef, [], rfl, rfl, trivial, rfl, by subst hc151 hc14; exact S151⟩
  intro A152 w152 hFr hF S152
  replace S152 : St w NoX [c12, bx g7 28 #[.int .i64 ((scE (cfE C N Z K Q) os).2)], bx g6 3 #[.int .i64 ((scE (cfE C N Z K Q) os).1)], bx g5 37 #[.slice none 0 0], bx g4 62 #[.slice none 0 0], c3] w152 := S152.cast (by kernel_rfl)
  have Y152 : SzN A152 81 := ⟨hFr.sz.trans Y19.out⟩
  have hdf152 : A152.defers = [] := hFr.df.trans F19.d
  obtain ⟨c12_152, c84_152, c83_152, c82_152, c81_152, c3_152, hc12_152, hc84_152, hc83_152, hc82_152, hc81_152, hc3_152, S152⟩ := gen6 S152
  replace hc12_152 := hc12_152.trans hc12
  replace hc3_152 := hc3_152.trans hc3
  have l6_152 := (oldS hFr 6 (by kernel_rfl)).trans (fg6 F19)
  have l7_152 := (oldS hFr 7 (by kernel_rfl)).trans (fg5 F19)
  have l8_152 := (oldS hFr 8 (by kernel_rfl)).trans (fg4 F19)
  have l9_152 := (oldS hFr 9 (by kernel_rfl)).trans (fg3 F19)
  clear Y19 F19 S16
  refine Qo_normal ?_
  have S153 : St w NoX [c84_152, c83_152, c82_152, c81_152] w152 := S152.sel [1, 2, 3, 4] (by decide) V
  refine tk H20 ?_
  refine R_ret ?_
  refine then_ret ?_
  refine ret_inR0 (results_4 Try.results23 (rv_cellC l6_152 (cell_box (S153.obj 3 V hc81_152) V) Try.underlying62 V) (rv_cellC l7_152 (cell_box (S153.obj 2 V hc82_152) V) Try.underlying37 V) (rv_cellC l8_152 (cell_box (S153.obj 1 V hc83_152) V) Try.underlying3 V) (rv_cellC l9_152 (cell_box (S153.obj 0 V hc84_152) V) Try.underlying28 V)) hdf152 ?_
  have h : (plF (cfE C N Z K Q) (lgN C N Z K Q) K os full) = ((scE (cfE C N Z K Q) os).1, (scE (cfE C N Z K Q) os).2) := pl_sc hz_10
  rw [h]
  exact .inl ⟨rfl, hz_10, S153.fin0⟩
 refine ⟨_, rfl, ?_⟩
 obtain ⟨cB_10, cK_10, hcB_10, hcK_10, hP10⟩ := gen2 hP10
 have S10 := S7.join hP10
 replace S10 : St w NoX [cB_10, cK_10, c7, c6, c5, c4, c3, c2] w10 := S10
 obtain ⟨hcf, hl2, hops, hsz⟩ := sc_inv (cf := (cfE C N Z K Q)) (l := os) (by rw [hz_10])
 have hsm0 : SM (gab ((hv_10, H_10), (qv_10, q_10))).1 := by rw [hg_10]; exact SM_nil
 have hgK : gab ((hv_10, H_10), (qv_10, q_10)) = g00 K := hg_10
 refine W_v V V (V_mov V (et V)) ?_
 refine W_v V V (V_ext (v := .pointer (some ⟨gs_10, 0, none⟩)) V (et V) V) ?_
 refine W_v V V (V_ext (v := .int .i64 0) V (es V (et V)) V) ?_
 refine W_v V V (V_ext (v := .int .i64 0) V (es2 V (et V)) V) ?_
 refine W_allocS (z := .pointer none) (zs := #[.pointer none]) S10 V V V (by kernel_rfl) (by rfl) (fun g154 w154 c154 hc154 S154 => ?_)
 replace S154 : St w NoX [c154, cB_10, cK_10, c7, c6, c5, c4, c3, c2] w154 := S154
 refine xsC (zs' := #[.pointer (some ⟨gs_10, 0, none⟩)]) 0 S154 V hc154 V V V (et V) (es3 V (et V)) (by rfl) (fun w155 c155 hc155 S155 => ?_)
 replace S155 : St w NoX [c155, cB_10, cK_10, c7, c6, c5, c4, c3, c2] w155 := S155
 refine xsC (zs' := #[.int .i64 0]) 4 S155 V hc6 V V V (es8 V (fg2 F8)) (es2 V (et V)) (by rfl) (fun w156 c156 hc156 S156 => ?_)
 replace S156 : St w NoX [c155, cB_10, cK_10, c7, c156, c5, c4, c3, c2] w156 := S156
 refine xsC (zs' := #[.int .i64 0]) 3 S156 V hc7 V V V (es8 V (fg1 F8)) (es V (et V)) (by rfl) (fun w157 c157 hc157 S157 => ?_)
 replace S157 : St w NoX [c155, cB_10, cK_10, c157, c156, c5, c4, c3, c2] w157 := S157
 refine W_end (Qo_normal ?_)
 refine gen_Q (fun A158 E158 => ?_)
 have Y158 := szq E158
 have F158 := fsE E158 (ck (cq7 F8 V) V V)
 clear E158 Y8 F8
 have S159 : St w NoX [c155, cB_10, cK_10, c157, c156, c5, c4, c3] w157 := S157.sel [0, 1, 2, 3, 4, 5, 6, 7] (by decide) V
 refine tk H9 ?_
 refine R_seq (fun K160 H160 => ?_)
 refine R_seq (fun K161 H161 => ?_)
 refine R_region (by kernel_rfl) ?_
 refine W_r V V (xlC (v := .int .i64 0) V (fg2 F158) (S159.obj 3 V hc157) Try.underlying28) ?_
 refine W_v V V (V_neq V (et V) V) ?_
 refine W_end (Qo_normal ?_)
 refine gen_Q (fun A162 E162 => ?_)
 have Y162 := szq E162
 have F162 := fsE E162 (ck (cq1 F158 V) V V)
 clear E162 Y158 F158
 refine tk H161 ?_
 refine R_cond_not (fg0 F162) (by decide) ?_
 refine R_skip (tk H160 ?_)
 refine R_seq (fun K163 H163 => ?_)
 refine R_region (by kernel_rfl) ?_
 refine W_v V V (V_asg V V) (W_end (Qo_normal ?_))
 refine gen_Q (fun A164 E164 => ?_)
 have Y164 := szq E164
 have F164 := fsE E164 (ck F162 V V)
 clear E164 Y162 F162
 refine tk H163 ?_
 refine R_seq (fun K165 H165 => ?_)
 refine R_seq (fun K166 H166 => ?_)
 refine R_region (by kernel_rfl) ?_
 refine W_r V V (xlC (v := fv) V (fg8 F164) (S159.obj 7 V hc3) Try.underlying25) ?_
 refine W_v V V (V_lenS V (et V) (sl_SlN h_fv.at) Try.underlying25) ?_
 refine W_v V V (V_mov V V) (W_end (Qo_normal ?_))
 refine gen_Q (fun A167 E167 => ?_)
 have Y167 := szq E167
 have F167 := fsE E167 (ck (ck (ck F164 V V) V V) V V)
 clear E167 Y164 F164
 refine tk H166 (R_block ?_)
 -- loop 6
 refine R_loop (fun mz A' w' => SzN A' 81 ∧ A'.defers = [] ∧ (∃ (k : Nat) (last : Int), (mz = full.length - k) ∧ (k ≤ full.length) ∧ (fcF (-1) full os.length = fcF last (full.drop k) os.length) ∧ (EV A' (.tmp 30) = .int .i64 (k : Int)) ∧ (EV A' (.tmp 11) = .int .i64 last) ∧ (EV A' (.tmp 1) = EV A167 (.tmp 1)) ∧ (EV A' (.tmp 5) = EV A167 (.tmp 5)) ∧ (EV A' (.tmp 6) = EV A167 (.tmp 6)) ∧ (EV A' (.tmp 7) = EV A167 (.tmp 7)) ∧ (EV A' (.tmp 8) = EV A167 (.tmp 8)) ∧ (EV A' (.tmp 9) = EV A167 (.tmp 9)) ∧ (EV A' (.tmp 10) = EV A167 (.tmp 10)) ∧ (EV A' (.tmp 28) = EV A167 (.tmp 28)) ∧ (EV A' (.tmp 29) = EV A167 (.tmp 29)) ∧ (St w NoX [bx g154 73 #[.pointer (some ⟨gs_10, 0, none⟩)], bx gs_10 75 #[hv_10, qv_10, .int .i64 ((lgN C N Z K Q))], gls [((hv_10, H_10), (qv_10, q_10))], bx g7 28 #[.int .i64 0], bx g6 3 #[.int .i64 0], bx g5 37 #[.slice none 0 0], bx g4 62 #[.slice none 0 0], bx g3 25 #[fv]] w'))) (full.length - 0) ⟨Y167, F167.d, 0, (-1), rfl, (by omega), rfl, (((fg0 F167)).trans (by first | rfl | (simp; done) | (congr 1; omega))), (((fg3 F167)).trans (by first | rfl | (simp; done) | (congr 1; omega))), rfl, rfl, rfl, rfl, rfl, rfl, rfl, rfl, rfl, (by subst hc155 hcB_10 hcK_10 hc157 hc156 hc5 hc4 hc3; exact S159)⟩ ?_
 clear S159 hc155 hcB_10 hcK_10 hc157 hc156 hc5 hc4 hc3
 rintro n168 A168 w168 ⟨Y168, hdf168, k, last, hm168, hk, hfc, l30_168, l11_168, u1_168, u5_168, u6_168, u7_168, u8_168, u9_168, u10_168, u28_168, u29_168, S168⟩
 have l1_168 := u1_168.trans (fg6 F167)
 have l5_168 := u5_168.trans (fg11 F167)
 have l6_168 := u6_168.trans (fg10 F167)
 have l7_168 := u7_168.trans (fg9 F167)
 have l8_168 := u8_168.trans (fg8 F167)
 have l9_168 := u9_168.trans (fg7 F167)
 have l10_168 := u10_168.trans (fg5 F167)
 have l28_168 := u28_168.trans (fg2 F167)
 have l29_168 := u29_168.trans (fg1 F167)
 obtain ⟨c155_168, cB_168, cK_168, c157_168, c156_168, c5_168, c4_168, c3_168, hc155_168, hcB_168, hcK_168, hc157_168, hc156_168, hc5_168, hc4_168, hc3_168, S168⟩ := gen8 S168
 refine R_seq (fun K169 H169 => ?_)
 refine R_region (by kernel_rfl) ?_
 refine W_v V V (V_lss V l30_168 l29_168) ?_
 refine W_end (Qo_normal ?_)
 refine gen_Q (fun A170 E170 => ?_)
 have Y170 := szq E170
 have F170 := (((((((((((fsE E170 (ck (FS.n hdf168) V V)).c (lookE E170 1 (es V l1_168))).c (lookE E170 5 (es V l5_168))).c (lookE E170 6 (es V l6_168))).c (lookE E170 7 (es V l7_168))).c (lookE E170 8 (es V l8_168))).c (lookE E170 9 (es V l9_168))).c (lookE E170 10 (es V l10_168))).c (lookE E170 11 (es V l11_168))).c (lookE E170 28 (es V l28_168))).c (lookE E170 29 (es V l29_168))).c (lookE E170 30 (es V l30_168))
 clear E170 Y168 hdf168 l30_168 l11_168 l1_168 l5_168 l6_168 l7_168 l8_168 l9_168 l10_168 l28_168 l29_168
 refine tk H169 ?_
 refine R_seq (fun K171 H171 => ?_)
 refine R_cond_dec (fg11 F170) (fun c172 => ?_) (fun c172 => ?_)
 ·refine R_skip (tk H171 ?_)
  refine R_seq (fun K173 H173 => ?_)
  refine R_block ?_
  refine R_seq (fun K174 H174 => ?_)
  refine R_region (by kernel_rfl) ?_
  have k175 : k < full.length := by first | omega | (simp only [List.length_cons, List.length_nil]; omega) | (simp only [List.length_set]; omega) | decide
  obtain ⟨y175, hy175⟩ := get_some (xs := full) (k := k) k175
  obtain ⟨B175, O175, C175, hv175⟩ := (SlN.blk (sl_SlN h_fv.at) (by first | omega | (simp only [List.length_cons, List.length_nil]; omega) | (simp only [List.length_set]; omega) | decide))
  refine W_v V V (V_ixS (off := O175 + k) 1 (k) V (fg2 F170) (fg0 F170) hv175 (by omega) k175 Try.underlying25 (by kernel_rfl) (congrArg _ (Nat.mul_one _))) ?_
  refine W_r V V (VR_ldC V (et V) ((sl_SlN (S168.ro h_fv)).cell hv175 (map_get hy175)) Try.underlying3 V) ?_
  refine W_v V V (V_asg V (et V)) (W_end (Qo_normal ?_))
  refine gen_Q (fun A176 E176 => ?_)
  have Y176 := szq E176
  have F176 := fsE E176 (ck (cq2 F170 V) V V)
  clear E176 Y170 F170
  refine tk H174 ?_
  refine R_seq (fun K177 H177 => ?_)
  refine R_seq (fun K178 H178 => ?_)
  refine R_region (by kernel_rfl) ?_
  refine W_v V V (V_mov V (fg0 F176)) (W_v V V (V_mov V (es V (fg4 F176))) ?_)
  refine W_v V V (V_leq V (es V (et V)) (et V)) ?_
  refine W_split V V (V_mov V (et V)) (fun c179 => ?_) (fun c179 => ?_)
  ·refine xof V V V (et V) (xof V V V (es V (et V)) (xof V V V (es2 V (et V)) (xof V V V (es3 V (et V)) ?_)))
   refine W_v V V (V_pickT V (es4 V (et V)) V) ?_
   refine W_end (Qo_normal ?_)
   refine gen_Q (fun A180 E180 => ?_)
   have Y180 := szq E180
   have F180 := fsE E180 (ck (ck (ck (ck (ck (cq4 F176 V) V V) V V) V V) V V) V V)
   clear E180 Y176 F176
   refine tk H178 ?_
   refine R_cond_t (fg0 F180) ?_
   refine R_seq (fun K181 H181 => ?_)
   refine R_region (by kernel_rfl) ?_
   refine xsC (zs' := #[.slice none 0 0]) 6 S168 V hc4_168 V V V (fg14 F180) V (by rfl) (fun w182 c182 hc182 S182 => ?_)
   replace S182 : St w NoX [c155_168, cB_168, cK_168, c157_168, c156_168, c5_168, c182, c3_168] w182 := S182
   refine xsC (zs' := #[.slice none 0 0]) 5 S182 V hc5_168 V V V (fg13 F180) V (by rfl) (fun w183 c183 hc183 S183 => ?_)
   replace S183 : St w NoX [c155_168, cB_168, cK_168, c157_168, c156_168, c183, c182, c3_168] w183 := S183
   refine xsC (zs' := #[.int .i64 (-1)]) 4 S183 V hc156_168 V V V (fg12 F180) V (by rfl) (fun w184 c184 hc184 S184 => ?_)
   replace S184 : St w NoX [c155_168, cB_168, cK_168, c157_168, c184, c183, c182, c3_168] w184 := S184
   refine xsC (zs' := #[.int .i64 6]) 3 S184 V hc157_168 V V V (fg11 F180) V (by rfl) (fun w185 c185 hc185 S185 => ?_)
   replace S185 : St w NoX [c155_168, cB_168, cK_168, c185, c184, c183, c182, c3_168] w185 := S185
   refine W_end (Qo_normal (tk H181 ?_))
   refine R_ret ?_
   refine then_ret (inb_ret (then_ret (then_ret (inb_ret (then_ret ?_)))))
   refine ret_inR0 (results_4 Try.results23 (rv_cellC (fg14 F180) (cell_box (S185.obj 6 V hc182) V) Try.underlying62 V) (rv_cellC (fg13 F180) (cell_box (S185.obj 5 V hc183) V) Try.underlying37 V) (rv_cellC (fg12 F180) (cell_box (S185.obj 4 V hc184) V) Try.underlying3 V) (rv_cellC (fg11 F180) (cell_box (S185.obj 3 V hc185) V) Try.underlying28 V)) F180.d ?_
   have h : (plF (cfE C N Z K Q) (lgN C N Z K Q) K os full) = ((-1), 6) := pl_fc hsz (fc_bad hfc hy175 (by omega))
   rw [h]
   exact .inl ⟨rfl, by decide, S185.fin0⟩
  refine W_v V (xwt V V (et V)) (V_mov V (es4 V (fg0 F176))) ?_
  refine W_v V (xwt V V (es V (et V))) (V_mov V (es5 V (fg11 F176))) ?_
  refine W_v V (xwt V V (es2 V (et V))) (V_lenS V (et V) (sl_SlN h_lv.at) Try.underlying24) ?_
  refine W_v V (xwt V V (es3 V (et V))) (V_geq V (es2 V (et V)) (et V)) ?_
  refine W_v V V (V_pickF V (es4 V (et V)) (et V)) ?_
  refine W_end (Qo_normal ?_)
  refine gen_Q (fun A186 E186 => ?_)
  have Y186 := szq E186
  have F186 := fsE E186 (ck (ck (ck (ck (ck (cq4 F176 V) V V) V V) V V) V V) V V)
  clear E186 Y176 F176
  refine tk H178 ?_
  refine R_cond_dec (fg0 F186) (fun c187 => ?_) (fun c187 => ?_)
  ·refine R_seq (fun K188 H188 => ?_)
   refine R_region (by kernel_rfl) ?_
   refine xsC (zs' := #[.slice none 0 0]) 6 S168 V hc4_168 V V V (fg14 F186) V (by rfl) (fun w189 c189 hc189 S189 => ?_)
   replace S189 : St w NoX [c155_168, cB_168, cK_168, c157_168, c156_168, c5_168, c189, c3_168] w189 := S189
   refine xsC (zs' := #[.slice none 0 0]) 5 S189 V hc5_168 V V V (fg13 F186) V (by rfl) (fun w190 c190 hc190 S190 => ?_)
   replace S190 : St w NoX [c155_168, cB_168, cK_168, c157_168, c156_168, c190, c189, c3_168] w190 := S190
   refine xsC (zs' := #[.int .i64 (-1)]) 4 S190 V hc156_168 V V V (fg12 F186) V (by rfl) (fun w191 c191 hc191 S191 => ?_)
   replace S191 : St w NoX [c155_168, cB_168, cK_168, c157_168, c191, c190, c189, c3_168] w191 := S191
   refine xsC (zs' := #[.int .i64 6]) 3 S191 V hc157_168 V V V (fg11 F186) V (by rfl) (fun w192 c192 hc192 S192 => ?_)
   replace S192 : St w NoX [c155_168, cB_168, cK_168, c192, c191, c190, c189, c3_168] w192 := S192
   refine W_end (Qo_normal (tk H188 ?_))
   refine R_ret ?_
   refine then_ret (inb_ret (then_ret (then_ret (inb_ret (then_ret ?_)))))
   refine ret_inR0 (results_4 Try.results23 (rv_cellC (fg14 F186) (cell_box (S192.obj 6 V hc189) V) Try.underlying62 V) (rv_cellC (fg13 F186) (cell_box (S192.obj 5 V hc190) V) Try.underlying37 V) (rv_cellC (fg12 F186) (cell_box (S192.obj 4 V hc191) V) Try.underlying3 V) (rv_cellC (fg11 F186) (cell_box (S192.obj 3 V hc192) V) Try.underlying28 V)) F186.d ?_
   have h : (plF (cfE C N Z K Q) (lgN C N Z K Q) K os full) = ((-1), 6) := pl_fc hsz (fc_bad hfc hy175 (by omega))
   rw [h]
   exact .inl ⟨rfl, by decide, S192.fin0⟩
  refine R_skip (tk H177 ?_)
  refine R_region (by kernel_rfl) ?_
  refine W_v V V (V_mov V (fg5 F186)) (W_v V V (V_asg V (et V)) (W_end (Qo_normal ?_)))
  refine gen_Q (fun A193 E193 => ?_)
  have Y193 := szq E193
  have F193 := fsE E193 (ck (cq1 (fx9 F186) V) V V)
  clear E193 Y186 F186
  refine inb_n (tk H173 ?_)
  refine R_region (by kernel_rfl) ?_
  refine W_v V V (V_add V (fg7 F193) V (by omega) (by omega)) ?_
  refine W_v V V (V_mov V (et V)) (W_end (Qo_normal ?_))
  refine gen_Q (fun A194 E194 => ?_)
  have Y194 := szq E194
  have F194 := fsE E194 (ck (cq1 (fx7 F193) V) V V)
  clear E194 Y193 F193
  refine then_n ⟨full.length - (k + 1), by simp only [hm168]; omega, Y194, F194.d, (k + 1), y175, rfl, (by omega), (fc_step hfc hy175 (by omega)), (((fg0 F194)).trans (by first | rfl | (simp; done) | (congr 1; omega))), (((fg1 F194)).trans (by first | rfl | (simp; done) | (congr 1; omega))), (((fg16 F194)).trans (fg6 F167).symm), (((fg15 F194)).trans (fg11 F167).symm), (((fg14 F194)).trans (fg10 F167).symm), (((fg13 F194)).trans (fg9 F167).symm), (((fg12 F194)).trans (fg8 F167).symm), (((fg11 F194)).trans (fg7 F167).symm), (((fg10 F194)).trans (fg5 F167).symm), (((fg9 F194)).trans (fg2 F167).symm), (((fg8 F194)).trans (fg1 F167).symm), (by subst hc155_168 hcB_168 hcK_168 hc157_168 hc156_168 hc5_168 hc4_168 hc3_168; exact S168)⟩
 refine R_exit ?_
 refine then_exit (then_exit ?_)
 refine inb_hit ?_
 refine tk H165 ?_
 refine R_seq (fun K195 H195 => ?_)
 refine R_region (by kernel_rfl) ?_
 refine W_v V V (V_mkf V (args0) (args1 (fg9 F170))) ?_
 refine W_allocS (z := .nilFunc) (zs := #[.nilFunc]) S168 V V V (by kernel_rfl) (by rfl) (fun g196 w196 c196 hc196 S196 => ?_)
 replace S196 : St w NoX [c196, c155_168, cB_168, cK_168, c157_168, c156_168, c5_168, c4_168, c3_168] w196 := S196
 refine xsC (zs' := #[.func (.func 36) #[] #[.pointer (some ⟨g3, 0, none⟩)]]) 0 S196 V hc196 V V V (et V) (es V (et V)) (by rfl) (fun w197 c197 hc197 S197 => ?_)
 replace S197 : St w NoX [c197, c155_168, cB_168, cK_168, c157_168, c156_168, c5_168, c4_168, c3_168] w197 := S197
 refine W_end (Qo_normal ?_)
 refine gen_Q (fun A198 E198 => ?_)
 have Y198 := szq E198
 have F198 := fsE E198 (ck (cq1 F170 V) V V)
 clear E198 Y170 F170
 refine tk H195 ?_
 refine R_seq (fun K199 H199 => ?_)
 refine R_monoS (by kernel_rfl) 7 8 [none, none, none, none, none, some (SPv [] (fun _ => fun u l' => ∃ g_, u = .slice (some ⟨g_, 0, none⟩) 1 1 ∧ ∃ c_, c_ = ro 2 grC (.slice (some ⟨g_, 0, none⟩) 1 1) [((hv_10, H_10), (qv_10, q_10))] ∧ l' = [c_]) 5), some (SPv [] (fun _ => fun u l' => ∃ v_, u = v_ ∧ ∃ c_, c_ = ro 2 grC v_ [((hv_10, H_10), (qv_10, q_10))] ∧ l' = [c_]) 6)] (by kernel_rfl) (by kernel_rfl) ?_
 refine D_r V V (by kernel_rfl) (fun sx hx hF => (VR_ldC V (fg9 F198) (cell_box (v := .slice none 0 0) ((S197.grow hx).obj 7 V hc4_168) V) Try.underlying62 V)) V V ?_
 refine D_r V V (by kernel_rfl) (fun sx hx hF => (VR_ldC V (es V (fg5 F198)) (cell_box (v := .pointer (some ⟨gs_10, 0, none⟩)) ((S197.grow hx).obj 1 V hc155_168) V) Try.underlying73 V)) V V ?_
 refine D_v V V (V_nil V (et V)) V V ?_
 refine D_v V V (V_fa (off' := 0) V (et V) Try.underlying75 V (by decide +kernel) V) V V ?_
 refine D_r V V (by kernel_rfl) (fun sx hx hF => (VR_ldP (ys := [hv_10, qv_10]) V (et V) ((S197.grow hx).obj 2 V hcB_168) (ldP_at V) Try.underlying36 V (by kernel_rfl))) V V ?_
 have hll200 : [((hv_10, H_10), (qv_10, q_10))].length = 1 := rfl
 refine D_lay (ts := []) (vs := []) (C0 := fun _ => fun u l' => ∃ g_, u = .slice (some ⟨g_, 0, none⟩) 1 1 ∧ ∃ c_, c_ = ro 2 grC (.slice (some ⟨g_, 0, none⟩) 1 1) [((hv_10, H_10), (qv_10, q_10))] ∧ l' = [c_]) (C := fun u l' => ∃ g_, u = .slice (some ⟨g_, 0, none⟩) 1 1 ∧ ∃ c_, c_ = ro 2 grC (.slice (some ⟨g_, 0, none⟩) 1 1) [((hv_10, H_10), (qv_10, q_10))] ∧ l' = [c_]) V V V V V V (fun sx hx hF => lay_lit (vs := [.agg #[hv_10, qv_10]]) 2 V (parts1 (et V)) V Try.underlying62 (by kernel_rfl) (by decide) (by intro v hv; simp only [List.mem_cons, List.not_mem_nil, or_false] at hv; rcases hv with rfl <;> rfl) (by rfl)) (fun u200 l200 hu200 => ?_)
 obtain ⟨g200, rfl, c200, hc200, hl200⟩ := hu200
 refine D_lay (ts := []) (vs := []) (C0 := fun _ => fun u l' => ∃ v_, u = v_ ∧ ∃ c_, c_ = ro 2 grC v_ [((hv_10, H_10), (qv_10, q_10))] ∧ l' = [c_]) (C := fun u l' => ∃ v_, u = v_ ∧ ∃ c_, c_ = ro 2 grC v_ [((hv_10, H_10), (qv_10, q_10))] ∧ l' = [c_]) V V V V V V (fun sx hx hF => by obtain ⟨ll200, ws200, we200, ⟨g200q, hq200, c200_, hc200_, hl200_⟩, hm200, k200, e200⟩ := L.ancF_get hF (by kernel_rfl); cases hq200; subst hl200_; exact lay_app0 (a := none) 2 V (es5 V (et V)) trivial (et V) Try.underlying62 Try.underlying62 (z := .agg #[.slice none 0 0, .slice none 0 0]) (bytes := 48) (by kernel_rfl) V (by decide) (ow_at ((k200.grow e200).chq 0 V hc200_)) (by intro u hu; simp only [List.flatMap_cons, List.flatMap_nil, grC, List.append_nil, List.cons_append, List.nil_append, List.mem_cons, List.not_mem_nil, or_false] at hu; rcases hu with rfl | rfl <;> first | exact SlN_one (sl_SlN (gl_oa m1 (S197.chq 3 V hcK_168))) | exact SlN_one (sl_SlN (gl_ra m1 (S197.chq 3 V hcK_168)))) (by first | omega | (simp; done) | (simp; omega)) (by first | omega | (simp; done) | (simp; omega))) (fun u201 l201 hu201 => ?_)
 obtain ⟨v201, rfl, c201, hc201, hl201⟩ := hu201
 refine D_eff V ?_
 refine ZS_eff S197 V V (fun s202 hJ202 hL202 hF202 => ?_)
 obtain ⟨ll200, ws200, we200, ⟨g200q, hq200, c200r, hc200r, hl200r⟩, hm200, k200, e200⟩ := L.all_get (L.all_rest hF202); cases hq200; subst hl200r
 replace hJ202 := hJ202.add hL202 (i := 5) V hm200 k200 e200
 obtain ⟨ll201, ws201, we201, ⟨v201q, hq201, c201r, hc201r, hl201r⟩, hm201, k201, e201⟩ := L.all_get hF202; cases hq201; subst hl201r
 replace hJ202 := hJ202.add hL202 (i := 6) V hm201 k201 e201
 have S202 := hJ202.st; clear hF202 hJ202 hL202
 generalize s202.1 = w202 at *
 replace S202 : St w NoX [c201r, c200r, c197, c155_168, cB_168, cK_168, c157_168, c156_168, c5_168, c4_168, c3_168] w202 := S202
 refine xsC (zs' := #[u201]) 9 S202 V hc4_168 V V V (es7 V (fg9 F198)) (et V) (SlN_one (ow_at (S202.chq 0 V hc201r))) (fun w203 c203 hc203 S203 => ?_)
 replace S203 : St w NoX [c201r, c200r, c197, c155_168, cB_168, cK_168, c157_168, c156_168, c5_168, c203, c3_168] w203 := S203
 refine W_end (Qo_normal ?_)
 refine gen_Q (fun A204 E204 => ?_)
 have Y204 := szq E204
 have F204 := fsE E204 (cq7 F198 V)
 clear E204 Y198 F198
 have S205 : St w NoX [c201r, c197, c155_168, cB_168, cK_168, c157_168, c156_168, c5_168, c203, c3_168] w203 := S203.sel [0, 2, 3, 4, 5, 6, 7, 8, 9, 10] (by decide) V
 refine tk H199 ?_
 refine R_seq (fun K206 H206 => ?_)
 refine R_seq (fun K207 H207 => ?_)
 refine R_region (by kernel_rfl) ?_
 refine W_r V V (xlC (v := .pointer (some ⟨gs_10, 0, none⟩)) V (fg5 F204) (S205.obj 2 V hc155_168) Try.underlying73) ?_
 refine W_v V V (V_mov V (es V (fg11 F204))) ?_
 refine W_r V V (xlC (v := .func (.func 36) #[] #[.pointer (some ⟨g3, 0, none⟩)]) V (es2 V (fg0 F204)) (S205.obj 1 V hc197) Try.underlying85) ?_
 refine W_call V V V Try.func34 (by kernel_rfl) V (args3 (es2 V (et V)) (es V (et V)) (et V)) (kmtP_c (gs := gs_10) (gc := g3) (S205.roC h_lv) ) ?_
 rintro _ w208 ⟨g4_208, g3_208, g7_208, g5_208, rfl, hP208⟩
 refine ⟨_, rfl, ?_⟩
 obtain ⟨cb4_208, cb3_208, cb7_208, cb5_208, hcb4_208, hcb3_208, hcb7_208, hcb5_208, hP208⟩ := gen4 hP208
 have S208 := S205.join hP208
 replace S208 : St w NoX [cb4_208, cb3_208, cb7_208, cb5_208, c201r, c197, c155_168, cB_168, cK_168, c157_168, c156_168, c5_168, c203, c3_168] w208 := S208
 refine W_end (Qo_normal ?_)
 refine gen_Q (fun A209 E209 => ?_)
 have Y209 := szq E209
 have F209 := fsE E209 (ck (cq3 F204 V) V V)
 clear E209 Y204 F204
 refine tk H207 (R_block ?_)
 have hfull := fc_end hfc (by omega)
 have hasc := (fc_asc full (-1) os.length hfull).2
 have hfl := fc_len hfull
 obtain ⟨c210, hc210, S210⟩ := S208.pnil (s := 3)
 have S212 := S210.sel [0, 8, 9, 1, 2, 3, 4, 5, 6, 7, 10, 11, 12, 13, 14] (by decide) (l' := [c210, cB_168, cK_168, cb4_208, cb3_208, cb7_208, cb5_208, c201r, c197, c155_168, c157_168, c156_168, c5_168, c203, c3_168]) V
 replace S212 : St w NoX [c210, cB_168, cK_168, cb4_208, cb3_208, cb7_208, cb5_208, c201r, c197, c155_168, c157_168, c156_168, c5_168, c203, c3_168] w208 := S212
 obtain ⟨ct213, hct213, S213⟩ := genS (mT_shut (gs := gs_10) (T := 75) (n := (lgN C N Z K Q)) (G0 := ((hv_10, H_10), (qv_10, q_10))) (pre := []) (hcB_168) hcK_168 S212)
 replace S213 : St w NoX [c210, ct213, cb4_208, cb3_208, cb7_208, cb5_208, c201r, c197, c155_168, c157_168, c156_168, c5_168, c203, c3_168] w208 := S213
 have S214 := S213.sel [0, 2, 3, 4, 5, 6, 7, 8, 9, 10, 11, 12, 13, 1] (by decide) (l' := [c210, cb4_208, cb3_208, cb7_208, cb5_208, c201r, c197, c155_168, c157_168, c156_168, c5_168, c203, c3_168, ct213]) V
 replace S214 : St w NoX [c210, cb4_208, cb3_208, cb7_208, cb5_208, c201r, c197, c155_168, c157_168, c156_168, c5_168, c203, c3_168, ct213] w208 := S214
 refine R_rangeT (α := ME) (fg0 F209) (fun args w => calls_enter Try.func61 V V args w) (kmoP_it (gs := gs_10) (g3 := g3_208) (g4 := g4_208) (g5 := g5_208) (g7 := g7_208) (gc := g3) (G0 := ((hv_10, H_10), (qv_10, q_10))) (n := (lgN C N Z K Q)) (lv := lv) (os := os) (fv := fv) (full := full) (Rd := fun W => (bx g4_208 24 #[lv]).at W ∧ (rl 7 opC lv os).at W ∧ (bx g3_208 73 #[.pointer (some ⟨gs_10, 0, none⟩)]).at W ∧ (bx g7_208 76 #[.func (.func 30) #[.pointer (some ⟨gs_10, 0, none⟩)] #[]]).at W ∧ (bx g5_208 85 #[.func (.func 36) #[] #[.pointer (some ⟨g3, 0, none⟩)]]).at W ∧ (bx g3 25 #[fv]).at W ∧ (il .i64 fv full).at W) (fun _ h => h) (hsm0) (lg_rng) (hops) (hl2) (hasc) ((by omega))) (fun _ => rfl) (fun pre => pk (fun l => ∃ (gv : Value) (av : Value), (fbd (rfP full) 0 (moP (lgN C N Z K Q) K os full) = fbd (rfP full) pre.length ((moP (lgN C N Z K Q) K os full).drop pre.length)) ∧ l = [ro 3 anC av (pre.map fun x : ME => x.2.1), bx g4_208 24 #[lv], bx g3_208 73 #[.pointer (some ⟨gs_10, 0, none⟩)], bx g7_208 76 #[.func (.func 30) #[.pointer (some ⟨gs_10, 0, none⟩)] #[]], bx g5_208 85 #[.func (.func 36) #[] #[.pointer (some ⟨g3, 0, none⟩)]], ro 2 grC gv (gsM ((hv_10, H_10), (qv_10, q_10)) pre), bx g196 85 #[.func (.func 36) #[] #[.pointer (some ⟨g3, 0, none⟩)]], bx g154 73 #[.pointer (some ⟨gs_10, 0, none⟩)], bx g7 28 #[.int .i64 0], bx g6 3 #[.int .i64 0], bx g5 37 #[av], bx g4 62 #[gv], bx g3 25 #[fv]])) (fun cQ pre => pk (fun l => (cQ = .ret ∧ ∃ (gv : Value) (gL : List GV) (av : Value) (aL : List AnC) (a : Int) (er : Int), (fbd (rfP full) 0 (moP (lgN C N Z K Q) K os full) = (a, er)) ∧ (er ≠ 0) ∧ l = [ro 3 anC av aL, bx g4_208 24 #[lv], bx g3_208 73 #[.pointer (some ⟨gs_10, 0, none⟩)], bx g7_208 76 #[.func (.func 30) #[.pointer (some ⟨gs_10, 0, none⟩)] #[]], bx g5_208 85 #[.func (.func 36) #[] #[.pointer (some ⟨g3, 0, none⟩)]], ro 2 grC gv gL, bx g196 85 #[.func (.func 36) #[] #[.pointer (some ⟨g3, 0, none⟩)]], bx g154 73 #[.pointer (some ⟨gs_10, 0, none⟩)], bx g7 28 #[.int .i64 (er)], bx g6 3 #[.int .i64 (a)], bx g5 37 #[.slice none 0 0], bx g4 62 #[.slice none 0 0], bx g3 25 #[fv]]))) (St.pack (l := [ro 3 anC (.slice none 0 0) ([].map fun x : ME => x.2.1), bx g4_208 24 #[lv], bx g3_208 73 #[.pointer (some ⟨gs_10, 0, none⟩)], bx g7_208 76 #[.func (.func 30) #[.pointer (some ⟨gs_10, 0, none⟩)] #[]], bx g5_208 85 #[.func (.func 36) #[] #[.pointer (some ⟨g3, 0, none⟩)]], ro 2 grC u201 (gsM ((hv_10, H_10), (qv_10, q_10)) []), bx g196 85 #[.func (.func 36) #[] #[.pointer (some ⟨g3, 0, none⟩)]], bx g154 73 #[.pointer (some ⟨gs_10, 0, none⟩)], bx g7 28 #[.int .i64 0], bx g6 3 #[.int .i64 0], bx g5 37 #[(.slice none 0 0)], bx g4 62 #[u201], bx g3 25 #[fv]]) (fr := (mT gs_10 75 (lgN C N Z K Q) ((hv_10, H_10), (qv_10, q_10)) [] :: [])) (by have q0 : c210 = ro 3 anC (.slice none 0 0) ([].map fun x : ME => x.2.1) := hc210; have q1 : cb4_208 = bx g4_208 24 #[lv] := hcb4_208; have q2 : cb3_208 = bx g3_208 73 #[.pointer (some ⟨gs_10, 0, none⟩)] := hcb3_208; have q3 : cb7_208 = bx g7_208 76 #[.func (.func 30) #[.pointer (some ⟨gs_10, 0, none⟩)] #[]] := hcb7_208; have q4 : cb5_208 = bx g5_208 85 #[.func (.func 36) #[] #[.pointer (some ⟨g3, 0, none⟩)]] := hcb5_208; have q5 : c201r = ro 2 grC u201 (gsM ((hv_10, H_10), (qv_10, q_10)) []) := hc201r; have q6 : c197 = bx g196 85 #[.func (.func 36) #[] #[.pointer (some ⟨g3, 0, none⟩)]] := hc197; have q7 : c155_168 = bx g154 73 #[.pointer (some ⟨gs_10, 0, none⟩)] := hc155_168; have q8 : c157_168 = bx g7 28 #[.int .i64 0] := hc157_168; have q9 : c156_168 = bx g6 3 #[.int .i64 0] := hc156_168; have q10 : c5_168 = bx g5 37 #[(.slice none 0 0)] := hc5_168; have q11 : c203 = bx g4 62 #[u201] := hc203; have q12 : c3_168 = bx g3 25 #[fv] := hc3_168; have q13 := hct213; subst q0 q1 q2 q3 q4 q5 q6 q7 q8 q9 q10 q11 q12 q13; exact S214) ⟨u201, (.slice none 0 0), rfl, rfl⟩)
  (fun pre W l' hS => by obtain ⟨l, ⟨gv, av, hz, rfl⟩, hl⟩ := pk_at (hS.ch 0 V); exact ⟨(hl 1 _ V), hS.ro h_lv, (hl 2 _ V), (hl 3 _ V), (hl 4 _ V), (hl 12 _ V), hS.ro h_fv⟩)
  (fun x a' cQ => ∃ g218 : Nat, SzN a' 81 ∧ a'.defers = [] ∧ EV a' (.tmp 6) = EV A209 (.tmp 6) ∧ EV a' (.tmp 7) = EV A209 (.tmp 7) ∧ EV a' (.tmp 8) = EV A209 (.tmp 8) ∧ EV a' (.tmp 9) = EV A209 (.tmp 9) ∧ EV a' (.tmp 10) = EV A209 (.tmp 10) ∧ EV a' (.tmp 14) = EV A209 (.tmp 14) ∧ EV a' (.tmp 15) = .int .i64 (x.1) ∧ EV a' (.tmp 16) = .pointer (some ⟨g218, 0, none⟩) ∧ cQ = pk (·= [bx g218 44 #[.int .i64 (x.2.1.e), .bool (x.2.1.t), .int .u64 (x.2.1.v)]])) ?_ ?_ ?_ ?_
 ·intro la211 pre x wa211 fr K hSa211 hK
  simp only [Ml.encM]
  rw [rnd2]
  obtain ⟨A215, E215⟩ : ∃ A, A = (PT (PT { tmps := A209.tmps, defers := [] } 57 (.int .i64 x.1)) 58 (.agg #[.int .i64 x.2.1.e, .bool x.2.1.t, .int .u64 x.2.1.v])) := ⟨_, rfl⟩
  rw [← E215]
  have Y215 := szq E215
  have hdf215 : A215.defers = [] := by rw [E215]; rfl
  have l6_215 := lookE E215 6 (es2 V (rnd_l (fg10 F209)))
  have l7_215 := lookE E215 7 (es2 V (rnd_l (fg9 F209)))
  have l8_215 := lookE E215 8 (es2 V (rnd_l (fg8 F209)))
  have l9_215 := lookE E215 9 (es2 V (rnd_l (fg7 F209)))
  have l10_215 := lookE E215 10 (es2 V (rnd_l (fg6 F209)))
  have l14_215 := lookE E215 14 (es2 V (rnd_l (fg1 F209)))
  have l57_215 := lookE E215 57 (es V (et V))
  have l58_215 := lookE E215 58 (et V)
  clear E215
  obtain ⟨cI, hcI, hSa211⟩ := gen1 hSa211
  refine R_seq (fun K216 H216 => ?_)
  refine R_region (by kernel_rfl) ?_
  refine W_v V V (V_asg V l57_215) (W_end (Qo_normal ?_))
  refine gen_Q (fun A217 E217 => ?_)
  have Y217 := szq E217
  have F217 := (((((((fsE E217 (ck (FS.n hdf215) V V)).c (lookE E217 6 (es V l6_215))).c (lookE E217 7 (es V l7_215))).c (lookE E217 8 (es V l8_215))).c (lookE E217 9 (es V l9_215))).c (lookE E217 10 (es V l10_215))).c (lookE E217 14 (es V l14_215))).c (lookE E217 58 (es V l58_215))
  clear E217 Y215 hdf215 l6_215 l7_215 l8_215 l9_215 l10_215 l14_215 l57_215 l58_215
  refine tk H216 ?_
  refine R_region (by kernel_rfl) ?_
  refine W_allocS (z := .agg #[.int .i64 0, .bool false, .int .u64 0]) (zs := #[.int .i64 0, .bool false, .int .u64 0]) hSa211 V V V (by kernel_rfl) (by rfl) (fun g218 w218 c218 hc218 S218 => ?_)
  replace S218 : St w NoX (c218 :: cI :: fr) w218 := S218
  refine xsA 0 S218 V hc218 V V V (et V) (es V (fg0 F217)) (fun w219 c219 hc219 S219 => ?_)
  replace S219 : St w NoX (c219 :: cI :: fr) w219 := S219
  refine W_end (Qo_normal ?_)
  refine gen_Q (fun A220 E220 => ?_)
  have Y220 := szq E220
  have F220 := fsE E220 (ck F217 V V)
  clear E220 Y217 F217
  refine then_n ?_
  refine hK _ _ _ ⟨g218, Y220, F220.d, ((fg7 F220).trans (fg10 F209).symm), ((fg6 F220).trans (fg9 F209).symm), ((fg5 F220).trans (fg8 F209).symm), ((fg4 F220).trans (fg7 F209).symm), ((fg3 F220).trans (fg6 F209).symm), ((fg2 F220).trans (fg1 F209).symm), (fg8 F220), (fg0 F220), rfl⟩ ?_
  subst hc219 hcI; exact S219.asg1
 ·rintro lb221 pre x A221 w221 cQ fr hAx hlr S221 hVd
  obtain ⟨g218, Y221, hdf221, u6_221, u7_221, u8_221, u9_221, u10_221, u14_221, l15_221, l16_221, rfl⟩ := hAx
  have l6_221 := u6_221.trans (fg10 F209)
  have l7_221 := u7_221.trans (fg9 F209)
  have l8_221 := u8_221.trans (fg8 F209)
  have l9_221 := u9_221.trans (fg7 F209)
  have l10_221 := u10_221.trans (fg6 F209)
  have l14_221 := u14_221.trans (fg1 F209)
  obtain ⟨_, _, ⟨gv, av, hz, rfl⟩, rfl, S221⟩ := S221.body2
  replace S221 : St w NoX ((ro 3 anC av (pre.map fun x : ME => x.2.1)) :: (bx g4_208 24 #[lv]) :: (bx g3_208 73 #[.pointer (some ⟨gs_10, 0, none⟩)]) :: (bx g7_208 76 #[.func (.func 30) #[.pointer (some ⟨gs_10, 0, none⟩)] #[]]) :: (bx g5_208 85 #[.func (.func 36) #[] #[.pointer (some ⟨g3, 0, none⟩)]]) :: (ro 2 grC gv (gsM ((hv_10, H_10), (qv_10, q_10)) pre)) :: (bx g196 85 #[.func (.func 36) #[] #[.pointer (some ⟨g3, 0, none⟩)]]) :: (bx g154 73 #[.pointer (some ⟨gs_10, 0, none⟩)]) :: (bx g7 28 #[.int .i64 0]) :: (bx g6 3 #[.int .i64 0]) :: (bx g5 37 #[av]) :: (bx g4 62 #[gv]) :: (bx g3 25 #[fv]) :: (bx g218 44 #[.int .i64 (x.2.1.e), .bool (x.2.1.t), .int .u64 (x.2.1.v)]) :: (mT gs_10 75 (lgN C N Z K Q) ((hv_10, H_10), (qv_10, q_10)) (pre ++ [x])) :: fr) w221 := S221
  obtain ⟨c210_222, cb4_222, cb3_222, cb7_222, cb5_222, c201r_222, c197_222, c155_222, c157_222, c156_222, c5_222, c203_222, c3_222, c219_222, ct_222, hc210_222, hcb4_222, hcb3_222, hcb7_222, hcb5_222, hc201r_222, hc197_222, hc155_222, hc157_222, hc156_222, hc5_222, hc203_222, hc3_222, hc219_222, hct_222, S221⟩ := gen15 S221
  have S223 : St w NoX (c210_222 :: ct_222 :: cb4_222 :: cb3_222 :: cb7_222 :: cb5_222 :: c201r_222 :: c197_222 :: c155_222 :: c157_222 :: c156_222 :: c5_222 :: c203_222 :: c3_222 :: c219_222 :: fr) w221 := St.selR (l := [c210_222, cb4_222, cb3_222, cb7_222, cb5_222, c201r_222, c197_222, c155_222, c157_222, c156_222, c5_222, c203_222, c3_222, c219_222, ct_222]) (l' := [c210_222, ct_222, cb4_222, cb3_222, cb7_222, cb5_222, c201r_222, c197_222, c155_222, c157_222, c156_222, c5_222, c203_222, c3_222, c219_222]) (fr := fr) S221 [0, 14, 1, 2, 3, 4, 5, 6, 7, 8, 9, 10, 11, 12, 13] (by decide) (by rfl) V
  obtain ⟨cb224, ck224, hcb224, hck224, S224⟩ := mT_open (hct_222 ▸ S223)
  rw [lastG_app] at hcb224
  replace S224 : St w NoX (c210_222 :: cb224 :: ck224 :: cb4_222 :: cb3_222 :: cb7_222 :: cb5_222 :: c201r_222 :: c197_222 :: c155_222 :: c157_222 :: c156_222 :: c5_222 :: c203_222 :: c3_222 :: c219_222 :: fr) w221 := S224
  have hpl : pre.length + 1 ≤ os.length := by have := hVd.len; simpa using this
  have hgl : (gsM ((hv_10, H_10), (qv_10, q_10)) pre).length = pre.length + 1 := by simp [gsM]
  refine R_block ?_
  refine R_seq (fun K225 H225 => ?_)
  refine R_seq (fun K226 H226 => ?_)
  refine R_mid (G := fun A' w' => SzN A' 81 ∧ A'.defers = [] ∧ (EV A' (.tmp 6) = EV A221 (.tmp 6)) ∧ (EV A' (.tmp 7) = EV A221 (.tmp 7)) ∧ (EV A' (.tmp 8) = EV A221 (.tmp 8)) ∧ (EV A' (.tmp 9) = EV A221 (.tmp 9)) ∧ (EV A' (.tmp 10) = EV A221 (.tmp 10)) ∧ (EV A' (.tmp 15) = EV A221 (.tmp 15)) ∧ (EV A' (.tmp 16) = EV A221 (.tmp 16)) ∧ (EV A' (.tmp 66) = .bool (decide ((x.1 ∈ full) ∧ (x.2.1.e ≠ 5)))) ∧ St w NoX (c210_222 :: cb224 :: ck224 :: cb4_222 :: cb3_222 :: cb7_222 :: cb5_222 :: c201r_222 :: c197_222 :: c155_222 :: c157_222 :: c156_222 :: c5_222 :: c203_222 :: c3_222 :: c219_222 :: fr) w') ?_ ?_
  ·have j6_227 := l6_221
   have j7_227 := l7_221
   have j8_227 := l8_221
   have j9_227 := l9_221
   have j10_227 := l10_221
   have j15_227 := l15_221
   have j16_227 := l16_221
   refine R_region (by kernel_rfl) ?_
   refine W_r V V (xlC (v := .func (.func 36) #[] #[.pointer (some ⟨g3, 0, none⟩)]) V l14_221 (S224.obj 8 V hc197_222) Try.underlying85) ?_
   refine W_v V V (V_mov V (es V l15_221)) ?_
   refine W_callV V V V (es V (et V)) Try.func36 (by kernel_rfl) V (args1 (et V)) (kp1_c (i := x.1) (gfv := g3) (S224.chC 14 V hc3_222) (S224.roC h_fv) (by first | with_reducible assumption) (by first | with_reducible assumption | omega)) ?_
   rintro _ w228 ⟨rfl, hP228⟩
   refine ⟨_, rfl, ?_⟩
   have S228 := S224.join hP228
   replace S228 : St w NoX (c210_222 :: cb224 :: ck224 :: cb4_222 :: cb3_222 :: cb7_222 :: cb5_222 :: c201r_222 :: c197_222 :: c155_222 :: c157_222 :: c156_222 :: c5_222 :: c203_222 :: c3_222 :: c219_222 :: fr) w228 := S228
   refine W_split V V (V_mov V (et V)) (fun c229 => ?_) (fun c229 => ?_)
   ·refine W_v V (xwt V V (et V)) (V_fa (off' := 0) V (es4 V l16_221) Try.underlying44 V (by decide +kernel) V) ?_
    refine W_r V (xwt V V (es V (et V))) (xlC (v := .int .i64 (x.2.1.e)) V (et V) (S228.obj 15 V hc219_222) Try.underlying28) ?_
    refine W_v V (xwt V V (es2 V (et V))) (V_neq V (et V) V) ?_
    refine W_v V V (V_pickT V (es3 V (et V)) (et V)) ?_
    refine W_end (Qo_normal ?_)
    refine gen_Q (fun A230 E230 => ?_)
    have Y230 := szq E230
    have F230 := (((((((fsE E230 (ck (cq7 (FS.n hdf221) V) V V)).c (lookE E230 6 (es8 V l6_221))).c (lookE E230 7 (es8 V l7_221))).c (lookE E230 8 (es8 V l8_221))).c (lookE E230 9 (es8 V l9_221))).c (lookE E230 10 (es8 V l10_221))).c (lookE E230 15 (es8 V l15_221))).c (lookE E230 16 (es8 V l16_221))
    clear E230 Y221 hdf221 l6_221 l7_221 l8_221 l9_221 l10_221 l14_221 l15_221 l16_221
    exact Mid_n ⟨Y230, F230.d, ((fg6 F230).trans j6_227.symm), ((fg5 F230).trans j7_227.symm), ((fg4 F230).trans j8_227.symm), ((fg3 F230).trans j9_227.symm), ((fg2 F230).trans j10_227.symm), ((fg1 F230).trans j15_227.symm), ((fg0 F230).trans j16_227.symm), ((fg7 F230).trans (congrArg Value.bool (decide_eq_decide.2 ⟨fun q => ⟨c229, q⟩, fun q => q.2⟩))), S228⟩
   refine xof V V V (et V) (xof V V V (es V (et V)) (xof V V V (es2 V (et V)) ?_))
   refine W_v V V (V_pickF V (es3 V (et V)) V) ?_
   refine W_end (Qo_normal ?_)
   refine gen_Q (fun A231 E231 => ?_)
   have Y231 := szq E231
   have F231 := (((((((fsE E231 (ck (cq7 (FS.n hdf221) V) V V)).c (lookE E231 6 (es8 V l6_221))).c (lookE E231 7 (es8 V l7_221))).c (lookE E231 8 (es8 V l8_221))).c (lookE E231 9 (es8 V l9_221))).c (lookE E231 10 (es8 V l10_221))).c (lookE E231 15 (es8 V l15_221))).c (lookE E231 16 (es8 V l16_221))
   clear E231 Y221 hdf221 l6_221 l7_221 l8_221 l9_221 l10_221 l14_221 l15_221 l16_221
   exact Mid_n ⟨Y231, F231.d, ((fg6 F231).trans j6_227.symm), ((fg5 F231).trans j7_227.symm), ((fg4 F231).trans j8_227.symm), ((fg3 F231).trans j9_227.symm), ((fg2 F231).trans j10_227.symm), ((fg1 F231).trans j15_227.symm), ((fg0 F231).trans j16_227.symm), ((fg7 F231).trans (congrArg Value.bool ((decide_eq_false (fun q => c229 q.1)).symm))), S228⟩
  rintro A227 w227 ⟨Y227, hdf227, u6_227, u7_227, u8_227, u9_227, u10_227, u15_227, u16_227, l66_227, S227⟩
  have l6_227 := u6_227.trans l6_221
  have l7_227 := u7_227.trans l7_221
  have l8_227 := u8_227.trans l8_221
  have l9_227 := u9_227.trans l9_221
  have l10_227 := u10_227.trans l10_221
  have l15_227 := u15_227.trans l15_221
  have l16_227 := u16_227.trans l16_221
  refine tk H226 ?_
  refine R_cond_dec l66_227 (fun c232 => ?_) (fun c232 => ?_)
  ·refine R_seq (fun K233 H233 => ?_)
   refine R_region (by kernel_rfl) ?_
   refine W_v V V (V_mov V l15_227) ?_
   refine xsC (zs' := #[.slice none 0 0]) 13 S227 V hc203_222 V V V (es V l6_227) V (by rfl) (fun w234 c234 hc234 S234 => ?_)
   replace S234 : St w NoX (c210_222 :: cb224 :: ck224 :: cb4_222 :: cb3_222 :: cb7_222 :: cb5_222 :: c201r_222 :: c197_222 :: c155_222 :: c157_222 :: c156_222 :: c5_222 :: c234 :: c3_222 :: c219_222 :: fr) w234 := S234
   refine xsC (zs' := #[.slice none 0 0]) 12 S234 V hc5_222 V V V (es V l7_227) V (by rfl) (fun w235 c235 hc235 S235 => ?_)
   replace S235 : St w NoX (c210_222 :: cb224 :: ck224 :: cb4_222 :: cb3_222 :: cb7_222 :: cb5_222 :: c201r_222 :: c197_222 :: c155_222 :: c157_222 :: c156_222 :: c235 :: c234 :: c3_222 :: c219_222 :: fr) w235 := S235
   refine xsC (zs' := #[.int .i64 (x.1)]) 11 S235 V hc156_222 V V V (es V l8_227) (et V) (by rfl) (fun w236 c236 hc236 S236 => ?_)
   replace S236 : St w NoX (c210_222 :: cb224 :: ck224 :: cb4_222 :: cb3_222 :: cb7_222 :: cb5_222 :: c201r_222 :: c197_222 :: c155_222 :: c157_222 :: c236 :: c235 :: c234 :: c3_222 :: c219_222 :: fr) w236 := S236
   refine xsC (zs' := #[.int .i64 2]) 10 S236 V hc157_222 V V V (es V l9_227) V (by rfl) (fun w237 c237 hc237 S237 => ?_)
   replace S237 : St w NoX (c210_222 :: cb224 :: ck224 :: cb4_222 :: cb3_222 :: cb7_222 :: cb5_222 :: c201r_222 :: c197_222 :: c155_222 :: c237 :: c236 :: c235 :: c234 :: c3_222 :: c219_222 :: fr) w237 := S237
   refine W_end (Qo_normal ?_)
   refine gen_Q (fun A238 E238 => ?_)
   have Y238 := szq E238
   have F238 := ((((fsE E238 (cq1 (FS.n hdf227) V)).c (lookE E238 6 (es V l6_227))).c (lookE E238 7 (es V l7_227))).c (lookE E238 8 (es V l8_227))).c (lookE E238 9 (es V l9_227))
   clear E238 Y227 hdf227 l6_227 l7_227 l8_227 l9_227 l10_227 l15_227 l16_227 l66_227
   have S240 := S237.del 15
   replace S240 : St w NoX (c210_222 :: cb224 :: ck224 :: cb4_222 :: cb3_222 :: cb7_222 :: cb5_222 :: c201r_222 :: c197_222 :: c155_222 :: c237 :: c236 :: c235 :: c234 :: c3_222 :: fr) w237 := S240
   refine tk H233 ?_
   refine R_ret ?_
   refine then_ret (inb_ret ?_)
   obtain ⟨ct241, hct241, S241⟩ := genS (mT_shut (gs := gs_10) (T := 75) (n := (lgN C N Z K Q)) (G0 := ((hv_10, H_10), (qv_10, q_10))) (pre := (pre ++ [x])) (hcb224.trans (by rw [lastG_app])) hck224 S240)
   replace S241 : St w NoX (c210_222 :: ct241 :: cb4_222 :: cb3_222 :: cb7_222 :: cb5_222 :: c201r_222 :: c197_222 :: c155_222 :: c237 :: c236 :: c235 :: c234 :: c3_222 :: fr) w237 := S241
   have S242 : St w NoX (c210_222 :: cb4_222 :: cb3_222 :: cb7_222 :: cb5_222 :: c201r_222 :: c197_222 :: c155_222 :: c237 :: c236 :: c235 :: c234 :: c3_222 :: ct241 :: fr) w237 := St.selR (l := [c210_222, ct241, cb4_222, cb3_222, cb7_222, cb5_222, c201r_222, c197_222, c155_222, c237, c236, c235, c234, c3_222]) (l' := [c210_222, cb4_222, cb3_222, cb7_222, cb5_222, c201r_222, c197_222, c155_222, c237, c236, c235, c234, c3_222, ct241]) (fr := fr) S241 [0, 2, 3, 4, 5, 6, 7, 8, 9, 10, 11, 12, 13, 1] (by decide) (by rfl) V
   exact (St.pack (l := [ro 3 anC av (pre.map fun x : ME => x.2.1), bx g4_208 24 #[lv], bx g3_208 73 #[.pointer (some ⟨gs_10, 0, none⟩)], bx g7_208 76 #[.func (.func 30) #[.pointer (some ⟨gs_10, 0, none⟩)] #[]], bx g5_208 85 #[.func (.func 36) #[] #[.pointer (some ⟨g3, 0, none⟩)]], ro 2 grC gv (gsM ((hv_10, H_10), (qv_10, q_10)) pre), bx g196 85 #[.func (.func 36) #[] #[.pointer (some ⟨g3, 0, none⟩)]], bx g154 73 #[.pointer (some ⟨gs_10, 0, none⟩)], bx g7 28 #[.int .i64 (2)], bx g6 3 #[.int .i64 (x.1)], bx g5 37 #[.slice none 0 0], bx g4 62 #[.slice none 0 0], bx g3 25 #[fv]]) (fr := (mT gs_10 75 (lgN C N Z K Q) ((hv_10, H_10), (qv_10, q_10)) (pre ++ [x]) :: fr)) (by have q0 : c210_222 = ro 3 anC av (pre.map fun x : ME => x.2.1) := hc210_222; have q1 : cb4_222 = bx g4_208 24 #[lv] := hcb4_222; have q2 : cb3_222 = bx g3_208 73 #[.pointer (some ⟨gs_10, 0, none⟩)] := hcb3_222; have q3 : cb7_222 = bx g7_208 76 #[.func (.func 30) #[.pointer (some ⟨gs_10, 0, none⟩)] #[]] := hcb7_222; have q4 : cb5_222 = bx g5_208 85 #[.func (.func 36) #[] #[.pointer (some ⟨g3, 0, none⟩)]] := hcb5_222; have q5 : c201r_222 = ro 2 grC gv (gsM ((hv_10, H_10), (qv_10, q_10)) pre) := hc201r_222; have q6 : c197_222 = bx g196 85 #[.func (.func 36) #[] #[.pointer (some ⟨g3, 0, none⟩)]] := hc197_222; have q7 : c155_222 = bx g154 73 #[.pointer (some ⟨gs_10, 0, none⟩)] := hc155_222; have q8 : c237 = bx g7 28 #[.int .i64 (2)] := hc237; have q9 : c236 = bx g6 3 #[.int .i64 (x.1)] := hc236; have q10 : c235 = bx g5 37 #[.slice none 0 0] := hc235; have q11 : c234 = bx g4 62 #[.slice none 0 0] := hc234; have q12 : c3_222 = bx g3 25 #[fv] := hc3_222; have q13 := hct241; subst q0 q1 q2 q3 q4 q5 q6 q7 q8 q9 q10 q11 q12 q13; exact S242) (⟨rfl, gv, (gsM ((hv_10, H_10), (qv_10, q_10)) pre), av, (pre.map fun x : ME => x.2.1), x.1, 2, (pl_bad hgK hVd hz c232.1 c232.2), (by decide), rfl⟩))
  refine R_skip (tk H225 ?_)
  have hll243 : [x.2.2].length = 1 := rfl
  have hll245 : [(AnC.mk x.2.1.e x.2.1.t x.2.1.v)].length = 1 := rfl
  refine R_any (by kernel_rfl) (by kernel_rfl) 13 V (fun w363 hx363 => ?_)
  have S363 := S227.grow hx363
  have S363 := pkR (l := [c210_222, cb224, ck224, cb4_222, cb3_222, cb7_222, cb5_222, c201r_222, c197_222, c155_222, c157_222, c156_222, c5_222, c203_222, c3_222, c219_222]) (fr := fr) S363
  refine AX_parL (l0 := [c210_222, cb224, ck224, cb4_222, cb3_222, cb7_222, cb5_222, c201r_222, c197_222, c155_222, c157_222, c156_222, c5_222, c203_222, c3_222, c219_222, pk (·= fr)]) (k := 2) [⟨[13], [], [68], fun vs => [], fun vs => (vs.getD 0 undef) = gv⟩, ⟨[9], [], [69], fun vs => [], fun vs => (vs.getD 0 undef) = .pointer (some ⟨gs_10, 0, none⟩)⟩, ⟨[], [], [70], fun vs => [], fun vs => (vs.getD 0 undef) = .pointer (some ⟨gs_10, 0, none⟩)⟩, ⟨[], [], [71], fun vs => [], fun vs => (vs.getD 0 undef) = .pointer (some ⟨gs_10, 0, none⟩)⟩, ⟨[1], [], [72], fun vs => [], fun vs => (vs.getD 0 undef) = .agg #[x.2.2.1.1, x.2.2.2.1]⟩, ⟨[], [17], [73], fun vs => [ro 2 grC (vs.getD 0 undef) [x.2.2]], fun vs => True⟩, ⟨[17, 2], [7], [74], fun vs => [ro 2 grC (vs.getD 0 undef) ((gsM ((hv_10, H_10), (qv_10, q_10)) pre) ++ [x.2.2])], fun vs => True⟩, ⟨[12], [], [75], fun vs => [], fun vs => (vs.getD 0 undef) = av⟩, ⟨[15], [], [76], fun vs => [], fun vs => (vs.getD 0 undef) = .agg #[.int .i64 (x.2.1.e), .bool (x.2.1.t), .int .u64 (x.2.1.v)]⟩, ⟨[], [18], [77], fun vs => [ro 3 anC (vs.getD 0 undef) [(AnC.mk x.2.1.e x.2.1.t x.2.1.v)]], fun vs => True⟩, ⟨[18], [0], [78], fun vs => [ro 3 anC (vs.getD 0 undef) ((pre.map fun x : ME => x.2.1) ++ [(AnC.mk x.2.1.e x.2.1.t x.2.1.v)])], fun vs => True⟩, ⟨[7], [13], [74], fun vs => [bx g4 62 #[(vs.getD 0 undef)]], fun vs => True⟩, ⟨[0], [12], [78], fun vs => [bx g5 37 #[(vs.getD 0 undef)]], fun vs => True⟩] [c210_222, cb224, ck224, cb4_222, cb3_222, cb7_222, cb5_222, c201r_222, c197_222, c155_222, c157_222, c156_222, c5_222, c203_222, c3_222, c219_222, pk (·= fr), pu True, pu True] S363 V (by kernel_rfl) V ⟨?_, ?_, ?_, ?_, ?_, ?_, ?_, ?_, ?_, ?_, ?_, ?_, ?_, trivial⟩ ?_
  ·refine stepI [] (fun vs => [c203_222]) V (fun a => by kernel_rfl) ?_
   intro A364 w364 rst hFr hF S364
   replace S364 : St w NoX [c203_222, rst] w364 := S364
   have Y364 : SzN A364 81 := ⟨hFr.sz.trans Y227.out⟩
   have hdf364 : A364.defers = [] := hFr.df.trans hdf227
   have l6_364 := (oldS hFr 6 (by kernel_rfl)).trans l6_227
   obtain ⟨c203_364, hc203_364, S364⟩ := gen1 S364
   replace hc203_364 := hc203_364.trans hc203_222
   refine W_r V V (xlC (v := gv) V l6_364 (S364.obj 0 V hc203_364) Try.underlying62) ?_
   refine W_end (kq _ ?_)
   exact ⟨_, [gv], rfl, ts1 (et V), rfl, rfl, by subst hc203_364 hc203_222; exact S364⟩
  ·refine stepI [] (fun vs => [c155_222]) V (fun a => by kernel_rfl) ?_
   intro A365 w365 rst hFr hF S365
   replace S365 : St w NoX [c155_222, rst] w365 := S365
   have Y365 : SzN A365 81 := ⟨hFr.sz.trans Y227.out⟩
   have hdf365 : A365.defers = [] := hFr.df.trans hdf227
   have l10_365 := (oldS hFr 10 (by kernel_rfl)).trans l10_227
   obtain ⟨c155_365, hc155_365, S365⟩ := gen1 S365
   replace hc155_365 := hc155_365.trans hc155_222
   refine W_r V V (xlC (v := .pointer (some ⟨gs_10, 0, none⟩)) V l10_365 (S365.obj 0 V hc155_365) Try.underlying73) ?_
   refine W_end (kq _ ?_)
   exact ⟨_, [.pointer (some ⟨gs_10, 0, none⟩)], rfl, ts1 (et V), rfl, rfl, by subst hc155_365 hc155_222; exact S365⟩
  ·refine stepI [] (fun vs => []) V (fun a => by kernel_rfl) ?_
   intro A366 w366 rst hFr hF S366
   replace S366 : St w NoX [rst] w366 := S366
   have f69_366 : EV A366 (.tmp 69) = .pointer (some ⟨gs_10, 0, none⟩) := hF 1 (by kernel_rfl)
   generalize q69_366 : EV A366 (.tmp 69) = us69 at S366 f69_366
   have l69_366 := q69_366.trans f69_366
   have Y366 : SzN A366 81 := ⟨hFr.sz.trans Y227.out⟩
   have hdf366 : A366.defers = [] := hFr.df.trans hdf227
   refine W_v V V (V_nil V l69_366) ?_
   refine W_end (kq _ ?_)
   subst q69_366
   exact ⟨_, [.pointer (some ⟨gs_10, 0, none⟩)], rfl, ts1 (et V), rfl, rfl, S366⟩
  ·refine stepI [] (fun vs => []) V (fun a => by kernel_rfl) ?_
   intro A367 w367 rst hFr hF S367
   replace S367 : St w NoX [rst] w367 := S367
   have f70_367 : EV A367 (.tmp 70) = .pointer (some ⟨gs_10, 0, none⟩) := hF 2 (by kernel_rfl)
   generalize q70_367 : EV A367 (.tmp 70) = us70 at S367 f70_367
   have l70_367 := q70_367.trans f70_367
   have Y367 : SzN A367 81 := ⟨hFr.sz.trans Y227.out⟩
   have hdf367 : A367.defers = [] := hFr.df.trans hdf227
   refine W_v V V (V_fa (off' := 0) V l70_367 Try.underlying75 V (by decide +kernel) V) ?_
   refine W_end (kq _ ?_)
   subst q70_367
   exact ⟨_, [.pointer (some ⟨gs_10, 0, none⟩)], rfl, ts1 (et V), rfl, rfl, S367⟩
  ·refine stepI [] (fun vs => [cb224]) V (fun a => by kernel_rfl) ?_
   intro A368 w368 rst hFr hF S368
   replace S368 : St w NoX [cb224, rst] w368 := S368
   have f71_368 : EV A368 (.tmp 71) = .pointer (some ⟨gs_10, 0, none⟩) := hF 3 (by kernel_rfl)
   generalize q71_368 : EV A368 (.tmp 71) = us71 at S368 f71_368
   have l71_368 := q71_368.trans f71_368
   have Y368 : SzN A368 81 := ⟨hFr.sz.trans Y227.out⟩
   have hdf368 : A368.defers = [] := hFr.df.trans hdf227
   obtain ⟨cb224_368, hcb224_368, S368⟩ := gen1 S368
   replace hcb224_368 := hcb224_368.trans hcb224
   refine W_r V V (VR_ldP (ys := [x.2.2.1.1, x.2.2.2.1]) V l71_368 (S368.obj 0 V hcb224_368) (ldP_at V) Try.underlying36 V (by kernel_rfl)) ?_
   refine W_end (kq _ ?_)
   subst q71_368
   exact ⟨_, [.agg #[x.2.2.1.1, x.2.2.2.1]], rfl, ts1 (et V), rfl, rfl, by subst hcb224_368 hcb224; exact S368⟩
  ·refine stepI [] (fun vs => [pu True]) V (fun a => by kernel_rfl) ?_
   intro A369 w369 rst hFr hF S369
   replace S369 : St w NoX [pu True, rst] w369 := S369
   have f72_369 : EV A369 (.tmp 72) = .agg #[x.2.2.1.1, x.2.2.2.1] := hF 4 (by kernel_rfl)
   generalize q72_369 : EV A369 (.tmp 72) = us72 at S369 f72_369
   have l72_369 := q72_369.trans f72_369
   have Y369 : SzN A369 81 := ⟨hFr.sz.trans Y227.out⟩
   have hdf369 : A369.defers = [] := hFr.df.trans hdf227
   obtain ⟨cz_369, hcz_369, S369⟩ := gen1 S369
   have hll370 : [x.2.2].length = 1 := rfl
   refine xsL (vs := [.agg #[x.2.2.1.1, x.2.2.2.1]]) (xs := ([x.2.2].flatMap grC)) 2 S369 V V V (parts1 l72_369) Try.underlying62 (fun g370 w370 c370 hc370 S370 => ?_)
   replace hc370 : c370 = ro 2 grC (.slice (some ⟨g370, 0, none⟩) 1 1) [x.2.2] := hc370
   replace S370 : St w NoX (c370 :: cz_369 :: [rst]) w370 := S370
   refine W_end (kq _ ?_)
   have S372 := S370.del 1
   replace S372 : St w NoX (c370 :: [rst]) w370 := S372
   subst q72_369
   exact ⟨_, [(.slice (some ⟨g370, 0, none⟩) 1 1)], rfl, ts1 (et V), trivial, rfl, by subst hc370; exact S372⟩
  ·refine stepI [73] (fun vs => [ro 2 grC (vs.getD 0 undef) [x.2.2], ck224, c201r_222]) V (fun a => by kernel_rfl) ?_
   intro A373 w373 rst hFr hF S373
   replace S373 : St w NoX [ro 2 grC (EV A373 (.tmp 73)) [x.2.2], ck224, c201r_222, rst] w373 := S373
   have f68_373 : EV A373 (.tmp 68) = gv := hF 0 (by kernel_rfl)
   generalize q68_373 : EV A373 (.tmp 68) = us68 at S373 f68_373
   generalize q73_373 : EV A373 (.tmp 73) = us73 at S373 f68_373
   have l68_373 := q68_373.trans f68_373
   have l73_373 := q73_373
   have Y373 : SzN A373 81 := ⟨hFr.sz.trans Y227.out⟩
   have hdf373 : A373.defers = [] := hFr.df.trans hdf227
   obtain ⟨c303_373, ck224_373, c201r_373, hc303_373, hck224_373, hc201r_373, S373⟩ := gen3 S373
   replace hck224_373 := hck224_373.trans hck224
   replace hc201r_373 := hc201r_373.trans hc201r_222
   refine W_appS 2 2 S373 V hc201r_373 V V V l68_373 l73_373 Try.underlying62 Try.underlying62 (z := .agg #[.slice none 0 0, .slice none 0 0]) (bytes := 48) (by kernel_rfl) V (by decide) (ow_at (S373.chq 0 V hc303_373)) (by intro u hu; simp only [List.flatMap_cons, List.flatMap_nil, grC, List.append_nil, List.cons_append, List.nil_append, List.mem_cons, List.not_mem_nil, or_false] at hu; rcases hu with rfl | rfl <;> first | exact SlN_one (sl_SlN (gl_oa gsM_last (S373.chq 1 V hck224_373))) | exact SlN_one (sl_SlN (gl_ra gsM_last (S373.chq 1 V hck224_373)))) (by first | omega | (simp; done) | (simp; omega)) (by first | omega | (simp; done) | (simp; omega)) (fun v374 w374 c374 hc374 S374 => ?_)
   replace hc374 : c374 = ro 2 grC v374 ((gsM ((hv_10, H_10), (qv_10, q_10)) pre) ++ [x.2.2]) := hc374.trans (app_eqR (by first | (simp; done) | (rw [List.take_of_length_le (l := List.drop _ _) (by rw [List.length_drop]; exact Nat.le_refl _)])))
   replace S374 : St w NoX (c303_373 :: ck224_373 :: c374 :: [rst]) w374 := S374
   refine W_end (kq _ ?_)
   subst q68_373 q73_373
   exact ⟨_, [v374], rfl, ts1 (et V), trivial, rfl, by subst hc303_373 hck224_373 hc374 hck224 hc201r_222; exact S374⟩
  ·refine stepI [] (fun vs => [c5_222]) V (fun a => by kernel_rfl) ?_
   intro A375 w375 rst hFr hF S375
   replace S375 : St w NoX [c5_222, rst] w375 := S375
   have Y375 : SzN A375 81 := ⟨hFr.sz.trans Y227.out⟩
   have hdf375 : A375.defers = [] := hFr.df.trans hdf227
   have l7_375 := (oldS hFr 7 (by kernel_rfl)).trans l7_227
   obtain ⟨c5_375, hc5_375, S375⟩ := gen1 S375
   replace hc5_375 := hc5_375.trans hc5_222
   refine W_r V V (xlC (v := av) V l7_375 (S375.obj 0 V hc5_375) Try.underlying37) ?_
   refine W_end (kq _ ?_)
   exact ⟨_, [av], rfl, ts1 (et V), rfl, rfl, by subst hc5_375 hc5_222; exact S375⟩
  ·refine stepI [] (fun vs => [c219_222]) V (fun a => by kernel_rfl) ?_
   intro A376 w376 rst hFr hF S376
   replace S376 : St w NoX [c219_222, rst] w376 := S376
   have Y376 : SzN A376 81 := ⟨hFr.sz.trans Y227.out⟩
   have hdf376 : A376.defers = [] := hFr.df.trans hdf227
   have l16_376 := (oldS hFr 16 (by kernel_rfl)).trans l16_227
   obtain ⟨c219_376, hc219_376, S376⟩ := gen1 S376
   replace hc219_376 := hc219_376.trans hc219_222
   refine W_r V V (VR_ldA V l16_376 (S376.obj 0 V hc219_376) Try.underlying44 V (by kernel_rfl)) ?_
   refine W_end (kq _ ?_)
   exact ⟨_, [.agg #[.int .i64 (x.2.1.e), .bool (x.2.1.t), .int .u64 (x.2.1.v)]], rfl, ts1 (et V), rfl, rfl, by subst hc219_376 hc219_222; exact S376⟩
  ·refine stepI [] (fun vs => [pu True]) V (fun a => by kernel_rfl) ?_
   intro A377 w377 rst hFr hF S377
   replace S377 : St w NoX [pu True, rst] w377 := S377
   have f76_377 : EV A377 (.tmp 76) = .agg #[.int .i64 (x.2.1.e), .bool (x.2.1.t), .int .u64 (x.2.1.v)] := hF 8 (by kernel_rfl)
   generalize q76_377 : EV A377 (.tmp 76) = us76 at S377 f76_377
   have l76_377 := q76_377.trans f76_377
   have Y377 : SzN A377 81 := ⟨hFr.sz.trans Y227.out⟩
   have hdf377 : A377.defers = [] := hFr.df.trans hdf227
   obtain ⟨cz_377, hcz_377, S377⟩ := gen1 S377
   have hll378 : [(AnC.mk x.2.1.e x.2.1.t x.2.1.v)].length = 1 := rfl
   refine xsL (vs := [.agg #[.int .i64 (x.2.1.e), .bool (x.2.1.t), .int .u64 (x.2.1.v)]]) (xs := ([(AnC.mk x.2.1.e x.2.1.t x.2.1.v)].flatMap anC)) 3 S377 V V V (parts1 l76_377) Try.underlying37 (fun g378 w378 c378 hc378 S378 => ?_)
   replace hc378 : c378 = ro 3 anC (.slice (some ⟨g378, 0, none⟩) 1 1) [(AnC.mk x.2.1.e x.2.1.t x.2.1.v)] := hc378
   replace S378 : St w NoX (c378 :: cz_377 :: [rst]) w378 := S378
   refine W_end (kq _ ?_)
   have S380 := S378.del 1
   replace S380 : St w NoX (c378 :: [rst]) w378 := S380
   subst q76_377
   exact ⟨_, [(.slice (some ⟨g378, 0, none⟩) 1 1)], rfl, ts1 (et V), trivial, rfl, by subst hc378; exact S380⟩
  ·refine stepI [77] (fun vs => [ro 3 anC (vs.getD 0 undef) [(AnC.mk x.2.1.e x.2.1.t x.2.1.v)], c210_222]) V (fun a => by kernel_rfl) ?_
   intro A381 w381 rst hFr hF S381
   replace S381 : St w NoX [ro 3 anC (EV A381 (.tmp 77)) [(AnC.mk x.2.1.e x.2.1.t x.2.1.v)], c210_222, rst] w381 := S381
   have f75_381 : EV A381 (.tmp 75) = av := hF 7 (by kernel_rfl)
   generalize q75_381 : EV A381 (.tmp 75) = us75 at S381 f75_381
   generalize q77_381 : EV A381 (.tmp 77) = us77 at S381 f75_381
   have l75_381 := q75_381.trans f75_381
   have l77_381 := q77_381
   have Y381 : SzN A381 81 := ⟨hFr.sz.trans Y227.out⟩
   have hdf381 : A381.defers = [] := hFr.df.trans hdf227
   obtain ⟨c305_381, c210_381, hc305_381, hc210_381, S381⟩ := gen2 S381
   replace hc210_381 := hc210_381.trans hc210_222
   refine W_appS 3 1 S381 V hc210_381 V V V l75_381 l77_381 Try.underlying37 Try.underlying37 (z := .agg #[.int .i64 0, .bool false, .int .u64 0]) (bytes := 24) (by kernel_rfl) V (by decide) (ow_at (S381.chq 0 V hc305_381)) (ones_r anC_one) (by first | omega | (simp; done) | (simp; omega)) (by first | omega | (simp; done) | (simp; omega)) (fun v382 w382 c382 hc382 S382 => ?_)
   replace hc382 : c382 = ro 3 anC v382 ((pre.map fun x : ME => x.2.1) ++ [(AnC.mk x.2.1.e x.2.1.t x.2.1.v)]) := hc382.trans (app_eqR (by first | (simp; done) | (rw [List.take_of_length_le (l := List.drop _ _) (by rw [List.length_drop]; exact Nat.le_refl _)])))
   replace S382 : St w NoX (c305_381 :: c382 :: [rst]) w382 := S382
   refine W_end (kq _ ?_)
   subst q75_381 q77_381
   exact ⟨_, [v382], rfl, ts1 (et V), trivial, rfl, by subst hc305_381 hc382 hc210_222; exact S382⟩
  ·refine stepI [74] (fun vs => [ro 2 grC (vs.getD 0 undef) ((gsM ((hv_10, H_10), (qv_10, q_10)) pre) ++ [x.2.2]), c203_222]) V (fun a => by kernel_rfl) ?_
   intro A383 w383 rst hFr hF S383
   replace S383 : St w NoX [ro 2 grC (EV A383 (.tmp 74)) ((gsM ((hv_10, H_10), (qv_10, q_10)) pre) ++ [x.2.2]), c203_222, rst] w383 := S383
   generalize q74_383 : EV A383 (.tmp 74) = us74 at S383
   have l74_383 := q74_383
   have Y383 : SzN A383 81 := ⟨hFr.sz.trans Y227.out⟩
   have hdf383 : A383.defers = [] := hFr.df.trans hdf227
   have l6_383 := (oldS hFr 6 (by kernel_rfl)).trans l6_227
   obtain ⟨c304_383, c203_383, hc304_383, hc203_383, S383⟩ := gen2 S383
   replace hc203_383 := hc203_383.trans hc203_222
   refine xsC (zs' := #[us74]) 1 S383 V hc203_383 V V V l6_383 l74_383 (SlN_one (ow_at (S383.chq 0 V hc304_383))) (fun w384 c384 hc384 S384 => ?_)
   replace S384 : St w NoX (c304_383 :: c384 :: [rst]) w384 := S384
   refine W_end (kq _ ?_)
   subst q74_383
   exact ⟨undef, [EV A383 (.tmp 74)], rfl, ts1 rfl, trivial, rfl, by subst hc304_383 hc384 hc203_222; exact S384⟩
  ·refine stepI [78] (fun vs => [ro 3 anC (vs.getD 0 undef) ((pre.map fun x : ME => x.2.1) ++ [(AnC.mk x.2.1.e x.2.1.t x.2.1.v)]), c5_222]) V (fun a => by kernel_rfl) ?_
   intro A385 w385 rst hFr hF S385
   replace S385 : St w NoX [ro 3 anC (EV A385 (.tmp 78)) ((pre.map fun x : ME => x.2.1) ++ [(AnC.mk x.2.1.e x.2.1.t x.2.1.v)]), c5_222, rst] w385 := S385
   generalize q78_385 : EV A385 (.tmp 78) = us78 at S385
   have l78_385 := q78_385
   have Y385 : SzN A385 81 := ⟨hFr.sz.trans Y227.out⟩
   have hdf385 : A385.defers = [] := hFr.df.trans hdf227
   have l7_385 := (oldS hFr 7 (by kernel_rfl)).trans l7_227
   obtain ⟨c306_385, c5_385, hc306_385, hc5_385, S385⟩ := gen2 S385
   replace hc5_385 := hc5_385.trans hc5_222
   refine xsC (zs' := #[us78]) 1 S385 V hc5_385 V V V l7_385 l78_385 (SlN_one (ow_at (S385.chq 0 V hc306_385))) (fun w386 c386 hc386 S386 => ?_)
   replace S386 : St w NoX (c306_385 :: c386 :: [rst]) w386 := S386
   refine W_end (kq _ ?_)
   subst q78_385
   exact ⟨undef, [EV A385 (.tmp 78)], rfl, ts1 rfl, trivial, rfl, by subst hc306_385 hc386 hc5_222; exact S386⟩
  intro A387 w387 hFr hF S387
  replace S387 : St w NoX [ro 3 anC (EV A387 (.tmp 78)) ((pre.map fun x : ME => x.2.1) ++ [(AnC.mk x.2.1.e x.2.1.t x.2.1.v)]), cb224, ck224, cb4_222, cb3_222, cb7_222, cb5_222, ro 2 grC (EV A387 (.tmp 74)) ((gsM ((hv_10, H_10), (qv_10, q_10)) pre) ++ [x.2.2]), c197_222, c155_222, c157_222, c156_222, bx g5 37 #[(EV A387 (.tmp 78))], bx g4 62 #[(EV A387 (.tmp 74))], c3_222, c219_222, pk (·= fr), ro 2 grC (EV A387 (.tmp 73)) [x.2.2], ro 3 anC (EV A387 (.tmp 77)) [(AnC.mk x.2.1.e x.2.1.t x.2.1.v)]] w387 := S387.cast (by kernel_rfl)
  generalize q78_387 : EV A387 (.tmp 78) = us78 at S387
  generalize q74_387 : EV A387 (.tmp 74) = us74 at S387
  generalize q73_387 : EV A387 (.tmp 73) = us73 at S387
  generalize q77_387 : EV A387 (.tmp 77) = us77 at S387
  have l78_387 := q78_387
  have l74_387 := q74_387
  have l73_387 := q73_387
  have l77_387 := q77_387
  have Y387 : SzN A387 81 := ⟨hFr.sz.trans Y227.out⟩
  have hdf387 : A387.defers = [] := hFr.df.trans hdf227
  have S387 := unpkR (l := [ro 3 anC us78 ((pre.map fun x : ME => x.2.1) ++ [(AnC.mk x.2.1.e x.2.1.t x.2.1.v)]), cb224, ck224, cb4_222, cb3_222, cb7_222, cb5_222, ro 2 grC us74 ((gsM ((hv_10, H_10), (qv_10, q_10)) pre) ++ [x.2.2]), c197_222, c155_222, c157_222, c156_222, bx g5 37 #[us78], bx g4 62 #[us74], c3_222, c219_222, ro 2 grC us73 [x.2.2], ro 3 anC us77 [(AnC.mk x.2.1.e x.2.1.t x.2.1.v)]]) (fr := fr) (S387.sel [0, 1, 2, 3, 4, 5, 6, 7, 8, 9, 10, 11, 12, 13, 14, 15, 17, 18, 16] (by decide) V)
  replace S387 : St w NoX ((ro 3 anC us78 ((pre.map fun x : ME => x.2.1) ++ [(AnC.mk x.2.1.e x.2.1.t x.2.1.v)])) :: cb224 :: ck224 :: cb4_222 :: cb3_222 :: cb7_222 :: cb5_222 :: (ro 2 grC us74 ((gsM ((hv_10, H_10), (qv_10, q_10)) pre) ++ [x.2.2])) :: c197_222 :: c155_222 :: c157_222 :: c156_222 :: (bx g5 37 #[us78]) :: (bx g4 62 #[us74]) :: c3_222 :: c219_222 :: (ro 2 grC us73 [x.2.2]) :: (ro 3 anC us77 [(AnC.mk x.2.1.e x.2.1.t x.2.1.v)]) :: fr) w387 := S387
  obtain ⟨c306_387, cb224_387, ck224_387, cb4_387, cb3_387, cb7_387, cb5_387, c304_387, c197_387, c155_387, c157_387, c156_387, c308_387, c307_387, c3_387, c219_387, c303_387, c305_387, hc306_387, hcb224_387, hck224_387, hcb4_387, hcb3_387, hcb7_387, hcb5_387, hc304_387, hc197_387, hc155_387, hc157_387, hc156_387, hc308_387, hc307_387, hc3_387, hc219_387, hc303_387, hc305_387, S387⟩ := gen18 S387
  replace hcb224_387 := hcb224_387.trans hcb224
  replace hck224_387 := hck224_387.trans hck224
  replace hcb4_387 := hcb4_387.trans hcb4_222
  replace hcb3_387 := hcb3_387.trans hcb3_222
  replace hcb7_387 := hcb7_387.trans hcb7_222
  replace hcb5_387 := hcb5_387.trans hcb5_222
  replace hc197_387 := hc197_387.trans hc197_222
  replace hc155_387 := hc155_387.trans hc155_222
  replace hc157_387 := hc157_387.trans hc157_222
  replace hc156_387 := hc156_387.trans hc156_222
  replace hc3_387 := hc3_387.trans hc3_222
  replace hc219_387 := hc219_387.trans hc219_222
  clear Y227 hdf227 S227 l6_227 l7_227 l8_227 l9_227 l10_227 l15_227 l16_227 l66_227
  refine Qo_normal ?_
  have S389 := S387.del 15
  replace S389 : St w NoX (c306_387 :: cb224_387 :: ck224_387 :: cb4_387 :: cb3_387 :: cb7_387 :: cb5_387 :: c304_387 :: c197_387 :: c155_387 :: c157_387 :: c156_387 :: c308_387 :: c307_387 :: c3_387 :: c303_387 :: c305_387 :: fr) w387 := S389
  have S390 := S389.del 15
  replace S390 : St w NoX (c306_387 :: cb224_387 :: ck224_387 :: cb4_387 :: cb3_387 :: cb7_387 :: cb5_387 :: c304_387 :: c197_387 :: c155_387 :: c157_387 :: c156_387 :: c308_387 :: c307_387 :: c3_387 :: c305_387 :: fr) w387 := S390
  have S391 := S390.del 15
  replace S391 : St w NoX (c306_387 :: cb224_387 :: ck224_387 :: cb4_387 :: cb3_387 :: cb7_387 :: cb5_387 :: c304_387 :: c197_387 :: c155_387 :: c157_387 :: c156_387 :: c308_387 :: c307_387 :: c3_387 :: fr) w387 := S391
  refine inb_n ?_
  obtain ⟨ct392, hct392, S392⟩ := genS (mT_shut (gs := gs_10) (T := 75) (n := (lgN C N Z K Q)) (G0 := ((hv_10, H_10), (qv_10, q_10))) (pre := (pre ++ [x])) (hcb224_387.trans (by rw [lastG_app])) hck224_387 S391)
  replace S392 : St w NoX (c306_387 :: ct392 :: cb4_387 :: cb3_387 :: cb7_387 :: cb5_387 :: c304_387 :: c197_387 :: c155_387 :: c157_387 :: c156_387 :: c308_387 :: c307_387 :: c3_387 :: fr) w387 := S392
  have S393 : St w NoX (c306_387 :: cb4_387 :: cb3_387 :: cb7_387 :: cb5_387 :: c304_387 :: c197_387 :: c155_387 :: c157_387 :: c156_387 :: c308_387 :: c307_387 :: c3_387 :: ct392 :: fr) w387 := St.selR (l := [c306_387, ct392, cb4_387, cb3_387, cb7_387, cb5_387, c304_387, c197_387, c155_387, c157_387, c156_387, c308_387, c307_387, c3_387]) (l' := [c306_387, cb4_387, cb3_387, cb7_387, cb5_387, c304_387, c197_387, c155_387, c157_387, c156_387, c308_387, c307_387, c3_387, ct392]) (fr := fr) S392 [0, 2, 3, 4, 5, 6, 7, 8, 9, 10, 11, 12, 13, 1] (by decide) (by rfl) V
  exact (St.pack (l := [ro 3 anC us78 ((pre ++ [x]).map fun x : ME => x.2.1), bx g4_208 24 #[lv], bx g3_208 73 #[.pointer (some ⟨gs_10, 0, none⟩)], bx g7_208 76 #[.func (.func 30) #[.pointer (some ⟨gs_10, 0, none⟩)] #[]], bx g5_208 85 #[.func (.func 36) #[] #[.pointer (some ⟨g3, 0, none⟩)]], ro 2 grC us74 (gsM ((hv_10, H_10), (qv_10, q_10)) (pre ++ [x])), bx g196 85 #[.func (.func 36) #[] #[.pointer (some ⟨g3, 0, none⟩)]], bx g154 73 #[.pointer (some ⟨gs_10, 0, none⟩)], bx g7 28 #[.int .i64 0], bx g6 3 #[.int .i64 0], bx g5 37 #[us78], bx g4 62 #[us74], bx g3 25 #[fv]]) (fr := (mT gs_10 75 (lgN C N Z K Q) ((hv_10, H_10), (qv_10, q_10)) (pre ++ [x]) :: fr)) (by have q0 : c306_387 = ro 3 anC us78 ((pre ++ [x]).map fun x : ME => x.2.1) := hc306_387.trans ((by rw [List.map_append]; rfl)); have q1 : cb4_387 = bx g4_208 24 #[lv] := hcb4_387; have q2 : cb3_387 = bx g3_208 73 #[.pointer (some ⟨gs_10, 0, none⟩)] := hcb3_387; have q3 : cb7_387 = bx g7_208 76 #[.func (.func 30) #[.pointer (some ⟨gs_10, 0, none⟩)] #[]] := hcb7_387; have q4 : cb5_387 = bx g5_208 85 #[.func (.func 36) #[] #[.pointer (some ⟨g3, 0, none⟩)]] := hcb5_387; have q5 : c304_387 = ro 2 grC us74 (gsM ((hv_10, H_10), (qv_10, q_10)) (pre ++ [x])) := hc304_387.trans ((by rw [gsM_app])); have q6 : c197_387 = bx g196 85 #[.func (.func 36) #[] #[.pointer (some ⟨g3, 0, none⟩)]] := hc197_387; have q7 : c155_387 = bx g154 73 #[.pointer (some ⟨gs_10, 0, none⟩)] := hc155_387; have q8 : c157_387 = bx g7 28 #[.int .i64 0] := hc157_387; have q9 : c156_387 = bx g6 3 #[.int .i64 0] := hc156_387; have q10 : c308_387 = bx g5 37 #[us78] := hc308_387; have q11 : c307_387 = bx g4 62 #[us74] := hc307_387; have q12 : c3_387 = bx g3 25 #[fv] := hc3_387; have q13 := hct392; subst q0 q1 q2 q3 q4 q5 q6 q7 q8 q9 q10 q11 q12 q13; exact S393) (⟨us74, us78, (pl_nx hgK hVd hz (c232)), rfl⟩))
 ·intro D394 xs394 w394 hxs394 S394
  obtain ⟨_, ⟨gv, av, hz, rfl⟩, S394⟩ := S394.unpack
  replace S394 : St w NoX ((ro 3 anC av (xs394.map fun x : ME => x.2.1)) :: (bx g4_208 24 #[lv]) :: (bx g3_208 73 #[.pointer (some ⟨gs_10, 0, none⟩)]) :: (bx g7_208 76 #[.func (.func 30) #[.pointer (some ⟨gs_10, 0, none⟩)] #[]]) :: (bx g5_208 85 #[.func (.func 36) #[] #[.pointer (some ⟨g3, 0, none⟩)]]) :: (ro 2 grC gv (gsM ((hv_10, H_10), (qv_10, q_10)) xs394)) :: (bx g196 85 #[.func (.func 36) #[] #[.pointer (some ⟨g3, 0, none⟩)]]) :: (bx g154 73 #[.pointer (some ⟨gs_10, 0, none⟩)]) :: (bx g7 28 #[.int .i64 0]) :: (bx g6 3 #[.int .i64 0]) :: (bx g5 37 #[av]) :: (bx g4 62 #[gv]) :: (bx g3 25 #[fv]) :: (ob D394 (.deferred (some []))) :: (mT gs_10 75 (lgN C N Z K Q) ((hv_10, H_10), (qv_10, q_10)) xs394) :: []) w394 := S394
  obtain ⟨c210_394, cb4_394, cb3_394, cb7_394, cb5_394, c201r_394, c197_394, c155_394, c157_394, c156_394, c5_394, c203_394, c3_394, cD394, ct_394, hc210_394, hcb4_394, hcb3_394, hcb7_394, hcb5_394, hc201r_394, hc197_394, hc155_394, hc157_394, hc156_394, hc5_394, hc203_394, hc3_394, hcD394, hct_394, S394⟩ := gen15 S394
  have S395 := S394.sel [0, 14, 1, 2, 3, 4, 5, 6, 7, 8, 9, 10, 11, 12, 13] (by decide) (l' := [c210_394, ct_394, cb4_394, cb3_394, cb7_394, cb5_394, c201r_394, c197_394, c155_394, c157_394, c156_394, c5_394, c203_394, c3_394, cD394]) V
  replace S395 : St w NoX [c210_394, ct_394, cb4_394, cb3_394, cb7_394, cb5_394, c201r_394, c197_394, c155_394, c157_394, c156_394, c5_394, c203_394, c3_394, cD394] w394 := S395
  obtain ⟨cb396, ck396, hcb396, hck396, S396⟩ := mT_open (hct_394 ▸ S395)
  replace S396 : St w NoX [c210_394, cb396, ck396, cb4_394, cb3_394, cb7_394, cb5_394, c201r_394, c197_394, c155_394, c157_394, c156_394, c5_394, c203_394, c3_394, cD394] w394 := S396
  refine gen_Q (fun A394 E394 => ?_)
  have Y394 := szq E394
  have hdf394 : A394.defers = [{ target := .collected D394, args := #[] }] := by rw [E394, df_mk, F209.d] <;> rfl
  have l6_394 := lookE E394 6 (mk_l (fg10 F209))
  have l7_394 := lookE E394 7 (mk_l (fg9 F209))
  have l8_394 := lookE E394 8 (mk_l (fg8 F209))
  have l9_394 := lookE E394 9 (mk_l (fg7 F209))
  clear E394
  refine inb_n (tk H206 ?_)
  refine R_seq (fun K397 H397 => ?_)
  refine R_any (by kernel_rfl) (by kernel_rfl) 6 V (fun w518 hx518 => ?_)
  have S518 := S396.grow hx518
  refine AX_parL (l0 := [c210_394, cb396, ck396, cb4_394, cb3_394, cb7_394, cb5_394, c201r_394, c197_394, c155_394, c157_394, c156_394, c5_394, c203_394, c3_394, cD394]) (k := 0) [⟨[13], [], [79], fun vs => [], fun vs => (vs.getD 0 undef) = gv⟩, ⟨[12], [], [80], fun vs => [], fun vs => (vs.getD 0 undef) = av⟩, ⟨[7], [13], [], fun vs => [bx g4 62 #[gv]], fun vs => True⟩, ⟨[0], [12], [], fun vs => [bx g5 37 #[av]], fun vs => True⟩, ⟨[], [11], [], fun vs => [bx g6 3 #[.int .i64 0]], fun vs => True⟩, ⟨[], [10], [], fun vs => [bx g7 28 #[.int .i64 0]], fun vs => True⟩] [c210_394, cb396, ck396, cb4_394, cb3_394, cb7_394, cb5_394, c201r_394, c197_394, c155_394, c157_394, c156_394, c5_394, c203_394, c3_394, cD394] S518 V (by kernel_rfl) V ⟨?_, ?_, ?_, ?_, ?_, ?_, trivial⟩ ?_
  ·refine stepI [] (fun vs => [c203_394]) V (fun a => by kernel_rfl) ?_
   intro A519 w519 rst hFr hF S519
   replace S519 : St w NoX [c203_394, rst] w519 := S519
   have Y519 : SzN A519 81 := ⟨hFr.sz.trans Y394.out⟩
   have hdf519 : A519.defers = [{ target := .collected D394, args := #[] }] := hFr.df.trans hdf394
   have l6_519 := (oldS hFr 6 (by kernel_rfl)).trans l6_394
   obtain ⟨c203_519, hc203_519, S519⟩ := gen1 S519
   replace hc203_519 := hc203_519.trans hc203_394
   refine W_r V V (xlC (v := gv) V l6_519 (S519.obj 0 V hc203_519) Try.underlying62) ?_
   refine W_end (kq _ ?_)
   exact ⟨_, [gv], rfl, ts1 (et V), rfl, rfl, by subst hc203_519 hc203_394; exact S519⟩
  ·refine stepI [] (fun vs => [c5_394]) V (fun a => by kernel_rfl) ?_
   intro A520 w520 rst hFr hF S520
   replace S520 : St w NoX [c5_394, rst] w520 := S520
   have Y520 : SzN A520 81 := ⟨hFr.sz.trans Y394.out⟩
   have hdf520 : A520.defers = [{ target := .collected D394, args := #[] }] := hFr.df.trans hdf394
   have l7_520 := (oldS hFr 7 (by kernel_rfl)).trans l7_394
   obtain ⟨c5_520, hc5_520, S520⟩ := gen1 S520
   replace hc5_520 := hc5_520.trans hc5_394
   refine W_r V V (xlC (v := av) V l7_520 (S520.obj 0 V hc5_520) Try.underlying37) ?_
   refine W_end (kq _ ?_)
   exact ⟨_, [av], rfl, ts1 (et V), rfl, rfl, by subst hc5_520 hc5_394; exact S520⟩
  ·refine stepI [] (fun vs => [c201r_394, c203_394]) V (fun a => by kernel_rfl) ?_
   intro A521 w521 rst hFr hF S521
   replace S521 : St w NoX [c201r_394, c203_394, rst] w521 := S521
   have f79_521 : EV A521 (.tmp 79) = gv := hF 0 (by kernel_rfl)
   generalize q79_521 : EV A521 (.tmp 79) = us79 at S521 f79_521
   have l79_521 := q79_521.trans f79_521
   have Y521 : SzN A521 81 := ⟨hFr.sz.trans Y394.out⟩
   have hdf521 : A521.defers = [{ target := .collected D394, args := #[] }] := hFr.df.trans hdf394
   have l6_521 := (oldS hFr 6 (by kernel_rfl)).trans l6_394
   obtain ⟨c201r_521, c203_521, hc201r_521, hc203_521, S521⟩ := gen2 S521
   replace hc201r_521 := hc201r_521.trans hc201r_394
   replace hc203_521 := hc203_521.trans hc203_394
   refine xsC (zs' := #[gv]) 1 S521 V hc203_521 V V V l6_521 l79_521 (SlN_one (ow_at (S521.chq 0 V hc201r_521))) (fun w522 c522 hc522 S522 => ?_)
   replace S522 : St w NoX (c201r_521 :: c522 :: [rst]) w522 := S522
   refine W_end (kq _ ?_)
   subst q79_521
   exact ⟨undef, [], rfl, rfl, trivial, rfl, by subst hc201r_521 hc522 hc201r_394 hc203_394; exact S522⟩
  ·refine stepI [] (fun vs => [c210_394, c5_394]) V (fun a => by kernel_rfl) ?_
   intro A523 w523 rst hFr hF S523
   replace S523 : St w NoX [c210_394, c5_394, rst] w523 := S523
   have f80_523 : EV A523 (.tmp 80) = av := hF 1 (by kernel_rfl)
   generalize q80_523 : EV A523 (.tmp 80) = us80 at S523 f80_523
   have l80_523 := q80_523.trans f80_523
   have Y523 : SzN A523 81 := ⟨hFr.sz.trans Y394.out⟩
   have hdf523 : A523.defers = [{ target := .collected D394, args := #[] }] := hFr.df.trans hdf394
   have l7_523 := (oldS hFr 7 (by kernel_rfl)).trans l7_394
   obtain ⟨c210_523, c5_523, hc210_523, hc5_523, S523⟩ := gen2 S523
   replace hc210_523 := hc210_523.trans hc210_394
   replace hc5_523 := hc5_523.trans hc5_394
   refine xsC (zs' := #[av]) 1 S523 V hc5_523 V V V l7_523 l80_523 (SlN_one (ow_at (S523.chq 0 V hc210_523))) (fun w524 c524 hc524 S524 => ?_)
   replace S524 : St w NoX (c210_523 :: c524 :: [rst]) w524 := S524
   refine W_end (kq _ ?_)
   subst q80_523
   exact ⟨undef, [], rfl, rfl, trivial, rfl, by subst hc210_523 hc524 hc210_394 hc5_394; exact S524⟩
  ·refine stepI [] (fun vs => [c156_394]) V (fun a => by kernel_rfl) ?_
   intro A525 w525 rst hFr hF S525
   replace S525 : St w NoX [c156_394, rst] w525 := S525
   have Y525 : SzN A525 81 := ⟨hFr.sz.trans Y394.out⟩
   have hdf525 : A525.defers = [{ target := .collected D394, args := #[] }] := hFr.df.trans hdf394
   have l8_525 := (oldS hFr 8 (by kernel_rfl)).trans l8_394
   obtain ⟨c156_525, hc156_525, S525⟩ := gen1 S525
   replace hc156_525 := hc156_525.trans hc156_394
   refine xsC (zs' := #[.int .i64 0]) 0 S525 V hc156_525 V V V l8_525 V (by rfl) (fun w526 c526 hc526 S526 => ?_)
   replace S526 : St w NoX (c526 :: [rst]) w526 := S526
   refine W_end (kq _ ?_)
   exact ⟨undef, [], rfl, rfl, trivial, rfl, by subst hc526 hc156_394; exact S526⟩
  ·refine stepI [] (fun vs => [c157_394]) V (fun a => by kernel_rfl) ?_
   intro A527 w527 rst hFr hF S527
   replace S527 : St w NoX [c157_394, rst] w527 := S527
   have Y527 : SzN A527 81 := ⟨hFr.sz.trans Y394.out⟩
   have hdf527 : A527.defers = [{ target := .collected D394, args := #[] }] := hFr.df.trans hdf394
   have l9_527 := (oldS hFr 9 (by kernel_rfl)).trans l9_394
   obtain ⟨c157_527, hc157_527, S527⟩ := gen1 S527
   replace hc157_527 := hc157_527.trans hc157_394
   refine xsC (zs' := #[.int .i64 0]) 0 S527 V hc157_527 V V V l9_527 V (by rfl) (fun w528 c528 hc528 S528 => ?_)
   replace S528 : St w NoX (c528 :: [rst]) w528 := S528
   refine W_end (kq _ ?_)
   exact ⟨undef, [], rfl, rfl, trivial, rfl, by subst hc528 hc157_394; exact S528⟩
  intro A529 w529 hFr hF S529
  replace S529 : St w NoX [c210_394, cb396, ck396, cb4_394, cb3_394, cb7_394, cb5_394, c201r_394, c197_394, c155_394, bx g7 28 #[.int .i64 0], bx g6 3 #[.int .i64 0], bx g5 37 #[av], bx g4 62 #[gv], c3_394, cD394] w529 := S529.cast (by kernel_rfl)
  have Y529 : SzN A529 81 := ⟨hFr.sz.trans Y394.out⟩
  have hdf529 : A529.defers = [{ target := .collected D394, args := #[] }] := hFr.df.trans hdf394
  obtain ⟨c210_529, cb396_529, ck396_529, cb4_529, cb3_529, cb7_529, cb5_529, c201r_529, c197_529, c155_529, c461_529, c460_529, c459_529, c458_529, c3_529, cD394_529, hc210_529, hcb396_529, hck396_529, hcb4_529, hcb3_529, hcb7_529, hcb5_529, hc201r_529, hc197_529, hc155_529, hc461_529, hc460_529, hc459_529, hc458_529, hc3_529, hcD394_529, S529⟩ := gen16 S529
  replace hc210_529 := hc210_529.trans hc210_394
  replace hcb396_529 := hcb396_529.trans hcb396
  replace hck396_529 := hck396_529.trans hck396
  replace hcb4_529 := hcb4_529.trans hcb4_394
  replace hcb3_529 := hcb3_529.trans hcb3_394
  replace hcb7_529 := hcb7_529.trans hcb7_394
  replace hcb5_529 := hcb5_529.trans hcb5_394
  replace hc201r_529 := hc201r_529.trans hc201r_394
  replace hc197_529 := hc197_529.trans hc197_394
  replace hc155_529 := hc155_529.trans hc155_394
  replace hc3_529 := hc3_529.trans hc3_394
  replace hcD394_529 := hcD394_529.trans hcD394
  have l6_529 := (oldS hFr 6 (by kernel_rfl)).trans l6_394
  have l7_529 := (oldS hFr 7 (by kernel_rfl)).trans l7_394
  have l8_529 := (oldS hFr 8 (by kernel_rfl)).trans l8_394
  have l9_529 := (oldS hFr 9 (by kernel_rfl)).trans l9_394
  clear Y394 hdf394 S396 l6_394 l7_394 l8_394 l9_394
  refine Qo_normal ?_
  have S530 : St w NoX [c210_529, cb396_529, ck396_529, c201r_529, c461_529, c460_529, c459_529, c458_529, c3_529, cD394_529] w529 := S529.sel [0, 1, 2, 7, 10, 11, 12, 13, 14, 15] (by decide) V
  refine tk H397 ?_
  refine R_ret ?_
  have hD531 := S530.obj 9 V hcD394_529
  have S531 := S530.put (o' := .deferred none) 9 V hcD394_529
  obtain ⟨w531, hw531⟩ : ∃ w', w' = w529.putObj D394 (.deferred none) := ⟨_, rfl⟩
  rw [← hw531] at S531
  replace S531 : St w NoX [c210_529, cb396_529, ck396_529, c201r_529, c461_529, c460_529, c459_529, c458_529, c3_529, (ob D394 (.deferred none))] w531 := S531
  refine ret_inR1' (D := D394) (w1 := w531) hw531 (results_4 Try.results23 (rv_cellC l6_529 (cell_box (S531.obj 7 V hc458_529) V) Try.underlying62 V) (rv_cellC l7_529 (cell_box (S531.obj 6 V hc459_529) V) Try.underlying37 V) (rv_cellC l8_529 (cell_box (S531.obj 5 V hc460_529) V) Try.underlying3 V) (rv_cellC l9_529 (cell_box (S531.obj 4 V hc461_529) V) Try.underlying28 V)) hdf529 hD531 ?_
  have hd := pl_done hgK hxs394.1 hxs394.2 hsz hfull hz
  exact .inr ⟨_, _, _, rfl, hd.1, hd.2.1, (S531.fin3 3 V (hc201r_529) 2 V (hck396_529) 0 V (hc210_529.trans (congrArg (ro 3 anC _) hd.2.2)) (by decide))⟩
 intro D532 cQ pre w532 hpre S532
 obtain ⟨_, hx, S532⟩ := S532.unpack
 rcases hx with ⟨rfl, gv, gL, av, aL, a, er, hx, hne, rfl⟩
 replace S532 : St w NoX ((ro 3 anC av aL) :: (bx g4_208 24 #[lv]) :: (bx g3_208 73 #[.pointer (some ⟨gs_10, 0, none⟩)]) :: (bx g7_208 76 #[.func (.func 30) #[.pointer (some ⟨gs_10, 0, none⟩)] #[]]) :: (bx g5_208 85 #[.func (.func 36) #[] #[.pointer (some ⟨g3, 0, none⟩)]]) :: (ro 2 grC gv gL) :: (bx g196 85 #[.func (.func 36) #[] #[.pointer (some ⟨g3, 0, none⟩)]]) :: (bx g154 73 #[.pointer (some ⟨gs_10, 0, none⟩)]) :: (bx g7 28 #[.int .i64 (er)]) :: (bx g6 3 #[.int .i64 (a)]) :: (bx g5 37 #[.slice none 0 0]) :: (bx g4 62 #[.slice none 0 0]) :: (bx g3 25 #[fv]) :: (ob D532 (.deferred (some []))) :: (mT gs_10 75 (lgN C N Z K Q) ((hv_10, H_10), (qv_10, q_10)) pre) :: []) w532 := S532
 obtain ⟨c210_532, cb4_532, cb3_532, cb7_532, cb5_532, c201r_532, c197_532, c155_532, c157_532, c156_532, c5_532, c203_532, c3_532, cD532, ct_532, hc210_532, hcb4_532, hcb3_532, hcb7_532, hcb5_532, hc201r_532, hc197_532, hc155_532, hc157_532, hc156_532, hc5_532, hc203_532, hc3_532, hcD532, hct_532, S532⟩ := gen15 S532
 have S533 := S532.sel [0, 14, 1, 2, 3, 4, 5, 6, 7, 8, 9, 10, 11, 12, 13] (by decide) (l' := [c210_532, ct_532, cb4_532, cb3_532, cb7_532, cb5_532, c201r_532, c197_532, c155_532, c157_532, c156_532, c5_532, c203_532, c3_532, cD532]) V
 replace S533 : St w NoX [c210_532, ct_532, cb4_532, cb3_532, cb7_532, cb5_532, c201r_532, c197_532, c155_532, c157_532, c156_532, c5_532, c203_532, c3_532, cD532] w532 := S533
 obtain ⟨cb534, ck534, hcb534, hck534, S534⟩ := mT_open (hct_532 ▸ S533)
 replace S534 : St w NoX [c210_532, cb534, ck534, cb4_532, cb3_532, cb7_532, cb5_532, c201r_532, c197_532, c155_532, c157_532, c156_532, c5_532, c203_532, c3_532, cD532] w532 := S534
 refine gen_w (fun A532 E532 => ?_)
 have Y532 := szq E532
 have hdf532 : A532.defers = [{ target := .collected D532, args := #[] }] := by rw [E532, df_mk, F209.d] <;> rfl
 have l6_532 := lookE E532 6 (mk_l (fg10 F209))
 have l7_532 := lookE E532 7 (mk_l (fg9 F209))
 have l8_532 := lookE E532 8 (mk_l (fg8 F209))
 have l9_532 := lookE E532 9 (mk_l (fg7 F209))
 clear E532
 refine R_ret ?_
 refine inb_ret (then_ret ?_)
 have hD535 := S534.obj 15 V hcD532
 have S535 := S534.put (o' := .deferred none) 15 V hcD532
 obtain ⟨w535, hw535⟩ : ∃ w', w' = w532.putObj D532 (.deferred none) := ⟨_, rfl⟩
 rw [← hw535] at S535
 replace S535 : St w NoX [c210_532, cb534, ck534, cb4_532, cb3_532, cb7_532, cb5_532, c201r_532, c197_532, c155_532, c157_532, c156_532, c5_532, c203_532, c3_532, (ob D532 (.deferred none))] w535 := S535
 refine ret_inR1' (D := D532) (w1 := w535) hw535 (results_4 Try.results23 (rv_cellC l6_532 (cell_box (S535.obj 13 V hc203_532) V) Try.underlying62 V) (rv_cellC l7_532 (cell_box (S535.obj 12 V hc5_532) V) Try.underlying37 V) (rv_cellC l8_532 (cell_box (S535.obj 11 V hc156_532) V) Try.underlying3 V) (rv_cellC l9_532 (cell_box (S535.obj 10 V hc157_532) V) Try.underlying28 V)) hdf532 hD535 ?_
 have h : (plF (cfE C N Z K Q) (lgN C N Z K Q) K os full) = (a, er) := (pl_fb hsz hfull).trans hx
 rw [h]
 exact .inl ⟨rfl, hne, S535.fin0⟩

end Go.Proofs.Ytpgkfndbfocibaa