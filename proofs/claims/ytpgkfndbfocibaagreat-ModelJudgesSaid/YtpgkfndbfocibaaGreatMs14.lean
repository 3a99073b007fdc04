import Derived.Test.YtpgkfndbfocibaaGreatProg
import Derived.Test.YtpgkfndbfocibaaGreatSqL
import Derived.Test.YtpgkfndbfocibaaGreatMs11
import Derived.Test.YtpgkfndbfocibaaGreatSep29f
import Derived.Test.YtpgkfndbfocibaaGreatSep29g
import Derived.Test.YtpgkfndbfocibaaGreatPl29h
import Derived.Test.YtpgkfndbfocibaaGreatGh9b
import Derived.Test.YtpgkfndbfocibaaGreatPl15j
namespace Go.Proofs.YtpgkfndbfocibaaGreat
open Go.RowKit Go.Own Go.Own.R Go.Own.G Go.Own.Gr Go.Own.Ml


set_option maxHeartbeats 4000000 in
theorem kpl_c {C N Z K Q : Int} {lv : Value} {os : List OpC} {fv : Value} {full : List Int} {w : World} (h_lv : Ro w NoX (rl 7 opC lv os)) (h_fv : Ro w NoX (il .i64 fv full))  :
  Calls Tryz.prog 29 #[.agg #[.int .i64 C, .int .i64 N, .int .i64 Z, .int .i64 K, .int .i64 Q], lv, fv] w fun e w' => (e = .returned (.tuple #[.slice none 0 0, .slice none 0 0, .int .i64 (plF (cfE C N Z K Q) (lgN C N Z K Q) K os full).1, .int .i64 (plF (cfE C N Z K Q) (lgN C N Z K Q) K os full).2]) ∧ ((plF (cfE C N Z K Q) (lgN C N Z K Q) K os full).2 ≠ 0) ∧ St w NoX [] w') ∨ (∃ gv Gs av, e = .returned (.tuple #[gv, av, .int .i64 0, .int .i64 0]) ∧ ((plF (cfE C N Z K Q) (lgN C N Z K Q) K os full) = (0, 0)) ∧ (Gs.map gab = (plG (cfE C N Z K Q) (lgN C N Z K Q) K os full)) ∧ St w NoX [ro 2 grC gv Gs, gls Gs, ro 3 anC av (plA (cfE C N Z K Q) (lgN C N Z K Q) K os full)] w') := by
 refine calls_inR 81 Tryz.func29 V V Zj (fun A0 Y0 hdf0 hargs => ?_)
 have l0_0 := hargs 0 (.agg #[.int .i64 C, .int .i64 N, .int .i64 Z, .int .i64 K, .int .i64 Q]) V
 have l1_0 := hargs 1 lv V
 have l2_0 := hargs 2 fv V
 clear hargs; replace Y0 : SzN A0 81 := ⟨Y0⟩
 have hS := St.nil w
 have bh_lv := SlN.le (sl_SlN h_lv.at)
 have bh_fv := SlN.le (sl_SlN h_fv.at)
 refine R_seq (fun _ H1 => R_region om (wB (#[.int .i64 (C), .int .i64 (N), .int .i64 (Z), .int .i64 (K), .int .i64 (Q)]) hS l0_0 (fun g2 w2 c2 hc2 S2 => W_boxS (zs := #[fv]) S2 V V V (Sa l2_0) (SlN_cells (sl_SlN h_fv.at)) (fun g3 w3 c3 hc3 S3 => wZ (.slice none 0 0) S3 (fun g4 w4 c4 hc4 S4 => wZ (.slice none 0 0) S4 (fun g5 w5 c5 hc5 S5 => wZ (.int .i64 0) S5 (fun g6 w6 c6 hc6 S6 => wZ (.int .i64 0) S6 (fun g7 w7 c7 hc7 S7 => W_end (Qo_normal (en (((ck (ck (ck (ck (ck (ck (FS.n hdf0) V V) V V) V V) V V) V V) V V)).c (Sf l1_0)) fun A8 _ F8 => tk H1 (R_seq (fun _ H9 => R_region om (ra (fg6 F8) (S7.ob 5 hc2) (vm (Sa (fg0 F8)) (wc (args2 (Sa t0) t0) (kbg_c (C := C) (N := N) (Z := Z) (K := K) (Q := Q) (S7.roC h_lv)) ?_)))))))))))))))
 rintro _ w10 (⟨rfl, hz_10, hP10⟩ | ⟨gs_10, hv_10, H_10, qv_10, q_10, rfl, hz_10, hg_10, hP10⟩)
 ·refine ⟨_, rfl, ?_⟩
  have S10 := S7.j0 hP10
  refine vm t0 (vx (.pointer none) t0 (vx (.int .i64 ((scE (cfE C N Z K Q) os).1)) (Sa t0) (vx (.int .i64 ((scE (cfE C N Z K Q) os).2)) (Sb t0) (wZ (.pointer none) S10 (fun g11 w11 c11 hc11 S11 => xsC0 (zs' := #[.pointer none]) S11 hc11 V V V t0 (Sc t0) Zd (fun w12 c12 hc12 S12 => xsC2 (zs' := #[.int .i64 ((scE (cfE C N Z K Q) os).1)]) S12 hc6 V V V (Sh (fg2 F8)) (Sb t0) Zd (fun w13 c13 hc13 S13 => xsC1 (zs' := #[.int .i64 ((scE (cfE C N Z K Q) os).2)]) S13 hc7 V V V (Sh (fg1 F8)) (Sa t0) Zd (fun w14 c14 hc14 S14 => W_end (Qo_normal (en (Ka (Qg F8)) fun A15 _ F15 => ?_))))))))))
  have S16 := S14.se [0, 1, 2, 3, 4, 5] [c12, c14, c13, c5, c4, c3]
  refine tk H9 (R_seq (fun _ H17 => R_seq (fun _ H18 => R_region om (rL (.int .i64 ((scE (cfE C N Z K Q) os).2)) (fg2 F15) (S16.ob 1 hc14) (vn t0 V (W_end (Qo_normal (en (Ka (Qa F15)) fun A19 Y19 F19 => tk H18 (R_cond_sure (fg0 F19) (by rw [decide_eq_true_eq]; exact hz_10) (R_seq (fun _ H20 => R_any om om 6 V (fun w141 hx141 => ?_))))))))))))
  have S141 := S16.grow hx141
  refine AX_parL (l0 := [c12, c14, c13, c5, c4, c3]) (k := 0) [⟨[2], [], [26], fun vs => [], fun vs => (vs.getD 0 undef) = .int .i64 ((scE (cfE C N Z K Q) os).1)⟩, ⟨[1], [], [27], fun vs => [], fun vs => (vs.getD 0 undef) = .int .i64 ((scE (cfE C N Z K Q) os).2)⟩, ⟨[], [4], [], fun vs => [bx g4 64 #[.slice none 0 0]], fun vs => True⟩, ⟨[], [3], [], fun vs => [bx g5 31 #[.slice none 0 0]], fun vs => True⟩, ⟨[], [2], [], fun vs => [bx g6 3 #[.int .i64 ((scE (cfE C N Z K Q) os).1)]], fun vs => True⟩, ⟨[], [1], [], fun vs => [bx g7 32 #[.int .i64 ((scE (cfE C N Z K Q) os).2)]], fun vs => True⟩] [c12, c14, c13, c5, c4, c3] S141 V om V ⟨?_, ?_, ?_, ?_, ?_, ?_, trivial⟩ ?_
  ·refine stepI [] (fun vs => [c13]) V (fun a => by kernel_rfl) ?_
   intro A142 w142 rst hFr hF S142
   replace S142 : St w NoX [c13, rst] w142 := S142
   have Y142 : SzN A142 81 := ⟨hFr.sz.trans Y19.out⟩
   have hdf142 : A142.defers = [] := hFr.df.trans F19.d
   have l8_142 := (oldS hFr 8 om).trans (fg4 F19)
   obtain ⟨c13_142, hc13_142, S142⟩ := gen1 S142
   replace hc13_142 := hc13_142.trans hc13
   refine rL (.int .i64 ((scE (cfE C N Z K Q) os).1)) l8_142 (S142.ob 0 hc13_142) (W_end (kq _ ?_))
   exact ⟨_, [.int .i64 ((scE (cfE C N Z K Q) os).1)], rfl, ts1 (et V), rfl, rfl, by subst hc13_142 hc13; exact S142⟩
  ·refine stepI [] (fun vs => [c14]) V (fun a => by kernel_rfl) ?_
   intro A143 w143 rst hFr hF S143
   replace S143 : St w NoX [c14, rst] w143 := S143
   have Y143 : SzN A143 81 := ⟨hFr.sz.trans Y19.out⟩
   have hdf143 : A143.defers = [] := hFr.df.trans F19.d
   have l9_143 := (oldS hFr 9 om).trans (fg3 F19)
   obtain ⟨c14_143, hc14_143, S143⟩ := gen1 S143
   replace hc14_143 := hc14_143.trans hc14
   refine rL (.int .i64 ((scE (cfE C N Z K Q) os).2)) l9_143 (S143.ob 0 hc14_143) (W_end (kq _ ?_))
   exact ⟨_, [.int .i64 ((scE (cfE C N Z K Q) os).2)], rfl, ts1 (et V), rfl, rfl, by subst hc14_143 hc14; exact S143⟩
  ·refine stepI [] (fun vs => [c4]) V (fun a => by kernel_rfl) ?_
   intro A144 w144 rst hFr hF S144
   replace S144 : St w NoX [c4, rst] w144 := S144
   have Y144 : SzN A144 81 := ⟨hFr.sz.trans Y19.out⟩
   have hdf144 : A144.defers = [] := hFr.df.trans F19.d
   have l6_144 := (oldS hFr 6 om).trans (fg6 F19)
   obtain ⟨c4_144, hc4_144, S144⟩ := gen1 S144
   replace hc4_144 := hc4_144.trans hc4
   refine xsC (zs' := #[.slice none 0 0]) 0 S144 V hc4_144 V V V l6_144 V Zd (fun w145 c145 hc145 S145 => ?_)
   replace S145 : St w NoX (c145 :: [rst]) w145 := S145
   refine W_end (kq _ ?_)
   exact ⟨undef, [], rfl, rfl, trivial, rfl, by subst hc145 hc4; exact S145⟩
  ·refine stepI [] (fun vs => [c5]) V (fun a => by kernel_rfl) ?_
   intro A146 w146 rst hFr hF S146
   replace S146 : St w NoX [c5, rst] w146 := S146
   have Y146 : SzN A146 81 := ⟨hFr.sz.trans Y19.out⟩
   have hdf146 : A146.defers = [] := hFr.df.trans F19.d
   have l7_146 := (oldS hFr 7 om).trans (fg5 F19)
   obtain ⟨c5_146, hc5_146, S146⟩ := gen1 S146
   replace hc5_146 := hc5_146.trans hc5
   refine xsC (zs' := #[.slice none 0 0]) 0 S146 V hc5_146 V V V l7_146 V Zd (fun w147 c147 hc147 S147 => ?_)
   replace S147 : St w NoX (c147 :: [rst]) w147 := S147
   refine W_end (kq _ ?_)
   exact ⟨undef, [], rfl, rfl, trivial, rfl, by subst hc147 hc5; exact S147⟩
  ·refine stepI [] (fun vs => [c13]) V (fun a => by kernel_rfl) ?_
   intro A148 w148 rst hFr hF S148
   replace S148 : St w NoX [c13, rst] w148 := S148
   have f26_148 : EV A148 (.tmp 26) = .int .i64 ((scE (cfE C N Z K Q) os).1) := hF 0 om
   generalize q26_148 : EV A148 (.tmp 26) = us26 at S148 f26_148
   have l26_148 := q26_148.trans f26_148
   have Y148 : SzN A148 81 := ⟨hFr.sz.trans Y19.out⟩
   have hdf148 : A148.defers = [] := hFr.df.trans F19.d
   have l8_148 := (oldS hFr 8 om).trans (fg4 F19)
   obtain ⟨c13_148, hc13_148, S148⟩ := gen1 S148
   replace hc13_148 := hc13_148.trans hc13
   refine xsC (zs' := #[.int .i64 ((scE (cfE C N Z K Q) os).1)]) 0 S148 V hc13_148 V V V l8_148 l26_148 Zd (fun w149 c149 hc149 S149 => ?_)
   replace S149 : St w NoX (c149 :: [rst]) w149 := S149
   refine W_end (kq _ ?_)
   subst q26_148
   exact ⟨undef, [], rfl, rfl, trivial, rfl, by subst hc149 hc13; exact S149⟩
  ·refine stepI [] (fun vs => [c14]) V (fun a => by kernel_rfl) ?_
   intro A150 w150 rst hFr hF S150
   replace S150 : St w NoX [c14, rst] w150 := S150
   have f27_150 : EV A150 (.tmp 27) = .int .i64 ((scE (cfE C N Z K Q) os).2) := hF 1 om
   generalize q27_150 : EV A150 (.tmp 27) = us27 at S150 f27_150
   have l27_150 := q27_150.trans f27_150
   have Y150 : SzN A150 81 := ⟨hFr.sz.trans Y19.out⟩
   have hdf150 : A150.defers = [] := hFr.df.trans F19.d
   have l9_150 := (oldS hFr 9 om).trans (fg3 F19)
   obtain ⟨c14_150, hc14_150, S150⟩ := gen1 S150
   replace hc14_150 := hc14_150.trans hc14
   refine xsC (zs' := #[.int .i64 ((scE (cfE C N Z K Q) os).2)]) 0 S150 V hc14_150 V V V l9_150 l27_150 Zd (fun w151 c151 hc151 S151 => ?_)
   replace S151 : St w NoX (c151 :: [rst]) w151 := S151
   refine W_end (kq _ ?_)
   subst q27_150
   exact ⟨undef, [], rfl, rfl, trivial, rfl, by subst hc151 hc14; exact S151⟩
  intro A152 w152 hFr hF S152
  replace S152 : St w NoX [c12, bx g7 32 #[.int .i64 ((scE (cfE C N Z K Q) os).2)], bx g6 3 #[.int .i64 ((scE (cfE C N Z K Q) os).1)], bx g5 31 #[.slice none 0 0], bx g4 64 #[.slice none 0 0], c3] w152 := S152.cast om
  have Y152 : SzN A152 81 := ⟨hFr.sz.trans Y19.out⟩
  have hdf152 : A152.defers = [] := hFr.df.trans F19.d
  obtain ⟨c12_152, c84_152, c83_152, c82_152, c81_152, c3_152, hc12_152, hc84_152, hc83_152, hc82_152, hc81_152, hc3_152, S152⟩ := gen6 S152
  replace hc12_152 := hc12_152.trans hc12
  replace hc3_152 := hc3_152.trans hc3
  have l6_152 := (oldS hFr 6 om).trans (fg6 F19)
  have l7_152 := (oldS hFr 7 om).trans (fg5 F19)
  have l8_152 := (oldS hFr 8 om).trans (fg4 F19)
  have l9_152 := (oldS hFr 9 om).trans (fg3 F19)
  clear Y19 F19 S16
  refine Qo_normal (tk H20 (R_ret (then_ret (ret_inR0 (results_4 Tryz.results29 (rvC l6_152 (cell_box (S152.ob 4 hc81_152) V)) (rvC l7_152 (cell_box (S152.ob 3 hc82_152) V)) (rvC l8_152 (cell_box (S152.ob 2 hc83_152) V)) (rvC l9_152 (cell_box (S152.ob 1 hc84_152) V))) hdf152 ?_))))
  have h : (plF (cfE C N Z K Q) (lgN C N Z K Q) K os full) = ((scE (cfE C N Z K Q) os).1, (scE (cfE C N Z K Q) os).2) := pl_sc hz_10
  rw [h]
  exact .inl ⟨rfl, hz_10, S152.fin0⟩
 refine ⟨_, rfl, ?_⟩
 obtain ⟨cB_10, cK_10, hcB_10, hcK_10, hP10⟩ := gen2 hP10
 have S10 := S7.j2 hP10
 obtain ⟨hcf, hl2, hops, hsz⟩ := sc_inv (cf := (cfE C N Z K Q)) (l := os) (by rw [hz_10])
 have hsm0 : SM (gab ((hv_10, H_10), (qv_10, q_10))).1 := by rw [hg_10]; exact SM_nil
 have hgK : gab ((hv_10, H_10), (qv_10, q_10)) = g00 K := hg_10
 refine vm t0 (vx (.pointer (some ⟨gs_10, 0, none⟩)) t0 (vx (.int .i64 0) (Sa t0) (vx (.int .i64 0) (Sb t0) (wZ (.pointer none) S10 (fun g154 w154 c154 hc154 S154 => xsC0 (zs' := #[.pointer (some ⟨gs_10, 0, none⟩)]) S154 hc154 V V V t0 (Sc t0) Zd (fun w155 c155 hc155 S155 => xsC4 (zs' := #[.int .i64 0]) S155 hc6 V V V (Sh (fg2 F8)) (Sb t0) Zd (fun w156 c156 hc156 S156 => xsC3 (zs' := #[.int .i64 0]) S156 hc7 V V V (Sh (fg1 F8)) (Sa t0) Zd (fun w157 c157 hc157 S157 => W_end (Qo_normal (en (Ka (Qg F8)) fun A158 _ F158 => ?_))))))))))
 have S159 := S157.se [0, 1, 2, 3, 4, 5, 6, 7] [c155, cB_10, cK_10, c157, c156, c5, c4, c3]
 refine tk H9 (R_seq (fun _ H160 => R_seq (fun _ H161 => R_region om (rL (.int .i64 0) (fg2 F158) (S159.ob 3 hc157) (vn t0 V (W_end (Qo_normal (en (Ka (Qa F158)) fun A162 _ F162 => tk H161 (R_cond_not (fg0 F162) Zg (R_skip (tk H160 (R_seq (fun _ H163 => R_region om (vc (W_end (Qo_normal (en (Ka F162) fun A164 _ F164 => tk H163 (R_seq (fun _ H165 => R_seq (fun _ H166 => R_region om (rL fv (fg8 F164) (S159.ob 7 hc3) (le_ t0 (sl_SlN h_fv.at) (vm V (W_end (Qo_normal (en (Kc F164) fun A167 Y167 F167 => tk H166 (R_block ?_)))))))))))))))))))))))))))
 -- loop 6
 refine R_loop (fun mz A' w' => SzN A' 81 ∧ A'.defers = [] ∧ (∃ (k : Nat) (last : Int), (mz = full.length - k) ∧ (k ≤ full.length) ∧ (fcF (-1) full os.length = fcF last (full.drop k) os.length) ∧ (EV A' (.tmp 30) = .int .i64 (k : Int)) ∧ (EV A' (.tmp 11) = .int .i64 last) ∧ (EV A' (.tmp 1) = EV A167 (.tmp 1)) ∧ (EV A' (.tmp 5) = EV A167 (.tmp 5)) ∧ (EV A' (.tmp 6) = EV A167 (.tmp 6)) ∧ (EV A' (.tmp 7) = EV A167 (.tmp 7)) ∧ (EV A' (.tmp 8) = EV A167 (.tmp 8)) ∧ (EV A' (.tmp 9) = EV A167 (.tmp 9)) ∧ (EV A' (.tmp 10) = EV A167 (.tmp 10)) ∧ (EV A' (.tmp 28) = EV A167 (.tmp 28)) ∧ (EV A' (.tmp 29) = EV A167 (.tmp 29)) ∧ (St w NoX [bx g154 75 #[.pointer (some ⟨gs_10, 0, none⟩)], bx gs_10 77 #[hv_10, qv_10, .int .i64 (lgN C N Z K Q)], gls [((hv_10, H_10), (qv_10, q_10))], bx g7 32 #[.int .i64 0], bx g6 3 #[.int .i64 0], bx g5 31 #[.slice none 0 0], bx g4 64 #[.slice none 0 0], bx g3 25 #[fv]] w'))) (full.length - 0) ⟨Y167, F167.d, 0, (-1), rfl, Za, rfl, ((fg0 F167).trans (by first | rfl | (simp; done) | (congr 1; omega))), ((fg3 F167).trans (by first | rfl | (simp; done) | (congr 1; omega))), rfl, rfl, rfl, rfl, rfl, rfl, rfl, rfl, rfl, (by subst hc155 hcB_10 hcK_10 hc157 hc156 hc5 hc4 hc3; exact S159)⟩ ?_
 clear S159 hc155 hcB_10 hcK_10 hc157 hc156 hc5 hc4 hc3
 rintro n168 A168 w168 ⟨Y168, hdf168, k, last, hm168, hk, hfc, l30_168, l11_168, u1_168, u5_168, u6_168, u7_168, u8_168, u9_168, u10_168, u28_168, u29_168, S168⟩
 have l1_168 := u1_168.trans (fg6 F167)
 have l5_168 := u5_168.trans (fg11 F167)
 have l6_168 := u6_168.trans (fg10 F167)
 have l7_168 := u7_168.trans (fg9 F167)
 have l8_168 := u8_168.trans (fg8 F167)
 have l9_168 := u9_168.trans (fg7 F167)
 have l10_168 := u10_168.trans (fg5 F167)
 have l28_168 := u28_168.trans (fg2 F167)
 have l29_168 := u29_168.trans (fg1 F167)
 obtain ⟨c155_168, cB_168, cK_168, c157_168, c156_168, c5_168, c4_168, c3_168, hc155_168, hcB_168, hcK_168, hc157_168, hc156_168, hc5_168, hc4_168, hc3_168, S168⟩ := gen8 S168
 refine R_seq (fun _ H169 => R_region om (vl l30_168 l29_168 (W_end (Qo_normal (en (((((((((((((ck (FS.n hdf168) V V)).c (es V l1_168)).c (es V l5_168)).c (es V l6_168)).c (es V l7_168)).c (es V l8_168)).c (es V l9_168)).c (es V l10_168)).c (es V l11_168)).c (es V l28_168)).c (es V l29_168)).c (Sa l30_168)) fun A170 _ F170 => tk H169 (R_seq (fun _ H171 => R_cond_dec (fg11 F170) (fun c172 => ?_) (fun c172 => ?_))))))))
 ·refine R_skip (tk H171 (R_seq (fun _ H173 => R_block (R_seq (fun _ H174 => R_region om ?_)))))
  have k175 : k < full.length := by first | omega | (simp only [List.length_cons, List.length_nil]; omega) | (simp only [List.length_set]; omega) | decide
  obtain ⟨y175, hy175⟩ := get_some (xs := full) (k := k) k175
  obtain ⟨B175, O175, C175, hv175⟩ := (SlN.blk (sl_SlN h_fv.at) kr)
  refine wv (V_ixS (off := O175 + k) 1 k V (fg2 F170) (fg0 F170) hv175 Za k175 Tryz.underlying25 om (congrArg _ (Nat.mul_one _))) (rc t0 ((sl_SlN (S168.ro h_fv)).cell hv175 (map_get hy175)) (vt (W_end (Qo_normal (en (Ka (Qb F170)) fun A176 _ F176 => tk H174 (R_seq (fun _ H177 => R_seq (fun _ H178 => R_region om (vm (fg0 F176) (vm (Sa (fg4 F176)) (vk (Sa t0) t0 (W_split V V (V_mov V t0) (fun c179 => ?_) (fun c179 => ?_)))))))))))))
  ·refine xo V t0 (xo V (Sa t0) (xo V (Sb t0) (xo V (Sc t0) (vT (Sd t0) V (W_end (Qo_normal (en (Ke (Qd F176)) fun A180 _ F180 => tk H178 (R_cond_t (fg0 F180) (R_seq (fun _ H181 => R_region om (xsC (zs' := #[.slice none 0 0]) 6 S168 V hc4_168 V V V (fg14 F180) V Zd (fun w182 c182 hc182 S182 => ?_))))))))))))
   replace S182 : St w NoX [c155_168, cB_168, cK_168, c157_168, c156_168, c5_168, c182, c3_168] w182 := S182
   refine xsC5 (zs' := #[.slice none 0 0]) S182 hc5_168 V V V (fg13 F180) V Zd (fun w183 c183 hc183 S183 => xsC4 (zs' := #[.int .i64 (-1)]) S183 hc156_168 V V V (fg12 F180) V Zd (fun w184 c184 hc184 S184 => xsC3 (zs' := #[.int .i64 6]) S184 hc157_168 V V V (fg11 F180) V Zd (fun w185 c185 hc185 S185 => W_end (Qo_normal (tk H181 (R_ret (then_ret (inb_ret (then_ret (then_ret (inb_ret (then_ret (ret_inR0 (results_4 Tryz.results29 (rvC (fg14 F180) (cell_box (S185.ob 6 hc182) V)) (rvC (fg13 F180) (cell_box (S185.ob 5 hc183) V)) (rvC (fg12 F180) (cell_box (S185.ob 4 hc184) V)) (rvC (fg11 F180) (cell_box (S185.ob 3 hc185) V))) F180.d ?_)))))))))))))
   have h : (plF (cfE C N Z K Q) (lgN C N Z K Q) K os full) = ((-1), 6) := pl_fc hsz (fc_bad hfc hy175 Za)
   rw [h]
   exact .inl ⟨rfl, by decide, S185.fin0⟩
  refine wg V t0 (uvm (Sd (fg0 F176))) (wg V (Sa t0) (uvm (Se (fg11 F176))) (wg V (Sb t0) (ule_ t0 (sl_SlN h_lv.at)) (wg V (Sc t0) (uvh (Sb t0) t0) (vF (Sd t0) t0 (W_end (Qo_normal (en (Ke (Qd F176)) fun A186 _ F186 => tk H178 (R_cond_dec (fg0 F186) (fun c187 => ?_) (fun c187 => ?_)))))))))
  ·refine R_seq (fun _ H188 => R_region om (xsC (zs' := #[.slice none 0 0]) 6 S168 V hc4_168 V V V (fg14 F186) V Zd (fun w189 c189 hc189 S189 => ?_)))
   replace S189 : St w NoX [c155_168, cB_168, cK_168, c157_168, c156_168, c5_168, c189, c3_168] w189 := S189
   refine xsC5 (zs' := #[.slice none 0 0]) S189 hc5_168 V V V (fg13 F186) V Zd (fun w190 c190 hc190 S190 => xsC4 (zs' := #[.int .i64 (-1)]) S190 hc156_168 V V V (fg12 F186) V Zd (fun w191 c191 hc191 S191 => xsC3 (zs' := #[.int .i64 6]) S191 hc157_168 V V V (fg11 F186) V Zd (fun w192 c192 hc192 S192 => W_end (Qo_normal (tk H188 (R_ret (then_ret (inb_ret (then_ret (then_ret (inb_ret (then_ret (ret_inR0 (results_4 Tryz.results29 (rvC (fg14 F186) (cell_box (S192.ob 6 hc189) V)) (rvC (fg13 F186) (cell_box (S192.ob 5 hc190) V)) (rvC (fg12 F186) (cell_box (S192.ob 4 hc191) V)) (rvC (fg11 F186) (cell_box (S192.ob 3 hc192) V))) F186.d ?_)))))))))))))
   have h : (plF (cfE C N Z K Q) (lgN C N Z K Q) K os full) = ((-1), 6) := pl_fc hsz (fc_bad hfc hy175 Za)
   rw [h]
   exact .inl ⟨rfl, by decide, S192.fin0⟩
  refine R_skip (tk H177 (R_region om (vm (fg5 F186) (vt (W_end (Qo_normal (en (Ka (Qa (fx9 F186))) fun A193 _ F193 => inb_n (tk H173 (R_region om (ad (fg7 F193) V (vm t0 (W_end (Qo_normal (en (Ka (Qa (fx7 F193))) fun A194 Y194 F194 => then_n ⟨full.length - (k + 1), by simp only [hm168]; omega, Y194, F194.d, (k + 1), y175, rfl, Za, (fc_step hfc hy175 Za), ((fg0 F194).trans (by first | rfl | (simp; done) | (congr 1; omega))), ((fg1 F194).trans (by first | rfl | (simp; done) | (congr 1; omega))), ((fg16 F194).trans (fg6 F167).symm), ((fg15 F194).trans (fg11 F167).symm), ((fg14 F194).trans (fg10 F167).symm), ((fg13 F194).trans (fg9 F167).symm), ((fg12 F194).trans (fg8 F167).symm), ((fg11 F194).trans (fg7 F167).symm), ((fg10 F194).trans (fg5 F167).symm), ((fg9 F194).trans (fg2 F167).symm), ((fg8 F194).trans (fg1 F167).symm), (by subst hc155_168 hcB_168 hcK_168 hc157_168 hc156_168 hc5_168 hc4_168 hc3_168; exact S168)⟩))))))))))))))
 refine R_exit (then_exit (then_exit (inb_hit (tk H165 (R_seq (fun _ H195 => R_region om (wv (V_mkf V args0 (args1 (fg9 F170))) (wZ .nilFunc S168 (fun g196 w196 c196 hc196 S196 => ?_)))))))))
 replace S196 : St w NoX [c196, c155_168, cB_168, cK_168, c157_168, c156_168, c5_168, c4_168, c3_168] w196 := S196
 refine xsC0 (zs' := #[.func (.func 51) #[] #[.pointer (some ⟨g3, 0, none⟩)]]) S196 hc196 V V V t0 (Sa t0) Zd (fun w197 c197 hc197 S197 => W_end (Qo_normal (en (Ka (Qa F170)) fun A198 _ F198 => tk H195 (R_seq (fun _ H199 => R_monoS om 7 8 [none, none, none, none, none, some (SPv [] (fun _ => fun u l' => ∃ g_, u = .slice (some ⟨g_, 0, none⟩) 1 1 ∧ ∃ c_, c_ = ro 2 grC (.slice (some ⟨g_, 0, none⟩) 1 1) [((hv_10, H_10), (qv_10, q_10))] ∧ l' = [c_]) 5), some (SPv [] (fun _ => fun u l' => ∃ v_, u = v_ ∧ ∃ c_, c_ = ro 2 grC v_ [((hv_10, H_10), (qv_10, q_10))] ∧ l' = [c_]) 6)] om om (dr (fun _ hx _ => (urc (fg9 F198) (cell_box (v := .slice none 0 0) ((S197.grow hx).ob 7 hc4_168) V))) (dr (fun _ hx _ => (urc (Sa (fg5 F198)) (cell_box (v := .pointer (some ⟨gs_10, 0, none⟩)) ((S197.grow hx).ob 1 hc155_168) V))) (dn t0 (df 0 t0 (dr (fun sx hx hF => (VR_ldP (ys := [hv_10, qv_10]) V t0 ((S197.grow hx).ob 2 hcB_168) (ldP_at V) Tryz.underlying30 V om)) ?_))))))))))
 have hll200 : [((hv_10, H_10), (qv_10, q_10))].length = 1 := rfl
 refine D_lay (ts := []) (vs := []) (C0 := fun _ => fun u l' => ∃ g_, u = .slice (some ⟨g_, 0, none⟩) 1 1 ∧ ∃ c_, c_ = ro 2 grC (.slice (some ⟨g_, 0, none⟩) 1 1) [((hv_10, H_10), (qv_10, q_10))] ∧ l' = [c_]) (C := fun u l' => ∃ g_, u = .slice (some ⟨g_, 0, none⟩) 1 1 ∧ ∃ c_, c_ = ro 2 grC (.slice (some ⟨g_, 0, none⟩) 1 1) [((hv_10, H_10), (qv_10, q_10))] ∧ l' = [c_]) V V V V V V (fun sx hx hF => lay_lit (vs := [.agg #[hv_10, qv_10]]) 2 V (parts1 t0) V Tryz.underlying64 om Zg (by intro v hv; simp only [List.mem_cons, List.not_mem_nil, or_false] at hv; rcases hv with rfl <;> rfl) Zd) (fun u200 l200 hu200 => ?_)
 obtain ⟨g200, rfl, c200, hc200, hl200⟩ := hu200
 refine D_lay (ts := []) (vs := []) (C0 := fun _ => fun u l' => ∃ v_, u = v_ ∧ ∃ c_, c_ = ro 2 grC v_ [((hv_10, H_10), (qv_10, q_10))] ∧ l' = [c_]) (C := fun u l' => ∃ v_, u = v_ ∧ ∃ c_, c_ = ro 2 grC v_ [((hv_10, H_10), (qv_10, q_10))] ∧ l' = [c_]) V V V V V V (fun sx hx hF => by obtain ⟨ll200, ws200, we200, ⟨g200q, hq200, c200_, hc200_, hl200_⟩, hm200, k200, e200⟩ := L.ancF_get hF om; cases hq200; subst hl200_; exact lay_app0 (a := none) 2 V (es5 V (et V)) trivial (et V) Tryz.underlying64 Tryz.underlying64 (z := .agg #[.slice none 0 0, .slice none 0 0]) (bytes := 48) om V Zg (ow_at ((k200.grow e200).cq 0 hc200_)) (by intro u hu; simp only [List.flatMap_cons, List.flatMap_nil, grC, List.append_nil, List.cons_append, List.nil_append, List.mem_cons, List.not_mem_nil, or_false] at hu; rcases hu with rfl | rfl <;> first | exact SlN_one (sl_SlN (gl_oa m1 (S197.cq 3 hcK_168))) | exact SlN_one (sl_SlN (gl_ra m1 (S197.cq 3 hcK_168)))) Zb Zb) (fun u201 l201 hu201 => ?_)
 obtain ⟨v201, rfl, c201, hc201, hl201⟩ := hu201
 refine D_eff V (ZS_eff S197 V V (fun s202 hJ202 hL202 hF202 => ?_))
 obtain ⟨ll200, ws200, we200, ⟨g200q, hq200, c200r, hc200r, hl200r⟩, hm200, k200, e200⟩ := L.all_get (L.all_rest hF202); cases hq200; subst hl200r
 replace hJ202 := hJ202.add hL202 (i := 5) V hm200 k200 e200
 obtain ⟨ll201, ws201, we201, ⟨v201q, hq201, c201r, hc201r, hl201r⟩, hm201, k201, e201⟩ := L.all_get hF202; cases hq201; subst hl201r
 replace hJ202 := hJ202.add hL202 (i := 6) V hm201 k201 e201
 have S202 := hJ202.st; clear hF202 hJ202 hL202
 generalize s202.1 = w202 at *
 replace S202 : St w NoX [c201r, c200r, c197, c155_168, cB_168, cK_168, c157_168, c156_168, c5_168, c4_168, c3_168] w202 := S202
 refine xsC9 (zs' := #[u201]) S202 hc4_168 V V V (Sg (fg9 F198)) t0 (SlN_one (ow_at (S202.cq 0 hc201r))) (fun w203 c203 hc203 S203 => W_end (Qo_normal (en (Qg F198) fun A204 _ F204 => ?_)))
 have S205 := S203.se [0, 2, 3, 4, 5, 6, 7, 8, 9, 10] [c201r, c197, c155_168, cB_168, cK_168, c157_168, c156_168, c5_168, c203, c3_168]
 refine tk H199 (R_seq (fun _ H206 => R_seq (fun _ H207 => R_region om (rL (.pointer (some ⟨gs_10, 0, none⟩)) (fg5 F204) (S205.ob 2 hc155_168) (vm (Sa (fg11 F204)) (rL (.func (.func 51) #[] #[.pointer (some ⟨g3, 0, none⟩)]) (Sb (fg0 F204)) (S205.ob 1 hc197) (wc (args3 (Sb t0) (Sa t0) t0) (kmtP_c (gs := gs_10) (gc := g3) (S205.roC h_lv)) (fun _ w208 ⟨g4_208, g3_208, g7_208, g5_208, e, hP208⟩ => ⟨_, e, ?_⟩))))))))
 obtain ⟨cb4_208, cb3_208, cb7_208, cb5_208, hcb4_208, hcb3_208, hcb7_208, hcb5_208, hP208⟩ := gen4 hP208
 have S208 := S205.j4 hP208
 refine W_end (Qo_normal (en (Ka (Qc F204)) fun A209 _ F209 => tk H207 (R_block ?_)))
 have hfull := fc_end hfc Za
 have hasc := (fc_asc full (-1) os.length hfull).2
 have hfl := fc_len hfull
 obtain ⟨c210, hc210, S210⟩ := S208.pnil (s := 3)
 have S212 := S210.se [0, 8, 9, 1, 2, 3, 4, 5, 6, 7, 10, 11, 12, 13, 14] [c210, cB_168, cK_168, cb4_208, cb3_208, cb7_208, cb5_208, c201r, c197, c155_168, c157_168, c156_168, c5_168, c203, c3_168]
 obtain ⟨ct213, hct213, S213⟩ := genS (mT_shut (gs := gs_10) (T := 77) (n := (lgN C N Z K Q)) (G0 := ((hv_10, H_10), (qv_10, q_10))) (pre := []) (hcB_168) hcK_168 S212)
 replace S213 : St w NoX [c210, ct213, cb4_208, cb3_208, cb7_208, cb5_208, c201r, c197, c155_168, c157_168, c156_168, c5_168, c203, c3_168] w208 := S213
 have S214 := S213.se [0, 2, 3, 4, 5, 6, 7, 8, 9, 10, 11, 12, 13, 1] [c210, cb4_208, cb3_208, cb7_208, cb5_208, c201r, c197, c155_168, c157_168, c156_168, c5_168, c203, c3_168, ct213]
 refine R_rangeT (α := ME) (fg0 F209) (fun args w => calls_enter Tryz.func90 V V args w) (kmoP_it (gs := gs_10) (g3 := g3_208) (g4 := g4_208) (g5 := g5_208) (g7 := g7_208) (gc := g3) (G0 := ((hv_10, H_10), (qv_10, q_10))) (n := (lgN C N Z K Q)) (lv := lv) (os := os) (fv := fv) (full := full) (Rd := fun W => (bx g4_208 24 #[lv]).at W ∧ (rl 7 opC lv os).at W ∧ (bx g3_208 75 #[.pointer (some ⟨gs_10, 0, none⟩)]).at W ∧ (bx g7_208 78 #[.func (.func 38) #[.pointer (some ⟨gs_10, 0, none⟩)] #[]]).at W ∧ (bx g5_208 88 #[.func (.func 51) #[] #[.pointer (some ⟨g3, 0, none⟩)]]).at W ∧ (bx g3 25 #[fv]).at W ∧ (il .i64 fv full).at W) (fun _ h => h) hsm0 lg_rng hops hl2 hasc Za) (fun _ => rfl) (fun pre => pk (fun l => ∃ (gv : Value) (av : Value), (fbd (rfP full) 0 (moP (lgN C N Z K Q) K os full) = fbd (rfP full) pre.length ((moP (lgN C N Z K Q) K os full).drop pre.length)) ∧ l = [ro 3 anC av (pre.map fun x : ME => x.2.1), bx g4_208 24 #[lv], bx g3_208 75 #[.pointer (some ⟨gs_10, 0, none⟩)], bx g7_208 78 #[.func (.func 38) #[.pointer (some ⟨gs_10, 0, none⟩)] #[]], bx g5_208 88 #[.func (.func 51) #[] #[.pointer (some ⟨g3, 0, none⟩)]], ro 2 grC gv (gsM ((hv_10, H_10), (qv_10, q_10)) pre), bx g196 88 #[.func (.func 51) #[] #[.pointer (some ⟨g3, 0, none⟩)]], bx g154 75 #[.pointer (some ⟨gs_10, 0, none⟩)], bx g7 32 #[.int .i64 0], bx g6 3 #[.int .i64 0], bx g5 31 #[av], bx g4 64 #[gv], bx g3 25 #[fv]])) (fun cQ pre => pk (fun l => (cQ = .ret ∧ ∃ (gv : Value) (gL : List GV) (av : Value) (aL : List AnC) (a : Int) (er : Int), (fbd (rfP full) 0 (moP (lgN C N Z K Q) K os full) = (a, er)) ∧ (er ≠ 0) ∧ l = [ro 3 anC av aL, bx g4_208 24 #[lv], bx g3_208 75 #[.pointer (some ⟨gs_10, 0, none⟩)], bx g7_208 78 #[.func (.func 38) #[.pointer (some ⟨gs_10, 0, none⟩)] #[]], bx g5_208 88 #[.func (.func 51) #[] #[.pointer (some ⟨g3, 0, none⟩)]], ro 2 grC gv gL, bx g196 88 #[.func (.func 51) #[] #[.pointer (some ⟨g3, 0, none⟩)]], bx g154 75 #[.pointer (some ⟨gs_10, 0, none⟩)], bx g7 32 #[.int .i64 (er)], bx g6 3 #[.int .i64 (a)], bx g5 31 #[.slice none 0 0], bx g4 64 #[.slice none 0 0], bx g3 25 #[fv]]))) (St.pack (l := [ro 3 anC (.slice none 0 0) ([].map fun x : ME => x.2.1), bx g4_208 24 #[lv], bx g3_208 75 #[.pointer (some ⟨gs_10, 0, none⟩)], bx g7_208 78 #[.func (.func 38) #[.pointer (some ⟨gs_10, 0, none⟩)] #[]], bx g5_208 88 #[.func (.func 51) #[] #[.pointer (some ⟨g3, 0, none⟩)]], ro 2 grC u201 (gsM ((hv_10, H_10), (qv_10, q_10)) []), bx g196 88 #[.func (.func 51) #[] #[.pointer (some ⟨g3, 0, none⟩)]], bx g154 75 #[.pointer (some ⟨gs_10, 0, none⟩)], bx g7 32 #[.int .i64 0], bx g6 3 #[.int .i64 0], bx g5 31 #[(.slice none 0 0)], bx g4 64 #[u201], bx g3 25 #[fv]]) (fr := (mT gs_10 77 (lgN C N Z K Q) ((hv_10, H_10), (qv_10, q_10)) [] :: [])) (by have q0 : c210 = ro 3 anC (.slice none 0 0) ([].map fun x : ME => x.2.1) := hc210; have q1 : cb4_208 = bx g4_208 24 #[lv] := hcb4_208; have q2 : cb3_208 = bx g3_208 75 #[.pointer (some ⟨gs_10, 0, none⟩)] := hcb3_208; have q3 : cb7_208 = bx g7_208 78 #[.func (.func 38) #[.pointer (some ⟨gs_10, 0, none⟩)] #[]] := hcb7_208; have q4 : cb5_208 = bx g5_208 88 #[.func (.func 51) #[] #[.pointer (some ⟨g3, 0, none⟩)]] := hcb5_208; have q5 : c201r = ro 2 grC u201 (gsM ((hv_10, H_10), (qv_10, q_10)) []) := hc201r; have q6 : c197 = bx g196 88 #[.func (.func 51) #[] #[.pointer (some ⟨g3, 0, none⟩)]] := hc197; have q7 : c155_168 = bx g154 75 #[.pointer (some ⟨gs_10, 0, none⟩)] := hc155_168; have q8 : c157_168 = bx g7 32 #[.int .i64 0] := hc157_168; have q9 : c156_168 = bx g6 3 #[.int .i64 0] := hc156_168; have q10 : c5_168 = bx g5 31 #[(.slice none 0 0)] := hc5_168; have q11 : c203 = bx g4 64 #[u201] := hc203; have q12 : c3_168 = bx g3 25 #[fv] := hc3_168; have q13 := hct213; subst q0 q1 q2 q3 q4 q5 q6 q7 q8 q9 q10 q11 q12 q13; exact S214) ⟨u201, (.slice none 0 0), rfl, rfl⟩)
  (fun pre W l' hS => by obtain ⟨l, ⟨gv, av, hz, rfl⟩, hl⟩ := pk_at (hS.ch 0 V); exact ⟨(hl 1 _ V), hS.ro h_lv, (hl 2 _ V), (hl 3 _ V), (hl 4 _ V), (hl 12 _ V), hS.ro h_fv⟩)
  (fun x a' cQ => ∃ g218 : Nat, SzN a' 81 ∧ a'.defers = [] ∧ EV a' (.tmp 6) = EV A209 (.tmp 6) ∧ EV a' (.tmp 7) = EV A209 (.tmp 7) ∧ EV a' (.tmp 8) = EV A209 (.tmp 8) ∧ EV a' (.tmp 9) = EV A209 (.tmp 9) ∧ EV a' (.tmp 10) = EV A209 (.tmp 10) ∧ EV a' (.tmp 14) = EV A209 (.tmp 14) ∧ EV a' (.tmp 15) = .int .i64 (x.1) ∧ EV a' (.tmp 16) = .pointer (some ⟨g218, 0, none⟩) ∧ cQ = pk (·= [bx g218 54 #[.int .i64 (x.2.1.e), .bool (x.2.1.t), .int .u64 (x.2.1.v)]])) ?_ ?_ ?_ ?_
 ·intro la211 pre x wa211 fr K hSa211 hK
  simp only [Ml.encM]
  rw [rnd2]
  obtain ⟨A215, E215⟩ : ∃ A, A = (PT (PT { tmps := A209.tmps, defers := [] } 57 (.int .i64 x.1)) 58 (.agg #[.int .i64 x.2.1.e, .bool x.2.1.t, .int .u64 x.2.1.v])) := ⟨_, rfl⟩
  rw [← E215]
  have Y215 := szq E215
  have hdf215 : A215.defers = [] := by rw [E215]; rfl
  have l6_215 := lookE E215 6 (Sb (rnd_l (fg10 F209)))
  have l7_215 := lookE E215 7 (Sb (rnd_l (fg9 F209)))
  have l8_215 := lookE E215 8 (Sb (rnd_l (fg8 F209)))
  have l9_215 := lookE E215 9 (Sb (rnd_l (fg7 F209)))
  have l10_215 := lookE E215 10 (Sb (rnd_l (fg6 F209)))
  have l14_215 := lookE E215 14 (Sb (rnd_l (fg1 F209)))
  have l57_215 := lookE E215 57 (Sa t0)
  have l58_215 := lookE E215 58 t0
  clear E215
  obtain ⟨cI, hcI, hSa211⟩ := gen1 hSa211
  refine R_seq (fun _ H216 => R_region om (va l57_215 (W_end (Qo_normal (en (((((((((ck (FS.n hdf215) V V)).c (es V l6_215)).c (es V l7_215)).c (es V l8_215)).c (es V l9_215)).c (es V l10_215)).c (es V l14_215)).c (Sa l58_215)) fun A217 _ F217 => tk H216 (R_region om (wA (#[.int .i64 0, .bool false, .int .u64 0]) hSa211 (fun g218 w218 c218 hc218 S218 => ?_))))))))
  replace S218 : St w NoX (c218 :: cI :: fr) w218 := S218
  refine xsA 0 S218 V hc218 V V V t0 (Sa (fg0 F217)) (fun w219 c219 hc219 S219 => ?_)
  replace S219 : St w NoX (c219 :: cI :: fr) w219 := S219
  refine W_end (Qo_normal (en (Ka F217) fun A220 Y220 F220 => then_n (hK _ _ _ ⟨g218, Y220, F220.d, ((fg7 F220).trans (fg10 F209).symm), ((fg6 F220).trans (fg9 F209).symm), ((fg5 F220).trans (fg8 F209).symm), ((fg4 F220).trans (fg7 F209).symm), ((fg3 F220).trans (fg6 F209).symm), ((fg2 F220).trans (fg1 F209).symm), (fg8 F220), (fg0 F220), rfl⟩ ?_)))
  subst hc219 hcI; exact S219.asg1
 ·rintro lb221 pre x A221 w221 cQ fr hAx hlr S221 hVd
  obtain ⟨g218, Y221, hdf221, u6_221, u7_221, u8_221, u9_221, u10_221, u14_221, l15_221, l16_221, rfl⟩ := hAx
  have l6_221 := u6_221.trans (fg10 F209)
  have l7_221 := u7_221.trans (fg9 F209)
  have l8_221 := u8_221.trans (fg8 F209)
  have l9_221 := u9_221.trans (fg7 F209)
  have l10_221 := u10_221.trans (fg6 F209)
  have l14_221 := u14_221.trans (fg1 F209)
  obtain ⟨_, _, ⟨gv, av, hz, rfl⟩, rfl, S221⟩ := S221.body2
  replace S221 : St w NoX ((ro 3 anC av (pre.map fun x : ME => x.2.1)) :: (bx g4_208 24 #[lv]) :: (bx g3_208 75 #[.pointer (some ⟨gs_10, 0, none⟩)]) :: (bx g7_208 78 #[.func (.func 38) #[.pointer (some ⟨gs_10, 0, none⟩)] #[]]) :: (bx g5_208 88 #[.func (.func 51) #[] #[.pointer (some ⟨g3, 0, none⟩)]]) :: (ro 2 grC gv (gsM ((hv_10, H_10), (qv_10, q_10)) pre)) :: (bx g196 88 #[.func (.func 51) #[] #[.pointer (some ⟨g3, 0, none⟩)]]) :: (bx g154 75 #[.pointer (some ⟨gs_10, 0, none⟩)]) :: (bx g7 32 #[.int .i64 0]) :: (bx g6 3 #[.int .i64 0]) :: (bx g5 31 #[av]) :: (bx g4 64 #[gv]) :: (bx g3 25 #[fv]) :: (bx g218 54 #[.int .i64 (x.2.1.e), .bool (x.2.1.t), .int .u64 (x.2.1.v)]) :: (mT gs_10 77 (lgN C N Z K Q) ((hv_10, H_10), (qv_10, q_10)) (pre ++ [x])) :: fr) w221 := S221
  obtain ⟨c210_222, cb4_222, cb3_222, cb7_222, cb5_222, c201r_222, c197_222, c155_222, c157_222, c156_222, c5_222, c203_222, c3_222, c219_222, ct_222, hc210_222, hcb4_222, hcb3_222, hcb7_222, hcb5_222, hc201r_222, hc197_222, hc155_222, hc157_222, hc156_222, hc5_222, hc203_222, hc3_222, hc219_222, hct_222, S221⟩ := gen15 S221
  have S223 : St w NoX (c210_222 :: ct_222 :: cb4_222 :: cb3_222 :: cb7_222 :: cb5_222 :: c201r_222 :: c197_222 :: c155_222 :: c157_222 :: c156_222 :: c5_222 :: c203_222 :: c3_222 :: c219_222 :: fr) w221 := St.selR (l := [c210_222, cb4_222, cb3_222, cb7_222, cb5_222, c201r_222, c197_222, c155_222, c157_222, c156_222, c5_222, c203_222, c3_222, c219_222, ct_222]) (l' := [c210_222, ct_222, cb4_222, cb3_222, cb7_222, cb5_222, c201r_222, c197_222, c155_222, c157_222, c156_222, c5_222, c203_222, c3_222, c219_222]) (fr := fr) S221 [0, 14, 1, 2, 3, 4, 5, 6, 7, 8, 9, 10, 11, 12, 13] Zg Zd V
  obtain ⟨cb224, ck224, hcb224, hck224, S224⟩ := mT_open (hct_222 ▸ S223)
  rw [lastG_app] at hcb224
  replace S224 : St w NoX (c210_222 :: cb224 :: ck224 :: cb4_222 :: cb3_222 :: cb7_222 :: cb5_222 :: c201r_222 :: c197_222 :: c155_222 :: c157_222 :: c156_222 :: c5_222 :: c203_222 :: c3_222 :: c219_222 :: fr) w221 := S224
  have hpl : pre.length + 1 ≤ os.length := by have := hVd.len; simpa using this
  have hgl : (gsM ((hv_10, H_10), (qv_10, q_10)) pre).length = pre.length + 1 := by simp [gsM]
  refine R_block (R_seq (fun _ H225 => R_seq (fun _ H226 => R_mid (G := fun A' w' => SzN A' 81 ∧ A'.defers = [] ∧ (EV A' (.tmp 6) = EV A221 (.tmp 6)) ∧ (EV A' (.tmp 7) = EV A221 (.tmp 7)) ∧ (EV A' (.tmp 8) = EV A221 (.tmp 8)) ∧ (EV A' (.tmp 9) = EV A221 (.tmp 9)) ∧ (EV A' (.tmp 10) = EV A221 (.tmp 10)) ∧ (EV A' (.tmp 15) = EV A221 (.tmp 15)) ∧ (EV A' (.tmp 16) = EV A221 (.tmp 16)) ∧ (EV A' (.tmp 66) = .bool (decide ((x.1 ∈ full) ∧ (x.2.1.e ≠ 5)))) ∧ St w NoX (c210_222 :: cb224 :: ck224 :: cb4_222 :: cb3_222 :: cb7_222 :: cb5_222 :: c201r_222 :: c197_222 :: c155_222 :: c157_222 :: c156_222 :: c5_222 :: c203_222 :: c3_222 :: c219_222 :: fr) w') ?_ ?_)))
  ·have j6_227 := l6_221
   have j7_227 := l7_221
   have j8_227 := l8_221
   have j9_227 := l9_221
   have j10_227 := l10_221
   have j15_227 := l15_221
   have j16_227 := l16_221
   refine R_region om (rL (.func (.func 51) #[] #[.pointer (some ⟨g3, 0, none⟩)]) l14_221 (S224.ob 8 hc197_222) (vm (Sa l15_221) (W_callV V V V (Sa t0) Tryz.func51 om V (args1 t0) (kp1_c (i := x.1) (gfv := g3) (S224.cC 14 hc3_222) (S224.roC h_fv) Zc Ze) (fun _ w228 ⟨e, hP228⟩ => ⟨_, e, ?_⟩))))
   have S228 := S224.join hP228
   replace S228 : St w NoX (c210_222 :: cb224 :: ck224 :: cb4_222 :: cb3_222 :: cb7_222 :: cb5_222 :: c201r_222 :: c197_222 :: c155_222 :: c157_222 :: c156_222 :: c5_222 :: c203_222 :: c3_222 :: c219_222 :: fr) w228 := S228
   refine W_split V V (V_mov V t0) (fun c229 => ?_) (fun c229 => ?_)
   ·refine wg V t0 (ufa 0 (Sd l16_221)) (wq V (Sa t0) (urL (.int .i64 (x.2.1.e)) t0 (S228.ob 15 hc219_222)) (wg V (Sb t0) (uvn t0 V) (vT (Sc t0) t0 (W_end (Qo_normal (en (((((((((ck (cq7 (FS.n hdf221) V) V V)).c (es8 V l6_221)).c (es8 V l7_221)).c (es8 V l8_221)).c (es8 V l9_221)).c (es8 V l10_221)).c (es8 V l15_221)).c (Sh l16_221)) fun A230 Y230 F230 => ?_))))))
    exact Mid_n ⟨Y230, F230.d, ((fg6 F230).trans j6_227.symm), ((fg5 F230).trans j7_227.symm), ((fg4 F230).trans j8_227.symm), ((fg3 F230).trans j9_227.symm), ((fg2 F230).trans j10_227.symm), ((fg1 F230).trans j15_227.symm), ((fg0 F230).trans j16_227.symm), ((fg7 F230).trans (congrArg Value.bool (decide_eq_decide.2 ⟨fun q => ⟨c229, q⟩, fun q => q.2⟩))), S228⟩
   refine xo V t0 (xo V (Sa t0) (xo V (Sb t0) (vF (Sc t0) V (W_end (Qo_normal (en (((((((((ck (cq7 (FS.n hdf221) V) V V)).c (es8 V l6_221)).c (es8 V l7_221)).c (es8 V l8_221)).c (es8 V l9_221)).c (es8 V l10_221)).c (es8 V l15_221)).c (Sh l16_221)) fun A231 Y231 F231 => ?_))))))
   exact Mid_n ⟨Y231, F231.d, ((fg6 F231).trans j6_227.symm), ((fg5 F231).trans j7_227.symm), ((fg4 F231).trans j8_227.symm), ((fg3 F231).trans j9_227.symm), ((fg2 F231).trans j10_227.symm), ((fg1 F231).trans j15_227.symm), ((fg0 F231).trans j16_227.symm), ((fg7 F231).trans (congrArg Value.bool ((decide_eq_false (fun q => c229 q.1)).symm))), S228⟩
  rintro A227 w227 ⟨Y227, hdf227, u6_227, u7_227, u8_227, u9_227, u10_227, u15_227, u16_227, l66_227, S227⟩
  have l6_227 := u6_227.trans l6_221
  have l7_227 := u7_227.trans l7_221
  have l8_227 := u8_227.trans l8_221
  have l9_227 := u9_227.trans l9_221
  have l10_227 := u10_227.trans l10_221
  have l15_227 := u15_227.trans l15_221
  have l16_227 := u16_227.trans l16_221
  refine tk H226 (R_cond_dec l66_227 (fun c232 => ?_) (fun c232 => ?_))
  ·refine R_seq (fun _ H233 => R_region om (vm l15_227 (xsC (zs' := #[.slice none 0 0]) 13 S227 V hc203_222 V V V (Sa l6_227) V Zd (fun w234 c234 hc234 S234 => ?_))))
   replace S234 : St w NoX (c210_222 :: cb224 :: ck224 :: cb4_222 :: cb3_222 :: cb7_222 :: cb5_222 :: c201r_222 :: c197_222 :: c155_222 :: c157_222 :: c156_222 :: c5_222 :: c234 :: c3_222 :: c219_222 :: fr) w234 := S234
   refine xsC (zs' := #[.slice none 0 0]) 12 S234 V hc5_222 V V V (Sa l7_227) V Zd (fun w235 c235 hc235 S235 => ?_)
   replace S235 : St w NoX (c210_222 :: cb224 :: ck224 :: cb4_222 :: cb3_222 :: cb7_222 :: cb5_222 :: c201r_222 :: c197_222 :: c155_222 :: c157_222 :: c156_222 :: c235 :: c234 :: c3_222 :: c219_222 :: fr) w235 := S235
   refine xsC (zs' := #[.int .i64 (x.1)]) 11 S235 V hc156_222 V V V (Sa l8_227) t0 Zd (fun w236 c236 hc236 S236 => ?_)
   replace S236 : St w NoX (c210_222 :: cb224 :: ck224 :: cb4_222 :: cb3_222 :: cb7_222 :: cb5_222 :: c201r_222 :: c197_222 :: c155_222 :: c157_222 :: c236 :: c235 :: c234 :: c3_222 :: c219_222 :: fr) w236 := S236
   refine xsC (zs' := #[.int .i64 2]) 10 S236 V hc157_222 V V V (Sa l9_227) V Zd (fun w237 c237 hc237 S237 => ?_)
   replace S237 : St w NoX (c210_222 :: cb224 :: ck224 :: cb4_222 :: cb3_222 :: cb7_222 :: cb5_222 :: c201r_222 :: c197_222 :: c155_222 :: c237 :: c236 :: c235 :: c234 :: c3_222 :: c219_222 :: fr) w237 := S237
   refine W_end (Qo_normal (en ((((((cq1 (FS.n hdf227) V)).c (es V l6_227)).c (es V l7_227)).c (es V l8_227)).c (Sa l9_227)) fun A238 _ F238 => ?_))
   have S240 := S237.del 15
   replace S240 : St w NoX (c210_222 :: cb224 :: ck224 :: cb4_222 :: cb3_222 :: cb7_222 :: cb5_222 :: c201r_222 :: c197_222 :: c155_222 :: c237 :: c236 :: c235 :: c234 :: c3_222 :: fr) w237 := S240
   refine tk H233 (R_ret (then_ret (inb_ret ?_)))
   obtain ⟨ct241, hct241, S241⟩ := genS (mT_shut (gs := gs_10) (T := 77) (n := (lgN C N Z K Q)) (G0 := ((hv_10, H_10), (qv_10, q_10))) (pre := (pre ++ [x])) (hcb224.trans (by rw [lastG_app])) hck224 S240)
   replace S241 : St w NoX (c210_222 :: ct241 :: cb4_222 :: cb3_222 :: cb7_222 :: cb5_222 :: c201r_222 :: c197_222 :: c155_222 :: c237 :: c236 :: c235 :: c234 :: c3_222 :: fr) w237 := S241
   have S242 : St w NoX (c210_222 :: cb4_222 :: cb3_222 :: cb7_222 :: cb5_222 :: c201r_222 :: c197_222 :: c155_222 :: c237 :: c236 :: c235 :: c234 :: c3_222 :: ct241 :: fr) w237 := St.selR (l := [c210_222, ct241, cb4_222, cb3_222, cb7_222, cb5_222, c201r_222, c197_222, c155_222, c237, c236, c235, c234, c3_222]) (l' := [c210_222, cb4_222, cb3_222, cb7_222, cb5_222, c201r_222, c197_222, c155_222, c237, c236, c235, c234, c3_222, ct241]) (fr := fr) S241 [0, 2, 3, 4, 5, 6, 7, 8, 9, 10, 11, 12, 13, 1] Zg Zd V
   exact (St.pack (l := [ro 3 anC av (pre.map fun x : ME => x.2.1), bx g4_208 24 #[lv], bx g3_208 75 #[.pointer (some ⟨gs_10, 0, none⟩)], bx g7_208 78 #[.func (.func 38) #[.pointer (some ⟨gs_10, 0, none⟩)] #[]], bx g5_208 88 #[.func (.func 51) #[] #[.pointer (some ⟨g3, 0, none⟩)]], ro 2 grC gv (gsM ((hv_10, H_10), (qv_10, q_10)) pre), bx g196 88 #[.func (.func 51) #[] #[.pointer (some ⟨g3, 0, none⟩)]], bx g154 75 #[.pointer (some ⟨gs_10, 0, none⟩)], bx g7 32 #[.int .i64 (2)], bx g6 3 #[.int .i64 (x.1)], bx g5 31 #[.slice none 0 0], bx g4 64 #[.slice none 0 0], bx g3 25 #[fv]]) (fr := (mT gs_10 77 (lgN C N Z K Q) ((hv_10, H_10), (qv_10, q_10)) (pre ++ [x]) :: fr)) (by have q0 : c210_222 = ro 3 anC av (pre.map fun x : ME => x.2.1) := hc210_222; have q1 : cb4_222 = bx g4_208 24 #[lv] := hcb4_222; have q2 : cb3_222 = bx g3_208 75 #[.pointer (some ⟨gs_10, 0, none⟩)] := hcb3_222; have q3 : cb7_222 = bx g7_208 78 #[.func (.func 38) #[.pointer (some ⟨gs_10, 0, none⟩)] #[]] := hcb7_222; have q4 : cb5_222 = bx g5_208 88 #[.func (.func 51) #[] #[.pointer (some ⟨g3, 0, none⟩)]] := hcb5_222; have q5 : c201r_222 = ro 2 grC gv (gsM ((hv_10, H_10), (qv_10, q_10)) pre) := hc201r_222; have q6 : c197_222 = bx g196 88 #[.func (.func 51) #[] #[.pointer (some ⟨g3, 0, none⟩)]] := hc197_222; have q7 : c155_222 = bx g154 75 #[.pointer (some ⟨gs_10, 0, none⟩)] := hc155_222; have q8 : c237 = bx g7 32 #[.int .i64 (2)] := hc237; have q9 : c236 = bx g6 3 #[.int .i64 (x.1)] := hc236; have q10 : c235 = bx g5 31 #[.slice none 0 0] := hc235; have q11 : c234 = bx g4 64 #[.slice none 0 0] := hc234; have q12 : c3_222 = bx g3 25 #[fv] := hc3_222; have q13 := hct241; subst q0 q1 q2 q3 q4 q5 q6 q7 q8 q9 q10 q11 q12 q13; exact S242) (⟨rfl, gv, (gsM ((hv_10, H_10), (qv_10, q_10)) pre), av, (pre.map fun x : ME => x.2.1), x.1, 2, (pl_bad hgK hVd hz c232.1 c232.2), Zg, rfl⟩))
  refine R_skip (tk H225 ?_)
  have hll243 : [x.2.2].length = 1 := rfl
  have hll245 : [(AnC.mk x.2.1.e x.2.1.t x.2.1.v)].length = 1 := rfl
  refine R_any om om 13 V (fun w363 hx363 => ?_)
  have S363 := S227.grow hx363
  have S363 := pkR (l := [c210_222, cb224, ck224, cb4_222, cb3_222, cb7_222, cb5_222, c201r_222, c197_222, c155_222, c157_222, c156_222, c5_222, c203_222, c3_222, c219_222]) (fr := fr) S363
  refine AX_parL (l0 := [c210_222, cb224, ck224, cb4_222, cb3_222, cb7_222, cb5_222, c201r_222, c197_222, c155_222, c157_222, c156_222, c5_222, c203_222, c3_222, c219_222, pk (·= fr)]) (k := 2) [⟨[13], [], [68], fun vs => [], fun vs => (vs.getD 0 undef) = gv⟩, ⟨[9], [], [69], fun vs => [], fun vs => (vs.getD 0 undef) = .pointer (some ⟨gs_10, 0, none⟩)⟩, ⟨[], [], [70], fun vs => [], fun vs => (vs.getD 0 undef) = .pointer (some ⟨gs_10, 0, none⟩)⟩, ⟨[], [], [71], fun vs => [], fun vs => (vs.getD 0 undef) = .pointer (some ⟨gs_10, 0, none⟩)⟩, ⟨[1], [], [72], fun vs => [], fun vs => (vs.getD 0 undef) = .agg #[x.2.2.1.1, x.2.2.2.1]⟩, ⟨[], [17], [73], fun vs => [ro 2 grC (vs.getD 0 undef) [x.2.2]], fun vs => True⟩, ⟨[17, 2], [7], [74], fun vs => [ro 2 grC (vs.getD 0 undef) ((gsM ((hv_10, H_10), (qv_10, q_10)) pre) ++ [x.2.2])], fun vs => True⟩, ⟨[12], [], [75], fun vs => [], fun vs => (vs.getD 0 undef) = av⟩, ⟨[15], [], [76], fun vs => [], fun vs => (vs.getD 0 undef) = .agg #[.int .i64 (x.2.1.e), .bool (x.2.1.t), .int .u64 (x.2.1.v)]⟩, ⟨[], [18], [77], fun vs => [ro 3 anC (vs.getD 0 undef) [(AnC.mk x.2.1.e x.2.1.t x.2.1.v)]], fun vs => True⟩, ⟨[18], [0], [78], fun vs => [ro 3 anC (vs.getD 0 undef) ((pre.map fun x : ME => x.2.1) ++ [(AnC.mk x.2.1.e x.2.1.t x.2.1.v)])], fun vs => True⟩, ⟨[7], [13], [74], fun vs => [bx g4 64 #[(vs.getD 0 undef)]], fun vs => True⟩, ⟨[0], [12], [78], fun vs => [bx g5 31 #[(vs.getD 0 undef)]], fun vs => True⟩] [c210_222, cb224, ck224, cb4_222, cb3_222, cb7_222, cb5_222, c201r_222, c197_222, c155_222, c157_222, c156_222, c5_222, c203_222, c3_222, c219_222, pk (·= fr), pu True, pu True] S363 V om V ⟨?_, ?_, ?_, ?_, ?_, ?_, ?_, ?_, ?_, ?_, ?_, ?_, ?_, trivial⟩ ?_
  ·refine stepI [] (fun vs => [c203_222]) V (fun a => by kernel_rfl) ?_
   intro A364 w364 rst hFr hF S364
   replace S364 : St w NoX [c203_222, rst] w364 := S364
   have Y364 : SzN A364 81 := ⟨hFr.sz.trans Y227.out⟩
   have hdf364 : A364.defers = [] := hFr.df.trans hdf227
   have l6_364 := (oldS hFr 6 om).trans l6_227
   obtain ⟨c203_364, hc203_364, S364⟩ := gen1 S364
   replace hc203_364 := hc203_364.trans hc203_222
   refine rL gv l6_364 (S364.ob 0 hc203_364) (W_end (kq _ ?_))
   exact ⟨_, [gv], rfl, ts1 (et V), rfl, rfl, by subst hc203_364 hc203_222; exact S364⟩
  ·refine stepI [] (fun vs => [c155_222]) V (fun a => by kernel_rfl) ?_
   intro A365 w365 rst hFr hF S365
   replace S365 : St w NoX [c155_222, rst] w365 := S365
   have Y365 : SzN A365 81 := ⟨hFr.sz.trans Y227.out⟩
   have hdf365 : A365.defers = [] := hFr.df.trans hdf227
   have l10_365 := (oldS hFr 10 om).trans l10_227
   obtain ⟨c155_365, hc155_365, S365⟩ := gen1 S365
   replace hc155_365 := hc155_365.trans hc155_222
   refine rL (.pointer (some ⟨gs_10, 0, none⟩)) l10_365 (S365.ob 0 hc155_365) (W_end (kq _ ?_))
   exact ⟨_, [.pointer (some ⟨gs_10, 0, none⟩)], rfl, ts1 (et V), rfl, rfl, by subst hc155_365 hc155_222; exact S365⟩
  ·refine stepI [] (fun vs => []) V (fun a => by kernel_rfl) ?_
   intro A366 w366 rst hFr hF S366
   replace S366 : St w NoX [rst] w366 := S366
   have f69_366 : EV A366 (.tmp 69) = .pointer (some ⟨gs_10, 0, none⟩) := hF 1 om
   generalize q69_366 : EV A366 (.tmp 69) = us69 at S366 f69_366
   have l69_366 := q69_366.trans f69_366
   have Y366 : SzN A366 81 := ⟨hFr.sz.trans Y227.out⟩
   have hdf366 : A366.defers = [] := hFr.df.trans hdf227
   refine ni l69_366 (W_end (kq _ ?_))
   subst q69_366
   exact ⟨_, [.pointer (some ⟨gs_10, 0, none⟩)], rfl, ts1 (et V), rfl, rfl, S366⟩
  ·refine stepI [] (fun vs => []) V (fun a => by kernel_rfl) ?_
   intro A367 w367 rst hFr hF S367
   replace S367 : St w NoX [rst] w367 := S367
   have f70_367 : EV A367 (.tmp 70) = .pointer (some ⟨gs_10, 0, none⟩) := hF 2 om
   generalize q70_367 : EV A367 (.tmp 70) = us70 at S367 f70_367
   have l70_367 := q70_367.trans f70_367
   have Y367 : SzN A367 81 := ⟨hFr.sz.trans Y227.out⟩
   have hdf367 : A367.defers = [] := hFr.df.trans hdf227
   refine fa 0 l70_367 (W_end (kq _ ?_))
   subst q70_367
   exact ⟨_, [.pointer (some ⟨gs_10, 0, none⟩)], rfl, ts1 (et V), rfl, rfl, S367⟩
  ·refine stepI [] (fun vs => [cb224]) V (fun a => by kernel_rfl) ?_
   intro A368 w368 rst hFr hF S368
   replace S368 : St w NoX [cb224, rst] w368 := S368
   have f71_368 : EV A368 (.tmp 71) = .pointer (some ⟨gs_10, 0, none⟩) := hF 3 om
   generalize q71_368 : EV A368 (.tmp 71) = us71 at S368 f71_368
   have l71_368 := q71_368.trans f71_368
   have Y368 : SzN A368 81 := ⟨hFr.sz.trans Y227.out⟩
   have hdf368 : A368.defers = [] := hFr.df.trans hdf227
   obtain ⟨cb224_368, hcb224_368, S368⟩ := gen1 S368
   replace hcb224_368 := hcb224_368.trans hcb224
   refine wr (VR_ldP (ys := [x.2.2.1.1, x.2.2.2.1]) V l71_368 (S368.ob 0 hcb224_368) (ldP_at V) Tryz.underlying30 V om) (W_end (kq _ ?_))
   subst q71_368
   exact ⟨_, [.agg #[x.2.2.1.1, x.2.2.2.1]], rfl, ts1 (et V), rfl, rfl, by subst hcb224_368 hcb224; exact S368⟩
  ·refine stepI [] (fun vs => [pu True]) V (fun a => by kernel_rfl) ?_
   intro A369 w369 rst hFr hF S369
   replace S369 : St w NoX [pu True, rst] w369 := S369
   have f72_369 : EV A369 (.tmp 72) = .agg #[x.2.2.1.1, x.2.2.2.1] := hF 4 om
   generalize q72_369 : EV A369 (.tmp 72) = us72 at S369 f72_369
   have l72_369 := q72_369.trans f72_369
   have Y369 : SzN A369 81 := ⟨hFr.sz.trans Y227.out⟩
   have hdf369 : A369.defers = [] := hFr.df.trans hdf227
   obtain ⟨cz_369, hcz_369, S369⟩ := gen1 S369
   have hll370 : [x.2.2].length = 1 := rfl
   refine xsL (vs := [.agg #[x.2.2.1.1, x.2.2.2.1]]) (xs := ([x.2.2].flatMap grC)) 2 S369 V V V (parts1 l72_369) Tryz.underlying64 (fun g370 w370 c370 hc370 S370 => ?_)
   replace hc370 : c370 = ro 2 grC (.slice (some ⟨g370, 0, none⟩) 1 1) [x.2.2] := hc370
   replace S370 : St w NoX (c370 :: cz_369 :: [rst]) w370 := S370
   refine W_end (kq _ ?_)
   have S372 := S370.del 1
   replace S372 : St w NoX (c370 :: [rst]) w370 := S372
   subst q72_369
   exact ⟨_, [(.slice (some ⟨g370, 0, none⟩) 1 1)], rfl, ts1 (et V), trivial, rfl, by subst hc370; exact S372⟩
  ·refine stepI [73] (fun vs => [ro 2 grC (vs.getD 0 undef) [x.2.2], ck224, c201r_222]) V (fun a => by kernel_rfl) ?_
   intro A373 w373 rst hFr hF S373
   replace S373 : St w NoX [ro 2 grC (EV A373 (.tmp 73)) [x.2.2], ck224, c201r_222, rst] w373 := S373
   have f68_373 : EV A373 (.tmp 68) = gv := hF 0 om
   generalize q68_373 : EV A373 (.tmp 68) = us68 at S373 f68_373
   generalize q73_373 : EV A373 (.tmp 73) = us73 at S373 f68_373
   have l68_373 := q68_373.trans f68_373
   have l73_373 := q73_373
   have Y373 : SzN A373 81 := ⟨hFr.sz.trans Y227.out⟩
   have hdf373 : A373.defers = [] := hFr.df.trans hdf227
   obtain ⟨c303_373, ck224_373, c201r_373, hc303_373, hck224_373, hc201r_373, S373⟩ := gen3 S373
   replace hck224_373 := hck224_373.trans hck224
   replace hc201r_373 := hc201r_373.trans hc201r_222
   refine W_appS 2 2 S373 V hc201r_373 V V V l68_373 l73_373 Tryz.underlying64 Tryz.underlying64 (z := .agg #[.slice none 0 0, .slice none 0 0]) (bytes := 48) om V Zg (ow_at (S373.cq 0 hc303_373)) (by intro u hu; simp only [List.flatMap_cons, List.flatMap_nil, grC, List.append_nil, List.cons_append, List.nil_append, List.mem_cons, List.not_mem_nil, or_false] at hu; rcases hu with rfl | rfl <;> first | exact SlN_one (sl_SlN (gl_oa gsM_last (S373.cq 1 hck224_373))) | exact SlN_one (sl_SlN (gl_ra gsM_last (S373.cq 1 hck224_373)))) Zb Zb (fun v374 w374 c374 hc374 S374 => ?_)
   replace hc374 : c374 = ro 2 grC v374 ((gsM ((hv_10, H_10), (qv_10, q_10)) pre) ++ [x.2.2]) := hc374.trans (app_eqR (by first | (simp; done) | (rw [List.take_of_length_le (l := List.drop _ _) (by rw [List.length_drop]; exact Nat.le_refl _)])))
   replace S374 : St w NoX (c303_373 :: ck224_373 :: c374 :: [rst]) w374 := S374
   refine W_end (kq _ ?_)
   subst q68_373 q73_373
   exact ⟨_, [v374], rfl, ts1 (et V), trivial, rfl, by subst hc303_373 hck224_373 hc374 hck224 hc201r_222; exact S374⟩
  ·refine stepI [] (fun vs => [c5_222]) V (fun a => by kernel_rfl) ?_
   intro A375 w375 rst hFr hF S375
   replace S375 : St w NoX [c5_222, rst] w375 := S375
   have Y375 : SzN A375 81 := ⟨hFr.sz.trans Y227.out⟩
   have hdf375 : A375.defers = [] := hFr.df.trans hdf227
   have l7_375 := (oldS hFr 7 om).trans l7_227
   obtain ⟨c5_375, hc5_375, S375⟩ := gen1 S375
   replace hc5_375 := hc5_375.trans hc5_222
   refine rL av l7_375 (S375.ob 0 hc5_375) (W_end (kq _ ?_))
   exact ⟨_, [av], rfl, ts1 (et V), rfl, rfl, by subst hc5_375 hc5_222; exact S375⟩
  ·refine stepI [] (fun vs => [c219_222]) V (fun a => by kernel_rfl) ?_
   intro A376 w376 rst hFr hF S376
   replace S376 : St w NoX [c219_222, rst] w376 := S376
   have Y376 : SzN A376 81 := ⟨hFr.sz.trans Y227.out⟩
   have hdf376 : A376.defers = [] := hFr.df.trans hdf227
   have l16_376 := (oldS hFr 16 om).trans l16_227
   obtain ⟨c219_376, hc219_376, S376⟩ := gen1 S376
   replace hc219_376 := hc219_376.trans hc219_222
   refine ra l16_376 (S376.ob 0 hc219_376) (W_end (kq _ ?_))
   exact ⟨_, [.agg #[.int .i64 (x.2.1.e), .bool (x.2.1.t), .int .u64 (x.2.1.v)]], rfl, ts1 (et V), rfl, rfl, by subst hc219_376 hc219_222; exact S376⟩
  ·refine stepI [] (fun vs => [pu True]) V (fun a => by kernel_rfl) ?_
   intro A377 w377 rst hFr hF S377
   replace S377 : St w NoX [pu True, rst] w377 := S377
   have f76_377 : EV A377 (.tmp 76) = .agg #[.int .i64 (x.2.1.e), .bool (x.2.1.t), .int .u64 (x.2.1.v)] := hF 8 om
   generalize q76_377 : EV A377 (.tmp 76) = us76 at S377 f76_377
   have l76_377 := q76_377.trans f76_377
   have Y377 : SzN A377 81 := ⟨hFr.sz.trans Y227.out⟩
   have hdf377 : A377.defers = [] := hFr.df.trans hdf227
   obtain ⟨cz_377, hcz_377, S377⟩ := gen1 S377
   have hll378 : [(AnC.mk x.2.1.e x.2.1.t x.2.1.v)].length = 1 := rfl
   refine xsL (vs := [.agg #[.int .i64 (x.2.1.e), .bool (x.2.1.t), .int .u64 (x.2.1.v)]]) (xs := ([(AnC.mk x.2.1.e x.2.1.t x.2.1.v)].flatMap anC)) 3 S377 V V V (parts1 l76_377) Tryz.underlying31 (fun g378 w378 c378 hc378 S378 => ?_)
   replace hc378 : c378 = ro 3 anC (.slice (some ⟨g378, 0, none⟩) 1 1) [(AnC.mk x.2.1.e x.2.1.t x.2.1.v)] := hc378
   replace S378 : St w NoX (c378 :: cz_377 :: [rst]) w378 := S378
   refine W_end (kq _ ?_)
   have S380 := S378.del 1
   replace S380 : St w NoX (c378 :: [rst]) w378 := S380
   subst q76_377
   exact ⟨_, [(.slice (some ⟨g378, 0, none⟩) 1 1)], rfl, ts1 (et V), trivial, rfl, by subst hc378; exact S380⟩
  ·refine stepI [77] (fun vs => [ro 3 anC (vs.getD 0 undef) [(AnC.mk x.2.1.e x.2.1.t x.2.1.v)], c210_222]) V (fun a => by kernel_rfl) ?_
   intro A381 w381 rst hFr hF S381
   replace S381 : St w NoX [ro 3 anC (EV A381 (.tmp 77)) [(AnC.mk x.2.1.e x.2.1.t x.2.1.v)], c210_222, rst] w381 := S381
   have f75_381 : EV A381 (.tmp 75) = av := hF 7 om
   generalize q75_381 : EV A381 (.tmp 75) = us75 at S381 f75_381
   generalize q77_381 : EV A381 (.tmp 77) = us77 at S381 f75_381
   have l75_381 := q75_381.trans f75_381
   have l77_381 := q77_381
   have Y381 : SzN A381 81 := ⟨hFr.sz.trans Y227.out⟩
   have hdf381 : A381.defers = [] := hFr.df.trans hdf227
   obtain ⟨c305_381, c210_381, hc305_381, hc210_381, S381⟩ := gen2 S381
   replace hc210_381 := hc210_381.trans hc210_222
   refine W_appS 3 1 S381 V hc210_381 V V V l75_381 l77_381 Tryz.underlying31 Tryz.underlying31 (z := .agg #[.int .i64 0, .bool false, .int .u64 0]) (bytes := 24) om V Zg (ow_at (S381.cq 0 hc305_381)) (ones_r anC_one) Zb Zb (fun v382 w382 c382 hc382 S382 => ?_)
   replace hc382 : c382 = ro 3 anC v382 ((pre.map fun x : ME => x.2.1) ++ [(AnC.mk x.2.1.e x.2.1.t x.2.1.v)]) := hc382.trans (app_eqR (by first | (simp; done) | (rw [List.take_of_length_le (l := List.drop _ _) (by rw [List.length_drop]; exact Nat.le_refl _)])))
   replace S382 : St w NoX (c305_381 :: c382 :: [rst]) w382 := S382
   refine W_end (kq _ ?_)
   subst q75_381 q77_381
   exact ⟨_, [v382], rfl, ts1 (et V), trivial, rfl, by subst hc305_381 hc382 hc210_222; exact S382⟩
  ·refine stepI [74] (fun vs => [ro 2 grC (vs.getD 0 undef) ((gsM ((hv_10, H_10), (qv_10, q_10)) pre) ++ [x.2.2]), c203_222]) V (fun a => by kernel_rfl) ?_
   intro A383 w383 rst hFr hF S383
   replace S383 : St w NoX [ro 2 grC (EV A383 (.tmp 74)) ((gsM ((hv_10, H_10), (qv_10, q_10)) pre) ++ [x.2.2]), c203_222, rst] w383 := S383
   generalize q74_383 : EV A383 (.tmp 74) = us74 at S383
   have l74_383 := q74_383
   have Y383 : SzN A383 81 := ⟨hFr.sz.trans Y227.out⟩
   have hdf383 : A383.defers = [] := hFr.df.trans hdf227
   have l6_383 := (oldS hFr 6 om).trans l6_227
   obtain ⟨c304_383, c203_383, hc304_383, hc203_383, S383⟩ := gen2 S383
   replace hc203_383 := hc203_383.trans hc203_222
   refine xsC (zs' := #[us74]) 1 S383 V hc203_383 V V V l6_383 l74_383 (SlN_one (ow_at (S383.cq 0 hc304_383))) (fun w384 c384 hc384 S384 => ?_)
   replace S384 : St w NoX (c304_383 :: c384 :: [rst]) w384 := S384
   refine W_end (kq _ ?_)
   subst q74_383
   exact ⟨undef, [EV A383 (.tmp 74)], rfl, ts1 rfl, trivial, rfl, by subst hc304_383 hc384 hc203_222; exact S384⟩
  ·refine stepI [78] (fun vs => [ro 3 anC (vs.getD 0 undef) ((pre.map fun x : ME => x.2.1) ++ [(AnC.mk x.2.1.e x.2.1.t x.2.1.v)]), c5_222]) V (fun a => by kernel_rfl) ?_
   intro A385 w385 rst hFr hF S385
   replace S385 : St w NoX [ro 3 anC (EV A385 (.tmp 78)) ((pre.map fun x : ME => x.2.1) ++ [(AnC.mk x.2.1.e x.2.1.t x.2.1.v)]), c5_222, rst] w385 := S385
   generalize q78_385 : EV A385 (.tmp 78) = us78 at S385
   have l78_385 := q78_385
   have Y385 : SzN A385 81 := ⟨hFr.sz.trans Y227.out⟩
   have hdf385 : A385.defers = [] := hFr.df.trans hdf227
   have l7_385 := (oldS hFr 7 om).trans l7_227
   obtain ⟨c306_385, c5_385, hc306_385, hc5_385, S385⟩ := gen2 S385
   replace hc5_385 := hc5_385.trans hc5_222
   refine xsC (zs' := #[us78]) 1 S385 V hc5_385 V V V l7_385 l78_385 (SlN_one (ow_at (S385.cq 0 hc306_385))) (fun w386 c386 hc386 S386 => ?_)
   replace S386 : St w NoX (c306_385 :: c386 :: [rst]) w386 := S386
   refine W_end (kq _ ?_)
   subst q78_385
   exact ⟨undef, [EV A385 (.tmp 78)], rfl, ts1 rfl, trivial, rfl, by subst hc306_385 hc386 hc5_222; exact S386⟩
  intro A387 w387 hFr hF S387
  replace S387 : St w NoX [ro 3 anC (EV A387 (.tmp 78)) ((pre.map fun x : ME => x.2.1) ++ [(AnC.mk x.2.1.e x.2.1.t x.2.1.v)]), cb224, ck224, cb4_222, cb3_222, cb7_222, cb5_222, ro 2 grC (EV A387 (.tmp 74)) ((gsM ((hv_10, H_10), (qv_10, q_10)) pre) ++ [x.2.2]), c197_222, c155_222, c157_222, c156_222, bx g5 31 #[(EV A387 (.tmp 78))], bx g4 64 #[(EV A387 (.tmp 74))], c3_222, c219_222, pk (·= fr), ro 2 grC (EV A387 (.tmp 73)) [x.2.2], ro 3 anC (EV A387 (.tmp 77)) [(AnC.mk x.2.1.e x.2.1.t x.2.1.v)]] w387 := S387.cast om
  generalize q78_387 : EV A387 (.tmp 78) = us78 at S387
  generalize q74_387 : EV A387 (.tmp 74) = us74 at S387
  generalize q73_387 : EV A387 (.tmp 73) = us73 at S387
  generalize q77_387 : EV A387 (.tmp 77) = us77 at S387
  have l78_387 := q78_387
  have l74_387 := q74_387
  have l73_387 := q73_387
  have l77_387 := q77_387
  have Y387 : SzN A387 81 := ⟨hFr.sz.trans Y227.out⟩
  have hdf387 : A387.defers = [] := hFr.df.trans hdf227
  have S387 := unpkR (l := [ro 3 anC us78 ((pre.map fun x : ME => x.2.1) ++ [(AnC.mk x.2.1.e x.2.1.t x.2.1.v)]), cb224, ck224, cb4_222, cb3_222, cb7_222, cb5_222, ro 2 grC us74 ((gsM ((hv_10, H_10), (qv_10, q_10)) pre) ++ [x.2.2]), c197_222, c155_222, c157_222, c156_222, bx g5 31 #[us78], bx g4 64 #[us74], c3_222, c219_222, ro 2 grC us73 [x.2.2], ro 3 anC us77 [(AnC.mk x.2.1.e x.2.1.t x.2.1.v)]]) (fr := fr) (S387.sel [0, 1, 2, 3, 4, 5, 6, 7, 8, 9, 10, 11, 12, 13, 14, 15, 17, 18, 16] Zg V)
  replace S387 : St w NoX ((ro 3 anC us78 ((pre.map fun x : ME => x.2.1) ++ [(AnC.mk x.2.1.e x.2.1.t x.2.1.v)])) :: cb224 :: ck224 :: cb4_222 :: cb3_222 :: cb7_222 :: cb5_222 :: (ro 2 grC us74 ((gsM ((hv_10, H_10), (qv_10, q_10)) pre) ++ [x.2.2])) :: c197_222 :: c155_222 :: c157_222 :: c156_222 :: (bx g5 31 #[us78]) :: (bx g4 64 #[us74]) :: c3_222 :: c219_222 :: (ro 2 grC us73 [x.2.2]) :: (ro 3 anC us77 [(AnC.mk x.2.1.e x.2.1.t x.2.1.v)]) :: fr) w387 := S387
  obtain ⟨c306_387, cb224_387, ck224_387, cb4_387, cb3_387, cb7_387, cb5_387, c304_387, c197_387, c155_387, c157_387, c156_387, c308_387, c307_387, c3_387, c219_387, c303_387, c305_387, hc306_387, hcb224_387, hck224_387, hcb4_387, hcb3_387, hcb7_387, hcb5_387, hc304_387, hc197_387, hc155_387, hc157_387, hc156_387, hc308_387, hc307_387, hc3_387, hc219_387, hc303_387, hc305_387, S387⟩ := gen18 S387
  replace hcb224_387 := hcb224_387.trans hcb224
  replace hck224_387 := hck224_387.trans hck224
  replace hcb4_387 := hcb4_387.trans hcb4_222
  replace hcb3_387 := hcb3_387.trans hcb3_222
  replace hcb7_387 := hcb7_387.trans hcb7_222
  replace hcb5_387 := hcb5_387.trans hcb5_222
  replace hc197_387 := hc197_387.trans hc197_222
  replace hc155_387 := hc155_387.trans hc155_222
  replace hc157_387 := hc157_387.trans hc157_222
  replace hc156_387 := hc156_387.trans hc156_222
  replace hc3_387 := hc3_387.trans hc3_222
  replace hc219_387 := hc219_387.trans hc219_222
  clear Y227 hdf227 S227 l6_227 l7_227 l8_227 l9_227 l10_227 l15_227 l16_227 l66_227
  refine Qo_normal ?_
  have S389 := S387.del 15
  replace S389 : St w NoX (c306_387 :: cb224_387 :: ck224_387 :: cb4_387 :: cb3_387 :: cb7_387 :: cb5_387 :: c304_387 :: c197_387 :: c155_387 :: c157_387 :: c156_387 :: c308_387 :: c307_387 :: c3_387 :: c303_387 :: c305_387 :: fr) w387 := S389
  have S390 := S389.del 15
  replace S390 : St w NoX (c306_387 :: cb224_387 :: ck224_387 :: cb4_387 :: cb3_387 :: cb7_387 :: cb5_387 :: c304_387 :: c197_387 :: c155_387 :: c157_387 :: c156_387 :: c308_387 :: c307_387 :: c3_387 :: c305_387 :: fr) w387 := S390
  have S391 := S390.del 15
  replace S391 : St w NoX (c306_387 :: cb224_387 :: ck224_387 :: cb4_387 :: cb3_387 :: cb7_387 :: cb5_387 :: c304_387 :: c197_387 :: c155_387 :: c157_387 :: c156_387 :: c308_387 :: c307_387 :: c3_387 :: fr) w387 := S391
  refine inb_n ?_
  obtain ⟨ct392, hct392, S392⟩ := genS (mT_shut (gs := gs_10) (T := 77) (n := (lgN C N Z K Q)) (G0 := ((hv_10, H_10), (qv_10, q_10))) (pre := (pre ++ [x])) (hcb224_387.trans (by rw [lastG_app])) hck224_387 S391)
  replace S392 : St w NoX (c306_387 :: ct392 :: cb4_387 :: cb3_387 :: cb7_387 :: cb5_387 :: c304_387 :: c197_387 :: c155_387 :: c157_387 :: c156_387 :: c308_387 :: c307_387 :: c3_387 :: fr) w387 := S392
  have S393 : St w NoX (c306_387 :: cb4_387 :: cb3_387 :: cb7_387 :: cb5_387 :: c304_387 :: c197_387 :: c155_387 :: c157_387 :: c156_387 :: c308_387 :: c307_387 :: c3_387 :: ct392 :: fr) w387 := St.selR (l := [c306_387, ct392, cb4_387, cb3_387, cb7_387, cb5_387, c304_387, c197_387, c155_387, c157_387, c156_387, c308_387, c307_387, c3_387]) (l' := [c306_387, cb4_387, cb3_387, cb7_387, cb5_387, c304_387, c197_387, c155_387, c157_387, c156_387, c308_387, c307_387, c3_387, ct392]) (fr := fr) S392 [0, 2, 3, 4, 5, 6, 7, 8, 9, 10, 11, 12, 13, 1] Zg Zd V
  exact (St.pack (l := [ro 3 anC us78 ((pre ++ [x]).map fun x : ME => x.2.1), bx g4_208 24 #[lv], bx g3_208 75 #[.pointer (some ⟨gs_10, 0, none⟩)], bx g7_208 78 #[.func (.func 38) #[.pointer (some ⟨gs_10, 0, none⟩)] #[]], bx g5_208 88 #[.func (.func 51) #[] #[.pointer (some ⟨g3, 0, none⟩)]], ro 2 grC us74 (gsM ((hv_10, H_10), (qv_10, q_10)) (pre ++ [x])), bx g196 88 #[.func (.func 51) #[] #[.pointer (some ⟨g3, 0, none⟩)]], bx g154 75 #[.pointer (some ⟨gs_10, 0, none⟩)], bx g7 32 #[.int .i64 0], bx g6 3 #[.int .i64 0], bx g5 31 #[us78], bx g4 64 #[us74], bx g3 25 #[fv]]) (fr := (mT gs_10 77 (lgN C N Z K Q) ((hv_10, H_10), (qv_10, q_10)) (pre ++ [x]) :: fr)) (by have q0 : c306_387 = ro 3 anC us78 ((pre ++ [x]).map fun x : ME => x.2.1) := hc306_387.trans (by rw [List.map_append]; rfl); have q1 : cb4_387 = bx g4_208 24 #[lv] := hcb4_387; have q2 : cb3_387 = bx g3_208 75 #[.pointer (some ⟨gs_10, 0, none⟩)] := hcb3_387; have q3 : cb7_387 = bx g7_208 78 #[.func (.func 38) #[.pointer (some ⟨gs_10, 0, none⟩)] #[]] := hcb7_387; have q4 : cb5_387 = bx g5_208 88 #[.func (.func 51) #[] #[.pointer (some ⟨g3, 0, none⟩)]] := hcb5_387; have q5 : c304_387 = ro 2 grC us74 (gsM ((hv_10, H_10), (qv_10, q_10)) (pre ++ [x])) := hc304_387.trans (by rw [gsM_app]); have q6 : c197_387 = bx g196 88 #[.func (.func 51) #[] #[.pointer (some ⟨g3, 0, none⟩)]] := hc197_387; have q7 : c155_387 = bx g154 75 #[.pointer (some ⟨gs_10, 0, none⟩)] := hc155_387; have q8 : c157_387 = bx g7 32 #[.int .i64 0] := hc157_387; have q9 : c156_387 = bx g6 3 #[.int .i64 0] := hc156_387; have q10 : c308_387 = bx g5 31 #[us78] := hc308_387; have q11 : c307_387 = bx g4 64 #[us74] := hc307_387; have q12 : c3_387 = bx g3 25 #[fv] := hc3_387; have q13 := hct392; subst q0 q1 q2 q3 q4 q5 q6 q7 q8 q9 q10 q11 q12 q13; exact S393) (⟨us74, us78, (pl_nx hgK hVd hz (c232)), rfl⟩))
 ·intro D394 xs394 w394 hxs394 S394
  obtain ⟨_, ⟨gv, av, hz, rfl⟩, S394⟩ := S394.unpack
  replace S394 : St w NoX ((ro 3 anC av (xs394.map fun x : ME => x.2.1)) :: (bx g4_208 24 #[lv]) :: (bx g3_208 75 #[.pointer (some ⟨gs_10, 0, none⟩)]) :: (bx g7_208 78 #[.func (.func 38) #[.pointer (some ⟨gs_10, 0, none⟩)] #[]]) :: (bx g5_208 88 #[.func (.func 51) #[] #[.pointer (some ⟨g3, 0, none⟩)]]) :: (ro 2 grC gv (gsM ((hv_10, H_10), (qv_10, q_10)) xs394)) :: (bx g196 88 #[.func (.func 51) #[] #[.pointer (some ⟨g3, 0, none⟩)]]) :: (bx g154 75 #[.pointer (some ⟨gs_10, 0, none⟩)]) :: (bx g7 32 #[.int .i64 0]) :: (bx g6 3 #[.int .i64 0]) :: (bx g5 31 #[av]) :: (bx g4 64 #[gv]) :: (bx g3 25 #[fv]) :: (ob D394 (.deferred (some []))) :: (mT gs_10 77 (lgN C N Z K Q) ((hv_10, H_10), (qv_10, q_10)) xs394) :: []) w394 := S394
  obtain ⟨c210_394, cb4_394, cb3_394, cb7_394, cb5_394, c201r_394, c197_394, c155_394, c157_394, c156_394, c5_394, c203_394, c3_394, cD394, ct_394, hc210_394, hcb4_394, hcb3_394, hcb7_394, hcb5_394, hc201r_394, hc197_394, hc155_394, hc157_394, hc156_394, hc5_394, hc203_394, hc3_394, hcD394, hct_394, S394⟩ := gen15 S394
  have S395 := S394.se [0, 14, 1, 2, 3, 4, 5, 6, 7, 8, 9, 10, 11, 12, 13] [c210_394, ct_394, cb4_394, cb3_394, cb7_394, cb5_394, c201r_394, c197_394, c155_394, c157_394, c156_394, c5_394, c203_394, c3_394, cD394]
  obtain ⟨cb396, ck396, hcb396, hck396, S396⟩ := mT_open (hct_394 ▸ S395)
  replace S396 : St w NoX [c210_394, cb396, ck396, cb4_394, cb3_394, cb7_394, cb5_394, c201r_394, c197_394, c155_394, c157_394, c156_394, c5_394, c203_394, c3_394, cD394] w394 := S396
  refine gen_Q (fun A394 E394 => ?_)
  have Y394 := szq E394
  have hdf394 : A394.defers = [{ target := .collected D394, args := #[] }] := by rw [E394, df_mk, F209.d] <;> rfl
  have l6_394 := lookE E394 6 (mk_l (fg10 F209))
  have l7_394 := lookE E394 7 (mk_l (fg9 F209))
  have l8_394 := lookE E394 8 (mk_l (fg8 F209))
  have l9_394 := lookE E394 9 (mk_l (fg7 F209))
  clear E394
  refine inb_n (tk H206 (R_seq (fun _ H397 => R_any om om 6 V (fun w518 hx518 => ?_))))
  have S518 := S396.grow hx518
  refine AX_parL (l0 := [c210_394, cb396, ck396, cb4_394, cb3_394, cb7_394, cb5_394, c201r_394, c197_394, c155_394, c157_394, c156_394, c5_394, c203_394, c3_394, cD394]) (k := 0) [⟨[13], [], [79], fun vs => [], fun vs => (vs.getD 0 undef) = gv⟩, ⟨[12], [], [80], fun vs => [], fun vs => (vs.getD 0 undef) = av⟩, ⟨[7], [13], [], fun vs => [bx g4 64 #[gv]], fun vs => True⟩, ⟨[0], [12], [], fun vs => [bx g5 31 #[av]], fun vs => True⟩, ⟨[], [11], [], fun vs => [bx g6 3 #[.int .i64 0]], fun vs => True⟩, ⟨[], [10], [], fun vs => [bx g7 32 #[.int .i64 0]], fun vs => True⟩] [c210_394, cb396, ck396, cb4_394, cb3_394, cb7_394, cb5_394, c201r_394, c197_394, c155_394, c157_394, c156_394, c5_394, c203_394, c3_394, cD394] S518 V om V ⟨?_, ?_, ?_, ?_, ?_, ?_, trivial⟩ ?_
  ·refine stepI [] (fun vs => [c203_394]) V (fun a => by kernel_rfl) ?_
   intro A519 w519 rst hFr hF S519
   replace S519 : St w NoX [c203_394, rst] w519 := S519
   have Y519 : SzN A519 81 := ⟨hFr.sz.trans Y394.out⟩
   have hdf519 : A519.defers = [{ target := .collected D394, args := #[] }] := hFr.df.trans hdf394
   have l6_519 := (oldS hFr 6 om).trans l6_394
   obtain ⟨c203_519, hc203_519, S519⟩ := gen1 S519
   replace hc203_519 := hc203_519.trans hc203_394
   refine rL gv l6_519 (S519.ob 0 hc203_519) (W_end (kq _ ?_))
   exact ⟨_, [gv], rfl, ts1 (et V), rfl, rfl, by subst hc203_519 hc203_394; exact S519⟩
  ·refine stepI [] (fun vs => [c5_394]) V (fun a => by kernel_rfl) ?_
   intro A520 w520 rst hFr hF S520
   replace S520 : St w NoX [c5_394, rst] w520 := S520
   have Y520 : SzN A520 81 := ⟨hFr.sz.trans Y394.out⟩
   have hdf520 : A520.defers = [{ target := .collected D394, args := #[] }] := hFr.df.trans hdf394
   have l7_520 := (oldS hFr 7 om).trans l7_394
   obtain ⟨c5_520, hc5_520, S520⟩ := gen1 S520
   replace hc5_520 := hc5_520.trans hc5_394
   refine rL av l7_520 (S520.ob 0 hc5_520) (W_end (kq _ ?_))
   exact ⟨_, [av], rfl, ts1 (et V), rfl, rfl, by subst hc5_520 hc5_394; exact S520⟩
  ·refine stepI [] (fun vs => [c201r_394, c203_394]) V (fun a => by kernel_rfl) ?_
   intro A521 w521 rst hFr hF S521
   replace S521 : St w NoX [c201r_394, c203_394, rst] w521 := S521
   have f79_521 : EV A521 (.tmp 79) = gv := hF 0 om
   generalize q79_521 : EV A521 (.tmp 79) = us79 at S521 f79_521
   have l79_521 := q79_521.trans f79_521
   have Y521 : SzN A521 81 := ⟨hFr.sz.trans Y394.out⟩
   have hdf521 : A521.defers = [{ target := .collected D394, args := #[] }] := hFr.df.trans hdf394
   have l6_521 := (oldS hFr 6 om).trans l6_394
   obtain ⟨c201r_521, c203_521, hc201r_521, hc203_521, S521⟩ := gen2 S521
   replace hc201r_521 := hc201r_521.trans hc201r_394
   replace hc203_521 := hc203_521.trans hc203_394
   refine xsC (zs' := #[gv]) 1 S521 V hc203_521 V V V l6_521 l79_521 (SlN_one (ow_at (S521.cq 0 hc201r_521))) (fun w522 c522 hc522 S522 => ?_)
   replace S522 : St w NoX (c201r_521 :: c522 :: [rst]) w522 := S522
   refine W_end (kq _ ?_)
   subst q79_521
   exact ⟨undef, [], rfl, rfl, trivial, rfl, by subst hc201r_521 hc522 hc201r_394 hc203_394; exact S522⟩
  ·refine stepI [] (fun vs => [c210_394, c5_394]) V (fun a => by kernel_rfl) ?_
   intro A523 w523 rst hFr hF S523
   replace S523 : St w NoX [c210_394, c5_394, rst] w523 := S523
   have f80_523 : EV A523 (.tmp 80) = av := hF 1 om
   generalize q80_523 : EV A523 (.tmp 80) = us80 at S523 f80_523
   have l80_523 := q80_523.trans f80_523
   have Y523 : SzN A523 81 := ⟨hFr.sz.trans Y394.out⟩
   have hdf523 : A523.defers = [{ target := .collected D394, args := #[] }] := hFr.df.trans hdf394
   have l7_523 := (oldS hFr 7 om).trans l7_394
   obtain ⟨c210_523, c5_523, hc210_523, hc5_523, S523⟩ := gen2 S523
   replace hc210_523 := hc210_523.trans hc210_394
   replace hc5_523 := hc5_523.trans hc5_394
   refine xsC (zs' := #[av]) 1 S523 V hc5_523 V V V l7_523 l80_523 (SlN_one (ow_at (S523.cq 0 hc210_523))) (fun w524 c524 hc524 S524 => ?_)
   replace S524 : St w NoX (c210_523 :: c524 :: [rst]) w524 := S524
   refine W_end (kq _ ?_)
   subst q80_523
   exact ⟨undef, [], rfl, rfl, trivial, rfl, by subst hc210_523 hc524 hc210_394 hc5_394; exact S524⟩
  ·refine stepI [] (fun vs => [c156_394]) V (fun a => by kernel_rfl) ?_
   intro A525 w525 rst hFr hF S525
   replace S525 : St w NoX [c156_394, rst] w525 := S525
   have Y525 : SzN A525 81 := ⟨hFr.sz.trans Y394.out⟩
   have hdf525 : A525.defers = [{ target := .collected D394, args := #[] }] := hFr.df.trans hdf394
   have l8_525 := (oldS hFr 8 om).trans l8_394
   obtain ⟨c156_525, hc156_525, S525⟩ := gen1 S525
   replace hc156_525 := hc156_525.trans hc156_394
   refine xsC (zs' := #[.int .i64 0]) 0 S525 V hc156_525 V V V l8_525 V Zd (fun w526 c526 hc526 S526 => ?_)
   replace S526 : St w NoX (c526 :: [rst]) w526 := S526
   refine W_end (kq _ ?_)
   exact ⟨undef, [], rfl, rfl, trivial, rfl, by subst hc526 hc156_394; exact S526⟩
  ·refine stepI [] (fun vs => [c157_394]) V (fun a => by kernel_rfl) ?_
   intro A527 w527 rst hFr hF S527
   replace S527 : St w NoX [c157_394, rst] w527 := S527
   have Y527 : SzN A527 81 := ⟨hFr.sz.trans Y394.out⟩
   have hdf527 : A527.defers = [{ target := .collected D394, args := #[] }] := hFr.df.trans hdf394
   have l9_527 := (oldS hFr 9 om).trans l9_394
   obtain ⟨c157_527, hc157_527, S527⟩ := gen1 S527
   replace hc157_527 := hc157_527.trans hc157_394
   refine xsC (zs' := #[.int .i64 0]) 0 S527 V hc157_527 V V V l9_527 V Zd (fun w528 c528 hc528 S528 => ?_)
   replace S528 : St w NoX (c528 :: [rst]) w528 := S528
   refine W_end (kq _ ?_)
   exact ⟨undef, [], rfl, rfl, trivial, rfl, by subst hc528 hc157_394; exact S528⟩
  intro A529 w529 hFr hF S529
  replace S529 : St w NoX [c210_394, cb396, ck396, cb4_394, cb3_394, cb7_394, cb5_394, c201r_394, c197_394, c155_394, bx g7 32 #[.int .i64 0], bx g6 3 #[.int .i64 0], bx g5 31 #[av], bx g4 64 #[gv], c3_394, cD394] w529 := S529.cast om
  have Y529 : SzN A529 81 := ⟨hFr.sz.trans Y394.out⟩
  have hdf529 : A529.defers = [{ target := .collected D394, args := #[] }] := hFr.df.trans hdf394
  obtain ⟨c210_529, cb396_529, ck396_529, cb4_529, cb3_529, cb7_529, cb5_529, c201r_529, c197_529, c155_529, c461_529, c460_529, c459_529, c458_529, c3_529, cD394_529, hc210_529, hcb396_529, hck396_529, hcb4_529, hcb3_529, hcb7_529, hcb5_529, hc201r_529, hc197_529, hc155_529, hc461_529, hc460_529, hc459_529, hc458_529, hc3_529, hcD394_529, S529⟩ := gen16 S529
  replace hc210_529 := hc210_529.trans hc210_394
  replace hcb396_529 := hcb396_529.trans hcb396
  replace hck396_529 := hck396_529.trans hck396
  replace hcb4_529 := hcb4_529.trans hcb4_394
  replace hcb3_529 := hcb3_529.trans hcb3_394
  replace hcb7_529 := hcb7_529.trans hcb7_394
  replace hcb5_529 := hcb5_529.trans hcb5_394
  replace hc201r_529 := hc201r_529.trans hc201r_394
  replace hc197_529 := hc197_529.trans hc197_394
  replace hc155_529 := hc155_529.trans hc155_394
  replace hc3_529 := hc3_529.trans hc3_394
  replace hcD394_529 := hcD394_529.trans hcD394
  have l6_529 := (oldS hFr 6 om).trans l6_394
  have l7_529 := (oldS hFr 7 om).trans l7_394
  have l8_529 := (oldS hFr 8 om).trans l8_394
  have l9_529 := (oldS hFr 9 om).trans l9_394
  clear Y394 hdf394 S396 l6_394 l7_394 l8_394 l9_394
  refine Qo_normal ?_
  have S530 := S529.se [0, 1, 2, 7, 10, 11, 12, 13, 14, 15] [c210_529, cb396_529, ck396_529, c201r_529, c461_529, c460_529, c459_529, c458_529, c3_529, cD394_529]
  refine tk H397 (R_ret ?_)
  have hD531 := S530.ob 9 hcD394_529
  have S531 := S530.put (o' := .deferred none) 9 V hcD394_529
  obtain ⟨w531, hw531⟩ : ∃ w', w' = w529.putObj D394 (.deferred none) := ⟨_, rfl⟩
  rw [← hw531] at S531
  replace S531 : St w NoX [c210_529, cb396_529, ck396_529, c201r_529, c461_529, c460_529, c459_529, c458_529, c3_529, (ob D394 (.deferred none))] w531 := S531
  refine ret_inR1' (D := D394) (w1 := w531) hw531 (results_4 Tryz.results29 (rvC l6_529 (cell_box (S531.ob 7 hc458_529) V)) (rvC l7_529 (cell_box (S531.ob 6 hc459_529) V)) (rvC l8_529 (cell_box (S531.ob 5 hc460_529) V)) (rvC l9_529 (cell_box (S531.ob 4 hc461_529) V))) hdf529 hD531 ?_
  have hd := pl_done hgK hxs394.1 hxs394.2 hsz hfull hz
  exact .inr ⟨_, _, _, rfl, hd.1, hd.2.1, (S531.f3 3 hc201r_529 2 hck396_529 0 (hc210_529.trans (congrArg (ro 3 anC _) hd.2.2)))⟩
 intro D532 cQ pre w532 hpre S532
 obtain ⟨_, hx, S532⟩ := S532.unpack
 rcases hx with ⟨rfl, gv, gL, av, aL, a, er, hx, hne, rfl⟩
 replace S532 : St w NoX ((ro 3 anC av aL) :: (bx g4_208 24 #[lv]) :: (bx g3_208 75 #[.pointer (some ⟨gs_10, 0, none⟩)]) :: (bx g7_208 78 #[.func (.func 38) #[.pointer (some ⟨gs_10, 0, none⟩)] #[]]) :: (bx g5_208 88 #[.func (.func 51) #[] #[.pointer (some ⟨g3, 0, none⟩)]]) :: (ro 2 grC gv gL) :: (bx g196 88 #[.func (.func 51) #[] #[.pointer (some ⟨g3, 0, none⟩)]]) :: (bx g154 75 #[.pointer (some ⟨gs_10, 0, none⟩)]) :: (bx g7 32 #[.int .i64 (er)]) :: (bx g6 3 #[.int .i64 (a)]) :: (bx g5 31 #[.slice none 0 0]) :: (bx g4 64 #[.slice none 0 0]) :: (bx g3 25 #[fv]) :: (ob D532 (.deferred (some []))) :: (mT gs_10 77 (lgN C N Z K Q) ((hv_10, H_10), (qv_10, q_10)) pre) :: []) w532 := S532
 obtain ⟨c210_532, cb4_532, cb3_532, cb7_532, cb5_532, c201r_532, c197_532, c155_532, c157_532, c156_532, c5_532, c203_532, c3_532, cD532, ct_532, hc210_532, hcb4_532, hcb3_532, hcb7_532, hcb5_532, hc201r_532, hc197_532, hc155_532, hc157_532, hc156_532, hc5_532, hc203_532, hc3_532, hcD532, hct_532, S532⟩ := gen15 S532
 have S533 := S532.se [0, 14, 1, 2, 3, 4, 5, 6, 7, 8, 9, 10, 11, 12, 13] [c210_532, ct_532, cb4_532, cb3_532, cb7_532, cb5_532, c201r_532, c197_532, c155_532, c157_532, c156_532, c5_532, c203_532, c3_532, cD532]
 obtain ⟨cb534, ck534, hcb534, hck534, S534⟩ := mT_open (hct_532 ▸ S533)
 replace S534 : St w NoX [c210_532, cb534, ck534, cb4_532, cb3_532, cb7_532, cb5_532, c201r_532, c197_532, c155_532, c157_532, c156_532, c5_532, c203_532, c3_532, cD532] w532 := S534
 refine gen_w (fun A532 E532 => ?_)
 have Y532 := szq E532
 have hdf532 : A532.defers = [{ target := .collected D532, args := #[] }] := by rw [E532, df_mk, F209.d] <;> rfl
 have l6_532 := lookE E532 6 (mk_l (fg10 F209))
 have l7_532 := lookE E532 7 (mk_l (fg9 F209))
 have l8_532 := lookE E532 8 (mk_l (fg8 F209))
 have l9_532 := lookE E532 9 (mk_l (fg7 F209))
 clear E532
 refine R_ret (inb_ret (then_ret ?_))
 have hD535 := S534.ob 15 hcD532
 have S535 := S534.put (o' := .deferred none) 15 V hcD532
 obtain ⟨w535, hw535⟩ : ∃ w', w' = w532.putObj D532 (.deferred none) := ⟨_, rfl⟩
 rw [← hw535] at S535
 replace S535 : St w NoX [c210_532, cb534, ck534, cb4_532, cb3_532, cb7_532, cb5_532, c201r_532, c197_532, c155_532, c157_532, c156_532, c5_532, c203_532, c3_532, (ob D532 (.deferred none))] w535 := S535
 refine ret_inR1' (D := D532) (w1 := w535) hw535 (results_4 Tryz.results29 (rvC l6_532 (cell_box (S535.ob 13 hc203_532) V)) (rvC l7_532 (cell_box (S535.ob 12 hc5_532) V)) (rvC l8_532 (cell_box (S535.ob 11 hc156_532) V)) (rvC l9_532 (cell_box (S535.ob 10 hc157_532) V))) hdf532 hD535 ?_
 have h : (plF (cfE C N Z K Q) (lgN C N Z K Q) K os full) = (a, er) := (pl_fb hsz hfull).trans hx
 rw [h]
 exact .inl ⟨rfl, hne, S535.fin0⟩

end Go.Proofs.YtpgkfndbfocibaaGreat
namespace Go.Proofs.YtpgkfndbfocibaaGreat
open Go.RowKit Go.Own Go.Own.R Go.Own.G Go.Own.Gr Go.Own.Ml


set_option maxHeartbeats 4000000 in
theorem kPl_c {C N Z K Q : Int} {lv : Value} {os : List OpC} {fv : Value} {full : List Int} {w : World} (h_lv : Ro w NoX (rl 7 opC lv os)) (h_fv : Ro w NoX (il .i64 fv full))  :
  Calls Tryz.prog 9 #[.agg #[.int .i64 C, .int .i64 N, .int .i64 Z, .int .i64 K, .int .i64 Q], lv, fv] w fun e w' => (e = .returned (.tuple #[.agg #[.slice none 0 0, .slice none 0 0], .slice none 0 0, .int .i64 (plF (cfE C N Z K Q) (lgN C N Z K Q) K os full).1, .int .i64 (plF (cfE C N Z K Q) (lgN C N Z K Q) K os full).2]) ∧ ((plF (cfE C N Z K Q) (lgN C N Z K Q) K os full).2 ≠ 0) ∧ St w NoX [] w') ∨ (∃ G av, e = .returned (.tuple #[.agg #[G.1.1, G.2.1], av, .int .i64 0, .int .i64 0]) ∧ ((plF (cfE C N Z K Q) (lgN C N Z K Q) K os full) = (0, 0)) ∧ (gab G = (plL (cfE C N Z K Q) (lgN C N Z K Q) K os full)) ∧ St w NoX [gls [G], ro 3 anC av (plA (cfE C N Z K Q) (lgN C N Z K Q) K os full)] w') := by
 refine ci3 32 Tryz.func9 V (fun A0 _ F0 => ?_)
 have hS := St.nil w
 have bh_lv := SlN.le (sl_SlN h_lv.at)
 have bh_fv := SlN.le (sl_SlN h_fv.at)
 refine tb fun _ H1 => (wB (#[.int .i64 (C), .int .i64 (N), .int .i64 (Z), .int .i64 (K), .int .i64 (Q)]) hS (fg0 F0) (fun g2 w2 c2 hc2 S2 => wA (#[.slice none 0 0, .slice none 0 0]) S2 (fun g3 w3 c3 hc3 S3 => vc (vc (vc (W_end (en (Qc (Kb F0)) fun A4 _ F4 => ta H1 fun _ H5 => (ra (fg1 F4) (S3.ob 1 hc2) (vm (Sa (fg3 F4)) (vm (Sb (fg4 F4)) (wc (args3 (Sb t0) (Sa t0) t0) (kpl_c (C := C) (N := N) (Z := Z) (K := K) (Q := Q) (S3.roC h_lv) (S3.roC h_fv)) ?_)))))))))))
 rintro _ w6 (⟨rfl, hz_6, hP6⟩ | ⟨gv_6, Gs_6, av_6, rfl, hz_6, hg_6, hP6⟩)
 ·refine ⟨_, rfl, ?_⟩
  have S6 := S3.j0 hP6
  refine vm t0 (vx (.slice none 0 0) t0 (vx (.slice none 0 0) (Sa t0) (vx (.int .i64 ((plF (cfE C N Z K Q) (lgN C N Z K Q) K os full).1)) (Sb t0) (vx (.int .i64 ((plF (cfE C N Z K Q) (lgN C N Z K Q) K os full).2)) (Sc t0) (va (Sc t0) (va (Sc t0) (va (Sc t0) (va (Sc t0) (W_end (en (Kd (Qa (Qh F4))) fun A7 _ F7 => ?_))))))))))
  have S8 := S6.se [0] [c3]
  refine tc H5 fun _ H9 => tb fun _ H10 => (vm (fg0 F7) (vn t0 V (W_end (en (Ka (Qa F7)) fun A11 _ F11 => tk H10 (cond_sure (fg0 F11) (by rw [decide_eq_true_eq]; exact hz_6) (tb fun _ H12 => (wv (xbS (n := 2) (z := .agg #[.slice none 0 0, .slice none 0 0]) V parts0) (vm (Sa (fg2 F11)) (vm (Sb (fg1 F11)) (xsA0 S8 hc3 V V V (Sc (fg5 F11)) (Sb t0) (fun w13 c13 hc13 S13 => vc (va (Sb t0) (va (Sb t0) (W_end (en (Kc (Qc (fx1 (fx1 (fx1 F11))))) fun A14 _ F14 => tk H12 (wp_ret (then_ret (rt4 F14 (rvA (fg5 F14) (S13.ob 0 hc13)) (rv_tmp (fg2 F14)) (rv_tmp (fg1 F14)) (rv_tmp (fg0 F14)) ?_))))))))))))))))))
  exact .inl ⟨rfl, hz_6, S13.fin0⟩
 refine ⟨_, rfl, ?_⟩
 obtain ⟨cG_6, cK_6, cA_6, hcG_6, hcK_6, hcA_6, hP6⟩ := gen3 hP6
 have S6 := S3.j3 hP6
 have hGl : Gs_6.length = os.length + 1 := by rw [mL hg_6, plG_len hz_6]
 have hol := pl_len hz_6
 refine vm t0 (vx gv_6 t0 (vx av_6 (Sa t0) (vx (.int .i64 0) (Sb t0) (vx (.int .i64 0) (Sc t0) (va (Sc t0) (va (Sc t0) (va (Sc t0) (va (Sc t0) (W_end (en (Kd (Qa (Qh F4))) fun A15 _ F15 => ?_))))))))))
 have S16 := S6.se [0, 1, 2, 3] [cG_6, cK_6, cA_6, c3]
 refine tc H5 fun _ H17 => tb fun _ H18 => (vm (fg0 F15) (vn t0 V (W_end (en (Ka (Qa F15)) fun A19 _ F19 => tk H18 (cond_not (fg0 F19) Zg (wp_skip (ta H17 fun _ H20 => (vm (fg4 F19) (vm (Sa (fg4 F19)) (le_ t0 (ow_at (S16.cq 0 hcG_6)) (su t0 V ?_)))))))))))
 have k21 : (Gs_6.length - 1) < Gs_6.length := by first | omega | (simp only [List.length_cons, List.length_nil]; omega) | (simp only [List.length_set]; omega) | decide
 obtain ⟨y21, hy21⟩ := get_some (xs := Gs_6) (k := (Gs_6.length - 1)) k21
 have hsm21 := plG_at hg_6 hy21
 obtain ⟨B21, O21, C21, hv21⟩ := (SlN.blk (ow_at (S16.chq 0 rfl hcG_6)) kr)
 refine wv (V_ixS (off := O21 + (Gs_6.length - 1) * 2) 2 (Gs_6.length - 1) V (Sc t0) t0 hv21 Za k21 Tryz.underlying64 om V) (wr (VR_ldR (ys := grC y21) V t0 (SlN.row grC_len (ow_at (S16.cq 0 hcG_6)) hv21 hy21 V) Tryz.underlying30 V om) (vm (Sf (fg3 F19)) (xsB3 S16 hc3 V V V (Sg (fg5 F19)) (Sa t0) (by simp only [List.all_toArray, List.all_cons, List.all_nil, grC, SlN_one (sl_SlN (gl_oa (List.mem_of_getElem? hy21) (S16.cq 1 hcK_6))), SlN_one (sl_SlN (gl_ra (List.mem_of_getElem? hy21) (S16.cq 1 hcK_6)))] <;> rfl) (fun w22 c22 hc22 S22 => vt (vc (vc (W_end (en (Kc (Qg (fx1 (fx1 (fx1 F19))))) fun A23 _ F23 => ?_))))))))
 have S24 := S22.se [1, 2, 3] [cK_6, cA_6, c22]
 refine tk H20 (wp_ret (rt4 F23 (rvA (fg5 F23) (S24.ob 2 hc22)) (rv_tmp (fg2 F23)) (rv_tmp (fg1 F23)) (rv_tmp (fg0 F23)) ?_))
 rw [hcK_6] at S24
 obtain ⟨c25, hc25, S25⟩ := gen1 (gl_subS (M := [y21]) S24 (fun G hG => by rw [List.mem_singleton] at hG; subst hG; exact List.mem_of_getElem? hy21))
 replace S25 : St w NoX [c25, cA_6, c22] w22 := S25
 exact .inr ⟨y21, _, rfl, hz_6, pl_last hg_6 hy21, (S25.f2 0 hc25 1 hcA_6)⟩

set_option maxHeartbeats 4000000 in
theorem kLi_c {C N Z K Q : Int} {lv : Value} {os : List OpC} {fv : Value} {full : List Int} {w : World} (h_lv : Ro w NoX (rl 7 opC lv os)) (h_fv : Ro w NoX (il .i64 fv full))  :
  Calls Tryz.prog 11 #[.agg #[.int .i64 C, .int .i64 N, .int .i64 Z, .int .i64 K, .int .i64 Q], lv, fv] w fun e w' => (e = .returned (.tuple #[.slice none 0 0, .int .i64 (plF (cfE C N Z K Q) (lgN C N Z K Q) K os full).2]) ∧ ((plF (cfE C N Z K Q) (lgN C N Z K Q) K os full).2 ≠ 0) ∧ St w NoX [] w') ∨ (∃ lw, e = .returned (.tuple #[lw, .int .i64 0]) ∧ ((plF (cfE C N Z K Q) (lgN C N Z K Q) K os full) = (0, 0)) ∧ St w NoX [io .i64 lw (List.map WF (plG (cfE C N Z K Q) (lgN C N Z K Q) K os full))] w') := by
 refine ci3 46 Tryz.func11 V (fun A0 _ F0 => ?_)
 have hS := St.nil w
 have bh_lv := SlN.le (sl_SlN h_lv.at)
 have bh_fv := SlN.le (sl_SlN h_fv.at)
 refine tb fun _ H1 => (wB (#[.int .i64 (C), .int .i64 (N), .int .i64 (Z), .int .i64 (K), .int .i64 (Q)]) hS (fg0 F0) (fun g2 w2 c2 hc2 S2 => vc (vc (W_end (en (Qb (Ka F0)) fun A3 _ F3 => ta H1 fun _ H4 => (ra (fg0 F3) (S2.ob 0 hc2) (vm (Sa (fg2 F3)) (vm (Sb (fg3 F3)) (wc (args3 (Sb t0) (Sa t0) t0) (kpl_c (C := C) (N := N) (Z := Z) (K := K) (Q := Q) (S2.roC h_lv) (S2.roC h_fv)) ?_)))))))))
 rintro _ w5 (⟨rfl, hz_5, hP5⟩ | ⟨gv_5, Gs_5, av_5, rfl, hz_5, hg_5, hP5⟩)
 ·refine ⟨_, rfl, ?_⟩
  have S5 := S2.j0 hP5
  refine vm t0 (vx (.slice none 0 0) t0 (vx (.slice none 0 0) (Sa t0) (vx (.int .i64 ((plF (cfE C N Z K Q) (lgN C N Z K Q) K os full).1)) (Sb t0) (vx (.int .i64 ((plF (cfE C N Z K Q) (lgN C N Z K Q) K os full).2)) (Sc t0) (va (Sc t0) (va (Sc t0) (va (Sc t0) (va (Sc t0) (W_end (en (Ka (Qb (Ka (Qa (Qh F3))))) fun A6 _ F6 => tc H4 fun _ H8 => tb fun _ H9 => (vm (fg0 F6) (vn t0 V (W_end (en (Ka (Qa F6)) fun A10 _ F10 => tk H9 (cond_sure (fg0 F10) (by rw [decide_eq_true_eq]; exact hz_5) (tb fun _ H11 => (vm (fg1 F10) (vc (va (Sa t0) (W_end (en (Kb (Qa F10)) fun A12 _ F12 => tk H11 (wp_ret (then_ret (rt2 F12 (rv_tmp (fg1 F12)) (rv_tmp (fg0 F12)) ?_))))))))))))))))))))))))
  exact .inl ⟨rfl, hz_5, S5.fin0⟩
 refine ⟨_, rfl, ?_⟩
 obtain ⟨cG_5, cK_5, cA_5, hcG_5, hcK_5, hcA_5, hP5⟩ := gen3 hP5
 have S5 := S2.j3 hP5
 have hGl : Gs_5.length = os.length + 1 := by rw [mL hg_5, plG_len hz_5]
 have hol := pl_len hz_5
 refine vm t0 (vx gv_5 t0 (vx av_5 (Sa t0) (vx (.int .i64 0) (Sb t0) (vx (.int .i64 0) (Sc t0) (va (Sc t0) (va (Sc t0) (va (Sc t0) (va (Sc t0) (W_end (en (Ka (Qb (Ka (Qa (Qh F3))))) fun A13 _ F13 => ?_))))))))))
 have S14 := S5.se [0, 1] [cG_5, cK_5]
 refine tc H4 fun _ H15 => tb fun _ H16 => (vm (fg0 F13) (vn t0 V (W_end (en (Ka (Qa F13)) fun A17 _ F17 => tk H16 (cond_not (fg0 F17) Zg (wp_skip (ta H15 fun _ H18 => (vc (W_end (en (Ka F17) fun A19 _ F19 => tc H18 fun _ H20 => tb fun _ H21 => (vm (fg3 F19) (le_ t0 (ow_at (S14.cq 0 hcG_5)) (vm V (W_end (en (Kc F19) fun A22 Y22 F22 => tk H21 (wp_block ?_))))))))))))))))
 obtain ⟨c23, hc23, S23⟩ := S14.pnil (s := 1)
 -- loop 6
 refine loopX (fun mz A' w' => SzN A' 46 ∧ A'.defers = [] ∧ (∃ (k : Nat) (bv : Value), (mz = Gs_5.length - k) ∧ (k ≤ Gs_5.length) ∧ (EV A' (.tmp 31) = .int .i64 (k : Int)) ∧ (EV A' (.tmp 12) = bv) ∧ (EV A' (.tmp 29) = EV A22 (.tmp 29)) ∧ (EV A' (.tmp 30) = EV A22 (.tmp 30)) ∧ (St w NoX [io .i64 bv ((Gs_5.take k).map fun G => WF (gab G)), ro 2 grC gv_5 Gs_5, gls Gs_5] w'))) (Gs_5.length - 0) ⟨Y22, F22.d, 0, (.slice none 0 0), rfl, Za, ((fg0 F22).trans (by first | rfl | (simp; done) | (congr 1; omega))), ((fg3 F22).trans (by first | rfl | (simp; done) | (congr 1; omega))), rfl, rfl, (by have q0 : c23 = io .i64 (.slice none 0 0) ((Gs_5.take 0).map fun G => WF (gab G)) := hc23.trans (rfl); have q1 := hcG_5; have q2 := hcK_5; subst q0 q1 q2; exact S23)⟩ ?_
 clear S23 hc23 hcG_5 hcK_5
 rintro n24 A24 w24 ⟨Y24, hdf24, k, bv, hm24, hk, l31_24, l12_24, u29_24, u30_24, S24⟩
 have l29_24 := u29_24.trans (fg2 F22)
 have l30_24 := u30_24.trans (fg1 F22)
 obtain ⟨c23_24, cG_24, cK_24, hc23_24, hcG_24, hcK_24, S24⟩ := gen3 S24
 refine tb fun _ H25 => (vl l31_24 l30_24 (W_end (en ((((((ck (FS.n hdf24) V V)).c (es V l12_24)).c (es V l29_24)).c (es V l30_24)).c (Sa l31_24)) fun A26 _ F26 => tc H25 fun _ H27 => cd (fg4 F26) (fun c28 => ?_) fun c28 => ?_)))
 ·refine wp_skip (tc H27 fun _ H29 => wp_block (tb fun _ H30 => ?_))
  have k31 : k < Gs_5.length := by first | omega | (simp only [List.length_cons, List.length_nil]; omega) | (simp only [List.length_set]; omega) | decide
  obtain ⟨y31, hy31⟩ := get_some (xs := Gs_5) (k := k) k31
  have hsm31 := plG_at hg_5 hy31
  obtain ⟨B31, O31, C31, hv31⟩ := (SlN.blk (ow_at (S24.chq 1 rfl hcG_24)) kr)
  refine wv (V_ixS (off := O31 + k * 2) 2 k V (fg2 F26) (fg0 F26) hv31 Za k31 Tryz.underlying64 om V) (wr (VR_ldR (ys := grC y31) V t0 (SlN.row grC_len (ow_at (S24.cq 1 hcG_24)) hv31 hy31 V) Tryz.underlying30 V om) (wA (#[.slice none 0 0, .slice none 0 0]) S24 (fun g32 w32 c32 hc32 S32 => ?_)))
  replace S32 : St w NoX [c32, c23_24, cG_24, cK_24] w32 := S32
  refine xsB0 S32 hc32 V V V t0 (Sa t0) (by simp only [List.all_toArray, List.all_cons, List.all_nil, grC, SlN_one (sl_SlN (gl_oa (List.mem_of_getElem? hy31) (S32.cq 3 hcK_24))), SlN_one (sl_SlN (gl_ra (List.mem_of_getElem? hy31) (S32.cq 3 hcK_24)))] <;> rfl) (fun w33 c33 hc33 S33 => W_end (en (Ka (Qb F26)) fun A34 _ F34 => ta H30 fun _ H35 => (ra (fg0 F34) (S33.ob 0 hc33) (wc (args1 t0) (kWd_c (gl_oaR (List.mem_of_getElem? hy31) (S33.cC 3 hcK_24)) (gl_naR (List.mem_of_getElem? hy31) (S33.cC 3 hcK_24)) (gl_raR (List.mem_of_getElem? hy31) (S33.cC 3 hcK_24)) Zc) (C0 S33 fun w36 S36 => vm t0 (vx (.int .i64 ((wdN (y31.1.2.map ab) y31.2.2))) t0 (vx (.int .i64 ((ckG (y31.1.2.map ab) y31.2.2).2)) (Sa t0) (va (Sa t0) (va (Sa t0) (W_end (en (Qa (Ka (Qe F34))) fun A37 _ F37 => ?_)))))))))))
  have S38 := S36.se [1, 2, 3] [c23_24, cG_24, cK_24]
  refine tk H35 (region_in (vm (fg5 F37) (vm (Sa (fg0 F37)) ?_)))
  have hll39 : [(wdN (y31.1.2.map ab) y31.2.2)].length = 1 := rfl
  refine xsL (vs := [.int .i64 ((wdN (y31.1.2.map ab) y31.2.2))]) (xs := ([(wdN (y31.1.2.map ab) y31.2.2)].map (Value.int .i64))) 1 S38 V V V (parts1 t0) Tryz.underlying25 (fun g39 w39 c39 hc39 S39 => ?_)
  replace hc39 : c39 = io .i64 (.slice (some ⟨g39, 0, none⟩) 1 1) [(wdN (y31.1.2.map ab) y31.2.2)] := hc39
  replace S39 : St w NoX [c39, c23_24, cG_24, cK_24] w39 := S39
  refine W_appS 1 1 S39 V hc23_24 V V V (Sb t0) t0 Tryz.underlying25 Tryz.underlying25 (z := .int .i64 0) (bytes := 8) om V Zg (ow_at (S39.cq 0 hc39)) ones_i Zq Zq (fun v40 w40 c40 hc40 S40 => ?_)
  replace hc40 : c40 = io .i64 v40 (((Gs_5.take k).map fun G => WF (gab G)) ++ [(wdN (y31.1.2.map ab) y31.2.2)]) := hc40.trans (app_eq (by first | (simp; done) | (rw [List.take_of_length_le (l := List.drop _ _) (by rw [List.length_drop]; exact Nat.le_refl _)])))
  replace S40 : St w NoX [c39, c40, cG_24, cK_24] w40 := S40
  refine vt (W_end (en (Ka (Qd (fx5 F37))) fun A41 _ F41 => ?_))
  have S42 := S40.se [1, 2, 3] [c40, cG_24, cK_24]
  refine inb_n (tk H29 (region_in (ad (fg3 F41) V (vm t0 (W_end (en (Ka (Qa (fx3 F41))) fun A43 Y43 F43 => then_n ⟨Gs_5.length - (k + 1), by simp only [hm24]; omega, Y43, F43.d, (k + 1), v40, rfl, Za, ((fg0 F43).trans (by first | rfl | (simp; done) | (congr 1; omega))), ((fg1 F43).trans (by first | rfl | (simp; done) | (congr 1; omega))), ((fg5 F43).trans (fg2 F22).symm), ((fg4 F43).trans (fg1 F22).symm), (by have q0 : c40 = io .i64 v40 ((Gs_5.take (k + 1)).map fun G => WF (gab G)) := hc40.trans ((congrArg (io .i64 _) (Ml.tk_snoc hy31).symm)); have q1 := hcG_24; have q2 := hcK_24; subst q0 q1 q2; exact S42)⟩))))))
 refine wp_exit (then_exit (then_exit (inb_hit (ta H20 fun _ H44 => (vm (fg3 F26) (vt (vc (W_end (en (Kb (Qa F26)) fun A45 _ F45 => tk H44 (wp_ret (rt2 F45 (rv_tmp (fg1 F45)) (rv_tmp (fg0 F45)) ?_)))))))))))
 exact .inr ⟨_, rfl, hz_5, (S24.f1 0 (hc23_24.trans (congrArg (io .i64 _) (lv_end hg_5 Za))))⟩

set_option maxHeartbeats 4000000 in
theorem kLf_c {C N Z K Q : Int} {lv : Value} {os : List OpC} {fv : Value} {full : List Int} {a b : Int} {w : World} (h_lv : Ro w NoX (rl 7 opC lv os)) (h_fv : Ro w NoX (il .i64 fv full))  :
  Calls Tryz.prog 18 #[.agg #[.int .i64 C, .int .i64 N, .int .i64 Z, .int .i64 K, .int .i64 Q], lv, fv, .int .i64 a, .int .i64 b] w fun e w' => e = .returned (.tuple #[.int .i64 (lfF (cfE C N Z K Q) (lgN C N Z K Q) K os full a b).1, .int .i64 (lfF (cfE C N Z K Q) (lgN C N Z K Q) K os full a b).2]) ∧ St w NoX [] w' := by
 refine ci5 81 Tryz.func18 V (fun A0 _ F0 => ?_)
 have hS := St.nil w
 have bh_lv := SlN.le (sl_SlN h_lv.at)
 have bh_fv := SlN.le (sl_SlN h_fv.at)
 refine tb fun _ H1 => (wB (#[.int .i64 (C), .int .i64 (N), .int .i64 (Z), .int .i64 (K), .int .i64 (Q)]) hS (fg0 F0) (fun g2 w2 c2 hc2 S2 => vc (vc (W_end (en (Qb (Ka F0)) fun A3 _ F3 => ta H1 fun _ H4 => (ra (fg0 F3) (S2.ob 0 hc2) (vm (Sa (fg2 F3)) (vm (Sb (fg3 F3)) (wc (args3 (Sb t0) (Sa t0) t0) (kpl_c (C := C) (N := N) (Z := Z) (K := K) (Q := Q) (S2.roC h_lv) (S2.roC h_fv)) ?_)))))))))
 rintro _ w5 (⟨rfl, hz_5, hP5⟩ | ⟨gv_5, Gs_5, av_5, rfl, hz_5, hg_5, hP5⟩)
 ·refine ⟨_, rfl, ?_⟩
  have S5 := S2.j0 hP5
  refine vm t0 (vx (.slice none 0 0) t0 (vx (.slice none 0 0) (Sa t0) (vx (.int .i64 ((plF (cfE C N Z K Q) (lgN C N Z K Q) K os full).1)) (Sb t0) (vx (.int .i64 ((plF (cfE C N Z K Q) (lgN C N Z K Q) K os full).2)) (Sc t0) (va (Sc t0) (va (Sc t0) (va (Sc t0) (va (Sc t0) (W_end (en (Ka (Qb (Ka (Qa (Qh F3))))) fun A6 _ F6 => tc H4 fun _ H8 => wp_block (tb fun _ H9 => (vm (fg0 F6) (vn t0 V (vt (W_end (en (Ka (Qb F6)) fun A10 _ F10 => tk H9 (cond_sure (fg0 F10) (by rw [decide_eq_true_eq]; exact hz_5) (tb fun _ H11 => (vm (fg1 F10) (vc (va (Sa t0) (W_end (en (Kb (Qa (fx1 F10))) fun A12 _ F12 => tk H11 (wp_ret (inb_ret (then_ret (rt2 F12 (rv_tmp (fg1 F12)) (rv_tmp (fg0 F12)) ?_)))))))))))))))))))))))))))
  have h : (lfF (cfE C N Z K Q) (lgN C N Z K Q) K os full a b) = (0, (plF (cfE C N Z K Q) (lgN C N Z K Q) K os full).2) := lf_e hz_5
  rw [h]
  exact ⟨rfl, S5.fin0⟩
 refine ⟨_, rfl, ?_⟩
 obtain ⟨cG_5, cK_5, cA_5, hcG_5, hcK_5, hcA_5, hP5⟩ := gen3 hP5
 have S5 := S2.j3 hP5
 have hGl : Gs_5.length = os.length + 1 := by rw [mL hg_5, plG_len hz_5]
 have hol := pl_len hz_5
 have S13 := S5.se [2, 3, 0, 1] [cA_5, c2, cG_5, cK_5]
 obtain ⟨Yb14, S14, hY14, hF14, hB14⟩ := St.call (pre := [cA_5, c2]) (fr := [cG_5, cK_5]) S13
 have back14 : ∀ w2 post, St w5 Yb14 post w2 → St w NoX post w2 := fun _ _ h => (hB14 _ _ h).left
 have h_lv_14 := hY14 _ h_lv
 have h_fv_14 := hY14 _ h_fv
 have fz14_0 : Ro w5 Yb14 (rl 2 grC gv_5 Gs_5) := (hcG_5 ▸ hF14 0 _ V : Ro w5 Yb14 (ro 2 grC gv_5 Gs_5)).own
 have fz14_1 : Ro w5 Yb14 (gls Gs_5) := (hcK_5 ▸ hF14 1 _ V : Ro w5 Yb14 (gls Gs_5))
 refine vm t0 (vx gv_5 t0 (vx av_5 (Sa t0) (vx (.int .i64 0) (Sb t0) (vx (.int .i64 0) (Sc t0) (va (Sc t0) (va (Sc t0) (va (Sc t0) (va (Sc t0) (W_end (en (Ka (Qb (Ka (Qa (Qh F3))))) fun A15 _ F15 => ?_))))))))))
 have S16 := S14.se [] []
 refine tc H4 fun _ H17 => wp_block (tb fun _ H18 => (vm (fg0 F15) (vn t0 V (vt (W_end (en (Ka (Qb F15)) fun A19 _ F19 => tk H18 (cond_not (fg0 F19) Zg (tb fun _ H20 => (vm (fg7 F19) (vl t0 V (W_split V V (V_mov V t0) (fun c21 => ?_) (fun c21 => ?_))))))))))))
 ·refine xo V t0 (xo V (Sa t0) (xo V (Sb t0) (vT (Sc t0) V (vm t0 (xo V t0 (xo V (Sa t0) (xo V (Sb t0) (xo V (Sc t0) (vT (Sd t0) V (vt (W_end (en (Ka (Qe (Qh F19))) fun A22 _ F22 => tk H20 (cond_t (fg0 F22) (tb fun _ H23 => (vc (vc (W_end (en (Kb (fx2 F22)) fun A24 _ F24 => tk H23 (wp_ret (inb_ret (then_ret (rt2 F24 (rv_tmp (fg1 F24)) (rv_tmp (fg0 F24)) ?_))))))))))))))))))))))
  have h : (lfF (cfE C N Z K Q) (lgN C N Z K Q) K os full a b) = (0, 7) := lf_7 hz_5 Za
  rw [h]
  exact ⟨rfl, (back14 _ _ S16.fin0)⟩
 refine wg V t0 (uvm (Sc (fg8 F19))) (wg V (Sa t0) (uvm (Sd (fg7 F19))) (wg V (Sb t0) (uvl (Sa t0) t0) (vF (Sc t0) t0 (W_split V V (V_mov V t0) (fun c25 => ?_) (fun c25 => ?_)))))
 ·refine xo V t0 (xo V (Sa t0) (xo V (Sb t0) (xo V (Sc t0) (vT (Sd t0) V (vt (W_end (en (Ka (Qe (Qh F19))) fun A26 _ F26 => tk H20 (cond_t (fg0 F26) (tb fun _ H27 => (vc (vc (W_end (en (Kb (fx2 F26)) fun A28 _ F28 => tk H27 (wp_ret (inb_ret (then_ret (rt2 F28 (rv_tmp (fg1 F28)) (rv_tmp (fg0 F28)) ?_)))))))))))))))))
  have h : (lfF (cfE C N Z K Q) (lgN C N Z K Q) K os full a b) = (0, 7) := lf_7 hz_5 Za
  rw [h]
  exact ⟨rfl, (back14 _ _ S16.fin0)⟩
 refine wg V t0 (uvm (Sh (fg8 F19))) (wg V (Sa t0) (uvm (Sh (Sa (fg5 F19)))) (wg V (Sb t0) (ule_ t0 (sl_SlN h_lv_14.at)) (wg V (Sc t0) (uvg (Sb t0) t0) (vF (Sd t0) t0 (vt (W_end (en (Ka (Qe (Qh F19))) fun A29 _ F29 => tk H20 (cd (fg0 F29) (fun c30 => ?_) fun c30 => ?_))))))))
 ·refine tb fun _ H31 => (vc (vc (W_end (en (Kb (fx2 F29)) fun A32 _ F32 => tk H31 (wp_ret (inb_ret (then_ret (rt2 F32 (rv_tmp (fg1 F32)) (rv_tmp (fg0 F32)) ?_))))))))
  have h : (lfF (cfE C N Z K Q) (lgN C N Z K Q) K os full a b) = (0, 7) := lf_7 hz_5 Za
  rw [h]
  exact ⟨rfl, (back14 _ _ S16.fin0)⟩
 refine wp_skip (inb_n (ta H17 fun _ H33 => (vm (fg3 F29) (vm (Sa (fg8 F29)) ?_))))
 have k34 : a.toNat < Gs_5.length := by first | omega | (simp only [List.length_cons, List.length_nil]; omega) | (simp only [List.length_set]; omega) | decide
 obtain ⟨y34, hy34⟩ := get_some (xs := Gs_5) (k := a.toNat) k34
 have hsm34 := plG_at hg_5 hy34
 obtain ⟨B34, O34, C34, hv34⟩ := (SlN.blk (sl_SlN fz14_0.at) kr)
 refine wv (V_ixS (off := O34 + a.toNat * 2) 2 a.toNat V (Sa t0) t0 hv34 Za k34 Tryz.underlying64 om V) ?_
 have fgy34o := gl_o (List.mem_of_getElem? hy34) fz14_1
 have fgy34n := gl_n (List.mem_of_getElem? hy34) fz14_1
 have fgy34r := gl_r (List.mem_of_getElem? hy34) fz14_1
 refine wr (VR_ldR (ys := grC y34) V t0 (SlN.row grC_len (sl_SlN (S16.ro fz14_0)) hv34 hy34 V) Tryz.underlying30 V om) (wc (args1 t0) (kWd_c (S16.roC fgy34o) (S16.roC fgy34n) (S16.roC fgy34r) Zc) (C0 S16 fun w35 S35 => vm t0 (vx (.int .i64 ((wdN (y34.1.2.map ab) y34.2.2))) t0 (vx (.int .i64 ((ckG (y34.1.2.map ab) y34.2.2).2)) (Sa t0) (va (Sa t0) (W_end (en (Ka (Qh F29)) fun A36 _ F36 => tc H33 fun _ H37 => td fun _ H38 => region_monoS 14 14 [] om om (dm (fg4 F36) (dm (Sa (fg10 F36)) ?_)))))))))
 have k39 : b.toNat < Gs_5.length := by first | omega | (simp only [List.length_cons, List.length_nil]; omega) | (simp only [List.length_set]; omega) | decide
 obtain ⟨y39, hy39⟩ := get_some (xs := Gs_5) (k := b.toNat) k39
 have hsm39 := plG_at hg_5 hy39
 have hlf39 := lf_len hz_5 hg_5 hy34 hy39 Za
 refine dv (V_ixS (off := O34 + b.toNat * 2) 2 b.toNat V (Sa t0) t0 hv34 Za k39 Tryz.underlying64 om V) (dv (V_fa (off' := O34 + b.toNat * 2 + 0) V t0 Tryz.underlying30 V Zi V) ?_)
 have fgy39o := gl_o (List.mem_of_getElem? hy39) fz14_1
 have fgy39n := gl_n (List.mem_of_getElem? hy39) fz14_1
 have fgy39r := gl_r (List.mem_of_getElem? hy39) fz14_1
 refine dr (fun _ hx _ => (urd y39.1.1 t0 (SlN.row grC_len (sl_SlN ((S35.grow hx).ro fz14_0)) hv34 hy39 V 0 _ V))) (dm (Se (fg4 F36)) (dm (Sf (fg9 F36)) (dv (V_ixS (off := O34 + a.toNat * 2) 2 a.toNat V (Sa t0) t0 hv34 Za k34 Tryz.underlying64 om V) (dv (V_fa (off' := O34 + a.toNat * 2 + 0) V t0 Tryz.underlying30 V Zi V) (dr (fun _ hx _ => (urd y34.1.1 t0 (SlN.row grC_len (sl_SlN ((S35.grow hx).ro fz14_0)) hv34 hy34 V 0 _ V))) (dv (ule_ t0 (sl_SlN fgy34o.at)) ?_))))))
 have k41 : y34.1.2.length ≤ y39.1.2.length := by omega
 have m41 : y39.1.2.length ≤ y39.1.2.length := by omega
 have f41 := Ro_partR obC_len fgy39o y34.1.2.length y39.1.2.length k41 m41
 replace f41 : Ro w5 Yb14 (rl 2 obC (subS 2 y39.1.1 y34.1.2.length y39.1.2.length) (y39.1.2.drop y34.1.2.length)) := by rw [show (y39.1.2.drop y34.1.2.length).take (y39.1.2.length - y34.1.2.length) = (y39.1.2.drop y34.1.2.length) by first | (simp; done) | exact List.take_of_length_le Zj] at f41; exact f41
 have fn41 := nst_drop fgy39n y34.1.2.length
 refine dv (V_subS 2 y34.1.2.length y39.1.2.length V (Sf t0) (.inr ⟨_, _, rfl, (et V), by omega⟩) (.inl ⟨rfl, rfl⟩) Tryz.underlying28 om (sl_SlN fgy39o.at) k41 m41) (dv (ule_ t0 (sl_SlN f41.at)) (dm V (ZS_none S35 (Nat.le_refl _) (Nat.le_refl _) (fun s42 hJ42 hL42 hF42 => ?_))))
 have S42 := hJ42.st; clear hF42 hJ42 hL42
 generalize s42.1 = w42 at *
 replace S42 : St w5 Yb14 [] w42 := S42
 refine en (Kc (Qc (Qh F36))) fun A43 Y43 F43 => tk H38 (wp_block ?_)
 -- loop 8
 have hdl : (y39.1.2.drop y34.1.2.length).length ≤ 200 := by rw [List.length_drop]; omega
 have hwf := WF_bd hsm34
 refine loopX (fun mz A' w' => SzN A' 81 ∧ A'.defers = [] ∧ (∃ (k : Nat), (mz = (y39.1.2.drop y34.1.2.length).length - k) ∧ (k ≤ (y39.1.2.drop y34.1.2.length).length) ∧ (EV A' (.tmp 65) = .int .i64 (k : Int)) ∧ (EV A' (.tmp 10) = .int .i64 (WF (gab y34) + smB (y39.1.2.drop y34.1.2.length) k)) ∧ (EV A' (.tmp 63) = EV A43 (.tmp 63)) ∧ (EV A' (.tmp 64) = EV A43 (.tmp 64)) ∧ (St w5 Yb14 [] w'))) ((y39.1.2.drop y34.1.2.length).length - 0) ⟨Y43, F43.d, 0, rfl, Za, ((fg0 F43).trans (by first | rfl | (simp; done) | (congr 1; omega))), ((fg3 F43).trans (by rw [smB_0, Int.add_zero]; rfl)), rfl, rfl, S42⟩ ?_
 clear S42
 rintro n44 A44 w44 ⟨Y44, hdf44, k, hm44, hk, l65_44, l10_44, u63_44, u64_44, S44⟩
 have l63_44 := u63_44.trans (fg2 F43)
 have l64_44 := u64_44.trans (fg1 F43)
 refine tb fun _ H45 => (vl l65_44 l64_44 (W_end (en ((((((ck (FS.n hdf44) V V)).c (es V l10_44)).c (es V l63_44)).c (es V l64_44)).c (Sa l65_44)) fun A46 _ F46 => tc H45 fun _ H47 => cd (fg4 F46) (fun c48 => ?_) fun c48 => ?_)))
 ·refine wp_skip (tc H47 fun _ H49 => wp_block (tb fun _ H50 => ?_))
  have k51 : k < (y39.1.2.drop y34.1.2.length).length := by first | omega | (simp only [List.length_cons, List.length_nil]; omega) | (simp only [List.length_set]; omega) | decide
  obtain ⟨y51, hy51⟩ := get_some (xs := (y39.1.2.drop y34.1.2.length)) (k := k) k51
  have hsy51 := (SM_drop (m := y34.1.2.length) hsm39).at hy51
  have hbd51 := smB_bd (k := k) (SM_drop (m := y34.1.2.length) hsm39)
  obtain ⟨B51, O51, C51, hv51⟩ := (SlN.blk (sl_SlN f41.at) kr)
  refine wv (V_ixS (off := O51 + k * 2) 2 k V (fg2 F46) (fg0 F46) hv51 Za k51 Tryz.underlying28 om V) ?_
  have fn52 : Ro w5 Yb14 (il .i64 y51.1.1 y51.1.2) := nst_ro1 fn41 hy51
  have bfn52 := SlN.le (sl_SlN (S44.ro fn52))
  have fn53 : Ro w5 Yb14 (il .u64 y51.2.1 y51.2.2) := nst_ro2 fn41 hy51
  have bfn53 := SlN.le (sl_SlN (S44.ro fn53))
  refine wr (VR_ldR (ys := obC y51) V t0 (SlN.row obC_len (sl_SlN (S44.ro f41)) hv51 hy51 V) Tryz.underlying70 V om) (wA (#[.slice none 0 0, .slice none 0 0]) S44 (fun g54 w54 c54 hc54 S54 => xsB0 S54 hc54 V V V t0 (Sa t0) (by simp only [List.all_toArray, List.all_cons, List.all_nil, grC, obC, SlN_one (sl_SlN fn52.at), SlN_one (sl_SlN fn53.at)] <;> rfl) (fun w55 c55 hc55 S55 => W_end (en (Ka (Qb F46)) fun A56 _ F56 => tk H50 (region_in (vm (fg4 F56) (fa 0 (Sa (fg0 F56)) (rL y51.1.1 t0 (S55.ob 0 hc55) (le_ t0 (sl_SlN fn52.at) (ad V t0 (fa 1 (Se (fg0 F56)) (rL y51.2.1 t0 (S55.ob 0 hc55) (le_ t0 (sl_SlN fn53.at) (ad (Sc t0) t0 (ad (Sh t0) t0 (vt (W_end (en (Ka (Qb (Qh (fx4 F56)))) fun A57 _ F57 => ?_))))))))))))))))))
  have S58 := S55.se [] []
  refine inb_n (tk H49 (region_in (ad (fg2 F57) V (vm t0 (W_end (en (Ka (Qa (fx2 F57))) fun A59 Y59 F59 => then_n ⟨(y39.1.2.drop y34.1.2.length).length - (k + 1), by simp only [hm44]; omega, Y59, F59.d, (k + 1), rfl, Za, ((fg0 F59).trans (by first | rfl | (simp; done) | (congr 1; omega))), ((fg1 F59).trans (by rw [smB_s hy51, Int.add_assoc])), ((fg4 F59).trans (fg2 F43).symm), ((fg3 F59).trans (fg1 F43).symm), S58⟩))))))
 refine wp_exit (then_exit (then_exit (inb_hit (ta H37 fun _ H60 => (vm (fg3 F46) (vt (vc (W_end (en (Kb (Qa (fx3 F46))) fun A61 _ F61 => tk H60 (wp_ret (rt2 F61 (rv_tmp (fg1 F61)) (rv_tmp (fg0 F61)) ?_)))))))))))
 have h : (lfF (cfE C N Z K Q) (lgN C N Z K Q) K os full a b) = ((WF (gab y34) + smB (y39.1.2.drop y34.1.2.length) k), 0) := lf_k hz_5 Za hg_5 hy34 hy39 (by rw [List.length_drop] at hk; have := c48; rw [List.length_drop] at this; omega)
 rw [h]
 exact ⟨rfl, (back14 _ _ S44.fin0)⟩

end Go.Proofs.YtpgkfndbfocibaaGreat
namespace Go.Proofs.YtpgkfndbfocibaaGreat
open Go.RowKit Go.Own Go.Own.R Go.Own.G Go.Own.Gr


set_option maxHeartbeats 4000000 in
theorem qInts_c {xv : Value} {xs : List Int} {yv : Value} {ys : List Int} {w : World} (h_xv : Ro w NoX (il .i64 xv xs)) (h_yv : Ro w NoX (il .i64 yv ys))  :
  Calls Tryz.prog 15 #[xv, yv] w fun e w' => e = .returned (.bool (decide (xs = ys))) ∧ St w NoX [] w' := by
 refine ci2 26 Tryz.func15 V (fun A0 _ F0 => ?_)
 have hS := St.nil w
 have bh_xv := SlN.le (sl_SlN h_xv.at)
 have bh_yv := SlN.le (sl_SlN h_yv.at)
 refine tb fun _ H1 => (vc (W_end (en (Qa F0) fun A2 _ F2 => tc H1 fun _ H3 => tb fun _ H4 => (vm (fg0 F2) (le_ t0 (sl_SlN h_xv.at) (vm (Sb (fg1 F2)) (le_ t0 (sl_SlN h_yv.at) (vn (Sb t0) t0 (W_end (en (Ka (Qd F2)) fun A5 _ F5 => tk H4 (cd (fg0 F5) (fun c6 => ?_) fun c6 => ?_)))))))))))
 ·refine tb fun _ H7 => (vc (W_end (en (Ka F5) fun A8 _ F8 => tk H7 (wp_ret (then_ret (rt1 F8 (rv_tmp (fg0 F8)) ?_))))))
  rw [decide_eq_false (show ¬ xs = ys from fun e => absurd (congrArg List.length e) Za)]
  exact ⟨rfl, hS.fin0⟩
 have hl : xs.length = ys.length := by omega
 refine wp_skip (tc H3 fun _ H9 => tb fun _ H10 => (vc (W_end (en (Ka F5) fun A11 Y11 F11 => tk H10 (wp_block ?_)))))
 -- loop 4
 refine loopX (fun mz A' w' => SzN A' 26 ∧ A'.defers = [] ∧ (∃ (k : Nat), (mz = xs.length - k) ∧ (k ≤ xs.length) ∧ (∀ i, i < k → xs[i]? = ys[i]?) ∧ (EV A' (.tmp 5) = .int .i64 (k : Int)) ∧ (EV A' (.tmp 0) = EV A11 (.tmp 0)) ∧ (EV A' (.tmp 1) = EV A11 (.tmp 1)) ∧ (St w NoX [] w'))) (xs.length - 0) ⟨Y11, F11.d, 0, rfl, Za, (fun i hi => by omega), ((fg0 F11).trans (by first | rfl | (simp; done) | (congr 1; omega))), rfl, rfl, hS⟩ ?_
 clear hS
 rintro n12 A12 w12 ⟨Y12, hdf12, k, hm12, hk, hz, l5_12, u0_12, u1_12, S12⟩
 have l0_12 := u0_12.trans (fg2 F11)
 have l1_12 := u1_12.trans (fg3 F11)
 refine td fun _ H13 => tb fun _ H14 => (vm l5_12 (vm (Sa l0_12) (le_ t0 (sl_SlN h_xv.at) (vl (Sb t0) t0 (W_end (en (((((ck (cq3 (FS.n hdf12) V) V V)).c (es4 V l0_12)).c (es4 V l1_12)).c (Sd l5_12)) fun A15 _ F15 => tk H14 (cd (fg3 F15) (fun c16 => ?_) fun c16 => ?_)))))))
 ·refine wp_skip (tc H13 fun _ H17 => wp_block (td fun _ H18 => region_monoS 9 9 [] om om (dm (fg2 F15) (dm (Sa (fg0 F15)) ?_))))
  have k19 : k < xs.length := by first | omega | (simp only [List.length_cons, List.length_nil]; omega) | (simp only [List.length_set]; omega) | decide
  obtain ⟨y19, hy19⟩ := get_some (xs := xs) (k := k) k19
  obtain ⟨B19, O19, C19, hv19⟩ := (SlN.blk (sl_SlN h_xv.at) kr)
  refine dv (V_ixS (off := O19 + k) 1 k V (Sa t0) t0 hv19 Za k19 Tryz.underlying25 om (congrArg _ (Nat.mul_one _))) (dr (fun _ hx _ => (urc t0 ((sl_SlN ((S12.grow hx).ro h_xv)).cell hv19 (map_get hy19)))) (dm (Sd (fg1 F15)) (dm (Se (fg0 F15)) ?_)))
  have k20 : k < ys.length := by first | omega | (simp only [List.length_cons, List.length_nil]; omega) | (simp only [List.length_set]; omega) | decide
  obtain ⟨y20, hy20⟩ := get_some (xs := ys) (k := k) k20
  obtain ⟨B20, O20, C20, hv20⟩ := (SlN.blk (sl_SlN h_yv.at) kr)
  refine dv (V_ixS (off := O20 + k) 1 k V (Sa t0) t0 hv20 Za k20 Tryz.underlying25 om (congrArg _ (Nat.mul_one _))) (dr (fun _ hx _ => (urc t0 ((sl_SlN ((S12.grow hx).ro h_yv)).cell hv20 (map_get hy20)))) (dv (uvn (Sd t0) t0) (ZS_none S12 (Nat.le_refl _) (Nat.le_refl _) (fun s21 hJ21 hL21 hF21 => ?_))))
  have S21 := hJ21.st; clear hF21 hJ21 hL21
  generalize s21.1 = w21 at *
  replace S21 : St w NoX [] w21 := S21
  refine en (Ka (Qh F15)) fun A22 _ F22 => tk H18 (cd (fg0 F22) (fun c23 => ?_) fun c23 => ?_)
  ·refine tb fun _ H24 => (vc (W_end (en (Ka F22) fun A25 _ F25 => tk H24 (wp_ret (inb_ret (then_ret (then_ret (inb_ret (then_ret (rt1 F25 (rv_tmp (fg0 F25)) ?_))))))))))
   rw [decide_eq_false (show ¬ xs = ys from eq_ne hy19 hy20 c23)]
   exact ⟨rfl, S21.fin0⟩
  refine wp_skip (inb_n (tk H17 (region_in (vm (fg1 F22) (ad t0 V (vt (W_end (en (Ka (Qb (fx1 F22))) fun A26 Y26 F26 => then_n ⟨xs.length - (k + 1), by simp only [hm12]; omega, Y26, F26.d, (k + 1), rfl, Za, (eq_step hz hy19 hy20 Za), ((fg0 F26).trans (by first | rfl | (simp; done) | (congr 1; omega))), ((fg3 F26).trans (fg2 F11).symm), ((fg2 F26).trans (fg3 F11).symm), S21⟩))))))))
 refine wp_exit (then_exit (then_exit (inb_hit (ta H9 fun _ H27 => (vc (W_end (en (Ka F15) fun A28 _ F28 => tk H27 (wp_ret (rt1 F28 (rv_tmp (fg0 F28)) ?_)))))))))
 rw [decide_eq_true (show xs = ys from eq_all hl Za hz)]
 exact ⟨rfl, S12.fin0⟩

end Go.Proofs.YtpgkfndbfocibaaGreat
namespace Go.Proofs.YtpgkfndbfocibaaGreat
open Go.RowKit Go.Own Go.Own.R Go.Own.G Go.Own.Gr Go.Own.Ml


set_option maxHeartbeats 4000000 in
theorem kcf29_c  {w : World}   :
  Calls Tryz.prog 26 #[] w fun e w' => e = .returned (.agg #[.int .i64 8, .int .i64 8, .int .i64 6, .int .i64 2, .int .i64 2]) ∧ St w NoX [] w' := by
 refine ci0 2 Tryz.func26 V (fun A0 _ F0 => ?_)
 have hS := St.nil w
 refine tb fun _ H1 => (wA (#[.int .i64 0, .int .i64 0, .int .i64 0, .int .i64 0, .int .i64 0]) hS (fun g2 w2 c2 hc2 S2 => W_end (en (Ka F0) fun A3 _ F3 => ta H1 fun _ H4 => (wv (xbS (n := 5) (z := .agg #[.int .i64 0, .int .i64 0, .int .i64 0, .int .i64 0, .int .i64 0]) V (parts5 V V V V V)) (xsA0 S2 hc2 V V V (Sa (fg0 F3)) t0 (fun w5 c5 hc5 S5 => W_end (en (Qa F3) fun A6 _ F6 => tk H4 (wp_ret (rt1 F6 (rvA (fg0 F6) (S5.ob 0 hc5)) ?_)))))))))
 exact ⟨rfl, S5.fin0⟩

set_option maxHeartbeats 4000000 in
theorem kas_29 {ev : Value} {ei : List Int} {w : World} (h_ev : Ro w NoX (il .i64 ev ei)) (hel : ei.length ≤ 1000000) :
  Calls Tryz.prog 28 #[ev] w fun e w' => ∃ v, e = .returned (v) ∧ St w NoX [ro 3 anC (v) (List.map (fun x : Int => AnC.mk x false 0) ei)] w' := by
 refine ci1 20 Tryz.func28 V (fun A0 _ F0 => ?_)
 have hS := St.nil w
 have bh_ev := SlN.le (sl_SlN h_ev.at)
 refine tb fun _ H1 => (vc (W_end (en (Qa F0) fun A2 _ F2 => ta H1 fun _ H3 => (vc (W_end (en (Ka F2) fun A4 _ F4 => tc H3 fun _ H5 => tb fun _ H6 => (vc (W_end (en (Ka F4) fun A7 Y7 F7 => tk H6 (wp_block ?_))))))))))
 obtain ⟨c8, hc8, S8⟩ := hS.pnil (s := 3)
 -- loop 3
 refine loopX (fun mz A' w' => SzN A' 20 ∧ A'.defers = [] ∧ (∃ (k : Nat) (bv : Value), (mz = ei.length - k) ∧ (k ≤ ei.length) ∧ (EV A' (.tmp 4) = .int .i64 (k : Int)) ∧ (EV A' (.tmp 3) = bv) ∧ (EV A' (.tmp 0) = EV A7 (.tmp 0)) ∧ (St w NoX [ro 3 anC bv ((ei.take k).map fun x : Int => AnC.mk x false 0)] w'))) (ei.length - 0) ⟨Y7, F7.d, 0, (.slice none 0 0), rfl, Za, ((fg0 F7).trans (by first | rfl | (simp; done) | (congr 1; omega))), ((fg1 F7).trans (by first | rfl | (simp; done) | (congr 1; omega))), rfl, (by have q0 : c8 = ro 3 anC (.slice none 0 0) ((ei.take 0).map fun x : Int => AnC.mk x false 0) := hc8.trans (rfl); subst q0; exact S8)⟩ ?_
 clear S8 hc8
 rintro n9 A9 w9 ⟨Y9, hdf9, k, bv, hm9, hk, l4_9, l3_9, u0_9, S9⟩
 have l0_9 := u0_9.trans (fg2 F7)
 obtain ⟨c8_9, hc8_9, S9⟩ := gen1 S9
 refine td fun _ H10 => tb fun _ H11 => (vm l4_9 (vm (Sa l0_9) (le_ t0 (sl_SlN h_ev.at) (vl (Sb t0) t0 (W_end (en (((((ck (cq3 (FS.n hdf9) V) V V)).c (es4 V l0_9)).c (es4 V l3_9)).c (Sd l4_9)) fun A12 _ F12 => tk H11 (cd (fg3 F12) (fun c13 => ?_) fun c13 => ?_)))))))
 ·refine wp_skip (tc H10 fun _ H14 => wp_block (region_in (vm (fg1 F12) (vm (Sa (fg2 F12)) (vm (Sb (fg0 F12)) ?_)))))
  have k15 : k < ei.length := by first | omega | (simp only [List.length_cons, List.length_nil]; omega) | (simp only [List.length_set]; omega) | decide
  obtain ⟨y15, hy15⟩ := get_some (xs := ei) (k := k) k15
  obtain ⟨B15, O15, C15, hv15⟩ := (SlN.blk (sl_SlN h_ev.at) kr)
  refine wv (V_ixS (off := O15 + k) 1 k V (Sa t0) t0 hv15 Za k15 Tryz.underlying93 om (congrArg _ (Nat.mul_one _))) (rc t0 ((sl_SlN (S9.ro h_ev)).cell hv15 (map_get hy15)) (wv (xbS (n := 3) (z := .agg #[.int .i64 0, .bool false, .int .u64 0]) V (parts1 t0)) ?_))
  have hll16 : [(AnC.mk y15 false 0)].length = 1 := rfl
  refine xsL (vs := [.agg #[.int .i64 (y15), .bool false, .int .u64 0]]) (xs := ([(AnC.mk y15 false 0)].flatMap anC)) 3 S9 V V V (parts1 t0) Tryz.underlying31 (fun g16 w16 c16 hc16 S16 => ?_)
  replace hc16 : c16 = ro 3 anC (.slice (some ⟨g16, 0, none⟩) 1 1) [(AnC.mk y15 false 0)] := hc16
  replace S16 : St w NoX [c16, c8_9] w16 := S16
  refine W_appS 3 1 S16 V hc8_9 V V V (Sf t0) t0 Tryz.underlying31 Tryz.underlying31 (z := .agg #[.int .i64 0, .bool false, .int .u64 0]) (bytes := 24) om V Zg (ow_at (S16.cq 0 hc16)) (ones_r anC_one) Zq Zq (fun v17 w17 c17 hc17 S17 => ?_)
  replace hc17 : c17 = ro 3 anC v17 (((ei.take k).map fun x : Int => AnC.mk x false 0) ++ [(AnC.mk y15 false 0)]) := hc17.trans (app_eqR (by first | (simp; done) | (rw [List.take_of_length_le (l := List.drop _ _) (by rw [List.length_drop]; exact Nat.le_refl _)])))
  replace S17 : St w NoX [c16, c17] w17 := S17
  refine vt (W_end (en (Ka (Qh (fx1 F12))) fun A18 _ F18 => ?_))
  have S19 := S17.se [1] [c17]
  refine inb_n (tk H14 (region_in (vm (fg1 F18) (ad t0 V (vt (W_end (en (Ka (Qb (fx1 F18))) fun A20 Y20 F20 => then_n ⟨ei.length - (k + 1), by simp only [hm9]; omega, Y20, F20.d, (k + 1), v17, rfl, Za, ((fg0 F20).trans (by first | rfl | (simp; done) | (congr 1; omega))), ((fg1 F20).trans (by first | rfl | (simp; done) | (congr 1; omega))), ((fg2 F20).trans (fg2 F7).symm), (by have q0 : c17 = ro 3 anC v17 ((ei.take (k + 1)).map fun x : Int => AnC.mk x false 0) := hc17.trans ((congrArg (ro 3 anC _) (Ml.tk_snoc hy15).symm)); subst q0; exact S19)⟩)))))))
 refine wp_exit (then_exit (then_exit (inb_hit (ta H5 fun _ H21 => (vm (fg1 F12) (vt (W_end (en (Ka (Qa F12)) fun A22 _ F22 => tk H21 (wp_ret (rt1 F22 (rv_tmp (fg0 F22)) ?_))))))))))
 exact ⟨_, rfl, (S9.f1 0 (hc8_9.trans (by rw [List.take_of_length_le Za])))⟩

set_option maxHeartbeats 4000000 in
theorem ksm29_c {xv : Value} {xs : List AnC} {yv : Value} {ys : List AnC} {w : World} (h_xv : Ro w NoX (rl 3 anC xv xs)) (h_yv : Ro w NoX (rl 3 anC yv ys))  :
  Calls Tryz.prog 14 #[xv, yv] w fun e w' => e = .returned (.bool (decide (xs = ys))) ∧ St w NoX [] w' := by
 refine ci2 26 Tryz.func14 V (fun A0 _ F0 => ?_)
 have hS := St.nil w
 have bh_xv := SlN.le (sl_SlN h_xv.at)
 have bh_yv := SlN.le (sl_SlN h_yv.at)
 refine tb fun _ H1 => (vc (W_end (en (Qa F0) fun A2 _ F2 => tc H1 fun _ H3 => tb fun _ H4 => (vm (fg0 F2) (le_ t0 (sl_SlN h_xv.at) (vm (Sb (fg1 F2)) (le_ t0 (sl_SlN h_yv.at) (vn (Sb t0) t0 (W_end (en (Ka (Qd F2)) fun A5 _ F5 => tk H4 (cd (fg0 F5) (fun c6 => ?_) fun c6 => ?_)))))))))))
 ·refine tb fun _ H7 => (vc (W_end (en (Ka F5) fun A8 _ F8 => tk H7 (wp_ret (then_ret (rt1 F8 (rv_tmp (fg0 F8)) ?_))))))
  rw [decide_eq_false (show ¬ xs = ys from fun q => absurd (congrArg List.length q) Za)]
  exact ⟨rfl, hS.fin0⟩
 have hl : xs.length = ys.length := by omega
 refine wp_skip (tc H3 fun _ H9 => tb fun _ H10 => (vc (W_end (en (Ka F5) fun A11 Y11 F11 => tk H10 (wp_block ?_)))))
 -- loop 4
 refine loopX (fun mz A' w' => SzN A' 26 ∧ A'.defers = [] ∧ (∃ (k : Nat), (mz = xs.length - k) ∧ (k ≤ xs.length) ∧ (∀ i, i < k → xs[i]? = ys[i]?) ∧ (EV A' (.tmp 5) = .int .i64 (k : Int)) ∧ (EV A' (.tmp 0) = EV A11 (.tmp 0)) ∧ (EV A' (.tmp 1) = EV A11 (.tmp 1)) ∧ (St w NoX [] w'))) (xs.length - 0) ⟨Y11, F11.d, 0, rfl, Za, (fun i hi => by omega), ((fg0 F11).trans (by first | rfl | (simp; done) | (congr 1; omega))), rfl, rfl, hS⟩ ?_
 clear hS
 rintro n12 A12 w12 ⟨Y12, hdf12, k, hm12, hk, hz, l5_12, u0_12, u1_12, S12⟩
 have l0_12 := u0_12.trans (fg2 F11)
 have l1_12 := u1_12.trans (fg3 F11)
 refine td fun _ H13 => tb fun _ H14 => (vm l5_12 (vm (Sa l0_12) (le_ t0 (sl_SlN h_xv.at) (vl (Sb t0) t0 (W_end (en (((((ck (cq3 (FS.n hdf12) V) V V)).c (es4 V l0_12)).c (es4 V l1_12)).c (Sd l5_12)) fun A15 _ F15 => tk H14 (cd (fg3 F15) (fun c16 => ?_) fun c16 => ?_)))))))
 ·refine wp_skip (tc H13 fun _ H17 => wp_block (td fun _ H18 => region_monoS 9 9 [] om om (dm (fg2 F15) (dm (Sa (fg0 F15)) ?_))))
  have k19 : k < xs.length := by first | omega | (simp only [List.length_cons, List.length_nil]; omega) | (simp only [List.length_set]; omega) | decide
  obtain ⟨y19, hy19⟩ := get_some (xs := xs) (k := k) k19
  obtain ⟨B19, O19, C19, hv19⟩ := (SlN.blk (sl_SlN h_xv.at) kr)
  refine dv (V_ixS (off := O19 + k * 3) 3 k V (Sa t0) t0 hv19 Za k19 Tryz.underlying31 om V) (dr (fun sx hx hF => (VR_ldR (ys := anC y19) V t0 (SlN.row anC_len (sl_SlN ((S12.grow hx).ro h_xv)) hv19 hy19 V) Tryz.underlying54 V om)) (dm (Sd (fg1 F15)) (dm (Se (fg0 F15)) ?_)))
  have k20 : k < ys.length := by first | omega | (simp only [List.length_cons, List.length_nil]; omega) | (simp only [List.length_set]; omega) | decide
  obtain ⟨y20, hy20⟩ := get_some (xs := ys) (k := k) k20
  obtain ⟨B20, O20, C20, hv20⟩ := (SlN.blk (sl_SlN h_yv.at) kr)
  refine dv (V_ixS (off := O20 + k * 3) 3 k V (Sa t0) t0 hv20 Za k20 Tryz.underlying31 om V) (dr (fun sx hx hF => (VR_ldR (ys := anC y20) V t0 (SlN.row anC_len (sl_SlN ((S12.grow hx).ro h_yv)) hv20 hy20 V) Tryz.underlying54 V om)) (dv (V_neStA V (Sd t0) t0 om) (ZS_none S12 (Nat.le_refl _) (Nat.le_refl _) (fun s21 hJ21 hL21 hF21 => ?_))))
  have S21 := hJ21.st; clear hF21 hJ21 hL21
  generalize s21.1 = w21 at *
  replace S21 : St w NoX [] w21 := S21
  refine en (Ka (Qh F15)) fun A22 _ F22 => tk H18 (cd (fg0 F22) (fun c23 => ?_) fun c23 => ?_)
  ·refine tb fun _ H24 => (vc (W_end (en (Ka F22) fun A25 _ F25 => tk H24 (wp_ret (inb_ret (then_ret (then_ret (inb_ret (then_ret (rt1 F25 (rv_tmp (fg0 F25)) ?_))))))))))
   rw [decide_eq_false (show ¬ xs = ys from eqA_ne hy19 hy20 (fun q => c23 (anIff.1 q)))]
   exact ⟨rfl, S21.fin0⟩
  refine wp_skip (inb_n (tk H17 (region_in (vm (fg1 F22) (ad t0 V (vt (W_end (en (Ka (Qb (fx1 F22))) fun A26 Y26 F26 => then_n ⟨xs.length - (k + 1), by simp only [hm12]; omega, Y26, F26.d, (k + 1), rfl, Za, (eqA_step hz hy19 hy20 (anIff.2 (by simpa using c23))), ((fg0 F26).trans (by first | rfl | (simp; done) | (congr 1; omega))), ((fg3 F26).trans (fg2 F11).symm), ((fg2 F26).trans (fg3 F11).symm), S21⟩))))))))
 refine wp_exit (then_exit (then_exit (inb_hit (ta H9 fun _ H27 => (vc (W_end (en (Ka F15) fun A28 _ F28 => tk H27 (wp_ret (rt1 F28 (rv_tmp (fg0 F28)) ?_)))))))))
 rw [decide_eq_true (show xs = ys from eqA_all hl Za hz)]
 exact ⟨rfl, S12.fin0⟩

set_option maxHeartbeats 4000000 in
theorem kfar_c {lv : Value} {os : List OpC} {fv : Value} {full : List Int} {w : World} (h_lv : Ro w NoX (rl 7 opC lv os)) (h_fv : Ro w NoX (il .i64 fv full))  :
  Calls Tryz.prog 7 #[lv, fv] w fun e w' => e = .returned (.bool (decide ((25 < os.length ∧ os.length ≤ 200) ∨ 205 < os.length ∨ 30 < full.length))) ∧ St w NoX [] w' := by
 refine ci2 23 Tryz.func7 V (fun A0 _ F0 => ?_)
 have hS := St.nil w
 have bh_lv := SlN.le (sl_SlN h_lv.at)
 have bh_fv := SlN.le (sl_SlN h_fv.at)
 refine tb fun _ H1 => (vc (W_end (en (Qa F0) fun A2 _ F2 => ta H1 fun _ H3 => (vm (fg0 F2) (le_ t0 (sl_SlN h_lv.at) (vg t0 V (W_split V V (V_mov V t0) (fun c4 => ?_) (fun c4 => ?_))))))))
 ·refine wg V t0 (uvm (Sd (fg0 F2))) (wg V (Sa t0) (ule_ t0 (sl_SlN h_lv.at)) (wg V (Sb t0) (uvk t0 V) (vT (Sc t0) t0 (W_split V V (V_mov V t0) (fun c5 => ?_) (fun c5 => ?_)))))
  ·refine xo V t0 (xo V (Sa t0) (xo V (Sb t0) (vT (Sc t0) V (vm t0 (xo V t0 (xo V (Sa t0) (xo V (Sb t0) (vT (Sc t0) V (vt (W_end (en (Ka (Qb (Qh (Qh F2)))) fun A6 _ F6 => tk H3 (wp_ret (rt1 F6 (rv_tmp (fg0 F6)) ?_)))))))))))))
   rw [show (decide ((25 < os.length ∧ os.length ≤ 200) ∨ 205 < os.length ∨ 30 < full.length)) = true from decide_eq_true Za]
   exact ⟨rfl, hS.fin0⟩
  refine wg V t0 (uvm (Sh (Sa (fg0 F2)))) (wg V (Sa t0) (ule_ t0 (sl_SlN h_lv.at)) (wg V (Sb t0) (uvg t0 V) (vF (Sc t0) t0 (W_split V V (V_mov V t0) (fun c7 => ?_) (fun c7 => ?_)))))
  ·refine xo V t0 (xo V (Sa t0) (xo V (Sb t0) (vT (Sc t0) V (vt (W_end (en (Ka (Qb (Qh (Qh F2)))) fun A8 _ F8 => tk H3 (wp_ret (rt1 F8 (rv_tmp (fg0 F8)) ?_))))))))
   rw [show (decide ((25 < os.length ∧ os.length ≤ 200) ∨ 205 < os.length ∨ 30 < full.length)) = true from decide_eq_true Za]
   exact ⟨rfl, hS.fin0⟩
  refine wg V t0 (uvm (Sh (Sf (fg1 F2)))) (wg V (Sa t0) (ule_ t0 (sl_SlN h_fv.at)) (wg V (Sb t0) (uvg t0 V) (vF (Sc t0) t0 (vt (W_end (en (Ka (Qb (Qh (Qh F2)))) fun A9 _ F9 => tk H3 (wp_ret (rt1 F9 (rv_tmp (fg0 F9)) ?_))))))))
  rw [show (decide ((25 < os.length ∧ os.length ≤ 200) ∨ 205 < os.length ∨ 30 < full.length)) = decide (30 < (full.length : Int)) from decide_eq_decide.2 Za]
  exact ⟨rfl, hS.fin0⟩
 refine xo V t0 (xo V (Sa t0) (xo V (Sb t0) (vF (Sc t0) V (vm t0 (wg V t0 (uvm (Sh (Sa (fg0 F2)))) (wg V (Sa t0) (ule_ t0 (sl_SlN h_lv.at)) (wg V (Sb t0) (uvg t0 V) (vF (Sc t0) t0 (W_split V V (V_mov V t0) (fun c10 => ?_) (fun c10 => ?_))))))))))
 ·refine xo V t0 (xo V (Sa t0) (xo V (Sb t0) (vT (Sc t0) V (vt (W_end (en (Ka (Qb (Qh (Qh F2)))) fun A11 _ F11 => tk H3 (wp_ret (rt1 F11 (rv_tmp (fg0 F11)) ?_))))))))
  rw [show (decide ((25 < os.length ∧ os.length ≤ 200) ∨ 205 < os.length ∨ 30 < full.length)) = true from decide_eq_true Za]
  exact ⟨rfl, hS.fin0⟩
 refine wg V t0 (uvm (Sh (Sf (fg1 F2)))) (wg V (Sa t0) (ule_ t0 (sl_SlN h_fv.at)) (wg V (Sb t0) (uvg t0 V) (vF (Sc t0) t0 (vt (W_end (en (Ka (Qb (Qh (Qh F2)))) fun A12 _ F12 => tk H3 (wp_ret (rt1 F12 (rv_tmp (fg0 F12)) ?_))))))))
 rw [show (decide ((25 < os.length ∧ os.length ≤ 200) ∨ 205 < os.length ∨ 30 < full.length)) = decide (30 < (full.length : Int)) from decide_eq_decide.2 Za]
 exact ⟨rfl, hS.fin0⟩

set_option maxHeartbeats 4000000 in
theorem kshn_c  {w : World}   :
  Calls Tryz.prog 8 #[] w fun e w' => e = .returned (.bool true) ∧ St w NoX [] w' := by
 refine ci0 118 Tryz.func8 V (fun A0 _ F0 => ?_)
 have hS := St.nil w
 refine tb fun _ H1 => (vc (W_end (en (Qa F0) fun A2 _ F2 => ta H1 fun _ H3 => (wc args0 (kcf29_c  ) (C0 hS fun w4 S4 => wc args0 (scr_c  ) (fun _ w5 ⟨v_5, e, hP5⟩ => ⟨_, e, ?_⟩))))))
 obtain ⟨c_5, hc_5, hP5⟩ := gen1 hP5
 have S5 := S4.j1 hP5
 refine wA (#[.int .i64 0, .int .i64 0, .int .i64 0, .int .i64 0, .int .i64 0]) S5 (fun g6 w6 c6 hc6 S6 => xsA0 S6 hc6 V V V t0 (Sb t0) (fun w7 c7 hc7 S7 => va (Sa t0) (W_end (en (Kb (Qb F2)) fun A8 _ F8 => ta H3 fun _ H9 => (ra (fg1 F8) (S7.ob 0 hc7) (vm (Sa (fg0 F8)) (wc (args3 (Sa t0) t0 V) (kPl_c (C := 8) (N := 8) (Z := 6) (K := 2) (Q := 2) (full := []) (fv := .slice none 0 0) (S7.cC 1 hc_5).own ro_nil) ?_)))))))
 rintro _ w10 (⟨rfl, hz_10, hP10⟩ | ⟨G_10, av_10, rfl, hz_10, hg_10, hP10⟩)
 ·refine ⟨_, rfl, ?_⟩
  have S10 := S7.j0 hP10
  exact absurd Zi hz_10
 refine ⟨_, rfl, ?_⟩
 obtain ⟨cK_10, cA_10, hcK_10, hcA_10, hP10⟩ := gen2 hP10
 have S10 := S7.j2 hP10
 refine vm t0 (vx (.agg #[G_10.1.1, G_10.2.1]) t0 (vx av_10 (Sa t0) (vx (.int .i64 0) (Sb t0) (vx (.int .i64 0) (Sc t0) (wA (#[.slice none 0 0, .slice none 0 0]) S10 (fun g11 w11 c11 hc11 S11 => xsB0 S11 hc11 V V V t0 (Sd t0) (by simp only [List.all_toArray, List.all_cons, List.all_nil, SlN_one (sl_SlN (gl_oa m1 (S11.cq 1 hcK_10))), SlN_one (sl_SlN (gl_ra m1 (S11.cq 1 hcK_10)))] <;> rfl) (fun w12 c12 hc12 S12 => va (Sc t0) (va (Sc t0) (va (Sc t0) (W_end (en (Ka (Qa (Ka (Qa (Qh F8))))) fun A13 _ F13 => ?_)))))))))))
 have S14 := S12.se [1, 2, 3, 4] [cK_10, cA_10, c7, c_5]
 refine ta H9 fun _ H15 => (ra (fg3 F13) (S14.ob 2 hc7) (vm (Sa (fg2 F13)) (wc (args3 (Sa t0) t0 V) (kLi_c (C := 8) (N := 8) (Z := 6) (K := 2) (Q := 2) (full := []) (fv := .slice none 0 0) (S14.cC 3 hc_5).own ro_nil) ?_)))
 rintro _ w16 (⟨rfl, hz_16, hP16⟩ | ⟨lw_16, rfl, hz_16, hP16⟩)
 ·refine ⟨_, rfl, ?_⟩
  have S16 := S14.j0 hP16
  exact absurd Zi hz_16
 refine ⟨_, rfl, ?_⟩
 obtain ⟨cL_16, hcL_16, hP16⟩ := gen1 hP16
 have S16 := S14.j1 hP16
 refine vm t0 (vx lw_16 t0 (vx (.int .i64 0) (Sa t0) (va (Sa t0) (va (Sa t0) (W_end (en (Kb (Qf F13)) fun A17 _ F17 => ta H15 fun _ H18 => (ra (fg5 F17) (S16.ob 3 hc7) (vm (Sa (fg4 F17)) (wc (args5 (Sa t0) t0 V V V) (kLf_c (C := 8) (N := 8) (Z := 6) (K := 2) (Q := 2) (full := []) (fv := .slice none 0 0) (a := 4) (b := 8) (S16.cC 4 hc_5).own ro_nil) (C0 S16 fun w19 S19 => vm t0 (vx (.int .i64 ((lfF (cfE 8 8 6 2 2) (lgN 8 8 6 2 2) 2 scr [] 4 8).1)) t0 (vx (.int .i64 ((lfF (cfE 8 8 6 2 2) (lgN 8 8 6 2 2) 2 scr [] 4 8).2)) (Sa t0) (va (Sa t0) (va (Sa t0) (W_end (en (Kb (Qf F17)) fun A20 _ F20 => ta H18 fun _ H21 => (ra (fg7 F20) (S19.ob 3 hc7) (vm (Sa (fg6 F20)) (wc (args5 (Sa t0) t0 V V V) (kLf_c (C := 8) (N := 8) (Z := 6) (K := 2) (Q := 2) (full := []) (fv := .slice none 0 0) (a := 6) (b := 8) (S19.cC 4 hc_5).own ro_nil) (C0 S19 fun w22 S22 => vm t0 (vx (.int .i64 ((lfF (cfE 8 8 6 2 2) (lgN 8 8 6 2 2) 2 scr [] 6 8).1)) t0 (vx (.int .i64 ((lfF (cfE 8 8 6 2 2) (lgN 8 8 6 2 2) 2 scr [] 6 8).2)) (Sa t0) (va (Sa t0) (va (Sa t0) (W_end (en (Kb (Qf F20)) fun A23 _ F23 => ta H21 fun _ H24 => (ra (fg9 F23) (S22.ob 3 hc7) (vm (Sa (fg8 F23)) ?_))))))))))))))))))))))))))))
 have hll25 : [1].length = 1 := rfl
 refine xsL (vs := [.int .i64 1]) (xs := ([1].map (Value.int .i64))) 1 S22 V V V (parts1 V) Tryz.underlying25 (fun g25 w25 c25 hc25 S25 => ?_)
 replace hc25 : c25 = io .i64 (.slice (some ⟨g25, 0, none⟩) 1 1) [1] := hc25
 replace S25 : St w NoX [c25, cL_16, cK_10, cA_10, c7, c_5] w25 := S25
 refine wc (args3 (Sb t0) (Sa t0) t0) (kPl_c (C := 8) (N := 8) (Z := 6) (K := 2) (Q := 2) (S25.cC 5 hc_5).own (S25.cC 0 hc25).own) ?_
 rintro _ w26 (⟨rfl, hz_26, hP26⟩ | ⟨G_26, av_26, rfl, hz_26, hg_26, hP26⟩)
 ·refine ⟨_, rfl, ?_⟩
  have S26 := S25.j0 hP26
  exact absurd Zi hz_26
 refine ⟨_, rfl, ?_⟩
 obtain ⟨cK_26, cA_26, hcK_26, hcA_26, hP26⟩ := gen2 hP26
 have S26 := S25.j2 hP26
 refine vm t0 (vx (.agg #[G_26.1.1, G_26.2.1]) t0 (vx av_26 (Sa t0) (vx (.int .i64 0) (Sb t0) (vx (.int .i64 0) (Sc t0) (wA (#[.slice none 0 0, .slice none 0 0]) S26 (fun g27 w27 c27 hc27 S27 => xsB0 S27 hc27 V V V t0 (Sd t0) (by simp only [List.all_toArray, List.all_cons, List.all_nil, SlN_one (sl_SlN (gl_oa m1 (S27.cq 1 hcK_26))), SlN_one (sl_SlN (gl_ra m1 (S27.cq 1 hcK_26)))] <;> rfl) (fun w28 c28 hc28 S28 => va (Sc t0) (va (Sc t0) (va (Sc t0) (W_end (en (Ka (Qa (Ka (Qb (Qh F23))))) fun A29 _ F29 => ?_)))))))))))
 have S30 := S28.se [1, 2, 4, 5, 6, 7, 8] [cK_26, cA_26, cL_16, cK_10, cA_10, c7, c_5]
 refine ta H24 fun _ H31 => (ra (fg11 F29) (S30.ob 5 hc7) (vm (Sa (fg10 F29)) ?_))
 have hll32 : [2].length = 1 := rfl
 refine xsL (vs := [.int .i64 2]) (xs := ([2].map (Value.int .i64))) 1 S30 V V V (parts1 V) Tryz.underlying25 (fun g32 w32 c32 hc32 S32 => ?_)
 replace hc32 : c32 = io .i64 (.slice (some ⟨g32, 0, none⟩) 1 1) [2] := hc32
 replace S32 : St w NoX [c32, cK_26, cA_26, cL_16, cK_10, cA_10, c7, c_5] w32 := S32
 refine wc (args3 (Sb t0) (Sa t0) t0) (kPl_c (C := 8) (N := 8) (Z := 6) (K := 2) (Q := 2) (S32.cC 7 hc_5).own (S32.cC 0 hc32).own) ?_
 rintro _ w33 (⟨rfl, hz_33, hP33⟩ | ⟨G_33, av_33, rfl, hz_33, hg_33, hP33⟩)
 ·refine ⟨_, rfl, ?_⟩
  have S33 := S32.j0 hP33
  refine vm t0 (vx (.agg #[.slice none 0 0, .slice none 0 0]) t0 (vx (.slice none 0 0) (Sa t0) (vx (.int .i64 ((plF (cfE 8 8 6 2 2) (lgN 8 8 6 2 2) 2 scr [2]).1)) (Sb t0) (vx (.int .i64 ((plF (cfE 8 8 6 2 2) (lgN 8 8 6 2 2) 2 scr [2]).2)) (Sc t0) (wA (#[.slice none 0 0, .slice none 0 0]) S33 (fun g34 w34 c34 hc34 S34 => xsA0 S34 hc34 V V V t0 (Sd t0) (fun w35 c35 hc35 S35 => va (Sc t0) (va (Sc t0) (va (Sc t0) (W_end (en (Kb (Qc (Qh F29))) fun A36 _ F36 => ?_)))))))))))
  have S37 := S35.se [2, 3, 4, 5, 6] [cK_26, cA_26, cL_16, cK_10, cA_10]
  refine ta H31 fun _ H38 => (vm (fg11 F36) ?_)
  have hll39 : [0, 0, 0, 0, 0, 0, 11, 10].length = 8 := rfl
  refine xsL (vs := [.int .i64 0, .int .i64 0, .int .i64 0, .int .i64 0, .int .i64 0, .int .i64 0, .int .i64 11, .int .i64 10]) (xs := ([0, 0, 0, 0, 0, 0, 11, 10].map (Value.int .i64))) 1 S37 V V V (parts8 V V V V V V V V) Tryz.underlying93 (fun g39 w39 c39 hc39 S39 => ?_)
  replace hc39 : c39 = io .i64 (.slice (some ⟨g39, 0, none⟩) 8 8) [0, 0, 0, 0, 0, 0, 11, 10] := hc39
  replace S39 : St w NoX [c39, cK_26, cA_26, cL_16, cK_10, cA_10] w39 := S39
  refine wc (args1 t0) (kas_29 (S39.cC 0 hc39).own Zr) (fun _ w40 ⟨v_40, e, hP40⟩ => ⟨_, e, ?_⟩)
  obtain ⟨c_40, hc_40, hP40⟩ := gen1 hP40
  have S40 := S39.j1 hP40
  refine wc (args2 (Sb t0) t0) (ksm29_c (S40.cC 6 hcA_10).own (S40.cC 0 hc_40).own) (C0 S40 fun w41 S41 => W_sure (c' := true) V V (V_mov V t0) Zi (wg V t0 (uvm (Se (fg10 F36))) (wg V (Sa t0) (uve t0 V) (vT (Sb t0) t0 (W_sure (c' := true) V V (V_mov V t0) Zj (wg V t0 (uvm (Sh (Sa (fg9 F36)))) ?_))))))
  have hll42 : [0, 3, 5, 5, 5, 5, 2, 2, 2].length = 9 := rfl
  refine xsL (vs := [.int .i64 0, .int .i64 3, .int .i64 5, .int .i64 5, .int .i64 5, .int .i64 5, .int .i64 2, .int .i64 2, .int .i64 2]) (xs := ([0, 3, 5, 5, 5, 5, 2, 2, 2].map (Value.int .i64))) 1 S41 V (xwt V V (Sa t0)) V (parts9 V V V V V V V V V) Tryz.underlying25 (fun g42 w42 c42 hc42 S42 => ?_)
  replace hc42 : c42 = io .i64 (.slice (some ⟨g42, 0, none⟩) 9 9) [0, 3, 5, 5, 5, 5, 2, 2, 2] := hc42
  replace S42 : St w NoX [c42, c_40, c39, cK_26, cA_26, cL_16, cK_10, cA_10] w42 := S42
  refine W_call V (xwt V V (Sb t0)) V Tryz.func15 om V (args2 (Sa t0) t0) (qInts_c (S42.cC 5 hcL_16).own (S42.cC 0 hc42).own) (C0 S42 fun w43 S43 => vT (Sc t0) t0 (W_sure (c' := true) V V (V_mov V t0) Zi (wg V t0 (uvm (Sh (Sf (fg8 F36)))) (wg V (Sa t0) (uve t0 V) (vT (Sb t0) t0 (W_sure (c' := true) V V (V_mov V t0) Zj (wg V t0 (uvm (Sh (Sh (Sb (fg7 F36))))) (wg V (Sa t0) (uve t0 V) (vT (Sb t0) t0 (W_sure (c' := true) V V (V_mov V t0) Zi (wg V t0 (uvm (Sh (Sh (Sf (fg6 F36))))) (wg V (Sa t0) (uve t0 V) (vT (Sb t0) t0 (W_sure (c' := true) V V (V_mov V t0) Zi (wg V t0 (uvm (Sh (Sh (Sh (Sb (fg5 F36)))))) (wg V (Sa t0) (uve t0 V) (vT (Sb t0) t0 (W_sure (c' := true) V V (V_mov V t0) Zi (wg V t0 (uvm (Sh (Sh (Sh (Sf (fg4 F36)))))) (wg V (Sa t0) (uve t0 V) (vT (Sb t0) t0 (W_sure (c' := true) V V (V_mov V t0) Zi (wg V t0 (uvm (Sh (Sh (Sh (Sh (Sb (fg3 F36))))))) ?_)))))))))))))))))))))))
  have hll44 : [0, 5, 0, 0, 0, 0, 11, 10].length = 8 := rfl
  refine xsL (vs := [.int .i64 0, .int .i64 5, .int .i64 0, .int .i64 0, .int .i64 0, .int .i64 0, .int .i64 11, .int .i64 10]) (xs := ([0, 5, 0, 0, 0, 0, 11, 10].map (Value.int .i64))) 1 S43 V (xwt V V (Sa t0)) V (parts8 V V V V V V V V) Tryz.underlying93 (fun g44 w44 c44 hc44 S44 => ?_)
  replace hc44 : c44 = io .i64 (.slice (some ⟨g44, 0, none⟩) 8 8) [0, 5, 0, 0, 0, 0, 11, 10] := hc44
  replace S44 : St w NoX [c44, c42, c_40, c39, cK_26, cA_26, cL_16, cK_10, cA_10] w44 := S44
  refine W_call V (xwt V V (Sb t0)) V Tryz.func28 om V (args1 t0) (kas_29 (S44.cC 0 hc44).own Zr) (fun _ w45 ⟨v_45, e, hP45⟩ => ⟨_, e, ?_⟩)
  obtain ⟨c_45, hc_45, hP45⟩ := gen1 hP45
  have S45 := S44.j1 hP45
  refine W_call V (xwt V V (Sc t0)) V Tryz.func14 om V (args2 (Sb t0) t0) (ksm29_c (S45.cC 6 hcA_26).own (S45.cC 0 hc_45).own) (C0 S45 fun w46 S46 => vT (Sd t0) t0 (W_sure (c' := true) V V (V_mov V t0) Zi (wg V t0 (uvm (Sh (Sh (Sh (Sh (Sh (fg2 F36))))))) (wg V (Sa t0) (uve t0 V) (vT (Sb t0) t0 (W_sure (c' := true) V V (V_mov V t0) Zj (wg V t0 (uvm (Sh (Sh (Sh (Sh (Sh (Sd (fg1 F36)))))))) (wg V (Sa t0) (uve t0 V) (vT (Sb t0) t0 (W_sure (c' := true) V V (V_mov V t0) Zi (wg V t0 (uvm (Sh (Sh (Sh (Sh (Sh (Sh (fg0 F36)))))))) (wg V (Sa t0) (uve t0 V) (vT (Sb t0) t0 (vt (W_end (en (Ka (Qc (Qh (Qh (Qh (Qh (Qh (Qh F36)))))))) fun A47 _ F47 => tk H38 (wp_ret (rt1 F47 (rv_tmp (fg0 F47)) ?_))))))))))))))))))
  rw [show true = decide ((plF (cfE 8 8 6 2 2) (lgN 8 8 6 2 2) 2 scr [2]).2 = 2) by first | rfl | decide +kernel]
  exact ⟨rfl, S46.fin0⟩
 refine ⟨_, rfl, ?_⟩
 obtain ⟨cK_33, cA_33, hcK_33, hcA_33, hP33⟩ := gen2 hP33
 have S33 := S32.j2 hP33
 exact absurd hz_33 Zi

end Go.Proofs.YtpgkfndbfocibaaGreat