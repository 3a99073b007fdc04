import Derived.Test.YtpgkfndbfocibaaPl15i
import Derived.Test.YtpgkfndbfocibaaProg
import Derived.Test.YtpgkfndbfocibaaGh7
/-! graph.changed for whatever closure: what it answers -/
namespace Go.Own.Gr
open Go Go.Own Go.Own.R Go.Own.G
def chE (O : List Ab) (rs ns : List Int) (er : Int) : Int := if ckd O rs ns ≠ 0 then ckd O rs ns else er
def chO (O : List Ab) (rs ns : List Int) (er : Int) (O2 : List Ab) : List Ab := if ckd O rs ns ≠ 0 then [] else if er ≠ 0 then [] else O2
def chR (O : List Ab) (rs ns : List Int) (er : Int) (R2 : List Int) : List Int := if ckd O rs ns ≠ 0 then [] else if er ≠ 0 then [] else R2
section
variable {O O2 O' : List Ab} {rs ns R2 R' : List Int} {er a b f p r x : Int} {E : Int}
theorem ch_ck (h : ckd O rs ns ≠ 0) : chE O rs ns er = ckd O rs ns ∧ chO O rs ns er O2 = [] ∧ chR O rs ns er R2 = [] := by unfold chE chO chR; rw [if_pos h, if_pos h, if_pos h]; exact ⟨rfl, rfl, rfl⟩
theorem ch_er (h : ckd O rs ns = 0) (h2 : er ≠ 0) : chE O rs ns er = er ∧ chO O rs ns er O2 = [] ∧ chR O rs ns er R2 = [] := by
  unfold chE chO chR; simp [h, h2]
theorem ch_ok (h : ckd O rs ns = 0) (h2 : er = 0) : chE O rs ns er = 0 ∧ chO O rs ns er O2 = O2 ∧ chR O rs ns er R2 = R2 := by
  unfold chE chO chR; simp [h, h2]
theorem ch_gen (hk : ckd O rs ns ≠ 0 → E = ckd O rs ns ∧ O' = [] ∧ R' = []) (hi : ckd O rs ns = 0 → (er ≠ 0 → E = er ∧ O' = [] ∧ R' = []) ∧ (er = 0 → E = 0 ∧ O' = O2 ∧ R' = R2)) : chE O rs ns er = E ∧ chO O rs ns er O2 = O' ∧ chR O rs ns er R2 = R' := by
  by_cases h : ckd O rs ns = 0
  · by_cases h2 : er = 0
    · obtain ⟨q1, q2, q3⟩ := ch_ok (O2 := O2) (R2 := R2) h h2
      obtain ⟨p1, p2, p3⟩ := (hi h).2 h2
      exact ⟨q1.trans p1.symm, q2.trans p2.symm, q3.trans p3.symm⟩
    · obtain ⟨q1, q2, q3⟩ := ch_er (O2 := O2) (R2 := R2) h h2
      obtain ⟨p1, p2, p3⟩ := (hi h).1 h2
      exact ⟨q1.trans p1.symm, q2.trans p2.symm, q3.trans p3.symm⟩
  · obtain ⟨q1, q2, q3⟩ := ch_ck (er := er) (O2 := O2) (R2 := R2) h
    obtain ⟨p1, p2, p3⟩ := hk h
    exact ⟨q1.trans p1.symm, q2.trans p2.symm, q3.trans p3.symm⟩
theorem ch_al : chE O rs [a] (alX p r O.length) = alE O rs a p r ∧ chO O rs [a] (alX p r O.length) (alI p r O) = alO O rs a p r ∧ chR O rs [a] (alX p r O.length) (alJ a p r O rs) = alR O rs a p r := ch_gen al_ck al_in
theorem ch_ld : chE O rs [a, b] (ldX O rs b f) = ptE O rs [a, b] b f ∧ chO O rs [a, b] (ldX O rs b f) O = ldO O rs a b f ∧ chR O rs [a, b] (ldX O rs b f) (ldJ O rs a b f) = ldR O rs a b f := ch_gen ld_ck ld_in
theorem ch_so : chE O rs [a, b] (ldX O rs a f) = ptE O rs [a, b] a f ∧ chO O rs [a, b] (ldX O rs a f) (soI O rs a f b) = soO O rs a f b ∧ chR O rs [a, b] (ldX O rs a f) rs = soR O rs a f b := ch_gen so_ck so_in
theorem ch_wr : chE O rs [a] (wrX O rs a f) = rwE O rs [a] a f ∧ chO O rs [a] (wrX O rs a f) (wrI O rs a f x) = wrO O rs a f x ∧ chR O rs [a] (wrX O rs a f) rs = wrR O rs a f := ch_gen wr_ck wr_in
theorem ch_mv : chE O rs [a, b] 0 = ckd O rs [a, b] ∧ chO O rs [a, b] 0 O = kpO O rs [a, b] ∧ chR O rs [a, b] 0 (rs.set a.toNat (rg rs b)) = mvR O rs a b := ch_gen (fun h => ⟨rfl, (mv_ck h).2⟩) fun h => ⟨fun q => absurd rfl q, fun _ => ⟨h, mv_k h⟩⟩
theorem ch_cl : chE O rs [a] 0 = ckd O rs [a] ∧ chO O rs [a] 0 O = kpO O rs [a] ∧ chR O rs [a] 0 (rs.set a.toNat 0) = clR O rs a := ch_gen (fun h => ⟨rfl, (cl_ck h).2⟩) fun h => ⟨fun q => absurd rfl q, fun _ => ⟨h, cl_k h⟩⟩
end
end Go.Own.Gr

namespace Go.Proofs.Ytpgkfndbfocibaa
open Go.RowKit Go.Own Go.Own.R Go.Own.G Go.Own.Gr


set_option maxHeartbeats 4000000 in
theorem kAl1_c {ov : Value} {O : List Ob} {rv : Value} {rs : List Int} {gov : Nat} {p : Int} {gp : Nat} {r : Int} {gr : Nat} {a : Int} {ga : Nat} {w : World} {Y : Nat → Prop} (hb_p : Ro w Y (bx gp 3 #[.int .i64 p])) (hb_r : Ro w Y (bx gr 3 #[.int .i64 r])) (hb_a : Ro w Y (bx ga 3 #[.int .i64 a])) (hS : St w Y [bx gov 36 #[ov, rv], ro 2 obC ov O, owl .i64 (O.map (·.1)), owl .u64 (O.map (·.2)), io .i64 rv rs] w) (ha : 0 ≤ a ∧ a < (rs.length : Int)) (hol : O.length ≤ 400) :
  Calls Try.prog 82 #[.pointer (some ⟨gov, 0, none⟩), .pointer (some ⟨gp, 0, none⟩), .pointer (some ⟨gr, 0, none⟩), .pointer (some ⟨ga, 0, none⟩)] w fun e w' => ∃ hv H qv, e = .returned (.int .i64 (alX p r (O.map ab).length)) ∧ (H.map ab = alI p r (O.map ab)) ∧ St w Y [bx gov 36 #[hv, qv], ro 2 obC hv H, owl .i64 (H.map (·.1)), owl .u64 (H.map (·.2)), io .i64 (qv) (alJ a p r (O.map ab) rs)] w' := by
 refine calls_in 55 Try.func82 V V (by simp) (fun A0 Y0 hdf0 hargs => ?_)
 have l0_0 := hargs 0 (.pointer (some ⟨gov, 0, none⟩)) V
 have l1_0 := hargs 1 (.pointer (some ⟨gp, 0, none⟩)) V
 have l2_0 := hargs 2 (.pointer (some ⟨gr, 0, none⟩)) V
 have l3_0 := hargs 3 (.pointer (some ⟨ga, 0, none⟩)) V
 clear hargs; replace Y0 : SzN A0 55 := ⟨Y0⟩
 obtain ⟨mb_ov, m_ov, mp_ov, mq_ov, m_rv, hmb_ov, hm_ov, hmp_ov, hmq_ov, hm_rv, hS⟩ := gen5 hS
 replace hS : St w Y [mb_ov, m_ov, mp_ov, mq_ov, m_rv] w := hS
 have bm_ov := SlN.le (ow_at (hS.chq 1 V hm_ov))
 have bm_rv := SlN.le (ow_at (hS.chq 4 V hm_rv))
 refine wp_seq_k fun K1 H1 => region_in ?_
 refine W_v V V (V_asg V V) ?_
 refine W_end (gen_Q fun A2 E2 => ?_)
 have Y2 := szq E2
 have F2 := ((((fsE E2 (cq1 (FS.n hdf0) V)).c (lookE E2 0 (es V l0_0))).c (lookE E2 1 (es V l1_0))).c (lookE E2 2 (es V l2_0))).c (lookE E2 3 (es V l3_0))
 clear E2 Y0 hdf0 l0_0 l1_0 l2_0 l3_0
 refine tk H1 (wp_seq_k fun K3 H3 => ?_)
 refine wp_block ?_
 refine wp_seq_k fun K4 H4 => region_in ?_
 refine W_r V V (VR_ldC V (fg2 F2) (cell_box (v := .int .i64 (p)) (ob_at (hS.ro hb_p)) V) Try.underlying3 V) ?_
 refine W_v V V (V_lss V (et V) V) ?_
 refine W_split V V (V_mov V (et V)) (fun c5 => ?_) (fun c5 => ?_)
 ·refine xof V V V (et V) (xof V V V (es V (et V)) ?_)
  refine W_v V V (V_pickT V (es2 V (et V)) V) ?_
  refine W_v V V (V_asg V (et V)) ?_
  refine W_end (gen_Q fun A6 E6 => ?_)
  have Y6 := szq E6
  have F6 := fsE E6 (ck (cq6 F2 V) V V)
  clear E6 Y2 F2
  refine tk H4 ?_
  refine cond_t (fg0 F6) ?_
  refine wp_seq_k fun K7 H7 => region_in ?_
  refine W_v V V (V_asg V V) ?_
  refine W_end (gen_Q fun A8 E8 => ?_)
  have Y8 := szq E8
  have F8 := fsE E8 (ck F6 V V)
  clear E8 Y6 F6
  refine tk H7 (wp_ret (inb_ret (then_ret ?_)))
  refine ret_in (results_1 Try.results82 (rv_tmp (fg0 F8))) F8.d ?_
  have h : (alX p r (O.map ab).length) = 10 := alX_bad (by omega)
  have q := al_I (a := a) (rs := rs) (L := (O.map ab)) (p := p) (r := r) (by rw [h]; decide)
  rw [h, q.1]
  exact ⟨_, O, _, rfl, rfl, (hS.fin5 0 V (hmb_ov) 1 V (hm_ov) 2 V (hmp_ov) 3 V (hmq_ov) 4 V (hm_rv.trans (by rw [q.2])) (by decide))⟩
 refine W_r V (xwt V V (et V)) (VR_ldC V (es3 V (fg1 F2)) (cell_box (v := .int .i64 (r)) (ob_at (hS.ro hb_r)) V) Try.underlying3 V) ?_
 refine W_v V (xwt V V (es V (et V))) (V_lss V (et V) V) ?_
 refine W_v V V (V_pickF V (es2 V (et V)) (et V)) ?_
 refine W_v V V (V_asg V (et V)) ?_
 refine W_end (gen_Q fun A9 E9 => ?_)
 have Y9 := szq E9
 have F9 := fsE E9 (ck (cq6 F2 V) V V)
 clear E9 Y2 F2
 refine tk H4 ?_
 refine cond_dec (fg0 F9) (fun c10 => ?_) (fun c10 => ?_)
 ·refine wp_seq_k fun K11 H11 => region_in ?_
  refine W_v V V (V_asg V V) ?_
  refine W_end (gen_Q fun A12 E12 => ?_)
  have Y12 := szq E12
  have F12 := fsE E12 (ck F9 V V)
  clear E12 Y9 F9
  refine tk H11 (wp_ret (inb_ret (then_ret ?_)))
  refine ret_in (results_1 Try.results82 (rv_tmp (fg0 F12))) F12.d ?_
  have h : (alX p r (O.map ab).length) = 10 := alX_bad (by omega)
  have q := al_I (a := a) (rs := rs) (L := (O.map ab)) (p := p) (r := r) (by rw [h]; decide)
  rw [h, q.1]
  exact ⟨_, O, _, rfl, rfl, (hS.fin5 0 V (hmb_ov) 1 V (hm_ov) 2 V (hmp_ov) 3 V (hmq_ov) 4 V (hm_rv.trans (by rw [q.2])) (by decide))⟩
 refine wp_seq_k fun K13 H13 => region_in ?_
 refine W_r V V (VR_ldC V (fg3 F9) (cell_box (v := .int .i64 (p)) (ob_at (hS.ro hb_p)) V) Try.underlying3 V) ?_
 refine W_v V V (V_gtr V (et V) V) ?_
 refine W_split V V (V_mov V (et V)) (fun c14 => ?_) (fun c14 => ?_)
 ·refine xof V V V (et V) (xof V V V (es V (et V)) (xof V V V (es2 V (et V)) (xof V V V (es3 V (et V)) (xof V V V (es4 V (et V)) ?_))))
  refine W_v V V (V_pickT V (es5 V (et V)) V) ?_
  refine W_v V V (V_asg V (et V)) ?_
  refine W_end (gen_Q fun A15 E15 => ?_)
  have Y15 := szq E15
  have F15 := fsE E15 (ck (cq1 (cq8 F9 V) V) V V)
  clear E15 Y9 F9
  refine tk H13 ?_
  refine cond_t (fg0 F15) ?_
  refine wp_seq_k fun K16 H16 => region_in ?_
  refine W_v V V (V_asg V V) ?_
  refine W_end (gen_Q fun A17 E17 => ?_)
  have Y17 := szq E17
  have F17 := fsE E17 (ck F15 V V)
  clear E17 Y15 F15
  refine tk H16 (wp_ret (inb_ret (then_ret ?_)))
  refine ret_in (results_1 Try.results82 (rv_tmp (fg0 F17))) F17.d ?_
  have h : (alX p r (O.map ab).length) = 11 := alX_big (by omega) (by omega)
  have q := al_I (a := a) (rs := rs) (L := (O.map ab)) (p := p) (r := r) (by rw [h]; decide)
  rw [h, q.1]
  exact ⟨_, O, _, rfl, rfl, (hS.fin5 0 V (hmb_ov) 1 V (hm_ov) 2 V (hmp_ov) 3 V (hmq_ov) 4 V (hm_rv.trans (by rw [q.2])) (by decide))⟩
 refine W_r V (xwt V V (et V)) (VR_ldC V (es3 V (fg3 F9)) (cell_box (v := .int .i64 (p)) (ob_at (hS.ro hb_p)) V) Try.underlying3 V) ?_
 refine W_r V (xwt V V (es V (et V))) (VR_ldC V (es4 V (fg2 F9)) (cell_box (v := .int .i64 (r)) (ob_at (hS.ro hb_r)) V) Try.underlying3 V) ?_
 refine W_v V (xwt V V (es2 V (et V))) (V_min V (et V) V) ?_
 refine W_v V (xwt V V (es3 V (et V))) (V_add V (es2 V (et V)) (et V) (by omega) (by omega)) ?_
 refine W_v V (xwt V V (es4 V (et V))) (V_gtr V (et V) V) ?_
 refine W_v V V (V_pickF V (es5 V (et V)) (et V)) ?_
 refine W_v V V (V_asg V (et V)) ?_
 refine W_end (gen_Q fun A18 E18 => ?_)
 have Y18 := szq E18
 have F18 := fsE E18 (ck (cq1 (cq8 F9 V) V) V V)
 clear E18 Y9 F9
 refine tk H13 ?_
 refine cond_dec (fg0 F18) (fun c19 => ?_) (fun c19 => ?_)
 ·refine wp_seq_k fun K20 H20 => region_in ?_
  refine W_v V V (V_asg V V) ?_
  refine W_end (gen_Q fun A21 E21 => ?_)
  have Y21 := szq E21
  have F21 := fsE E21 (ck F18 V V)
  clear E21 Y18 F18
  refine tk H20 (wp_ret (inb_ret (then_ret ?_)))
  refine ret_in (results_1 Try.results82 (rv_tmp (fg0 F21))) F21.d ?_
  have h : (alX p r (O.map ab).length) = 11 := alX_big (by omega) (by omega)
  have q := al_I (a := a) (rs := rs) (L := (O.map ab)) (p := p) (r := r) (by rw [h]; decide)
  rw [h, q.1]
  exact ⟨_, O, _, rfl, rfl, (hS.fin5 0 V (hmb_ov) 1 V (hm_ov) 2 V (hmp_ov) 3 V (hmq_ov) 4 V (hm_rv.trans (by rw [q.2])) (by decide))⟩
 refine wp_seq_k fun K22 H22 => region_in ?_
 refine W_v V V (V_mov V (fg5 F18)) ?_
 refine W_v V V (V_nil V (et V)) ?_
 refine W_v V V (V_fa (off' := 0) V (et V) Try.underlying36 V (by decide +kernel) V) ?_
 refine W_r V V (xlC (v := ov) V (et V) (hS.obj 0 V hmb_ov) Try.underlying34) ?_
 refine W_v V V (V_lenS V (et V) (ow_at (hS.chq 1 V hm_ov)) Try.underlying34) ?_
 refine W_v V V (V_eql V (et V) V) ?_
 refine W_v V V (V_asg V (et V)) ?_
 refine W_end (gen_Q fun A23 E23 => ?_)
 have Y23 := szq E23
 have F23 := fsE E23 (ck (cq6 F18 V) V V)
 clear E23 Y18 F18
 refine tk H22 ?_
 refine cond_dec (fg0 F23) (fun c24 => ?_) (fun c24 => ?_)
 ·refine wp_seq_k fun K25 H25 => region_in ?_
  refine W_v V V (V_asg V V) ?_
  refine W_end (gen_Q fun A26 E26 => ?_)
  have Y26 := szq E26
  have F26 := fsE E26 (ck F23 V V)
  clear E26 Y23 F23
  refine tk H25 (wp_ret (inb_ret (then_ret ?_)))
  refine ret_in (results_1 Try.results82 (rv_tmp (fg0 F26))) F26.d ?_
  have h : (alX p r (O.map ab).length) = 5 := alX_full (by omega) (by omega) (by rw [List.length_map]; omega)
  have q := al_I (a := a) (rs := rs) (L := (O.map ab)) (p := p) (r := r) (by rw [h]; decide)
  rw [h, q.1]
  exact ⟨_, O, _, rfl, rfl, (hS.fin5 0 V (hmb_ov) 1 V (hm_ov) 2 V (hmp_ov) 3 V (hmq_ov) 4 V (hm_rv.trans (by rw [q.2])) (by decide))⟩
 refine wp_skip (inb_n ?_)
 refine tk H3 (wp_seq_k fun K27 H27 => ?_)
 refine region_monoS 11 12 [none, none, none, none, none, none, some (SPv [] (fun _ => fun u l' => ∃ v, u = v ∧ ∃ c, c = ow 1 p.toNat v (List.replicate p.toNat (.int .i64 0)) ∧ l' = [c]) 6), none, some (SPv [] (fun _ => fun u l' => ∃ v, u = v ∧ ∃ c, c = ow 1 r.toNat v (List.replicate r.toNat (.int .u64 0)) ∧ l' = [c]) 8), none, some (SPv [36, 38] (fun vs => fun u l' => ∃ g_, u = .slice (some ⟨g_, 0, none⟩) 1 1 ∧ ∃ c_, c_ = ro 2 obC (.slice (some ⟨g_, 0, none⟩) 1 1) [(((vs.getD 0 undef), (List.replicate p.toNat (0 : Int))), ((vs.getD 1 undef), (List.replicate r.toNat (0 : Int))))] ∧ l' = [c_]) 10)] (by kernel_rfl) (by kernel_rfl) ?_
 refine D_v V V (V_mov V (fg6 F23)) V V ?_
 refine D_v V V (V_mov V (es V (fg6 F23))) V V ?_
 refine D_v V V (V_nil V (et V)) V V ?_
 refine D_v V V (V_fa (off' := 0) V (et V) Try.underlying36 V (by decide +kernel) V) V V ?_
 refine D_r V V (by kernel_rfl) (fun sx hx hF => (VR_ldC V (et V) (cell_box (v := ov) ((hS.grow hx).obj 0 V hmb_ov) V) Try.underlying34 V)) V V ?_
 refine D_r V V (by kernel_rfl) (fun sx hx hF => (VR_ldC V (es5 V (fg5 F23)) (cell_box (v := .int .i64 (p)) (ob_at ((hS.grow hx).ro hb_p)) V) Try.underlying3 V)) V V ?_
 refine D_lay (ts := []) (vs := []) (C0 := fun _ => fun u l' => ∃ v, u = v ∧ ∃ c, c = ow 1 p.toNat v (List.replicate p.toNat (.int .i64 0)) ∧ l' = [c]) (C := fun u l' => ∃ v, u = v ∧ ∃ c, c = ow 1 p.toNat v (List.replicate p.toNat (.int .i64 0)) ∧ l' = [c]) V V V V V V (fun sx hx hF => lay_mk (z := .int .i64 0) (bytes := 8) p.toNat V (et V) (et V) (by omega) Try.underlying25 (by kernel_rfl) (by omega) V) (fun u28 l28 hu28 => ?_)
 obtain ⟨v28, rfl, c28, hc28, hl28⟩ := hu28
 replace hc28 : c28 = io .i64 u28 (List.replicate p.toNat (0 : Int)) := hc28.trans (by simp only [io, bo, List.map_replicate, List.length_replicate])
 refine D_r V V (by kernel_rfl) (fun sx hx hF => (VR_ldC V (es7 V (fg4 F23)) (cell_box (v := .int .i64 (r)) (ob_at ((hS.grow hx).ro hb_r)) V) Try.underlying3 V)) V V ?_
 refine D_lay (ts := []) (vs := []) (C0 := fun _ => fun u l' => ∃ v, u = v ∧ ∃ c, c = ow 1 r.toNat v (List.replicate r.toNat (.int .u64 0)) ∧ l' = [c]) (C := fun u l' => ∃ v, u = v ∧ ∃ c, c = ow 1 r.toNat v (List.replicate r.toNat (.int .u64 0)) ∧ l' = [c]) V V V V V V (fun sx hx hF => lay_mk (z := .int .u64 0) (bytes := 8) r.toNat V (et V) (et V) (by omega) Try.underlying66 (by kernel_rfl) (by omega) V) (fun u29 l29 hu29 => ?_)
 obtain ⟨v29, rfl, c29, hc29, hl29⟩ := hu29
 replace hc29 : c29 = io .u64 u29 (List.replicate r.toNat (0 : Int)) := hc29.trans (by simp only [io, bo, List.map_replicate, List.length_replicate])
 refine D_r V V (by kernel_rfl) (fun sx hx hF => by obtain ⟨ll28, ws28, we28, ⟨v28q, hq28, c28_, hc28_, hl28_⟩, hm28, k28, e28⟩ := L.ancF_get (L.ancF_rest hF) (by kernel_rfl); cases hq28; subst hl28_; obtain ⟨ll29, ws29, we29, ⟨v29q, hq29, c29_, hc29_, hl29_⟩, hm29, k29, e29⟩ := L.ancF_get hF (by kernel_rfl); cases hq29; subst hl29_; exact ((V_bldS (n := 2) (z := .agg #[.slice none 0 0, .slice none 0 0]) V (parts2 (es2 V (et V)) (et V)) (by kernel_rfl) (by simp only [List.all_cons, List.all_nil, SlN_one (ow_at ((k28.grow e28).chq 0 V hc28_)), SlN_one (ow_at ((k29.grow e29).chq 0 V hc29_)), Bool.and_true] <;> rfl) (by kernel_rfl) (by simp only [List.foldl_cons, List.foldl_nil, Value.cells, List.setIfInBounds_toArray, List.set_cons_succ, List.set_cons_zero] <;> rfl) : Val _ _ _ _) _)) V V ?_
 have hll30 : [((u28, (List.replicate p.toNat (0 : Int))), (u29, (List.replicate r.toNat (0 : Int))))].length = 1 := rfl
 refine D_lay (ts := [36, 38]) (vs := [u28, u29]) (C0 := fun vs => fun u l' => ∃ g_, u = .slice (some ⟨g_, 0, none⟩) 1 1 ∧ ∃ c_, c_ = ro 2 obC (.slice (some ⟨g_, 0, none⟩) 1 1) [(((vs.getD 0 undef), (List.replicate p.toNat (0 : Int))), ((vs.getD 1 undef), (List.replicate r.toNat (0 : Int))))] ∧ l' = [c_]) (C := fun u l' => ∃ g_, u = .slice (some ⟨g_, 0, none⟩) 1 1 ∧ ∃ c_, c_ = ro 2 obC (.slice (some ⟨g_, 0, none⟩) 1 1) [((u28, (List.replicate p.toNat (0 : Int))), (u29, (List.replicate r.toNat (0 : Int))))] ∧ l' = [c_]) V V V V (ts2 (es3 V (et V)) (es V (et V))) V (fun sx hx hF => lay_lit (vs := [.agg #[u28, u29]]) 2 V (parts1 (et V)) V Try.underlying34 (by kernel_rfl) (by decide) (by intro v hv; simp only [List.mem_cons, List.not_mem_nil, or_false] at hv; rcases hv with rfl <;> rfl) (by rfl)) (fun u30 l30 hu30 => ?_)
 obtain ⟨g30, rfl, c30, hc30, hl30⟩ := hu30
 refine D_eff V ?_
 refine ZS_eff hS V V (fun s31 hJ31 hL31 hF31 => ?_)
 obtain ⟨ll28, ws28, we28, ⟨v28q, hq28, c28r, hc28r, hl28r⟩, hm28, k28, e28⟩ := L.all_get (L.all_rest (L.all_rest hF31)); cases hq28; subst hl28r
 replace hJ31 := hJ31.add hL31 (i := 6) V hm28 k28 e28
 replace hc28r : c28r = io .i64 u28 (List.replicate p.toNat (0 : Int)) := hc28r.trans (by simp only [io, bo, List.map_replicate, List.length_replicate])
 obtain ⟨ll29, ws29, we29, ⟨v29q, hq29, c29r, hc29r, hl29r⟩, hm29, k29, e29⟩ := L.all_get (L.all_rest hF31); cases hq29; subst hl29r
 replace hJ31 := hJ31.add hL31 (i := 8) V hm29 k29 e29
 replace hc29r : c29r = io .u64 u29 (List.replicate r.toNat (0 : Int)) := hc29r.trans (by simp only [io, bo, List.map_replicate, List.length_replicate])
 obtain ⟨ll30, ws30, we30, ⟨g30q, hq30, c30r, hc30r, hl30r⟩, hm30, k30, e30⟩ := L.all_get hF31; cases hq30; subst hl30r
 replace hJ31 := hJ31.add hL31 (i := 10) V hm30 k30 e30
 have S31 := hJ31.st; clear hF31 hJ31 hL31
 generalize s31.1 = w31 at *
 replace S31 : St w Y [c30r, c29r, c28r, mb_ov, m_ov, mp_ov, mq_ov, m_rv] w31 := S31
 refine W_appS 2 4 S31 V hm_ov V V V (es6 V (et V)) (et V) Try.underlying34 Try.underlying34 (z := .agg #[.slice none 0 0, .slice none 0 0]) (bytes := 48) (by kernel_rfl) V (by decide) (ow_at (S31.chq 0 V hc30r)) (by intro u hu; simp only [List.flatMap_cons, List.flatMap_nil, obC, List.append_nil, List.cons_append, List.nil_append, List.mem_cons, List.not_mem_nil, or_false] at hu; rcases hu with rfl | rfl <;> first | exact SlN_one (ow_at (S31.chq 2 V hc28r)) | exact SlN_one (ow_at (S31.chq 1 V hc29r))) (by first | omega | (simp; done) | (simp; omega)) (by first | omega | (simp; done) | (simp; omega)) (fun v32 w32 c32 hc32 S32 => ?_)
 replace hc32 : c32 = ro 2 obC v32 (O ++ [((u28, (List.replicate p.toNat (0 : Int))), (u29, (List.replicate r.toNat (0 : Int))))]) := hc32.trans (app_eqR (by first | (simp; done) | (rw [List.take_of_length_le (l := List.drop _ _) (by rw [List.length_drop]; exact Nat.le_refl _)])))
 replace S32 : St w Y [c30r, c29r, c28r, mb_ov, c32, mp_ov, mq_ov, m_rv] w32 := S32
 have S33 := S32.sel [2, 5, 1, 6, 0, 3, 4, 7] (by decide) (l' := [c28r, mp_ov, c29r, mq_ov, c30r, mb_ov, c32, m_rv]) V
 replace S33 : St w Y [c28r, mp_ov, c29r, mq_ov, c30r, mb_ov, c32, m_rv] w32 := S33
 rw [hc28r, hmp_ov, hc29r, hmq_ov] at S33
 obtain ⟨c34, cb34, hc34, hcb34, S34⟩ := gen2 (nst_push (pv := u28) (ps := (List.replicate p.toNat (0 : Int))) (qv := u29) (qs := (List.replicate r.toNat (0 : Int))) (O := O) S33)
 replace S34 : St w Y [c34, cb34, c30r, mb_ov, c32, m_rv] w32 := S34
 replace hc34 : c34 = owl .i64 ((O ++ [((u28, (List.replicate p.toNat (0 : Int))), (u29, (List.replicate r.toNat (0 : Int))))]).map (·.1)) := hc34
 replace hcb34 : cb34 = owl .u64 ((O ++ [((u28, (List.replicate p.toNat (0 : Int))), (u29, (List.replicate r.toNat (0 : Int))))]).map (·.2)) := hcb34
 refine W_v V V (V_nil V (es8 V (es3 V (et V)))) ?_
 refine W_v V V (V_fa (off' := 0) V (et V) Try.underlying36 V (by decide +kernel) V) ?_
 refine xsC (zs' := #[v32, rv]) 3 S34 V hmb_ov V V V (et V) (es2 V (et V)) (SlN_one (ow_at (S34.chq 4 V hc32))) (fun w35 c35 hc35 S35 => ?_)
 replace S35 : St w Y [c34, cb34, c30r, c35, c32, m_rv] w35 := S35
 refine W_end (Qo_normal ?_)
 refine gen_Q (fun A36 E36 => ?_)
 have Y36 := szq E36
 have F36 := fsE E36 (cq6 (cq8 F23 V) V)
 clear E36 Y23 F23
 have S37 : St w Y [c34, cb34, c35, c32, m_rv] w35 := S35.sel [0, 1, 3, 4, 5] (by decide) V
 refine tk H27 (wp_seq_k fun K38 H38 => ?_)
 refine region_monoS 11 12 [] (by kernel_rfl) (by kernel_rfl) ?_
 refine D_v V V (V_mov V (fg6 F36)) V V ?_
 refine D_v V V (V_nil V (et V)) V V ?_
 refine D_v V V (V_fa (off' := 1) V (et V) Try.underlying36 V (by decide +kernel) V) V V ?_
 refine D_r V V (by kernel_rfl) (fun sx hx hF => (VR_ldC V (et V) (cell_box (v := rv) ((S37.grow hx).obj 2 V hc35) V) Try.underlying25 V)) V V ?_
 refine D_r V V (by kernel_rfl) (fun sx hx hF => (VR_ldC V (es4 V (fg3 F36)) (cell_box (v := .int .i64 (a)) (ob_at ((S37.grow hx).ro hb_a)) V) Try.underlying3 V)) V V ?_
 refine D_v V V (V_mov V (es5 V (fg6 F36))) V V ?_
 refine D_v V V (V_nil V (et V)) V V ?_
 refine D_v V V (V_fa (off' := 0) V (et V) Try.underlying36 V (by decide +kernel) V) V V ?_
 refine D_r V V (by kernel_rfl) (fun sx hx hF => (VR_ldC V (et V) (cell_box (v := v32) ((S37.grow hx).obj 2 V hc35) V) Try.underlying34 V)) V V ?_
 refine D_v V V (V_lenS V (et V) (ow_at (S37.chq 3 V hc32)) Try.underlying34) V V ?_
 have k39 : a.toNat < rs.length := by first | omega | (simp only [List.length_cons, List.length_nil]; omega) | (simp only [List.length_set]; omega) | decide
 obtain ⟨y39, hy39⟩ := get_some (xs := rs) (k := a.toNat) k39
 obtain ⟨B39, O39, C39, hv39⟩ := (SlN.blk (ow_at (S37.chq 4 rfl hm_rv)) (by first | omega | (simp only [List.length_cons, List.length_nil]; omega) | (simp only [List.length_set]; omega) | decide))
 refine D_v V V (V_ixS (off := O39 + a.toNat) 1 (a.toNat) V (es6 V (et V)) (es5 V (et V)) hv39 (by omega) k39 Try.underlying25 (by kernel_rfl) (congrArg _ (Nat.mul_one _))) V V ?_
 refine D_eff V ?_
 refine ZS_eff S37 V V (fun s40 hJ40 hL40 hF40 => ?_)
 have S40 := hJ40.st; clear hF40 hJ40 hL40
 generalize s40.1 = w40 at *
 replace S40 : St w Y [c34, cb34, c35, c32, m_rv] w40 := S40
 refine W_stE 4 S40 V hm_rv hv39 V V V (et V) (es V (et V)) (by rfl) V (by first | (simp only [List.length_map]; omega) | omega) (by kernel_rfl) (fun w41 c41 hc41 S41 => ?_)
 replace hc41 : c41 = io .i64 rv (rs.set a.toNat ((O ++ [((u28, (List.replicate p.toNat (0 : Int))), (u29, (List.replicate r.toNat (0 : Int))))]).length : Int)) := hc41.trans (by simp [io, bo, List.map_set] <;> rfl)
 replace S41 : St w Y [c34, cb34, c35, c32, c41] w41 := S41
 refine W_end (Qo_normal ?_)
 refine gen_Q (fun A42 E42 => ?_)
 have Y42 := szq E42
 have F42 := fsE E42 (cq3 (cq8 F36 V) V)
 clear E42 Y36 F36
 refine tk H38 (wp_seq_k fun K43 H43 => region_in ?_)
 refine W_v V V (V_asg V V) ?_
 refine W_end (gen_Q fun A44 E44 => ?_)
 have Y44 := szq E44
 have F44 := fsE E44 (ck F42 V V)
 clear E44 Y42 F42
 refine tk H43 (wp_ret ?_)
 refine ret_in (results_1 Try.results82 (rv_tmp (fg0 F44))) F44.d ?_
 have h : (alX p r (O.map ab).length) = 0 := alX_ok (by omega) (by omega) (by rw [List.length_map]; omega)
 have q := al_J (a := a) (rs := rs) (L := (O.map ab)) h
 rw [h, q.1]
 exact ⟨_, (O ++ [((u28, (List.replicate p.toNat (0 : Int))), (u29, (List.replicate r.toNat (0 : Int))))]), _, rfl, al_map, (S41.fin5 2 V (hc35) 3 V (hc32) 0 V (hc34) 1 V (hcb34) 4 V (hc41.trans ((congrArg (fun z => io .i64 _ (rs.set a.toNat z)) (show _ = (((O.map ab).length : Nat) : Int) + 1 by simp)).trans (by rw [q.2]))) (by decide))⟩

set_option maxHeartbeats 4000000 in
theorem kLd1_c {ov : Value} {O : List Ob} {rv : Value} {rs : List Int} {gov : Nat} {b : Int} {gb : Nat} {f : Int} {gf : Nat} {a : Int} {ga : Nat} {w : World} {Y : Nat → Prop} (hb_b : Ro w Y (bx gb 3 #[.int .i64 b])) (hb_f : Ro w Y (bx gf 3 #[.int .i64 f])) (hb_a : Ro w Y (bx ga 3 #[.int .i64 a])) (hS : St w Y [bx gov 36 #[ov, rv], ro 2 obC ov O, owl .i64 (O.map (·.1)), owl .u64 (O.map (·.2)), io .i64 rv rs] w) (hrg : ∀ p ∈ rs, 0 ≤ p ∧ p ≤ (O.length : Int)) (ha : 0 ≤ a ∧ a < (rs.length : Int)) (hb : 0 ≤ b ∧ b < (rs.length : Int)) :
  Calls Try.prog 69 #[.pointer (some ⟨gov, 0, none⟩), .pointer (some ⟨gb, 0, none⟩), .pointer (some ⟨gf, 0, none⟩), .pointer (some ⟨ga, 0, none⟩)] w fun e w' => ∃ hv H qv, e = .returned (.int .i64 (ldX (O.map ab) rs b f)) ∧ (H.map ab = (O.map ab)) ∧ St w Y [bx gov 36 #[hv, qv], ro 2 obC hv H, owl .i64 (H.map (·.1)), owl .u64 (H.map (·.2)), io .i64 (qv) (ldJ (O.map ab) rs a b f)] w' := by
 refine calls_in 22 Try.func69 V V (by simp) (fun A0 Y0 hdf0 hargs => ?_)
 have l0_0 := hargs 0 (.pointer (some ⟨gov, 0, none⟩)) V
 have l1_0 := hargs 1 (.pointer (some ⟨gb, 0, none⟩)) V
 have l2_0 := hargs 2 (.pointer (some ⟨gf, 0, none⟩)) V
 have l3_0 := hargs 3 (.pointer (some ⟨ga, 0, none⟩)) V
 clear hargs; replace Y0 : SzN A0 22 := ⟨Y0⟩
 obtain ⟨mb_ov, m_ov, mp_ov, mq_ov, m_rv, hmb_ov, hm_ov, hmp_ov, hmq_ov, hm_rv, hS⟩ := gen5 hS
 replace hS : St w Y [mb_ov, m_ov, mp_ov, mq_ov, m_rv] w := hS
 have bm_ov := SlN.le (ow_at (hS.chq 1 V hm_ov))
 have bm_rv := SlN.le (ow_at (hS.chq 4 V hm_rv))
 refine wp_seq_k fun K1 H1 => region_in ?_
 refine W_v V V (V_asg V V) ?_
 refine W_end (gen_Q fun A2 E2 => ?_)
 have Y2 := szq E2
 have F2 := ((((fsE E2 (cq1 (FS.n hdf0) V)).c (lookE E2 0 (es V l0_0))).c (lookE E2 1 (es V l1_0))).c (lookE E2 2 (es V l2_0))).c (lookE E2 3 (es V l3_0))
 clear E2 Y0 hdf0 l0_0 l1_0 l2_0 l3_0
 refine tk H1 (wp_seq_k fun K3 H3 => region_in ?_)
 refine W_v V V (V_mov V (fg3 F2)) ?_
 refine W_r V V (VR_ldC V (es V (fg2 F2)) (cell_box (v := .int .i64 (b)) (ob_at (hS.ro hb_b)) V) Try.underlying3 V) ?_
 refine W_r V V (VR_ldC V (es2 V (fg1 F2)) (cell_box (v := .int .i64 (f)) (ob_at (hS.ro hb_f)) V) Try.underlying3 V) ?_
 refine W_call V V V Try.func70 (by kernel_rfl) V (args3 (es2 V (et V)) (es V (et V)) (et V)) (kpt_c (gov := gov) (a := b) (f := f) (hS.chC 1 V hm_ov).own (nst_of (hS.chC 2 V hmp_ov) (hS.chC 3 V hmq_ov)) (hS.chC 4 V hm_rv).own (hS.chC 0 V hmb_ov) (by first | with_reducible assumption | (have q := hG.reg; simpa using q)) (by first | omega | with_reducible assumption)) ?_
 rintro _ w4 (⟨rfl, hz_4, hP4⟩ | ⟨B_4, O_4, C_4, y_4, x_4, rfl, hv_4, hy_4, hx_4, hz_4, hob_4, hP4⟩)
 ·refine ⟨_, rfl, ?_⟩
  have S4 := hS.join hP4
  replace S4 : St w Y [mb_ov, m_ov, mp_ov, mq_ov, m_rv] w4 := S4
  refine W_v V V (V_asg V (et V)) ?_
  refine W_end (gen_Q fun A5 E5 => ?_)
  have Y5 := szq E5
  have F5 := fsE E5 (ck (cq4 F2 V) V V)
  clear E5 Y2 F2
  refine tk H3 (wp_seq_k fun K6 H6 => ?_)
  refine wp_seq_k fun K7 H7 => region_in ?_
  refine W_v V V (V_mov V (fg0 F5)) ?_
  refine W_v V V (V_eqNN V (et V) V Try.underlying96) ?_
  refine W_end (gen_Q fun A8 E8 => ?_)
  have Y8 := szq E8
  have F8 := fsE E8 (ck (cq1 F5 V) V V)
  clear E8 Y5 F5
  refine tk H7 ?_
  refine cond_t (fg0 F8) ?_
  refine wp_seq_k fun K9 H9 => region_in ?_
  refine W_v V V (V_asg V V) ?_
  refine W_end (gen_Q fun A10 E10 => ?_)
  have Y10 := szq E10
  have F10 := fsE E10 (ck F8 V V)
  clear E10 Y8 F8
  refine tk H9 (wp_ret (then_ret ?_))
  refine ret_in (results_1 Try.results69 (rv_tmp (fg0 F10))) F10.d ?_
  rw [ldX_n hz_4]
  exact ⟨_, O, _, rfl, rfl, (S4.fin5 0 V (hmb_ov) 1 V (hm_ov) 2 V (hmp_ov) 3 V (hmq_ov) 4 V (hm_rv.trans (by rw [ldJ_n hz_4])) (by decide))⟩
 refine ⟨_, rfl, ?_⟩
 have S4 := hS.join hP4
 replace S4 : St w Y [mb_ov, m_ov, mp_ov, mq_ov, m_rv] w4 := S4
 have bfn11 := SlN.le (sl_SlN (owl_at (mapE (g := (·.1)) hy_4) (S4.chq 2 V hmp_ov)))
 have bfn12 := SlN.le (sl_SlN (owl_at (mapE (g := (·.2)) hy_4) (S4.chq 3 V hmq_ov)))
 refine W_v V V (V_asg V (et V)) ?_
 refine W_end (gen_Q fun A13 E13 => ?_)
 have Y13 := szq E13
 have F13 := fsE E13 (ck (cq4 F2 V) V V)
 clear E13 Y2 F2
 refine tk H3 (wp_seq_k fun K14 H14 => ?_)
 refine wp_seq_k fun K15 H15 => region_in ?_
 refine W_v V V (V_mov V (fg0 F13)) ?_
 refine W_v V V (V_eqPN V (et V) V Try.underlying96) ?_
 refine W_end (gen_Q fun A16 E16 => ?_)
 have Y16 := szq E16
 have F16 := fsE E16 (ck (cq1 F13 V) V V)
 clear E16 Y13 F13
 refine tk H15 ?_
 refine cond_f (fg0 F16) ?_
 refine wp_skip ?_
 refine tk H14 (wp_seq_k fun K17 H17 => ?_)
 refine region_monoS 9 10 [] (by kernel_rfl) (by kernel_rfl) ?_
 refine D_v V V (V_mov V (fg5 F16)) V V ?_
 refine D_v V V (V_nil V (et V)) V V ?_
 refine D_v V V (V_fa (off' := 1) V (et V) Try.underlying36 V (by decide +kernel) V) V V ?_
 refine D_r V V (by kernel_rfl) (fun sx hx hF => (VR_ldC V (et V) (cell_box (v := rv) ((S4.grow hx).obj 0 V hmb_ov) V) Try.underlying25 V)) V V ?_
 refine D_r V V (by kernel_rfl) (fun sx hx hF => (VR_ldC V (es4 V (fg2 F16)) (cell_box (v := .int .i64 (a)) (ob_at ((S4.grow hx).ro hb_a)) V) Try.underlying3 V)) V V ?_
 refine D_v V V (V_mov V (es5 V (fg1 F16))) V V ?_
 refine D_v V V (V_nil V (et V)) V V ?_
 refine D_r V V (by kernel_rfl) (fun sx hx hF => (VR_ldC V (et V) ((sl_SlN (owl_at (mapE (g := (·.1)) hy_4) ((S4.grow hx).chq 2 V hmp_ov))).cell hv_4 (map_get hx_4)) Try.underlying3 V)) V V ?_
 have k18 : a.toNat < rs.length := by first | omega | (simp only [List.length_cons, List.length_nil]; omega) | (simp only [List.length_set]; omega) | decide
 obtain ⟨y18, hy18⟩ := get_some (xs := rs) (k := a.toNat) k18
 obtain ⟨B18, O18, C18, hv18⟩ := (SlN.blk (ow_at (S4.chq 4 rfl hm_rv)) (by first | omega | (simp only [List.length_cons, List.length_nil]; omega) | (simp only [List.length_set]; omega) | decide))
 refine D_v V V (V_ixS (off := O18 + a.toNat) 1 (a.toNat) V (es4 V (et V)) (es3 V (et V)) hv18 (by omega) k18 Try.underlying25 (by kernel_rfl) (congrArg _ (Nat.mul_one _))) V V ?_
 refine D_eff V ?_
 refine ZS_eff S4 V V (fun s19 hJ19 hL19 hF19 => ?_)
 have S19 := hJ19.st; clear hF19 hJ19 hL19
 generalize s19.1 = w19 at *
 replace S19 : St w Y [mb_ov, m_ov, mp_ov, mq_ov, m_rv] w19 := S19
 refine W_stE 4 S19 V hm_rv hv18 V V V (et V) (es V (et V)) (by rfl) V (by first | (simp only [List.length_map]; omega) | omega) (by kernel_rfl) (fun w20 c20 hc20 S20 => ?_)
 replace hc20 : c20 = io .i64 rv (rs.set a.toNat x_4) := hc20.trans (by simp [io, bo, List.map_set] <;> rfl)
 replace S20 : St w Y [mb_ov, m_ov, mp_ov, mq_ov, c20] w20 := S20
 refine W_end (Qo_normal ?_)
 refine gen_Q (fun A21 E21 => ?_)
 have Y21 := szq E21
 have F21 := fsE E21 (cq1 (cq8 F16 V) V)
 clear E21 Y16 F16
 refine tk H17 (wp_seq_k fun K22 H22 => region_in ?_)
 refine W_v V V (V_asg V V) ?_
 refine W_end (gen_Q fun A23 E23 => ?_)
 have Y23 := szq E23
 have F23 := fsE E23 (ck F21 V V)
 clear E23 Y21 F21
 refine tk H22 (wp_ret ?_)
 refine ret_in (results_1 Try.results69 (rv_tmp (fg0 F23))) F23.d ?_
 rw [ldX_k hz_4]
 exact ⟨_, O, _, rfl, rfl, (S20.fin5 0 V (hmb_ov) 1 V (hm_ov) 2 V (hmp_ov) 3 V (hmq_ov) 4 V (hc20.trans ((congrArg (fun z => io .i64 _ (rs.set a.toNat z)) (getD_at hx_4).symm).trans (by rw [ldJ_k hz_4, hob_4] <;> rfl))) (by decide))⟩

set_option maxHeartbeats 4000000 in
theorem kSo1_c {ov : Value} {O : List Ob} {rv : Value} {rs : List Int} {gov : Nat} {a : Int} {ga : Nat} {f : Int} {gf : Nat} {b : Int} {gb : Nat} {w : World} {Y : Nat → Prop} (hb_a : Ro w Y (bx ga 3 #[.int .i64 a])) (hb_f : Ro w Y (bx gf 3 #[.int .i64 f])) (hb_b : Ro w Y (bx gb 3 #[.int .i64 b])) (hS : St w Y [bx gov 36 #[ov, rv], ro 2 obC ov O, owl .i64 (O.map (·.1)), owl .u64 (O.map (·.2)), io .i64 rv rs] w) (hrg : ∀ p ∈ rs, 0 ≤ p ∧ p ≤ (O.length : Int)) (ha : 0 ≤ a ∧ a < (rs.length : Int)) (hb : 0 ≤ b ∧ b < (rs.length : Int)) :
  Calls Try.prog 71 #[.pointer (some ⟨gov, 0, none⟩), .pointer (some ⟨ga, 0, none⟩), .pointer (some ⟨gf, 0, none⟩), .pointer (some ⟨gb, 0, none⟩)] w fun e w' => ∃ hv H qv, e = .returned (.int .i64 (ldX (O.map ab) rs a f)) ∧ (H.map ab = soI (O.map ab) rs a f b) ∧ St w Y [bx gov 36 #[hv, qv], ro 2 obC hv H, owl .i64 (H.map (·.1)), owl .u64 (H.map (·.2)), io .i64 (qv) rs] w' := by
 refine calls_in 22 Try.func71 V V (by simp) (fun A0 Y0 hdf0 hargs => ?_)
 have l0_0 := hargs 0 (.pointer (some ⟨gov, 0, none⟩)) V
 have l1_0 := hargs 1 (.pointer (some ⟨ga, 0, none⟩)) V
 have l2_0 := hargs 2 (.pointer (some ⟨gf, 0, none⟩)) V
 have l3_0 := hargs 3 (.pointer (some ⟨gb, 0, none⟩)) V
 clear hargs; replace Y0 : SzN A0 22 := ⟨Y0⟩
 obtain ⟨mb_ov, m_ov, mp_ov, mq_ov, m_rv, hmb_ov, hm_ov, hmp_ov, hmq_ov, hm_rv, hS⟩ := gen5 hS
 replace hS : St w Y [mb_ov, m_ov, mp_ov, mq_ov, m_rv] w := hS
 have bm_ov := SlN.le (ow_at (hS.chq 1 V hm_ov))
 have bm_rv := SlN.le (ow_at (hS.chq 4 V hm_rv))
 refine wp_seq_k fun K1 H1 => region_in ?_
 refine W_v V V (V_asg V V) ?_
 refine W_end (gen_Q fun A2 E2 => ?_)
 have Y2 := szq E2
 have F2 := ((((fsE E2 (cq1 (FS.n hdf0) V)).c (lookE E2 0 (es V l0_0))).c (lookE E2 1 (es V l1_0))).c (lookE E2 2 (es V l2_0))).c (lookE E2 3 (es V l3_0))
 clear E2 Y0 hdf0 l0_0 l1_0 l2_0 l3_0
 refine tk H1 (wp_seq_k fun K3 H3 => region_in ?_)
 refine W_v V V (V_mov V (fg3 F2)) ?_
 refine W_r V V (VR_ldC V (es V (fg2 F2)) (cell_box (v := .int .i64 (a)) (ob_at (hS.ro hb_a)) V) Try.underlying3 V) ?_
 refine W_r V V (VR_ldC V (es2 V (fg1 F2)) (cell_box (v := .int .i64 (f)) (ob_at (hS.ro hb_f)) V) Try.underlying3 V) ?_
 refine W_call V V V Try.func70 (by kernel_rfl) V (args3 (es2 V (et V)) (es V (et V)) (et V)) (kpt_c (gov := gov) (a := a) (f := f) (hS.chC 1 V hm_ov).own (nst_of (hS.chC 2 V hmp_ov) (hS.chC 3 V hmq_ov)) (hS.chC 4 V hm_rv).own (hS.chC 0 V hmb_ov) (by first | with_reducible assumption | (have q := hG.reg; simpa using q)) (by first | omega | with_reducible assumption)) ?_
 rintro _ w4 (⟨rfl, hz_4, hP4⟩ | ⟨B_4, O_4, C_4, y_4, x_4, rfl, hv_4, hy_4, hx_4, hz_4, hob_4, hP4⟩)
 ·refine ⟨_, rfl, ?_⟩
  have S4 := hS.join hP4
  replace S4 : St w Y [mb_ov, m_ov, mp_ov, mq_ov, m_rv] w4 := S4
  refine W_v V V (V_asg V (et V)) ?_
  refine W_end (gen_Q fun A5 E5 => ?_)
  have Y5 := szq E5
  have F5 := fsE E5 (ck (cq4 F2 V) V V)
  clear E5 Y2 F2
  refine tk H3 (wp_seq_k fun K6 H6 => ?_)
  refine wp_seq_k fun K7 H7 => region_in ?_
  refine W_v V V (V_mov V (fg0 F5)) ?_
  refine W_v V V (V_eqNN V (et V) V Try.underlying96) ?_
  refine W_end (gen_Q fun A8 E8 => ?_)
  have Y8 := szq E8
  have F8 := fsE E8 (ck (cq1 F5 V) V V)
  clear E8 Y5 F5
  refine tk H7 ?_
  refine cond_t (fg0 F8) ?_
  refine wp_seq_k fun K9 H9 => region_in ?_
  refine W_v V V (V_asg V V) ?_
  refine W_end (gen_Q fun A10 E10 => ?_)
  have Y10 := szq E10
  have F10 := fsE E10 (ck F8 V V)
  clear E10 Y8 F8
  refine tk H9 (wp_ret (then_ret ?_))
  refine ret_in (results_1 Try.results71 (rv_tmp (fg0 F10))) F10.d ?_
  rw [ldX_n hz_4, soI_n hz_4]
  exact ⟨_, O, _, rfl, rfl, (S4.fin5 0 V (hmb_ov) 1 V (hm_ov) 2 V (hmp_ov) 3 V (hmq_ov) 4 V (hm_rv) (by decide))⟩
 refine ⟨_, rfl, ?_⟩
 have S4 := hS.join hP4
 replace S4 : St w Y [mb_ov, m_ov, mp_ov, mq_ov, m_rv] w4 := S4
 have bfn11 := SlN.le (sl_SlN (owl_at (mapE (g := (·.1)) hy_4) (S4.chq 2 V hmp_ov)))
 have bfn12 := SlN.le (sl_SlN (owl_at (mapE (g := (·.2)) hy_4) (S4.chq 3 V hmq_ov)))
 refine W_v V V (V_asg V (et V)) ?_
 refine W_end (gen_Q fun A13 E13 => ?_)
 have Y13 := szq E13
 have F13 := fsE E13 (ck (cq4 F2 V) V V)
 clear E13 Y2 F2
 refine tk H3 (wp_seq_k fun K14 H14 => ?_)
 refine wp_seq_k fun K15 H15 => region_in ?_
 refine W_v V V (V_mov V (fg0 F13)) ?_
 refine W_v V V (V_eqPN V (et V) V Try.underlying96) ?_
 refine W_end (gen_Q fun A16 E16 => ?_)
 have Y16 := szq E16
 have F16 := fsE E16 (ck (cq1 F13 V) V V)
 clear E16 Y13 F13
 refine tk H15 ?_
 refine cond_f (fg0 F16) ?_
 refine wp_skip ?_
 refine tk H14 (wp_seq_k fun K17 H17 => ?_)
 refine region_monoS 9 10 [] (by kernel_rfl) (by kernel_rfl) ?_
 refine D_v V V (V_mov V (fg1 F16)) V V ?_
 refine D_v V V (V_mov V (es V (fg5 F16))) V V ?_
 refine D_v V V (V_nil V (et V)) V V ?_
 refine D_v V V (V_fa (off' := 1) V (et V) Try.underlying36 V (by decide +kernel) V) V V ?_
 refine D_r V V (by kernel_rfl) (fun sx hx hF => (VR_ldC V (et V) (cell_box (v := rv) ((S4.grow hx).obj 0 V hmb_ov) V) Try.underlying25 V)) V V ?_
 refine D_r V V (by kernel_rfl) (fun sx hx hF => (VR_ldC V (es5 V (fg2 F16)) (cell_box (v := .int .i64 (b)) (ob_at ((S4.grow hx).ro hb_b)) V) Try.underlying3 V)) V V ?_
 have k18 : b.toNat < rs.length := by first | omega | (simp only [List.length_cons, List.length_nil]; omega) | (simp only [List.length_set]; omega) | decide
 obtain ⟨y18, hy18⟩ := get_some (xs := rs) (k := b.toNat) k18
 obtain ⟨B18, O18, C18, hv18⟩ := (SlN.blk (ow_at (S4.chq 4 rfl hm_rv)) (by first | omega | (simp only [List.length_cons, List.length_nil]; omega) | (simp only [List.length_set]; omega) | decide))
 refine D_v V V (V_ixS (off := O18 + b.toNat) 1 (b.toNat) V (es V (et V)) (et V) hv18 (by omega) k18 Try.underlying25 (by kernel_rfl) (congrArg _ (Nat.mul_one _))) V V ?_
 refine D_r V V (by kernel_rfl) (fun sx hx hF => (VR_ldC V (et V) ((ow_at ((S4.grow hx).chq 4 V hm_rv)).cell hv18 (map_get hy18)) Try.underlying3 V)) V V ?_
 refine D_v V V (V_nil V (es7 V (et V))) V V ?_
 refine D_eff V ?_
 refine ZS_eff S4 V V (fun s19 hJ19 hL19 hF19 => ?_)
 have S19 := hJ19.st; clear hF19 hJ19 hL19
 generalize s19.1 = w19 at *
 replace S19 : St w Y [mb_ov, m_ov, mp_ov, mq_ov, m_rv] w19 := S19
 have S21 := S19.sel [2, 3, 1, 0, 4] (by decide) (l' := [mp_ov, mq_ov, m_ov, mb_ov, m_rv]) V
 replace S21 : St w Y [mp_ov, mq_ov, m_ov, mb_ov, m_rv] w19 := S21
 refine W_stN1 S21 hmp_ov hmq_ov hm_ov hy_4 hv_4 V V V (et V) (es V (et V)) V (List.getElem?_eq_some_iff.1 hx_4).1 (by kernel_rfl) (fun w20 ca20 cb20 c20 hca20 hcb20 hc20 S20 => ?_)
 replace S20 : St w Y [ca20, cb20, c20, mb_ov, m_rv] w20 := S20
 refine W_end (Qo_normal ?_)
 refine gen_Q (fun A22 E22 => ?_)
 have Y22 := szq E22
 have F22 := fsE E22 (cq1 (cq8 F16 V) V)
 clear E22 Y16 F16
 refine tk H17 (wp_seq_k fun K23 H23 => region_in ?_)
 refine W_v V V (V_asg V V) ?_
 refine W_end (gen_Q fun A24 E24 => ?_)
 have Y24 := szq E24
 have F24 := fsE E24 (ck F22 V V)
 clear E24 Y22 F22
 refine tk H23 (wp_ret ?_)
 refine ret_in (results_1 Try.results71 (rv_tmp (fg0 F24))) F24.d ?_
 rw [ldX_k hz_4]
 exact ⟨_, (O.set ((rg rs a - 1).toNat) ((y_4.1.1, y_4.1.2.set ((f).toNat) y18), y_4.2)), _, rfl, so_map V hy_4 (rg_at hy18) hz_4, (S20.fin5 3 V (hmb_ov) 2 V (hc20) 0 V (hca20) 1 V (hcb20) 4 V (hm_rv) (by decide))⟩

set_option maxHeartbeats 4000000 in
theorem kWr1_c {ov : Value} {O : List Ob} {rv : Value} {rs : List Int} {gov : Nat} {a : Int} {ga : Nat} {f : Int} {gf : Nat} {x : Int} {gx : Nat} {w : World} {Y : Nat → Prop} (hb_a : Ro w Y (bx ga 3 #[.int .i64 a])) (hb_f : Ro w Y (bx gf 3 #[.int .i64 f])) (hb_x : Ro w Y (bx gx 40 #[.int .u64 x])) (hS : St w Y [bx gov 36 #[ov, rv], ro 2 obC ov O, owl .i64 (O.map (·.1)), owl .u64 (O.map (·.2)), io .i64 rv rs] w) (hrg : ∀ p ∈ rs, 0 ≤ p ∧ p ≤ (O.length : Int)) (ha : 0 ≤ a ∧ a < (rs.length : Int)) :
  Calls Try.prog 73 #[.pointer (some ⟨gov, 0, none⟩), .pointer (some ⟨ga, 0, none⟩), .pointer (some ⟨gf, 0, none⟩), .pointer (some ⟨gx, 0, none⟩)] w fun e w' => ∃ hv H qv, e = .returned (.int .i64 (wrX (O.map ab) rs a f)) ∧ (H.map ab = wrI (O.map ab) rs a f x) ∧ St w Y [bx gov 36 #[hv, qv], ro 2 obC hv H, owl .i64 (H.map (·.1)), owl .u64 (H.map (·.2)), io .i64 (qv) rs] w' := by
 refine calls_in 16 Try.func73 V V (by simp) (fun A0 Y0 hdf0 hargs => ?_)
 have l0_0 := hargs 0 (.pointer (some ⟨gov, 0, none⟩)) V
 have l1_0 := hargs 1 (.pointer (some ⟨ga, 0, none⟩)) V
 have l2_0 := hargs 2 (.pointer (some ⟨gf, 0, none⟩)) V
 have l3_0 := hargs 3 (.pointer (some ⟨gx, 0, none⟩)) V
 clear hargs; replace Y0 : SzN A0 16 := ⟨Y0⟩
 obtain ⟨mb_ov, m_ov, mp_ov, mq_ov, m_rv, hmb_ov, hm_ov, hmp_ov, hmq_ov, hm_rv, hS⟩ := gen5 hS
 replace hS : St w Y [mb_ov, m_ov, mp_ov, mq_ov, m_rv] w := hS
 have bm_ov := SlN.le (ow_at (hS.chq 1 V hm_ov))
 have bm_rv := SlN.le (ow_at (hS.chq 4 V hm_rv))
 refine wp_seq_k fun K1 H1 => region_in ?_
 refine W_v V V (V_asg V V) ?_
 refine W_end (gen_Q fun A2 E2 => ?_)
 have Y2 := szq E2
 have F2 := ((((fsE E2 (cq1 (FS.n hdf0) V)).c (lookE E2 0 (es V l0_0))).c (lookE E2 1 (es V l1_0))).c (lookE E2 2 (es V l2_0))).c (lookE E2 3 (es V l3_0))
 clear E2 Y0 hdf0 l0_0 l1_0 l2_0 l3_0
 refine tk H1 (wp_seq_k fun K3 H3 => region_in ?_)
 refine W_v V V (V_mov V (fg3 F2)) ?_
 refine W_r V V (VR_ldC V (es V (fg2 F2)) (cell_box (v := .int .i64 (a)) (ob_at (hS.ro hb_a)) V) Try.underlying3 V) ?_
 refine W_r V V (VR_ldC V (es2 V (fg1 F2)) (cell_box (v := .int .i64 (f)) (ob_at (hS.ro hb_f)) V) Try.underlying3 V) ?_
 refine W_call V V V Try.func72 (by kernel_rfl) V (args3 (es2 V (et V)) (es V (et V)) (et V)) (krw_c (gov := gov) (a := a) (f := f) (hS.chC 1 V hm_ov).own (nst_of (hS.chC 2 V hmp_ov) (hS.chC 3 V hmq_ov)) (hS.chC 4 V hm_rv).own (hS.chC 0 V hmb_ov) (by first | with_reducible assumption | (have q := hG.reg; simpa using q)) (by first | omega | with_reducible assumption)) ?_
 rintro _ w4 (⟨rfl, hz_4, hP4⟩ | ⟨B_4, O_4, C_4, y_4, x_4, rfl, hv_4, hy_4, hx_4, hz_4, hob_4, hP4⟩)
 ·refine ⟨_, rfl, ?_⟩
  have S4 := hS.join hP4
  replace S4 : St w Y [mb_ov, m_ov, mp_ov, mq_ov, m_rv] w4 := S4
  refine W_v V V (V_asg V (et V)) ?_
  refine W_end (gen_Q fun A5 E5 => ?_)
  have Y5 := szq E5
  have F5 := fsE E5 (ck (cq4 F2 V) V V)
  clear E5 Y2 F2
  refine tk H3 (wp_seq_k fun K6 H6 => ?_)
  refine wp_seq_k fun K7 H7 => region_in ?_
  refine W_v V V (V_mov V (fg0 F5)) ?_
  refine W_v V V (V_eqNN V (et V) V Try.underlying132) ?_
  refine W_end (gen_Q fun A8 E8 => ?_)
  have Y8 := szq E8
  have F8 := fsE E8 (ck (cq1 F5 V) V V)
  clear E8 Y5 F5
  refine tk H7 ?_
  refine cond_t (fg0 F8) ?_
  refine wp_seq_k fun K9 H9 => region_in ?_
  refine W_v V V (V_asg V V) ?_
  refine W_end (gen_Q fun A10 E10 => ?_)
  have Y10 := szq E10
  have F10 := fsE E10 (ck F8 V V)
  clear E10 Y8 F8
  refine tk H9 (wp_ret (then_ret ?_))
  refine ret_in (results_1 Try.results73 (rv_tmp (fg0 F10))) F10.d ?_
  rw [wrX_n hz_4, wrI_n hz_4]
  exact ⟨_, O, _, rfl, rfl, (S4.fin5 0 V (hmb_ov) 1 V (hm_ov) 2 V (hmp_ov) 3 V (hmq_ov) 4 V (hm_rv) (by decide))⟩
 refine ⟨_, rfl, ?_⟩
 have S4 := hS.join hP4
 replace S4 : St w Y [mb_ov, m_ov, mp_ov, mq_ov, m_rv] w4 := S4
 have bfn11 := SlN.le (sl_SlN (owl_at (mapE (g := (·.1)) hy_4) (S4.chq 2 V hmp_ov)))
 have bfn12 := SlN.le (sl_SlN (owl_at (mapE (g := (·.2)) hy_4) (S4.chq 3 V hmq_ov)))
 refine W_v V V (V_asg V (et V)) ?_
 refine W_end (gen_Q fun A13 E13 => ?_)
 have Y13 := szq E13
 have F13 := fsE E13 (ck (cq4 F2 V) V V)
 clear E13 Y2 F2
 refine tk H3 (wp_seq_k fun K14 H14 => ?_)
 refine wp_seq_k fun K15 H15 => region_in ?_
 refine W_v V V (V_mov V (fg0 F13)) ?_
 refine W_v V V (V_eqPN V (et V) V Try.underlying132) ?_
 refine W_end (gen_Q fun A16 E16 => ?_)
 have Y16 := szq E16
 have F16 := fsE E16 (ck (cq1 F13 V) V V)
 clear E16 Y13 F13
 refine tk H15 ?_
 refine cond_f (fg0 F16) ?_
 refine wp_skip ?_
 refine tk H14 (wp_seq_k fun K17 H17 => region_in ?_)
 refine W_v V V (V_mov V (fg1 F16)) ?_
 refine W_r V V (VR_ldC V (es V (fg2 F16)) (cell_box (v := .int .u64 (x)) (ob_at (S4.ro hb_x)) V) Try.underlying40 V) ?_
 refine W_v V V (V_nil V (es V (et V))) ?_
 have S19 := S4.sel [3, 2, 1, 0, 4] (by decide) (l' := [mq_ov, mp_ov, m_ov, mb_ov, m_rv]) V
 replace S19 : St w Y [mq_ov, mp_ov, m_ov, mb_ov, m_rv] w4 := S19
 refine W_stN2 S19 hmq_ov hmp_ov hm_ov hy_4 hv_4 V V V (et V) (es V (et V)) V (List.getElem?_eq_some_iff.1 hx_4).1 (by kernel_rfl) (fun w18 ca18 cb18 c18 hca18 hcb18 hc18 S18 => ?_)
 replace S18 : St w Y [ca18, cb18, c18, mb_ov, m_rv] w18 := S18
 refine W_end (gen_Q fun A20 E20 => ?_)
 have Y20 := szq E20
 have F20 := fsE E20 (cq3 F16 V)
 clear E20 Y16 F16
 refine tk H17 (wp_seq_k fun K21 H21 => region_in ?_)
 refine W_v V V (V_asg V V) ?_
 refine W_end (gen_Q fun A22 E22 => ?_)
 have Y22 := szq E22
 have F22 := fsE E22 (ck F20 V V)
 clear E22 Y20 F20
 refine tk H21 (wp_ret ?_)
 refine ret_in (results_1 Try.results73 (rv_tmp (fg0 F22))) F22.d ?_
 rw [wrX_k hz_4]
 exact ⟨_, (O.set ((rg rs a - 1).toNat) (y_4.1, (y_4.2.1, y_4.2.2.set ((f).toNat) x))), _, rfl, wr_map V hy_4 hz_4, (S18.fin5 3 V (hmb_ov) 2 V (hc18) 1 V (hcb18) 0 V (hca18) 4 V (hm_rv) (by decide))⟩

set_option maxHeartbeats 4000000 in
theorem kMv1_c {ov : Value} {O : List Ob} {rv : Value} {rs : List Int} {gov : Nat} {b : Int} {gb : Nat} {a : Int} {ga : Nat} {w : World} {Y : Nat → Prop} (hb_b : Ro w Y (bx gb 3 #[.int .i64 b])) (hb_a : Ro w Y (bx ga 3 #[.int .i64 a])) (hS : St w Y [bx gov 36 #[ov, rv], ro 2 obC ov O, owl .i64 (O.map (·.1)), owl .u64 (O.map (·.2)), io .i64 rv rs] w) (ha : 0 ≤ a ∧ a < (rs.length : Int)) (hb : 0 ≤ b ∧ b < (rs.length : Int)) :
  Calls Try.prog 74 #[.pointer (some ⟨gov, 0, none⟩), .pointer (some ⟨gb, 0, none⟩), .pointer (some ⟨ga, 0, none⟩)] w fun e w' => ∃ hv H qv, e = .returned (.int .i64 0) ∧ (H.map ab = (O.map ab)) ∧ St w Y [bx gov 36 #[hv, qv], ro 2 obC hv H, owl .i64 (H.map (·.1)), owl .u64 (H.map (·.2)), io .i64 (qv) (rs.set a.toNat (rg rs b))] w' := by
 refine calls_in 18 Try.func74 V V (by simp) (fun A0 Y0 hdf0 hargs => ?_)
 have l0_0 := hargs 0 (.pointer (some ⟨gov, 0, none⟩)) V
 have l1_0 := hargs 1 (.pointer (some ⟨gb, 0, none⟩)) V
 have l2_0 := hargs 2 (.pointer (some ⟨ga, 0, none⟩)) V
 clear hargs; replace Y0 : SzN A0 18 := ⟨Y0⟩
 obtain ⟨mb_ov, m_ov, mp_ov, mq_ov, m_rv, hmb_ov, hm_ov, hmp_ov, hmq_ov, hm_rv, hS⟩ := gen5 hS
 replace hS : St w Y [mb_ov, m_ov, mp_ov, mq_ov, m_rv] w := hS
 have bm_ov := SlN.le (ow_at (hS.chq 1 V hm_ov))
 have bm_rv := SlN.le (ow_at (hS.chq 4 V hm_rv))
 refine wp_seq_k fun K1 H1 => region_in ?_
 refine W_v V V (V_asg V V) ?_
 refine W_end (gen_Q fun A2 E2 => ?_)
 have Y2 := szq E2
 have F2 := (((fsE E2 (cq1 (FS.n hdf0) V)).c (lookE E2 0 (es V l0_0))).c (lookE E2 1 (es V l1_0))).c (lookE E2 2 (es V l2_0))
 clear E2 Y0 hdf0 l0_0 l1_0 l2_0
 refine tk H1 (wp_seq_k fun K3 H3 => ?_)
 refine region_monoS 13 14 [] (by kernel_rfl) (by kernel_rfl) ?_
 refine D_v V V (V_mov V (fg2 F2)) V V ?_
 refine D_v V V (V_nil V (et V)) V V ?_
 refine D_v V V (V_fa (off' := 1) V (et V) Try.underlying36 V (by decide +kernel) V) V V ?_
 refine D_r V V (by kernel_rfl) (fun sx hx hF => (VR_ldC V (et V) (cell_box (v := rv) ((hS.grow hx).obj 0 V hmb_ov) V) Try.underlying25 V)) V V ?_
 refine D_r V V (by kernel_rfl) (fun sx hx hF => (VR_ldC V (es4 V (fg0 F2)) (cell_box (v := .int .i64 (a)) (ob_at ((hS.grow hx).ro hb_a)) V) Try.underlying3 V)) V V ?_
 refine D_v V V (V_mov V (es5 V (fg2 F2))) V V ?_
 refine D_v V V (V_nil V (et V)) V V ?_
 refine D_v V V (V_fa (off' := 1) V (et V) Try.underlying36 V (by decide +kernel) V) V V ?_
 refine D_r V V (by kernel_rfl) (fun sx hx hF => (VR_ldC V (et V) (cell_box (v := rv) ((hS.grow hx).obj 0 V hmb_ov) V) Try.underlying25 V)) V V ?_
 refine D_r V V (by kernel_rfl) (fun sx hx hF => (VR_ldC V (es8 V (es V (fg1 F2))) (cell_box (v := .int .i64 (b)) (ob_at ((hS.grow hx).ro hb_b)) V) Try.underlying3 V)) V V ?_
 have k4 : b.toNat < rs.length := by first | omega | (simp only [List.length_cons, List.length_nil]; omega) | (simp only [List.length_set]; omega) | decide
 obtain ⟨y4, hy4⟩ := get_some (xs := rs) (k := b.toNat) k4
 obtain ⟨B4, O4, C4, hv4⟩ := (SlN.blk (ow_at (hS.chq 4 rfl hm_rv)) (by first | omega | (simp only [List.length_cons, List.length_nil]; omega) | (simp only [List.length_set]; omega) | decide))
 refine D_v V V (V_ixS (off := O4 + b.toNat) 1 (b.toNat) V (es V (et V)) (et V) hv4 (by omega) k4 Try.underlying25 (by kernel_rfl) (congrArg _ (Nat.mul_one _))) V V ?_
 refine D_r V V (by kernel_rfl) (fun sx hx hF => (VR_ldC V (et V) ((ow_at ((hS.grow hx).chq 4 V hm_rv)).cell hv4 (map_get hy4)) Try.underlying3 V)) V V ?_
 have k5 : a.toNat < rs.length := by first | omega | (simp only [List.length_cons, List.length_nil]; omega) | (simp only [List.length_set]; omega) | decide
 obtain ⟨y5, hy5⟩ := get_some (xs := rs) (k := a.toNat) k5
 refine D_v V V (V_ixS (off := O4 + a.toNat) 1 (a.toNat) V (es8 V (et V)) (es7 V (et V)) hv4 (by omega) k5 Try.underlying25 (by kernel_rfl) (congrArg _ (Nat.mul_one _))) V V ?_
 refine D_eff V ?_
 refine ZS_eff hS V V (fun s6 hJ6 hL6 hF6 => ?_)
 have S6 := hJ6.st; clear hF6 hJ6 hL6
 generalize s6.1 = w6 at *
 replace S6 : St w Y [mb_ov, m_ov, mp_ov, mq_ov, m_rv] w6 := S6
 refine W_stE 4 S6 V hm_rv hv4 V V V (et V) (es V (et V)) (by rfl) V (by first | (simp only [List.length_map]; omega) | omega) (by kernel_rfl) (fun w7 c7 hc7 S7 => ?_)
 replace hc7 : c7 = io .i64 rv (rs.set a.toNat y4) := hc7.trans (by simp [io, bo, List.map_set] <;> rfl)
 replace S7 : St w Y [mb_ov, m_ov, mp_ov, mq_ov, c7] w7 := S7
 refine W_end (Qo_normal ?_)
 refine gen_Q (fun A8 E8 => ?_)
 have Y8 := szq E8
 have F8 := fsE E8 (cq5 (cq8 F2 V) V)
 clear E8 Y2 F2
 refine tk H3 (wp_seq_k fun K9 H9 => region_in ?_)
 refine W_v V V (V_asg V V) ?_
 refine W_end (gen_Q fun A10 E10 => ?_)
 have Y10 := szq E10
 have F10 := fsE E10 (ck F8 V V)
 clear E10 Y8 F8
 refine tk H9 (wp_ret ?_)
 refine ret_in (results_1 Try.results74 (rv_tmp (fg0 F10))) F10.d ?_
 exact ⟨_, O, _, rfl, rfl, (S7.fin5 0 V (hmb_ov) 1 V (hm_ov) 2 V (hmp_ov) 3 V (hmq_ov) 4 V (hc7.trans (by rw [rg_at hy4])) (by decide))⟩

set_option maxHeartbeats 4000000 in
theorem kCl1_c {ov : Value} {O : List Ob} {rv : Value} {rs : List Int} {gov : Nat} {a : Int} {ga : Nat} {w : World} {Y : Nat → Prop} (hb_a : Ro w Y (bx ga 3 #[.int .i64 a])) (hS : St w Y [bx gov 36 #[ov, rv], ro 2 obC ov O, owl .i64 (O.map (·.1)), owl .u64 (O.map (·.2)), io .i64 rv rs] w) (ha : 0 ≤ a ∧ a < (rs.length : Int)) :
  Calls Try.prog 75 #[.pointer (some ⟨gov, 0, none⟩), .pointer (some ⟨ga, 0, none⟩)] w fun e w' => ∃ hv H qv, e = .returned (.int .i64 0) ∧ (H.map ab = (O.map ab)) ∧ St w Y [bx gov 36 #[hv, qv], ro 2 obC hv H, owl .i64 (H.map (·.1)), owl .u64 (H.map (·.2)), io .i64 (qv) (rs.set a.toNat 0)] w' := by
 refine calls_in 10 Try.func75 V V (by simp) (fun A0 Y0 hdf0 hargs => ?_)
 have l0_0 := hargs 0 (.pointer (some ⟨gov, 0, none⟩)) V
 have l1_0 := hargs 1 (.pointer (some ⟨ga, 0, none⟩)) V
 clear hargs; replace Y0 : SzN A0 10 := ⟨Y0⟩
 obtain ⟨mb_ov, m_ov, mp_ov, mq_ov, m_rv, hmb_ov, hm_ov, hmp_ov, hmq_ov, hm_rv, hS⟩ := gen5 hS
 replace hS : St w Y [mb_ov, m_ov, mp_ov, mq_ov, m_rv] w := hS
 have bm_ov := SlN.le (ow_at (hS.chq 1 V hm_ov))
 have bm_rv := SlN.le (ow_at (hS.chq 4 V hm_rv))
 refine wp_seq_k fun K1 H1 => region_in ?_
 refine W_v V V (V_asg V V) ?_
 refine W_end (gen_Q fun A2 E2 => ?_)
 have Y2 := szq E2
 have F2 := ((fsE E2 (cq1 (FS.n hdf0) V)).c (lookE E2 0 (es V l0_0))).c (lookE E2 1 (es V l1_0))
 clear E2 Y0 hdf0 l0_0 l1_0
 refine tk H1 (wp_seq_k fun K3 H3 => ?_)
 refine region_monoS 6 7 [] (by kernel_rfl) (by kernel_rfl) ?_
 refine D_v V V (V_mov V (fg1 F2)) V V ?_
 refine D_v V V (V_nil V (et V)) V V ?_
 refine D_v V V (V_fa (off' := 1) V (et V) Try.underlying36 V (by decide +kernel) V) V V ?_
 refine D_r V V (by kernel_rfl) (fun sx hx hF => (VR_ldC V (et V) (cell_box (v := rv) ((hS.grow hx).obj 0 V hmb_ov) V) Try.underlying25 V)) V V ?_
 refine D_r V V (by kernel_rfl) (fun sx hx hF => (VR_ldC V (es4 V (fg0 F2)) (cell_box (v := .int .i64 (a)) (ob_at ((hS.grow hx).ro hb_a)) V) Try.underlying3 V)) V V ?_
 have k4 : a.toNat < rs.length := by first | omega | (simp only [List.length_cons, List.length_nil]; omega) | (simp only [List.length_set]; omega) | decide
 obtain ⟨y4, hy4⟩ := get_some (xs := rs) (k := a.toNat) k4
 obtain ⟨B4, O4, C4, hv4⟩ := (SlN.blk (ow_at (hS.chq 4 rfl hm_rv)) (by first | omega | (simp only [List.length_cons, List.length_nil]; omega) | (simp only [List.length_set]; omega) | decide))
 refine D_v V V (V_ixS (off := O4 + a.toNat) 1 (a.toNat) V (es V (et V)) (et V) hv4 (by omega) k4 Try.underlying25 (by kernel_rfl) (congrArg _ (Nat.mul_one _))) V V ?_
 refine D_eff V ?_
 refine ZS_eff hS V V (fun s5 hJ5 hL5 hF5 => ?_)
 have S5 := hJ5.st; clear hF5 hJ5 hL5
 generalize s5.1 = w5 at *
 replace S5 : St w Y [mb_ov, m_ov, mp_ov, mq_ov, m_rv] w5 := S5
 refine W_stE 4 S5 V hm_rv hv4 V V V (et V) V (by rfl) V (by first | (simp only [List.length_map]; omega) | omega) (by kernel_rfl) (fun w6 c6 hc6 S6 => ?_)
 replace hc6 : c6 = io .i64 rv (rs.set a.toNat 0) := hc6.trans (by simp [io, bo, List.map_set] <;> rfl)
 replace S6 : St w Y [mb_ov, m_ov, mp_ov, mq_ov, c6] w6 := S6
 refine W_end (Qo_normal ?_)
 refine gen_Q (fun A7 E7 => ?_)
 have Y7 := szq E7
 have F7 := fsE E7 (cq6 F2 V)
 clear E7 Y2 F2
 refine tk H3 (wp_seq_k fun K8 H8 => region_in ?_)
 refine W_v V V (V_asg V V) ?_
 refine W_end (gen_Q fun A9 E9 => ?_)
 have Y9 := szq E9
 have F9 := fsE E9 (ck F7 V V)
 clear E9 Y7 F7
 refine tk H8 (wp_ret ?_)
 refine ret_in (results_1 Try.results75 (rv_tmp (fg0 F9))) F9.d ?_
 exact ⟨_, O, _, rfl, rfl, (S6.fin5 0 V (hmb_ov) 1 V (hm_ov) 2 V (hmp_ov) 3 V (hmq_ov) 4 V (hc6) (by decide))⟩

set_option maxHeartbeats 4000000 in
theorem kchG_c {ov : Value} {O : List Ob} {rv : Value} {rs : List Int} {fno : Nat} {caps : Array Value} {fnn : Func} {er : Int} {O2 : List Ab} {R2 : List Int} {nv : Value} {ns : List Int} {w : World} (h_ov : Ro w NoX (rl 2 obC ov O)) (n_ov : Ro w NoX (nst O)) (h_rv : Ro w NoX (il .i64 rv rs)) (h_nv : Ro w NoX (il .i64 nv ns)) (hsm : SM (O.map ab)) (hcf : Try.prog.funcs[fno]? = some fnn) (hcn : (fnn.name == "runtime.NumGoroutine") = false) (hcb : fnn.body.isNone = false) (hcl : ckd (O.map ab) rs ns = 0 → ∀ (W1 : World) (Y1 : Nat → Prop) (g : Nat) (hv : Value) (H : List Ob) (qv : Value), (∀ c : HP, Ro w NoX c → Ro W1 Y1 c) → H.map ab = O.map ab → St W1 Y1 [bx g 36 #[hv, qv], ro 2 obC hv H, owl .i64 (H.map (·.1)), owl .u64 (H.map (·.2)), io .i64 qv rs] W1 → Calls Try.prog fno (#[.pointer (some ⟨g, 0, none⟩)] ++ caps) W1 fun e w' => ∃ hv' H' qv', e = .returned (.int .i64 er) ∧ (H'.map ab = O2) ∧ St W1 Y1 [bx g 36 #[hv', qv'], ro 2 obC hv' H', owl .i64 (H'.map (·.1)), owl .u64 (H'.map (·.2)), io .i64 qv' R2] w') :
  Calls Try.prog 68 #[.agg #[ov, rv], .func (.func fno) #[] caps, nv] w fun e w' => ∃ hv H qv, e = .returned (.tuple #[.agg #[hv, qv], .int .i64 (chE (O.map ab) rs ns er)]) ∧ (H.map ab = (chO (O.map ab) rs ns er O2)) ∧ St w NoX [ro 2 obC hv H, owl .i64 (H.map (·.1)), owl .u64 (H.map (·.2)), io .i64 (qv) (chR (O.map ab) rs ns er R2)] w' := by
 refine calls_in 51 Try.func68 V V (by simp) (fun A0 hsz0 hdf0 hargs => ?_)
 have l0_0 := hargs 0 (.agg #[ov, rv]) V
 have l1_0 := hargs 1 (.func (.func fno) #[] caps) V
 have l2_0 := hargs 2 (nv) V
 clear hargs; replace hsz0 : SzN A0 51 := ⟨hsz0⟩
 have hS := St.nil w
 have bh_ov := SlN.le (sl_SlN h_ov.at)
 have bh_rv := SlN.le (sl_SlN h_rv.at)
 have bh_nv := SlN.le (sl_SlN h_nv.at)
 refine wp_seq_k fun K1 H1 => region_in ?_
 refine W_boxS (zs := #[ov, rv]) hS V V V l0_0 (by rfl) (fun g2 w2 c2 hc2 S2 => ?_)
 replace S2 : St w NoX [c2] w2 := S2
 refine W_allocS (z := .agg #[.slice none 0 0, .slice none 0 0]) (zs := #[.slice none 0 0, .slice none 0 0]) S2 V V V (by kernel_rfl) (by rfl) (fun g3 w3 c3 hc3 S3 => ?_)
 replace S3 : St w NoX [c3, c2] w3 := S3
 refine W_v V V (V_asg V V) ?_
 refine W_end (gen_Q fun A4 E4 => ?_)
 have hsz4 := szq E4
 have F4 := ((fsE E4 (cq1 (ck (ck (FS.n hdf0) V V) V V) V)).c (lookE E4 1 (es3 V l1_0))).c (lookE E4 2 (es3 V l2_0))
 clear E4 hsz0 hdf0 l0_0 l1_0 l2_0
 refine tk H1 (wp_seq_k fun K5 H5 => ?_)
 refine wp_seq_k fun K6 H6 => region_in ?_
 refine W_r V V (VR_ldA V (fg3 F4) (S3.obj 1 V hc2) Try.underlying36 V (by kernel_rfl)) ?_
 refine W_v V V (V_mov V (es V (fg0 F4))) ?_
 refine W_call V V V Try.func38 (by kernel_rfl) V (args2 (es V (et V)) (et V)) (kcd_c (S3.roC h_ov) (S3.roC n_ov) (S3.roC h_rv) (S3.roC h_nv) ) ?_
 rintro _ w7 ⟨rfl, hP7⟩
 refine ⟨_, rfl, ?_⟩
 have S7 := S3.join hP7
 replace S7 : St w NoX [c3, c2] w7 := S7
 refine W_v V V (V_asg V (et V)) ?_
 refine W_end (gen_Q fun A8 E8 => ?_)
 have hsz8 := szq E8
 have F8 := fsE E8 (ck (cq3 F4 V) V V)
 clear E8 hsz4 F4
 refine tk H6 (wp_seq_k fun K9 H9 => region_in ?_)
 refine W_v V V (V_mov V (fg0 F8)) ?_
 refine W_v V V (V_neq V (et V) V) ?_
 refine W_end (gen_Q fun A10 E10 => ?_)
 have hsz10 := szq E10
 have F10 := fsE E10 (ck (cq1 F8 V) V V)
 clear E10 hsz8 F8
 refine tk H9 ?_
 refine cond_dec (fg0 F10) (fun c11 => ?_) (fun c11 => ?_)
 ·have hcd : ckd (O.map ab) rs ns ≠ 0 := by simpa using c11
  refine wp_seq_k fun K12 H12 => region_in ?_
  refine W_v V V (xbS (n := 2) (z := .agg #[.slice none 0 0, .slice none 0 0]) V (parts0)) ?_
  refine W_v V V (V_mov V (es V (fg1 F10))) ?_
  refine xsA 0 S7 V hc3 V V V (es2 V (fg4 F10)) (es V (et V)) (fun w13 c13 hc13 S13 => ?_)
  replace S13 : St w NoX [c13, c2] w13 := S13
  refine W_v V V (V_asg V (et V)) ?_
  refine W_end (gen_Q fun A14 E14 => ?_)
  have hsz14 := szq E14
  have F14 := fsE E14 (ck (cq2 F10 V) V V)
  clear E14 hsz10 F10
  have S15 : St w NoX [c13] w13 := S13.sel [0] (by decide) V
  refine tk H12 (wp_ret (then_ret ?_))
  refine ret_in (results_2 Try.results68 (rv_cellA (fg5 F14) (S15.obj 0 V hc13) Try.underlying36 V (by kernel_rfl)) (rv_tmp (fg0 F14))) F14.d ?_
  obtain ⟨c16, hc16, S16⟩ := S15.pnil (s := 2)
  replace hc16 : c16 = ro 2 obC (.slice none 0 0) ([] : List Ob) := hc16
  obtain ⟨c17, cb17, hc17, hcb17, S17⟩ := gen2 (nst_nils S16)
  replace S17 : St w NoX [c17, cb17, c16, c13] w13 := S17
  obtain ⟨c18, hc18, S18⟩ := S17.pnil (s := 1)
  have h := ch_ck (er := er) (O2 := O2) (R2 := R2) hcd
  rw [h.1, h.2.1]
  exact ⟨_, ([] : List Ob), _, rfl, rfl, (S18.fin4 3 V (hc16) 1 V (hc17) 2 V (hcb17) 0 V (hc18.trans (by rw [h.2.2] <;> rfl)) (by decide))⟩
 have hcd : ckd (O.map ab) rs ns = 0 := by simpa using c11
 have hG := (ckd_0.1 hcd).1
 have ho4 := hG.o4
 have hr8 := hG.r8
 rw [List.length_map] at ho4
 refine wp_skip ?_
 refine tk H5 (wp_seq_k fun K19 H19 => region_in ?_)
 refine W_v V V (V_fa (off' := 1) V (fg5 F10) Try.underlying36 V (by decide +kernel) V) ?_
 refine W_r V V (xlC (v := rv) V (et V) (S7.obj 1 V hc2) Try.underlying25) ?_
 refine W_call V V V Try.func28 (by kernel_rfl) V (args1 (et V)) (kcl_c (S7.roC h_rv) (by first | omega | with_reducible assumption)) ?_
 rintro _ w20 ⟨v_20, rfl, hP20⟩
 refine ⟨_, rfl, ?_⟩
 obtain ⟨c_20, hc_20, hP20⟩ := gen1 hP20
 have S20 := S7.join hP20
 replace S20 : St w NoX [c_20, c3, c2] w20 := S20
 refine W_v V V (xbT (n := 2) (z := .agg #[.slice none 0 0, .slice none 0 0]) V (parts1 (et V)) (by simp only [List.all_cons, List.all_nil, SlN_one (ow_at (S20.chq 0 V hc_20)), Bool.and_true] <;> rfl)) ?_
 refine W_allocS (z := .agg #[.slice none 0 0, .slice none 0 0]) (zs := #[.slice none 0 0, .slice none 0 0]) S20 V V V (by kernel_rfl) (by rfl) (fun g21 w21 c21 hc21 S21 => ?_)
 replace S21 : St w NoX [c21, c_20, c3, c2] w21 := S21
 refine xsB 0 S21 V hc21 V V V (et V) (es V (et V)) (by simp only [List.all_toArray, List.all_cons, List.all_nil, obC, SlN_one (ow_at (S21.chq 1 V hc_20))] <;> rfl) (fun w22 c22 hc22 S22 => ?_)
 replace S22 : St w NoX [c22, c_20, c3, c2] w22 := S22
 refine W_end (gen_Q fun A23 E23 => ?_)
 have hsz23 := szq E23
 have F23 := fsE E23 (ck (cq4 F10 V) V V)
 clear E23 hsz10 F10
 refine tk H19 (wp_seq_k fun K24 H24 => ?_)
 refine wp_seq_k fun K25 H25 => region_in ?_
 refine W_v V V (V_fa (off' := 0) V (fg6 F23) Try.underlying36 V (by decide +kernel) V) ?_
 refine W_r V V (xlC (v := ov) V (et V) (S22.obj 3 V hc2) Try.underlying34) ?_
 refine W_v V V (V_lenS V (et V) (sl_SlN h_ov.at) Try.underlying34) ?_
 refine W_v V V (V_mov V V) ?_
 refine W_end (gen_Q fun A26 E26 => ?_)
 have hsz26 := szq E26
 have F26 := fsE E26 (ck (ck (ck (cq1 F23 V) V V) V V) V V)
 clear E26 hsz23 F23
 have S27 : St w NoX [c22, c_20, c3] w22 := S22.sel [0, 1, 2] (by decide) V
 refine tk H25 (wp_block ?_)
 obtain ⟨c28, hc28, S28⟩ := S27.pnil (s := 2)
 replace hc28 : c28 = ro 2 obC (.slice none 0 0) ([] : List Ob) := hc28
 obtain ⟨c29, cb29, hc29, hcb29, S29⟩ := gen2 (nst_nils S28)
 replace S29 : St w NoX [c29, cb29, c28, c22, c_20, c3] w22 := S29
 -- loop 6
 refine loopX (fun mz A' w' => SzN A' 51 ∧ A'.defers = [] ∧ (∃ (k : Nat) (hv : Value) (H : List Ob), (mz = O.length - k) ∧ (k ≤ O.length) ∧ (H.map ab = (O.map ab).take k) ∧ (EV A' (.tmp 27) = .int .i64 (k : Int)) ∧ (EV A' (.tmp 1) = EV A26 (.tmp 1)) ∧ (EV A' (.tmp 6) = EV A26 (.tmp 6)) ∧ (EV A' (.tmp 9) = EV A26 (.tmp 9)) ∧ (EV A' (.tmp 25) = EV A26 (.tmp 25)) ∧ (EV A' (.tmp 26) = EV A26 (.tmp 26)) ∧ (St w NoX [owl .i64 (H.map (·.1)), owl .u64 (H.map (·.2)), ro 2 obC hv H, bx g21 36 #[hv, v_20], io .i64 v_20 rs, bx g3 36 #[.slice none 0 0, .slice none 0 0]] w'))) (O.length - 0) ⟨hsz26, F26.d, 0, (.slice none 0 0), [], rfl, (by omega), rfl, (((fg0 F26)).trans (by first | rfl | (simp; done) | (congr 1; omega))), rfl, rfl, rfl, rfl, rfl, (by subst hc29 hcb29 hc28 hc22 hc_20 hc3; exact S29)⟩ ?_
 clear S29 hc29 hcb29 hc28 hc22 hc_20 hc3
 rintro n30 A30 w30 ⟨hsz30, hdf30, k, hv, H, hm30, hk, hH, l27_30, u1_30, u6_30, u9_30, u25_30, u26_30, S30⟩
 have l1_30 := u1_30.trans (fg7 F26)
 have l6_30 := u6_30.trans (fg8 F26)
 have l9_30 := u9_30.trans (fg3 F26)
 have l25_30 := u25_30.trans (fg2 F26)
 have l26_30 := u26_30.trans (fg1 F26)
 obtain ⟨c29_30, cb29_30, c28_30, c22_30, c_30, c3_30, hc29_30, hcb29_30, hc28_30, hc22_30, hc_30, hc3_30, S30⟩ := gen6 S30
 refine wp_seq_k fun K31 H31 => region_in ?_
 refine W_v V V (V_lss V l27_30 l26_30) ?_
 refine W_end (gen_Q fun A32 E32 => ?_)
 have hsz32 := szq E32
 have F32 := ((((((fsE E32 (ck (FS.n hdf30) V V)).c (lookE E32 1 (es V l1_30))).c (lookE E32 6 (es V l6_30))).c (lookE E32 9 (es V l9_30))).c (lookE E32 25 (es V l25_30))).c (lookE E32 26 (es V l26_30))).c (lookE E32 27 (es V l27_30))
 clear E32 hsz30 hdf30 l27_30 l1_30 l6_30 l9_30 l25_30 l26_30
 refine tk H31 (wp_seq_k fun K33 H33 => ?_)
 refine cond_dec (fg6 F32) (fun c34 => ?_) (fun c34 => ?_)
 ·have hHl := mp_len hH hk
  refine wp_skip ?_
  refine tk H33 (wp_seq_k fun K35 H35 => ?_)
  refine wp_block ?_
  refine wp_seq_k fun K36 H36 => region_in ?_
  have k37 : k < O.length := by first | omega | (simp only [List.length_cons, List.length_nil]; omega) | (simp only [List.length_set]; omega) | decide
  obtain ⟨y37, hy37⟩ := get_some (xs := O) (k := k) k37
  have hsy := hsm.at hy37
  obtain ⟨B37, O37, C37, hv37⟩ := (SlN.blk (sl_SlN h_ov.at) (by first | omega | (simp only [List.length_cons, List.length_nil]; omega) | (simp only [List.length_set]; omega) | decide))
  refine W_v V V (V_ixS (off := O37 + k * 2) 2 (k) V (fg2 F32) (fg0 F32) hv37 (by omega) k37 Try.underlying34 (by kernel_rfl) V) ?_
  have fn38 : Ro w NoX (il .i64 y37.1.1 y37.1.2) := nst_ro1 n_ov hy37
  have bfn38 := SlN.le (sl_SlN (S30.ro fn38))
  have fn39 : Ro w NoX (il .u64 y37.2.1 y37.2.2) := nst_ro2 n_ov hy37
  have bfn39 := SlN.le (sl_SlN (S30.ro fn39))
  refine W_r V V (VR_ldR (ys := obC y37) V (et V) (SlN.row obC_len (sl_SlN (S30.ro h_ov)) hv37 hy37 V) Try.underlying68 V (by kernel_rfl)) ?_
  refine W_allocS (z := .agg #[.slice none 0 0, .slice none 0 0]) (zs := #[.slice none 0 0, .slice none 0 0]) S30 V V V (by kernel_rfl) (by rfl) (fun g40 w40 c40 hc40 S40 => ?_)
  replace S40 : St w NoX [c40, c29_30, cb29_30, c28_30, c22_30, c_30, c3_30] w40 := S40
  refine xsB 0 S40 V hc40 V V V (et V) (es V (et V)) (by simp only [List.all_toArray, List.all_cons, List.all_nil, obC, SlN_one (sl_SlN fn38.at), SlN_one (sl_SlN fn39.at)] <;> rfl) (fun w41 c41 hc41 S41 => ?_)
  replace S41 : St w NoX [c41, c29_30, cb29_30, c28_30, c22_30, c_30, c3_30] w41 := S41
  refine W_end (gen_Q fun A42 E42 => ?_)
  have hsz42 := szq E42
  have F42 := fsE E42 (ck (cq2 F32 V) V V)
  clear E42 hsz32 F32
  refine tk H36 ?_
  refine region_monoS 10 11 [none, none, none, none, some (SPv [] (fun _ => fun u l' => ∃ v_s, u = v_s ∧ ∃ c_s, c_s = io .i64 (v_s) y37.1.2 ∧ l' = [c_s]) 4), none, none, some (SPv [] (fun _ => fun u l' => ∃ v_s, u = v_s ∧ ∃ c_s, c_s = io .u64 (v_s) y37.2.2 ∧ l' = [c_s]) 7), none, some (SPv [35, 38] (fun vs => fun u l' => ∃ g_, u = .slice (some ⟨g_, 0, none⟩) 1 1 ∧ ∃ c_, c_ = ro 2 obC (.slice (some ⟨g_, 0, none⟩) 1 1) [(((vs.getD 0 undef), y37.1.2), ((vs.getD 1 undef), y37.2.2))] ∧ l' = [c_]) 9)] (by kernel_rfl) (by kernel_rfl) ?_
  refine D_v V V (V_fa (off' := 0) V (fg4 F42) Try.underlying36 V (by decide +kernel) V) V V ?_
  refine D_r V V (by kernel_rfl) (fun sx hx hF => (VR_ldC V (et V) (cell_box (v := hv) ((S41.grow hx).obj 4 V hc22_30) V) Try.underlying34 V)) V V ?_
  refine D_v V V (V_fa (off' := 0) V (es2 V (fg0 F42)) Try.underlying68 V (by decide +kernel) V) V V ?_
  refine D_r V V (by kernel_rfl) (fun sx hx hF => (VR_ldC V (et V) (cell_box (v := y37.1.1) ((S41.grow hx).obj 0 V hc41) V) Try.underlying25 V)) V V ?_
  refine D_call (ts := []) (vs := []) (C0 := fun _ => fun u l' => ∃ v_s, u = v_s ∧ ∃ c_s, c_s = io .i64 (v_s) y37.1.2 ∧ l' = [c_s]) (C := fun u l' => ∃ v_s, u = v_s ∧ ∃ c_s, c_s = io .i64 (v_s) y37.1.2 ∧ l' = [c_s]) V V V Try.func28 (by kernel_rfl) V (args1 (et V)) V V V V (fun sx hx hF => ?_) (fun u43 l43 hu43 => ?_)
  ·refine (kcl_c ((S41.grow hx).roC fn38) (by first | omega | with_reducible assumption)).mono ?_
   rintro _ _ ⟨v_43, rfl, hz⟩
   exact ⟨_, rfl, _, ⟨_, rfl, _, rfl, rfl⟩, hz⟩
  obtain ⟨v_43, rfl, c_43, hc_43, hl43⟩ := hu43
  refine D_v V V (V_fa (off' := 1) V (es5 V (fg0 F42)) Try.underlying68 V (by decide +kernel) V) V V ?_
  refine D_r V V (by kernel_rfl) (fun sx hx hF => (VR_ldC V (et V) (cell_box (v := y37.2.1) ((S41.grow hx).obj 0 V hc41) V) Try.underlying66 V)) V V ?_
  refine D_call (ts := []) (vs := []) (C0 := fun _ => fun u l' => ∃ v_s, u = v_s ∧ ∃ c_s, c_s = io .u64 (v_s) y37.2.2 ∧ l' = [c_s]) (C := fun u l' => ∃ v_s, u = v_s ∧ ∃ c_s, c_s = io .u64 (v_s) y37.2.2 ∧ l' = [c_s]) V V V Try.func29 (by kernel_rfl) V (args1 (et V)) V V V V (fun sx hx hF => ?_) (fun u44 l44 hu44 => ?_)
  ·refine (kcu_c ((S41.grow hx).roC fn39) (by first | omega | with_reducible assumption)).mono ?_
   rintro _ _ ⟨v_44, rfl, hz⟩
   exact ⟨_, rfl, _, ⟨_, rfl, _, rfl, rfl⟩, hz⟩
  obtain ⟨v_44, rfl, c_44, hc_44, hl44⟩ := hu44
  refine D_r V V (by kernel_rfl) (fun sx hx hF => by obtain ⟨ll43, ws43, we43, ⟨v_43q, hq43, c_43_, hc_43_, hl43_⟩, hm43, k43, e43⟩ := L.ancF_get (L.ancF_rest hF) (by kernel_rfl); cases hq43; subst hl43_; obtain ⟨ll44, ws44, we44, ⟨v_44q, hq44, c_44_, hc_44_, hl44_⟩, hm44, k44, e44⟩ := L.ancF_get hF (by kernel_rfl); cases hq44; subst hl44_; exact ((V_bldS (n := 2) (z := .agg #[.slice none 0 0, .slice none 0 0]) V (parts2 (es3 V (et V)) (et V)) (by kernel_rfl) (by simp only [List.all_cons, List.all_nil, SlN_one (ow_at ((k43.grow e43).chq 0 V hc_43_)), SlN_one (ow_at ((k44.grow e44).chq 0 V hc_44_)), Bool.and_true] <;> rfl) (by kernel_rfl) (by simp only [List.foldl_cons, List.foldl_nil, Value.cells, List.setIfInBounds_toArray, List.set_cons_succ, List.set_cons_zero] <;> rfl) : Val _ _ _ _) _)) V V ?_
  have hll45 : [((u43, y37.1.2), (u44, y37.2.2))].length = 1 := rfl
  refine D_lay (ts := [35, 38]) (vs := [u43, u44]) (C0 := fun vs => fun u l' => ∃ g_, u = .slice (some ⟨g_, 0, none⟩) 1 1 ∧ ∃ c_, c_ = ro 2 obC (.slice (some ⟨g_, 0, none⟩) 1 1) [(((vs.getD 0 undef), y37.1.2), ((vs.getD 1 undef), y37.2.2))] ∧ l' = [c_]) (C := fun u l' => ∃ g_, u = .slice (some ⟨g_, 0, none⟩) 1 1 ∧ ∃ c_, c_ = ro 2 obC (.slice (some ⟨g_, 0, none⟩) 1 1) [((u43, y37.1.2), (u44, y37.2.2))] ∧ l' = [c_]) V V V V (ts2 (es4 V (et V)) (es V (et V))) V (fun sx hx hF => lay_lit (vs := [.agg #[u43, u44]]) 2 V (parts1 (et V)) V Try.underlying34 (by kernel_rfl) (by decide) (by intro v hv; simp only [List.mem_cons, List.not_mem_nil, or_false] at hv; rcases hv with rfl <;> rfl) (by rfl)) (fun u45 l45 hu45 => ?_)
  obtain ⟨g45, rfl, c45, hc45, hl45⟩ := hu45
  refine D_eff V ?_
  refine ZS_eff S41 V V (fun s46 hJ46 hL46 hF46 => ?_)
  obtain ⟨ll43, ws43, we43, ⟨v_43q, hq43, c_43r, hc_43r, hl43r⟩, hm43, k43, e43⟩ := L.all_get (L.all_rest (L.all_rest hF46)); cases hq43; subst hl43r
  replace hJ46 := hJ46.add hL46 (i := 4) V hm43 k43 e43
  obtain ⟨ll44, ws44, we44, ⟨v_44q, hq44, c_44r, hc_44r, hl44r⟩, hm44, k44, e44⟩ := L.all_get (L.all_rest hF46); cases hq44; subst hl44r
  replace hJ46 := hJ46.add hL46 (i := 7) V hm44 k44 e44
  obtain ⟨ll45, ws45, we45, ⟨g45q, hq45, c45r, hc45r, hl45r⟩, hm45, k45, e45⟩ := L.all_get hF46; cases hq45; subst hl45r
  replace hJ46 := hJ46.add hL46 (i := 9) V hm45 k45 e45
  have S46 := hJ46.st; clear hF46 hJ46 hL46
  generalize s46.1 = w46 at *
  replace S46 : St w NoX [c45r, c_44r, c_43r, c41, c29_30, cb29_30, c28_30, c22_30, c_30, c3_30] w46 := S46
  refine W_appS 2 6 S46 V hc28_30 V V V (es8 V (et V)) (et V) Try.underlying34 Try.underlying34 (z := .agg #[.slice none 0 0, .slice none 0 0]) (bytes := 48) (by kernel_rfl) V (by decide) (ow_at (S46.chq 0 V hc45r)) (by intro u hu; simp only [List.flatMap_cons, List.flatMap_nil, obC, List.append_nil, List.cons_append, List.nil_append, List.mem_cons, List.not_mem_nil, or_false] at hu; rcases hu with rfl | rfl <;> first | exact SlN_one (ow_at (S46.chq 2 V hc_43r)) | exact SlN_one (ow_at (S46.chq 1 V hc_44r))) (by first | omega | (simp; done) | (simp; omega)) (by first | omega | (simp; done) | (simp; omega)) (fun v47 w47 c47 hc47 S47 => ?_)
  replace hc47 : c47 = ro 2 obC v47 (H ++ [((u43, y37.1.2), (u44, y37.2.2))]) := hc47.trans (app_eqR (by first | (simp; done) | (rw [List.take_of_length_le (l := List.drop _ _) (by rw [List.length_drop]; exact Nat.le_refl _)])))
  replace S47 : St w NoX [c45r, c_44r, c_43r, c41, c29_30, cb29_30, c47, c22_30, c_30, c3_30] w47 := S47
  have S48 := S47.sel [2, 4, 1, 5, 0, 3, 6, 7, 8, 9] (by decide) (l' := [c_43r, c29_30, c_44r, cb29_30, c45r, c41, c47, c22_30, c_30, c3_30]) V
  replace S48 : St w NoX [c_43r, c29_30, c_44r, cb29_30, c45r, c41, c47, c22_30, c_30, c3_30] w47 := S48
  rw [hc_43r, hc29_30, hc_44r, hcb29_30] at S48
  obtain ⟨c49, cb49, hc49, hcb49, S49⟩ := gen2 (nst_push (pv := u43) (ps := y37.1.2) (qv := u44) (qs := y37.2.2) (O := H) S48)
  replace S49 : St w NoX [c49, cb49, c45r, c41, c47, c22_30, c_30, c3_30] w47 := S49
  replace hc49 : c49 = owl .i64 ((H ++ [((u43, y37.1.2), (u44, y37.2.2))]).map (·.1)) := hc49
  replace hcb49 : cb49 = owl .u64 ((H ++ [((u43, y37.1.2), (u44, y37.2.2))]).map (·.2)) := hcb49
  refine W_v V V (V_fa (off' := 0) V (es8 V (es3 V (fg4 F42))) Try.underlying36 V (by decide +kernel) V) ?_
  refine xsC (zs' := #[v47, v_20]) 5 S49 V hc22_30 V V V (et V) (es V (et V)) (SlN_one (ow_at (S49.chq 4 V hc47))) (fun w50 c50 hc50 S50 => ?_)
  replace S50 : St w NoX [c49, cb49, c45r, c41, c47, c50, c_30, c3_30] w50 := S50
  refine W_end (Qo_normal ?_)
  refine gen_Q (fun A51 E51 => ?_)
  have hsz51 := szq E51
  have F51 := fsE E51 (cq4 (cq8 F42 V) V)
  clear E51 hsz42 F42
  have S52 : St w NoX [c49, cb49, c47, c50, c_30, c3_30] w50 := S50.sel [0, 1, 4, 5, 6, 7] (by decide) V
  refine inb_n (tk H35 ?_)
  refine region_in ?_
  refine W_v V V (V_add V (fg1 F51) V (by omega) (by omega)) ?_
  refine W_v V V (V_mov V (et V)) ?_
  refine W_end (gen_Q fun A53 E53 => ?_)
  have hsz53 := szq E53
  have F53 := fsE E53 (ck (cq1 (fx1 F51) V) V V)
  clear E53 hsz51 F51
  refine then_n ⟨O.length - (k + 1), by simp only [hm30]; omega, hsz53, F53.d, (k + 1), v47, (H ++ [((u43, y37.1.2), (u44, y37.2.2))]), rfl, (by omega), (mp_snoc hH hy37 V), (((fg0 F53)).trans (by first | rfl | (simp; done) | (congr 1; omega))), (((fg6 F53)).trans (fg7 F26).symm), (((fg5 F53)).trans (fg8 F26).symm), (((fg4 F53)).trans (fg3 F26).symm), (((fg3 F53)).trans (fg2 F26).symm), (((fg2 F53)).trans (fg1 F26).symm), (by subst hc49 hcb49 hc47 hc50 hc_30 hc3_30; exact S52)⟩
 have hHO := mp_done hH (by omega)
 have hHl := mp_lenE hHO
 rw [List.length_map] at hHl
 refine wp_exit (then_exit (then_exit ?_))
 refine inb_hit ?_
 refine tk H24 (wp_seq_k fun K54 H54 => ?_)
 refine wp_seq_k fun K55 H55 => region_in ?_
 refine W_v V V (V_mov V (fg5 F32)) ?_
 have S56 := S30.sel [3, 2, 0, 1, 4, 5] (by decide) (l' := [c22_30, c28_30, c29_30, cb29_30, c_30, c3_30]) V
 replace S56 : St w NoX [c22_30, c28_30, c29_30, cb29_30, c_30, c3_30] w30 := S56
 obtain ⟨Y57, hP57, hR57, hF57, hB57⟩ := St.call (pre := [c22_30, c28_30, c29_30, cb29_30, c_30]) (fr := [c3_30]) S56
 rw [hc22_30, hc28_30, hc29_30, hcb29_30, hc_30] at hP57
 refine W_callV V V V (et V) hcf hcn hcb (args1 (es V (fg3 F32))) (hcl hcd _ _ _ _ _ _ hR57 hHO hP57) ?_
 rintro _ w58 ⟨hv_58, H_58, qv_58, rfl, hH_58, hP58⟩
 refine ⟨_, rfl, ?_⟩
 obtain ⟨cB_58, cR_58, cP_58, cQ_58, cG_58, hcB_58, hcR_58, hcP_58, hcQ_58, hcG_58, hP58⟩ := gen5 hP58
 have S58 := hB57 _ _ hP58
 replace S58 : St w NoX [cB_58, cR_58, cP_58, cQ_58, cG_58, c3_30] w58 := S58
 refine W_v V V (V_asg V (et V)) ?_
 refine W_end (gen_Q fun A59 E59 => ?_)
 have hsz59 := szq E59
 have F59 := fsE E59 (ck (cq2 F32 V) V V)
 clear E59 hsz32 F32
 refine tk H55 (wp_seq_k fun K60 H60 => region_in ?_)
 refine W_v V V (V_mov V (fg0 F59)) ?_
 refine W_v V V (V_neq V (et V) V) ?_
 refine W_end (gen_Q fun A61 E61 => ?_)
 have hsz61 := szq E61
 have F61 := fsE E61 (ck (cq1 F59 V) V V)
 clear E61 hsz59 F59
 refine tk H60 ?_
 refine cond_dec (fg0 F61) (fun c62 => ?_) (fun c62 => ?_)
 ·refine wp_seq_k fun K63 H63 => region_in ?_
  refine W_v V V (xbS (n := 2) (z := .agg #[.slice none 0 0, .slice none 0 0]) V (parts0)) ?_
  refine W_v V V (V_mov V (es V (fg1 F61))) ?_
  refine xsA 5 S58 V hc3_30 V V V (es2 V (fg6 F61)) (es V (et V)) (fun w64 c64 hc64 S64 => ?_)
  replace S64 : St w NoX [cB_58, cR_58, cP_58, cQ_58, cG_58, c64] w64 := S64
  refine W_v V V (V_asg V (et V)) ?_
  refine W_end (gen_Q fun A65 E65 => ?_)
  have hsz65 := szq E65
  have F65 := fsE E65 (ck (cq2 F61 V) V V)
  clear E65 hsz61 F61
  have S66 : St w NoX [c64] w64 := S64.sel [5] (by decide) V
  refine tk H63 (wp_ret (then_ret ?_))
  refine ret_in (results_2 Try.results68 (rv_cellA (fg7 F65) (S66.obj 0 V hc64) Try.underlying36 V (by kernel_rfl)) (rv_tmp (fg0 F65))) F65.d ?_
  obtain ⟨c67, hc67, S67⟩ := S66.pnil (s := 2)
  replace hc67 : c67 = ro 2 obC (.slice none 0 0) ([] : List Ob) := hc67
  obtain ⟨c68, cb68, hc68, hcb68, S68⟩ := gen2 (nst_nils S67)
  replace S68 : St w NoX [c68, cb68, c67, c64] w64 := S68
  obtain ⟨c69, hc69, S69⟩ := S68.pnil (s := 1)
  have h := ch_er (O2 := O2) (R2 := R2) hcd (by simpa using c62)
  rw [h.1, h.2.1]
  exact ⟨_, ([] : List Ob), _, rfl, rfl, (S69.fin4 3 V (hc67) 1 V (hc68) 2 V (hcb68) 0 V (hc69.trans (by rw [h.2.2] <;> rfl)) (by decide))⟩
 refine wp_skip ?_
 refine tk H54 (wp_seq_k fun K70 H70 => region_in ?_)
 refine W_r V V (VR_ldA V (fg5 F61) (S58.obj 0 V hcB_58) Try.underlying36 V (by kernel_rfl)) ?_
 refine xsB 5 S58 V hc3_30 V V V (es V (fg6 F61)) (et V) (by simp only [List.all_toArray, List.all_cons, List.all_nil, obC, SlN_one (ow_at (S58.chq 1 V hcR_58)), SlN_one (ow_at (S58.chq 4 V hcG_58))] <;> rfl) (fun w71 c71 hc71 S71 => ?_)
 replace S71 : St w NoX [cB_58, cR_58, cP_58, cQ_58, cG_58, c71] w71 := S71
 refine W_v V V (V_asg V V) ?_
 refine W_end (gen_Q fun A72 E72 => ?_)
 have hsz72 := szq E72
 have F72 := fsE E72 (ck (cq1 F61 V) V V)
 clear E72 hsz61 F61
 have S73 : St w NoX [cR_58, cP_58, cQ_58, cG_58, c71] w71 := S71.sel [1, 2, 3, 4, 5] (by decide) V
 refine tk H70 (wp_ret ?_)
 refine ret_in (results_2 Try.results68 (rv_cellA (fg7 F72) (S73.obj 4 V hc71) Try.underlying36 V (by kernel_rfl)) (rv_tmp (fg0 F72))) F72.d ?_
 have h := ch_ok (O2 := O2) (R2 := R2) hcd (by simpa using c62)
 rw [h.1, h.2.1]
 exact ⟨_, H_58, _, rfl, hH_58, (S73.fin4 0 V (hcR_58) 1 V (hcP_58) 2 V (hcQ_58) 3 V (hcG_58.trans (by rw [h.2.2] <;> rfl)) (by decide))⟩

set_option maxHeartbeats 4000000 in
theorem kchAlloc_c {ov : Value} {O : List Ob} {rv : Value} {rs : List Int} {p : Int} {gp : Nat} {r : Int} {gr : Nat} {a : Int} {ga : Nat} {nv : Value} {ns : List Int} {w : World} (h_ov : Ro w NoX (rl 2 obC ov O)) (n_ov : Ro w NoX (nst O)) (h_rv : Ro w NoX (il .i64 rv rs)) (hb_p : Ro w NoX (bx gp 3 #[.int .i64 p])) (hb_r : Ro w NoX (bx gr 3 #[.int .i64 r])) (hb_a : Ro w NoX (bx ga 3 #[.int .i64 a])) (h_nv : Ro w NoX (il .i64 nv ns)) (hsm : SM (O.map ab)) (hns : ns = [a]) :
  Calls Try.prog 68 #[.agg #[ov, rv], .func (.func 82) #[] #[.pointer (some ⟨gp, 0, none⟩), .pointer (some ⟨gr, 0, none⟩), .pointer (some ⟨ga, 0, none⟩)], nv] w fun e w' => ∃ hv H qv, e = .returned (.tuple #[.agg #[hv, qv], .int .i64 (alE (O.map ab) rs a p r)]) ∧ (H.map ab = (alO (O.map ab) rs a p r)) ∧ St w NoX [ro 2 obC hv H, owl .i64 (H.map (·.1)), owl .u64 (H.map (·.2)), io .i64 (qv) (alR (O.map ab) rs a p r)] w' := by
 subst hns
 have hall : ckd (O.map ab) rs [a] = 0 → GG (O.map ab) rs ∧ (0 ≤ a ∧ a < (rs.length : Int)) := fun hcd => ⟨(ckd_0.1 hcd).1, (ckd_0.1 hcd).2 a (by simp)⟩
 refine (kchG_c (caps := #[.pointer (some ⟨gp, 0, none⟩), .pointer (some ⟨gr, 0, none⟩), .pointer (some ⟨ga, 0, none⟩)]) h_ov n_ov h_rv h_nv hsm Try.func82 (by kernel_rfl) V (er := alX p r (O.map ab).length) (O2 := alI p r (O.map ab)) (R2 := alJ a p r (O.map ab) rs) (fun hcd W1 Y1 g hv H qv hR hHO hP => ?_)).mono ?_
 ·obtain ⟨hG, hab⟩ := hall hcd
  have hr8 := hG.r8
  have ho4 := hG.o4
  have hHl := congrArg List.length hHO
  rw [List.length_map, List.length_map] at hHl
  rw [List.length_map] at ho4
  have hrg0 : ∀ p ∈ rs, 0 ≤ p ∧ p ≤ (O.length : Int) := fun p hp => by have q := hG.reg p hp; rw [List.length_map] at q; exact q
  have hrg : ∀ p ∈ rs, 0 ≤ p ∧ p ≤ (H.length : Int) := fun p hp => by rw [hHl]; exact hrg0 p hp
  have ha := (ckd_0.1 hcd).2 a (by simp)
  refine (kAl1_c (hR _ hb_p) (hR _ hb_r) (hR _ hb_a) hP (by first | omega | with_reducible assumption | simpa using hrg) (by first | omega | with_reducible assumption | simpa using hrg)).mono ?_
  rintro e w' ⟨hv', H', qv', rfl, h1, h2⟩
  try rw [hHO] at h1
  try rw [hHO] at h2
  try rw [hHO]
  exact ⟨hv', H', qv', rfl, h1, h2⟩
 rintro e w' ⟨hv, H, qv, rfl, h1, h2⟩
 obtain ⟨q1, q2, q3⟩ := ch_al (O := (O.map ab)) (rs := rs) (p := p) (r := r) (a := a)
 rw [q2] at h1
 rw [q3] at h2
 rw [q1]
 exact ⟨hv, H, qv, rfl, h1, h2⟩

set_option maxHeartbeats 4000000 in
theorem kchLoad_c {ov : Value} {O : List Ob} {rv : Value} {rs : List Int} {b : Int} {gb : Nat} {f : Int} {gf : Nat} {a : Int} {ga : Nat} {nv : Value} {ns : List Int} {w : World} (h_ov : Ro w NoX (rl 2 obC ov O)) (n_ov : Ro w NoX (nst O)) (h_rv : Ro w NoX (il .i64 rv rs)) (hb_b : Ro w NoX (bx gb 3 #[.int .i64 b])) (hb_f : Ro w NoX (bx gf 3 #[.int .i64 f])) (hb_a : Ro w NoX (bx ga 3 #[.int .i64 a])) (h_nv : Ro w NoX (il .i64 nv ns)) (hsm : SM (O.map ab)) (hns : ns = [a, b]) :
  Calls Try.prog 68 #[.agg #[ov, rv], .func (.func 69) #[] #[.pointer (some ⟨gb, 0, none⟩), .pointer (some ⟨gf, 0, none⟩), .pointer (some ⟨ga, 0, none⟩)], nv] w fun e w' => ∃ hv H qv, e = .returned (.tuple #[.agg #[hv, qv], .int .i64 (ptE (O.map ab) rs [a, b] b f)]) ∧ (H.map ab = (ldO (O.map ab) rs a b f)) ∧ St w NoX [ro 2 obC hv H, owl .i64 (H.map (·.1)), owl .u64 (H.map (·.2)), io .i64 (qv) (ldR (O.map ab) rs a b f)] w' := by
 subst hns
 have hall : ckd (O.map ab) rs [a, b] = 0 → GG (O.map ab) rs ∧ (0 ≤ a ∧ a < (rs.length : Int)) ∧ (0 ≤ b ∧ b < (rs.length : Int)) := fun hcd => ⟨(ckd_0.1 hcd).1, (ckd_0.1 hcd).2 a (by simp), (ckd_0.1 hcd).2 b (by simp)⟩
 refine (kchG_c (caps := #[.pointer (some ⟨gb, 0, none⟩), .pointer (some ⟨gf, 0, none⟩), .pointer (some ⟨ga, 0, none⟩)]) h_ov n_ov h_rv h_nv hsm Try.func69 (by kernel_rfl) V (er := ldX (O.map ab) rs b f) (O2 := (O.map ab)) (R2 := ldJ (O.map ab) rs a b f) (fun hcd W1 Y1 g hv H qv hR hHO hP => ?_)).mono ?_
 ·obtain ⟨hG, hab⟩ := hall hcd
  have hr8 := hG.r8
  have ho4 := hG.o4
  have hHl := congrArg List.length hHO
  rw [List.length_map, List.length_map] at hHl
  rw [List.length_map] at ho4
  have hrg0 : ∀ p ∈ rs, 0 ≤ p ∧ p ≤ (O.length : Int) := fun p hp => by have q := hG.reg p hp; rw [List.length_map] at q; exact q
  have hrg : ∀ p ∈ rs, 0 ≤ p ∧ p ≤ (H.length : Int) := fun p hp => by rw [hHl]; exact hrg0 p hp
  have ha := (ckd_0.1 hcd).2 a (by simp)
  have hb := (ckd_0.1 hcd).2 b (by simp)
  refine (kLd1_c (hR _ hb_b) (hR _ hb_f) (hR _ hb_a) hP (by first | omega | with_reducible assumption | simpa using hrg) (by first | omega | with_reducible assumption | simpa using hrg) (by first | omega | with_reducible assumption | simpa using hrg)).mono ?_
  rintro e w' ⟨hv', H', qv', rfl, h1, h2⟩
  try rw [hHO] at h1
  try rw [hHO] at h2
  try rw [hHO]
  exact ⟨hv', H', qv', rfl, h1, h2⟩
 rintro e w' ⟨hv, H, qv, rfl, h1, h2⟩
 obtain ⟨q1, q2, q3⟩ := ch_ld (O := (O.map ab)) (rs := rs) (f := f) (a := a) (b := b)
 rw [q2] at h1
 rw [q3] at h2
 rw [q1]
 exact ⟨hv, H, qv, rfl, h1, h2⟩

set_option maxHeartbeats 4000000 in
theorem kchStore_c {ov : Value} {O : List Ob} {rv : Value} {rs : List Int} {a : Int} {ga : Nat} {f : Int} {gf : Nat} {b : Int} {gb : Nat} {nv : Value} {ns : List Int} {w : World} (h_ov : Ro w NoX (rl 2 obC ov O)) (n_ov : Ro w NoX (nst O)) (h_rv : Ro w NoX (il .i64 rv rs)) (hb_a : Ro w NoX (bx ga 3 #[.int .i64 a])) (hb_f : Ro w NoX (bx gf 3 #[.int .i64 f])) (hb_b : Ro w NoX (bx gb 3 #[.int .i64 b])) (h_nv : Ro w NoX (il .i64 nv ns)) (hsm : SM (O.map ab)) (hns : ns = [a, b]) :
  Calls Try.prog 68 #[.agg #[ov, rv], .func (.func 71) #[] #[.pointer (some ⟨ga, 0, none⟩), .pointer (some ⟨gf, 0, none⟩), .pointer (some ⟨gb, 0, none⟩)], nv] w fun e w' => ∃ hv H qv, e = .returned (.tuple #[.agg #[hv, qv], .int .i64 (ptE (O.map ab) rs [a, b] a f)]) ∧ (H.map ab = (soO (O.map ab) rs a f b)) ∧ St w NoX [ro 2 obC hv H, owl .i64 (H.map (·.1)), owl .u64 (H.map (·.2)), io .i64 (qv) (soR (O.map ab) rs a f b)] w' := by
 subst hns
 have hall : ckd (O.map ab) rs [a, b] = 0 → GG (O.map ab) rs ∧ (0 ≤ a ∧ a < (rs.length : Int)) ∧ (0 ≤ b ∧ b < (rs.length : Int)) := fun hcd => ⟨(ckd_0.1 hcd).1, (ckd_0.1 hcd).2 a (by simp), (ckd_0.1 hcd).2 b (by simp)⟩
 refine (kchG_c (caps := #[.pointer (some ⟨ga, 0, none⟩), .pointer (some ⟨gf, 0, none⟩), .pointer (some ⟨gb, 0, none⟩)]) h_ov n_ov h_rv h_nv hsm Try.func71 (by kernel_rfl) V (er := ldX (O.map ab) rs a f) (O2 := soI (O.map ab) rs a f b) (R2 := rs) (fun hcd W1 Y1 g hv H qv hR hHO hP => ?_)).mono ?_
 ·obtain ⟨hG, hab⟩ := hall hcd
  have hr8 := hG.r8
  have ho4 := hG.o4
  have hHl := congrArg List.length hHO
  rw [List.length_map, List.length_map] at hHl
  rw [List.length_map] at ho4
  have hrg0 : ∀ p ∈ rs, 0 ≤ p ∧ p ≤ (O.length : Int) := fun p hp => by have q := hG.reg p hp; rw [List.length_map] at q; exact q
  have hrg : ∀ p ∈ rs, 0 ≤ p ∧ p ≤ (H.length : Int) := fun p hp => by rw [hHl]; exact hrg0 p hp
  have ha := (ckd_0.1 hcd).2 a (by simp)
  have hb := (ckd_0.1 hcd).2 b (by simp)
  refine (kSo1_c (hR _ hb_a) (hR _ hb_f) (hR _ hb_b) hP (by first | omega | with_reducible assumption | simpa using hrg) (by first | omega | with_reducible assumption | simpa using hrg) (by first | omega | with_reducible assumption | simpa using hrg)).mono ?_
  rintro e w' ⟨hv', H', qv', rfl, h1, h2⟩
  try rw [hHO] at h1
  try rw [hHO] at h2
  try rw [hHO]
  exact ⟨hv', H', qv', rfl, h1, h2⟩
 rintro e w' ⟨hv, H, qv, rfl, h1, h2⟩
 obtain ⟨q1, q2, q3⟩ := ch_so (O := (O.map ab)) (rs := rs) (f := f) (a := a) (b := b)
 rw [q2] at h1
 rw [q3] at h2
 rw [q1]
 exact ⟨hv, H, qv, rfl, h1, h2⟩

set_option maxHeartbeats 4000000 in
theorem kchWrite_c {ov : Value} {O : List Ob} {rv : Value} {rs : List Int} {a : Int} {ga : Nat} {f : Int} {gf : Nat} {x : Int} {gx : Nat} {nv : Value} {ns : List Int} {w : World} (h_ov : Ro w NoX (rl 2 obC ov O)) (n_ov : Ro w NoX (nst O)) (h_rv : Ro w NoX (il .i64 rv rs)) (hb_a : Ro w NoX (bx ga 3 #[.int .i64 a])) (hb_f : Ro w NoX (bx gf 3 #[.int .i64 f])) (hb_x : Ro w NoX (bx gx 40 #[.int .u64 x])) (h_nv : Ro w NoX (il .i64 nv ns)) (hsm : SM (O.map ab)) (hns : ns = [a]) :
  Calls Try.prog 68 #[.agg #[ov, rv], .func (.func 73) #[] #[.pointer (some ⟨ga, 0, none⟩), .pointer (some ⟨gf, 0, none⟩), .pointer (some ⟨gx, 0, none⟩)], nv] w fun e w' => ∃ hv H qv, e = .returned (.tuple #[.agg #[hv, qv], .int .i64 (rwE (O.map ab) rs [a] a f)]) ∧ (H.map ab = (wrO (O.map ab) rs a f x)) ∧ St w NoX [ro 2 obC hv H, owl .i64 (H.map (·.1)), owl .u64 (H.map (·.2)), io .i64 (qv) (wrR (O.map ab) rs a f)] w' := by
 subst hns
 have hall : ckd (O.map ab) rs [a] = 0 → GG (O.map ab) rs ∧ (0 ≤ a ∧ a < (rs.length : Int)) := fun hcd => ⟨(ckd_0.1 hcd).1, (ckd_0.1 hcd).2 a (by simp)⟩
 refine (kchG_c (caps := #[.pointer (some ⟨ga, 0, none⟩), .pointer (some ⟨gf, 0, none⟩), .pointer (some ⟨gx, 0, none⟩)]) h_ov n_ov h_rv h_nv hsm Try.func73 (by kernel_rfl) V (er := wrX (O.map ab) rs a f) (O2 := wrI (O.map ab) rs a f x) (R2 := rs) (fun hcd W1 Y1 g hv H qv hR hHO hP => ?_)).mono ?_
 ·obtain ⟨hG, hab⟩ := hall hcd
  have hr8 := hG.r8
  have ho4 := hG.o4
  have hHl := congrArg List.length hHO
  rw [List.length_map, List.length_map] at hHl
  rw [List.length_map] at ho4
  have hrg0 : ∀ p ∈ rs, 0 ≤ p ∧ p ≤ (O.length : Int) := fun p hp => by have q := hG.reg p hp; rw [List.length_map] at q; exact q
  have hrg : ∀ p ∈ rs, 0 ≤ p ∧ p ≤ (H.length : Int) := fun p hp => by rw [hHl]; exact hrg0 p hp
  have ha := (ckd_0.1 hcd).2 a (by simp)
  refine (kWr1_c (hR _ hb_a) (hR _ hb_f) (hR _ hb_x) hP (by first | omega | with_reducible assumption | simpa using hrg) (by first | omega | with_reducible assumption | simpa using hrg)).mono ?_
  rintro e w' ⟨hv', H', qv', rfl, h1, h2⟩
  try rw [hHO] at h1
  try rw [hHO] at h2
  try rw [hHO]
  exact ⟨hv', H', qv', rfl, h1, h2⟩
 rintro e w' ⟨hv, H, qv, rfl, h1, h2⟩
 obtain ⟨q1, q2, q3⟩ := ch_wr (O := (O.map ab)) (rs := rs) (f := f) (x := x) (a := a)
 rw [q2] at h1
 rw [q3] at h2
 rw [q1]
 exact ⟨hv, H, qv, rfl, h1, h2⟩

set_option maxHeartbeats 4000000 in
theorem kchMove_c {ov : Value} {O : List Ob} {rv : Value} {rs : List Int} {b : Int} {gb : Nat} {a : Int} {ga : Nat} {nv : Value} {ns : List Int} {w : World} (h_ov : Ro w NoX (rl 2 obC ov O)) (n_ov : Ro w NoX (nst O)) (h_rv : Ro w NoX (il .i64 rv rs)) (hb_b : Ro w NoX (bx gb 3 #[.int .i64 b])) (hb_a : Ro w NoX (bx ga 3 #[.int .i64 a])) (h_nv : Ro w NoX (il .i64 nv ns)) (hsm : SM (O.map ab)) (hns : ns = [a, b]) :
  Calls Try.prog 68 #[.agg #[ov, rv], .func (.func 74) #[] #[.pointer (some ⟨gb, 0, none⟩), .pointer (some ⟨ga, 0, none⟩)], nv] w fun e w' => ∃ hv H qv, e = .returned (.tuple #[.agg #[hv, qv], .int .i64 (ckd (O.map ab) rs [a, b])]) ∧ (H.map ab = (kpO (O.map ab) rs [a, b])) ∧ St w NoX [ro 2 obC hv H, owl .i64 (H.map (·.1)), owl .u64 (H.map (·.2)), io .i64 (qv) (mvR (O.map ab) rs a b)] w' := by
 subst hns
 have hall : ckd (O.map ab) rs [a, b] = 0 → GG (O.map ab) rs ∧ (0 ≤ a ∧ a < (rs.length : Int)) ∧ (0 ≤ b ∧ b < (rs.length : Int)) := fun hcd => ⟨(ckd_0.1 hcd).1, (ckd_0.1 hcd).2 a (by simp), (ckd_0.1 hcd).2 b (by simp)⟩
 refine (kchG_c (caps := #[.pointer (some ⟨gb, 0, none⟩), .pointer (some ⟨ga, 0, none⟩)]) h_ov n_ov h_rv h_nv hsm Try.func74 (by kernel_rfl) V (er := 0) (O2 := (O.map ab)) (R2 := rs.set a.toNat (rg rs b)) (fun hcd W1 Y1 g hv H qv hR hHO hP => ?_)).mono ?_
 ·obtain ⟨hG, hab⟩ := hall hcd
  have hr8 := hG.r8
  have ho4 := hG.o4
  have hHl := congrArg List.length hHO
  rw [List.length_map, List.length_map] at hHl
  rw [List.length_map] at ho4
  have hrg0 : ∀ p ∈ rs, 0 ≤ p ∧ p ≤ (O.length : Int) := fun p hp => by have q := hG.reg p hp; rw [List.length_map] at q; exact q
  have hrg : ∀ p ∈ rs, 0 ≤ p ∧ p ≤ (H.length : Int) := fun p hp => by rw [hHl]; exact hrg0 p hp
  have ha := (ckd_0.1 hcd).2 a (by simp)
  have hb := (ckd_0.1 hcd).2 b (by simp)
  refine (kMv1_c (hR _ hb_b) (hR _ hb_a) hP (by first | omega | with_reducible assumption | simpa using hrg) (by first | omega | with_reducible assumption | simpa using hrg)).mono ?_
  rintro e w' ⟨hv', H', qv', rfl, h1, h2⟩
  try rw [hHO] at h1
  try rw [hHO] at h2
  try rw [hHO]
  exact ⟨hv', H', qv', rfl, h1, h2⟩
 rintro e w' ⟨hv, H, qv, rfl, h1, h2⟩
 obtain ⟨q1, q2, q3⟩ := ch_mv (O := (O.map ab)) (rs := rs)  (a := a) (b := b)
 rw [q2] at h1
 rw [q3] at h2
 rw [q1]
 exact ⟨hv, H, qv, rfl, h1, h2⟩

set_option maxHeartbeats 4000000 in
theorem kchClear_c {ov : Value} {O : List Ob} {rv : Value} {rs : List Int} {a : Int} {ga : Nat} {nv : Value} {ns : List Int} {w : World} (h_ov : Ro w NoX (rl 2 obC ov O)) (n_ov : Ro w NoX (nst O)) (h_rv : Ro w NoX (il .i64 rv rs)) (hb_a : Ro w NoX (bx ga 3 #[.int .i64 a])) (h_nv : Ro w NoX (il .i64 nv ns)) (hsm : SM (O.map ab)) (hns : ns = [a]) :
  Calls Try.prog 68 #[.agg #[ov, rv], .func (.func 75) #[] #[.pointer (some ⟨ga, 0, none⟩)], nv] w fun e w' => ∃ hv H qv, e = .returned (.tuple #[.agg #[hv, qv], .int .i64 (ckd (O.map ab) rs [a])]) ∧ (H.map ab = (kpO (O.map ab) rs [a])) ∧ St w NoX [ro 2 obC hv H, owl .i64 (H.map (·.1)), owl .u64 (H.map (·.2)), io .i64 (qv) (clR (O.map ab) rs a)] w' := by
 subst hns
 have hall : ckd (O.map ab) rs [a] = 0 → GG (O.map ab) rs ∧ (0 ≤ a ∧ a < (rs.length : Int)) := fun hcd => ⟨(ckd_0.1 hcd).1, (ckd_0.1 hcd).2 a (by simp)⟩
 refine (kchG_c (caps := #[.pointer (some ⟨ga, 0, none⟩)]) h_ov n_ov h_rv h_nv hsm Try.func75 (by kernel_rfl) V (er := 0) (O2 := (O.map ab)) (R2 := rs.set a.toNat 0) (fun hcd W1 Y1 g hv H qv hR hHO hP => ?_)).mono ?_
 ·obtain ⟨hG, hab⟩ := hall hcd
  have hr8 := hG.r8
  have ho4 := hG.o4
  have hHl := congrArg List.length hHO
  rw [List.length_map, List.length_map] at hHl
  rw [List.length_map] at ho4
  have hrg0 : ∀ p ∈ rs, 0 ≤ p ∧ p ≤ (O.length : Int) := fun p hp => by have q := hG.reg p hp; rw [List.length_map] at q; exact q
  have hrg : ∀ p ∈ rs, 0 ≤ p ∧ p ≤ (H.length : Int) := fun p hp => by rw [hHl]; exact hrg0 p hp
  have ha := (ckd_0.1 hcd).2 a (by simp)
  refine (kCl1_c (hR _ hb_a) hP (by first | omega | with_reducible assumption | simpa using hrg)).mono ?_
  rintro e w' ⟨hv', H', qv', rfl, h1, h2⟩
  try rw [hHO] at h1
  try rw [hHO] at h2
  try rw [hHO]
  exact ⟨hv', H', qv', rfl, h1, h2⟩
 rintro e w' ⟨hv, H, qv, rfl, h1, h2⟩
 obtain ⟨q1, q2, q3⟩ := ch_cl (O := (O.map ab)) (rs := rs)  (a := a)
 rw [q2] at h1
 rw [q3] at h2
 rw [q1]
 exact ⟨hv, H, qv, rfl, h1, h2⟩

end Go.Proofs.Ytpgkfndbfocibaa
namespace Go.Proofs.Ytpgkfndbfocibaa
open Go.RowKit Go.Own Go.Own.R Go.Own.G Go.Own.Gr


set_option maxHeartbeats 4000000 in
theorem kAlloc_c {ov : Value} {O : List Ob} {rv : Value} {rs : List Int} {a : Int} {p : Int} {r : Int} {w : World} (h_ov : Ro w NoX (rl 2 obC ov O)) (n_ov : Ro w NoX (nst O)) (h_rv : Ro w NoX (il .i64 rv rs)) (hsm : SM (O.map ab)) :
  Calls Try.prog 67 #[.agg #[ov, rv], .int .i64 a, .int .i64 p, .int .i64 r] w fun e w' => ∃ hv H qv, e = .returned (.tuple #[.agg #[hv, qv], .int .i64 (alE (O.map ab) rs a p r)]) ∧ (H.map ab = (alO (O.map ab) rs a p r)) ∧ St w NoX [ro 2 obC hv H, owl .i64 (H.map (·.1)), owl .u64 (H.map (·.2)), io .i64 (qv) (alR (O.map ab) rs a p r)] w' := by
 refine calls_in 17 Try.func67 V V (by simp) (fun A0 Y0 hdf0 hargs => ?_)
 have l0_0 := hargs 0 (.agg #[ov, rv]) V
 have l1_0 := hargs 1 (.int .i64 a) V
 have l2_0 := hargs 2 (.int .i64 p) V
 have l3_0 := hargs 3 (.int .i64 r) V
 clear hargs; replace Y0 : SzN A0 17 := ⟨Y0⟩
 have hS := St.nil w
 have bh_ov := SlN.le (sl_SlN h_ov.at)
 have bh_rv := SlN.le (sl_SlN h_rv.at)
 refine wp_seq_k fun K1 H1 => region_in ?_
 refine W_boxS (zs := #[ov, rv]) hS V V V l0_0 (by rfl) (fun g2 w2 c2 hc2 S2 => ?_)
 replace S2 : St w NoX [c2] w2 := S2
 refine W_boxS (zs := #[.int .i64 (a)]) S2 V V V (es V l1_0) (by rfl) (fun g3 w3 c3 hc3 S3 => ?_)
 replace S3 : St w NoX [c3, c2] w3 := S3
 refine W_boxS (zs := #[.int .i64 (p)]) S3 V V V (es2 V l2_0) (by rfl) (fun g4 w4 c4 hc4 S4 => ?_)
 replace S4 : St w NoX [c4, c3, c2] w4 := S4
 refine W_boxS (zs := #[.int .i64 (r)]) S4 V V V (es3 V l3_0) (by rfl) (fun g5 w5 c5 hc5 S5 => ?_)
 replace S5 : St w NoX [c5, c4, c3, c2] w5 := S5
 refine W_allocS (z := .agg #[.slice none 0 0, .slice none 0 0]) (zs := #[.slice none 0 0, .slice none 0 0]) S5 V V V (by kernel_rfl) (by rfl) (fun g6 w6 c6 hc6 S6 => ?_)
 replace S6 : St w NoX [c6, c5, c4, c3, c2] w6 := S6
 refine W_v V V (V_asg V V) ?_
 refine W_end (gen_Q fun A7 E7 => ?_)
 have Y7 := szq E7
 have F7 := fsE E7 (cq1 (ck (ck (ck (ck (ck (FS.n hdf0) V V) V V) V V) V V) V V) V)
 clear E7 Y0 hdf0 l0_0 l1_0 l2_0 l3_0
 refine tk H1 (wp_seq_k fun K8 H8 => region_in ?_)
 refine W_r V V (VR_ldA V (fg4 F7) (S6.obj 4 V hc2) Try.underlying36 V (by kernel_rfl)) ?_
 refine W_v V V (V_mkf V (args0) (args3 (es V (fg2 F7)) (es V (fg1 F7)) (es V (fg3 F7)))) ?_
 refine W_r V V (xlC (v := .int .i64 (a)) V (es2 V (fg3 F7)) (S6.obj 3 V hc3) Try.underlying3) ?_
 have hll9 : [a].length = 1 := rfl
 refine xsL (vs := [.int .i64 (a)]) (xs := ([a].map (Value.int .i64))) 1 S6 V V V (parts1 (et V)) Try.underlying25 (fun g9 w9 c9 hc9 S9 => ?_)
 replace hc9 : c9 = io .i64 (.slice (some ⟨g9, 0, none⟩) 1 1) [a] := hc9
 replace S9 : St w NoX [c9, c6, c5, c4, c3, c2] w9 := S9
 refine W_call V V V Try.func68 (by kernel_rfl) V (args3 (es3 V (et V)) (es2 V (et V)) (et V)) (kchAlloc_c (p := p) (gp := g4) (r := r) (gr := g5) (a := a) (ga := g3) (S9.roC h_ov) (S9.roC n_ov) (S9.roC h_rv) (S9.chC 3 V hc4) (S9.chC 2 V hc5) (S9.chC 4 V hc3) (S9.chC 0 V hc9).own (by first | with_reducible assumption) (rfl)) ?_
 rintro _ w10 ⟨hv_10, H_10, qv_10, rfl, hH_10, hP10⟩
 refine ⟨_, rfl, ?_⟩
 obtain ⟨cR_10, cP_10, cQ_10, cG_10, hcR_10, hcP_10, hcQ_10, hcG_10, hP10⟩ := gen4 hP10
 have S10 := S9.join hP10
 replace S10 : St w NoX [cR_10, cP_10, cQ_10, cG_10, c9, c6, c5, c4, c3, c2] w10 := S10
 refine W_v V V (V_ext (v := .agg #[hv_10, qv_10]) V (et V) V) ?_
 refine W_v V V (V_ext (v := .int .i64 ((alE (O.map ab) rs a p r))) V (es V (et V)) V) ?_
 refine xsB 5 S10 V hc6 V V V (es7 V (fg0 F7)) (es V (et V)) (by simp only [List.all_toArray, List.all_cons, List.all_nil, SlN_one (ow_at (S10.chq 0 V hcR_10)), SlN_one (ow_at (S10.chq 3 V hcG_10))] <;> rfl) (fun w11 c11 hc11 S11 => ?_)
 replace S11 : St w NoX [cR_10, cP_10, cQ_10, cG_10, c9, c11, c5, c4, c3, c2] w11 := S11
 refine W_v V V (V_asg V (et V)) ?_
 refine W_end (gen_Q fun A12 E12 => ?_)
 have Y12 := szq E12
 have F12 := fsE E12 (ck (cq7 F7 V) V V)
 clear E12 Y7 F7
 have S13 : St w NoX [cR_10, cP_10, cQ_10, cG_10, c11] w11 := S11.sel [0, 1, 2, 3, 5] (by decide) V
 refine tk H8 (wp_ret ?_)
 refine ret_in (results_2 Try.results67 (rv_cellA (fg1 F12) (S13.obj 4 V hc11) Try.underlying36 V (by kernel_rfl)) (rv_tmp (fg0 F12))) F12.d ?_
 exact ⟨_, H_10, _, rfl, hH_10, (S13.fin4 0 V (hcR_10) 1 V (hcP_10) 2 V (hcQ_10) 3 V (hcG_10) (by decide))⟩

set_option maxHeartbeats 4000000 in
theorem kLoad_c {ov : Value} {O : List Ob} {rv : Value} {rs : List Int} {a : Int} {b : Int} {f : Int} {w : World} (h_ov : Ro w NoX (rl 2 obC ov O)) (n_ov : Ro w NoX (nst O)) (h_rv : Ro w NoX (il .i64 rv rs)) (hsm : SM (O.map ab)) :
  Calls Try.prog 49 #[.agg #[ov, rv], .int .i64 a, .int .i64 b, .int .i64 f] w fun e w' => ∃ hv H qv, e = .returned (.tuple #[.agg #[hv, qv], .int .i64 (ptE (O.map ab) rs [a, b] b f)]) ∧ (H.map ab = (ldO (O.map ab) rs a b f)) ∧ St w NoX [ro 2 obC hv H, owl .i64 (H.map (·.1)), owl .u64 (H.map (·.2)), io .i64 (qv) (ldR (O.map ab) rs a b f)] w' := by
 refine calls_in 18 Try.func49 V V (by simp) (fun A0 Y0 hdf0 hargs => ?_)
 have l0_0 := hargs 0 (.agg #[ov, rv]) V
 have l1_0 := hargs 1 (.int .i64 a) V
 have l2_0 := hargs 2 (.int .i64 b) V
 have l3_0 := hargs 3 (.int .i64 f) V
 clear hargs; replace Y0 : SzN A0 18 := ⟨Y0⟩
 have hS := St.nil w
 have bh_ov := SlN.le (sl_SlN h_ov.at)
 have bh_rv := SlN.le (sl_SlN h_rv.at)
 refine wp_seq_k fun K1 H1 => region_in ?_
 refine W_boxS (zs := #[ov, rv]) hS V V V l0_0 (by rfl) (fun g2 w2 c2 hc2 S2 => ?_)
 replace S2 : St w NoX [c2] w2 := S2
 refine W_boxS (zs := #[.int .i64 (a)]) S2 V V V (es V l1_0) (by rfl) (fun g3 w3 c3 hc3 S3 => ?_)
 replace S3 : St w NoX [c3, c2] w3 := S3
 refine W_boxS (zs := #[.int .i64 (b)]) S3 V V V (es2 V l2_0) (by rfl) (fun g4 w4 c4 hc4 S4 => ?_)
 replace S4 : St w NoX [c4, c3, c2] w4 := S4
 refine W_boxS (zs := #[.int .i64 (f)]) S4 V V V (es3 V l3_0) (by rfl) (fun g5 w5 c5 hc5 S5 => ?_)
 replace S5 : St w NoX [c5, c4, c3, c2] w5 := S5
 refine W_allocS (z := .agg #[.slice none 0 0, .slice none 0 0]) (zs := #[.slice none 0 0, .slice none 0 0]) S5 V V V (by kernel_rfl) (by rfl) (fun g6 w6 c6 hc6 S6 => ?_)
 replace S6 : St w NoX [c6, c5, c4, c3, c2] w6 := S6
 refine W_v V V (V_asg V V) ?_
 refine W_end (gen_Q fun A7 E7 => ?_)
 have Y7 := szq E7
 have F7 := fsE E7 (cq1 (ck (ck (ck (ck (ck (FS.n hdf0) V V) V V) V V) V V) V V) V)
 clear E7 Y0 hdf0 l0_0 l1_0 l2_0 l3_0
 refine tk H1 (wp_seq_k fun K8 H8 => region_in ?_)
 refine W_r V V (VR_ldA V (fg4 F7) (S6.obj 4 V hc2) Try.underlying36 V (by kernel_rfl)) ?_
 refine W_v V V (V_mkf V (args0) (args3 (es V (fg2 F7)) (es V (fg1 F7)) (es V (fg3 F7)))) ?_
 refine W_r V V (xlC (v := .int .i64 (a)) V (es2 V (fg3 F7)) (S6.obj 3 V hc3) Try.underlying3) ?_
 refine W_r V V (xlC (v := .int .i64 (b)) V (es3 V (fg2 F7)) (S6.obj 2 V hc4) Try.underlying3) ?_
 have hll9 : [a, b].length = 2 := rfl
 refine xsL (vs := [.int .i64 (a), .int .i64 (b)]) (xs := ([a, b].map (Value.int .i64))) 1 S6 V V V (parts2 (es V (et V)) (et V)) Try.underlying25 (fun g9 w9 c9 hc9 S9 => ?_)
 replace hc9 : c9 = io .i64 (.slice (some ⟨g9, 0, none⟩) 2 2) [a, b] := hc9
 replace S9 : St w NoX [c9, c6, c5, c4, c3, c2] w9 := S9
 refine W_call V V V Try.func68 (by kernel_rfl) V (args3 (es4 V (et V)) (es3 V (et V)) (et V)) (kchLoad_c (b := b) (gb := g4) (f := f) (gf := g5) (a := a) (ga := g3) (S9.roC h_ov) (S9.roC n_ov) (S9.roC h_rv) (S9.chC 3 V hc4) (S9.chC 2 V hc5) (S9.chC 4 V hc3) (S9.chC 0 V hc9).own (by first | with_reducible assumption) (rfl)) ?_
 rintro _ w10 ⟨hv_10, H_10, qv_10, rfl, hH_10, hP10⟩
 refine ⟨_, rfl, ?_⟩
 obtain ⟨cR_10, cP_10, cQ_10, cG_10, hcR_10, hcP_10, hcQ_10, hcG_10, hP10⟩ := gen4 hP10
 have S10 := S9.join hP10
 replace S10 : St w NoX [cR_10, cP_10, cQ_10, cG_10, c9, c6, c5, c4, c3, c2] w10 := S10
 refine W_v V V (V_ext (v := .agg #[hv_10, qv_10]) V (et V) V) ?_
 refine W_v V V (V_ext (v := .int .i64 ((ptE (O.map ab) rs [a, b] b f))) V (es V (et V)) V) ?_
 refine xsB 5 S10 V hc6 V V V (es8 V (fg0 F7)) (es V (et V)) (by simp only [List.all_toArray, List.all_cons, List.all_nil, SlN_one (ow_at (S10.chq 0 V hcR_10)), SlN_one (ow_at (S10.chq 3 V hcG_10))] <;> rfl) (fun w11 c11 hc11 S11 => ?_)
 replace S11 : St w NoX [cR_10, cP_10, cQ_10, cG_10, c9, c11, c5, c4, c3, c2] w11 := S11
 refine W_v V V (V_asg V (et V)) ?_
 refine W_end (gen_Q fun A12 E12 => ?_)
 have Y12 := szq E12
 have F12 := fsE E12 (ck (cq8 F7 V) V V)
 clear E12 Y7 F7
 have S13 : St w NoX [cR_10, cP_10, cQ_10, cG_10, c11] w11 := S11.sel [0, 1, 2, 3, 5] (by decide) V
 refine tk H8 (wp_ret ?_)
 refine ret_in (results_2 Try.results49 (rv_cellA (fg1 F12) (S13.obj 4 V hc11) Try.underlying36 V (by kernel_rfl)) (rv_tmp (fg0 F12))) F12.d ?_
 exact ⟨_, H_10, _, rfl, hH_10, (S13.fin4 0 V (hcR_10) 1 V (hcP_10) 2 V (hcQ_10) 3 V (hcG_10) (by decide))⟩

set_option maxHeartbeats 4000000 in
theorem kStore_c {ov : Value} {O : List Ob} {rv : Value} {rs : List Int} {a : Int} {f : Int} {b : Int} {w : World} (h_ov : Ro w NoX (rl 2 obC ov O)) (n_ov : Ro w NoX (nst O)) (h_rv : Ro w NoX (il .i64 rv rs)) (hsm : SM (O.map ab)) :
  Calls Try.prog 50 #[.agg #[ov, rv], .int .i64 a, .int .i64 f, .int .i64 b] w fun e w' => ∃ hv H qv, e = .returned (.tuple #[.agg #[hv, qv], .int .i64 (ptE (O.map ab) rs [a, b] a f)]) ∧ (H.map ab = (soO (O.map ab) rs a f b)) ∧ St w NoX [ro 2 obC hv H, owl .i64 (H.map (·.1)), owl .u64 (H.map (·.2)), io .i64 (qv) (soR (O.map ab) rs a f b)] w' := by
 refine calls_in 18 Try.func50 V V (by simp) (fun A0 Y0 hdf0 hargs => ?_)
 have l0_0 := hargs 0 (.agg #[ov, rv]) V
 have l1_0 := hargs 1 (.int .i64 a) V
 have l2_0 := hargs 2 (.int .i64 f) V
 have l3_0 := hargs 3 (.int .i64 b) V
 clear hargs; replace Y0 : SzN A0 18 := ⟨Y0⟩
 have hS := St.nil w
 have bh_ov := SlN.le (sl_SlN h_ov.at)
 have bh_rv := SlN.le (sl_SlN h_rv.at)
 refine wp_seq_k fun K1 H1 => region_in ?_
 refine W_boxS (zs := #[ov, rv]) hS V V V l0_0 (by rfl) (fun g2 w2 c2 hc2 S2 => ?_)
 replace S2 : St w NoX [c2] w2 := S2
 refine W_boxS (zs := #[.int .i64 (a)]) S2 V V V (es V l1_0) (by rfl) (fun g3 w3 c3 hc3 S3 => ?_)
 replace S3 : St w NoX [c3, c2] w3 := S3
 refine W_boxS (zs := #[.int .i64 (f)]) S3 V V V (es2 V l2_0) (by rfl) (fun g4 w4 c4 hc4 S4 => ?_)
 replace S4 : St w NoX [c4, c3, c2] w4 := S4
 refine W_boxS (zs := #[.int .i64 (b)]) S4 V V V (es3 V l3_0) (by rfl) (fun g5 w5 c5 hc5 S5 => ?_)
 replace S5 : St w NoX [c5, c4, c3, c2] w5 := S5
 refine W_allocS (z := .agg #[.slice none 0 0, .slice none 0 0]) (zs := #[.slice none 0 0, .slice none 0 0]) S5 V V V (by kernel_rfl) (by rfl) (fun g6 w6 c6 hc6 S6 => ?_)
 replace S6 : St w NoX [c6, c5, c4, c3, c2] w6 := S6
 refine W_v V V (V_asg V V) ?_
 refine W_end (gen_Q fun A7 E7 => ?_)
 have Y7 := szq E7
 have F7 := fsE E7 (cq1 (ck (ck (ck (ck (ck (FS.n hdf0) V V) V V) V V) V V) V V) V)
 clear E7 Y0 hdf0 l0_0 l1_0 l2_0 l3_0
 refine tk H1 (wp_seq_k fun K8 H8 => region_in ?_)
 refine W_r V V (VR_ldA V (fg4 F7) (S6.obj 4 V hc2) Try.underlying36 V (by kernel_rfl)) ?_
 refine W_v V V (V_mkf V (args0) (args3 (es V (fg3 F7)) (es V (fg2 F7)) (es V (fg1 F7)))) ?_
 refine W_r V V (xlC (v := .int .i64 (a)) V (es2 V (fg3 F7)) (S6.obj 3 V hc3) Try.underlying3) ?_
 refine W_r V V (xlC (v := .int .i64 (b)) V (es3 V (fg1 F7)) (S6.obj 1 V hc5) Try.underlying3) ?_
 have hll9 : [a, b].length = 2 := rfl
 refine xsL (vs := [.int .i64 (a), .int .i64 (b)]) (xs := ([a, b].map (Value.int .i64))) 1 S6 V V V (parts2 (es V (et V)) (et V)) Try.underlying25 (fun g9 w9 c9 hc9 S9 => ?_)
 replace hc9 : c9 = io .i64 (.slice (some ⟨g9, 0, none⟩) 2 2) [a, b] := hc9
 replace S9 : St w NoX [c9, c6, c5, c4, c3, c2] w9 := S9
 refine W_call V V V Try.func68 (by kernel_rfl) V (args3 (es4 V (et V)) (es3 V (et V)) (et V)) (kchStore_c (a := a) (ga := g3) (f := f) (gf := g4) (b := b) (gb := g5) (S9.roC h_ov) (S9.roC n_ov) (S9.roC h_rv) (S9.chC 4 V hc3) (S9.chC 3 V hc4) (S9.chC 2 V hc5) (S9.chC 0 V hc9).own (by first | with_reducible assumption) (rfl)) ?_
 rintro _ w10 ⟨hv_10, H_10, qv_10, rfl, hH_10, hP10⟩
 refine ⟨_, rfl, ?_⟩
 obtain ⟨cR_10, cP_10, cQ_10, cG_10, hcR_10, hcP_10, hcQ_10, hcG_10, hP10⟩ := gen4 hP10
 have S10 := S9.join hP10
 replace S10 : St w NoX [cR_10, cP_10, cQ_10, cG_10, c9, c6, c5, c4, c3, c2] w10 := S10
 refine W_v V V (V_ext (v := .agg #[hv_10, qv_10]) V (et V) V) ?_
 refine W_v V V (V_ext (v := .int .i64 ((ptE (O.map ab) rs [a, b] a f))) V (es V (et V)) V) ?_
 refine xsB 5 S10 V hc6 V V V (es8 V (fg0 F7)) (es V (et V)) (by simp only [List.all_toArray, List.all_cons, List.all_nil, SlN_one (ow_at (S10.chq 0 V hcR_10)), SlN_one (ow_at (S10.chq 3 V hcG_10))] <;> rfl) (fun w11 c11 hc11 S11 => ?_)
 replace S11 : St w NoX [cR_10, cP_10, cQ_10, cG_10, c9, c11, c5, c4, c3, c2] w11 := S11
 refine W_v V V (V_asg V (et V)) ?_
 refine W_end (gen_Q fun A12 E12 => ?_)
 have Y12 := szq E12
 have F12 := fsE E12 (ck (cq8 F7 V) V V)
 clear E12 Y7 F7
 have S13 : St w NoX [cR_10, cP_10, cQ_10, cG_10, c11] w11 := S11.sel [0, 1, 2, 3, 5] (by decide) V
 refine tk H8 (wp_ret ?_)
 refine ret_in (results_2 Try.results50 (rv_cellA (fg1 F12) (S13.obj 4 V hc11) Try.underlying36 V (by kernel_rfl)) (rv_tmp (fg0 F12))) F12.d ?_
 exact ⟨_, H_10, _, rfl, hH_10, (S13.fin4 0 V (hcR_10) 1 V (hcP_10) 2 V (hcQ_10) 3 V (hcG_10) (by decide))⟩

set_option maxHeartbeats 4000000 in
theorem kWrite_c {ov : Value} {O : List Ob} {rv : Value} {rs : List Int} {a : Int} {f : Int} {x : Int} {w : World} (h_ov : Ro w NoX (rl 2 obC ov O)) (n_ov : Ro w NoX (nst O)) (h_rv : Ro w NoX (il .i64 rv rs)) (hsm : SM (O.map ab)) :
  Calls Try.prog 52 #[.agg #[ov, rv], .int .i64 a, .int .i64 f, .int .u64 x] w fun e w' => ∃ hv H qv, e = .returned (.tuple #[.agg #[hv, qv], .int .i64 (rwE (O.map ab) rs [a] a f)]) ∧ (H.map ab = (wrO (O.map ab) rs a f x)) ∧ St w NoX [ro 2 obC hv H, owl .i64 (H.map (·.1)), owl .u64 (H.map (·.2)), io .i64 (qv) (wrR (O.map ab) rs a f)] w' := by
 refine calls_in 17 Try.func52 V V (by simp) (fun A0 Y0 hdf0 hargs => ?_)
 have l0_0 := hargs 0 (.agg #[ov, rv]) V
 have l1_0 := hargs 1 (.int .i64 a) V
 have l2_0 := hargs 2 (.int .i64 f) V
 have l3_0 := hargs 3 (.int .u64 x) V
 clear hargs; replace Y0 : SzN A0 17 := ⟨Y0⟩
 have hS := St.nil w
 have bh_ov := SlN.le (sl_SlN h_ov.at)
 have bh_rv := SlN.le (sl_SlN h_rv.at)
 refine wp_seq_k fun K1 H1 => region_in ?_
 refine W_boxS (zs := #[ov, rv]) hS V V V l0_0 (by rfl) (fun g2 w2 c2 hc2 S2 => ?_)
 replace S2 : St w NoX [c2] w2 := S2
 refine W_boxS (zs := #[.int .i64 (a)]) S2 V V V (es V l1_0) (by rfl) (fun g3 w3 c3 hc3 S3 => ?_)
 replace S3 : St w NoX [c3, c2] w3 := S3
 refine W_boxS (zs := #[.int .i64 (f)]) S3 V V V (es2 V l2_0) (by rfl) (fun g4 w4 c4 hc4 S4 => ?_)
 replace S4 : St w NoX [c4, c3, c2] w4 := S4
 refine W_boxS (zs := #[.int .u64 (x)]) S4 V V V (es3 V l3_0) (by rfl) (fun g5 w5 c5 hc5 S5 => ?_)
 replace S5 : St w NoX [c5, c4, c3, c2] w5 := S5
 refine W_allocS (z := .agg #[.slice none 0 0, .slice none 0 0]) (zs := #[.slice none 0 0, .slice none 0 0]) S5 V V V (by kernel_rfl) (by rfl) (fun g6 w6 c6 hc6 S6 => ?_)
 replace S6 : St w NoX [c6, c5, c4, c3, c2] w6 := S6
 refine W_v V V (V_asg V V) ?_
 refine W_end (gen_Q fun A7 E7 => ?_)
 have Y7 := szq E7
 have F7 := fsE E7 (cq1 (ck (ck (ck (ck (ck (FS.n hdf0) V V) V V) V V) V V) V V) V)
 clear E7 Y0 hdf0 l0_0 l1_0 l2_0 l3_0
 refine tk H1 (wp_seq_k fun K8 H8 => region_in ?_)
 refine W_r V V (VR_ldA V (fg4 F7) (S6.obj 4 V hc2) Try.underlying36 V (by kernel_rfl)) ?_
 refine W_v V V (V_mkf V (args0) (args3 (es V (fg3 F7)) (es V (fg2 F7)) (es V (fg1 F7)))) ?_
 refine W_r V V (xlC (v := .int .i64 (a)) V (es2 V (fg3 F7)) (S6.obj 3 V hc3) Try.underlying3) ?_
 have hll9 : [a].length = 1 := rfl
 refine xsL (vs := [.int .i64 (a)]) (xs := ([a].map (Value.int .i64))) 1 S6 V V V (parts1 (et V)) Try.underlying25 (fun g9 w9 c9 hc9 S9 => ?_)
 replace hc9 : c9 = io .i64 (.slice (some ⟨g9, 0, none⟩) 1 1) [a] := hc9
 replace S9 : St w NoX [c9, c6, c5, c4, c3, c2] w9 := S9
 refine W_call V V V Try.func68 (by kernel_rfl) V (args3 (es3 V (et V)) (es2 V (et V)) (et V)) (kchWrite_c (a := a) (ga := g3) (f := f) (gf := g4) (x := x) (gx := g5) (S9.roC h_ov) (S9.roC n_ov) (S9.roC h_rv) (S9.chC 4 V hc3) (S9.chC 3 V hc4) (S9.chC 2 V hc5) (S9.chC 0 V hc9).own (by first | with_reducible assumption) (rfl)) ?_
 rintro _ w10 ⟨hv_10, H_10, qv_10, rfl, hH_10, hP10⟩
 refine ⟨_, rfl, ?_⟩
 obtain ⟨cR_10, cP_10, cQ_10, cG_10, hcR_10, hcP_10, hcQ_10, hcG_10, hP10⟩ := gen4 hP10
 have S10 := S9.join hP10
 replace S10 : St w NoX [cR_10, cP_10, cQ_10, cG_10, c9, c6, c5, c4, c3, c2] w10 := S10
 refine W_v V V (V_ext (v := .agg #[hv_10, qv_10]) V (et V) V) ?_
 refine W_v V V (V_ext (v := .int .i64 ((rwE (O.map ab) rs [a] a f))) V (es V (et V)) V) ?_
 refine xsB 5 S10 V hc6 V V V (es7 V (fg0 F7)) (es V (et V)) (by simp only [List.all_toArray, List.all_cons, List.all_nil, SlN_one (ow_at (S10.chq 0 V hcR_10)), SlN_one (ow_at (S10.chq 3 V hcG_10))] <;> rfl) (fun w11 c11 hc11 S11 => ?_)
 replace S11 : St w NoX [cR_10, cP_10, cQ_10, cG_10, c9, c11, c5, c4, c3, c2] w11 := S11
 refine W_v V V (V_asg V (et V)) ?_
 refine W_end (gen_Q fun A12 E12 => ?_)
 have Y12 := szq E12
 have F12 := fsE E12 (ck (cq7 F7 V) V V)
 clear E12 Y7 F7
 have S13 : St w NoX [cR_10, cP_10, cQ_10, cG_10, c11] w11 := S11.sel [0, 1, 2, 3, 5] (by decide) V
 refine tk H8 (wp_ret ?_)
 refine ret_in (results_2 Try.results52 (rv_cellA (fg1 F12) (S13.obj 4 V hc11) Try.underlying36 V (by kernel_rfl)) (rv_tmp (fg0 F12))) F12.d ?_
 exact ⟨_, H_10, _, rfl, hH_10, (S13.fin4 0 V (hcR_10) 1 V (hcP_10) 2 V (hcQ_10) 3 V (hcG_10) (by decide))⟩

set_option maxHeartbeats 4000000 in
theorem kMove_c {ov : Value} {O : List Ob} {rv : Value} {rs : List Int} {a : Int} {b : Int} {w : World} (h_ov : Ro w NoX (rl 2 obC ov O)) (n_ov : Ro w NoX (nst O)) (h_rv : Ro w NoX (il .i64 rv rs)) (hsm : SM (O.map ab)) :
  Calls Try.prog 53 #[.agg #[ov, rv], .int .i64 a, .int .i64 b] w fun e w' => ∃ hv H qv, e = .returned (.tuple #[.agg #[hv, qv], .int .i64 (ckd (O.map ab) rs [a, b])]) ∧ (H.map ab = (kpO (O.map ab) rs [a, b])) ∧ St w NoX [ro 2 obC hv H, owl .i64 (H.map (·.1)), owl .u64 (H.map (·.2)), io .i64 (qv) (mvR (O.map ab) rs a b)] w' := by
 refine calls_in 16 Try.func53 V V (by simp) (fun A0 Y0 hdf0 hargs => ?_)
 have l0_0 := hargs 0 (.agg #[ov, rv]) V
 have l1_0 := hargs 1 (.int .i64 a) V
 have l2_0 := hargs 2 (.int .i64 b) V
 clear hargs; replace Y0 : SzN A0 16 := ⟨Y0⟩
 have hS := St.nil w
 have bh_ov := SlN.le (sl_SlN h_ov.at)
 have bh_rv := SlN.le (sl_SlN h_rv.at)
 refine wp_seq_k fun K1 H1 => region_in ?_
 refine W_boxS (zs := #[ov, rv]) hS V V V l0_0 (by rfl) (fun g2 w2 c2 hc2 S2 => ?_)
 replace S2 : St w NoX [c2] w2 := S2
 refine W_boxS (zs := #[.int .i64 (a)]) S2 V V V (es V l1_0) (by rfl) (fun g3 w3 c3 hc3 S3 => ?_)
 replace S3 : St w NoX [c3, c2] w3 := S3
 refine W_boxS (zs := #[.int .i64 (b)]) S3 V V V (es2 V l2_0) (by rfl) (fun g4 w4 c4 hc4 S4 => ?_)
 replace S4 : St w NoX [c4, c3, c2] w4 := S4
 refine W_allocS (z := .agg #[.slice none 0 0, .slice none 0 0]) (zs := #[.slice none 0 0, .slice none 0 0]) S4 V V V (by kernel_rfl) (by rfl) (fun g5 w5 c5 hc5 S5 => ?_)
 replace S5 : St w NoX [c5, c4, c3, c2] w5 := S5
 refine W_v V V (V_asg V V) ?_
 refine W_end (gen_Q fun A6 E6 => ?_)
 have Y6 := szq E6
 have F6 := fsE E6 (cq1 (ck (ck (ck (ck (FS.n hdf0) V V) V V) V V) V V) V)
 clear E6 Y0 hdf0 l0_0 l1_0 l2_0
 refine tk H1 (wp_seq_k fun K7 H7 => region_in ?_)
 refine W_r V V (VR_ldA V (fg3 F6) (S5.obj 3 V hc2) Try.underlying36 V (by kernel_rfl)) ?_
 refine W_v V V (V_mkf V (args0) (args2 (es V (fg1 F6)) (es V (fg2 F6)))) ?_
 refine W_r V V (xlC (v := .int .i64 (a)) V (es2 V (fg2 F6)) (S5.obj 2 V hc3) Try.underlying3) ?_
 refine W_r V V (xlC (v := .int .i64 (b)) V (es3 V (fg1 F6)) (S5.obj 1 V hc4) Try.underlying3) ?_
 have hll8 : [a, b].length = 2 := rfl
 refine xsL (vs := [.int .i64 (a), .int .i64 (b)]) (xs := ([a, b].map (Value.int .i64))) 1 S5 V V V (parts2 (es V (et V)) (et V)) Try.underlying25 (fun g8 w8 c8 hc8 S8 => ?_)
 replace hc8 : c8 = io .i64 (.slice (some ⟨g8, 0, none⟩) 2 2) [a, b] := hc8
 replace S8 : St w NoX [c8, c5, c4, c3, c2] w8 := S8
 refine W_call V V V Try.func68 (by kernel_rfl) V (args3 (es4 V (et V)) (es3 V (et V)) (et V)) (kchMove_c (b := b) (gb := g4) (a := a) (ga := g3) (S8.roC h_ov) (S8.roC n_ov) (S8.roC h_rv) (S8.chC 2 V hc4) (S8.chC 3 V hc3) (S8.chC 0 V hc8).own (by first | with_reducible assumption) (rfl)) ?_
 rintro _ w9 ⟨hv_9, H_9, qv_9, rfl, hH_9, hP9⟩
 refine ⟨_, rfl, ?_⟩
 obtain ⟨cR_9, cP_9, cQ_9, cG_9, hcR_9, hcP_9, hcQ_9, hcG_9, hP9⟩ := gen4 hP9
 have S9 := S8.join hP9
 replace S9 : St w NoX [cR_9, cP_9, cQ_9, cG_9, c8, c5, c4, c3, c2] w9 := S9
 refine W_v V V (V_ext (v := .agg #[hv_9, qv_9]) V (et V) V) ?_
 refine W_v V V (V_ext (v := .int .i64 ((ckd (O.map ab) rs [a, b]))) V (es V (et V)) V) ?_
 refine xsB 5 S9 V hc5 V V V (es8 V (fg0 F6)) (es V (et V)) (by simp only [List.all_toArray, List.all_cons, List.all_nil, SlN_one (ow_at (S9.chq 0 V hcR_9)), SlN_one (ow_at (S9.chq 3 V hcG_9))] <;> rfl) (fun w10 c10 hc10 S10 => ?_)
 replace S10 : St w NoX [cR_9, cP_9, cQ_9, cG_9, c8, c10, c4, c3, c2] w10 := S10
 refine W_v V V (V_asg V (et V)) ?_
 refine W_end (gen_Q fun A11 E11 => ?_)
 have Y11 := szq E11
 have F11 := fsE E11 (ck (cq8 F6 V) V V)
 clear E11 Y6 F6
 have S12 : St w NoX [cR_9, cP_9, cQ_9, cG_9, c10] w10 := S10.sel [0, 1, 2, 3, 5] (by decide) V
 refine tk H7 (wp_ret ?_)
 refine ret_in (results_2 Try.results53 (rv_cellA (fg1 F11) (S12.obj 4 V hc10) Try.underlying36 V (by kernel_rfl)) (rv_tmp (fg0 F11))) F11.d ?_
 exact ⟨_, H_9, _, rfl, hH_9, (S12.fin4 0 V (hcR_9) 1 V (hcP_9) 2 V (hcQ_9) 3 V (hcG_9) (by decide))⟩

set_option maxHeartbeats 4000000 in
theorem kClear_c {ov : Value} {O : List Ob} {rv : Value} {rs : List Int} {a : Int} {w : World} (h_ov : Ro w NoX (rl 2 obC ov O)) (n_ov : Ro w NoX (nst O)) (h_rv : Ro w NoX (il .i64 rv rs)) (hsm : SM (O.map ab)) :
  Calls Try.prog 54 #[.agg #[ov, rv], .int .i64 a] w fun e w' => ∃ hv H qv, e = .returned (.tuple #[.agg #[hv, qv], .int .i64 (ckd (O.map ab) rs [a])]) ∧ (H.map ab = (kpO (O.map ab) rs [a])) ∧ St w NoX [ro 2 obC hv H, owl .i64 (H.map (·.1)), owl .u64 (H.map (·.2)), io .i64 (qv) (clR (O.map ab) rs a)] w' := by
 refine calls_in 13 Try.func54 V V (by simp) (fun A0 Y0 hdf0 hargs => ?_)
 have l0_0 := hargs 0 (.agg #[ov, rv]) V
 have l1_0 := hargs 1 (.int .i64 a) V
 clear hargs; replace Y0 : SzN A0 13 := ⟨Y0⟩
 have hS := St.nil w
 have bh_ov := SlN.le (sl_SlN h_ov.at)
 have bh_rv := SlN.le (sl_SlN h_rv.at)
 refine wp_seq_k fun K1 H1 => region_in ?_
 refine W_boxS (zs := #[ov, rv]) hS V V V l0_0 (by rfl) (fun g2 w2 c2 hc2 S2 => ?_)
 replace S2 : St w NoX [c2] w2 := S2
 refine W_boxS (zs := #[.int .i64 (a)]) S2 V V V (es V l1_0) (by rfl) (fun g3 w3 c3 hc3 S3 => ?_)
 replace S3 : St w NoX [c3, c2] w3 := S3
 refine W_allocS (z := .agg #[.slice none 0 0, .slice none 0 0]) (zs := #[.slice none 0 0, .slice none 0 0]) S3 V V V (by kernel_rfl) (by rfl) (fun g4 w4 c4 hc4 S4 => ?_)
 replace S4 : St w NoX [c4, c3, c2] w4 := S4
 refine W_v V V (V_asg V V) ?_
 refine W_end (gen_Q fun A5 E5 => ?_)
 have Y5 := szq E5
 have F5 := fsE E5 (cq1 (ck (ck (ck (FS.n hdf0) V V) V V) V V) V)
 clear E5 Y0 hdf0 l0_0 l1_0
 refine tk H1 (wp_seq_k fun K6 H6 => region_in ?_)
 refine W_r V V (VR_ldA V (fg2 F5) (S4.obj 2 V hc2) Try.underlying36 V (by kernel_rfl)) ?_
 refine W_v V V (V_mkf V (args0) (args1 (es V (fg1 F5)))) ?_
 refine W_r V V (xlC (v := .int .i64 (a)) V (es2 V (fg1 F5)) (S4.obj 1 V hc3) Try.underlying3) ?_
 have hll7 : [a].length = 1 := rfl
 refine xsL (vs := [.int .i64 (a)]) (xs := ([a].map (Value.int .i64))) 1 S4 V V V (parts1 (et V)) Try.underlying25 (fun g7 w7 c7 hc7 S7 => ?_)
 replace hc7 : c7 = io .i64 (.slice (some ⟨g7, 0, none⟩) 1 1) [a] := hc7
 replace S7 : St w NoX [c7, c4, c3, c2] w7 := S7
 refine W_call V V V Try.func68 (by kernel_rfl) V (args3 (es3 V (et V)) (es2 V (et V)) (et V)) (kchClear_c (a := a) (ga := g3) (S7.roC h_ov) (S7.roC n_ov) (S7.roC h_rv) (S7.chC 2 V hc3) (S7.chC 0 V hc7).own (by first | with_reducible assumption) (rfl)) ?_
 rintro _ w8 ⟨hv_8, H_8, qv_8, rfl, hH_8, hP8⟩
 refine ⟨_, rfl, ?_⟩
 obtain ⟨cR_8, cP_8, cQ_8, cG_8, hcR_8, hcP_8, hcQ_8, hcG_8, hP8⟩ := gen4 hP8
 have S8 := S7.join hP8
 replace S8 : St w NoX [cR_8, cP_8, cQ_8, cG_8, c7, c4, c3, c2] w8 := S8
 refine W_v V V (V_ext (v := .agg #[hv_8, qv_8]) V (et V) V) ?_
 refine W_v V V (V_ext (v := .int .i64 ((ckd (O.map ab) rs [a]))) V (es V (et V)) V) ?_
 refine xsB 5 S8 V hc4 V V V (es7 V (fg0 F5)) (es V (et V)) (by simp only [List.all_toArray, List.all_cons, List.all_nil, SlN_one (ow_at (S8.chq 0 V hcR_8)), SlN_one (ow_at (S8.chq 3 V hcG_8))] <;> rfl) (fun w9 c9 hc9 S9 => ?_)
 replace S9 : St w NoX [cR_8, cP_8, cQ_8, cG_8, c7, c9, c3, c2] w9 := S9
 refine W_v V V (V_asg V (et V)) ?_
 refine W_end (gen_Q fun A10 E10 => ?_)
 have Y10 := szq E10
 have F10 := fsE E10 (ck (cq7 F5 V) V V)
 clear E10 Y5 F5
 have S11 : St w NoX [cR_8, cP_8, cQ_8, cG_8, c9] w9 := S9.sel [0, 1, 2, 3, 5] (by decide) V
 refine tk H6 (wp_ret ?_)
 refine ret_in (results_2 Try.results54 (rv_cellA (fg1 F10) (S11.obj 4 V hc9) Try.underlying36 V (by kernel_rfl)) (rv_tmp (fg0 F10))) F10.d ?_
 exact ⟨_, H_8, _, rfl, hH_8, (S11.fin4 0 V (hcR_8) 1 V (hcP_8) 2 V (hcQ_8) 3 V (hcG_8) (by decide))⟩

end Go.Proofs.Ytpgkfndbfocibaa
namespace Go.Proofs.Ytpgkfndbfocibaa
open Go.RowKit Go.Own Go.Own.R Go.Own.G Go.Own.Gr


end Go.Proofs.Ytpgkfndbfocibaa