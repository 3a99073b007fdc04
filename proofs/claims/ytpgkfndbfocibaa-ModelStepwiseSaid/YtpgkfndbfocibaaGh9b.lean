import Derived.Test.YtpgkfndbfocibaaPl15i
import Derived.Test.YtpgkfndbfocibaaProg
import Derived.Test.YtpgkfndbfocibaaSqL
import Derived.Test.YtpgkfndbfocibaaGh7
/-! graph.changed for whatever closure: what it answers -/
namespace Go.Own.Gr
open Go Go.Own Go.Own.R Go.Own.G
def chE (O : List Ab) (rs ns : List Int) (er : Int) : Int := if ckd O rs ns ≠ 0 then ckd O rs ns else er
def chO (O : List Ab) (rs ns : List Int) (er : Int) (O2 : List Ab) : List Ab := if ckd O rs ns ≠ 0 then [] else if er ≠ 0 then [] else O2
def chR (O : List Ab) (rs ns : List Int) (er : Int) (R2 : List Int) : List Int := if ckd O rs ns ≠ 0 then [] else if er ≠ 0 then [] else R2
section
variable {O O2 O' : List Ab} {rs ns R2 R' : List Int} {er a b f p r x : Int} {E : Int}
theorem ch_ck (h : ckd O rs ns ≠ 0) : chE O rs ns er = ckd O rs ns ∧ chO O rs ns er O2 = [] ∧ chR O rs ns er R2 = [] := by unfold chE chO chR; rw [if_pos h, if_pos h, if_pos h]; exact ⟨rfl, rfl, rfl⟩
theorem ch_er (h : ckd O rs ns = 0) (h2 : er ≠ 0) : chE O rs ns er = er ∧ chO O rs ns er O2 = [] ∧ chR O rs ns er R2 = [] := by
  unfold chE chO chR; simp [h, h2]
theorem ch_ok (h : ckd O rs ns = 0) (h2 : er = 0) : chE O rs ns er = 0 ∧ chO O rs ns er O2 = O2 ∧ chR O rs ns er R2 = R2 := by
  unfold chE chO chR; simp [h, h2]
theorem ch_gen (hk : ckd O rs ns ≠ 0 → E = ckd O rs ns ∧ O' = [] ∧ R' = []) (hi : ckd O rs ns = 0 → (er ≠ 0 → E = er ∧ O' = [] ∧ R' = []) ∧ (er = 0 → E = 0 ∧ O' = O2 ∧ R' = R2)) : chE O rs ns er = E ∧ chO O rs ns er O2 = O' ∧ chR O rs ns er R2 = R' := by
  by_cases h : ckd O rs ns = 0
  · by_cases h2 : er = 0
    · obtain ⟨q1, q2, q3⟩ := ch_ok (O2 := O2) (R2 := R2) h h2
      obtain ⟨p1, p2, p3⟩ := (hi h).2 h2
      exact ⟨q1.trans p1.symm, q2.trans p2.symm, q3.trans p3.symm⟩
    · obtain ⟨q1, q2, q3⟩ := ch_er (O2 := O2) (R2 := R2) h h2
      obtain ⟨p1, p2, p3⟩ := (hi h).1 h2
      exact ⟨q1.trans p1.symm, q2.trans p2.symm, q3.trans p3.symm⟩
  · obtain ⟨q1, q2, q3⟩ := ch_ck (er := er) (O2 := O2) (R2 := R2) h
    obtain ⟨p1, p2, p3⟩ := hk h
    exact ⟨q1.trans p1.symm, q2.trans p2.symm, q3.trans p3.symm⟩
theorem ch_al : chE O rs [a] (alX p r O.length) = alE O rs a p r ∧ chO O rs [a] (alX p r O.length) (alI p r O) = alO O rs a p r ∧ chR O rs [a] (alX p r O.length) (alJ a p r O rs) = alR O rs a p r := ch_gen al_ck al_in
theorem ch_ld : chE O rs [a, b] (ldX O rs b f) = ptE O rs [a, b] b f ∧ chO O rs [a, b] (ldX O rs b f) O = ldO O rs a b f ∧ chR O rs [a, b] (ldX O rs b f) (ldJ O rs a b f) = ldR O rs a b f := ch_gen ld_ck ld_in
theorem ch_so : chE O rs [a, b] (ldX O rs a f) = ptE O rs [a, b] a f ∧ chO O rs [a, b] (ldX O rs a f) (soI O rs a f b) = soO O rs a f b ∧ chR O rs [a, b] (ldX O rs a f) rs = soR O rs a f b := ch_gen so_ck so_in
theorem ch_wr : chE O rs [a] (wrX O rs a f) = rwE O rs [a] a f ∧ chO O rs [a] (wrX O rs a f) (wrI O rs a f x) = wrO O rs a f x ∧ chR O rs [a] (wrX O rs a f) rs = wrR O rs a f := ch_gen wr_ck wr_in
theorem ch_mv : chE O rs [a, b] 0 = ckd O rs [a, b] ∧ chO O rs [a, b] 0 O = kpO O rs [a, b] ∧ chR O rs [a, b] 0 (rs.set a.toNat (rg rs b)) = mvR O rs a b := ch_gen (fun h => ⟨rfl, (mv_ck h).2⟩) fun h => ⟨fun q => absurd rfl q, fun _ => ⟨h, mv_k h⟩⟩
theorem ch_cl : chE O rs [a] 0 = ckd O rs [a] ∧ chO O rs [a] 0 O = kpO O rs [a] ∧ chR O rs [a] 0 (rs.set a.toNat 0) = clR O rs a := ch_gen (fun h => ⟨rfl, (cl_ck h).2⟩) fun h => ⟨fun q => absurd rfl q, fun _ => ⟨h, cl_k h⟩⟩
end
end Go.Own.Gr

namespace Go.Proofs.Ytpgkfndbfocibaa
open Go.RowKit Go.Own Go.Own.R Go.Own.G Go.Own.Gr


set_option maxHeartbeats 4000000 in
theorem kAl1_c {ov : Value} {O : List Ob} {rv : Value} {rs : List Int} {gov : Nat} {p : Int} {gp : Nat} {r : Int} {gr : Nat} {a : Int} {ga : Nat} {w : World} {Y : Nat → Prop} (hb_p : Ro w Y (bx gp 3 #[.int .i64 p])) (hb_r : Ro w Y (bx gr 3 #[.int .i64 r])) (hb_a : Ro w Y (bx ga 3 #[.int .i64 a])) (hS : St w Y [bx gov 36 #[ov, rv], ro 2 obC ov O, owl .i64 (O.map (·.1)), owl .u64 (O.map (·.2)), io .i64 rv rs] w) (ha : 0 ≤ a ∧ a < (rs.length : Int)) (hol : O.length ≤ 400) :
  Calls Try.prog 82 #[.pointer (some ⟨gov, 0, none⟩), .pointer (some ⟨gp, 0, none⟩), .pointer (some ⟨gr, 0, none⟩), .pointer (some ⟨ga, 0, none⟩)] w fun e w' => ∃ hv H qv, e = .returned (.int .i64 (alX p r (O.map ab).length)) ∧ (H.map ab = alI p r (O.map ab)) ∧ St w Y [bx gov 36 #[hv, qv], ro 2 obC hv H, owl .i64 (H.map (·.1)), owl .u64 (H.map (·.2)), io .i64 (qv) (alJ a p r (O.map ab) rs)] w' := by
 refine calls_in 55 Try.func82 V V (by simp) (fun A0 Y0 hdf0 hargs => ?_)
 have l0_0 := hargs 0 (.pointer (some ⟨gov, 0, none⟩)) V
 have l1_0 := hargs 1 (.pointer (some ⟨gp, 0, none⟩)) V
 have l2_0 := hargs 2 (.pointer (some ⟨gr, 0, none⟩)) V
 have l3_0 := hargs 3 (.pointer (some ⟨ga, 0, none⟩)) V
 clear hargs; replace Y0 : SzN A0 55 := ⟨Y0⟩
 obtain ⟨mb_ov, m_ov, mp_ov, mq_ov, m_rv, hmb_ov, hm_ov, hmp_ov, hmq_ov, hm_rv, hS⟩ := gen5 hS
 have bm_ov := SlN.le (ow_at (hS.cq 1 hm_ov))
 have bm_rv := SlN.le (ow_at (hS.cq 4 hm_rv))
 refine tb fun _ H1 => (vc (W_end (en ((((((cq1 (FS.n hdf0) V)).c ((es V l0_0))).c ((es V l1_0))).c ((es V l2_0))).c ((Sa l3_0))) fun A2 _ F2 => tc H1 fun _ H3 => wp_block (tb fun _ H4 => (rc (fg2 F2) (cell_box (v := .int .i64 (p)) (ob_at (hS.ro hb_p)) V) (vl t0 V (W_split V V (V_mov V t0) (fun c5 => ?_) (fun c5 => ?_))))))))
 ·refine xo V t0 (xo V (Sa t0) (vT (Sb t0) V (vt (W_end (en (Ka (Qf F2)) fun A6 _ F6 => tk H4 (cond_t (fg0 F6) (tb fun _ H7 => (vc (W_end (en (Ka F6) fun A8 _ F8 => tk H7 (wp_ret (inb_ret (then_ret (rt1 F8 (rv_tmp (fg0 F8)) ?_))))))))))))))
  have h : (alX p r (O.map ab).length) = 10 := alX_bad (by omega)
  have q := al_I (a := a) (rs := rs) (L := (O.map ab)) (p := p) (r := r) (by rw [h]; decide)
  rw [h, q.1]
  exact ⟨_, O, _, rfl, rfl, (hS.fin5 0 V (hmb_ov) 1 V (hm_ov) 2 V (hmp_ov) 3 V (hmq_ov) 4 V (hm_rv.trans (by rw [q.2])) (by decide))⟩
 refine wq V t0 (urc (Sc (fg1 F2)) (cell_box (v := .int .i64 (r)) (ob_at (hS.ro hb_r)) V)) (wg V (Sa t0) (uvl t0 V) (vF (Sb t0) t0 (vt (W_end (en (Ka (Qf F2)) fun A9 _ F9 => tk H4 (cd (fg0 F9) (fun c10 => ?_) fun c10 => ?_))))))
 ·refine tb fun _ H11 => (vc (W_end (en (Ka F9) fun A12 _ F12 => tk H11 (wp_ret (inb_ret (then_ret (rt1 F12 (rv_tmp (fg0 F12)) ?_)))))))
  have h : (alX p r (O.map ab).length) = 10 := alX_bad (by omega)
  have q := al_I (a := a) (rs := rs) (L := (O.map ab)) (p := p) (r := r) (by rw [h]; decide)
  rw [h, q.1]
  exact ⟨_, O, _, rfl, rfl, (hS.fin5 0 V (hmb_ov) 1 V (hm_ov) 2 V (hmp_ov) 3 V (hmq_ov) 4 V (hm_rv.trans (by rw [q.2])) (by decide))⟩
 refine tb fun _ H13 => (rc (fg3 F9) (cell_box (v := .int .i64 (p)) (ob_at (hS.ro hb_p)) V) (vg t0 V (W_split V V (V_mov V t0) (fun c14 => ?_) (fun c14 => ?_))))
 ·refine xo V t0 (xo V (Sa t0) (xo V (Sb t0) (xo V (Sc t0) (xo V (Sd t0) (vT (Se t0) V (vt (W_end (en (Ka (Qa (Qh F9))) fun A15 _ F15 => tk H13 (cond_t (fg0 F15) (tb fun _ H16 => (vc (W_end (en (Ka F15) fun A17 _ F17 => tk H16 (wp_ret (inb_ret (then_ret (rt1 F17 (rv_tmp (fg0 F17)) ?_)))))))))))))))))
  have h : (alX p r (O.map ab).length) = 11 := alX_big (by omega) (by omega)
  have q := al_I (a := a) (rs := rs) (L := (O.map ab)) (p := p) (r := r) (by rw [h]; decide)
  rw [h, q.1]
  exact ⟨_, O, _, rfl, rfl, (hS.fin5 0 V (hmb_ov) 1 V (hm_ov) 2 V (hmp_ov) 3 V (hmq_ov) 4 V (hm_rv.trans (by rw [q.2])) (by decide))⟩
 refine wq V t0 (urc (Sc (fg3 F9)) (cell_box (v := .int .i64 (p)) (ob_at (hS.ro hb_p)) V)) (wq V (Sa t0) (urc (Sd (fg2 F9)) (cell_box (v := .int .i64 (r)) (ob_at (hS.ro hb_r)) V)) (wg V (Sb t0) (V_min V t0 V) (wg V (Sc t0) (uad (Sb t0) t0) (wg V (Sd t0) (uvg t0 V) (vF (Se t0) t0 (vt (W_end (en (Ka (Qa (Qh F9))) fun A18 _ F18 => tk H13 (cd (fg0 F18) (fun c19 => ?_) fun c19 => ?_)))))))))
 ·refine tb fun _ H20 => (vc (W_end (en (Ka F18) fun A21 _ F21 => tk H20 (wp_ret (inb_ret (then_ret (rt1 F21 (rv_tmp (fg0 F21)) ?_)))))))
  have h : (alX p r (O.map ab).length) = 11 := alX_big (by omega) (by omega)
  have q := al_I (a := a) (rs := rs) (L := (O.map ab)) (p := p) (r := r) (by rw [h]; decide)
  rw [h, q.1]
  exact ⟨_, O, _, rfl, rfl, (hS.fin5 0 V (hmb_ov) 1 V (hm_ov) 2 V (hmp_ov) 3 V (hmq_ov) 4 V (hm_rv.trans (by rw [q.2])) (by decide))⟩
 refine tb fun _ H22 => (vm (fg5 F18) (ni t0 (fa 0 t0 (rL ov t0 (hS.ob 0 hmb_ov) (le_ t0 (ow_at (hS.cq 1 hm_ov)) (ve t0 V (vt (W_end (en (Ka (Qf F18)) fun A23 _ F23 => tk H22 (cd (fg0 F23) (fun c24 => ?_) fun c24 => ?_))))))))))
 ·refine tb fun _ H25 => (vc (W_end (en (Ka F23) fun A26 _ F26 => tk H25 (wp_ret (inb_ret (then_ret (rt1 F26 (rv_tmp (fg0 F26)) ?_)))))))
  have h : (alX p r (O.map ab).length) = 5 := alX_full (by omega) (by omega) (by rw [List.length_map]; omega)
  have q := al_I (a := a) (rs := rs) (L := (O.map ab)) (p := p) (r := r) (by rw [h]; decide)
  rw [h, q.1]
  exact ⟨_, O, _, rfl, rfl, (hS.fin5 0 V (hmb_ov) 1 V (hm_ov) 2 V (hmp_ov) 3 V (hmq_ov) 4 V (hm_rv.trans (by rw [q.2])) (by decide))⟩
 refine wp_skip (inb_n (tc H3 fun _ H27 => region_monoS 11 12 [none, none, none, none, none, none, some (SPv [] (fun _ => fun u l' => ∃ v, u = v ∧ ∃ c, c = ow 1 p.toNat v (List.replicate p.toNat (.int .i64 0)) ∧ l' = [c]) 6), none, some (SPv [] (fun _ => fun u l' => ∃ v, u = v ∧ ∃ c, c = ow 1 r.toNat v (List.replicate r.toNat (.int .u64 0)) ∧ l' = [c]) 8), none, some (SPv [36, 38] (fun vs => fun u l' => ∃ g_, u = .slice (some ⟨g_, 0, none⟩) 1 1 ∧ ∃ c_, c_ = ro 2 obC (.slice (some ⟨g_, 0, none⟩) 1 1) [(((vs.getD 0 undef), (List.replicate p.toNat (0 : Int))), ((vs.getD 1 undef), (List.replicate r.toNat (0 : Int))))] ∧ l' = [c_]) 10)] (by kernel_rfl) (by kernel_rfl) (dm (fg6 F23) (dm (Sa (fg6 F23)) (dn t0 (df 0 t0 (dr (fun _ hx _ => (urc t0 (cell_box (v := ov) ((hS.grow hx).ob 0 hmb_ov) V))) (dr (fun _ hx _ => (urc (Se (fg5 F23)) (cell_box (v := .int .i64 (p)) (ob_at ((hS.grow hx).ro hb_p)) V))) (D_lay (ts := []) (vs := []) (C0 := fun _ => fun u l' => ∃ v, u = v ∧ ∃ c, c = ow 1 p.toNat v (List.replicate p.toNat (.int .i64 0)) ∧ l' = [c]) (C := fun u l' => ∃ v, u = v ∧ ∃ c, c = ow 1 p.toNat v (List.replicate p.toNat (.int .i64 0)) ∧ l' = [c]) V V V V V V (fun sx hx hF => lay_mk (z := .int .i64 0) (bytes := 8) p.toNat V t0 t0 (by omega) Try.underlying25 (by kernel_rfl) (by omega) V) (fun u28 l28 hu28 => ?_))))))))))
 obtain ⟨v28, rfl, c28, hc28, hl28⟩ := hu28
 replace hc28 : c28 = io .i64 u28 (List.replicate p.toNat (0 : Int)) := hc28.trans (by simp only [io, bo, List.map_replicate, List.length_replicate])
 refine dr (fun _ hx _ => (urc (Sg (fg4 F23)) (cell_box (v := .int .i64 (r)) (ob_at ((hS.grow hx).ro hb_r)) V))) (D_lay (ts := []) (vs := []) (C0 := fun _ => fun u l' => ∃ v, u = v ∧ ∃ c, c = ow 1 r.toNat v (List.replicate r.toNat (.int .u64 0)) ∧ l' = [c]) (C := fun u l' => ∃ v, u = v ∧ ∃ c, c = ow 1 r.toNat v (List.replicate r.toNat (.int .u64 0)) ∧ l' = [c]) V V V V V V (fun sx hx hF => lay_mk (z := .int .u64 0) (bytes := 8) r.toNat V t0 t0 (by omega) Try.underlying66 (by kernel_rfl) (by omega) V) (fun u29 l29 hu29 => ?_))
 obtain ⟨v29, rfl, c29, hc29, hl29⟩ := hu29
 replace hc29 : c29 = io .u64 u29 (List.replicate r.toNat (0 : Int)) := hc29.trans (by simp only [io, bo, List.map_replicate, List.length_replicate])
 refine D_r V V (by kernel_rfl) (fun sx hx hF => by obtain ⟨ll28, ws28, we28, ⟨v28q, hq28, c28_, hc28_, hl28_⟩, hm28, k28, e28⟩ := L.ancF_get (L.ancF_rest hF) (by kernel_rfl); cases hq28; subst hl28_; obtain ⟨ll29, ws29, we29, ⟨v29q, hq29, c29_, hc29_, hl29_⟩, hm29, k29, e29⟩ := L.ancF_get hF (by kernel_rfl); cases hq29; subst hl29_; exact ((V_bldS (n := 2) (z := .agg #[.slice none 0 0, .slice none 0 0]) V (parts2 (es2 V (et V)) (et V)) (by kernel_rfl) (by simp only [List.all_cons, List.all_nil, SlN_one (ow_at ((k28.grow e28).cq 0 hc28_)), SlN_one (ow_at ((k29.grow e29).cq 0 hc29_)), Bool.and_true] <;> rfl) (by kernel_rfl) (by simp only [List.foldl_cons, List.foldl_nil, Value.cells, List.setIfInBounds_toArray, List.set_cons_succ, List.set_cons_zero] <;> rfl) : Val _ _ _ _) _)) V V ?_
 have hll30 : [((u28, (List.replicate p.toNat (0 : Int))), (u29, (List.replicate r.toNat (0 : Int))))].length = 1 := rfl
 refine D_lay (ts := [36, 38]) (vs := [u28, u29]) (C0 := fun vs => fun u l' => ∃ g_, u = .slice (some ⟨g_, 0, none⟩) 1 1 ∧ ∃ c_, c_ = ro 2 obC (.slice (some ⟨g_, 0, none⟩) 1 1) [(((vs.getD 0 undef), (List.replicate p.toNat (0 : Int))), ((vs.getD 1 undef), (List.replicate r.toNat (0 : Int))))] ∧ l' = [c_]) (C := fun u l' => ∃ g_, u = .slice (some ⟨g_, 0, none⟩) 1 1 ∧ ∃ c_, c_ = ro 2 obC (.slice (some ⟨g_, 0, none⟩) 1 1) [((u28, (List.replicate p.toNat (0 : Int))), (u29, (List.replicate r.toNat (0 : Int))))] ∧ l' = [c_]) V V V V (ts2 (Sc t0) (Sa t0)) V (fun sx hx hF => lay_lit (vs := [.agg #[u28, u29]]) 2 V (parts1 t0) V Try.underlying34 (by kernel_rfl) (by decide) (by intro v hv; simp only [List.mem_cons, List.not_mem_nil, or_false] at hv; rcases hv with rfl <;> rfl) (by rfl)) (fun u30 l30 hu30 => ?_)
 obtain ⟨g30, rfl, c30, hc30, hl30⟩ := hu30
 refine D_eff V (ZS_eff hS V V (fun s31 hJ31 hL31 hF31 => ?_))
 obtain ⟨ll28, ws28, we28, ⟨v28q, hq28, c28r, hc28r, hl28r⟩, hm28, k28, e28⟩ := L.all_get (L.all_rest (L.all_rest hF31)); cases hq28; subst hl28r
 replace hJ31 := hJ31.add hL31 (i := 6) V hm28 k28 e28
 replace hc28r : c28r = io .i64 u28 (List.replicate p.toNat (0 : Int)) := hc28r.trans (by simp only [io, bo, List.map_replicate, List.length_replicate])
 obtain ⟨ll29, ws29, we29, ⟨v29q, hq29, c29r, hc29r, hl29r⟩, hm29, k29, e29⟩ := L.all_get (L.all_rest hF31); cases hq29; subst hl29r
 replace hJ31 := hJ31.add hL31 (i := 8) V hm29 k29 e29
 replace hc29r : c29r = io .u64 u29 (List.replicate r.toNat (0 : Int)) := hc29r.trans (by simp only [io, bo, List.map_replicate, List.length_replicate])
 obtain ⟨ll30, ws30, we30, ⟨g30q, hq30, c30r, hc30r, hl30r⟩, hm30, k30, e30⟩ := L.all_get hF31; cases hq30; subst hl30r
 replace hJ31 := hJ31.add hL31 (i := 10) V hm30 k30 e30
 have S31 := hJ31.st; clear hF31 hJ31 hL31
 generalize s31.1 = w31 at *
 replace S31 : St w Y [c30r, c29r, c28r, mb_ov, m_ov, mp_ov, mq_ov, m_rv] w31 := S31
 refine W_appS 2 4 S31 V hm_ov V V V (Sf t0) t0 Try.underlying34 Try.underlying34 (z := .agg #[.slice none 0 0, .slice none 0 0]) (bytes := 48) (by kernel_rfl) V (by decide) (ow_at (S31.cq 0 hc30r)) (by intro u hu; simp only [List.flatMap_cons, List.flatMap_nil, obC, List.append_nil, List.cons_append, List.nil_append, List.mem_cons, List.not_mem_nil, or_false] at hu; rcases hu with rfl | rfl <;> first | exact SlN_one (ow_at (S31.cq 2 hc28r)) | exact SlN_one (ow_at (S31.cq 1 hc29r))) (by first | omega | (simp; done) | (simp; omega)) (by first | omega | (simp; done) | (simp; omega)) (fun v32 w32 c32 hc32 S32 => ?_)
 replace hc32 : c32 = ro 2 obC v32 (O ++ [((u28, (List.replicate p.toNat (0 : Int))), (u29, (List.replicate r.toNat (0 : Int))))]) := hc32.trans (app_eqR (by first | (simp; done) | (rw [List.take_of_length_le (l := List.drop _ _) (by rw [List.length_drop]; exact Nat.le_refl _)])))
 replace S32 : St w Y [c30r, c29r, c28r, mb_ov, c32, mp_ov, mq_ov, m_rv] w32 := S32
 have S33 := S32.se [2, 5, 1, 6, 0, 3, 4, 7] [c28r, mp_ov, c29r, mq_ov, c30r, mb_ov, c32, m_rv]
 rw [hc28r, hmp_ov, hc29r, hmq_ov] at S33
 obtain ⟨c34, cb34, hc34, hcb34, S34⟩ := gen2 (nst_push (pv := u28) (ps := (List.replicate p.toNat (0 : Int))) (qv := u29) (qs := (List.replicate r.toNat (0 : Int))) (O := O) S33)
 replace hc34 : c34 = owl .i64 ((O ++ [((u28, (List.replicate p.toNat (0 : Int))), (u29, (List.replicate r.toNat (0 : Int))))]).map (·.1)) := hc34
 replace hcb34 : cb34 = owl .u64 ((O ++ [((u28, (List.replicate p.toNat (0 : Int))), (u29, (List.replicate r.toNat (0 : Int))))]).map (·.2)) := hcb34
 refine ni (Sh (Sc t0)) (fa 0 t0 (xsC3 (zs' := #[v32, rv]) S34 hmb_ov V V V t0 (Sb t0) (SlN_one (ow_at (S34.cq 4 hc32))) (fun w35 c35 hc35 S35 => W_end (Qo_normal (en (Qf (Qh F23)) fun A36 _ F36 => ?_)))))
 have S37 := S35.se [0, 1, 3, 4, 5] [c34, cb34, c35, c32, m_rv]
 refine tc H27 fun _ H38 => region_monoS 11 12 [] (by kernel_rfl) (by kernel_rfl) (dm (fg6 F36) (dn t0 (df 1 t0 (dr (fun _ hx _ => (urc t0 (cell_box (v := rv) ((S37.grow hx).ob 2 hc35) V))) (dr (fun _ hx _ => (urc (Sd (fg3 F36)) (cell_box (v := .int .i64 (a)) (ob_at ((S37.grow hx).ro hb_a)) V))) (dm (Se (fg6 F36)) (dn t0 (df 0 t0 (dr (fun _ hx _ => (urc t0 (cell_box (v := v32) ((S37.grow hx).ob 2 hc35) V))) (dv (ule_ t0 (ow_at (S37.cq 3 hc32))) ?_))))))))))
 have k39 : a.toNat < rs.length := by first | omega | (simp only [List.length_cons, List.length_nil]; omega) | (simp only [List.length_set]; omega) | decide
 obtain ⟨y39, hy39⟩ := get_some (xs := rs) (k := a.toNat) k39
 obtain ⟨B39, O39, C39, hv39⟩ := (SlN.blk (ow_at (S37.chq 4 rfl hm_rv)) (by first | omega | (simp only [List.length_cons, List.length_nil]; omega) | (simp only [List.length_set]; omega) | decide))
 refine dv (V_ixS (off := O39 + a.toNat) 1 a.toNat V (Sf t0) (Se t0) hv39 (by omega) k39 Try.underlying25 (by kernel_rfl) (congrArg _ (Nat.mul_one _))) (D_eff V (ZS_eff S37 V V (fun s40 hJ40 hL40 hF40 => ?_)))
 have S40 := hJ40.st; clear hF40 hJ40 hL40
 generalize s40.1 = w40 at *
 replace S40 : St w Y [c34, cb34, c35, c32, m_rv] w40 := S40
 refine W_stE 4 S40 V hm_rv hv39 V V V t0 (Sa t0) (by rfl) V (by first | (simp only [List.length_map]; omega) | omega) (by kernel_rfl) (fun w41 c41 hc41 S41 => ?_)
 replace hc41 : c41 = io .i64 rv (rs.set a.toNat ((O ++ [((u28, (List.replicate p.toNat (0 : Int))), (u29, (List.replicate r.toNat (0 : Int))))]).length : Int)) := hc41.trans (by simp [io, bo, List.map_set] <;> rfl)
 replace S41 : St w Y [c34, cb34, c35, c32, c41] w41 := S41
 refine W_end (Qo_normal (en (Qc (Qh F36)) fun A42 _ F42 => ta H38 fun _ H43 => (vc (W_end (en (Ka F42) fun A44 _ F44 => tk H43 (wp_ret (rt1 F44 (rv_tmp (fg0 F44)) ?_)))))))
 have h : (alX p r (O.map ab).length) = 0 := alX_ok (by omega) (by omega) (by rw [List.length_map]; omega)
 have q := al_J (a := a) (rs := rs) (L := (O.map ab)) h
 rw [h, q.1]
 exact ⟨_, (O ++ [((u28, (List.replicate p.toNat (0 : Int))), (u29, (List.replicate r.toNat (0 : Int))))]), _, rfl, al_map, (S41.fin5 2 V (hc35) 3 V (hc32) 0 V (hc34) 1 V (hcb34) 4 V (hc41.trans ((congrArg (fun z => io .i64 _ (rs.set a.toNat z)) (show _ = (((O.map ab).length : Nat) : Int) + 1 by simp)).trans (by rw [q.2]))) (by decide))⟩

set_option maxHeartbeats 4000000 in
theorem kLd1_c {ov : Value} {O : List Ob} {rv : Value} {rs : List Int} {gov : Nat} {b : Int} {gb : Nat} {f : Int} {gf : Nat} {a : Int} {ga : Nat} {w : World} {Y : Nat → Prop} (hb_b : Ro w Y (bx gb 3 #[.int .i64 b])) (hb_f : Ro w Y (bx gf 3 #[.int .i64 f])) (hb_a : Ro w Y (bx ga 3 #[.int .i64 a])) (hS : St w Y [bx gov 36 #[ov, rv], ro 2 obC ov O, owl .i64 (O.map (·.1)), owl .u64 (O.map (·.2)), io .i64 rv rs] w) (hrg : ∀ p ∈ rs, 0 ≤ p ∧ p ≤ (O.length : Int)) (ha : 0 ≤ a ∧ a < (rs.length : Int)) (hb : 0 ≤ b ∧ b < (rs.length : Int)) :
  Calls Try.prog 69 #[.pointer (some ⟨gov, 0, none⟩), .pointer (some ⟨gb, 0, none⟩), .pointer (some ⟨gf, 0, none⟩), .pointer (some ⟨ga, 0, none⟩)] w fun e w' => ∃ hv H qv, e = .returned (.int .i64 (ldX (O.map ab) rs b f)) ∧ (H.map ab = (O.map ab)) ∧ St w Y [bx gov 36 #[hv, qv], ro 2 obC hv H, owl .i64 (H.map (·.1)), owl .u64 (H.map (·.2)), io .i64 (qv) (ldJ (O.map ab) rs a b f)] w' := by
 refine calls_in 22 Try.func69 V V (by simp) (fun A0 Y0 hdf0 hargs => ?_)
 have l0_0 := hargs 0 (.pointer (some ⟨gov, 0, none⟩)) V
 have l1_0 := hargs 1 (.pointer (some ⟨gb, 0, none⟩)) V
 have l2_0 := hargs 2 (.pointer (some ⟨gf, 0, none⟩)) V
 have l3_0 := hargs 3 (.pointer (some ⟨ga, 0, none⟩)) V
 clear hargs; replace Y0 : SzN A0 22 := ⟨Y0⟩
 obtain ⟨mb_ov, m_ov, mp_ov, mq_ov, m_rv, hmb_ov, hm_ov, hmp_ov, hmq_ov, hm_rv, hS⟩ := gen5 hS
 have bm_ov := SlN.le (ow_at (hS.cq 1 hm_ov))
 have bm_rv := SlN.le (ow_at (hS.cq 4 hm_rv))
 refine tb fun _ H1 => (vc (W_end (en ((((((cq1 (FS.n hdf0) V)).c ((es V l0_0))).c ((es V l1_0))).c ((es V l2_0))).c ((Sa l3_0))) fun A2 _ F2 => ta H1 fun _ H3 => (vm (fg3 F2) (rc (Sa (fg2 F2)) (cell_box (v := .int .i64 (b)) (ob_at (hS.ro hb_b)) V) (rc (Sb (fg1 F2)) (cell_box (v := .int .i64 (f)) (ob_at (hS.ro hb_f)) V) (W_call V V V Try.func70 (by kernel_rfl) V (args3 (Sb t0) (Sa t0) t0) (kpt_c (gov := gov) (a := b) (f := f) (hS.cC 1 hm_ov).own (nst_of (hS.cC 2 hmp_ov) (hS.cC 3 hmq_ov)) (hS.cC 4 hm_rv).own (hS.cC 0 hmb_ov) (by first | with_reducible assumption | (have q := hG.reg; simpa using q)) (by first | omega | with_reducible assumption)) ?_)))))))
 rintro _ w4 (⟨rfl, hz_4, hP4⟩ | ⟨B_4, O_4, C_4, y_4, x_4, rfl, hv_4, hy_4, hx_4, hz_4, hob_4, hP4⟩)
 ·refine ⟨_, rfl, ?_⟩
  have S4 := hS.j0 hP4
  refine vt (W_end (en (Ka (Qd F2)) fun A5 _ F5 => tc H3 fun _ H6 => tb fun _ H7 => (vm (fg0 F5) (wv (V_eqNN V t0 V Try.underlying96) (W_end (en (Ka (Qa F5)) fun A8 _ F8 => tk H7 (cond_t (fg0 F8) (tb fun _ H9 => (vc (W_end (en (Ka F8) fun A10 _ F10 => tk H9 (wp_ret (then_ret (rt1 F10 (rv_tmp (fg0 F10)) ?_))))))))))))))
  rw [ldX_n hz_4]
  exact ⟨_, O, _, rfl, rfl, (S4.fin5 0 V (hmb_ov) 1 V (hm_ov) 2 V (hmp_ov) 3 V (hmq_ov) 4 V (hm_rv.trans (by rw [ldJ_n hz_4])) (by decide))⟩
 refine ⟨_, rfl, ?_⟩
 have S4 := hS.j0 hP4
 have bfn11 := SlN.le (sl_SlN (owl_at (mapE (g := (·.1)) hy_4) (S4.cq 2 hmp_ov)))
 have bfn12 := SlN.le (sl_SlN (owl_at (mapE (g := (·.2)) hy_4) (S4.cq 3 hmq_ov)))
 refine vt (W_end (en (Ka (Qd F2)) fun A13 _ F13 => tc H3 fun _ H14 => tb fun _ H15 => (vm (fg0 F13) (wv (V_eqPN V t0 V Try.underlying96) (W_end (en (Ka (Qa F13)) fun A16 _ F16 => tk H15 (cond_f (fg0 F16) (wp_skip (tc H14 fun _ H17 => region_monoS 9 10 [] (by kernel_rfl) (by kernel_rfl) (dm (fg5 F16) (dn t0 (df 1 t0 (dr (fun _ hx _ => (urc t0 (cell_box (v := rv) ((S4.grow hx).ob 0 hmb_ov) V))) (dr (fun _ hx _ => (urc (Sd (fg2 F16)) (cell_box (v := .int .i64 (a)) (ob_at ((S4.grow hx).ro hb_a)) V))) (dm (Se (fg1 F16)) (dn t0 (dr (fun _ hx _ => (urc t0 ((sl_SlN (owl_at (mapE (g := (·.1)) hy_4) ((S4.grow hx).cq 2 hmp_ov))).cell hv_4 (map_get hx_4)))) ?_)))))))))))))))))
 have k18 : a.toNat < rs.length := by first | omega | (simp only [List.length_cons, List.length_nil]; omega) | (simp only [List.length_set]; omega) | decide
 obtain ⟨y18, hy18⟩ := get_some (xs := rs) (k := a.toNat) k18
 obtain ⟨B18, O18, C18, hv18⟩ := (SlN.blk (ow_at (S4.chq 4 rfl hm_rv)) (by first | omega | (simp only [List.length_cons, List.length_nil]; omega) | (simp only [List.length_set]; omega) | decide))
 refine dv (V_ixS (off := O18 + a.toNat) 1 a.toNat V (Sd t0) (Sc t0) hv18 (by omega) k18 Try.underlying25 (by kernel_rfl) (congrArg _ (Nat.mul_one _))) (D_eff V (ZS_eff S4 V V (fun s19 hJ19 hL19 hF19 => ?_)))
 have S19 := hJ19.st; clear hF19 hJ19 hL19
 generalize s19.1 = w19 at *
 replace S19 : St w Y [mb_ov, m_ov, mp_ov, mq_ov, m_rv] w19 := S19
 refine W_stE 4 S19 V hm_rv hv18 V V V t0 (Sa t0) (by rfl) V (by first | (simp only [List.length_map]; omega) | omega) (by kernel_rfl) (fun w20 c20 hc20 S20 => ?_)
 replace hc20 : c20 = io .i64 rv (rs.set a.toNat x_4) := hc20.trans (by simp [io, bo, List.map_set] <;> rfl)
 replace S20 : St w Y [mb_ov, m_ov, mp_ov, mq_ov, c20] w20 := S20
 refine W_end (Qo_normal (en (Qa (Qh F16)) fun A21 _ F21 => ta H17 fun _ H22 => (vc (W_end (en (Ka F21) fun A23 _ F23 => tk H22 (wp_ret (rt1 F23 (rv_tmp (fg0 F23)) ?_)))))))
 rw [ldX_k hz_4]
 exact ⟨_, O, _, rfl, rfl, (S20.fin5 0 V (hmb_ov) 1 V (hm_ov) 2 V (hmp_ov) 3 V (hmq_ov) 4 V (hc20.trans ((congrArg (fun z => io .i64 _ (rs.set a.toNat z)) (getD_at hx_4).symm).trans (by rw [ldJ_k hz_4, hob_4] <;> rfl))) (by decide))⟩

set_option maxHeartbeats 4000000 in
theorem kSo1_c {ov : Value} {O : List Ob} {rv : Value} {rs : List Int} {gov : Nat} {a : Int} {ga : Nat} {f : Int} {gf : Nat} {b : Int} {gb : Nat} {w : World} {Y : Nat → Prop} (hb_a : Ro w Y (bx ga 3 #[.int .i64 a])) (hb_f : Ro w Y (bx gf 3 #[.int .i64 f])) (hb_b : Ro w Y (bx gb 3 #[.int .i64 b])) (hS : St w Y [bx gov 36 #[ov, rv], ro 2 obC ov O, owl .i64 (O.map (·.1)), owl .u64 (O.map (·.2)), io .i64 rv rs] w) (hrg : ∀ p ∈ rs, 0 ≤ p ∧ p ≤ (O.length : Int)) (ha : 0 ≤ a ∧ a < (rs.length : Int)) (hb : 0 ≤ b ∧ b < (rs.length : Int)) :
  Calls Try.prog 71 #[.pointer (some ⟨gov, 0, none⟩), .pointer (some ⟨ga, 0, none⟩), .pointer (some ⟨gf, 0, none⟩), .pointer (some ⟨gb, 0, none⟩)] w fun e w' => ∃ hv H qv, e = .returned (.int .i64 (ldX (O.map ab) rs a f)) ∧ (H.map ab = soI (O.map ab) rs a f b) ∧ St w Y [bx gov 36 #[hv, qv], ro 2 obC hv H, owl .i64 (H.map (·.1)), owl .u64 (H.map (·.2)), io .i64 (qv) rs] w' := by
 refine calls_in 22 Try.func71 V V (by simp) (fun A0 Y0 hdf0 hargs => ?_)
 have l0_0 := hargs 0 (.pointer (some ⟨gov, 0, none⟩)) V
 have l1_0 := hargs 1 (.pointer (some ⟨ga, 0, none⟩)) V
 have l2_0 := hargs 2 (.pointer (some ⟨gf, 0, none⟩)) V
 have l3_0 := hargs 3 (.pointer (some ⟨gb, 0, none⟩)) V
 clear hargs; replace Y0 : SzN A0 22 := ⟨Y0⟩
 obtain ⟨mb_ov, m_ov, mp_ov, mq_ov, m_rv, hmb_ov, hm_ov, hmp_ov, hmq_ov, hm_rv, hS⟩ := gen5 hS
 have bm_ov := SlN.le (ow_at (hS.cq 1 hm_ov))
 have bm_rv := SlN.le (ow_at (hS.cq 4 hm_rv))
 refine tb fun _ H1 => (vc (W_end (en ((((((cq1 (FS.n hdf0) V)).c ((es V l0_0))).c ((es V l1_0))).c ((es V l2_0))).c ((Sa l3_0))) fun A2 _ F2 => ta H1 fun _ H3 => (vm (fg3 F2) (rc (Sa (fg2 F2)) (cell_box (v := .int .i64 (a)) (ob_at (hS.ro hb_a)) V) (rc (Sb (fg1 F2)) (cell_box (v := .int .i64 (f)) (ob_at (hS.ro hb_f)) V) (W_call V V V Try.func70 (by kernel_rfl) V (args3 (Sb t0) (Sa t0) t0) (kpt_c (gov := gov) (a := a) (f := f) (hS.cC 1 hm_ov).own (nst_of (hS.cC 2 hmp_ov) (hS.cC 3 hmq_ov)) (hS.cC 4 hm_rv).own (hS.cC 0 hmb_ov) (by first | with_reducible assumption | (have q := hG.reg; simpa using q)) (by first | omega | with_reducible assumption)) ?_)))))))
 rintro _ w4 (⟨rfl, hz_4, hP4⟩ | ⟨B_4, O_4, C_4, y_4, x_4, rfl, hv_4, hy_4, hx_4, hz_4, hob_4, hP4⟩)
 ·refine ⟨_, rfl, ?_⟩
  have S4 := hS.j0 hP4
  refine vt (W_end (en (Ka (Qd F2)) fun A5 _ F5 => tc H3 fun _ H6 => tb fun _ H7 => (vm (fg0 F5) (wv (V_eqNN V t0 V Try.underlying96) (W_end (en (Ka (Qa F5)) fun A8 _ F8 => tk H7 (cond_t (fg0 F8) (tb fun _ H9 => (vc (W_end (en (Ka F8) fun A10 _ F10 => tk H9 (wp_ret (then_ret (rt1 F10 (rv_tmp (fg0 F10)) ?_))))))))))))))
  rw [ldX_n hz_4, soI_n hz_4]
  exact ⟨_, O, _, rfl, rfl, (S4.fin5 0 V (hmb_ov) 1 V (hm_ov) 2 V (hmp_ov) 3 V (hmq_ov) 4 V (hm_rv) (by decide))⟩
 refine ⟨_, rfl, ?_⟩
 have S4 := hS.j0 hP4
 have bfn11 := SlN.le (sl_SlN (owl_at (mapE (g := (·.1)) hy_4) (S4.cq 2 hmp_ov)))
 have bfn12 := SlN.le (sl_SlN (owl_at (mapE (g := (·.2)) hy_4) (S4.cq 3 hmq_ov)))
 refine vt (W_end (en (Ka (Qd F2)) fun A13 _ F13 => tc H3 fun _ H14 => tb fun _ H15 => (vm (fg0 F13) (wv (V_eqPN V t0 V Try.underlying96) (W_end (en (Ka (Qa F13)) fun A16 _ F16 => tk H15 (cond_f (fg0 F16) (wp_skip (tc H14 fun _ H17 => region_monoS 9 10 [] (by kernel_rfl) (by kernel_rfl) (dm (fg1 F16) (dm (Sa (fg5 F16)) (dn t0 (df 1 t0 (dr (fun _ hx _ => (urc t0 (cell_box (v := rv) ((S4.grow hx).ob 0 hmb_ov) V))) (dr (fun _ hx _ => (urc (Se (fg2 F16)) (cell_box (v := .int .i64 (b)) (ob_at ((S4.grow hx).ro hb_b)) V))) ?_)))))))))))))))
 have k18 : b.toNat < rs.length := by first | omega | (simp only [List.length_cons, List.length_nil]; omega) | (simp only [List.length_set]; omega) | decide
 obtain ⟨y18, hy18⟩ := get_some (xs := rs) (k := b.toNat) k18
 obtain ⟨B18, O18, C18, hv18⟩ := (SlN.blk (ow_at (S4.chq 4 rfl hm_rv)) (by first | omega | (simp only [List.length_cons, List.length_nil]; omega) | (simp only [List.length_set]; omega) | decide))
 refine dv (V_ixS (off := O18 + b.toNat) 1 b.toNat V (Sa t0) t0 hv18 (by omega) k18 Try.underlying25 (by kernel_rfl) (congrArg _ (Nat.mul_one _))) (dr (fun _ hx _ => (urc t0 ((ow_at ((S4.grow hx).cq 4 hm_rv)).cell hv18 (map_get hy18)))) (dn (Sg t0) (D_eff V (ZS_eff S4 V V (fun s19 hJ19 hL19 hF19 => ?_)))))
 have S19 := hJ19.st; clear hF19 hJ19 hL19
 generalize s19.1 = w19 at *
 replace S19 : St w Y [mb_ov, m_ov, mp_ov, mq_ov, m_rv] w19 := S19
 have S21 := S19.se [2, 3, 1, 0, 4] [mp_ov, mq_ov, m_ov, mb_ov, m_rv]
 refine W_stN1 S21 hmp_ov hmq_ov hm_ov hy_4 hv_4 V V V t0 (Sa t0) V (List.getElem?_eq_some_iff.1 hx_4).1 (by kernel_rfl) (fun w20 ca20 cb20 c20 hca20 hcb20 hc20 S20 => ?_)
 replace S20 : St w Y [ca20, cb20, c20, mb_ov, m_rv] w20 := S20
 refine W_end (Qo_normal (en (Qa (Qh F16)) fun A22 _ F22 => ta H17 fun _ H23 => (vc (W_end (en (Ka F22) fun A24 _ F24 => tk H23 (wp_ret (rt1 F24 (rv_tmp (fg0 F24)) ?_)))))))
 rw [ldX_k hz_4]
 exact ⟨_, (O.set ((rg rs a - 1).toNat) ((y_4.1.1, y_4.1.2.set ((f).toNat) y18), y_4.2)), _, rfl, so_map V hy_4 (rg_at hy18) hz_4, (S20.fin5 3 V (hmb_ov) 2 V (hc20) 0 V (hca20) 1 V (hcb20) 4 V (hm_rv) (by decide))⟩

set_option maxHeartbeats 4000000 in
theorem kWr1_c {ov : Value} {O : List Ob} {rv : Value} {rs : List Int} {gov : Nat} {a : Int} {ga : Nat} {f : Int} {gf : Nat} {x : Int} {gx : Nat} {w : World} {Y : Nat → Prop} (hb_a : Ro w Y (bx ga 3 #[.int .i64 a])) (hb_f : Ro w Y (bx gf 3 #[.int .i64 f])) (hb_x : Ro w Y (bx gx 40 #[.int .u64 x])) (hS : St w Y [bx gov 36 #[ov, rv], ro 2 obC ov O, owl .i64 (O.map (·.1)), owl .u64 (O.map (·.2)), io .i64 rv rs] w) (hrg : ∀ p ∈ rs, 0 ≤ p ∧ p ≤ (O.length : Int)) (ha : 0 ≤ a ∧ a < (rs.length : Int)) :
  Calls Try.prog 73 #[.pointer (some ⟨gov, 0, none⟩), .pointer (some ⟨ga, 0, none⟩), .pointer (some ⟨gf, 0, none⟩), .pointer (some ⟨gx, 0, none⟩)] w fun e w' => ∃ hv H qv, e = .returned (.int .i64 (wrX (O.map ab) rs a f)) ∧ (H.map ab = wrI (O.map ab) rs a f x) ∧ St w Y [bx gov 36 #[hv, qv], ro 2 obC hv H, owl .i64 (H.map (·.1)), owl .u64 (H.map (·.2)), io .i64 (qv) rs] w' := by
 refine calls_in 16 Try.func73 V V (by simp) (fun A0 Y0 hdf0 hargs => ?_)
 have l0_0 := hargs 0 (.pointer (some ⟨gov, 0, none⟩)) V
 have l1_0 := hargs 1 (.pointer (some ⟨ga, 0, none⟩)) V
 have l2_0 := hargs 2 (.pointer (some ⟨gf, 0, none⟩)) V
 have l3_0 := hargs 3 (.pointer (some ⟨gx, 0, none⟩)) V
 clear hargs; replace Y0 : SzN A0 16 := ⟨Y0⟩
 obtain ⟨mb_ov, m_ov, mp_ov, mq_ov, m_rv, hmb_ov, hm_ov, hmp_ov, hmq_ov, hm_rv, hS⟩ := gen5 hS
 have bm_ov := SlN.le (ow_at (hS.cq 1 hm_ov))
 have bm_rv := SlN.le (ow_at (hS.cq 4 hm_rv))
 refine tb fun _ H1 => (vc (W_end (en ((((((cq1 (FS.n hdf0) V)).c ((es V l0_0))).c ((es V l1_0))).c ((es V l2_0))).c ((Sa l3_0))) fun A2 _ F2 => ta H1 fun _ H3 => (vm (fg3 F2) (rc (Sa (fg2 F2)) (cell_box (v := .int .i64 (a)) (ob_at (hS.ro hb_a)) V) (rc (Sb (fg1 F2)) (cell_box (v := .int .i64 (f)) (ob_at (hS.ro hb_f)) V) (W_call V V V Try.func72 (by kernel_rfl) V (args3 (Sb t0) (Sa t0) t0) (krw_c (gov := gov) (a := a) (f := f) (hS.cC 1 hm_ov).own (nst_of (hS.cC 2 hmp_ov) (hS.cC 3 hmq_ov)) (hS.cC 4 hm_rv).own (hS.cC 0 hmb_ov) (by first | with_reducible assumption | (have q := hG.reg; simpa using q)) (by first | omega | with_reducible assumption)) ?_)))))))
 rintro _ w4 (⟨rfl, hz_4, hP4⟩ | ⟨B_4, O_4, C_4, y_4, x_4, rfl, hv_4, hy_4, hx_4, hz_4, hob_4, hP4⟩)
 ·refine ⟨_, rfl, ?_⟩
  have S4 := hS.j0 hP4
  refine vt (W_end (en (Ka (Qd F2)) fun A5 _ F5 => tc H3 fun _ H6 => tb fun _ H7 => (vm (fg0 F5) (wv (V_eqNN V t0 V Try.underlying132) (W_end (en (Ka (Qa F5)) fun A8 _ F8 => tk H7 (cond_t (fg0 F8) (tb fun _ H9 => (vc (W_end (en (Ka F8) fun A10 _ F10 => tk H9 (wp_ret (then_ret (rt1 F10 (rv_tmp (fg0 F10)) ?_))))))))))))))
  rw [wrX_n hz_4, wrI_n hz_4]
  exact ⟨_, O, _, rfl, rfl, (S4.fin5 0 V (hmb_ov) 1 V (hm_ov) 2 V (hmp_ov) 3 V (hmq_ov) 4 V (hm_rv) (by decide))⟩
 refine ⟨_, rfl, ?_⟩
 have S4 := hS.j0 hP4
 have bfn11 := SlN.le (sl_SlN (owl_at (mapE (g := (·.1)) hy_4) (S4.cq 2 hmp_ov)))
 have bfn12 := SlN.le (sl_SlN (owl_at (mapE (g := (·.2)) hy_4) (S4.cq 3 hmq_ov)))
 refine vt (W_end (en (Ka (Qd F2)) fun A13 _ F13 => tc H3 fun _ H14 => tb fun _ H15 => (vm (fg0 F13) (wv (V_eqPN V t0 V Try.underlying132) (W_end (en (Ka (Qa F13)) fun A16 _ F16 => tk H15 (cond_f (fg0 F16) (wp_skip (ta H14 fun _ H17 => (vm (fg1 F16) (rc (Sa (fg2 F16)) (cell_box (v := .int .u64 (x)) (ob_at (S4.ro hb_x)) V) (ni (Sa t0) ?_))))))))))))
 have S19 := S4.se [3, 2, 1, 0, 4] [mq_ov, mp_ov, m_ov, mb_ov, m_rv]
 refine W_stN2 S19 hmq_ov hmp_ov hm_ov hy_4 hv_4 V V V t0 (Sa t0) V (List.getElem?_eq_some_iff.1 hx_4).1 (by kernel_rfl) (fun w18 ca18 cb18 c18 hca18 hcb18 hc18 S18 => ?_)
 replace S18 : St w Y [ca18, cb18, c18, mb_ov, m_rv] w18 := S18
 refine W_end (en (Qc F16) fun A20 _ F20 => ta H17 fun _ H21 => (vc (W_end (en (Ka F20) fun A22 _ F22 => tk H21 (wp_ret (rt1 F22 (rv_tmp (fg0 F22)) ?_))))))
 rw [wrX_k hz_4]
 exact ⟨_, (O.set ((rg rs a - 1).toNat) (y_4.1, (y_4.2.1, y_4.2.2.set ((f).toNat) x))), _, rfl, wr_map V hy_4 hz_4, (S18.fin5 3 V (hmb_ov) 2 V (hc18) 1 V (hcb18) 0 V (hca18) 4 V (hm_rv) (by decide))⟩

set_option maxHeartbeats 4000000 in
theorem kMv1_c {ov : Value} {O : List Ob} {rv : Value} {rs : List Int} {gov : Nat} {b : Int} {gb : Nat} {a : Int} {ga : Nat} {w : World} {Y : Nat → Prop} (hb_b : Ro w Y (bx gb 3 #[.int .i64 b])) (hb_a : Ro w Y (bx ga 3 #[.int .i64 a])) (hS : St w Y [bx gov 36 #[ov, rv], ro 2 obC ov O, owl .i64 (O.map (·.1)), owl .u64 (O.map (·.2)), io .i64 rv rs] w) (ha : 0 ≤ a ∧ a < (rs.length : Int)) (hb : 0 ≤ b ∧ b < (rs.length : Int)) :
  Calls Try.prog 74 #[.pointer (some ⟨gov, 0, none⟩), .pointer (some ⟨gb, 0, none⟩), .pointer (some ⟨ga, 0, none⟩)] w fun e w' => ∃ hv H qv, e = .returned (.int .i64 0) ∧ (H.map ab = (O.map ab)) ∧ St w Y [bx gov 36 #[hv, qv], ro 2 obC hv H, owl .i64 (H.map (·.1)), owl .u64 (H.map (·.2)), io .i64 (qv) (rs.set a.toNat (rg rs b))] w' := by
 refine calls_in 18 Try.func74 V V (by simp) (fun A0 Y0 hdf0 hargs => ?_)
 have l0_0 := hargs 0 (.pointer (some ⟨gov, 0, none⟩)) V
 have l1_0 := hargs 1 (.pointer (some ⟨gb, 0, none⟩)) V
 have l2_0 := hargs 2 (.pointer (some ⟨ga, 0, none⟩)) V
 clear hargs; replace Y0 : SzN A0 18 := ⟨Y0⟩
 obtain ⟨mb_ov, m_ov, mp_ov, mq_ov, m_rv, hmb_ov, hm_ov, hmp_ov, hmq_ov, hm_rv, hS⟩ := gen5 hS
 have bm_ov := SlN.le (ow_at (hS.cq 1 hm_ov))
 have bm_rv := SlN.le (ow_at (hS.cq 4 hm_rv))
 refine tb fun _ H1 => (vc (W_end (en (((((cq1 (FS.n hdf0) V)).c ((es V l0_0))).c ((es V l1_0))).c ((Sa l2_0))) fun A2 _ F2 => tc H1 fun _ H3 => region_monoS 13 14 [] (by kernel_rfl) (by kernel_rfl) (dm (fg2 F2) (dn t0 (df 1 t0 (dr (fun _ hx _ => (urc t0 (cell_box (v := rv) ((hS.grow hx).ob 0 hmb_ov) V))) (dr (fun _ hx _ => (urc (Sd (fg0 F2)) (cell_box (v := .int .i64 (a)) (ob_at ((hS.grow hx).ro hb_a)) V))) (dm (Se (fg2 F2)) (dn t0 (df 1 t0 (dr (fun _ hx _ => (urc t0 (cell_box (v := rv) ((hS.grow hx).ob 0 hmb_ov) V))) (dr (fun _ hx _ => (urc (Sh (Sa (fg1 F2))) (cell_box (v := .int .i64 (b)) (ob_at ((hS.grow hx).ro hb_b)) V))) ?_)))))))))))))
 have k4 : b.toNat < rs.length := by first | omega | (simp only [List.length_cons, List.length_nil]; omega) | (simp only [List.length_set]; omega) | decide
 obtain ⟨y4, hy4⟩ := get_some (xs := rs) (k := b.toNat) k4
 obtain ⟨B4, O4, C4, hv4⟩ := (SlN.blk (ow_at (hS.chq 4 rfl hm_rv)) (by first | omega | (simp only [List.length_cons, List.length_nil]; omega) | (simp only [List.length_set]; omega) | decide))
 refine dv (V_ixS (off := O4 + b.toNat) 1 b.toNat V (Sa t0) t0 hv4 (by omega) k4 Try.underlying25 (by kernel_rfl) (congrArg _ (Nat.mul_one _))) (dr (fun _ hx _ => (urc t0 ((ow_at ((hS.grow hx).cq 4 hm_rv)).cell hv4 (map_get hy4)))) ?_)
 have k5 : a.toNat < rs.length := by first | omega | (simp only [List.length_cons, List.length_nil]; omega) | (simp only [List.length_set]; omega) | decide
 obtain ⟨y5, hy5⟩ := get_some (xs := rs) (k := a.toNat) k5
 refine dv (V_ixS (off := O4 + a.toNat) 1 a.toNat V (Sh t0) (Sg t0) hv4 (by omega) k5 Try.underlying25 (by kernel_rfl) (congrArg _ (Nat.mul_one _))) (D_eff V (ZS_eff hS V V (fun s6 hJ6 hL6 hF6 => ?_)))
 have S6 := hJ6.st; clear hF6 hJ6 hL6
 generalize s6.1 = w6 at *
 replace S6 : St w Y [mb_ov, m_ov, mp_ov, mq_ov, m_rv] w6 := S6
 refine W_stE 4 S6 V hm_rv hv4 V V V t0 (Sa t0) (by rfl) V (by first | (simp only [List.length_map]; omega) | omega) (by kernel_rfl) (fun w7 c7 hc7 S7 => ?_)
 replace hc7 : c7 = io .i64 rv (rs.set a.toNat y4) := hc7.trans (by simp [io, bo, List.map_set] <;> rfl)
 replace S7 : St w Y [mb_ov, m_ov, mp_ov, mq_ov, c7] w7 := S7
 refine W_end (Qo_normal (en (Qe (Qh F2)) fun A8 _ F8 => ta H3 fun _ H9 => (vc (W_end (en (Ka F8) fun A10 _ F10 => tk H9 (wp_ret (rt1 F10 (rv_tmp (fg0 F10)) ?_)))))))
 exact ⟨_, O, _, rfl, rfl, (S7.fin5 0 V (hmb_ov) 1 V (hm_ov) 2 V (hmp_ov) 3 V (hmq_ov) 4 V (hc7.trans (by rw [rg_at hy4])) (by decide))⟩

set_option maxHeartbeats 4000000 in
theorem kCl1_c {ov : Value} {O : List Ob} {rv : Value} {rs : List Int} {gov : Nat} {a : Int} {ga : Nat} {w : World} {Y : Nat → Prop} (hb_a : Ro w Y (bx ga 3 #[.int .i64 a])) (hS : St w Y [bx gov 36 #[ov, rv], ro 2 obC ov O, owl .i64 (O.map (·.1)), owl .u64 (O.map (·.2)), io .i64 rv rs] w) (ha : 0 ≤ a ∧ a < (rs.length : Int)) :
  Calls Try.prog 75 #[.pointer (some ⟨gov, 0, none⟩), .pointer (some ⟨ga, 0, none⟩)] w fun e w' => ∃ hv H qv, e = .returned (.int .i64 0) ∧ (H.map ab = (O.map ab)) ∧ St w Y [bx gov 36 #[hv, qv], ro 2 obC hv H, owl .i64 (H.map (·.1)), owl .u64 (H.map (·.2)), io .i64 (qv) (rs.set a.toNat 0)] w' := by
 refine calls_in 10 Try.func75 V V (by simp) (fun A0 Y0 hdf0 hargs => ?_)
 have l0_0 := hargs 0 (.pointer (some ⟨gov, 0, none⟩)) V
 have l1_0 := hargs 1 (.pointer (some ⟨ga, 0, none⟩)) V
 clear hargs; replace Y0 : SzN A0 10 := ⟨Y0⟩
 obtain ⟨mb_ov, m_ov, mp_ov, mq_ov, m_rv, hmb_ov, hm_ov, hmp_ov, hmq_ov, hm_rv, hS⟩ := gen5 hS
 have bm_ov := SlN.le (ow_at (hS.cq 1 hm_ov))
 have bm_rv := SlN.le (ow_at (hS.cq 4 hm_rv))
 refine tb fun _ H1 => (vc (W_end (en ((((cq1 (FS.n hdf0) V)).c ((es V l0_0))).c ((Sa l1_0))) fun A2 _ F2 => tc H1 fun _ H3 => region_monoS 6 7 [] (by kernel_rfl) (by kernel_rfl) (dm (fg1 F2) (dn t0 (df 1 t0 (dr (fun _ hx _ => (urc t0 (cell_box (v := rv) ((hS.grow hx).ob 0 hmb_ov) V))) (dr (fun _ hx _ => (urc (Sd (fg0 F2)) (cell_box (v := .int .i64 (a)) (ob_at ((hS.grow hx).ro hb_a)) V))) ?_))))))))
 have k4 : a.toNat < rs.length := by first | omega | (simp only [List.length_cons, List.length_nil]; omega) | (simp only [List.length_set]; omega) | decide
 obtain ⟨y4, hy4⟩ := get_some (xs := rs) (k := a.toNat) k4
 obtain ⟨B4, O4, C4, hv4⟩ := (SlN.blk (ow_at (hS.chq 4 rfl hm_rv)) (by first | omega | (simp only [List.length_cons, List.length_nil]; omega) | (simp only [List.length_set]; omega) | decide))
 refine dv (V_ixS (off := O4 + a.toNat) 1 a.toNat V (Sa t0) t0 hv4 (by omega) k4 Try.underlying25 (by kernel_rfl) (congrArg _ (Nat.mul_one _))) (D_eff V (ZS_eff hS V V (fun s5 hJ5 hL5 hF5 => ?_)))
 have S5 := hJ5.st; clear hF5 hJ5 hL5
 generalize s5.1 = w5 at *
 replace S5 : St w Y [mb_ov, m_ov, mp_ov, mq_ov, m_rv] w5 := S5
 refine W_stE 4 S5 V hm_rv hv4 V V V t0 V (by rfl) V (by first | (simp only [List.length_map]; omega) | omega) (by kernel_rfl) (fun w6 c6 hc6 S6 => ?_)
 replace hc6 : c6 = io .i64 rv (rs.set a.toNat 0) := hc6.trans (by simp [io, bo, List.map_set] <;> rfl)
 replace S6 : St w Y [mb_ov, m_ov, mp_ov, mq_ov, c6] w6 := S6
 refine W_end (Qo_normal (en (Qf F2) fun A7 _ F7 => ta H3 fun _ H8 => (vc (W_end (en (Ka F7) fun A9 _ F9 => tk H8 (wp_ret (rt1 F9 (rv_tmp (fg0 F9)) ?_)))))))
 exact ⟨_, O, _, rfl, rfl, (S6.fin5 0 V (hmb_ov) 1 V (hm_ov) 2 V (hmp_ov) 3 V (hmq_ov) 4 V (hc6) (by decide))⟩

set_option maxHeartbeats 4000000 in
theorem kchG_c {ov : Value} {O : List Ob} {rv : Value} {rs : List Int} {fno : Nat} {caps : Array Value} {fnn : Func} {er : Int} {O2 : List Ab} {R2 : List Int} {nv : Value} {ns : List Int} {w : World} (h_ov : Ro w NoX (rl 2 obC ov O)) (n_ov : Ro w NoX (nst O)) (h_rv : Ro w NoX (il .i64 rv rs)) (h_nv : Ro w NoX (il .i64 nv ns)) (hsm : SM (O.map ab)) (hcf : Try.prog.funcs[fno]? = some fnn) (hcn : (fnn.name == "runtime.NumGoroutine") = false) (hcb : fnn.body.isNone = false) (hcl : ckd (O.map ab) rs ns = 0 → ∀ (W1 : World) (Y1 : Nat → Prop) (g : Nat) (hv : Value) (H : List Ob) (qv : Value), (∀ c : HP, Ro w NoX c → Ro W1 Y1 c) → H.map ab = O.map ab → St W1 Y1 [bx g 36 #[hv, qv], ro 2 obC hv H, owl .i64 (H.map (·.1)), owl .u64 (H.map (·.2)), io .i64 qv rs] W1 → Calls Try.prog fno (#[.pointer (some ⟨g, 0, none⟩)] ++ caps) W1 fun e w' => ∃ hv' H' qv', e = .returned (.int .i64 er) ∧ (H'.map ab = O2) ∧ St W1 Y1 [bx g 36 #[hv', qv'], ro 2 obC hv' H', owl .i64 (H'.map (·.1)), owl .u64 (H'.map (·.2)), io .i64 qv' R2] w') :
  Calls Try.prog 68 #[.agg #[ov, rv], .func (.func fno) #[] caps, nv] w fun e w' => ∃ hv H qv, e = .returned (.tuple #[.agg #[hv, qv], .int .i64 (chE (O.map ab) rs ns er)]) ∧ (H.map ab = (chO (O.map ab) rs ns er O2)) ∧ St w NoX [ro 2 obC hv H, owl .i64 (H.map (·.1)), owl .u64 (H.map (·.2)), io .i64 (qv) (chR (O.map ab) rs ns er R2)] w' := by
 refine calls_in 51 Try.func68 V V (by simp) (fun A0 hsz0 hdf0 hargs => ?_)
 have l0_0 := hargs 0 (.agg #[ov, rv]) V
 have l1_0 := hargs 1 (.func (.func fno) #[] caps) V
 have l2_0 := hargs 2 nv V
 clear hargs; replace hsz0 : SzN A0 51 := ⟨hsz0⟩
 have hS := St.nil w
 have bh_ov := SlN.le (sl_SlN h_ov.at)
 have bh_rv := SlN.le (sl_SlN h_rv.at)
 have bh_nv := SlN.le (sl_SlN h_nv.at)
 refine tb fun _ H1 => (wB (#[ov, rv]) hS l0_0 (fun g2 w2 c2 hc2 S2 => wA (#[.slice none 0 0, .slice none 0 0]) S2 (fun g3 w3 c3 hc3 S3 => vc (W_end (en ((((cq1 (ck (ck (FS.n hdf0) V V) V V) V)).c ((es3 V l1_0))).c ((Sc l2_0))) fun A4 _ F4 => tc H1 fun _ H5 => tb fun _ H6 => (ra (fg3 F4) (S3.ob 1 hc2) (vm (Sa (fg0 F4)) (W_call V V V Try.func38 (by kernel_rfl) V (args2 (Sa t0) t0) (kcd_c (S3.roC h_ov) (S3.roC n_ov) (S3.roC h_rv) (S3.roC h_nv)) ?_))))))))
 rintro _ w7 ⟨rfl, hP7⟩
 refine ⟨_, rfl, ?_⟩
 have S7 := S3.j0 hP7
 refine vt (W_end (en (Ka (Qc F4)) fun A8 _ F8 => ta H6 fun _ H9 => (vm (fg0 F8) (vn t0 V (W_end (en (Ka (Qa F8)) fun A10 _ F10 => tk H9 (cd (fg0 F10) (fun c11 => ?_) fun c11 => ?_)))))))
 ·have hcd : ckd (O.map ab) rs ns ≠ 0 := by simpa using c11
  refine tb fun _ H12 => (wv (xbS (n := 2) (z := .agg #[.slice none 0 0, .slice none 0 0]) V parts0) (vm (Sa (fg1 F10)) (xsA0 S7 hc3 V V V (Sb (fg4 F10)) (Sa t0) (fun w13 c13 hc13 S13 => vt (W_end (en (Ka (Qb F10)) fun A14 _ F14 => ?_))))))
  have S15 := S13.se [0] [c13]
  refine tk H12 (wp_ret (then_ret (rt2 F14 (rvA (fg5 F14) (S15.ob 0 hc13)) (rv_tmp (fg0 F14)) ?_)))
  obtain ⟨c16, hc16, S16⟩ := S15.pnil (s := 2)
  replace hc16 : c16 = ro 2 obC (.slice none 0 0) ([] : List Ob) := hc16
  obtain ⟨c17, cb17, hc17, hcb17, S17⟩ := gen2 (nst_nils S16)
  obtain ⟨c18, hc18, S18⟩ := S17.pnil (s := 1)
  have h := ch_ck (er := er) (O2 := O2) (R2 := R2) hcd
  rw [h.1, h.2.1]
  exact ⟨_, ([] : List Ob), _, rfl, rfl, (S18.fin4 3 V (hc16) 1 V (hc17) 2 V (hcb17) 0 V (hc18.trans (by rw [h.2.2] <;> rfl)) (by decide))⟩
 have hcd : ckd (O.map ab) rs ns = 0 := by simpa using c11
 have hG := (ckd_0.1 hcd).1
 have ho4 := hG.o4
 have hr8 := hG.r8
 rw [List.length_map] at ho4
 refine wp_skip (ta H5 fun _ H19 => (fa 1 (fg5 F10) (rL rv t0 (S7.ob 1 hc2) (W_call V V V Try.func28 (by kernel_rfl) V (args1 t0) (kcl_c (S7.roC h_rv) (by first | omega | with_reducible assumption)) ?_))))
 rintro _ w20 ⟨v_20, rfl, hP20⟩
 refine ⟨_, rfl, ?_⟩
 obtain ⟨c_20, hc_20, hP20⟩ := gen1 hP20
 have S20 := S7.j1 hP20
 refine wv (xbT (n := 2) (z := .agg #[.slice none 0 0, .slice none 0 0]) V (parts1 t0) (by simp only [List.all_cons, List.all_nil, SlN_one (ow_at (S20.cq 0 hc_20)), Bool.and_true] <;> rfl)) (wA (#[.slice none 0 0, .slice none 0 0]) S20 (fun g21 w21 c21 hc21 S21 => xsB0 S21 hc21 V V V t0 (Sa t0) (by simp only [List.all_toArray, List.all_cons, List.all_nil, obC, SlN_one (ow_at (S21.cq 1 hc_20))] <;> rfl) (fun w22 c22 hc22 S22 => W_end (en (Ka (Qd F10)) fun A23 _ F23 => tc H19 fun _ H24 => tb fun _ H25 => (fa 0 (fg6 F23) (rL ov t0 (S22.ob 3 hc2) (le_ t0 (sl_SlN h_ov.at) (vm V (W_end (en (Kc (Qa F23)) fun A26 hsz26 F26 => ?_))))))))))
 have S27 := S22.se [0, 1, 2] [c22, c_20, c3]
 refine tk H25 (wp_block ?_)
 obtain ⟨c28, hc28, S28⟩ := S27.pnil (s := 2)
 replace hc28 : c28 = ro 2 obC (.slice none 0 0) ([] : List Ob) := hc28
 obtain ⟨c29, cb29, hc29, hcb29, S29⟩ := gen2 (nst_nils S28)
 -- loop 6
 refine loopX (fun mz A' w' => SzN A' 51 ∧ A'.defers = [] ∧ (∃ (k : Nat) (hv : Value) (H : List Ob), (mz = O.length - k) ∧ (k ≤ O.length) ∧ (H.map ab = (O.map ab).take k) ∧ (EV A' (.tmp 27) = .int .i64 (k : Int)) ∧ (EV A' (.tmp 1) = EV A26 (.tmp 1)) ∧ (EV A' (.tmp 6) = EV A26 (.tmp 6)) ∧ (EV A' (.tmp 9) = EV A26 (.tmp 9)) ∧ (EV A' (.tmp 25) = EV A26 (.tmp 25)) ∧ (EV A' (.tmp 26) = EV A26 (.tmp 26)) ∧ (St w NoX [owl .i64 (H.map (·.1)), owl .u64 (H.map (·.2)), ro 2 obC hv H, bx g21 36 #[hv, v_20], io .i64 v_20 rs, bx g3 36 #[.slice none 0 0, .slice none 0 0]] w'))) (O.length - 0) ⟨hsz26, F26.d, 0, (.slice none 0 0), [], rfl, (by omega), rfl, (((fg0 F26)).trans (by first | rfl | (simp; done) | (congr 1; omega))), rfl, rfl, rfl, rfl, rfl, (by subst hc29 hcb29 hc28 hc22 hc_20 hc3; exact S29)⟩ ?_
 clear S29 hc29 hcb29 hc28 hc22 hc_20 hc3
 rintro n30 A30 w30 ⟨hsz30, hdf30, k, hv, H, hm30, hk, hH, l27_30, u1_30, u6_30, u9_30, u25_30, u26_30, S30⟩
 have l1_30 := u1_30.trans (fg7 F26)
 have l6_30 := u6_30.trans (fg8 F26)
 have l9_30 := u9_30.trans (fg3 F26)
 have l25_30 := u25_30.trans (fg2 F26)
 have l26_30 := u26_30.trans (fg1 F26)
 obtain ⟨c29_30, cb29_30, c28_30, c22_30, c_30, c3_30, hc29_30, hcb29_30, hc28_30, hc22_30, hc_30, hc3_30, S30⟩ := gen6 S30
 refine tb fun _ H31 => (vl l27_30 l26_30 (W_end (en ((((((((ck (FS.n hdf30) V V)).c ((es V l1_30))).c ((es V l6_30))).c ((es V l9_30))).c ((es V l25_30))).c ((es V l26_30))).c ((Sa l27_30))) fun A32 _ F32 => tc H31 fun _ H33 => cd (fg6 F32) (fun c34 => ?_) fun c34 => ?_)))
 ·have hHl := mp_len hH hk
  refine wp_skip (tc H33 fun _ H35 => wp_block (tb fun _ H36 => ?_))
  have k37 : k < O.length := by first | omega | (simp only [List.length_cons, List.length_nil]; omega) | (simp only [List.length_set]; omega) | decide
  obtain ⟨y37, hy37⟩ := get_some (xs := O) (k := k) k37
  have hsy := hsm.at hy37
  obtain ⟨B37, O37, C37, hv37⟩ := (SlN.blk (sl_SlN h_ov.at) (by first | omega | (simp only [List.length_cons, List.length_nil]; omega) | (simp only [List.length_set]; omega) | decide))
  refine wv (V_ixS (off := O37 + k * 2) 2 k V (fg2 F32) (fg0 F32) hv37 (by omega) k37 Try.underlying34 (by kernel_rfl) V) ?_
  have fn38 : Ro w NoX (il .i64 y37.1.1 y37.1.2) := nst_ro1 n_ov hy37
  have bfn38 := SlN.le (sl_SlN (S30.ro fn38))
  have fn39 : Ro w NoX (il .u64 y37.2.1 y37.2.2) := nst_ro2 n_ov hy37
  have bfn39 := SlN.le (sl_SlN (S30.ro fn39))
  refine wr (VR_ldR (ys := obC y37) V t0 (SlN.row obC_len (sl_SlN (S30.ro h_ov)) hv37 hy37 V) Try.underlying68 V (by kernel_rfl)) (wA (#[.slice none 0 0, .slice none 0 0]) S30 (fun g40 w40 c40 hc40 S40 => ?_))
  replace S40 : St w NoX [c40, c29_30, cb29_30, c28_30, c22_30, c_30, c3_30] w40 := S40
  refine xsB0 S40 hc40 V V V t0 (Sa t0) (by simp only [List.all_toArray, List.all_cons, List.all_nil, obC, SlN_one (sl_SlN fn38.at), SlN_one (sl_SlN fn39.at)] <;> rfl) (fun w41 c41 hc41 S41 => W_end (en (Ka (Qb F32)) fun A42 _ F42 => tk H36 (region_monoS 10 11 [none, none, none, none, some (SPv [] (fun _ => fun u l' => ∃ v_s, u = v_s ∧ ∃ c_s, c_s = io .i64 (v_s) y37.1.2 ∧ l' = [c_s]) 4), none, none, some (SPv [] (fun _ => fun u l' => ∃ v_s, u = v_s ∧ ∃ c_s, c_s = io .u64 (v_s) y37.2.2 ∧ l' = [c_s]) 7), none, some (SPv [35, 38] (fun vs => fun u l' => ∃ g_, u = .slice (some ⟨g_, 0, none⟩) 1 1 ∧ ∃ c_, c_ = ro 2 obC (.slice (some ⟨g_, 0, none⟩) 1 1) [(((vs.getD 0 undef), y37.1.2), ((vs.getD 1 undef), y37.2.2))] ∧ l' = [c_]) 9)] (by kernel_rfl) (by kernel_rfl) (df 0 (fg4 F42) (dr (fun _ hx _ => (urc t0 (cell_box (v := hv) ((S41.grow hx).ob 4 hc22_30) V))) (df 0 (Sb (fg0 F42)) (dr (fun _ hx _ => (urc t0 (cell_box (v := y37.1.1) ((S41.grow hx).ob 0 hc41) V))) (D_call (ts := []) (vs := []) (C0 := fun _ => fun u l' => ∃ v_s, u = v_s ∧ ∃ c_s, c_s = io .i64 (v_s) y37.1.2 ∧ l' = [c_s]) (C := fun u l' => ∃ v_s, u = v_s ∧ ∃ c_s, c_s = io .i64 (v_s) y37.1.2 ∧ l' = [c_s]) V V V Try.func28 (by kernel_rfl) V (args1 t0) V V V V (fun sx hx hF => ?_) (fun u43 l43 hu43 => ?_)))))))))
  ·refine (kcl_c ((S41.grow hx).roC fn38) (by first | omega | with_reducible assumption)).mono ?_
   rintro _ _ ⟨v_43, rfl, hz⟩
   exact ⟨_, rfl, _, ⟨_, rfl, _, rfl, rfl⟩, hz⟩
  obtain ⟨v_43, rfl, c_43, hc_43, hl43⟩ := hu43
  refine df 1 (Se (fg0 F42)) (dr (fun _ hx _ => (urc t0 (cell_box (v := y37.2.1) ((S41.grow hx).ob 0 hc41) V))) (D_call (ts := []) (vs := []) (C0 := fun _ => fun u l' => ∃ v_s, u = v_s ∧ ∃ c_s, c_s = io .u64 (v_s) y37.2.2 ∧ l' = [c_s]) (C := fun u l' => ∃ v_s, u = v_s ∧ ∃ c_s, c_s = io .u64 (v_s) y37.2.2 ∧ l' = [c_s]) V V V Try.func29 (by kernel_rfl) V (args1 t0) V V V V (fun sx hx hF => ?_) (fun u44 l44 hu44 => ?_)))
  ·refine (kcu_c ((S41.grow hx).roC fn39) (by first | omega | with_reducible assumption)).mono ?_
   rintro _ _ ⟨v_44, rfl, hz⟩
   exact ⟨_, rfl, _, ⟨_, rfl, _, rfl, rfl⟩, hz⟩
  obtain ⟨v_44, rfl, c_44, hc_44, hl44⟩ := hu44
  refine D_r V V (by kernel_rfl) (fun sx hx hF => by obtain ⟨ll43, ws43, we43, ⟨v_43q, hq43, c_43_, hc_43_, hl43_⟩, hm43, k43, e43⟩ := L.ancF_get (L.ancF_rest hF) (by kernel_rfl); cases hq43; subst hl43_; obtain ⟨ll44, ws44, we44, ⟨v_44q, hq44, c_44_, hc_44_, hl44_⟩, hm44, k44, e44⟩ := L.ancF_get hF (by kernel_rfl); cases hq44; subst hl44_; exact ((V_bldS (n := 2) (z := .agg #[.slice none 0 0, .slice none 0 0]) V (parts2 (es3 V (et V)) (et V)) (by kernel_rfl) (by simp only [List.all_cons, List.all_nil, SlN_one (ow_at ((k43.grow e43).cq 0 hc_43_)), SlN_one (ow_at ((k44.grow e44).cq 0 hc_44_)), Bool.and_true] <;> rfl) (by kernel_rfl) (by simp only [List.foldl_cons, List.foldl_nil, Value.cells, List.setIfInBounds_toArray, List.set_cons_succ, List.set_cons_zero] <;> rfl) : Val _ _ _ _) _)) V V ?_
  have hll45 : [((u43, y37.1.2), (u44, y37.2.2))].length = 1 := rfl
  refine D_lay (ts := [35, 38]) (vs := [u43, u44]) (C0 := fun vs => fun u l' => ∃ g_, u = .slice (some ⟨g_, 0, none⟩) 1 1 ∧ ∃ c_, c_ = ro 2 obC (.slice (some ⟨g_, 0, none⟩) 1 1) [(((vs.getD 0 undef), y37.1.2), ((vs.getD 1 undef), y37.2.2))] ∧ l' = [c_]) (C := fun u l' => ∃ g_, u = .slice (some ⟨g_, 0, none⟩) 1 1 ∧ ∃ c_, c_ = ro 2 obC (.slice (some ⟨g_, 0, none⟩) 1 1) [((u43, y37.1.2), (u44, y37.2.2))] ∧ l' = [c_]) V V V V (ts2 (Sd t0) (Sa t0)) V (fun sx hx hF => lay_lit (vs := [.agg #[u43, u44]]) 2 V (parts1 t0) V Try.underlying34 (by kernel_rfl) (by decide) (by intro v hv; simp only [List.mem_cons, List.not_mem_nil, or_false] at hv; rcases hv with rfl <;> rfl) (by rfl)) (fun u45 l45 hu45 => ?_)
  obtain ⟨g45, rfl, c45, hc45, hl45⟩ := hu45
  refine D_eff V (ZS_eff S41 V V (fun s46 hJ46 hL46 hF46 => ?_))
  obtain ⟨ll43, ws43, we43, ⟨v_43q, hq43, c_43r, hc_43r, hl43r⟩, hm43, k43, e43⟩ := L.all_get (L.all_rest (L.all_rest hF46)); cases hq43; subst hl43r
  replace hJ46 := hJ46.add hL46 (i := 4) V hm43 k43 e43
  obtain ⟨ll44, ws44, we44, ⟨v_44q, hq44, c_44r, hc_44r, hl44r⟩, hm44, k44, e44⟩ := L.all_get (L.all_rest hF46); cases hq44; subst hl44r
  replace hJ46 := hJ46.add hL46 (i := 7) V hm44 k44 e44
  obtain ⟨ll45, ws45, we45, ⟨g45q, hq45, c45r, hc45r, hl45r⟩, hm45, k45, e45⟩ := L.all_get hF46; cases hq45; subst hl45r
  replace hJ46 := hJ46.add hL46 (i := 9) V hm45 k45 e45
  have S46 := hJ46.st; clear hF46 hJ46 hL46
  generalize s46.1 = w46 at *
  replace S46 : St w NoX [c45r, c_44r, c_43r, c41, c29_30, cb29_30, c28_30, c22_30, c_30, c3_30] w46 := S46
  refine W_appS 2 6 S46 V hc28_30 V V V (Sh t0) t0 Try.underlying34 Try.underlying34 (z := .agg #[.slice none 0 0, .slice none 0 0]) (bytes := 48) (by kernel_rfl) V (by decide) (ow_at (S46.cq 0 hc45r)) (by intro u hu; simp only [List.flatMap_cons, List.flatMap_nil, obC, List.append_nil, List.cons_append, List.nil_append, List.mem_cons, List.not_mem_nil, or_false] at hu; rcases hu with rfl | rfl <;> first | exact SlN_one (ow_at (S46.cq 2 hc_43r)) | exact SlN_one (ow_at (S46.cq 1 hc_44r))) (by first | omega | (simp; done) | (simp; omega)) (by first | omega | (simp; done) | (simp; omega)) (fun v47 w47 c47 hc47 S47 => ?_)
  replace hc47 : c47 = ro 2 obC v47 (H ++ [((u43, y37.1.2), (u44, y37.2.2))]) := hc47.trans (app_eqR (by first | (simp; done) | (rw [List.take_of_length_le (l := List.drop _ _) (by rw [List.length_drop]; exact Nat.le_refl _)])))
  replace S47 : St w NoX [c45r, c_44r, c_43r, c41, c29_30, cb29_30, c47, c22_30, c_30, c3_30] w47 := S47
  have S48 := S47.se [2, 4, 1, 5, 0, 3, 6, 7, 8, 9] [c_43r, c29_30, c_44r, cb29_30, c45r, c41, c47, c22_30, c_30, c3_30]
  rw [hc_43r, hc29_30, hc_44r, hcb29_30] at S48
  obtain ⟨c49, cb49, hc49, hcb49, S49⟩ := gen2 (nst_push (pv := u43) (ps := y37.1.2) (qv := u44) (qs := y37.2.2) (O := H) S48)
  replace hc49 : c49 = owl .i64 ((H ++ [((u43, y37.1.2), (u44, y37.2.2))]).map (·.1)) := hc49
  replace hcb49 : cb49 = owl .u64 ((H ++ [((u43, y37.1.2), (u44, y37.2.2))]).map (·.2)) := hcb49
  refine fa 0 (Sh (Sc (fg4 F42))) (xsC5 (zs' := #[v47, v_20]) S49 hc22_30 V V V t0 (Sa t0) (SlN_one (ow_at (S49.cq 4 hc47))) (fun w50 c50 hc50 S50 => W_end (Qo_normal (en (Qd (Qh F42)) fun A51 _ F51 => ?_))))
  have S52 := S50.se [0, 1, 4, 5, 6, 7] [c49, cb49, c47, c50, c_30, c3_30]
  refine inb_n (tk H35 (region_in (ad (fg1 F51) V (vm t0 (W_end (en (Ka (Qa (fx1 F51))) fun A53 hsz53 F53 => then_n ⟨O.length - (k + 1), by simp only [hm30]; omega, hsz53, F53.d, (k + 1), v47, (H ++ [((u43, y37.1.2), (u44, y37.2.2))]), rfl, (by omega), (mp_snoc hH hy37 V), (((fg0 F53)).trans (by first | rfl | (simp; done) | (congr 1; omega))), (((fg6 F53)).trans (fg7 F26).symm), (((fg5 F53)).trans (fg8 F26).symm), (((fg4 F53)).trans (fg3 F26).symm), (((fg3 F53)).trans (fg2 F26).symm), (((fg2 F53)).trans (fg1 F26).symm), (by subst hc49 hcb49 hc47 hc50 hc_30 hc3_30; exact S52)⟩))))))
 have hHO := mp_done hH (by omega)
 have hHl := mp_lenE hHO
 rw [List.length_map] at hHl
 refine wp_exit (then_exit (then_exit (inb_hit (tc H24 fun _ H54 => tb fun _ H55 => (vm (fg5 F32) ?_)))))
 have S56 := S30.se [3, 2, 0, 1, 4, 5] [c22_30, c28_30, c29_30, cb29_30, c_30, c3_30]
 obtain ⟨Y57, hP57, hR57, hF57, hB57⟩ := St.call (pre := [c22_30, c28_30, c29_30, cb29_30, c_30]) (fr := [c3_30]) S56
 rw [hc22_30, hc28_30, hc29_30, hcb29_30, hc_30] at hP57
 refine W_callV V V V t0 hcf hcn hcb (args1 (Sa (fg3 F32))) (hcl hcd _ _ _ _ _ _ hR57 hHO hP57) ?_
 rintro _ w58 ⟨hv_58, H_58, qv_58, rfl, hH_58, hP58⟩
 refine ⟨_, rfl, ?_⟩
 obtain ⟨cB_58, cR_58, cP_58, cQ_58, cG_58, hcB_58, hcR_58, hcP_58, hcQ_58, hcG_58, hP58⟩ := gen5 hP58
 have S58 := (hB57 _ _ hP58).a5
 refine vt (W_end (en (Ka (Qb F32)) fun A59 _ F59 => ta H55 fun _ H60 => (vm (fg0 F59) (vn t0 V (W_end (en (Ka (Qa F59)) fun A61 _ F61 => tk H60 (cd (fg0 F61) (fun c62 => ?_) fun c62 => ?_)))))))
 ·refine tb fun _ H63 => (wv (xbS (n := 2) (z := .agg #[.slice none 0 0, .slice none 0 0]) V parts0) (vm (Sa (fg1 F61)) (xsA5 S58 hc3_30 V V V (Sb (fg6 F61)) (Sa t0) (fun w64 c64 hc64 S64 => vt (W_end (en (Ka (Qb F61)) fun A65 _ F65 => ?_))))))
  have S66 := S64.se [5] [c64]
  refine tk H63 (wp_ret (then_ret (rt2 F65 (rvA (fg7 F65) (S66.ob 0 hc64)) (rv_tmp (fg0 F65)) ?_)))
  obtain ⟨c67, hc67, S67⟩ := S66.pnil (s := 2)
  replace hc67 : c67 = ro 2 obC (.slice none 0 0) ([] : List Ob) := hc67
  obtain ⟨c68, cb68, hc68, hcb68, S68⟩ := gen2 (nst_nils S67)
  obtain ⟨c69, hc69, S69⟩ := S68.pnil (s := 1)
  have h := ch_er (O2 := O2) (R2 := R2) hcd (by simpa using c62)
  rw [h.1, h.2.1]
  exact ⟨_, ([] : List Ob), _, rfl, rfl, (S69.fin4 3 V (hc67) 1 V (hc68) 2 V (hcb68) 0 V (hc69.trans (by rw [h.2.2] <;> rfl)) (by decide))⟩
 refine wp_skip (ta H54 fun _ H70 => (ra (fg5 F61) (S58.ob 0 hcB_58) (xsB5 S58 hc3_30 V V V (Sa (fg6 F61)) t0 (by simp only [List.all_toArray, List.all_cons, List.all_nil, obC, SlN_one (ow_at (S58.cq 1 hcR_58)), SlN_one (ow_at (S58.cq 4 hcG_58))] <;> rfl) (fun w71 c71 hc71 S71 => vc (W_end (en (Ka (Qa F61)) fun A72 _ F72 => ?_))))))
 have S73 := S71.se [1, 2, 3, 4, 5] [cR_58, cP_58, cQ_58, cG_58, c71]
 refine tk H70 (wp_ret (rt2 F72 (rvA (fg7 F72) (S73.ob 4 hc71)) (rv_tmp (fg0 F72)) ?_))
 have h := ch_ok (O2 := O2) (R2 := R2) hcd (by simpa using c62)
 rw [h.1, h.2.1]
 exact ⟨_, H_58, _, rfl, hH_58, (S73.fin4 0 V (hcR_58) 1 V (hcP_58) 2 V (hcQ_58) 3 V (hcG_58.trans (by rw [h.2.2] <;> rfl)) (by decide))⟩

set_option maxHeartbeats 4000000 in
theorem kchAlloc_c {ov : Value} {O : List Ob} {rv : Value} {rs : List Int} {p : Int} {gp : Nat} {r : Int} {gr : Nat} {a : Int} {ga : Nat} {nv : Value} {ns : List Int} {w : World} (h_ov : Ro w NoX (rl 2 obC ov O)) (n_ov : Ro w NoX (nst O)) (h_rv : Ro w NoX (il .i64 rv rs)) (hb_p : Ro w NoX (bx gp 3 #[.int .i64 p])) (hb_r : Ro w NoX (bx gr 3 #[.int .i64 r])) (hb_a : Ro w NoX (bx ga 3 #[.int .i64 a])) (h_nv : Ro w NoX (il .i64 nv ns)) (hsm : SM (O.map ab)) (hns : ns = [a]) :
  Calls Try.prog 68 #[.agg #[ov, rv], .func (.func 82) #[] #[.pointer (some ⟨gp, 0, none⟩), .pointer (some ⟨gr, 0, none⟩), .pointer (some ⟨ga, 0, none⟩)], nv] w fun e w' => ∃ hv H qv, e = .returned (.tuple #[.agg #[hv, qv], .int .i64 (alE (O.map ab) rs a p r)]) ∧ (H.map ab = (alO (O.map ab) rs a p r)) ∧ St w NoX [ro 2 obC hv H, owl .i64 (H.map (·.1)), owl .u64 (H.map (·.2)), io .i64 (qv) (alR (O.map ab) rs a p r)] w' := by
 subst hns
 have hall : ckd (O.map ab) rs [a] = 0 → GG (O.map ab) rs ∧ (0 ≤ a ∧ a < (rs.length : Int)) := fun hcd => ⟨(ckd_0.1 hcd).1, (ckd_0.1 hcd).2 a (by simp)⟩
 refine (kchG_c (caps := #[.pointer (some ⟨gp, 0, none⟩), .pointer (some ⟨gr, 0, none⟩), .pointer (some ⟨ga, 0, none⟩)]) h_ov n_ov h_rv h_nv hsm Try.func82 (by kernel_rfl) V (er := alX p r (O.map ab).length) (O2 := alI p r (O.map ab)) (R2 := alJ a p r (O.map ab) rs) (fun hcd W1 Y1 g hv H qv hR hHO hP => ?_)).mono ?_
 ·obtain ⟨hG, hab⟩ := hall hcd
  have hr8 := hG.r8
  have ho4 := hG.o4
  have hHl := congrArg List.length hHO
  rw [List.length_map, List.length_map] at hHl
  rw [List.length_map] at ho4
  have hrg0 : ∀ p ∈ rs, 0 ≤ p ∧ p ≤ (O.length : Int) := fun p hp => by have q := hG.reg p hp; rw [List.length_map] at q; exact q
  have hrg : ∀ p ∈ rs, 0 ≤ p ∧ p ≤ (H.length : Int) := fun p hp => by rw [hHl]; exact hrg0 p hp
  have ha := (ckd_0.1 hcd).2 a (by simp)
  refine (kAl1_c (hR _ hb_p) (hR _ hb_r) (hR _ hb_a) hP (by first | omega | with_reducible assumption | simpa using hrg) (by first | omega | with_reducible assumption | simpa using hrg)).mono ?_
  rintro e w' ⟨hv', H', qv', rfl, h1, h2⟩
  try rw [hHO] at h1
  try rw [hHO] at h2
  try rw [hHO]
  exact ⟨hv', H', qv', rfl, h1, h2⟩
 rintro e w' ⟨hv, H, qv, rfl, h1, h2⟩
 obtain ⟨q1, q2, q3⟩ := ch_al (O := (O.map ab)) (rs := rs) (p := p) (r := r) (a := a)
 rw [q2] at h1
 rw [q3] at h2
 rw [q1]
 exact ⟨hv, H, qv, rfl, h1, h2⟩

set_option maxHeartbeats 4000000 in
theorem kchLoad_c {ov : Value} {O : List Ob} {rv : Value} {rs : List Int} {b : Int} {gb : Nat} {f : Int} {gf : Nat} {a : Int} {ga : Nat} {nv : Value} {ns : List Int} {w : World} (h_ov : Ro w NoX (rl 2 obC ov O)) (n_ov : Ro w NoX (nst O)) (h_rv : Ro w NoX (il .i64 rv rs)) (hb_b : Ro w NoX (bx gb 3 #[.int .i64 b])) (hb_f : Ro w NoX (bx gf 3 #[.int .i64 f])) (hb_a : Ro w NoX (bx ga 3 #[.int .i64 a])) (h_nv : Ro w NoX (il .i64 nv ns)) (hsm : SM (O.map ab)) (hns : ns = [a, b]) :
  Calls Try.prog 68 #[.agg #[ov, rv], .func (.func 69) #[] #[.pointer (some ⟨gb, 0, none⟩), .pointer (some ⟨gf, 0, none⟩), .pointer (some ⟨ga, 0, none⟩)], nv] w fun e w' => ∃ hv H qv, e = .returned (.tuple #[.agg #[hv, qv], .int .i64 (ptE (O.map ab) rs [a, b] b f)]) ∧ (H.map ab = (ldO (O.map ab) rs a b f)) ∧ St w NoX [ro 2 obC hv H, owl .i64 (H.map (·.1)), owl .u64 (H.map (·.2)), io .i64 (qv) (ldR (O.map ab) rs a b f)] w' := by
 subst hns
 have hall : ckd (O.map ab) rs [a, b] = 0 → GG (O.map ab) rs ∧ (0 ≤ a ∧ a < (rs.length : Int)) ∧ (0 ≤ b ∧ b < (rs.length : Int)) := fun hcd => ⟨(ckd_0.1 hcd).1, (ckd_0.1 hcd).2 a (by simp), (ckd_0.1 hcd).2 b (by simp)⟩
 refine (kchG_c (caps := #[.pointer (some ⟨gb, 0, none⟩), .pointer (some ⟨gf, 0, none⟩), .pointer (some ⟨ga, 0, none⟩)]) h_ov n_ov h_rv h_nv hsm Try.func69 (by kernel_rfl) V (er := ldX (O.map ab) rs b f) (O2 := (O.map ab)) (R2 := ldJ (O.map ab) rs a b f) (fun hcd W1 Y1 g hv H qv hR hHO hP => ?_)).mono ?_
 ·obtain ⟨hG, hab⟩ := hall hcd
  have hr8 := hG.r8
  have ho4 := hG.o4
  have hHl := congrArg List.length hHO
  rw [List.length_map, List.length_map] at hHl
  rw [List.length_map] at ho4
  have hrg0 : ∀ p ∈ rs, 0 ≤ p ∧ p ≤ (O.length : Int) := fun p hp => by have q := hG.reg p hp; rw [List.length_map] at q; exact q
  have hrg : ∀ p ∈ rs, 0 ≤ p ∧ p ≤ (H.length : Int) := fun p hp => by rw [hHl]; exact hrg0 p hp
  have ha := (ckd_0.1 hcd).2 a (by simp)
  have hb := (ckd_0.1 hcd).2 b (by simp)
  refine (kLd1_c (hR _ hb_b) (hR _ hb_f) (hR _ hb_a) hP (by first | omega | with_reducible assumption | simpa using hrg) (by first | omega | with_reducible assumption | simpa using hrg) (by first | omega | with_reducible assumption | simpa using hrg)).mono ?_
  rintro e w' ⟨hv', H', qv', rfl, h1, h2⟩
  try rw [hHO] at h1
  try rw [hHO] at h2
  try rw [hHO]
  exact ⟨hv', H', qv', rfl, h1, h2⟩
 rintro e w' ⟨hv, H, qv, rfl, h1, h2⟩
 obtain ⟨q1, q2, q3⟩ := ch_ld (O := (O.map ab)) (rs := rs) (f := f) (a := a) (b := b)
 rw [q2] at h1
 rw [q3] at h2
 rw [q1]
 exact ⟨hv, H, qv, rfl, h1, h2⟩

set_option maxHeartbeats 4000000 in
theorem kchStore_c {ov : Value} {O : List Ob} {rv : Value} {rs : List Int} {a : Int} {ga : Nat} {f : Int} {gf : Nat} {b : Int} {gb : Nat} {nv : Value} {ns : List Int} {w : World} (h_ov : Ro w NoX (rl 2 obC ov O)) (n_ov : Ro w NoX (nst O)) (h_rv : Ro w NoX (il .i64 rv rs)) (hb_a : Ro w NoX (bx ga 3 #[.int .i64 a])) (hb_f : Ro w NoX (bx gf 3 #[.int .i64 f])) (hb_b : Ro w NoX (bx gb 3 #[.int .i64 b])) (h_nv : Ro w NoX (il .i64 nv ns)) (hsm : SM (O.map ab)) (hns : ns = [a, b]) :
  Calls Try.prog 68 #[.agg #[ov, rv], .func (.func 71) #[] #[.pointer (some ⟨ga, 0, none⟩), .pointer (some ⟨gf, 0, none⟩), .pointer (some ⟨gb, 0, none⟩)], nv] w fun e w' => ∃ hv H qv, e = .returned (.tuple #[.agg #[hv, qv], .int .i64 (ptE (O.map ab) rs [a, b] a f)]) ∧ (H.map ab = (soO (O.map ab) rs a f b)) ∧ St w NoX [ro 2 obC hv H, owl .i64 (H.map (·.1)), owl .u64 (H.map (·.2)), io .i64 (qv) (soR (O.map ab) rs a f b)] w' := by
 subst hns
 have hall : ckd (O.map ab) rs [a, b] = 0 → GG (O.map ab) rs ∧ (0 ≤ a ∧ a < (rs.length : Int)) ∧ (0 ≤ b ∧ b < (rs.length : Int)) := fun hcd => ⟨(ckd_0.1 hcd).1, (ckd_0.1 hcd).2 a (by simp), (ckd_0.1 hcd).2 b (by simp)⟩
 refine (kchG_c (caps := #[.pointer (some ⟨ga, 0, none⟩), .pointer (some ⟨gf, 0, none⟩), .pointer (some ⟨gb, 0, none⟩)]) h_ov n_ov h_rv h_nv hsm Try.func71 (by kernel_rfl) V (er := ldX (O.map ab) rs a f) (O2 := soI (O.map ab) rs a f b) (R2 := rs) (fun hcd W1 Y1 g hv H qv hR hHO hP => ?_)).mono ?_
 ·obtain ⟨hG, hab⟩ := hall hcd
  have hr8 := hG.r8
  have ho4 := hG.o4
  have hHl := congrArg List.length hHO
  rw [List.length_map, List.length_map] at hHl
  rw [List.length_map] at ho4
  have hrg0 : ∀ p ∈ rs, 0 ≤ p ∧ p ≤ (O.length : Int) := fun p hp => by have q := hG.reg p hp; rw [List.length_map] at q; exact q
  have hrg : ∀ p ∈ rs, 0 ≤ p ∧ p ≤ (H.length : Int) := fun p hp => by rw [hHl]; exact hrg0 p hp
  have ha := (ckd_0.1 hcd).2 a (by simp)
  have hb := (ckd_0.1 hcd).2 b (by simp)
  refine (kSo1_c (hR _ hb_a) (hR _ hb_f) (hR _ hb_b) hP (by first | omega | with_reducible assumption | simpa using hrg) (by first | omega | with_reducible assumption | simpa using hrg) (by first | omega | with_reducible assumption | simpa using hrg)).mono ?_
  rintro e w' ⟨hv', H', qv', rfl, h1, h2⟩
  try rw [hHO] at h1
  try rw [hHO] at h2
  try rw [hHO]
  exact ⟨hv', H', qv', rfl, h1, h2⟩
 rintro e w' ⟨hv, H, qv, rfl, h1, h2⟩
 obtain ⟨q1, q2, q3⟩ := ch_so (O := (O.map ab)) (rs := rs) (f := f) (a := a) (b := b)
 rw [q2] at h1
 rw [q3] at h2
 rw [q1]
 exact ⟨hv, H, qv, rfl, h1, h2⟩

set_option maxHeartbeats 4000000 in
theorem kchWrite_c {ov : Value} {O : List Ob} {rv : Value} {rs : List Int} {a : Int} {ga : Nat} {f : Int} {gf : Nat} {x : Int} {gx : Nat} {nv : Value} {ns : List Int} {w : World} (h_ov : Ro w NoX (rl 2 obC ov O)) (n_ov : Ro w NoX (nst O)) (h_rv : Ro w NoX (il .i64 rv rs)) (hb_a : Ro w NoX (bx ga 3 #[.int .i64 a])) (hb_f : Ro w NoX (bx gf 3 #[.int .i64 f])) (hb_x : Ro w NoX (bx gx 40 #[.int .u64 x])) (h_nv : Ro w NoX (il .i64 nv ns)) (hsm : SM (O.map ab)) (hns : ns = [a]) :
  Calls Try.prog 68 #[.agg #[ov, rv], .func (.func 73) #[] #[.pointer (some ⟨ga, 0, none⟩), .pointer (some ⟨gf, 0, none⟩), .pointer (some ⟨gx, 0, none⟩)], nv] w fun e w' => ∃ hv H qv, e = .returned (.tuple #[.agg #[hv, qv], .int .i64 (rwE (O.map ab) rs [a] a f)]) ∧ (H.map ab = (wrO (O.map ab) rs a f x)) ∧ St w NoX [ro 2 obC hv H, owl .i64 (H.map (·.1)), owl .u64 (H.map (·.2)), io .i64 (qv) (wrR (O.map ab) rs a f)] w' := by
 subst hns
 have hall : ckd (O.map ab) rs [a] = 0 → GG (O.map ab) rs ∧ (0 ≤ a ∧ a < (rs.length : Int)) := fun hcd => ⟨(ckd_0.1 hcd).1, (ckd_0.1 hcd).2 a (by simp)⟩
 refine (kchG_c (caps := #[.pointer (some ⟨ga, 0, none⟩), .pointer (some ⟨gf, 0, none⟩), .pointer (some ⟨gx, 0, none⟩)]) h_ov n_ov h_rv h_nv hsm Try.func73 (by kernel_rfl) V (er := wrX (O.map ab) rs a f) (O2 := wrI (O.map ab) rs a f x) (R2 := rs) (fun hcd W1 Y1 g hv H qv hR hHO hP => ?_)).mono ?_
 ·obtain ⟨hG, hab⟩ := hall hcd
  have hr8 := hG.r8
  have ho4 := hG.o4
  have hHl := congrArg List.length hHO
  rw [List.length_map, List.length_map] at hHl
  rw [List.length_map] at ho4
  have hrg0 : ∀ p ∈ rs, 0 ≤ p ∧ p ≤ (O.length : Int) := fun p hp => by have q := hG.reg p hp; rw [List.length_map] at q; exact q
  have hrg : ∀ p ∈ rs, 0 ≤ p ∧ p ≤ (H.length : Int) := fun p hp => by rw [hHl]; exact hrg0 p hp
  have ha := (ckd_0.1 hcd).2 a (by simp)
  refine (kWr1_c (hR _ hb_a) (hR _ hb_f) (hR _ hb_x) hP (by first | omega | with_reducible assumption | simpa using hrg) (by first | omega | with_reducible assumption | simpa using hrg)).mono ?_
  rintro e w' ⟨hv', H', qv', rfl, h1, h2⟩
  try rw [hHO] at h1
  try rw [hHO] at h2
  try rw [hHO]
  exact ⟨hv', H', qv', rfl, h1, h2⟩
 rintro e w' ⟨hv, H, qv, rfl, h1, h2⟩
 obtain ⟨q1, q2, q3⟩ := ch_wr (O := (O.map ab)) (rs := rs) (f := f) (x := x) (a := a)
 rw [q2] at h1
 rw [q3] at h2
 rw [q1]
 exact ⟨hv, H, qv, rfl, h1, h2⟩

set_option maxHeartbeats 4000000 in
theorem kchMove_c {ov : Value} {O : List Ob} {rv : Value} {rs : List Int} {b : Int} {gb : Nat} {a : Int} {ga : Nat} {nv : Value} {ns : List Int} {w : World} (h_ov : Ro w NoX (rl 2 obC ov O)) (n_ov : Ro w NoX (nst O)) (h_rv : Ro w NoX (il .i64 rv rs)) (hb_b : Ro w NoX (bx gb 3 #[.int .i64 b])) (hb_a : Ro w NoX (bx ga 3 #[.int .i64 a])) (h_nv : Ro w NoX (il .i64 nv ns)) (hsm : SM (O.map ab)) (hns : ns = [a, b]) :
  Calls Try.prog 68 #[.agg #[ov, rv], .func (.func 74) #[] #[.pointer (some ⟨gb, 0, none⟩), .pointer (some ⟨ga, 0, none⟩)], nv] w fun e w' => ∃ hv H qv, e = .returned (.tuple #[.agg #[hv, qv], .int .i64 (ckd (O.map ab) rs [a, b])]) ∧ (H.map ab = (kpO (O.map ab) rs [a, b])) ∧ St w NoX [ro 2 obC hv H, owl .i64 (H.map (·.1)), owl .u64 (H.map (·.2)), io .i64 (qv) (mvR (O.map ab) rs a b)] w' := by
 subst hns
 have hall : ckd (O.map ab) rs [a, b] = 0 → GG (O.map ab) rs ∧ (0 ≤ a ∧ a < (rs.length : Int)) ∧ (0 ≤ b ∧ b < (rs.length : Int)) := fun hcd => ⟨(ckd_0.1 hcd).1, (ckd_0.1 hcd).2 a (by simp), (ckd_0.1 hcd).2 b (by simp)⟩
 refine (kchG_c (caps := #[.pointer (some ⟨gb, 0, none⟩), .pointer (some ⟨ga, 0, none⟩)]) h_ov n_ov h_rv h_nv hsm Try.func74 (by kernel_rfl) V (er := 0) (O2 := (O.map ab)) (R2 := rs.set a.toNat (rg rs b)) (fun hcd W1 Y1 g hv H qv hR hHO hP => ?_)).mono ?_
 ·obtain ⟨hG, hab⟩ := hall hcd
  have hr8 := hG.r8
  have ho4 := hG.o4
  have hHl := congrArg List.length hHO
  rw [List.length_map, List.length_map] at hHl
  rw [List.length_map] at ho4
  have hrg0 : ∀ p ∈ rs, 0 ≤ p ∧ p ≤ (O.length : Int) := fun p hp => by have q := hG.reg p hp; rw [List.length_map] at q; exact q
  have hrg : ∀ p ∈ rs, 0 ≤ p ∧ p ≤ (H.length : Int) := fun p hp => by rw [hHl]; exact hrg0 p hp
  have ha := (ckd_0.1 hcd).2 a (by simp)
  have hb := (ckd_0.1 hcd).2 b (by simp)
  refine (kMv1_c (hR _ hb_b) (hR _ hb_a) hP (by first | omega | with_reducible assumption | simpa using hrg) (by first | omega | with_reducible assumption | simpa using hrg)).mono ?_
  rintro e w' ⟨hv', H', qv', rfl, h1, h2⟩
  try rw [hHO] at h1
  try rw [hHO] at h2
  try rw [hHO]
  exact ⟨hv', H', qv', rfl, h1, h2⟩
 rintro e w' ⟨hv, H, qv, rfl, h1, h2⟩
 obtain ⟨q1, q2, q3⟩ := ch_mv (O := (O.map ab)) (rs := rs)  (a := a) (b := b)
 rw [q2] at h1
 rw [q3] at h2
 rw [q1]
 exact ⟨hv, H, qv, rfl, h1, h2⟩

set_option maxHeartbeats 4000000 in
theorem kchClear_c {ov : Value} {O : List Ob} {rv : Value} {rs : List Int} {a : Int} {ga : Nat} {nv : Value} {ns : List Int} {w : World} (h_ov : Ro w NoX (rl 2 obC ov O)) (n_ov : Ro w NoX (nst O)) (h_rv : Ro w NoX (il .i64 rv rs)) (hb_a : Ro w NoX (bx ga 3 #[.int .i64 a])) (h_nv : Ro w NoX (il .i64 nv ns)) (hsm : SM (O.map ab)) (hns : ns = [a]) :
  Calls Try.prog 68 #[.agg #[ov, rv], .func (.func 75) #[] #[.pointer (some ⟨ga, 0, none⟩)], nv] w fun e w' => ∃ hv H qv, e = .returned (.tuple #[.agg #[hv, qv], .int .i64 (ckd (O.map ab) rs [a])]) ∧ (H.map ab = (kpO (O.map ab) rs [a])) ∧ St w NoX [ro 2 obC hv H, owl .i64 (H.map (·.1)), owl .u64 (H.map (·.2)), io .i64 (qv) (clR (O.map ab) rs a)] w' := by
 subst hns
 have hall : ckd (O.map ab) rs [a] = 0 → GG (O.map ab) rs ∧ (0 ≤ a ∧ a < (rs.length : Int)) := fun hcd => ⟨(ckd_0.1 hcd).1, (ckd_0.1 hcd).2 a (by simp)⟩
 refine (kchG_c (caps := #[.pointer (some ⟨ga, 0, none⟩)]) h_ov n_ov h_rv h_nv hsm Try.func75 (by kernel_rfl) V (er := 0) (O2 := (O.map ab)) (R2 := rs.set a.toNat 0) (fun hcd W1 Y1 g hv H qv hR hHO hP => ?_)).mono ?_
 ·obtain ⟨hG, hab⟩ := hall hcd
  have hr8 := hG.r8
  have ho4 := hG.o4
  have hHl := congrArg List.length hHO
  rw [List.length_map, List.length_map] at hHl
  rw [List.length_map] at ho4
  have hrg0 : ∀ p ∈ rs, 0 ≤ p ∧ p ≤ (O.length : Int) := fun p hp => by have q := hG.reg p hp; rw [List.length_map] at q; exact q
  have hrg : ∀ p ∈ rs, 0 ≤ p ∧ p ≤ (H.length : Int) := fun p hp => by rw [hHl]; exact hrg0 p hp
  have ha := (ckd_0.1 hcd).2 a (by simp)
  refine (kCl1_c (hR _ hb_a) hP (by first | omega | with_reducible assumption | simpa using hrg)).mono ?_
  rintro e w' ⟨hv', H', qv', rfl, h1, h2⟩
  try rw [hHO] at h1
  try rw [hHO] at h2
  try rw [hHO]
  exact ⟨hv', H', qv', rfl, h1, h2⟩
 rintro e w' ⟨hv, H, qv, rfl, h1, h2⟩
 obtain ⟨q1, q2, q3⟩ := ch_cl (O := (O.map ab)) (rs := rs)  (a := a)
 rw [q2] at h1
 rw [q3] at h2
 rw [q1]
 exact ⟨hv, H, qv, rfl, h1, h2⟩

end Go.Proofs.Ytpgkfndbfocibaa
namespace Go.Proofs.Ytpgkfndbfocibaa
open Go.RowKit Go.Own Go.Own.R Go.Own.G Go.Own.Gr


set_option maxHeartbeats 4000000 in
theorem kAlloc_c {ov : Value} {O : List Ob} {rv : Value} {rs : List Int} {a : Int} {p : Int} {r : Int} {w : World} (h_ov : Ro w NoX (rl 2 obC ov O)) (n_ov : Ro w NoX (nst O)) (h_rv : Ro w NoX (il .i64 rv rs)) (hsm : SM (O.map ab)) :
  Calls Try.prog 67 #[.agg #[ov, rv], .int .i64 a, .int .i64 p, .int .i64 r] w fun e w' => ∃ hv H qv, e = .returned (.tuple #[.agg #[hv, qv], .int .i64 (alE (O.map ab) rs a p r)]) ∧ (H.map ab = (alO (O.map ab) rs a p r)) ∧ St w NoX [ro 2 obC hv H, owl .i64 (H.map (·.1)), owl .u64 (H.map (·.2)), io .i64 (qv) (alR (O.map ab) rs a p r)] w' := by
 refine calls_in 17 Try.func67 V V (by simp) (fun A0 Y0 hdf0 hargs => ?_)
 have l0_0 := hargs 0 (.agg #[ov, rv]) V
 have l1_0 := hargs 1 (.int .i64 a) V
 have l2_0 := hargs 2 (.int .i64 p) V
 have l3_0 := hargs 3 (.int .i64 r) V
 clear hargs; replace Y0 : SzN A0 17 := ⟨Y0⟩
 have hS := St.nil w
 have bh_ov := SlN.le (sl_SlN h_ov.at)
 have bh_rv := SlN.le (sl_SlN h_rv.at)
 refine tb fun _ H1 => (wB (#[ov, rv]) hS l0_0 (fun g2 w2 c2 hc2 S2 => wB (#[.int .i64 (a)]) S2 (Sa l1_0) (fun g3 w3 c3 hc3 S3 => wB (#[.int .i64 (p)]) S3 (Sb l2_0) (fun g4 w4 c4 hc4 S4 => wB (#[.int .i64 (r)]) S4 (Sc l3_0) (fun g5 w5 c5 hc5 S5 => wA (#[.slice none 0 0, .slice none 0 0]) S5 (fun g6 w6 c6 hc6 S6 => vc (W_end (en (Qa (Ke (FS.n hdf0))) fun A7 _ F7 => ta H1 fun _ H8 => (ra (fg4 F7) (S6.ob 4 hc2) (wv (V_mkf V args0 (args3 (Sa (fg2 F7)) (Sa (fg1 F7)) (Sa (fg3 F7)))) (rL (.int .i64 (a)) (Sb (fg3 F7)) (S6.ob 3 hc3) ?_)))))))))))
 have hll9 : [a].length = 1 := rfl
 refine xsL (vs := [.int .i64 (a)]) (xs := ([a].map (Value.int .i64))) 1 S6 V V V (parts1 t0) Try.underlying25 (fun g9 w9 c9 hc9 S9 => ?_)
 replace hc9 : c9 = io .i64 (.slice (some ⟨g9, 0, none⟩) 1 1) [a] := hc9
 replace S9 : St w NoX [c9, c6, c5, c4, c3, c2] w9 := S9
 refine W_call V V V Try.func68 (by kernel_rfl) V (args3 (Sc t0) (Sb t0) t0) (kchAlloc_c (p := p) (gp := g4) (r := r) (gr := g5) (a := a) (ga := g3) (S9.roC h_ov) (S9.roC n_ov) (S9.roC h_rv) (S9.cC 3 hc4) (S9.cC 2 hc5) (S9.cC 4 hc3) (S9.cC 0 hc9).own (by first | with_reducible assumption) rfl) ?_
 rintro _ w10 ⟨hv_10, H_10, qv_10, rfl, hH_10, hP10⟩
 refine ⟨_, rfl, ?_⟩
 obtain ⟨cR_10, cP_10, cQ_10, cG_10, hcR_10, hcP_10, hcQ_10, hcG_10, hP10⟩ := gen4 hP10
 have S10 := S9.j4 hP10
 refine vx (.agg #[hv_10, qv_10]) t0 (vx (.int .i64 ((alE (O.map ab) rs a p r))) (Sa t0) (xsB5 S10 hc6 V V V (Sg (fg0 F7)) (Sa t0) (by simp only [List.all_toArray, List.all_cons, List.all_nil, SlN_one (ow_at (S10.cq 0 hcR_10)), SlN_one (ow_at (S10.cq 3 hcG_10))] <;> rfl) (fun w11 c11 hc11 S11 => vt (W_end (en (Ka (Qg F7)) fun A12 _ F12 => ?_)))))
 have S13 := S11.se [0, 1, 2, 3, 5] [cR_10, cP_10, cQ_10, cG_10, c11]
 refine tk H8 (wp_ret (rt2 F12 (rvA (fg1 F12) (S13.ob 4 hc11)) (rv_tmp (fg0 F12)) ?_))
 exact ⟨_, H_10, _, rfl, hH_10, (S13.fin4 0 V (hcR_10) 1 V (hcP_10) 2 V (hcQ_10) 3 V (hcG_10) (by decide))⟩

set_option maxHeartbeats 4000000 in
theorem kLoad_c {ov : Value} {O : List Ob} {rv : Value} {rs : List Int} {a : Int} {b : Int} {f : Int} {w : World} (h_ov : Ro w NoX (rl 2 obC ov O)) (n_ov : Ro w NoX (nst O)) (h_rv : Ro w NoX (il .i64 rv rs)) (hsm : SM (O.map ab)) :
  Calls Try.prog 49 #[.agg #[ov, rv], .int .i64 a, .int .i64 b, .int .i64 f] w fun e w' => ∃ hv H qv, e = .returned (.tuple #[.agg #[hv, qv], .int .i64 (ptE (O.map ab) rs [a, b] b f)]) ∧ (H.map ab = (ldO (O.map ab) rs a b f)) ∧ St w NoX [ro 2 obC hv H, owl .i64 (H.map (·.1)), owl .u64 (H.map (·.2)), io .i64 (qv) (ldR (O.map ab) rs a b f)] w' := by
 refine calls_in 18 Try.func49 V V (by simp) (fun A0 Y0 hdf0 hargs => ?_)
 have l0_0 := hargs 0 (.agg #[ov, rv]) V
 have l1_0 := hargs 1 (.int .i64 a) V
 have l2_0 := hargs 2 (.int .i64 b) V
 have l3_0 := hargs 3 (.int .i64 f) V
 clear hargs; replace Y0 : SzN A0 18 := ⟨Y0⟩
 have hS := St.nil w
 have bh_ov := SlN.le (sl_SlN h_ov.at)
 have bh_rv := SlN.le (sl_SlN h_rv.at)
 refine tb fun _ H1 => (wB (#[ov, rv]) hS l0_0 (fun g2 w2 c2 hc2 S2 => wB (#[.int .i64 (a)]) S2 (Sa l1_0) (fun g3 w3 c3 hc3 S3 => wB (#[.int .i64 (b)]) S3 (Sb l2_0) (fun g4 w4 c4 hc4 S4 => wB (#[.int .i64 (f)]) S4 (Sc l3_0) (fun g5 w5 c5 hc5 S5 => wA (#[.slice none 0 0, .slice none 0 0]) S5 (fun g6 w6 c6 hc6 S6 => vc (W_end (en (Qa (Ke (FS.n hdf0))) fun A7 _ F7 => ta H1 fun _ H8 => (ra (fg4 F7) (S6.ob 4 hc2) (wv (V_mkf V args0 (args3 (Sa (fg2 F7)) (Sa (fg1 F7)) (Sa (fg3 F7)))) (rL (.int .i64 (a)) (Sb (fg3 F7)) (S6.ob 3 hc3) (rL (.int .i64 (b)) (Sc (fg2 F7)) (S6.ob 2 hc4) ?_))))))))))))
 have hll9 : [a, b].length = 2 := rfl
 refine xsL (vs := [.int .i64 (a), .int .i64 (b)]) (xs := ([a, b].map (Value.int .i64))) 1 S6 V V V (parts2 (Sa t0) t0) Try.underlying25 (fun g9 w9 c9 hc9 S9 => ?_)
 replace hc9 : c9 = io .i64 (.slice (some ⟨g9, 0, none⟩) 2 2) [a, b] := hc9
 replace S9 : St w NoX [c9, c6, c5, c4, c3, c2] w9 := S9
 refine W_call V V V Try.func68 (by kernel_rfl) V (args3 (Sd t0) (Sc t0) t0) (kchLoad_c (b := b) (gb := g4) (f := f) (gf := g5) (a := a) (ga := g3) (S9.roC h_ov) (S9.roC n_ov) (S9.roC h_rv) (S9.cC 3 hc4) (S9.cC 2 hc5) (S9.cC 4 hc3) (S9.cC 0 hc9).own (by first | with_reducible assumption) rfl) ?_
 rintro _ w10 ⟨hv_10, H_10, qv_10, rfl, hH_10, hP10⟩
 refine ⟨_, rfl, ?_⟩
 obtain ⟨cR_10, cP_10, cQ_10, cG_10, hcR_10, hcP_10, hcQ_10, hcG_10, hP10⟩ := gen4 hP10
 have S10 := S9.j4 hP10
 refine vx (.agg #[hv_10, qv_10]) t0 (vx (.int .i64 ((ptE (O.map ab) rs [a, b] b f))) (Sa t0) (xsB5 S10 hc6 V V V (Sh (fg0 F7)) (Sa t0) (by simp only [List.all_toArray, List.all_cons, List.all_nil, SlN_one (ow_at (S10.cq 0 hcR_10)), SlN_one (ow_at (S10.cq 3 hcG_10))] <;> rfl) (fun w11 c11 hc11 S11 => vt (W_end (en (Ka (Qh F7)) fun A12 _ F12 => ?_)))))
 have S13 := S11.se [0, 1, 2, 3, 5] [cR_10, cP_10, cQ_10, cG_10, c11]
 refine tk H8 (wp_ret (rt2 F12 (rvA (fg1 F12) (S13.ob 4 hc11)) (rv_tmp (fg0 F12)) ?_))
 exact ⟨_, H_10, _, rfl, hH_10, (S13.fin4 0 V (hcR_10) 1 V (hcP_10) 2 V (hcQ_10) 3 V (hcG_10) (by decide))⟩

set_option maxHeartbeats 4000000 in
theorem kStore_c {ov : Value} {O : List Ob} {rv : Value} {rs : List Int} {a : Int} {f : Int} {b : Int} {w : World} (h_ov : Ro w NoX (rl 2 obC ov O)) (n_ov : Ro w NoX (nst O)) (h_rv : Ro w NoX (il .i64 rv rs)) (hsm : SM (O.map ab)) :
  Calls Try.prog 50 #[.agg #[ov, rv], .int .i64 a, .int .i64 f, .int .i64 b] w fun e w' => ∃ hv H qv, e = .returned (.tuple #[.agg #[hv, qv], .int .i64 (ptE (O.map ab) rs [a, b] a f)]) ∧ (H.map ab = (soO (O.map ab) rs a f b)) ∧ St w NoX [ro 2 obC hv H, owl .i64 (H.map (·.1)), owl .u64 (H.map (·.2)), io .i64 (qv) (soR (O.map ab) rs a f b)] w' := by
 refine calls_in 18 Try.func50 V V (by simp) (fun A0 Y0 hdf0 hargs => ?_)
 have l0_0 := hargs 0 (.agg #[ov, rv]) V
 have l1_0 := hargs 1 (.int .i64 a) V
 have l2_0 := hargs 2 (.int .i64 f) V
 have l3_0 := hargs 3 (.int .i64 b) V
 clear hargs; replace Y0 : SzN A0 18 := ⟨Y0⟩
 have hS := St.nil w
 have bh_ov := SlN.le (sl_SlN h_ov.at)
 have bh_rv := SlN.le (sl_SlN h_rv.at)
 refine tb fun _ H1 => (wB (#[ov, rv]) hS l0_0 (fun g2 w2 c2 hc2 S2 => wB (#[.int .i64 (a)]) S2 (Sa l1_0) (fun g3 w3 c3 hc3 S3 => wB (#[.int .i64 (f)]) S3 (Sb l2_0) (fun g4 w4 c4 hc4 S4 => wB (#[.int .i64 (b)]) S4 (Sc l3_0) (fun g5 w5 c5 hc5 S5 => wA (#[.slice none 0 0, .slice none 0 0]) S5 (fun g6 w6 c6 hc6 S6 => vc (W_end (en (Qa (Ke (FS.n hdf0))) fun A7 _ F7 => ta H1 fun _ H8 => (ra (fg4 F7) (S6.ob 4 hc2) (wv (V_mkf V args0 (args3 (Sa (fg3 F7)) (Sa (fg2 F7)) (Sa (fg1 F7)))) (rL (.int .i64 (a)) (Sb (fg3 F7)) (S6.ob 3 hc3) (rL (.int .i64 (b)) (Sc (fg1 F7)) (S6.ob 1 hc5) ?_))))))))))))
 have hll9 : [a, b].length = 2 := rfl
 refine xsL (vs := [.int .i64 (a), .int .i64 (b)]) (xs := ([a, b].map (Value.int .i64))) 1 S6 V V V (parts2 (Sa t0) t0) Try.underlying25 (fun g9 w9 c9 hc9 S9 => ?_)
 replace hc9 : c9 = io .i64 (.slice (some ⟨g9, 0, none⟩) 2 2) [a, b] := hc9
 replace S9 : St w NoX [c9, c6, c5, c4, c3, c2] w9 := S9
 refine W_call V V V Try.func68 (by kernel_rfl) V (args3 (Sd t0) (Sc t0) t0) (kchStore_c (a := a) (ga := g3) (f := f) (gf := g4) (b := b) (gb := g5) (S9.roC h_ov) (S9.roC n_ov) (S9.roC h_rv) (S9.cC 4 hc3) (S9.cC 3 hc4) (S9.cC 2 hc5) (S9.cC 0 hc9).own (by first | with_reducible assumption) rfl) ?_
 rintro _ w10 ⟨hv_10, H_10, qv_10, rfl, hH_10, hP10⟩
 refine ⟨_, rfl, ?_⟩
 obtain ⟨cR_10, cP_10, cQ_10, cG_10, hcR_10, hcP_10, hcQ_10, hcG_10, hP10⟩ := gen4 hP10
 have S10 := S9.j4 hP10
 refine vx (.agg #[hv_10, qv_10]) t0 (vx (.int .i64 ((ptE (O.map ab) rs [a, b] a f))) (Sa t0) (xsB5 S10 hc6 V V V (Sh (fg0 F7)) (Sa t0) (by simp only [List.all_toArray, List.all_cons, List.all_nil, SlN_one (ow_at (S10.cq 0 hcR_10)), SlN_one (ow_at (S10.cq 3 hcG_10))] <;> rfl) (fun w11 c11 hc11 S11 => vt (W_end (en (Ka (Qh F7)) fun A12 _ F12 => ?_)))))
 have S13 := S11.se [0, 1, 2, 3, 5] [cR_10, cP_10, cQ_10, cG_10, c11]
 refine tk H8 (wp_ret (rt2 F12 (rvA (fg1 F12) (S13.ob 4 hc11)) (rv_tmp (fg0 F12)) ?_))
 exact ⟨_, H_10, _, rfl, hH_10, (S13.fin4 0 V (hcR_10) 1 V (hcP_10) 2 V (hcQ_10) 3 V (hcG_10) (by decide))⟩

set_option maxHeartbeats 4000000 in
theorem kWrite_c {ov : Value} {O : List Ob} {rv : Value} {rs : List Int} {a : Int} {f : Int} {x : Int} {w : World} (h_ov : Ro w NoX (rl 2 obC ov O)) (n_ov : Ro w NoX (nst O)) (h_rv : Ro w NoX (il .i64 rv rs)) (hsm : SM (O.map ab)) :
  Calls Try.prog 52 #[.agg #[ov, rv], .int .i64 a, .int .i64 f, .int .u64 x] w fun e w' => ∃ hv H qv, e = .returned (.tuple #[.agg #[hv, qv], .int .i64 (rwE (O.map ab) rs [a] a f)]) ∧ (H.map ab = (wrO (O.map ab) rs a f x)) ∧ St w NoX [ro 2 obC hv H, owl .i64 (H.map (·.1)), owl .u64 (H.map (·.2)), io .i64 (qv) (wrR (O.map ab) rs a f)] w' := by
 refine calls_in 17 Try.func52 V V (by simp) (fun A0 Y0 hdf0 hargs => ?_)
 have l0_0 := hargs 0 (.agg #[ov, rv]) V
 have l1_0 := hargs 1 (.int .i64 a) V
 have l2_0 := hargs 2 (.int .i64 f) V
 have l3_0 := hargs 3 (.int .u64 x) V
 clear hargs; replace Y0 : SzN A0 17 := ⟨Y0⟩
 have hS := St.nil w
 have bh_ov := SlN.le (sl_SlN h_ov.at)
 have bh_rv := SlN.le (sl_SlN h_rv.at)
 refine tb fun _ H1 => (wB (#[ov, rv]) hS l0_0 (fun g2 w2 c2 hc2 S2 => wB (#[.int .i64 (a)]) S2 (Sa l1_0) (fun g3 w3 c3 hc3 S3 => wB (#[.int .i64 (f)]) S3 (Sb l2_0) (fun g4 w4 c4 hc4 S4 => wB (#[.int .u64 (x)]) S4 (Sc l3_0) (fun g5 w5 c5 hc5 S5 => wA (#[.slice none 0 0, .slice none 0 0]) S5 (fun g6 w6 c6 hc6 S6 => vc (W_end (en (Qa (Ke (FS.n hdf0))) fun A7 _ F7 => ta H1 fun _ H8 => (ra (fg4 F7) (S6.ob 4 hc2) (wv (V_mkf V args0 (args3 (Sa (fg3 F7)) (Sa (fg2 F7)) (Sa (fg1 F7)))) (rL (.int .i64 (a)) (Sb (fg3 F7)) (S6.ob 3 hc3) ?_)))))))))))
 have hll9 : [a].length = 1 := rfl
 refine xsL (vs := [.int .i64 (a)]) (xs := ([a].map (Value.int .i64))) 1 S6 V V V (parts1 t0) Try.underlying25 (fun g9 w9 c9 hc9 S9 => ?_)
 replace hc9 : c9 = io .i64 (.slice (some ⟨g9, 0, none⟩) 1 1) [a] := hc9
 replace S9 : St w NoX [c9, c6, c5, c4, c3, c2] w9 := S9
 refine W_call V V V Try.func68 (by kernel_rfl) V (args3 (Sc t0) (Sb t0) t0) (kchWrite_c (a := a) (ga := g3) (f := f) (gf := g4) (x := x) (gx := g5) (S9.roC h_ov) (S9.roC n_ov) (S9.roC h_rv) (S9.cC 4 hc3) (S9.cC 3 hc4) (S9.cC 2 hc5) (S9.cC 0 hc9).own (by first | with_reducible assumption) rfl) ?_
 rintro _ w10 ⟨hv_10, H_10, qv_10, rfl, hH_10, hP10⟩
 refine ⟨_, rfl, ?_⟩
 obtain ⟨cR_10, cP_10, cQ_10, cG_10, hcR_10, hcP_10, hcQ_10, hcG_10, hP10⟩ := gen4 hP10
 have S10 := S9.j4 hP10
 refine vx (.agg #[hv_10, qv_10]) t0 (vx (.int .i64 ((rwE (O.map ab) rs [a] a f))) (Sa t0) (xsB5 S10 hc6 V V V (Sg (fg0 F7)) (Sa t0) (by simp only [List.all_toArray, List.all_cons, List.all_nil, SlN_one (ow_at (S10.cq 0 hcR_10)), SlN_one (ow_at (S10.cq 3 hcG_10))] <;> rfl) (fun w11 c11 hc11 S11 => vt (W_end (en (Ka (Qg F7)) fun A12 _ F12 => ?_)))))
 have S13 := S11.se [0, 1, 2, 3, 5] [cR_10, cP_10, cQ_10, cG_10, c11]
 refine tk H8 (wp_ret (rt2 F12 (rvA (fg1 F12) (S13.ob 4 hc11)) (rv_tmp (fg0 F12)) ?_))
 exact ⟨_, H_10, _, rfl, hH_10, (S13.fin4 0 V (hcR_10) 1 V (hcP_10) 2 V (hcQ_10) 3 V (hcG_10) (by decide))⟩

set_option maxHeartbeats 4000000 in
theorem kMove_c {ov : Value} {O : List Ob} {rv : Value} {rs : List Int} {a : Int} {b : Int} {w : World} (h_ov : Ro w NoX (rl 2 obC ov O)) (n_ov : Ro w NoX (nst O)) (h_rv : Ro w NoX (il .i64 rv rs)) (hsm : SM (O.map ab)) :
  Calls Try.prog 53 #[.agg #[ov, rv], .int .i64 a, .int .i64 b] w fun e w' => ∃ hv H qv, e = .returned (.tuple #[.agg #[hv, qv], .int .i64 (ckd (O.map ab) rs [a, b])]) ∧ (H.map ab = (kpO (O.map ab) rs [a, b])) ∧ St w NoX [ro 2 obC hv H, owl .i64 (H.map (·.1)), owl .u64 (H.map (·.2)), io .i64 (qv) (mvR (O.map ab) rs a b)] w' := by
 refine calls_in 16 Try.func53 V V (by simp) (fun A0 Y0 hdf0 hargs => ?_)
 have l0_0 := hargs 0 (.agg #[ov, rv]) V
 have l1_0 := hargs 1 (.int .i64 a) V
 have l2_0 := hargs 2 (.int .i64 b) V
 clear hargs; replace Y0 : SzN A0 16 := ⟨Y0⟩
 have hS := St.nil w
 have bh_ov := SlN.le (sl_SlN h_ov.at)
 have bh_rv := SlN.le (sl_SlN h_rv.at)
 refine tb fun _ H1 => (wB (#[ov, rv]) hS l0_0 (fun g2 w2 c2 hc2 S2 => wB (#[.int .i64 (a)]) S2 (Sa l1_0) (fun g3 w3 c3 hc3 S3 => wB (#[.int .i64 (b)]) S3 (Sb l2_0) (fun g4 w4 c4 hc4 S4 => wA (#[.slice none 0 0, .slice none 0 0]) S4 (fun g5 w5 c5 hc5 S5 => vc (W_end (en (Qa (Kd (FS.n hdf0))) fun A6 _ F6 => ta H1 fun _ H7 => (ra (fg3 F6) (S5.ob 3 hc2) (wv (V_mkf V args0 (args2 (Sa (fg1 F6)) (Sa (fg2 F6)))) (rL (.int .i64 (a)) (Sb (fg2 F6)) (S5.ob 2 hc3) (rL (.int .i64 (b)) (Sc (fg1 F6)) (S5.ob 1 hc4) ?_)))))))))))
 have hll8 : [a, b].length = 2 := rfl
 refine xsL (vs := [.int .i64 (a), .int .i64 (b)]) (xs := ([a, b].map (Value.int .i64))) 1 S5 V V V (parts2 (Sa t0) t0) Try.underlying25 (fun g8 w8 c8 hc8 S8 => ?_)
 replace hc8 : c8 = io .i64 (.slice (some ⟨g8, 0, none⟩) 2 2) [a, b] := hc8
 replace S8 : St w NoX [c8, c5, c4, c3, c2] w8 := S8
 refine W_call V V V Try.func68 (by kernel_rfl) V (args3 (Sd t0) (Sc t0) t0) (kchMove_c (b := b) (gb := g4) (a := a) (ga := g3) (S8.roC h_ov) (S8.roC n_ov) (S8.roC h_rv) (S8.cC 2 hc4) (S8.cC 3 hc3) (S8.cC 0 hc8).own (by first | with_reducible assumption) rfl) ?_
 rintro _ w9 ⟨hv_9, H_9, qv_9, rfl, hH_9, hP9⟩
 refine ⟨_, rfl, ?_⟩
 obtain ⟨cR_9, cP_9, cQ_9, cG_9, hcR_9, hcP_9, hcQ_9, hcG_9, hP9⟩ := gen4 hP9
 have S9 := S8.j4 hP9
 refine vx (.agg #[hv_9, qv_9]) t0 (vx (.int .i64 ((ckd (O.map ab) rs [a, b]))) (Sa t0) (xsB5 S9 hc5 V V V (Sh (fg0 F6)) (Sa t0) (by simp only [List.all_toArray, List.all_cons, List.all_nil, SlN_one (ow_at (S9.cq 0 hcR_9)), SlN_one (ow_at (S9.cq 3 hcG_9))] <;> rfl) (fun w10 c10 hc10 S10 => vt (W_end (en (Ka (Qh F6)) fun A11 _ F11 => ?_)))))
 have S12 := S10.se [0, 1, 2, 3, 5] [cR_9, cP_9, cQ_9, cG_9, c10]
 refine tk H7 (wp_ret (rt2 F11 (rvA (fg1 F11) (S12.ob 4 hc10)) (rv_tmp (fg0 F11)) ?_))
 exact ⟨_, H_9, _, rfl, hH_9, (S12.fin4 0 V (hcR_9) 1 V (hcP_9) 2 V (hcQ_9) 3 V (hcG_9) (by decide))⟩

set_option maxHeartbeats 4000000 in
theorem kClear_c {ov : Value} {O : List Ob} {rv : Value} {rs : List Int} {a : Int} {w : World} (h_ov : Ro w NoX (rl 2 obC ov O)) (n_ov : Ro w NoX (nst O)) (h_rv : Ro w NoX (il .i64 rv rs)) (hsm : SM (O.map ab)) :
  Calls Try.prog 54 #[.agg #[ov, rv], .int .i64 a] w fun e w' => ∃ hv H qv, e = .returned (.tuple #[.agg #[hv, qv], .int .i64 (ckd (O.map ab) rs [a])]) ∧ (H.map ab = (kpO (O.map ab) rs [a])) ∧ St w NoX [ro 2 obC hv H, owl .i64 (H.map (·.1)), owl .u64 (H.map (·.2)), io .i64 (qv) (clR (O.map ab) rs a)] w' := by
 refine calls_in 13 Try.func54 V V (by simp) (fun A0 Y0 hdf0 hargs => ?_)
 have l0_0 := hargs 0 (.agg #[ov, rv]) V
 have l1_0 := hargs 1 (.int .i64 a) V
 clear hargs; replace Y0 : SzN A0 13 := ⟨Y0⟩
 have hS := St.nil w
 have bh_ov := SlN.le (sl_SlN h_ov.at)
 have bh_rv := SlN.le (sl_SlN h_rv.at)
 refine tb fun _ H1 => (wB (#[ov, rv]) hS l0_0 (fun g2 w2 c2 hc2 S2 => wB (#[.int .i64 (a)]) S2 (Sa l1_0) (fun g3 w3 c3 hc3 S3 => wA (#[.slice none 0 0, .slice none 0 0]) S3 (fun g4 w4 c4 hc4 S4 => vc (W_end (en (Qa (Kc (FS.n hdf0))) fun A5 _ F5 => ta H1 fun _ H6 => (ra (fg2 F5) (S4.ob 2 hc2) (wv (V_mkf V args0 (args1 (Sa (fg1 F5)))) (rL (.int .i64 (a)) (Sb (fg1 F5)) (S4.ob 1 hc3) ?_)))))))))
 have hll7 : [a].length = 1 := rfl
 refine xsL (vs := [.int .i64 (a)]) (xs := ([a].map (Value.int .i64))) 1 S4 V V V (parts1 t0) Try.underlying25 (fun g7 w7 c7 hc7 S7 => ?_)
 replace hc7 : c7 = io .i64 (.slice (some ⟨g7, 0, none⟩) 1 1) [a] := hc7
 replace S7 : St w NoX [c7, c4, c3, c2] w7 := S7
 refine W_call V V V Try.func68 (by kernel_rfl) V (args3 (Sc t0) (Sb t0) t0) (kchClear_c (a := a) (ga := g3) (S7.roC h_ov) (S7.roC n_ov) (S7.roC h_rv) (S7.cC 2 hc3) (S7.cC 0 hc7).own (by first | with_reducible assumption) rfl) ?_
 rintro _ w8 ⟨hv_8, H_8, qv_8, rfl, hH_8, hP8⟩
 refine ⟨_, rfl, ?_⟩
 obtain ⟨cR_8, cP_8, cQ_8, cG_8, hcR_8, hcP_8, hcQ_8, hcG_8, hP8⟩ := gen4 hP8
 have S8 := S7.j4 hP8
 refine vx (.agg #[hv_8, qv_8]) t0 (vx (.int .i64 ((ckd (O.map ab) rs [a]))) (Sa t0) (xsB5 S8 hc4 V V V (Sg (fg0 F5)) (Sa t0) (by simp only [List.all_toArray, List.all_cons, List.all_nil, SlN_one (ow_at (S8.cq 0 hcR_8)), SlN_one (ow_at (S8.cq 3 hcG_8))] <;> rfl) (fun w9 c9 hc9 S9 => vt (W_end (en (Ka (Qg F5)) fun A10 _ F10 => ?_)))))
 have S11 := S9.se [0, 1, 2, 3, 5] [cR_8, cP_8, cQ_8, cG_8, c9]
 refine tk H6 (wp_ret (rt2 F10 (rvA (fg1 F10) (S11.ob 4 hc9)) (rv_tmp (fg0 F10)) ?_))
 exact ⟨_, H_8, _, rfl, hH_8, (S11.fin4 0 V (hcR_8) 1 V (hcP_8) 2 V (hcQ_8) 3 V (hcG_8) (by decide))⟩

end Go.Proofs.Ytpgkfndbfocibaa
namespace Go.Proofs.Ytpgkfndbfocibaa
open Go.RowKit Go.Own Go.Own.R Go.Own.G Go.Own.Gr


end Go.Proofs.Ytpgkfndbfocibaa