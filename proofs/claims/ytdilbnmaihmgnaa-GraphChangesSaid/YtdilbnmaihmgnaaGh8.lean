import Derived.Test.YtdilbnmaihmgnaaProg
import Derived.Test.YtdilbnmaihmgnaaGh7
import Derived.Test.YtdilbnmaihmgnaaPl15i
namespace Go.Proofs.Ytdilbnmaihmgnaa
open Go.RowKit Go.Own Go.Own.R Go.Own.G Go.Own.Gr


set_option maxHeartbeats 4000000 in
theorem kAl1_c {ov : Value} {O : List Ob} {rv : Value} {rs : List Int} {gov : Nat} {p : Int} {gp : Nat} {r : Int} {gr : Nat} {a : Int} {ga : Nat} {w : World} {Y : Nat → Prop} (hb_p : Ro w Y (bx gp 3 #[.int .i64 p])) (hb_r : Ro w Y (bx gr 3 #[.int .i64 r])) (hb_a : Ro w Y (bx ga 3 #[.int .i64 a])) (hS : St w Y [bx gov 25 #[ov, rv], ro 2 obC ov O, owl .i64 (O.map (·.1)), owl .u64 (O.map (·.2)), io .i64 rv rs] w) (ha : 0 ≤ a ∧ a < (rs.length : Int)) (hol : O.length ≤ 400) :
    Calls Try.prog 57 #[.pointer (some ⟨gov, 0, none⟩), .pointer (some ⟨gp, 0, none⟩), .pointer (some ⟨gr, 0, none⟩), .pointer (some ⟨ga, 0, none⟩)] w fun e w' => ∃ hv H qv, e = .returned (.int .i64 (alX p r (O.map ab).length)) ∧ (H.map ab = alI p r (O.map ab)) ∧ St w Y [bx gov 25 #[hv, qv], ro 2 obC hv H, owl .i64 (H.map (·.1)), owl .u64 (H.map (·.2)), io .i64 (qv) (alJ a p r (O.map ab) rs)] w' := by
  refine calls_in 55 Try.func57 rfl rfl (by simp) (fun A0 hsz0 hdf0 hargs => ?_)
  have l0_0 := hargs 0 (.pointer (some ⟨gov, 0, none⟩)) rfl
  have l1_0 := hargs 1 (.pointer (some ⟨gp, 0, none⟩)) rfl
  have l2_0 := hargs 2 (.pointer (some ⟨gr, 0, none⟩)) rfl
  have l3_0 := hargs 3 (.pointer (some ⟨ga, 0, none⟩)) rfl
  clear hargs; replace hsz0 : SzN A0 55 := ⟨hsz0⟩
  obtain ⟨mb_ov, m_ov, mp_ov, mq_ov, m_rv, hmb_ov, hm_ov, hmp_ov, hmq_ov, hm_rv, hS⟩ := gen5 hS
  replace hS : St w Y [mb_ov, m_ov, mp_ov, mq_ov, m_rv] w := hS
  have bm_ov := SlN.le (ow_at (hS.chq 1 rfl hm_ov))
  have bm_rv := SlN.le (ow_at (hS.chq 4 rfl hm_rv))
  refine wp_seq_k (fun K1 hK1 => ?_)
  refine region_in ?_
  refine W_v rfl rfl (V_asg rfl rfl) ?_
  refine W_end ?_
  refine gen_Q (fun A2 hA2 => ?_)
  have hsz2 := szq hA2
  have hdf2 : A2.defers = [] := by rw [hA2]; simp only [df_put]; exact hdf0
  have l0_2 := lookE hA2 0 (es rfl l0_0)
  have l1_2 := lookE hA2 1 (es rfl l1_0)
  have l2_2 := lookE hA2 2 (es rfl l2_0)
  have l3_2 := lookE hA2 3 (es rfl l3_0)
  clear hA2 hsz0 hdf0 l0_0 l1_0 l2_0 l3_0
  refine then_n (hK1 _ _ ?_)
  clear hK1
  refine wp_seq_k (fun K3 hK3 => ?_)
  refine wp_block ?_
  refine wp_seq_k (fun K4 hK4 => ?_)
  refine region_in ?_
  refine W_r rfl rfl (VR_ldC rfl l1_2 (cell_box (v := .int .i64 (p)) (ob_at (hS.ro hb_p)) rfl) Try.underlying3 rfl) ?_
  refine W_v rfl rfl (V_lss rfl (et rfl) rfl) ?_
  refine W_split rfl rfl (V_mov rfl (et rfl)) (fun c5 => ?_) (fun c5 => ?_)
  · skip
    refine W_off rfl (wanted_f rfl rfl (et rfl) (ez rfl) rfl) ?_
    refine W_off rfl (wanted_f rfl rfl (es rfl (et rfl)) (ez rfl) rfl) ?_
    refine W_v rfl rfl (V_pickT rfl (e2 rfl (et rfl)) rfl) ?_
    refine W_v rfl rfl (V_asg rfl (et rfl)) ?_
    refine W_end ?_
    refine gen_Q (fun A6 hA6 => ?_)
    have hsz6 := szq hA6
    have hdf6 : A6.defers = [] := by rw [hA6]; simp only [df_put]; exact hdf2
    have l0_6 := lookE hA6 0 (e6 rfl (es rfl l0_2))
    have l1_6 := lookE hA6 1 (e6 rfl (es rfl l1_2))
    have l2_6 := lookE hA6 2 (e6 rfl (es rfl l2_2))
    have l3_6 := lookE hA6 3 (e6 rfl (es rfl l3_2))
    have l6_6 := lookE hA6 6 (et rfl)
    clear hA6 hsz2 hdf2 l0_2 l1_2 l2_2 l3_2
    refine then_n (hK4 _ _ ?_)
    clear hK4
    refine cond_t l6_6 ?_
    refine wp_seq_k (fun K7 hK7 => ?_)
    refine region_in ?_
    refine W_v rfl rfl (V_asg rfl rfl) ?_
    refine W_end ?_
    refine gen_Q (fun A8 hA8 => ?_)
    have hsz8 := szq hA8
    have hdf8 : A8.defers = [] := by rw [hA8]; simp only [df_put]; exact hdf6
    have l5_8 := lookE hA8 5 (et rfl)
    clear hA8 hsz6 hdf6 l0_6 l1_6 l2_6 l3_6 l6_6
    refine then_n (hK7 _ _ ?_)
    clear hK7
    refine wp_ret ?_
    refine inb_ret ?_
    refine then_ret ?_
    refine ret_in (results_1 Try.results57 (rv_tmp l5_8)) hdf8 ?_
    -- leaf T
    have h : (alX p r (O.map ab).length) = 10 := alX_bad (by omega)
    have q := al_I (a := a) (rs := rs) (L := (O.map ab)) (p := p) (r := r) (by rw [h]; decide)
    rw [h, q.1]
    exact ⟨_, O, _, rfl, rfl, (hS.fin5 0 rfl (hmb_ov) 1 rfl (hm_ov) 2 rfl (hmp_ov) 3 rfl (hmq_ov) 4 rfl (hm_rv.trans (by rw [q.2])) (by decide))⟩
  · skip
    refine W_r rfl (wanted_t rfl rfl (et rfl) (ez rfl)) (VR_ldC rfl (e2 rfl (es rfl l2_2)) (cell_box (v := .int .i64 (r)) (ob_at (hS.ro hb_r)) rfl) Try.underlying3 rfl) ?_
    refine W_v rfl (wanted_t rfl rfl (es rfl (et rfl)) (ez rfl)) (V_lss rfl (et rfl) rfl) ?_
    refine W_v rfl rfl (V_pickF rfl (e2 rfl (et rfl)) (et rfl)) ?_
    refine W_v rfl rfl (V_asg rfl (et rfl)) ?_
    refine W_end ?_
    refine gen_Q (fun A9 hA9 => ?_)
    have hsz9 := szq hA9
    have hdf9 : A9.defers = [] := by rw [hA9]; simp only [df_put]; exact hdf2
    have l0_9 := lookE hA9 0 (e6 rfl (es rfl l0_2))
    have l1_9 := lookE hA9 1 (e6 rfl (es rfl l1_2))
    have l2_9 := lookE hA9 2 (e6 rfl (es rfl l2_2))
    have l3_9 := lookE hA9 3 (e6 rfl (es rfl l3_2))
    have l6_9 := lookE hA9 6 (et rfl)
    clear hA9 hsz2 hdf2 l0_2 l1_2 l2_2 l3_2
    refine then_n (hK4 _ _ ?_)
    clear hK4
    refine cond_dec l6_9 (fun c10 => ?_) (fun c10 => ?_)
    · skip
      refine wp_seq_k (fun K11 hK11 => ?_)
      refine region_in ?_
      refine W_v rfl rfl (V_asg rfl rfl) ?_
      refine W_end ?_
      refine gen_Q (fun A12 hA12 => ?_)
      have hsz12 := szq hA12
      have hdf12 : A12.defers = [] := by rw [hA12]; simp only [df_put]; exact hdf9
      have l5_12 := lookE hA12 5 (et rfl)
      clear hA12 hsz9 hdf9 l0_9 l1_9 l2_9 l3_9 l6_9
      refine then_n (hK11 _ _ ?_)
      clear hK11
      refine wp_ret ?_
      refine inb_ret ?_
      refine then_ret ?_
      refine ret_in (results_1 Try.results57 (rv_tmp l5_12)) hdf12 ?_
      -- leaf FT
      have h : (alX p r (O.map ab).length) = 10 := alX_bad (by omega)
      have q := al_I (a := a) (rs := rs) (L := (O.map ab)) (p := p) (r := r) (by rw [h]; decide)
      rw [h, q.1]
      exact ⟨_, O, _, rfl, rfl, (hS.fin5 0 rfl (hmb_ov) 1 rfl (hm_ov) 2 rfl (hmp_ov) 3 rfl (hmq_ov) 4 rfl (hm_rv.trans (by rw [q.2])) (by decide))⟩
    · skip
      refine wp_seq_k (fun K13 hK13 => ?_)
      refine region_in ?_
      refine W_r rfl rfl (VR_ldC rfl l1_9 (cell_box (v := .int .i64 (p)) (ob_at (hS.ro hb_p)) rfl) Try.underlying3 rfl) ?_
      refine W_v rfl rfl (V_gtr rfl (et rfl) rfl) ?_
      refine W_split rfl rfl (V_mov rfl (et rfl)) (fun c14 => ?_) (fun c14 => ?_)
      · skip
        refine W_off rfl (wanted_f rfl rfl (et rfl) (ez rfl) rfl) ?_
        refine W_off rfl (wanted_f rfl rfl (es rfl (et rfl)) (ez rfl) rfl) ?_
        refine W_off rfl (wanted_f rfl rfl (e2 rfl (et rfl)) (ez rfl) rfl) ?_
        refine W_off rfl (wanted_f rfl rfl (e3 rfl (et rfl)) (ez rfl) rfl) ?_
        refine W_off rfl (wanted_f rfl rfl (e4 rfl (et rfl)) (ez rfl) rfl) ?_
        refine W_v rfl rfl (V_pickT rfl (e5 rfl (et rfl)) rfl) ?_
        refine W_v rfl rfl (V_asg rfl (et rfl)) ?_
        refine W_end ?_
        refine gen_Q (fun A15 hA15 => ?_)
        have hsz15 := szq hA15
        have hdf15 : A15.defers = [] := by rw [hA15]; simp only [df_put]; exact hdf9
        have l0_15 := lookE hA15 0 (e9 rfl (es rfl l0_9))
        have l1_15 := lookE hA15 1 (e9 rfl (es rfl l1_9))
        have l2_15 := lookE hA15 2 (e9 rfl (es rfl l2_9))
        have l3_15 := lookE hA15 3 (e9 rfl (es rfl l3_9))
        have l13_15 := lookE hA15 13 (et rfl)
        clear hA15 hsz9 hdf9 l0_9 l1_9 l2_9 l3_9 l6_9
        refine then_n (hK13 _ _ ?_)
        clear hK13
        refine cond_t l13_15 ?_
        refine wp_seq_k (fun K16 hK16 => ?_)
        refine region_in ?_
        refine W_v rfl rfl (V_asg rfl rfl) ?_
        refine W_end ?_
        refine gen_Q (fun A17 hA17 => ?_)
        have hsz17 := szq hA17
        have hdf17 : A17.defers = [] := by rw [hA17]; simp only [df_put]; exact hdf15
        have l5_17 := lookE hA17 5 (et rfl)
        clear hA17 hsz15 hdf15 l0_15 l1_15 l2_15 l3_15 l13_15
        refine then_n (hK16 _ _ ?_)
        clear hK16
        refine wp_ret ?_
        refine inb_ret ?_
        refine then_ret ?_
        refine ret_in (results_1 Try.results57 (rv_tmp l5_17)) hdf17 ?_
        -- leaf FFT
        have h : (alX p r (O.map ab).length) = 11 := alX_big (by omega) (by omega)
        have q := al_I (a := a) (rs := rs) (L := (O.map ab)) (p := p) (r := r) (by rw [h]; decide)
        rw [h, q.1]
        exact ⟨_, O, _, rfl, rfl, (hS.fin5 0 rfl (hmb_ov) 1 rfl (hm_ov) 2 rfl (hmp_ov) 3 rfl (hmq_ov) 4 rfl (hm_rv.trans (by rw [q.2])) (by decide))⟩
      · skip
        refine W_r rfl (wanted_t rfl rfl (et rfl) (ez rfl)) (VR_ldC rfl (e2 rfl (es rfl l1_9)) (cell_box (v := .int .i64 (p)) (ob_at (hS.ro hb_p)) rfl) Try.underlying3 rfl) ?_
        refine W_r rfl (wanted_t rfl rfl (es rfl (et rfl)) (ez rfl)) (VR_ldC rfl (e3 rfl (es rfl l2_9)) (cell_box (v := .int .i64 (r)) (ob_at (hS.ro hb_r)) rfl) Try.underlying3 rfl) ?_
        refine W_v rfl (wanted_t rfl rfl (e2 rfl (et rfl)) (ez rfl)) (V_min rfl (et rfl) rfl) ?_
        refine W_v rfl (wanted_t rfl rfl (e3 rfl (et rfl)) (ez rfl)) (V_add rfl (e2 rfl (et rfl)) (et rfl) (by omega) (by omega)) ?_
        refine W_v rfl (wanted_t rfl rfl (e4 rfl (et rfl)) (ez rfl)) (V_gtr rfl (et rfl) rfl) ?_
        refine W_v rfl rfl (V_pickF rfl (e5 rfl (et rfl)) (et rfl)) ?_
        refine W_v rfl rfl (V_asg rfl (et rfl)) ?_
        refine W_end ?_
        refine gen_Q (fun A18 hA18 => ?_)
        have hsz18 := szq hA18
        have hdf18 : A18.defers = [] := by rw [hA18]; simp only [df_put]; exact hdf9
        have l0_18 := lookE hA18 0 (e9 rfl (es rfl l0_9))
        have l1_18 := lookE hA18 1 (e9 rfl (es rfl l1_9))
        have l2_18 := lookE hA18 2 (e9 rfl (es rfl l2_9))
        have l3_18 := lookE hA18 3 (e9 rfl (es rfl l3_9))
        have l13_18 := lookE hA18 13 (et rfl)
        clear hA18 hsz9 hdf9 l0_9 l1_9 l2_9 l3_9 l6_9
        refine then_n (hK13 _ _ ?_)
        clear hK13
        refine cond_dec l13_18 (fun c19 => ?_) (fun c19 => ?_)
        · skip
          refine wp_seq_k (fun K20 hK20 => ?_)
          refine region_in ?_
          refine W_v rfl rfl (V_asg rfl rfl) ?_
          refine W_end ?_
          refine gen_Q (fun A21 hA21 => ?_)
          have hsz21 := szq hA21
          have hdf21 : A21.defers = [] := by rw [hA21]; simp only [df_put]; exact hdf18
          have l5_21 := lookE hA21 5 (et rfl)
          clear hA21 hsz18 hdf18 l0_18 l1_18 l2_18 l3_18 l13_18
          refine then_n (hK20 _ _ ?_)
          clear hK20
          refine wp_ret ?_
          refine inb_ret ?_
          refine then_ret ?_
          refine ret_in (results_1 Try.results57 (rv_tmp l5_21)) hdf21 ?_
          -- leaf FFFT
          have h : (alX p r (O.map ab).length) = 11 := alX_big (by omega) (by omega)
          have q := al_I (a := a) (rs := rs) (L := (O.map ab)) (p := p) (r := r) (by rw [h]; decide)
          rw [h, q.1]
          exact ⟨_, O, _, rfl, rfl, (hS.fin5 0 rfl (hmb_ov) 1 rfl (hm_ov) 2 rfl (hmp_ov) 3 rfl (hmq_ov) 4 rfl (hm_rv.trans (by rw [q.2])) (by decide))⟩
        · skip
          refine wp_seq_k (fun K22 hK22 => ?_)
          refine region_in ?_
          refine W_v rfl rfl (V_mov rfl l0_18) ?_
          refine W_v rfl rfl (V_nil rfl (et rfl)) ?_
          refine W_v rfl rfl (V_fa (off' := 0) rfl (et rfl) Try.underlying25 rfl (by decide +kernel) rfl) ?_
          refine W_r rfl rfl (VR_ldC rfl (et rfl) (cell_box (v := ov) (hS.obj 0 rfl hmb_ov) rfl) Try.underlying22 rfl) ?_
          refine W_v rfl rfl (V_lenS rfl (et rfl) (ow_at (hS.chq 1 rfl hm_ov)) Try.underlying22) ?_
          refine W_v rfl rfl (V_eql rfl (et rfl) rfl) ?_
          refine W_v rfl rfl (V_asg rfl (et rfl)) ?_
          refine W_end ?_
          refine gen_Q (fun A23 hA23 => ?_)
          have hsz23 := szq hA23
          have hdf23 : A23.defers = [] := by rw [hA23]; simp only [df_put]; exact hdf18
          have l0_23 := lookE hA23 0 (e6 rfl (es rfl l0_18))
          have l1_23 := lookE hA23 1 (e6 rfl (es rfl l1_18))
          have l2_23 := lookE hA23 2 (e6 rfl (es rfl l2_18))
          have l3_23 := lookE hA23 3 (e6 rfl (es rfl l3_18))
          have l23_23 := lookE hA23 23 (et rfl)
          clear hA23 hsz18 hdf18 l0_18 l1_18 l2_18 l3_18 l13_18
          refine then_n (hK22 _ _ ?_)
          clear hK22
          refine cond_dec l23_23 (fun c24 => ?_) (fun c24 => ?_)
          · skip
            refine wp_seq_k (fun K25 hK25 => ?_)
            refine region_in ?_
            refine W_v rfl rfl (V_asg rfl rfl) ?_
            refine W_end ?_
            refine gen_Q (fun A26 hA26 => ?_)
            have hsz26 := szq hA26
            have hdf26 : A26.defers = [] := by rw [hA26]; simp only [df_put]; exact hdf23
            have l5_26 := lookE hA26 5 (et rfl)
            clear hA26 hsz23 hdf23 l0_23 l1_23 l2_23 l3_23 l23_23
            refine then_n (hK25 _ _ ?_)
            clear hK25
            refine wp_ret ?_
            refine inb_ret ?_
            refine then_ret ?_
            refine ret_in (results_1 Try.results57 (rv_tmp l5_26)) hdf26 ?_
            -- leaf FFFFT
            have h : (alX p r (O.map ab).length) = 5 := alX_full (by omega) (by omega) (by rw [List.length_map]; omega)
            have q := al_I (a := a) (rs := rs) (L := (O.map ab)) (p := p) (r := r) (by rw [h]; decide)
            rw [h, q.1]
            exact ⟨_, O, _, rfl, rfl, (hS.fin5 0 rfl (hmb_ov) 1 rfl (hm_ov) 2 rfl (hmp_ov) 3 rfl (hmq_ov) 4 rfl (hm_rv.trans (by rw [q.2])) (by decide))⟩
          · skip
            refine wp_skip ?_
            refine inb_n ?_
            refine then_n (hK3 _ _ ?_)
            clear hK3
            refine wp_seq_k (fun K27 hK27 => ?_)
            refine region_monoS 11 12 [none, none, none, none, none, none, some (SPv [] (fun _ => fun u l' => ∃ v, u = v ∧ ∃ c, c = ow 1 p.toNat v (List.replicate p.toNat (.int .i64 0)) ∧ l' = [c]) 6), none, some (SPv [] (fun _ => fun u l' => ∃ v, u = v ∧ ∃ c, c = ow 1 r.toNat v (List.replicate r.toNat (.int .u64 0)) ∧ l' = [c]) 8), none, some (SPv [36, 38] (fun vs => fun u l' => ∃ g_, u = .slice (some ⟨g_, 0, none⟩) 1 1 ∧ ∃ c_, c_ = ro 2 obC (.slice (some ⟨g_, 0, none⟩) 1 1) [(((vs.getD 0 undef), (List.replicate p.toNat (0 : Int))), ((vs.getD 1 undef), (List.replicate r.toNat (0 : Int))))] ∧ l' = [c_]) 10)] (by kernel_rfl) (by kernel_rfl) ?_
            refine D_v rfl rfl (V_mov rfl l0_23) rfl rfl ?_
            refine D_v rfl rfl (V_mov rfl (es rfl l0_23)) rfl rfl ?_
            refine D_v rfl rfl (V_nil rfl (et rfl)) rfl rfl ?_
            refine D_v rfl rfl (V_fa (off' := 0) rfl (et rfl) Try.underlying25 rfl (by decide +kernel) rfl) rfl rfl ?_
            refine D_r rfl rfl (by kernel_rfl) (fun sx hx hF => (VR_ldC rfl (et rfl) (cell_box (v := ov) ((hS.grow hx).obj 0 rfl hmb_ov) rfl) Try.underlying22 rfl)) rfl rfl ?_
            refine D_r rfl rfl (by kernel_rfl) (fun sx hx hF => (VR_ldC rfl (e4 rfl (es rfl l1_23)) (cell_box (v := .int .i64 (p)) (ob_at ((hS.grow hx).ro hb_p)) rfl) Try.underlying3 rfl)) rfl rfl ?_
            refine D_lay (ts := []) (vs := []) (C0 := fun _ => fun u l' => ∃ v, u = v ∧ ∃ c, c = ow 1 p.toNat v (List.replicate p.toNat (.int .i64 0)) ∧ l' = [c]) (C := fun u l' => ∃ v, u = v ∧ ∃ c, c = ow 1 p.toNat v (List.replicate p.toNat (.int .i64 0)) ∧ l' = [c]) rfl rfl rfl rfl rfl rfl (fun sx hx hF => lay_mk (z := .int .i64 0) (bytes := 8) p.toNat rfl (et rfl) (et rfl) (by omega) Try.underlying23 (by kernel_rfl) (by omega) rfl) (fun u28 l28 hu28 => ?_)
            obtain ⟨v28, rfl, c28, hc28, hl28⟩ := hu28
            replace hc28 : c28 = io .i64 u28 (List.replicate p.toNat (0 : Int)) := hc28.trans (by simp only [io, bo, List.map_replicate, List.length_replicate])
            refine D_r rfl rfl (by kernel_rfl) (fun sx hx hF => (VR_ldC rfl (e6 rfl (es rfl l2_23)) (cell_box (v := .int .i64 (r)) (ob_at ((hS.grow hx).ro hb_r)) rfl) Try.underlying3 rfl)) rfl rfl ?_
            refine D_lay (ts := []) (vs := []) (C0 := fun _ => fun u l' => ∃ v, u = v ∧ ∃ c, c = ow 1 r.toNat v (List.replicate r.toNat (.int .u64 0)) ∧ l' = [c]) (C := fun u l' => ∃ v, u = v ∧ ∃ c, c = ow 1 r.toNat v (List.replicate r.toNat (.int .u64 0)) ∧ l' = [c]) rfl rfl rfl rfl rfl rfl (fun sx hx hF => lay_mk (z := .int .u64 0) (bytes := 8) r.toNat rfl (et rfl) (et rfl) (by omega) Try.underlying38 (by kernel_rfl) (by omega) rfl) (fun u29 l29 hu29 => ?_)
            obtain ⟨v29, rfl, c29, hc29, hl29⟩ := hu29
            replace hc29 : c29 = io .u64 u29 (List.replicate r.toNat (0 : Int)) := hc29.trans (by simp only [io, bo, List.map_replicate, List.length_replicate])
            refine D_r rfl rfl (by kernel_rfl) (fun sx hx hF => by obtain ⟨ll28, ws28, we28, ⟨v28q, hq28, c28_, hc28_, hl28_⟩, hm28, k28, e28⟩ := L.ancF_get (L.ancF_rest hF) (by kernel_rfl); cases hq28; subst hl28_; obtain ⟨ll29, ws29, we29, ⟨v29q, hq29, c29_, hc29_, hl29_⟩, hm29, k29, e29⟩ := L.ancF_get hF (by kernel_rfl); cases hq29; subst hl29_; exact ((V_bldS (n := 2) (z := .agg #[.slice none 0 0, .slice none 0 0]) rfl (parts2 (e2 rfl (et rfl)) (et rfl)) (by kernel_rfl) (by simp only [List.all_cons, List.all_nil, SlN_one (ow_at ((k28.grow e28).chq 0 rfl hc28_)), SlN_one (ow_at ((k29.grow e29).chq 0 rfl hc29_)), Bool.and_true] <;> rfl) (by kernel_rfl) (by simp only [List.foldl_cons, List.foldl_nil, Value.cells, List.setIfInBounds_toArray, List.set_cons_succ, List.set_cons_zero] <;> rfl) : Val _ _ _ _) _)) rfl rfl ?_
            have hll30 : [((u28, (List.replicate p.toNat (0 : Int))), (u29, (List.replicate r.toNat (0 : Int))))].length = 1 := rfl
            refine D_lay (ts := [36, 38]) (vs := [u28, u29]) (C0 := fun vs => fun u l' => ∃ g_, u = .slice (some ⟨g_, 0, none⟩) 1 1 ∧ ∃ c_, c_ = ro 2 obC (.slice (some ⟨g_, 0, none⟩) 1 1) [(((vs.getD 0 undef), (List.replicate p.toNat (0 : Int))), ((vs.getD 1 undef), (List.replicate r.toNat (0 : Int))))] ∧ l' = [c_]) (C := fun u l' => ∃ g_, u = .slice (some ⟨g_, 0, none⟩) 1 1 ∧ ∃ c_, c_ = ro 2 obC (.slice (some ⟨g_, 0, none⟩) 1 1) [((u28, (List.replicate p.toNat (0 : Int))), (u29, (List.replicate r.toNat (0 : Int))))] ∧ l' = [c_]) rfl rfl rfl rfl (ts2 (e3 rfl (et rfl)) (es rfl (et rfl))) rfl (fun sx hx hF => lay_lit (vs := [.agg #[u28, u29]]) 2 rfl (parts1 (et rfl)) rfl Try.underlying22 (by kernel_rfl) (by decide) (by intro v hv; simp only [List.mem_cons, List.not_mem_nil, or_false] at hv; rcases hv with rfl <;> rfl) (by rfl)) (fun u30 l30 hu30 => ?_)
            obtain ⟨g30, rfl, c30, hc30, hl30⟩ := hu30
            refine D_eff rfl ?_
            refine ZS_eff hS rfl rfl (fun s31 hJ31 hL31 hF31 => ?_)
            obtain ⟨ll28, ws28, we28, ⟨v28q, hq28, c28r, hc28r, hl28r⟩, hm28, k28, e28⟩ := L.all_get (L.all_rest (L.all_rest hF31)); cases hq28; subst hl28r
            replace hJ31 := hJ31.add hL31 (i := 6) rfl hm28 k28 e28
            replace hc28r : c28r = io .i64 u28 (List.replicate p.toNat (0 : Int)) := hc28r.trans (by simp only [io, bo, List.map_replicate, List.length_replicate])
            obtain ⟨ll29, ws29, we29, ⟨v29q, hq29, c29r, hc29r, hl29r⟩, hm29, k29, e29⟩ := L.all_get (L.all_rest hF31); cases hq29; subst hl29r
            replace hJ31 := hJ31.add hL31 (i := 8) rfl hm29 k29 e29
            replace hc29r : c29r = io .u64 u29 (List.replicate r.toNat (0 : Int)) := hc29r.trans (by simp only [io, bo, List.map_replicate, List.length_replicate])
            obtain ⟨ll30, ws30, we30, ⟨g30q, hq30, c30r, hc30r, hl30r⟩, hm30, k30, e30⟩ := L.all_get hF31; cases hq30; subst hl30r
            replace hJ31 := hJ31.add hL31 (i := 10) rfl hm30 k30 e30
            have hS31 := hJ31.st; clear hF31 hJ31 hL31
            generalize s31.1 = w31 at *
            replace hS31 : St w Y [c30r, c29r, c28r, mb_ov, m_ov, mp_ov, mq_ov, m_rv] w31 := hS31
            refine W_appS 2 4 hS31 rfl hm_ov rfl rfl rfl (e6 rfl (et rfl)) (et rfl) Try.underlying22 Try.underlying22 (z := .agg #[.slice none 0 0, .slice none 0 0]) (bytes := 48) (by kernel_rfl) rfl (by decide) (ow_at (hS31.chq 0 rfl hc30r)) (by intro u hu; simp only [List.flatMap_cons, List.flatMap_nil, obC, List.append_nil, List.cons_append, List.nil_append, List.mem_cons, List.not_mem_nil, or_false] at hu; rcases hu with rfl | rfl <;> first | exact SlN_one (ow_at (hS31.chq 2 rfl hc28r)) | exact SlN_one (ow_at (hS31.chq 1 rfl hc29r))) (by first | omega | (simp; done) | (simp; omega)) (by first | omega | (simp; done) | (simp; omega)) (fun v32 w32 c32 hc32 hS32 => ?_)
            replace hc32 : c32 = ro 2 obC v32 (O ++ [((u28, (List.replicate p.toNat (0 : Int))), (u29, (List.replicate r.toNat (0 : Int))))]) := hc32.trans (app_eqR (by simp))
            replace hS32 : St w Y [c30r, c29r, c28r, mb_ov, c32, mp_ov, mq_ov, m_rv] w32 := hS32
            have hS33 := hS32.sel [2, 5, 1, 6, 0, 3, 4, 7] (by decide) (l' := [c28r, mp_ov, c29r, mq_ov, c30r, mb_ov, c32, m_rv]) rfl
            replace hS33 : St w Y [c28r, mp_ov, c29r, mq_ov, c30r, mb_ov, c32, m_rv] w32 := hS33
            rw [hc28r, hmp_ov, hc29r, hmq_ov] at hS33
            obtain ⟨c34, cb34, hc34, hcb34, hS34⟩ := gen2 (nst_push (pv := u28) (ps := (List.replicate p.toNat (0 : Int))) (qv := u29) (qs := (List.replicate r.toNat (0 : Int))) (O := O) hS33)
            replace hS34 : St w Y [c34, cb34, c30r, mb_ov, c32, m_rv] w32 := hS34
            replace hc34 : c34 = owl .i64 ((O ++ [((u28, (List.replicate p.toNat (0 : Int))), (u29, (List.replicate r.toNat (0 : Int))))]).map (·.1)) := hc34
            replace hcb34 : cb34 = owl .u64 ((O ++ [((u28, (List.replicate p.toNat (0 : Int))), (u29, (List.replicate r.toNat (0 : Int))))]).map (·.2)) := hcb34
            refine W_v rfl rfl (V_nil rfl (e11 rfl (et rfl))) ?_
            refine W_v rfl rfl (V_fa (off' := 0) rfl (et rfl) Try.underlying25 rfl (by decide +kernel) rfl) ?_
            refine W_stCS (zs' := #[v32, rv]) 3 hS34 rfl hmb_ov rfl rfl rfl (et rfl) (e2 rfl (et rfl)) (SlN_one (ow_at (hS34.chq 4 rfl hc32))) (by rfl) (by kernel_rfl) (by first | rfl | (simp only [List.setIfInBounds_toArray, List.set_cons_succ, List.set_cons_zero] <;> rfl)) (fun w35 c35 hc35 hS35 => ?_)
            replace hS35 : St w Y [c34, cb34, c30r, c35, c32, m_rv] w35 := hS35
            refine W_end ?_
            refine Qo_normal ?_
            refine gen_Q (fun A36 hA36 => ?_)
            have hsz36 := szq hA36
            have hdf36 : A36.defers = [] := by rw [hA36]; simp only [df_put]; exact hdf23
            have l0_36 := lookE hA36 0 (e13 rfl (es rfl l0_23))
            have l3_36 := lookE hA36 3 (e13 rfl (es rfl l3_23))
            clear hA36 hsz23 hdf23 l0_23 l1_23 l2_23 l3_23 l23_23
            have hS37 : St w Y [c34, cb34, c35, c32, m_rv] w35 := hS35.sel [0, 1, 3, 4, 5] (by decide) rfl
            refine then_n (hK27 _ _ ?_)
            clear hK27
            refine wp_seq_k (fun K38 hK38 => ?_)
            refine region_monoS 11 12 [] (by kernel_rfl) (by kernel_rfl) ?_
            refine D_v rfl rfl (V_mov rfl l0_36) rfl rfl ?_
            refine D_v rfl rfl (V_nil rfl (et rfl)) rfl rfl ?_
            refine D_v rfl rfl (V_fa (off' := 1) rfl (et rfl) Try.underlying25 rfl (by decide +kernel) rfl) rfl rfl ?_
            refine D_r rfl rfl (by kernel_rfl) (fun sx hx hF => (VR_ldC rfl (et rfl) (cell_box (v := rv) ((hS37.grow hx).obj 2 rfl hc35) rfl) Try.underlying23 rfl)) rfl rfl ?_
            refine D_r rfl rfl (by kernel_rfl) (fun sx hx hF => (VR_ldC rfl (e3 rfl (es rfl l3_36)) (cell_box (v := .int .i64 (a)) (ob_at ((hS37.grow hx).ro hb_a)) rfl) Try.underlying3 rfl)) rfl rfl ?_
            refine D_v rfl rfl (V_mov rfl (e4 rfl (es rfl l0_36))) rfl rfl ?_
            refine D_v rfl rfl (V_nil rfl (et rfl)) rfl rfl ?_
            refine D_v rfl rfl (V_fa (off' := 0) rfl (et rfl) Try.underlying25 rfl (by decide +kernel) rfl) rfl rfl ?_
            refine D_r rfl rfl (by kernel_rfl) (fun sx hx hF => (VR_ldC rfl (et rfl) (cell_box (v := v32) ((hS37.grow hx).obj 2 rfl hc35) rfl) Try.underlying22 rfl)) rfl rfl ?_
            refine D_v rfl rfl (V_lenS rfl (et rfl) (ow_at (hS37.chq 3 rfl hc32)) Try.underlying22) rfl rfl ?_
            have k39 : a.toNat < rs.length := by first | omega | (simp only [List.length_cons, List.length_nil]; omega) | (simp only [List.length_set]; omega)
            obtain ⟨y39, hy39⟩ := get_some (xs := rs) (k := a.toNat) k39
            obtain ⟨B39, O39, C39, hv39⟩ := (SlN.blk (ow_at (hS37.chq 4 rfl hm_rv)) (by first | omega | (simp only [List.length_cons, List.length_nil]; omega) | (simp only [List.length_set]; omega)))
            refine D_v rfl rfl (V_ixS (off := O39 + a.toNat) 1 (a.toNat) rfl (e6 rfl (et rfl)) (e5 rfl (et rfl)) hv39 (by omega) k39 Try.underlying23 (by kernel_rfl) (congrArg _ (Nat.mul_one _))) rfl rfl ?_
            refine D_eff rfl ?_
            refine ZS_eff hS37 rfl rfl (fun s40 hJ40 hL40 hF40 => ?_)
            have hS40 := hJ40.st; clear hF40 hJ40 hL40
            generalize s40.1 = w40 at *
            replace hS40 : St w Y [c34, cb34, c35, c32, m_rv] w40 := hS40
            refine W_stE 4 hS40 rfl hm_rv hv39 rfl rfl rfl (et rfl) (es rfl (et rfl)) (by rfl) rfl (by first | (simp only [List.length_map]; omega) | omega) (by kernel_rfl) (fun w41 c41 hc41 hS41 => ?_)
            replace hc41 : c41 = io .i64 rv (rs.set a.toNat ((O ++ [((u28, (List.replicate p.toNat (0 : Int))), (u29, (List.replicate r.toNat (0 : Int))))]).length : Int)) := hc41.trans (by simp [io, bo, List.map_set] <;> rfl)
            replace hS41 : St w Y [c34, cb34, c35, c32, c41] w41 := hS41
            refine W_end ?_
            refine Qo_normal ?_
            refine gen_Q (fun A42 hA42 => ?_)
            have hsz42 := szq hA42
            have hdf42 : A42.defers = [] := by rw [hA42]; simp only [df_put]; exact hdf36
            clear hA42 hsz36 hdf36 l0_36 l3_36
            refine then_n (hK38 _ _ ?_)
            clear hK38
            refine wp_seq_k (fun K43 hK43 => ?_)
            refine region_in ?_
            refine W_v rfl rfl (V_asg rfl rfl) ?_
            refine W_end ?_
            refine gen_Q (fun A44 hA44 => ?_)
            have hsz44 := szq hA44
            have hdf44 : A44.defers = [] := by rw [hA44]; simp only [df_put]; exact hdf42
            have l5_44 := lookE hA44 5 (et rfl)
            clear hA44 hsz42 hdf42
            refine then_n (hK43 _ _ ?_)
            clear hK43
            refine wp_ret ?_
            refine ret_in (results_1 Try.results57 (rv_tmp l5_44)) hdf44 ?_
            -- leaf FFFFF
            have h : (alX p r (O.map ab).length) = 0 := alX_ok (by omega) (by omega) (by rw [List.length_map]; omega)
            have q := al_J (a := a) (rs := rs) (L := (O.map ab)) h
            rw [h, q.1]
            exact ⟨_, (O ++ [((u28, (List.replicate p.toNat (0 : Int))), (u29, (List.replicate r.toNat (0 : Int))))]), _, rfl, al_map, (hS41.fin5 2 rfl (hc35) 3 rfl (hc32) 0 rfl (hc34) 1 rfl (hcb34) 4 rfl (hc41.trans ((congrArg (fun z => io .i64 _ (rs.set a.toNat z)) (show _ = (((O.map ab).length : Nat) : Int) + 1 by simp)).trans (by rw [q.2]))) (by decide))⟩

set_option maxHeartbeats 4000000 in
theorem kLd1_c {ov : Value} {O : List Ob} {rv : Value} {rs : List Int} {gov : Nat} {b : Int} {gb : Nat} {f : Int} {gf : Nat} {a : Int} {ga : Nat} {w : World} {Y : Nat → Prop} (hb_b : Ro w Y (bx gb 3 #[.int .i64 b])) (hb_f : Ro w Y (bx gf 3 #[.int .i64 f])) (hb_a : Ro w Y (bx ga 3 #[.int .i64 a])) (hS : St w Y [bx gov 25 #[ov, rv], ro 2 obC ov O, owl .i64 (O.map (·.1)), owl .u64 (O.map (·.2)), io .i64 rv rs] w) (hrg : ∀ p ∈ rs, 0 ≤ p ∧ p ≤ (O.length : Int)) (ha : 0 ≤ a ∧ a < (rs.length : Int)) (hb : 0 ≤ b ∧ b < (rs.length : Int)) :
    Calls Try.prog 53 #[.pointer (some ⟨gov, 0, none⟩), .pointer (some ⟨gb, 0, none⟩), .pointer (some ⟨gf, 0, none⟩), .pointer (some ⟨ga, 0, none⟩)] w fun e w' => ∃ hv H qv, e = .returned (.int .i64 (ldX (O.map ab) rs b f)) ∧ (H.map ab = (O.map ab)) ∧ St w Y [bx gov 25 #[hv, qv], ro 2 obC hv H, owl .i64 (H.map (·.1)), owl .u64 (H.map (·.2)), io .i64 (qv) (ldJ (O.map ab) rs a b f)] w' := by
  refine calls_in 22 Try.func53 rfl rfl (by simp) (fun A0 hsz0 hdf0 hargs => ?_)
  have l0_0 := hargs 0 (.pointer (some ⟨gov, 0, none⟩)) rfl
  have l1_0 := hargs 1 (.pointer (some ⟨gb, 0, none⟩)) rfl
  have l2_0 := hargs 2 (.pointer (some ⟨gf, 0, none⟩)) rfl
  have l3_0 := hargs 3 (.pointer (some ⟨ga, 0, none⟩)) rfl
  clear hargs; replace hsz0 : SzN A0 22 := ⟨hsz0⟩
  obtain ⟨mb_ov, m_ov, mp_ov, mq_ov, m_rv, hmb_ov, hm_ov, hmp_ov, hmq_ov, hm_rv, hS⟩ := gen5 hS
  replace hS : St w Y [mb_ov, m_ov, mp_ov, mq_ov, m_rv] w := hS
  have bm_ov := SlN.le (ow_at (hS.chq 1 rfl hm_ov))
  have bm_rv := SlN.le (ow_at (hS.chq 4 rfl hm_rv))
  refine wp_seq_k (fun K1 hK1 => ?_)
  refine region_in ?_
  refine W_v rfl rfl (V_asg rfl rfl) ?_
  refine W_end ?_
  refine gen_Q (fun A2 hA2 => ?_)
  have hsz2 := szq hA2
  have hdf2 : A2.defers = [] := by rw [hA2]; simp only [df_put]; exact hdf0
  have l0_2 := lookE hA2 0 (es rfl l0_0)
  have l1_2 := lookE hA2 1 (es rfl l1_0)
  have l2_2 := lookE hA2 2 (es rfl l2_0)
  have l3_2 := lookE hA2 3 (es rfl l3_0)
  clear hA2 hsz0 hdf0 l0_0 l1_0 l2_0 l3_0
  refine then_n (hK1 _ _ ?_)
  clear hK1
  refine wp_seq_k (fun K3 hK3 => ?_)
  refine region_in ?_
  refine W_v rfl rfl (V_mov rfl l0_2) ?_
  refine W_r rfl rfl (VR_ldC rfl (es rfl l1_2) (cell_box (v := .int .i64 (b)) (ob_at (hS.ro hb_b)) rfl) Try.underlying3 rfl) ?_
  refine W_r rfl rfl (VR_ldC rfl (es rfl (es rfl l2_2)) (cell_box (v := .int .i64 (f)) (ob_at (hS.ro hb_f)) rfl) Try.underlying3 rfl) ?_
  refine W_call rfl rfl rfl Try.func54 (by kernel_rfl) rfl (args3 (e2 rfl (et rfl)) (es rfl (et rfl)) (et rfl)) (kpt_c (gov := gov) (a := b) (f := f) (hS.chC 1 rfl hm_ov).own (nst_of (hS.chC 2 rfl hmp_ov) (hS.chC 3 rfl hmq_ov)) (hS.chC 4 rfl hm_rv).own (hS.chC 0 rfl hmb_ov) (by first | with_reducible assumption | (have q := hG.reg; simpa using q)) (by first | omega | with_reducible assumption)) ?_
  rintro _ w4 (⟨rfl, hz_4, hP4⟩ | ⟨B_4, O_4, C_4, y_4, x_4, rfl, hv_4, hy_4, hx_4, hz_4, hob_4, hP4⟩)
  · refine ⟨_, rfl, ?_⟩
    have hS4 := hS.join hP4
    replace hS4 : St w Y [mb_ov, m_ov, mp_ov, mq_ov, m_rv] w4 := hS4
    refine W_v rfl rfl (V_asg rfl (et rfl)) ?_
    refine W_end ?_
    refine gen_Q (fun A5 hA5 => ?_)
    have hsz5 := szq hA5
    have hdf5 : A5.defers = [] := by rw [hA5]; simp only [df_put]; exact hdf2
    have l0_5 := lookE hA5 0 (e4 rfl (es rfl l0_2))
    have l3_5 := lookE hA5 3 (e4 rfl (es rfl l3_2))
    have l6_5 := lookE hA5 6 (et rfl)
    clear hA5 hsz2 hdf2 l0_2 l1_2 l2_2 l3_2
    refine then_n (hK3 _ _ ?_)
    clear hK3
    refine wp_seq_k (fun K6 hK6 => ?_)
    refine wp_seq_k (fun K7 hK7 => ?_)
    refine region_in ?_
    refine W_v rfl rfl (V_mov rfl l6_5) ?_
    refine W_v rfl rfl (V_eqNN rfl (et rfl) rfl Try.underlying74) ?_
    refine W_end ?_
    refine gen_Q (fun A8 hA8 => ?_)
    have hsz8 := szq hA8
    have hdf8 : A8.defers = [] := by rw [hA8]; simp only [df_put]; exact hdf5
    have l0_8 := lookE hA8 0 (es rfl (es rfl l0_5))
    have l3_8 := lookE hA8 3 (es rfl (es rfl l3_5))
    have l6_8 := lookE hA8 6 (es rfl (es rfl l6_5))
    have l12_8 := lookE hA8 12 (et rfl)
    clear hA8 hsz5 hdf5 l0_5 l3_5 l6_5
    refine then_n (hK7 _ _ ?_)
    clear hK7
    refine cond_t l12_8 ?_
    refine wp_seq_k (fun K9 hK9 => ?_)
    refine region_in ?_
    refine W_v rfl rfl (V_asg rfl rfl) ?_
    refine W_end ?_
    refine gen_Q (fun A10 hA10 => ?_)
    have hsz10 := szq hA10
    have hdf10 : A10.defers = [] := by rw [hA10]; simp only [df_put]; exact hdf8
    have l5_10 := lookE hA10 5 (et rfl)
    clear hA10 hsz8 hdf8 l0_8 l3_8 l6_8 l12_8
    refine then_n (hK9 _ _ ?_)
    clear hK9
    refine wp_ret ?_
    refine then_ret ?_
    refine ret_in (results_1 Try.results53 (rv_tmp l5_10)) hdf10 ?_
    -- leaf n
    rw [ldX_n hz_4]
    exact ⟨_, O, _, rfl, rfl, (hS4.fin5 0 rfl (hmb_ov) 1 rfl (hm_ov) 2 rfl (hmp_ov) 3 rfl (hmq_ov) 4 rfl (hm_rv.trans (by rw [ldJ_n hz_4])) (by decide))⟩
  · refine ⟨_, rfl, ?_⟩
    have hS4 := hS.join hP4
    replace hS4 : St w Y [mb_ov, m_ov, mp_ov, mq_ov, m_rv] w4 := hS4
    have bfn11 := SlN.le (sl_SlN (owl_at (mapE (g := (·.1)) hy_4) (hS4.chq 2 rfl hmp_ov)))
    have bfn12 := SlN.le (sl_SlN (owl_at (mapE (g := (·.2)) hy_4) (hS4.chq 3 rfl hmq_ov)))
    refine W_v rfl rfl (V_asg rfl (et rfl)) ?_
    refine W_end ?_
    refine gen_Q (fun A13 hA13 => ?_)
    have hsz13 := szq hA13
    have hdf13 : A13.defers = [] := by rw [hA13]; simp only [df_put]; exact hdf2
    have l0_13 := lookE hA13 0 (e4 rfl (es rfl l0_2))
    have l3_13 := lookE hA13 3 (e4 rfl (es rfl l3_2))
    have l6_13 := lookE hA13 6 (et rfl)
    clear hA13 hsz2 hdf2 l0_2 l1_2 l2_2 l3_2
    refine then_n (hK3 _ _ ?_)
    clear hK3
    refine wp_seq_k (fun K14 hK14 => ?_)
    refine wp_seq_k (fun K15 hK15 => ?_)
    refine region_in ?_
    refine W_v rfl rfl (V_mov rfl l6_13) ?_
    refine W_v rfl rfl (V_eqPN rfl (et rfl) rfl Try.underlying74) ?_
    refine W_end ?_
    refine gen_Q (fun A16 hA16 => ?_)
    have hsz16 := szq hA16
    have hdf16 : A16.defers = [] := by rw [hA16]; simp only [df_put]; exact hdf13
    have l0_16 := lookE hA16 0 (es rfl (es rfl l0_13))
    have l3_16 := lookE hA16 3 (es rfl (es rfl l3_13))
    have l6_16 := lookE hA16 6 (es rfl (es rfl l6_13))
    have l12_16 := lookE hA16 12 (et rfl)
    clear hA16 hsz13 hdf13 l0_13 l3_13 l6_13
    refine then_n (hK15 _ _ ?_)
    clear hK15
    refine cond_f l12_16 ?_
    refine wp_skip ?_
    refine then_n (hK14 _ _ ?_)
    clear hK14
    refine wp_seq_k (fun K17 hK17 => ?_)
    refine region_monoS 9 10 [] (by kernel_rfl) (by kernel_rfl) ?_
    refine D_v rfl rfl (V_mov rfl l0_16) rfl rfl ?_
    refine D_v rfl rfl (V_nil rfl (et rfl)) rfl rfl ?_
    refine D_v rfl rfl (V_fa (off' := 1) rfl (et rfl) Try.underlying25 rfl (by decide +kernel) rfl) rfl rfl ?_
    refine D_r rfl rfl (by kernel_rfl) (fun sx hx hF => (VR_ldC rfl (et rfl) (cell_box (v := rv) ((hS4.grow hx).obj 0 rfl hmb_ov) rfl) Try.underlying23 rfl)) rfl rfl ?_
    refine D_r rfl rfl (by kernel_rfl) (fun sx hx hF => (VR_ldC rfl (e3 rfl (es rfl l3_16)) (cell_box (v := .int .i64 (a)) (ob_at ((hS4.grow hx).ro hb_a)) rfl) Try.underlying3 rfl)) rfl rfl ?_
    refine D_v rfl rfl (V_mov rfl (e4 rfl (es rfl l6_16))) rfl rfl ?_
    refine D_v rfl rfl (V_nil rfl (et rfl)) rfl rfl ?_
    refine D_r rfl rfl (by kernel_rfl) (fun sx hx hF => (VR_ldC rfl (et rfl) ((sl_SlN (owl_at (mapE (g := (·.1)) hy_4) ((hS4.grow hx).chq 2 rfl hmp_ov))).cell hv_4 (map_get hx_4)) Try.underlying3 rfl)) rfl rfl ?_
    have k18 : a.toNat < rs.length := by first | omega | (simp only [List.length_cons, List.length_nil]; omega) | (simp only [List.length_set]; omega)
    obtain ⟨y18, hy18⟩ := get_some (xs := rs) (k := a.toNat) k18
    obtain ⟨B18, O18, C18, hv18⟩ := (SlN.blk (ow_at (hS4.chq 4 rfl hm_rv)) (by first | omega | (simp only [List.length_cons, List.length_nil]; omega) | (simp only [List.length_set]; omega)))
    refine D_v rfl rfl (V_ixS (off := O18 + a.toNat) 1 (a.toNat) rfl (e4 rfl (et rfl)) (e3 rfl (et rfl)) hv18 (by omega) k18 Try.underlying23 (by kernel_rfl) (congrArg _ (Nat.mul_one _))) rfl rfl ?_
    refine D_eff rfl ?_
    refine ZS_eff hS4 rfl rfl (fun s19 hJ19 hL19 hF19 => ?_)
    have hS19 := hJ19.st; clear hF19 hJ19 hL19
    generalize s19.1 = w19 at *
    replace hS19 : St w Y [mb_ov, m_ov, mp_ov, mq_ov, m_rv] w19 := hS19
    refine W_stE 4 hS19 rfl hm_rv hv18 rfl rfl rfl (et rfl) (es rfl (et rfl)) (by rfl) rfl (by first | (simp only [List.length_map]; omega) | omega) (by kernel_rfl) (fun w20 c20 hc20 hS20 => ?_)
    replace hc20 : c20 = io .i64 rv (rs.set a.toNat x_4) := hc20.trans (by simp [io, bo, List.map_set] <;> rfl)
    replace hS20 : St w Y [mb_ov, m_ov, mp_ov, mq_ov, c20] w20 := hS20
    refine W_end ?_
    refine Qo_normal ?_
    refine gen_Q (fun A21 hA21 => ?_)
    have hsz21 := szq hA21
    have hdf21 : A21.defers = [] := by rw [hA21]; simp only [df_put]; exact hdf16
    clear hA21 hsz16 hdf16 l0_16 l3_16 l6_16 l12_16
    refine then_n (hK17 _ _ ?_)
    clear hK17
    refine wp_seq_k (fun K22 hK22 => ?_)
    refine region_in ?_
    refine W_v rfl rfl (V_asg rfl rfl) ?_
    refine W_end ?_
    refine gen_Q (fun A23 hA23 => ?_)
    have hsz23 := szq hA23
    have hdf23 : A23.defers = [] := by rw [hA23]; simp only [df_put]; exact hdf21
    have l5_23 := lookE hA23 5 (et rfl)
    clear hA23 hsz21 hdf21
    refine then_n (hK22 _ _ ?_)
    clear hK22
    refine wp_ret ?_
    refine ret_in (results_1 Try.results53 (rv_tmp l5_23)) hdf23 ?_
    -- leaf s
    rw [ldX_k hz_4]
    exact ⟨_, O, _, rfl, rfl, (hS20.fin5 0 rfl (hmb_ov) 1 rfl (hm_ov) 2 rfl (hmp_ov) 3 rfl (hmq_ov) 4 rfl (hc20.trans ((congrArg (fun z => io .i64 _ (rs.set a.toNat z)) (getD_at hx_4).symm).trans (by rw [ldJ_k hz_4, hob_4] <;> rfl))) (by decide))⟩

set_option maxHeartbeats 4000000 in
theorem kSo1_c {ov : Value} {O : List Ob} {rv : Value} {rs : List Int} {gov : Nat} {a : Int} {ga : Nat} {f : Int} {gf : Nat} {b : Int} {gb : Nat} {w : World} {Y : Nat → Prop} (hb_a : Ro w Y (bx ga 3 #[.int .i64 a])) (hb_f : Ro w Y (bx gf 3 #[.int .i64 f])) (hb_b : Ro w Y (bx gb 3 #[.int .i64 b])) (hS : St w Y [bx gov 25 #[ov, rv], ro 2 obC ov O, owl .i64 (O.map (·.1)), owl .u64 (O.map (·.2)), io .i64 rv rs] w) (hrg : ∀ p ∈ rs, 0 ≤ p ∧ p ≤ (O.length : Int)) (ha : 0 ≤ a ∧ a < (rs.length : Int)) (hb : 0 ≤ b ∧ b < (rs.length : Int)) :
    Calls Try.prog 56 #[.pointer (some ⟨gov, 0, none⟩), .pointer (some ⟨ga, 0, none⟩), .pointer (some ⟨gf, 0, none⟩), .pointer (some ⟨gb, 0, none⟩)] w fun e w' => ∃ hv H qv, e = .returned (.int .i64 (ldX (O.map ab) rs a f)) ∧ (H.map ab = soI (O.map ab) rs a f b) ∧ St w Y [bx gov 25 #[hv, qv], ro 2 obC hv H, owl .i64 (H.map (·.1)), owl .u64 (H.map (·.2)), io .i64 (qv) rs] w' := by
  refine calls_in 22 Try.func56 rfl rfl (by simp) (fun A0 hsz0 hdf0 hargs => ?_)
  have l0_0 := hargs 0 (.pointer (some ⟨gov, 0, none⟩)) rfl
  have l1_0 := hargs 1 (.pointer (some ⟨ga, 0, none⟩)) rfl
  have l2_0 := hargs 2 (.pointer (some ⟨gf, 0, none⟩)) rfl
  have l3_0 := hargs 3 (.pointer (some ⟨gb, 0, none⟩)) rfl
  clear hargs; replace hsz0 : SzN A0 22 := ⟨hsz0⟩
  obtain ⟨mb_ov, m_ov, mp_ov, mq_ov, m_rv, hmb_ov, hm_ov, hmp_ov, hmq_ov, hm_rv, hS⟩ := gen5 hS
  replace hS : St w Y [mb_ov, m_ov, mp_ov, mq_ov, m_rv] w := hS
  have bm_ov := SlN.le (ow_at (hS.chq 1 rfl hm_ov))
  have bm_rv := SlN.le (ow_at (hS.chq 4 rfl hm_rv))
  refine wp_seq_k (fun K1 hK1 => ?_)
  refine region_in ?_
  refine W_v rfl rfl (V_asg rfl rfl) ?_
  refine W_end ?_
  refine gen_Q (fun A2 hA2 => ?_)
  have hsz2 := szq hA2
  have hdf2 : A2.defers = [] := by rw [hA2]; simp only [df_put]; exact hdf0
  have l0_2 := lookE hA2 0 (es rfl l0_0)
  have l1_2 := lookE hA2 1 (es rfl l1_0)
  have l2_2 := lookE hA2 2 (es rfl l2_0)
  have l3_2 := lookE hA2 3 (es rfl l3_0)
  clear hA2 hsz0 hdf0 l0_0 l1_0 l2_0 l3_0
  refine then_n (hK1 _ _ ?_)
  clear hK1
  refine wp_seq_k (fun K3 hK3 => ?_)
  refine region_in ?_
  refine W_v rfl rfl (V_mov rfl l0_2) ?_
  refine W_r rfl rfl (VR_ldC rfl (es rfl l1_2) (cell_box (v := .int .i64 (a)) (ob_at (hS.ro hb_a)) rfl) Try.underlying3 rfl) ?_
  refine W_r rfl rfl (VR_ldC rfl (es rfl (es rfl l2_2)) (cell_box (v := .int .i64 (f)) (ob_at (hS.ro hb_f)) rfl) Try.underlying3 rfl) ?_
  refine W_call rfl rfl rfl Try.func54 (by kernel_rfl) rfl (args3 (e2 rfl (et rfl)) (es rfl (et rfl)) (et rfl)) (kpt_c (gov := gov) (a := a) (f := f) (hS.chC 1 rfl hm_ov).own (nst_of (hS.chC 2 rfl hmp_ov) (hS.chC 3 rfl hmq_ov)) (hS.chC 4 rfl hm_rv).own (hS.chC 0 rfl hmb_ov) (by first | with_reducible assumption | (have q := hG.reg; simpa using q)) (by first | omega | with_reducible assumption)) ?_
  rintro _ w4 (⟨rfl, hz_4, hP4⟩ | ⟨B_4, O_4, C_4, y_4, x_4, rfl, hv_4, hy_4, hx_4, hz_4, hob_4, hP4⟩)
  · refine ⟨_, rfl, ?_⟩
    have hS4 := hS.join hP4
    replace hS4 : St w Y [mb_ov, m_ov, mp_ov, mq_ov, m_rv] w4 := hS4
    refine W_v rfl rfl (V_asg rfl (et rfl)) ?_
    refine W_end ?_
    refine gen_Q (fun A5 hA5 => ?_)
    have hsz5 := szq hA5
    have hdf5 : A5.defers = [] := by rw [hA5]; simp only [df_put]; exact hdf2
    have l0_5 := lookE hA5 0 (e4 rfl (es rfl l0_2))
    have l3_5 := lookE hA5 3 (e4 rfl (es rfl l3_2))
    have l6_5 := lookE hA5 6 (et rfl)
    clear hA5 hsz2 hdf2 l0_2 l1_2 l2_2 l3_2
    refine then_n (hK3 _ _ ?_)
    clear hK3
    refine wp_seq_k (fun K6 hK6 => ?_)
    refine wp_seq_k (fun K7 hK7 => ?_)
    refine region_in ?_
    refine W_v rfl rfl (V_mov rfl l6_5) ?_
    refine W_v rfl rfl (V_eqNN rfl (et rfl) rfl Try.underlying74) ?_
    refine W_end ?_
    refine gen_Q (fun A8 hA8 => ?_)
    have hsz8 := szq hA8
    have hdf8 : A8.defers = [] := by rw [hA8]; simp only [df_put]; exact hdf5
    have l0_8 := lookE hA8 0 (es rfl (es rfl l0_5))
    have l3_8 := lookE hA8 3 (es rfl (es rfl l3_5))
    have l6_8 := lookE hA8 6 (es rfl (es rfl l6_5))
    have l12_8 := lookE hA8 12 (et rfl)
    clear hA8 hsz5 hdf5 l0_5 l3_5 l6_5
    refine then_n (hK7 _ _ ?_)
    clear hK7
    refine cond_t l12_8 ?_
    refine wp_seq_k (fun K9 hK9 => ?_)
    refine region_in ?_
    refine W_v rfl rfl (V_asg rfl rfl) ?_
    refine W_end ?_
    refine gen_Q (fun A10 hA10 => ?_)
    have hsz10 := szq hA10
    have hdf10 : A10.defers = [] := by rw [hA10]; simp only [df_put]; exact hdf8
    have l5_10 := lookE hA10 5 (et rfl)
    clear hA10 hsz8 hdf8 l0_8 l3_8 l6_8 l12_8
    refine then_n (hK9 _ _ ?_)
    clear hK9
    refine wp_ret ?_
    refine then_ret ?_
    refine ret_in (results_1 Try.results56 (rv_tmp l5_10)) hdf10 ?_
    -- leaf n
    rw [ldX_n hz_4, soI_n hz_4]
    exact ⟨_, O, _, rfl, rfl, (hS4.fin5 0 rfl (hmb_ov) 1 rfl (hm_ov) 2 rfl (hmp_ov) 3 rfl (hmq_ov) 4 rfl (hm_rv) (by decide))⟩
  · refine ⟨_, rfl, ?_⟩
    have hS4 := hS.join hP4
    replace hS4 : St w Y [mb_ov, m_ov, mp_ov, mq_ov, m_rv] w4 := hS4
    have bfn11 := SlN.le (sl_SlN (owl_at (mapE (g := (·.1)) hy_4) (hS4.chq 2 rfl hmp_ov)))
    have bfn12 := SlN.le (sl_SlN (owl_at (mapE (g := (·.2)) hy_4) (hS4.chq 3 rfl hmq_ov)))
    refine W_v rfl rfl (V_asg rfl (et rfl)) ?_
    refine W_end ?_
    refine gen_Q (fun A13 hA13 => ?_)
    have hsz13 := szq hA13
    have hdf13 : A13.defers = [] := by rw [hA13]; simp only [df_put]; exact hdf2
    have l0_13 := lookE hA13 0 (e4 rfl (es rfl l0_2))
    have l3_13 := lookE hA13 3 (e4 rfl (es rfl l3_2))
    have l6_13 := lookE hA13 6 (et rfl)
    clear hA13 hsz2 hdf2 l0_2 l1_2 l2_2 l3_2
    refine then_n (hK3 _ _ ?_)
    clear hK3
    refine wp_seq_k (fun K14 hK14 => ?_)
    refine wp_seq_k (fun K15 hK15 => ?_)
    refine region_in ?_
    refine W_v rfl rfl (V_mov rfl l6_13) ?_
    refine W_v rfl rfl (V_eqPN rfl (et rfl) rfl Try.underlying74) ?_
    refine W_end ?_
    refine gen_Q (fun A16 hA16 => ?_)
    have hsz16 := szq hA16
    have hdf16 : A16.defers = [] := by rw [hA16]; simp only [df_put]; exact hdf13
    have l0_16 := lookE hA16 0 (es rfl (es rfl l0_13))
    have l3_16 := lookE hA16 3 (es rfl (es rfl l3_13))
    have l6_16 := lookE hA16 6 (es rfl (es rfl l6_13))
    have l12_16 := lookE hA16 12 (et rfl)
    clear hA16 hsz13 hdf13 l0_13 l3_13 l6_13
    refine then_n (hK15 _ _ ?_)
    clear hK15
    refine cond_f l12_16 ?_
    refine wp_skip ?_
    refine then_n (hK14 _ _ ?_)
    clear hK14
    refine wp_seq_k (fun K17 hK17 => ?_)
    refine region_monoS 9 10 [] (by kernel_rfl) (by kernel_rfl) ?_
    refine D_v rfl rfl (V_mov rfl l6_16) rfl rfl ?_
    refine D_v rfl rfl (V_mov rfl (es rfl l0_16)) rfl rfl ?_
    refine D_v rfl rfl (V_nil rfl (et rfl)) rfl rfl ?_
    refine D_v rfl rfl (V_fa (off' := 1) rfl (et rfl) Try.underlying25 rfl (by decide +kernel) rfl) rfl rfl ?_
    refine D_r rfl rfl (by kernel_rfl) (fun sx hx hF => (VR_ldC rfl (et rfl) (cell_box (v := rv) ((hS4.grow hx).obj 0 rfl hmb_ov) rfl) Try.underlying23 rfl)) rfl rfl ?_
    refine D_r rfl rfl (by kernel_rfl) (fun sx hx hF => (VR_ldC rfl (e4 rfl (es rfl l3_16)) (cell_box (v := .int .i64 (b)) (ob_at ((hS4.grow hx).ro hb_b)) rfl) Try.underlying3 rfl)) rfl rfl ?_
    have k18 : b.toNat < rs.length := by first | omega | (simp only [List.length_cons, List.length_nil]; omega) | (simp only [List.length_set]; omega)
    obtain ⟨y18, hy18⟩ := get_some (xs := rs) (k := b.toNat) k18
    obtain ⟨B18, O18, C18, hv18⟩ := (SlN.blk (ow_at (hS4.chq 4 rfl hm_rv)) (by first | omega | (simp only [List.length_cons, List.length_nil]; omega) | (simp only [List.length_set]; omega)))
    refine D_v rfl rfl (V_ixS (off := O18 + b.toNat) 1 (b.toNat) rfl (es rfl (et rfl)) (et rfl) hv18 (by omega) k18 Try.underlying23 (by kernel_rfl) (congrArg _ (Nat.mul_one _))) rfl rfl ?_
    refine D_r rfl rfl (by kernel_rfl) (fun sx hx hF => (VR_ldC rfl (et rfl) ((ow_at ((hS4.grow hx).chq 4 rfl hm_rv)).cell hv18 (map_get hy18)) Try.underlying3 rfl)) rfl rfl ?_
    refine D_v rfl rfl (V_nil rfl (e7 rfl (et rfl))) rfl rfl ?_
    refine D_eff rfl ?_
    refine ZS_eff hS4 rfl rfl (fun s19 hJ19 hL19 hF19 => ?_)
    have hS19 := hJ19.st; clear hF19 hJ19 hL19
    generalize s19.1 = w19 at *
    replace hS19 : St w Y [mb_ov, m_ov, mp_ov, mq_ov, m_rv] w19 := hS19
    have hS21 := hS19.sel [2, 3, 1, 0, 4] (by decide) (l' := [mp_ov, mq_ov, m_ov, mb_ov, m_rv]) rfl
    replace hS21 : St w Y [mp_ov, mq_ov, m_ov, mb_ov, m_rv] w19 := hS21
    refine W_stN1 hS21 hmp_ov hmq_ov hm_ov hy_4 hv_4 rfl rfl rfl (et rfl) (es rfl (et rfl)) rfl (List.getElem?_eq_some_iff.1 hx_4).1 (by kernel_rfl) (fun w20 ca20 cb20 c20 hca20 hcb20 hc20 hS20 => ?_)
    replace hS20 : St w Y [ca20, cb20, c20, mb_ov, m_rv] w20 := hS20
    refine W_end ?_
    refine Qo_normal ?_
    refine gen_Q (fun A22 hA22 => ?_)
    have hsz22 := szq hA22
    have hdf22 : A22.defers = [] := by rw [hA22]; simp only [df_put]; exact hdf16
    clear hA22 hsz16 hdf16 l0_16 l3_16 l6_16 l12_16
    refine then_n (hK17 _ _ ?_)
    clear hK17
    refine wp_seq_k (fun K23 hK23 => ?_)
    refine region_in ?_
    refine W_v rfl rfl (V_asg rfl rfl) ?_
    refine W_end ?_
    refine gen_Q (fun A24 hA24 => ?_)
    have hsz24 := szq hA24
    have hdf24 : A24.defers = [] := by rw [hA24]; simp only [df_put]; exact hdf22
    have l5_24 := lookE hA24 5 (et rfl)
    clear hA24 hsz22 hdf22
    refine then_n (hK23 _ _ ?_)
    clear hK23
    refine wp_ret ?_
    refine ret_in (results_1 Try.results56 (rv_tmp l5_24)) hdf24 ?_
    -- leaf s
    rw [ldX_k hz_4]
    exact ⟨_, (O.set ((rg rs a - 1).toNat) ((y_4.1.1, y_4.1.2.set ((f).toNat) y18), y_4.2)), _, rfl, so_map rfl hy_4 (rg_at hy18) hz_4, (hS20.fin5 3 rfl (hmb_ov) 2 rfl (hc20) 0 rfl (hca20) 1 rfl (hcb20) 4 rfl (hm_rv) (by decide))⟩

set_option maxHeartbeats 4000000 in
theorem kWr1_c {ov : Value} {O : List Ob} {rv : Value} {rs : List Int} {gov : Nat} {a : Int} {ga : Nat} {f : Int} {gf : Nat} {x : Int} {gx : Nat} {w : World} {Y : Nat → Prop} (hb_a : Ro w Y (bx ga 3 #[.int .i64 a])) (hb_f : Ro w Y (bx gf 3 #[.int .i64 f])) (hb_x : Ro w Y (bx gx 45 #[.int .u64 x])) (hS : St w Y [bx gov 25 #[ov, rv], ro 2 obC ov O, owl .i64 (O.map (·.1)), owl .u64 (O.map (·.2)), io .i64 rv rs] w) (hrg : ∀ p ∈ rs, 0 ≤ p ∧ p ≤ (O.length : Int)) (ha : 0 ≤ a ∧ a < (rs.length : Int)) :
    Calls Try.prog 58 #[.pointer (some ⟨gov, 0, none⟩), .pointer (some ⟨ga, 0, none⟩), .pointer (some ⟨gf, 0, none⟩), .pointer (some ⟨gx, 0, none⟩)] w fun e w' => ∃ hv H qv, e = .returned (.int .i64 (wrX (O.map ab) rs a f)) ∧ (H.map ab = wrI (O.map ab) rs a f x) ∧ St w Y [bx gov 25 #[hv, qv], ro 2 obC hv H, owl .i64 (H.map (·.1)), owl .u64 (H.map (·.2)), io .i64 (qv) rs] w' := by
  refine calls_in 16 Try.func58 rfl rfl (by simp) (fun A0 hsz0 hdf0 hargs => ?_)
  have l0_0 := hargs 0 (.pointer (some ⟨gov, 0, none⟩)) rfl
  have l1_0 := hargs 1 (.pointer (some ⟨ga, 0, none⟩)) rfl
  have l2_0 := hargs 2 (.pointer (some ⟨gf, 0, none⟩)) rfl
  have l3_0 := hargs 3 (.pointer (some ⟨gx, 0, none⟩)) rfl
  clear hargs; replace hsz0 : SzN A0 16 := ⟨hsz0⟩
  obtain ⟨mb_ov, m_ov, mp_ov, mq_ov, m_rv, hmb_ov, hm_ov, hmp_ov, hmq_ov, hm_rv, hS⟩ := gen5 hS
  replace hS : St w Y [mb_ov, m_ov, mp_ov, mq_ov, m_rv] w := hS
  have bm_ov := SlN.le (ow_at (hS.chq 1 rfl hm_ov))
  have bm_rv := SlN.le (ow_at (hS.chq 4 rfl hm_rv))
  refine wp_seq_k (fun K1 hK1 => ?_)
  refine region_in ?_
  refine W_v rfl rfl (V_asg rfl rfl) ?_
  refine W_end ?_
  refine gen_Q (fun A2 hA2 => ?_)
  have hsz2 := szq hA2
  have hdf2 : A2.defers = [] := by rw [hA2]; simp only [df_put]; exact hdf0
  have l0_2 := lookE hA2 0 (es rfl l0_0)
  have l1_2 := lookE hA2 1 (es rfl l1_0)
  have l2_2 := lookE hA2 2 (es rfl l2_0)
  have l3_2 := lookE hA2 3 (es rfl l3_0)
  clear hA2 hsz0 hdf0 l0_0 l1_0 l2_0 l3_0
  refine then_n (hK1 _ _ ?_)
  clear hK1
  refine wp_seq_k (fun K3 hK3 => ?_)
  refine region_in ?_
  refine W_v rfl rfl (V_mov rfl l0_2) ?_
  refine W_r rfl rfl (VR_ldC rfl (es rfl l1_2) (cell_box (v := .int .i64 (a)) (ob_at (hS.ro hb_a)) rfl) Try.underlying3 rfl) ?_
  refine W_r rfl rfl (VR_ldC rfl (es rfl (es rfl l2_2)) (cell_box (v := .int .i64 (f)) (ob_at (hS.ro hb_f)) rfl) Try.underlying3 rfl) ?_
  refine W_call rfl rfl rfl Try.func55 (by kernel_rfl) rfl (args3 (e2 rfl (et rfl)) (es rfl (et rfl)) (et rfl)) (krw_c (gov := gov) (a := a) (f := f) (hS.chC 1 rfl hm_ov).own (nst_of (hS.chC 2 rfl hmp_ov) (hS.chC 3 rfl hmq_ov)) (hS.chC 4 rfl hm_rv).own (hS.chC 0 rfl hmb_ov) (by first | with_reducible assumption | (have q := hG.reg; simpa using q)) (by first | omega | with_reducible assumption)) ?_
  rintro _ w4 (⟨rfl, hz_4, hP4⟩ | ⟨B_4, O_4, C_4, y_4, x_4, rfl, hv_4, hy_4, hx_4, hz_4, hob_4, hP4⟩)
  · refine ⟨_, rfl, ?_⟩
    have hS4 := hS.join hP4
    replace hS4 : St w Y [mb_ov, m_ov, mp_ov, mq_ov, m_rv] w4 := hS4
    refine W_v rfl rfl (V_asg rfl (et rfl)) ?_
    refine W_end ?_
    refine gen_Q (fun A5 hA5 => ?_)
    have hsz5 := szq hA5
    have hdf5 : A5.defers = [] := by rw [hA5]; simp only [df_put]; exact hdf2
    have l3_5 := lookE hA5 3 (e4 rfl (es rfl l3_2))
    have l6_5 := lookE hA5 6 (et rfl)
    clear hA5 hsz2 hdf2 l0_2 l1_2 l2_2 l3_2
    refine then_n (hK3 _ _ ?_)
    clear hK3
    refine wp_seq_k (fun K6 hK6 => ?_)
    refine wp_seq_k (fun K7 hK7 => ?_)
    refine region_in ?_
    refine W_v rfl rfl (V_mov rfl l6_5) ?_
    refine W_v rfl rfl (V_eqNN rfl (et rfl) rfl Try.underlying76) ?_
    refine W_end ?_
    refine gen_Q (fun A8 hA8 => ?_)
    have hsz8 := szq hA8
    have hdf8 : A8.defers = [] := by rw [hA8]; simp only [df_put]; exact hdf5
    have l3_8 := lookE hA8 3 (es rfl (es rfl l3_5))
    have l6_8 := lookE hA8 6 (es rfl (es rfl l6_5))
    have l12_8 := lookE hA8 12 (et rfl)
    clear hA8 hsz5 hdf5 l3_5 l6_5
    refine then_n (hK7 _ _ ?_)
    clear hK7
    refine cond_t l12_8 ?_
    refine wp_seq_k (fun K9 hK9 => ?_)
    refine region_in ?_
    refine W_v rfl rfl (V_asg rfl rfl) ?_
    refine W_end ?_
    refine gen_Q (fun A10 hA10 => ?_)
    have hsz10 := szq hA10
    have hdf10 : A10.defers = [] := by rw [hA10]; simp only [df_put]; exact hdf8
    have l5_10 := lookE hA10 5 (et rfl)
    clear hA10 hsz8 hdf8 l3_8 l6_8 l12_8
    refine then_n (hK9 _ _ ?_)
    clear hK9
    refine wp_ret ?_
    refine then_ret ?_
    refine ret_in (results_1 Try.results58 (rv_tmp l5_10)) hdf10 ?_
    -- leaf n
    rw [wrX_n hz_4, wrI_n hz_4]
    exact ⟨_, O, _, rfl, rfl, (hS4.fin5 0 rfl (hmb_ov) 1 rfl (hm_ov) 2 rfl (hmp_ov) 3 rfl (hmq_ov) 4 rfl (hm_rv) (by decide))⟩
  · refine ⟨_, rfl, ?_⟩
    have hS4 := hS.join hP4
    replace hS4 : St w Y [mb_ov, m_ov, mp_ov, mq_ov, m_rv] w4 := hS4
    have bfn11 := SlN.le (sl_SlN (owl_at (mapE (g := (·.1)) hy_4) (hS4.chq 2 rfl hmp_ov)))
    have bfn12 := SlN.le (sl_SlN (owl_at (mapE (g := (·.2)) hy_4) (hS4.chq 3 rfl hmq_ov)))
    refine W_v rfl rfl (V_asg rfl (et rfl)) ?_
    refine W_end ?_
    refine gen_Q (fun A13 hA13 => ?_)
    have hsz13 := szq hA13
    have hdf13 : A13.defers = [] := by rw [hA13]; simp only [df_put]; exact hdf2
    have l3_13 := lookE hA13 3 (e4 rfl (es rfl l3_2))
    have l6_13 := lookE hA13 6 (et rfl)
    clear hA13 hsz2 hdf2 l0_2 l1_2 l2_2 l3_2
    refine then_n (hK3 _ _ ?_)
    clear hK3
    refine wp_seq_k (fun K14 hK14 => ?_)
    refine wp_seq_k (fun K15 hK15 => ?_)
    refine region_in ?_
    refine W_v rfl rfl (V_mov rfl l6_13) ?_
    refine W_v rfl rfl (V_eqPN rfl (et rfl) rfl Try.underlying76) ?_
    refine W_end ?_
    refine gen_Q (fun A16 hA16 => ?_)
    have hsz16 := szq hA16
    have hdf16 : A16.defers = [] := by rw [hA16]; simp only [df_put]; exact hdf13
    have l3_16 := lookE hA16 3 (es rfl (es rfl l3_13))
    have l6_16 := lookE hA16 6 (es rfl (es rfl l6_13))
    have l12_16 := lookE hA16 12 (et rfl)
    clear hA16 hsz13 hdf13 l3_13 l6_13
    refine then_n (hK15 _ _ ?_)
    clear hK15
    refine cond_f l12_16 ?_
    refine wp_skip ?_
    refine then_n (hK14 _ _ ?_)
    clear hK14
    refine wp_seq_k (fun K17 hK17 => ?_)
    refine region_in ?_
    refine W_v rfl rfl (V_mov rfl l6_16) ?_
    refine W_r rfl rfl (VR_ldC rfl (es rfl l3_16) (cell_box (v := .int .u64 (x)) (ob_at (hS4.ro hb_x)) rfl) Try.underlying45 rfl) ?_
    refine W_v rfl rfl (V_nil rfl (es rfl (et rfl))) ?_
    have hS19 := hS4.sel [3, 2, 1, 0, 4] (by decide) (l' := [mq_ov, mp_ov, m_ov, mb_ov, m_rv]) rfl
    replace hS19 : St w Y [mq_ov, mp_ov, m_ov, mb_ov, m_rv] w4 := hS19
    refine W_stN2 hS19 hmq_ov hmp_ov hm_ov hy_4 hv_4 rfl rfl rfl (et rfl) (es rfl (et rfl)) rfl (List.getElem?_eq_some_iff.1 hx_4).1 (by kernel_rfl) (fun w18 ca18 cb18 c18 hca18 hcb18 hc18 hS18 => ?_)
    replace hS18 : St w Y [ca18, cb18, c18, mb_ov, m_rv] w18 := hS18
    refine W_end ?_
    refine gen_Q (fun A20 hA20 => ?_)
    have hsz20 := szq hA20
    have hdf20 : A20.defers = [] := by rw [hA20]; simp only [df_put]; exact hdf16
    clear hA20 hsz16 hdf16 l3_16 l6_16 l12_16
    refine then_n (hK17 _ _ ?_)
    clear hK17
    refine wp_seq_k (fun K21 hK21 => ?_)
    refine region_in ?_
    refine W_v rfl rfl (V_asg rfl rfl) ?_
    refine W_end ?_
    refine gen_Q (fun A22 hA22 => ?_)
    have hsz22 := szq hA22
    have hdf22 : A22.defers = [] := by rw [hA22]; simp only [df_put]; exact hdf20
    have l5_22 := lookE hA22 5 (et rfl)
    clear hA22 hsz20 hdf20
    refine then_n (hK21 _ _ ?_)
    clear hK21
    refine wp_ret ?_
    refine ret_in (results_1 Try.results58 (rv_tmp l5_22)) hdf22 ?_
    -- leaf s
    rw [wrX_k hz_4]
    exact ⟨_, (O.set ((rg rs a - 1).toNat) (y_4.1, (y_4.2.1, y_4.2.2.set ((f).toNat) x))), _, rfl, wr_map rfl hy_4 hz_4, (hS18.fin5 3 rfl (hmb_ov) 2 rfl (hc18) 1 rfl (hcb18) 0 rfl (hca18) 4 rfl (hm_rv) (by decide))⟩

set_option maxHeartbeats 4000000 in
theorem kMv1_c {ov : Value} {O : List Ob} {rv : Value} {rs : List Int} {gov : Nat} {b : Int} {gb : Nat} {a : Int} {ga : Nat} {w : World} {Y : Nat → Prop} (hb_b : Ro w Y (bx gb 3 #[.int .i64 b])) (hb_a : Ro w Y (bx ga 3 #[.int .i64 a])) (hS : St w Y [bx gov 25 #[ov, rv], ro 2 obC ov O, owl .i64 (O.map (·.1)), owl .u64 (O.map (·.2)), io .i64 rv rs] w) (ha : 0 ≤ a ∧ a < (rs.length : Int)) (hb : 0 ≤ b ∧ b < (rs.length : Int)) :
    Calls Try.prog 62 #[.pointer (some ⟨gov, 0, none⟩), .pointer (some ⟨gb, 0, none⟩), .pointer (some ⟨ga, 0, none⟩)] w fun e w' => ∃ hv H qv, e = .returned (.int .i64 0) ∧ (H.map ab = (O.map ab)) ∧ St w Y [bx gov 25 #[hv, qv], ro 2 obC hv H, owl .i64 (H.map (·.1)), owl .u64 (H.map (·.2)), io .i64 (qv) (rs.set a.toNat (rg rs b))] w' := by
  refine calls_in 18 Try.func62 rfl rfl (by simp) (fun A0 hsz0 hdf0 hargs => ?_)
  have l0_0 := hargs 0 (.pointer (some ⟨gov, 0, none⟩)) rfl
  have l1_0 := hargs 1 (.pointer (some ⟨gb, 0, none⟩)) rfl
  have l2_0 := hargs 2 (.pointer (some ⟨ga, 0, none⟩)) rfl
  clear hargs; replace hsz0 : SzN A0 18 := ⟨hsz0⟩
  obtain ⟨mb_ov, m_ov, mp_ov, mq_ov, m_rv, hmb_ov, hm_ov, hmp_ov, hmq_ov, hm_rv, hS⟩ := gen5 hS
  replace hS : St w Y [mb_ov, m_ov, mp_ov, mq_ov, m_rv] w := hS
  have bm_ov := SlN.le (ow_at (hS.chq 1 rfl hm_ov))
  have bm_rv := SlN.le (ow_at (hS.chq 4 rfl hm_rv))
  refine wp_seq_k (fun K1 hK1 => ?_)
  refine region_in ?_
  refine W_v rfl rfl (V_asg rfl rfl) ?_
  refine W_end ?_
  refine gen_Q (fun A2 hA2 => ?_)
  have hsz2 := szq hA2
  have hdf2 : A2.defers = [] := by rw [hA2]; simp only [df_put]; exact hdf0
  have l0_2 := lookE hA2 0 (es rfl l0_0)
  have l1_2 := lookE hA2 1 (es rfl l1_0)
  have l2_2 := lookE hA2 2 (es rfl l2_0)
  clear hA2 hsz0 hdf0 l0_0 l1_0 l2_0
  refine then_n (hK1 _ _ ?_)
  clear hK1
  refine wp_seq_k (fun K3 hK3 => ?_)
  refine region_monoS 13 14 [] (by kernel_rfl) (by kernel_rfl) ?_
  refine D_v rfl rfl (V_mov rfl l0_2) rfl rfl ?_
  refine D_v rfl rfl (V_nil rfl (et rfl)) rfl rfl ?_
  refine D_v rfl rfl (V_fa (off' := 1) rfl (et rfl) Try.underlying25 rfl (by decide +kernel) rfl) rfl rfl ?_
  refine D_r rfl rfl (by kernel_rfl) (fun sx hx hF => (VR_ldC rfl (et rfl) (cell_box (v := rv) ((hS.grow hx).obj 0 rfl hmb_ov) rfl) Try.underlying23 rfl)) rfl rfl ?_
  refine D_r rfl rfl (by kernel_rfl) (fun sx hx hF => (VR_ldC rfl (e3 rfl (es rfl l2_2)) (cell_box (v := .int .i64 (a)) (ob_at ((hS.grow hx).ro hb_a)) rfl) Try.underlying3 rfl)) rfl rfl ?_
  refine D_v rfl rfl (V_mov rfl (e4 rfl (es rfl l0_2))) rfl rfl ?_
  refine D_v rfl rfl (V_nil rfl (et rfl)) rfl rfl ?_
  refine D_v rfl rfl (V_fa (off' := 1) rfl (et rfl) Try.underlying25 rfl (by decide +kernel) rfl) rfl rfl ?_
  refine D_r rfl rfl (by kernel_rfl) (fun sx hx hF => (VR_ldC rfl (et rfl) (cell_box (v := rv) ((hS.grow hx).obj 0 rfl hmb_ov) rfl) Try.underlying23 rfl)) rfl rfl ?_
  refine D_r rfl rfl (by kernel_rfl) (fun sx hx hF => (VR_ldC rfl (e8 rfl (es rfl l1_2)) (cell_box (v := .int .i64 (b)) (ob_at ((hS.grow hx).ro hb_b)) rfl) Try.underlying3 rfl)) rfl rfl ?_
  have k4 : b.toNat < rs.length := by first | omega | (simp only [List.length_cons, List.length_nil]; omega) | (simp only [List.length_set]; omega)
  obtain ⟨y4, hy4⟩ := get_some (xs := rs) (k := b.toNat) k4
  obtain ⟨B4, O4, C4, hv4⟩ := (SlN.blk (ow_at (hS.chq 4 rfl hm_rv)) (by first | omega | (simp only [List.length_cons, List.length_nil]; omega) | (simp only [List.length_set]; omega)))
  refine D_v rfl rfl (V_ixS (off := O4 + b.toNat) 1 (b.toNat) rfl (es rfl (et rfl)) (et rfl) hv4 (by omega) k4 Try.underlying23 (by kernel_rfl) (congrArg _ (Nat.mul_one _))) rfl rfl ?_
  refine D_r rfl rfl (by kernel_rfl) (fun sx hx hF => (VR_ldC rfl (et rfl) ((ow_at ((hS.grow hx).chq 4 rfl hm_rv)).cell hv4 (map_get hy4)) Try.underlying3 rfl)) rfl rfl ?_
  have k5 : a.toNat < rs.length := by first | omega | (simp only [List.length_cons, List.length_nil]; omega) | (simp only [List.length_set]; omega)
  obtain ⟨y5, hy5⟩ := get_some (xs := rs) (k := a.toNat) k5
  refine D_v rfl rfl (V_ixS (off := O4 + a.toNat) 1 (a.toNat) rfl (e8 rfl (et rfl)) (e7 rfl (et rfl)) hv4 (by omega) k5 Try.underlying23 (by kernel_rfl) (congrArg _ (Nat.mul_one _))) rfl rfl ?_
  refine D_eff rfl ?_
  refine ZS_eff hS rfl rfl (fun s6 hJ6 hL6 hF6 => ?_)
  have hS6 := hJ6.st; clear hF6 hJ6 hL6
  generalize s6.1 = w6 at *
  replace hS6 : St w Y [mb_ov, m_ov, mp_ov, mq_ov, m_rv] w6 := hS6
  refine W_stE 4 hS6 rfl hm_rv hv4 rfl rfl rfl (et rfl) (es rfl (et rfl)) (by rfl) rfl (by first | (simp only [List.length_map]; omega) | omega) (by kernel_rfl) (fun w7 c7 hc7 hS7 => ?_)
  replace hc7 : c7 = io .i64 rv (rs.set a.toNat y4) := hc7.trans (by simp [io, bo, List.map_set] <;> rfl)
  replace hS7 : St w Y [mb_ov, m_ov, mp_ov, mq_ov, c7] w7 := hS7
  refine W_end ?_
  refine Qo_normal ?_
  refine gen_Q (fun A8 hA8 => ?_)
  have hsz8 := szq hA8
  have hdf8 : A8.defers = [] := by rw [hA8]; simp only [df_put]; exact hdf2
  clear hA8 hsz2 hdf2 l0_2 l1_2 l2_2
  refine then_n (hK3 _ _ ?_)
  clear hK3
  refine wp_seq_k (fun K9 hK9 => ?_)
  refine region_in ?_
  refine W_v rfl rfl (V_asg rfl rfl) ?_
  refine W_end ?_
  refine gen_Q (fun A10 hA10 => ?_)
  have hsz10 := szq hA10
  have hdf10 : A10.defers = [] := by rw [hA10]; simp only [df_put]; exact hdf8
  have l4_10 := lookE hA10 4 (et rfl)
  clear hA10 hsz8 hdf8
  refine then_n (hK9 _ _ ?_)
  clear hK9
  refine wp_ret ?_
  refine ret_in (results_1 Try.results62 (rv_tmp l4_10)) hdf10 ?_
  -- leaf 
  exact ⟨_, O, _, rfl, rfl, (hS7.fin5 0 rfl (hmb_ov) 1 rfl (hm_ov) 2 rfl (hmp_ov) 3 rfl (hmq_ov) 4 rfl (hc7.trans (by rw [rg_at hy4])) (by decide))⟩

set_option maxHeartbeats 4000000 in
theorem kCl1_c {ov : Value} {O : List Ob} {rv : Value} {rs : List Int} {gov : Nat} {a : Int} {ga : Nat} {w : World} {Y : Nat → Prop} (hb_a : Ro w Y (bx ga 3 #[.int .i64 a])) (hS : St w Y [bx gov 25 #[ov, rv], ro 2 obC ov O, owl .i64 (O.map (·.1)), owl .u64 (O.map (·.2)), io .i64 rv rs] w) (ha : 0 ≤ a ∧ a < (rs.length : Int)) :
    Calls Try.prog 52 #[.pointer (some ⟨gov, 0, none⟩), .pointer (some ⟨ga, 0, none⟩)] w fun e w' => ∃ hv H qv, e = .returned (.int .i64 0) ∧ (H.map ab = (O.map ab)) ∧ St w Y [bx gov 25 #[hv, qv], ro 2 obC hv H, owl .i64 (H.map (·.1)), owl .u64 (H.map (·.2)), io .i64 (qv) (rs.set a.toNat 0)] w' := by
  refine calls_in 10 Try.func52 rfl rfl (by simp) (fun A0 hsz0 hdf0 hargs => ?_)
  have l0_0 := hargs 0 (.pointer (some ⟨gov, 0, none⟩)) rfl
  have l1_0 := hargs 1 (.pointer (some ⟨ga, 0, none⟩)) rfl
  clear hargs; replace hsz0 : SzN A0 10 := ⟨hsz0⟩
  obtain ⟨mb_ov, m_ov, mp_ov, mq_ov, m_rv, hmb_ov, hm_ov, hmp_ov, hmq_ov, hm_rv, hS⟩ := gen5 hS
  replace hS : St w Y [mb_ov, m_ov, mp_ov, mq_ov, m_rv] w := hS
  have bm_ov := SlN.le (ow_at (hS.chq 1 rfl hm_ov))
  have bm_rv := SlN.le (ow_at (hS.chq 4 rfl hm_rv))
  refine wp_seq_k (fun K1 hK1 => ?_)
  refine region_in ?_
  refine W_v rfl rfl (V_asg rfl rfl) ?_
  refine W_end ?_
  refine gen_Q (fun A2 hA2 => ?_)
  have hsz2 := szq hA2
  have hdf2 : A2.defers = [] := by rw [hA2]; simp only [df_put]; exact hdf0
  have l0_2 := lookE hA2 0 (es rfl l0_0)
  have l1_2 := lookE hA2 1 (es rfl l1_0)
  clear hA2 hsz0 hdf0 l0_0 l1_0
  refine then_n (hK1 _ _ ?_)
  clear hK1
  refine wp_seq_k (fun K3 hK3 => ?_)
  refine region_monoS 6 7 [] (by kernel_rfl) (by kernel_rfl) ?_
  refine D_v rfl rfl (V_mov rfl l0_2) rfl rfl ?_
  refine D_v rfl rfl (V_nil rfl (et rfl)) rfl rfl ?_
  refine D_v rfl rfl (V_fa (off' := 1) rfl (et rfl) Try.underlying25 rfl (by decide +kernel) rfl) rfl rfl ?_
  refine D_r rfl rfl (by kernel_rfl) (fun sx hx hF => (VR_ldC rfl (et rfl) (cell_box (v := rv) ((hS.grow hx).obj 0 rfl hmb_ov) rfl) Try.underlying23 rfl)) rfl rfl ?_
  refine D_r rfl rfl (by kernel_rfl) (fun sx hx hF => (VR_ldC rfl (e3 rfl (es rfl l1_2)) (cell_box (v := .int .i64 (a)) (ob_at ((hS.grow hx).ro hb_a)) rfl) Try.underlying3 rfl)) rfl rfl ?_
  have k4 : a.toNat < rs.length := by first | omega | (simp only [List.length_cons, List.length_nil]; omega) | (simp only [List.length_set]; omega)
  obtain ⟨y4, hy4⟩ := get_some (xs := rs) (k := a.toNat) k4
  obtain ⟨B4, O4, C4, hv4⟩ := (SlN.blk (ow_at (hS.chq 4 rfl hm_rv)) (by first | omega | (simp only [List.length_cons, List.length_nil]; omega) | (simp only [List.length_set]; omega)))
  refine D_v rfl rfl (V_ixS (off := O4 + a.toNat) 1 (a.toNat) rfl (es rfl (et rfl)) (et rfl) hv4 (by omega) k4 Try.underlying23 (by kernel_rfl) (congrArg _ (Nat.mul_one _))) rfl rfl ?_
  refine D_eff rfl ?_
  refine ZS_eff hS rfl rfl (fun s5 hJ5 hL5 hF5 => ?_)
  have hS5 := hJ5.st; clear hF5 hJ5 hL5
  generalize s5.1 = w5 at *
  replace hS5 : St w Y [mb_ov, m_ov, mp_ov, mq_ov, m_rv] w5 := hS5
  refine W_stE 4 hS5 rfl hm_rv hv4 rfl rfl rfl (et rfl) rfl (by rfl) rfl (by first | (simp only [List.length_map]; omega) | omega) (by kernel_rfl) (fun w6 c6 hc6 hS6 => ?_)
  replace hc6 : c6 = io .i64 rv (rs.set a.toNat 0) := hc6.trans (by simp [io, bo, List.map_set] <;> rfl)
  replace hS6 : St w Y [mb_ov, m_ov, mp_ov, mq_ov, c6] w6 := hS6
  refine W_end ?_
  refine Qo_normal ?_
  refine gen_Q (fun A7 hA7 => ?_)
  have hsz7 := szq hA7
  have hdf7 : A7.defers = [] := by rw [hA7]; simp only [df_put]; exact hdf2
  clear hA7 hsz2 hdf2 l0_2 l1_2
  refine then_n (hK3 _ _ ?_)
  clear hK3
  refine wp_seq_k (fun K8 hK8 => ?_)
  refine region_in ?_
  refine W_v rfl rfl (V_asg rfl rfl) ?_
  refine W_end ?_
  refine gen_Q (fun A9 hA9 => ?_)
  have hsz9 := szq hA9
  have hdf9 : A9.defers = [] := by rw [hA9]; simp only [df_put]; exact hdf7
  have l3_9 := lookE hA9 3 (et rfl)
  clear hA9 hsz7 hdf7
  refine then_n (hK8 _ _ ?_)
  clear hK8
  refine wp_ret ?_
  refine ret_in (results_1 Try.results52 (rv_tmp l3_9)) hdf9 ?_
  -- leaf 
  exact ⟨_, O, _, rfl, rfl, (hS6.fin5 0 rfl (hmb_ov) 1 rfl (hm_ov) 2 rfl (hmp_ov) 3 rfl (hmq_ov) 4 rfl (hc6) (by decide))⟩

set_option maxHeartbeats 4000000 in
theorem kchAlloc_c {ov : Value} {O : List Ob} {rv : Value} {rs : List Int} {p : Int} {gp : Nat} {r : Int} {gr : Nat} {a : Int} {ga : Nat} {nv : Value} {ns : List Int} {w : World} (h_ov : Ro w NoX (rl 2 obC ov O)) (n_ov : Ro w NoX (nst O)) (h_rv : Ro w NoX (il .i64 rv rs)) (hb_p : Ro w NoX (bx gp 3 #[.int .i64 p])) (hb_r : Ro w NoX (bx gr 3 #[.int .i64 r])) (hb_a : Ro w NoX (bx ga 3 #[.int .i64 a])) (h_nv : Ro w NoX (il .i64 nv ns)) (hsm : SM (O.map ab)) (hns : ns = [a]) :
    Calls Try.prog 51 #[.agg #[ov, rv], .func (.func 57) #[] #[.pointer (some ⟨gp, 0, none⟩), .pointer (some ⟨gr, 0, none⟩), .pointer (some ⟨ga, 0, none⟩)], nv] w fun e w' => ∃ hv H qv, e = .returned (.tuple #[.agg #[hv, qv], .int .i64 (alE (O.map ab) rs a p r)]) ∧ (H.map ab = (alO (O.map ab) rs a p r)) ∧ St w NoX [ro 2 obC hv H, owl .i64 (H.map (·.1)), owl .u64 (H.map (·.2)), io .i64 (qv) (alR (O.map ab) rs a p r)] w' := by
  refine calls_in 51 Try.func51 rfl rfl (by simp) (fun A0 hsz0 hdf0 hargs => ?_)
  have l0_0 := hargs 0 (.agg #[ov, rv]) rfl
  have l1_0 := hargs 1 (.func (.func 57) #[] #[.pointer (some ⟨gp, 0, none⟩), .pointer (some ⟨gr, 0, none⟩), .pointer (some ⟨ga, 0, none⟩)]) rfl
  have l2_0 := hargs 2 (nv) rfl
  clear hargs; replace hsz0 : SzN A0 51 := ⟨hsz0⟩
  have hS := St.nil w
  have bh_ov := SlN.le (sl_SlN h_ov.at)
  have bh_rv := SlN.le (sl_SlN h_rv.at)
  have bh_nv := SlN.le (sl_SlN h_nv.at)
  refine wp_seq_k (fun K1 hK1 => ?_)
  refine region_in ?_
  refine W_boxS (zs := #[ov, rv]) hS rfl rfl rfl l0_0 (by rfl) (fun g2 w2 c2 hc2 hS2 => ?_)
  replace hS2 : St w NoX [c2] w2 := hS2
  refine W_allocS (z := .agg #[.slice none 0 0, .slice none 0 0]) (zs := #[.slice none 0 0, .slice none 0 0]) hS2 rfl rfl rfl (by kernel_rfl) (by rfl) (fun g3 w3 c3 hc3 hS3 => ?_)
  replace hS3 : St w NoX [c3, c2] w3 := hS3
  refine W_v rfl rfl (V_asg rfl rfl) ?_
  refine W_end ?_
  refine gen_Q (fun A4 hA4 => ?_)
  have hsz4 := szq hA4
  have hdf4 : A4.defers = [] := by rw [hA4]; simp only [df_put]; exact hdf0
  have l1_4 := lookE hA4 1 (e2 rfl (es rfl l1_0))
  have l2_4 := lookE hA4 2 (e2 rfl (es rfl l2_0))
  have l3_4 := lookE hA4 3 (e2 rfl (et rfl))
  have l6_4 := lookE hA4 6 (es rfl (et rfl))
  clear hA4 hsz0 hdf0 l0_0 l1_0 l2_0
  refine then_n (hK1 _ _ ?_)
  clear hK1
  refine wp_seq_k (fun K5 hK5 => ?_)
  refine wp_seq_k (fun K6 hK6 => ?_)
  refine region_in ?_
  refine W_r rfl rfl (VR_ldA rfl l3_4 (hS3.obj 1 rfl hc2) Try.underlying25 rfl (by kernel_rfl)) ?_
  refine W_v rfl rfl (V_mov rfl (es rfl l2_4)) ?_
  refine W_call rfl rfl rfl Try.func47 (by kernel_rfl) rfl (args2 (es rfl (et rfl)) (et rfl)) (kcd_c (hS3.roC h_ov) (hS3.roC n_ov) (hS3.roC h_rv) (hS3.roC h_nv) ) ?_
  rintro _ w7 ⟨rfl, hP7⟩
  refine ⟨_, rfl, ?_⟩
  have hS7 := hS3.join hP7
  replace hS7 : St w NoX [c3, c2] w7 := hS7
  refine W_v rfl rfl (V_asg rfl (et rfl)) ?_
  refine W_end ?_
  refine gen_Q (fun A8 hA8 => ?_)
  have hsz8 := szq hA8
  have hdf8 : A8.defers = [] := by rw [hA8]; simp only [df_put]; exact hdf4
  have l1_8 := lookE hA8 1 (e3 rfl (es rfl l1_4))
  have l3_8 := lookE hA8 3 (e3 rfl (es rfl l3_4))
  have l6_8 := lookE hA8 6 (e3 rfl (es rfl l6_4))
  have l8_8 := lookE hA8 8 (et rfl)
  clear hA8 hsz4 hdf4 l1_4 l2_4 l3_4 l6_4
  refine then_n (hK6 _ _ ?_)
  clear hK6
  refine wp_seq_k (fun K9 hK9 => ?_)
  refine region_in ?_
  refine W_v rfl rfl (V_mov rfl l8_8) ?_
  refine W_v rfl rfl (V_neq rfl (et rfl) rfl) ?_
  refine W_end ?_
  refine gen_Q (fun A10 hA10 => ?_)
  have hsz10 := szq hA10
  have hdf10 : A10.defers = [] := by rw [hA10]; simp only [df_put]; exact hdf8
  have l1_10 := lookE hA10 1 (es rfl (es rfl l1_8))
  have l3_10 := lookE hA10 3 (es rfl (es rfl l3_8))
  have l6_10 := lookE hA10 6 (es rfl (es rfl l6_8))
  have l8_10 := lookE hA10 8 (es rfl (es rfl l8_8))
  have l17_10 := lookE hA10 17 (et rfl)
  clear hA10 hsz8 hdf8 l1_8 l3_8 l6_8 l8_8
  refine then_n (hK9 _ _ ?_)
  clear hK9
  refine cond_dec l17_10 (fun c11 => ?_) (fun c11 => ?_)
  · skip
    have hcd : ckd (O.map ab) rs ns ≠ 0 := by simpa using c11
    rw [hns] at *
    refine wp_seq_k (fun K12 hK12 => ?_)
    refine region_in ?_
    refine W_v rfl rfl (V_bldS (n := 2) (z := .agg #[.slice none 0 0, .slice none 0 0]) rfl (parts0) (by kernel_rfl) (by simp only [List.all_cons, List.all_nil, Bool.and_true] <;> rfl) (by kernel_rfl) (by simp only [List.foldl_cons, List.foldl_nil, Value.cells, List.setIfInBounds_toArray, List.set_cons_succ, List.set_cons_zero] <;> rfl)) ?_
    refine W_v rfl rfl (V_mov rfl (es rfl l8_10)) ?_
    refine W_stAS 0 hS7 rfl hc3 rfl rfl rfl (es rfl (es rfl l6_10)) (es rfl (et rfl)) (by first | (rw [List.all_toArray] <;> rfl) | (simp only [List.all_toArray, List.all_cons, List.all_nil] <;> rfl)) (by rfl) (by kernel_rfl) (fun w13 c13 hc13 hS13 => ?_)
    replace hS13 : St w NoX [c13, c2] w13 := hS13
    refine W_v rfl rfl (V_asg rfl (et rfl)) ?_
    refine W_end ?_
    refine gen_Q (fun A14 hA14 => ?_)
    have hsz14 := szq hA14
    have hdf14 : A14.defers = [] := by rw [hA14]; simp only [df_put]; exact hdf10
    have l6_14 := lookE hA14 6 (e2 rfl (es rfl l6_10))
    have l7_14 := lookE hA14 7 (et rfl)
    clear hA14 hsz10 hdf10 l1_10 l3_10 l6_10 l8_10 l17_10
    have hS15 : St w NoX [c13] w13 := hS13.sel [0] (by decide) rfl
    refine then_n (hK12 _ _ ?_)
    clear hK12
    refine wp_ret ?_
    refine then_ret ?_
    refine ret_in (results_2 Try.results51 (rv_cellA l6_14 (hS15.obj 0 rfl hc13) Try.underlying25 rfl (by kernel_rfl)) (rv_tmp l7_14)) hdf14 ?_
    -- leaf T
    obtain ⟨c16, hc16, hS16⟩ := hS15.pnil (s := 2)
    replace hc16 : c16 = ro 2 obC (.slice none 0 0) ([] : List Ob) := hc16
    obtain ⟨c17, cb17, hc17, hcb17, hS17⟩ := gen2 (nst_nils hS16)
    replace hS17 : St w NoX [c17, cb17, c16, c13] w13 := hS17
    obtain ⟨c18, hc18, hS18⟩ := hS17.pnil (s := 1)
    have h := al_ck (p := p) (r := r) hcd
    rw [h.1, h.2.1]
    exact ⟨_, ([] : List Ob), _, rfl, rfl, (hS18.fin4 3 rfl (hc16) 1 rfl (hc17) 2 rfl (hcb17) 0 rfl (hc18.trans (by rw [h.2.2] <;> rfl)) (by decide))⟩
  · skip
    have hcd : ckd (O.map ab) rs ns = 0 := by simpa using c11
    rw [hns] at hcd
    have hG := (ckd_0.1 hcd).1
    have ho4 := hG.o4
    have hr8 := hG.r8
    rw [List.length_map] at ho4
    have hrg0 : ∀ p ∈ rs, 0 ≤ p ∧ p ≤ (O.length : Int) := fun p hp => by have q := hG.reg p hp; rw [List.length_map] at q; exact q
    have ha := (ckd_0.1 hcd).2 a (by simp)
    refine wp_skip ?_
    refine then_n (hK5 _ _ ?_)
    clear hK5
    refine wp_seq_k (fun K19 hK19 => ?_)
    refine region_in ?_
    refine W_v rfl rfl (V_fa (off' := 1) rfl l3_10 Try.underlying25 rfl (by decide +kernel) rfl) ?_
    refine W_r rfl rfl (VR_ldC rfl (et rfl) (cell_box (v := rv) (hS7.obj 1 rfl hc2) rfl) Try.underlying23 rfl) ?_
    refine W_call rfl rfl rfl Try.func67 (by kernel_rfl) rfl (args1 (et rfl)) (kcl_c (hS7.roC h_rv) (by first | omega | with_reducible assumption)) ?_
    rintro _ w20 ⟨v_20, rfl, hP20⟩
    refine ⟨_, rfl, ?_⟩
    obtain ⟨c_20, hc_20, hP20⟩ := gen1 hP20
    have hS20 := hS7.join hP20
    replace hS20 : St w NoX [c_20, c3, c2] w20 := hS20
    refine W_v rfl rfl (V_bldS (n := 2) (z := .agg #[.slice none 0 0, .slice none 0 0]) rfl (parts1 (et rfl)) (by kernel_rfl) (by simp only [List.all_cons, List.all_nil, SlN_one (ow_at (hS20.chq 0 rfl hc_20)), Bool.and_true] <;> rfl) (by kernel_rfl) (by simp only [List.foldl_cons, List.foldl_nil, Value.cells, List.setIfInBounds_toArray, List.set_cons_succ, List.set_cons_zero] <;> rfl)) ?_
    refine W_allocS (z := .agg #[.slice none 0 0, .slice none 0 0]) (zs := #[.slice none 0 0, .slice none 0 0]) hS20 rfl rfl rfl (by kernel_rfl) (by rfl) (fun g21 w21 c21 hc21 hS21 => ?_)
    replace hS21 : St w NoX [c21, c_20, c3, c2] w21 := hS21
    refine W_stAS 0 hS21 rfl hc21 rfl rfl rfl (et rfl) (es rfl (et rfl)) (by simp only [List.all_toArray, List.all_cons, List.all_nil, obC, SlN_one (ow_at (hS21.chq 1 rfl hc_20))] <;> rfl) (by rfl) (by kernel_rfl) (fun w22 c22 hc22 hS22 => ?_)
    replace hS22 : St w NoX [c22, c_20, c3, c2] w22 := hS22
    refine W_end ?_
    refine gen_Q (fun A23 hA23 => ?_)
    have hsz23 := szq hA23
    have hdf23 : A23.defers = [] := by rw [hA23]; simp only [df_put]; exact hdf10
    have l1_23 := lookE hA23 1 (e4 rfl (es rfl l1_10))
    have l3_23 := lookE hA23 3 (e4 rfl (es rfl l3_10))
    have l6_23 := lookE hA23 6 (e4 rfl (es rfl l6_10))
    have l9_23 := lookE hA23 9 (et rfl)
    clear hA23 hsz10 hdf10 l1_10 l3_10 l6_10 l8_10 l17_10
    refine then_n (hK19 _ _ ?_)
    clear hK19
    refine wp_seq_k (fun K24 hK24 => ?_)
    refine wp_seq_k (fun K25 hK25 => ?_)
    refine region_in ?_
    refine W_v rfl rfl (V_fa (off' := 0) rfl l3_23 Try.underlying25 rfl (by decide +kernel) rfl) ?_
    refine W_r rfl rfl (VR_ldC rfl (et rfl) (cell_box (v := ov) (hS22.obj 3 rfl hc2) rfl) Try.underlying22 rfl) ?_
    refine W_v rfl rfl (V_lenS rfl (et rfl) (sl_SlN h_ov.at) Try.underlying22) ?_
    refine W_v rfl rfl (V_mov rfl rfl) ?_
    refine W_end ?_
    refine gen_Q (fun A26 hA26 => ?_)
    have hsz26 := szq hA26
    have hdf26 : A26.defers = [] := by rw [hA26]; simp only [df_put]; exact hdf23
    have l1_26 := lookE hA26 1 (e3 rfl (es rfl l1_23))
    have l6_26 := lookE hA26 6 (e3 rfl (es rfl l6_23))
    have l9_26 := lookE hA26 9 (e3 rfl (es rfl l9_23))
    have l25_26 := lookE hA26 25 (e2 rfl (et rfl))
    have l26_26 := lookE hA26 26 (es rfl (et rfl))
    have l27_26 := lookE hA26 27 (et rfl)
    clear hA26 hsz23 hdf23 l1_23 l3_23 l6_23 l9_23
    have hS27 : St w NoX [c22, c_20, c3] w22 := hS22.sel [0, 1, 2] (by decide) rfl
    refine then_n (hK25 _ _ ?_)
    clear hK25
    refine wp_block ?_
    obtain ⟨c28, hc28, hS28⟩ := hS27.pnil (s := 2)
    replace hc28 : c28 = ro 2 obC (.slice none 0 0) ([] : List Ob) := hc28
    obtain ⟨c29, cb29, hc29, hcb29, hS29⟩ := gen2 (nst_nils hS28)
    replace hS29 : St w NoX [c29, cb29, c28, c22, c_20, c3] w22 := hS29
    -- loop 6
    refine loopX (fun mz A' w' => SzN A' 51 ∧ A'.defers = [] ∧ (∃ (k : Nat) (hv : Value) (H : List Ob), (mz = O.length - k) ∧ (k ≤ O.length) ∧ (H.map ab = (O.map ab).take k) ∧ (EV A' (.tmp 27) = .int .i64 (k : Int)) ∧ (EV A' (.tmp 1) = EV A26 (.tmp 1)) ∧ (EV A' (.tmp 6) = EV A26 (.tmp 6)) ∧ (EV A' (.tmp 9) = EV A26 (.tmp 9)) ∧ (EV A' (.tmp 25) = EV A26 (.tmp 25)) ∧ (EV A' (.tmp 26) = EV A26 (.tmp 26)) ∧ (St w NoX [owl .i64 (H.map (·.1)), owl .u64 (H.map (·.2)), ro 2 obC hv H, bx g21 25 #[hv, v_20], io .i64 v_20 rs, bx g3 25 #[.slice none 0 0, .slice none 0 0]] w'))) (O.length - 0) ⟨hsz26, hdf26, 0, (.slice none 0 0), [], rfl, (by omega), rfl, ((l27_26).trans (by first | rfl | (simp; done) | (congr 1; omega))), rfl, rfl, rfl, rfl, rfl, (by subst hc29 hcb29 hc28 hc22 hc_20 hc3; exact hS29)⟩ ?_
    clear hS29 hc29 hcb29 hc28 hc22 hc_20 hc3
    rintro n30 A30 w30 ⟨hsz30, hdf30, k, hv, H, hm30, hk, hH, l27_30, u1_30, u6_30, u9_30, u25_30, u26_30, hS30⟩
    have l1_30 := u1_30.trans l1_26
    have l6_30 := u6_30.trans l6_26
    have l9_30 := u9_30.trans l9_26
    have l25_30 := u25_30.trans l25_26
    have l26_30 := u26_30.trans l26_26
    obtain ⟨c29_30, cb29_30, c28_30, c22_30, c_30, c3_30, hc29_30, hcb29_30, hc28_30, hc22_30, hc_30, hc3_30, hS30⟩ := gen6 hS30
    refine wp_seq_k (fun K31 hK31 => ?_)
    refine region_in ?_
    refine W_v rfl rfl (V_lss rfl l27_30 l26_30) ?_
    refine W_end ?_
    refine gen_Q (fun A32 hA32 => ?_)
    have hsz32 := szq hA32
    have hdf32 : A32.defers = [] := by rw [hA32]; simp only [df_put]; exact hdf30
    have l1_32 := lookE hA32 1 (es rfl l1_30)
    have l6_32 := lookE hA32 6 (es rfl l6_30)
    have l9_32 := lookE hA32 9 (es rfl l9_30)
    have l25_32 := lookE hA32 25 (es rfl l25_30)
    have l26_32 := lookE hA32 26 (es rfl l26_30)
    have l27_32 := lookE hA32 27 (es rfl l27_30)
    have l28_32 := lookE hA32 28 (et rfl)
    clear hA32 hsz30 hdf30 l27_30 l1_30 l6_30 l9_30 l25_30 l26_30
    refine then_n (hK31 _ _ ?_)
    clear hK31
    refine wp_seq_k (fun K33 hK33 => ?_)
    refine cond_dec l28_32 (fun c34 => ?_) (fun c34 => ?_)
    · skip
      have hHl := mp_len hH hk
      refine wp_skip ?_
      refine then_n (hK33 _ _ ?_)
      clear hK33
      refine wp_seq_k (fun K35 hK35 => ?_)
      refine wp_block ?_
      refine wp_seq_k (fun K36 hK36 => ?_)
      refine region_in ?_
      have k37 : k < O.length := by first | omega | (simp only [List.length_cons, List.length_nil]; omega) | (simp only [List.length_set]; omega)
      obtain ⟨y37, hy37⟩ := get_some (xs := O) (k := k) k37
      have hsy := hsm.at hy37
      obtain ⟨B37, O37, C37, hv37⟩ := (SlN.blk (sl_SlN h_ov.at) (by first | omega | (simp only [List.length_cons, List.length_nil]; omega) | (simp only [List.length_set]; omega)))
      refine W_v rfl rfl (V_ixS (off := O37 + k * 2) 2 (k) rfl l25_32 l27_32 hv37 (by omega) k37 Try.underlying22 (by kernel_rfl) rfl) ?_
      have fn38 : Ro w NoX (il .i64 y37.1.1 y37.1.2) := nst_ro1 n_ov hy37
      have bfn38 := SlN.le (sl_SlN (hS30.ro fn38))
      have fn39 : Ro w NoX (il .u64 y37.2.1 y37.2.2) := nst_ro2 n_ov hy37
      have bfn39 := SlN.le (sl_SlN (hS30.ro fn39))
      refine W_r rfl rfl (VR_ldR (ys := obC y37) rfl (et rfl) (SlN.row obC_len (sl_SlN (hS30.ro h_ov)) hv37 hy37 rfl) Try.underlying40 rfl (by kernel_rfl)) ?_
      refine W_allocS (z := .agg #[.slice none 0 0, .slice none 0 0]) (zs := #[.slice none 0 0, .slice none 0 0]) hS30 rfl rfl rfl (by kernel_rfl) (by rfl) (fun g40 w40 c40 hc40 hS40 => ?_)
      replace hS40 : St w NoX [c40, c29_30, cb29_30, c28_30, c22_30, c_30, c3_30] w40 := hS40
      refine W_stAS 0 hS40 rfl hc40 rfl rfl rfl (et rfl) (es rfl (et rfl)) (by simp only [List.all_toArray, List.all_cons, List.all_nil, obC, SlN_one (sl_SlN fn38.at), SlN_one (sl_SlN fn39.at)] <;> rfl) (by rfl) (by kernel_rfl) (fun w41 c41 hc41 hS41 => ?_)
      replace hS41 : St w NoX [c41, c29_30, cb29_30, c28_30, c22_30, c_30, c3_30] w41 := hS41
      refine W_end ?_
      refine gen_Q (fun A42 hA42 => ?_)
      have hsz42 := szq hA42
      have hdf42 : A42.defers = [] := by rw [hA42]; simp only [df_put]; exact hdf32
      have l1_42 := lookE hA42 1 (e2 rfl (es rfl l1_32))
      have l6_42 := lookE hA42 6 (e2 rfl (es rfl l6_32))
      have l9_42 := lookE hA42 9 (e2 rfl (es rfl l9_32))
      have l11_42 := lookE hA42 11 (et rfl)
      have l25_42 := lookE hA42 25 (e2 rfl (es rfl l25_32))
      have l26_42 := lookE hA42 26 (e2 rfl (es rfl l26_32))
      have l27_42 := lookE hA42 27 (e2 rfl (es rfl l27_32))
      clear hA42 hsz32 hdf32 l1_32 l6_32 l9_32 l25_32 l26_32 l27_32 l28_32
      refine then_n (hK36 _ _ ?_)
      clear hK36
      refine region_monoS 10 11 [none, none, none, none, some (SPv [] (fun _ => fun u l' => ∃ v_s, u = v_s ∧ ∃ c_s, c_s = io .i64 (v_s) y37.1.2 ∧ l' = [c_s]) 4), none, none, some (SPv [] (fun _ => fun u l' => ∃ v_s, u = v_s ∧ ∃ c_s, c_s = io .u64 (v_s) y37.2.2 ∧ l' = [c_s]) 7), none, some (SPv [35, 38] (fun vs => fun u l' => ∃ g_, u = .slice (some ⟨g_, 0, none⟩) 1 1 ∧ ∃ c_, c_ = ro 2 obC (.slice (some ⟨g_, 0, none⟩) 1 1) [(((vs.getD 0 undef), y37.1.2), ((vs.getD 1 undef), y37.2.2))] ∧ l' = [c_]) 9)] (by kernel_rfl) (by kernel_rfl) ?_
      refine D_v rfl rfl (V_fa (off' := 0) rfl l9_42 Try.underlying25 rfl (by decide +kernel) rfl) rfl rfl ?_
      refine D_r rfl rfl (by kernel_rfl) (fun sx hx hF => (VR_ldC rfl (et rfl) (cell_box (v := hv) ((hS41.grow hx).obj 4 rfl hc22_30) rfl) Try.underlying22 rfl)) rfl rfl ?_
      refine D_v rfl rfl (V_fa (off' := 0) rfl (es rfl (es rfl l11_42)) Try.underlying40 rfl (by decide +kernel) rfl) rfl rfl ?_
      refine D_r rfl rfl (by kernel_rfl) (fun sx hx hF => (VR_ldC rfl (et rfl) (cell_box (v := y37.1.1) ((hS41.grow hx).obj 0 rfl hc41) rfl) Try.underlying23 rfl)) rfl rfl ?_
      refine D_call (ts := []) (vs := []) (C0 := fun _ => fun u l' => ∃ v_s, u = v_s ∧ ∃ c_s, c_s = io .i64 (v_s) y37.1.2 ∧ l' = [c_s]) (C := fun u l' => ∃ v_s, u = v_s ∧ ∃ c_s, c_s = io .i64 (v_s) y37.1.2 ∧ l' = [c_s]) rfl rfl rfl Try.func67 (by kernel_rfl) rfl (args1 (et rfl)) rfl rfl rfl rfl (fun sx hx hF => ?_) (fun u43 l43 hu43 => ?_)
      · refine (kcl_c ((hS41.grow hx).roC fn38) (by first | omega | with_reducible assumption)).mono ?_
        rintro _ _ ⟨v_43, rfl, hz⟩
        exact ⟨_, rfl, _, ⟨_, rfl, _, rfl, rfl⟩, hz⟩
      obtain ⟨v_43, rfl, c_43, hc_43, hl43⟩ := hu43
      refine D_v rfl rfl (V_fa (off' := 1) rfl (e4 rfl (es rfl l11_42)) Try.underlying40 rfl (by decide +kernel) rfl) rfl rfl ?_
      refine D_r rfl rfl (by kernel_rfl) (fun sx hx hF => (VR_ldC rfl (et rfl) (cell_box (v := y37.2.1) ((hS41.grow hx).obj 0 rfl hc41) rfl) Try.underlying38 rfl)) rfl rfl ?_
      refine D_call (ts := []) (vs := []) (C0 := fun _ => fun u l' => ∃ v_s, u = v_s ∧ ∃ c_s, c_s = io .u64 (v_s) y37.2.2 ∧ l' = [c_s]) (C := fun u l' => ∃ v_s, u = v_s ∧ ∃ c_s, c_s = io .u64 (v_s) y37.2.2 ∧ l' = [c_s]) rfl rfl rfl Try.func68 (by kernel_rfl) rfl (args1 (et rfl)) rfl rfl rfl rfl (fun sx hx hF => ?_) (fun u44 l44 hu44 => ?_)
      · refine (kcu_c ((hS41.grow hx).roC fn39) (by first | omega | with_reducible assumption)).mono ?_
        rintro _ _ ⟨v_44, rfl, hz⟩
        exact ⟨_, rfl, _, ⟨_, rfl, _, rfl, rfl⟩, hz⟩
      obtain ⟨v_44, rfl, c_44, hc_44, hl44⟩ := hu44
      refine D_r rfl rfl (by kernel_rfl) (fun sx hx hF => by obtain ⟨ll43, ws43, we43, ⟨v_43q, hq43, c_43_, hc_43_, hl43_⟩, hm43, k43, e43⟩ := L.ancF_get (L.ancF_rest hF) (by kernel_rfl); cases hq43; subst hl43_; obtain ⟨ll44, ws44, we44, ⟨v_44q, hq44, c_44_, hc_44_, hl44_⟩, hm44, k44, e44⟩ := L.ancF_get hF (by kernel_rfl); cases hq44; subst hl44_; exact ((V_bldS (n := 2) (z := .agg #[.slice none 0 0, .slice none 0 0]) rfl (parts2 (e3 rfl (et rfl)) (et rfl)) (by kernel_rfl) (by simp only [List.all_cons, List.all_nil, SlN_one (ow_at ((k43.grow e43).chq 0 rfl hc_43_)), SlN_one (ow_at ((k44.grow e44).chq 0 rfl hc_44_)), Bool.and_true] <;> rfl) (by kernel_rfl) (by simp only [List.foldl_cons, List.foldl_nil, Value.cells, List.setIfInBounds_toArray, List.set_cons_succ, List.set_cons_zero] <;> rfl) : Val _ _ _ _) _)) rfl rfl ?_
      have hll45 : [((u43, y37.1.2), (u44, y37.2.2))].length = 1 := rfl
      refine D_lay (ts := [35, 38]) (vs := [u43, u44]) (C0 := fun vs => fun u l' => ∃ g_, u = .slice (some ⟨g_, 0, none⟩) 1 1 ∧ ∃ c_, c_ = ro 2 obC (.slice (some ⟨g_, 0, none⟩) 1 1) [(((vs.getD 0 undef), y37.1.2), ((vs.getD 1 undef), y37.2.2))] ∧ l' = [c_]) (C := fun u l' => ∃ g_, u = .slice (some ⟨g_, 0, none⟩) 1 1 ∧ ∃ c_, c_ = ro 2 obC (.slice (some ⟨g_, 0, none⟩) 1 1) [((u43, y37.1.2), (u44, y37.2.2))] ∧ l' = [c_]) rfl rfl rfl rfl (ts2 (e4 rfl (et rfl)) (es rfl (et rfl))) rfl (fun sx hx hF => lay_lit (vs := [.agg #[u43, u44]]) 2 rfl (parts1 (et rfl)) rfl Try.underlying22 (by kernel_rfl) (by decide) (by intro v hv; simp only [List.mem_cons, List.not_mem_nil, or_false] at hv; rcases hv with rfl <;> rfl) (by rfl)) (fun u45 l45 hu45 => ?_)
      obtain ⟨g45, rfl, c45, hc45, hl45⟩ := hu45
      refine D_eff rfl ?_
      refine ZS_eff hS41 rfl rfl (fun s46 hJ46 hL46 hF46 => ?_)
      obtain ⟨ll43, ws43, we43, ⟨v_43q, hq43, c_43r, hc_43r, hl43r⟩, hm43, k43, e43⟩ := L.all_get (L.all_rest (L.all_rest hF46)); cases hq43; subst hl43r
      replace hJ46 := hJ46.add hL46 (i := 4) rfl hm43 k43 e43
      obtain ⟨ll44, ws44, we44, ⟨v_44q, hq44, c_44r, hc_44r, hl44r⟩, hm44, k44, e44⟩ := L.all_get (L.all_rest hF46); cases hq44; subst hl44r
      replace hJ46 := hJ46.add hL46 (i := 7) rfl hm44 k44 e44
      obtain ⟨ll45, ws45, we45, ⟨g45q, hq45, c45r, hc45r, hl45r⟩, hm45, k45, e45⟩ := L.all_get hF46; cases hq45; subst hl45r
      replace hJ46 := hJ46.add hL46 (i := 9) rfl hm45 k45 e45
      have hS46 := hJ46.st; clear hF46 hJ46 hL46
      generalize s46.1 = w46 at *
      replace hS46 : St w NoX [c45r, c_44r, c_43r, c41, c29_30, cb29_30, c28_30, c22_30, c_30, c3_30] w46 := hS46
      refine W_appS 2 6 hS46 rfl hc28_30 rfl rfl rfl (e8 rfl (et rfl)) (et rfl) Try.underlying22 Try.underlying22 (z := .agg #[.slice none 0 0, .slice none 0 0]) (bytes := 48) (by kernel_rfl) rfl (by decide) (ow_at (hS46.chq 0 rfl hc45r)) (by intro u hu; simp only [List.flatMap_cons, List.flatMap_nil, obC, List.append_nil, List.cons_append, List.nil_append, List.mem_cons, List.not_mem_nil, or_false] at hu; rcases hu with rfl | rfl <;> first | exact SlN_one (ow_at (hS46.chq 2 rfl hc_43r)) | exact SlN_one (ow_at (hS46.chq 1 rfl hc_44r))) (by first | omega | (simp; done) | (simp; omega)) (by first | omega | (simp; done) | (simp; omega)) (fun v47 w47 c47 hc47 hS47 => ?_)
      replace hc47 : c47 = ro 2 obC v47 (H ++ [((u43, y37.1.2), (u44, y37.2.2))]) := hc47.trans (app_eqR (by simp))
      replace hS47 : St w NoX [c45r, c_44r, c_43r, c41, c29_30, cb29_30, c47, c22_30, c_30, c3_30] w47 := hS47
      have hS48 := hS47.sel [2, 4, 1, 5, 0, 3, 6, 7, 8, 9] (by decide) (l' := [c_43r, c29_30, c_44r, cb29_30, c45r, c41, c47, c22_30, c_30, c3_30]) rfl
      replace hS48 : St w NoX [c_43r, c29_30, c_44r, cb29_30, c45r, c41, c47, c22_30, c_30, c3_30] w47 := hS48
      rw [hc_43r, hc29_30, hc_44r, hcb29_30] at hS48
      obtain ⟨c49, cb49, hc49, hcb49, hS49⟩ := gen2 (nst_push (pv := u43) (ps := y37.1.2) (qv := u44) (qs := y37.2.2) (O := H) hS48)
      replace hS49 : St w NoX [c49, cb49, c45r, c41, c47, c22_30, c_30, c3_30] w47 := hS49
      replace hc49 : c49 = owl .i64 ((H ++ [((u43, y37.1.2), (u44, y37.2.2))]).map (·.1)) := hc49
      replace hcb49 : cb49 = owl .u64 ((H ++ [((u43, y37.1.2), (u44, y37.2.2))]).map (·.2)) := hcb49
      refine W_v rfl rfl (V_fa (off' := 0) rfl (e10 rfl (es rfl l9_42)) Try.underlying25 rfl (by decide +kernel) rfl) ?_
      refine W_stCS (zs' := #[v47, v_20]) 5 hS49 rfl hc22_30 rfl rfl rfl (et rfl) (es rfl (et rfl)) (SlN_one (ow_at (hS49.chq 4 rfl hc47))) (by rfl) (by kernel_rfl) (by first | rfl | (simp only [List.setIfInBounds_toArray, List.set_cons_succ, List.set_cons_zero] <;> rfl)) (fun w50 c50 hc50 hS50 => ?_)
      replace hS50 : St w NoX [c49, cb49, c45r, c41, c47, c50, c_30, c3_30] w50 := hS50
      refine W_end ?_
      refine Qo_normal ?_
      refine gen_Q (fun A51 hA51 => ?_)
      have hsz51 := szq hA51
      have hdf51 : A51.defers = [] := by rw [hA51]; simp only [df_put]; exact hdf42
      have l1_51 := lookE hA51 1 (e11 rfl (es rfl l1_42))
      have l6_51 := lookE hA51 6 (e11 rfl (es rfl l6_42))
      have l9_51 := lookE hA51 9 (e11 rfl (es rfl l9_42))
      have l25_51 := lookE hA51 25 (e11 rfl (es rfl l25_42))
      have l26_51 := lookE hA51 26 (e11 rfl (es rfl l26_42))
      have l27_51 := lookE hA51 27 (e11 rfl (es rfl l27_42))
      clear hA51 hsz42 hdf42 l1_42 l6_42 l9_42 l11_42 l25_42 l26_42 l27_42
      have hS52 : St w NoX [c49, cb49, c47, c50, c_30, c3_30] w50 := hS50.sel [0, 1, 4, 5, 6, 7] (by decide) rfl
      refine inb_n ?_
      refine then_n (hK35 _ _ ?_)
      clear hK35
      refine region_in ?_
      refine W_v rfl rfl (V_add rfl l27_51 rfl (by omega) (by omega)) ?_
      refine W_v rfl rfl (V_mov rfl (et rfl)) ?_
      refine W_end ?_
      refine gen_Q (fun A53 hA53 => ?_)
      have hsz53 := szq hA53
      have hdf53 : A53.defers = [] := by rw [hA53]; simp only [df_put]; exact hdf51
      have l1_53 := lookE hA53 1 (es rfl (es rfl l1_51))
      have l6_53 := lookE hA53 6 (es rfl (es rfl l6_51))
      have l9_53 := lookE hA53 9 (es rfl (es rfl l9_51))
      have l25_53 := lookE hA53 25 (es rfl (es rfl l25_51))
      have l26_53 := lookE hA53 26 (es rfl (es rfl l26_51))
      have l27_53 := lookE hA53 27 (et rfl)
      clear hA53 hsz51 hdf51 l1_51 l6_51 l9_51 l25_51 l26_51 l27_51
      refine then_n ⟨O.length - (k + 1), by simp only [hm30]; omega, hsz53, hdf53, (k + 1), v47, (H ++ [((u43, y37.1.2), (u44, y37.2.2))]), rfl, (by omega), (mp_snoc hH hy37 rfl), ((l27_53).trans (by first | rfl | (simp; done) | (congr 1; omega))), ((l1_53).trans l1_26.symm), ((l6_53).trans l6_26.symm), ((l9_53).trans l9_26.symm), ((l25_53).trans l25_26.symm), ((l26_53).trans l26_26.symm), (by subst hc49 hcb49 hc47 hc50 hc_30 hc3_30; exact hS52)⟩
    · skip
      have hHO := mp_done hH (by omega)
      have hHl := mp_lenE hHO
      rw [List.length_map] at hHl
      have hrg : ∀ p ∈ rs, 0 ≤ p ∧ p ≤ (H.length : Int) := fun p hp => by rw [hHl]; exact hrg0 p hp
      refine wp_exit ?_
      refine then_exit ?_
      refine then_exit ?_
      refine inb_hit ?_
      refine then_n (hK24 _ _ ?_)
      clear hK24
      refine wp_seq_k (fun K54 hK54 => ?_)
      refine wp_seq_k (fun K55 hK55 => ?_)
      refine region_in ?_
      refine W_v rfl rfl (V_mov rfl l1_32) ?_
      have hS56 := hS30.sel [3, 2, 0, 1, 4, 5] (by decide) (l' := [c22_30, c28_30, c29_30, cb29_30, c_30, c3_30]) rfl
      replace hS56 : St w NoX [c22_30, c28_30, c29_30, cb29_30, c_30, c3_30] w30 := hS56
      obtain ⟨Y57, hP57, hR57, hF57, hB57⟩ := St.call (pre := [c22_30, c28_30, c29_30, cb29_30, c_30]) (fr := [c3_30]) hS56
      rw [hc22_30, hc28_30, hc29_30, hcb29_30, hc_30] at hP57
      refine W_callV rfl rfl rfl (et rfl) Try.func57 (by kernel_rfl) rfl (args1 (es rfl l9_32)) (kAl1_c (p := p) (gp := gp) (r := r) (gr := gr) (a := a) (ga := ga) (hR57 _ hb_p) (hR57 _ hb_r) (hR57 _ hb_a) hP57 (by first | omega | with_reducible assumption) (by first | omega | with_reducible assumption)) ?_
      rintro _ w58 ⟨hv_58, H_58, qv_58, rfl, hH_58, hP58⟩
      refine ⟨_, rfl, ?_⟩
      obtain ⟨cB_58, cR_58, cP_58, cQ_58, cG_58, hcB_58, hcR_58, hcP_58, hcQ_58, hcG_58, hP58⟩ := gen5 hP58
      have hS58 := hB57 _ _ hP58
      replace hS58 : St w NoX [cB_58, cR_58, cP_58, cQ_58, cG_58, c3_30] w58 := hS58
      refine W_v rfl rfl (V_asg rfl (et rfl)) ?_
      refine W_end ?_
      refine gen_Q (fun A59 hA59 => ?_)
      have hsz59 := szq hA59
      have hdf59 : A59.defers = [] := by rw [hA59]; simp only [df_put]; exact hdf32
      have l6_59 := lookE hA59 6 (e2 rfl (es rfl l6_32))
      have l9_59 := lookE hA59 9 (e2 rfl (es rfl l9_32))
      have l12_59 := lookE hA59 12 (et rfl)
      clear hA59 hsz32 hdf32 l1_32 l6_32 l9_32 l25_32 l26_32 l27_32 l28_32
      refine then_n (hK55 _ _ ?_)
      clear hK55
      refine wp_seq_k (fun K60 hK60 => ?_)
      refine region_in ?_
      refine W_v rfl rfl (V_mov rfl l12_59) ?_
      refine W_v rfl rfl (V_neq rfl (et rfl) rfl) ?_
      refine W_end ?_
      refine gen_Q (fun A61 hA61 => ?_)
      have hsz61 := szq hA61
      have hdf61 : A61.defers = [] := by rw [hA61]; simp only [df_put]; exact hdf59
      have l6_61 := lookE hA61 6 (es rfl (es rfl l6_59))
      have l9_61 := lookE hA61 9 (es rfl (es rfl l9_59))
      have l12_61 := lookE hA61 12 (es rfl (es rfl l12_59))
      have l47_61 := lookE hA61 47 (et rfl)
      clear hA61 hsz59 hdf59 l6_59 l9_59 l12_59
      refine then_n (hK60 _ _ ?_)
      clear hK60
      refine cond_dec l47_61 (fun c62 => ?_) (fun c62 => ?_)
      · skip
        refine wp_seq_k (fun K63 hK63 => ?_)
        refine region_in ?_
        refine W_v rfl rfl (V_bldS (n := 2) (z := .agg #[.slice none 0 0, .slice none 0 0]) rfl (parts0) (by kernel_rfl) (by simp only [List.all_cons, List.all_nil, Bool.and_true] <;> rfl) (by kernel_rfl) (by simp only [List.foldl_cons, List.foldl_nil, Value.cells, List.setIfInBounds_toArray, List.set_cons_succ, List.set_cons_zero] <;> rfl)) ?_
        refine W_v rfl rfl (V_mov rfl (es rfl l12_61)) ?_
        refine W_stAS 5 hS58 rfl hc3_30 rfl rfl rfl (es rfl (es rfl l6_61)) (es rfl (et rfl)) (by first | (rw [List.all_toArray] <;> rfl) | (simp only [List.all_toArray, List.all_cons, List.all_nil] <;> rfl)) (by rfl) (by kernel_rfl) (fun w64 c64 hc64 hS64 => ?_)
        replace hS64 : St w NoX [cB_58, cR_58, cP_58, cQ_58, cG_58, c64] w64 := hS64
        refine W_v rfl rfl (V_asg rfl (et rfl)) ?_
        refine W_end ?_
        refine gen_Q (fun A65 hA65 => ?_)
        have hsz65 := szq hA65
        have hdf65 : A65.defers = [] := by rw [hA65]; simp only [df_put]; exact hdf61
        have l6_65 := lookE hA65 6 (e2 rfl (es rfl l6_61))
        have l7_65 := lookE hA65 7 (et rfl)
        clear hA65 hsz61 hdf61 l6_61 l9_61 l12_61 l47_61
        have hS66 : St w NoX [c64] w64 := hS64.sel [5] (by decide) rfl
        refine then_n (hK63 _ _ ?_)
        clear hK63
        refine wp_ret ?_
        refine then_ret ?_
        refine ret_in (results_2 Try.results51 (rv_cellA l6_65 (hS66.obj 0 rfl hc64) Try.underlying25 rfl (by kernel_rfl)) (rv_tmp l7_65)) hdf65 ?_
        -- leaf FFT
        obtain ⟨c67, hc67, hS67⟩ := hS66.pnil (s := 2)
        replace hc67 : c67 = ro 2 obC (.slice none 0 0) ([] : List Ob) := hc67
        obtain ⟨c68, cb68, hc68, hcb68, hS68⟩ := gen2 (nst_nils hS67)
        replace hS68 : St w NoX [c68, cb68, c67, c64] w64 := hS68
        obtain ⟨c69, hc69, hS69⟩ := hS68.pnil (s := 1)
        rw [hHO] at c62
        have h := (al_in (p := p) (r := r) hcd).1 (by simpa using c62)
        rw [h.1, h.2.1]
        exact ⟨_, ([] : List Ob), _, by rw [hHO], rfl, (hS69.fin4 3 rfl (hc67) 1 rfl (hc68) 2 rfl (hcb68) 0 rfl (hc69.trans (by (try rw [hHO]); rw [h.2.2] <;> rfl)) (by decide))⟩
      · skip
        refine wp_skip ?_
        refine then_n (hK54 _ _ ?_)
        clear hK54
        refine wp_seq_k (fun K70 hK70 => ?_)
        refine region_in ?_
        refine W_r rfl rfl (VR_ldA rfl l9_61 (hS58.obj 0 rfl hcB_58) Try.underlying25 rfl (by kernel_rfl)) ?_
        refine W_stAS 5 hS58 rfl hc3_30 rfl rfl rfl (es rfl l6_61) (et rfl) (by simp only [List.all_toArray, List.all_cons, List.all_nil, obC, SlN_one (ow_at (hS58.chq 1 rfl hcR_58)), SlN_one (ow_at (hS58.chq 4 rfl hcG_58))] <;> rfl) (by rfl) (by kernel_rfl) (fun w71 c71 hc71 hS71 => ?_)
        replace hS71 : St w NoX [cB_58, cR_58, cP_58, cQ_58, cG_58, c71] w71 := hS71
        refine W_v rfl rfl (V_asg rfl rfl) ?_
        refine W_end ?_
        refine gen_Q (fun A72 hA72 => ?_)
        have hsz72 := szq hA72
        have hdf72 : A72.defers = [] := by rw [hA72]; simp only [df_put]; exact hdf61
        have l6_72 := lookE hA72 6 (es rfl (es rfl l6_61))
        have l7_72 := lookE hA72 7 (et rfl)
        clear hA72 hsz61 hdf61 l6_61 l9_61 l12_61 l47_61
        have hS73 : St w NoX [cR_58, cP_58, cQ_58, cG_58, c71] w71 := hS71.sel [1, 2, 3, 4, 5] (by decide) rfl
        refine then_n (hK70 _ _ ?_)
        clear hK70
        refine wp_ret ?_
        refine ret_in (results_2 Try.results51 (rv_cellA l6_72 (hS73.obj 4 rfl hc71) Try.underlying25 rfl (by kernel_rfl)) (rv_tmp l7_72)) hdf72 ?_
        -- leaf FFF
        rw [hHO] at c62
        rw [hHO] at hH_58
        have h := (al_in (p := p) (r := r) hcd).2 (by first | rfl | simpa using c62)
        rw [h.1, h.2.1]
        exact ⟨_, H_58, _, rfl, hH_58, (hS73.fin4 0 rfl (hcR_58) 1 rfl (hcP_58) 2 rfl (hcQ_58) 3 rfl (hcG_58.trans (by (try rw [hHO]); rw [h.2.2] <;> rfl)) (by decide))⟩

set_option maxHeartbeats 4000000 in
theorem kchLoad_c {ov : Value} {O : List Ob} {rv : Value} {rs : List Int} {b : Int} {gb : Nat} {f : Int} {gf : Nat} {a : Int} {ga : Nat} {nv : Value} {ns : List Int} {w : World} (h_ov : Ro w NoX (rl 2 obC ov O)) (n_ov : Ro w NoX (nst O)) (h_rv : Ro w NoX (il .i64 rv rs)) (hb_b : Ro w NoX (bx gb 3 #[.int .i64 b])) (hb_f : Ro w NoX (bx gf 3 #[.int .i64 f])) (hb_a : Ro w NoX (bx ga 3 #[.int .i64 a])) (h_nv : Ro w NoX (il .i64 nv ns)) (hsm : SM (O.map ab)) (hns : ns = [a, b]) :
    Calls Try.prog 51 #[.agg #[ov, rv], .func (.func 53) #[] #[.pointer (some ⟨gb, 0, none⟩), .pointer (some ⟨gf, 0, none⟩), .pointer (some ⟨ga, 0, none⟩)], nv] w fun e w' => ∃ hv H qv, e = .returned (.tuple #[.agg #[hv, qv], .int .i64 (ptE (O.map ab) rs [a, b] b f)]) ∧ (H.map ab = (ldO (O.map ab) rs a b f)) ∧ St w NoX [ro 2 obC hv H, owl .i64 (H.map (·.1)), owl .u64 (H.map (·.2)), io .i64 (qv) (ldR (O.map ab) rs a b f)] w' := by
  refine calls_in 51 Try.func51 rfl rfl (by simp) (fun A0 hsz0 hdf0 hargs => ?_)
  have l0_0 := hargs 0 (.agg #[ov, rv]) rfl
  have l1_0 := hargs 1 (.func (.func 53) #[] #[.pointer (some ⟨gb, 0, none⟩), .pointer (some ⟨gf, 0, none⟩), .pointer (some ⟨ga, 0, none⟩)]) rfl
  have l2_0 := hargs 2 (nv) rfl
  clear hargs; replace hsz0 : SzN A0 51 := ⟨hsz0⟩
  have hS := St.nil w
  have bh_ov := SlN.le (sl_SlN h_ov.at)
  have bh_rv := SlN.le (sl_SlN h_rv.at)
  have bh_nv := SlN.le (sl_SlN h_nv.at)
  refine wp_seq_k (fun K1 hK1 => ?_)
  refine region_in ?_
  refine W_boxS (zs := #[ov, rv]) hS rfl rfl rfl l0_0 (by rfl) (fun g2 w2 c2 hc2 hS2 => ?_)
  replace hS2 : St w NoX [c2] w2 := hS2
  refine W_allocS (z := .agg #[.slice none 0 0, .slice none 0 0]) (zs := #[.slice none 0 0, .slice none 0 0]) hS2 rfl rfl rfl (by kernel_rfl) (by rfl) (fun g3 w3 c3 hc3 hS3 => ?_)
  replace hS3 : St w NoX [c3, c2] w3 := hS3
  refine W_v rfl rfl (V_asg rfl rfl) ?_
  refine W_end ?_
  refine gen_Q (fun A4 hA4 => ?_)
  have hsz4 := szq hA4
  have hdf4 : A4.defers = [] := by rw [hA4]; simp only [df_put]; exact hdf0
  have l1_4 := lookE hA4 1 (e2 rfl (es rfl l1_0))
  have l2_4 := lookE hA4 2 (e2 rfl (es rfl l2_0))
  have l3_4 := lookE hA4 3 (e2 rfl (et rfl))
  have l6_4 := lookE hA4 6 (es rfl (et rfl))
  clear hA4 hsz0 hdf0 l0_0 l1_0 l2_0
  refine then_n (hK1 _ _ ?_)
  clear hK1
  refine wp_seq_k (fun K5 hK5 => ?_)
  refine wp_seq_k (fun K6 hK6 => ?_)
  refine region_in ?_
  refine W_r rfl rfl (VR_ldA rfl l3_4 (hS3.obj 1 rfl hc2) Try.underlying25 rfl (by kernel_rfl)) ?_
  refine W_v rfl rfl (V_mov rfl (es rfl l2_4)) ?_
  refine W_call rfl rfl rfl Try.func47 (by kernel_rfl) rfl (args2 (es rfl (et rfl)) (et rfl)) (kcd_c (hS3.roC h_ov) (hS3.roC n_ov) (hS3.roC h_rv) (hS3.roC h_nv) ) ?_
  rintro _ w7 ⟨rfl, hP7⟩
  refine ⟨_, rfl, ?_⟩
  have hS7 := hS3.join hP7
  replace hS7 : St w NoX [c3, c2] w7 := hS7
  refine W_v rfl rfl (V_asg rfl (et rfl)) ?_
  refine W_end ?_
  refine gen_Q (fun A8 hA8 => ?_)
  have hsz8 := szq hA8
  have hdf8 : A8.defers = [] := by rw [hA8]; simp only [df_put]; exact hdf4
  have l1_8 := lookE hA8 1 (e3 rfl (es rfl l1_4))
  have l3_8 := lookE hA8 3 (e3 rfl (es rfl l3_4))
  have l6_8 := lookE hA8 6 (e3 rfl (es rfl l6_4))
  have l8_8 := lookE hA8 8 (et rfl)
  clear hA8 hsz4 hdf4 l1_4 l2_4 l3_4 l6_4
  refine then_n (hK6 _ _ ?_)
  clear hK6
  refine wp_seq_k (fun K9 hK9 => ?_)
  refine region_in ?_
  refine W_v rfl rfl (V_mov rfl l8_8) ?_
  refine W_v rfl rfl (V_neq rfl (et rfl) rfl) ?_
  refine W_end ?_
  refine gen_Q (fun A10 hA10 => ?_)
  have hsz10 := szq hA10
  have hdf10 : A10.defers = [] := by rw [hA10]; simp only [df_put]; exact hdf8
  have l1_10 := lookE hA10 1 (es rfl (es rfl l1_8))
  have l3_10 := lookE hA10 3 (es rfl (es rfl l3_8))
  have l6_10 := lookE hA10 6 (es rfl (es rfl l6_8))
  have l8_10 := lookE hA10 8 (es rfl (es rfl l8_8))
  have l17_10 := lookE hA10 17 (et rfl)
  clear hA10 hsz8 hdf8 l1_8 l3_8 l6_8 l8_8
  refine then_n (hK9 _ _ ?_)
  clear hK9
  refine cond_dec l17_10 (fun c11 => ?_) (fun c11 => ?_)
  · skip
    have hcd : ckd (O.map ab) rs ns ≠ 0 := by simpa using c11
    rw [hns] at *
    refine wp_seq_k (fun K12 hK12 => ?_)
    refine region_in ?_
    refine W_v rfl rfl (V_bldS (n := 2) (z := .agg #[.slice none 0 0, .slice none 0 0]) rfl (parts0) (by kernel_rfl) (by simp only [List.all_cons, List.all_nil, Bool.and_true] <;> rfl) (by kernel_rfl) (by simp only [List.foldl_cons, List.foldl_nil, Value.cells, List.setIfInBounds_toArray, List.set_cons_succ, List.set_cons_zero] <;> rfl)) ?_
    refine W_v rfl rfl (V_mov rfl (es rfl l8_10)) ?_
    refine W_stAS 0 hS7 rfl hc3 rfl rfl rfl (es rfl (es rfl l6_10)) (es rfl (et rfl)) (by first | (rw [List.all_toArray] <;> rfl) | (simp only [List.all_toArray, List.all_cons, List.all_nil] <;> rfl)) (by rfl) (by kernel_rfl) (fun w13 c13 hc13 hS13 => ?_)
    replace hS13 : St w NoX [c13, c2] w13 := hS13
    refine W_v rfl rfl (V_asg rfl (et rfl)) ?_
    refine W_end ?_
    refine gen_Q (fun A14 hA14 => ?_)
    have hsz14 := szq hA14
    have hdf14 : A14.defers = [] := by rw [hA14]; simp only [df_put]; exact hdf10
    have l6_14 := lookE hA14 6 (e2 rfl (es rfl l6_10))
    have l7_14 := lookE hA14 7 (et rfl)
    clear hA14 hsz10 hdf10 l1_10 l3_10 l6_10 l8_10 l17_10
    have hS15 : St w NoX [c13] w13 := hS13.sel [0] (by decide) rfl
    refine then_n (hK12 _ _ ?_)
    clear hK12
    refine wp_ret ?_
    refine then_ret ?_
    refine ret_in (results_2 Try.results51 (rv_cellA l6_14 (hS15.obj 0 rfl hc13) Try.underlying25 rfl (by kernel_rfl)) (rv_tmp l7_14)) hdf14 ?_
    -- leaf T
    obtain ⟨c16, hc16, hS16⟩ := hS15.pnil (s := 2)
    replace hc16 : c16 = ro 2 obC (.slice none 0 0) ([] : List Ob) := hc16
    obtain ⟨c17, cb17, hc17, hcb17, hS17⟩ := gen2 (nst_nils hS16)
    replace hS17 : St w NoX [c17, cb17, c16, c13] w13 := hS17
    obtain ⟨c18, hc18, hS18⟩ := hS17.pnil (s := 1)
    have h := ld_ck (f := f) hcd
    rw [h.1, h.2.1]
    exact ⟨_, ([] : List Ob), _, rfl, rfl, (hS18.fin4 3 rfl (hc16) 1 rfl (hc17) 2 rfl (hcb17) 0 rfl (hc18.trans (by rw [h.2.2] <;> rfl)) (by decide))⟩
  · skip
    have hcd : ckd (O.map ab) rs ns = 0 := by simpa using c11
    rw [hns] at hcd
    have hG := (ckd_0.1 hcd).1
    have ho4 := hG.o4
    have hr8 := hG.r8
    rw [List.length_map] at ho4
    have hrg0 : ∀ p ∈ rs, 0 ≤ p ∧ p ≤ (O.length : Int) := fun p hp => by have q := hG.reg p hp; rw [List.length_map] at q; exact q
    have ha := (ckd_0.1 hcd).2 a (by simp)
    have hb := (ckd_0.1 hcd).2 b (by simp)
    refine wp_skip ?_
    refine then_n (hK5 _ _ ?_)
    clear hK5
    refine wp_seq_k (fun K19 hK19 => ?_)
    refine region_in ?_
    refine W_v rfl rfl (V_fa (off' := 1) rfl l3_10 Try.underlying25 rfl (by decide +kernel) rfl) ?_
    refine W_r rfl rfl (VR_ldC rfl (et rfl) (cell_box (v := rv) (hS7.obj 1 rfl hc2) rfl) Try.underlying23 rfl) ?_
    refine W_call rfl rfl rfl Try.func67 (by kernel_rfl) rfl (args1 (et rfl)) (kcl_c (hS7.roC h_rv) (by first | omega | with_reducible assumption)) ?_
    rintro _ w20 ⟨v_20, rfl, hP20⟩
    refine ⟨_, rfl, ?_⟩
    obtain ⟨c_20, hc_20, hP20⟩ := gen1 hP20
    have hS20 := hS7.join hP20
    replace hS20 : St w NoX [c_20, c3, c2] w20 := hS20
    refine W_v rfl rfl (V_bldS (n := 2) (z := .agg #[.slice none 0 0, .slice none 0 0]) rfl (parts1 (et rfl)) (by kernel_rfl) (by simp only [List.all_cons, List.all_nil, SlN_one (ow_at (hS20.chq 0 rfl hc_20)), Bool.and_true] <;> rfl) (by kernel_rfl) (by simp only [List.foldl_cons, List.foldl_nil, Value.cells, List.setIfInBounds_toArray, List.set_cons_succ, List.set_cons_zero] <;> rfl)) ?_
    refine W_allocS (z := .agg #[.slice none 0 0, .slice none 0 0]) (zs := #[.slice none 0 0, .slice none 0 0]) hS20 rfl rfl rfl (by kernel_rfl) (by rfl) (fun g21 w21 c21 hc21 hS21 => ?_)
    replace hS21 : St w NoX [c21, c_20, c3, c2] w21 := hS21
    refine W_stAS 0 hS21 rfl hc21 rfl rfl rfl (et rfl) (es rfl (et rfl)) (by simp only [List.all_toArray, List.all_cons, List.all_nil, obC, SlN_one (ow_at (hS21.chq 1 rfl hc_20))] <;> rfl) (by rfl) (by kernel_rfl) (fun w22 c22 hc22 hS22 => ?_)
    replace hS22 : St w NoX [c22, c_20, c3, c2] w22 := hS22
    refine W_end ?_
    refine gen_Q (fun A23 hA23 => ?_)
    have hsz23 := szq hA23
    have hdf23 : A23.defers = [] := by rw [hA23]; simp only [df_put]; exact hdf10
    have l1_23 := lookE hA23 1 (e4 rfl (es rfl l1_10))
    have l3_23 := lookE hA23 3 (e4 rfl (es rfl l3_10))
    have l6_23 := lookE hA23 6 (e4 rfl (es rfl l6_10))
    have l9_23 := lookE hA23 9 (et rfl)
    clear hA23 hsz10 hdf10 l1_10 l3_10 l6_10 l8_10 l17_10
    refine then_n (hK19 _ _ ?_)
    clear hK19
    refine wp_seq_k (fun K24 hK24 => ?_)
    refine wp_seq_k (fun K25 hK25 => ?_)
    refine region_in ?_
    refine W_v rfl rfl (V_fa (off' := 0) rfl l3_23 Try.underlying25 rfl (by decide +kernel) rfl) ?_
    refine W_r rfl rfl (VR_ldC rfl (et rfl) (cell_box (v := ov) (hS22.obj 3 rfl hc2) rfl) Try.underlying22 rfl) ?_
    refine W_v rfl rfl (V_lenS rfl (et rfl) (sl_SlN h_ov.at) Try.underlying22) ?_
    refine W_v rfl rfl (V_mov rfl rfl) ?_
    refine W_end ?_
    refine gen_Q (fun A26 hA26 => ?_)
    have hsz26 := szq hA26
    have hdf26 : A26.defers = [] := by rw [hA26]; simp only [df_put]; exact hdf23
    have l1_26 := lookE hA26 1 (e3 rfl (es rfl l1_23))
    have l6_26 := lookE hA26 6 (e3 rfl (es rfl l6_23))
    have l9_26 := lookE hA26 9 (e3 rfl (es rfl l9_23))
    have l25_26 := lookE hA26 25 (e2 rfl (et rfl))
    have l26_26 := lookE hA26 26 (es rfl (et rfl))
    have l27_26 := lookE hA26 27 (et rfl)
    clear hA26 hsz23 hdf23 l1_23 l3_23 l6_23 l9_23
    have hS27 : St w NoX [c22, c_20, c3] w22 := hS22.sel [0, 1, 2] (by decide) rfl
    refine then_n (hK25 _ _ ?_)
    clear hK25
    refine wp_block ?_
    obtain ⟨c28, hc28, hS28⟩ := hS27.pnil (s := 2)
    replace hc28 : c28 = ro 2 obC (.slice none 0 0) ([] : List Ob) := hc28
    obtain ⟨c29, cb29, hc29, hcb29, hS29⟩ := gen2 (nst_nils hS28)
    replace hS29 : St w NoX [c29, cb29, c28, c22, c_20, c3] w22 := hS29
    -- loop 6
    refine loopX (fun mz A' w' => SzN A' 51 ∧ A'.defers = [] ∧ (∃ (k : Nat) (hv : Value) (H : List Ob), (mz = O.length - k) ∧ (k ≤ O.length) ∧ (H.map ab = (O.map ab).take k) ∧ (EV A' (.tmp 27) = .int .i64 (k : Int)) ∧ (EV A' (.tmp 1) = EV A26 (.tmp 1)) ∧ (EV A' (.tmp 6) = EV A26 (.tmp 6)) ∧ (EV A' (.tmp 9) = EV A26 (.tmp 9)) ∧ (EV A' (.tmp 25) = EV A26 (.tmp 25)) ∧ (EV A' (.tmp 26) = EV A26 (.tmp 26)) ∧ (St w NoX [owl .i64 (H.map (·.1)), owl .u64 (H.map (·.2)), ro 2 obC hv H, bx g21 25 #[hv, v_20], io .i64 v_20 rs, bx g3 25 #[.slice none 0 0, .slice none 0 0]] w'))) (O.length - 0) ⟨hsz26, hdf26, 0, (.slice none 0 0), [], rfl, (by omega), rfl, ((l27_26).trans (by first | rfl | (simp; done) | (congr 1; omega))), rfl, rfl, rfl, rfl, rfl, (by subst hc29 hcb29 hc28 hc22 hc_20 hc3; exact hS29)⟩ ?_
    clear hS29 hc29 hcb29 hc28 hc22 hc_20 hc3
    rintro n30 A30 w30 ⟨hsz30, hdf30, k, hv, H, hm30, hk, hH, l27_30, u1_30, u6_30, u9_30, u25_30, u26_30, hS30⟩
    have l1_30 := u1_30.trans l1_26
    have l6_30 := u6_30.trans l6_26
    have l9_30 := u9_30.trans l9_26
    have l25_30 := u25_30.trans l25_26
    have l26_30 := u26_30.trans l26_26
    obtain ⟨c29_30, cb29_30, c28_30, c22_30, c_30, c3_30, hc29_30, hcb29_30, hc28_30, hc22_30, hc_30, hc3_30, hS30⟩ := gen6 hS30
    refine wp_seq_k (fun K31 hK31 => ?_)
    refine region_in ?_
    refine W_v rfl rfl (V_lss rfl l27_30 l26_30) ?_
    refine W_end ?_
    refine gen_Q (fun A32 hA32 => ?_)
    have hsz32 := szq hA32
    have hdf32 : A32.defers = [] := by rw [hA32]; simp only [df_put]; exact hdf30
    have l1_32 := lookE hA32 1 (es rfl l1_30)
    have l6_32 := lookE hA32 6 (es rfl l6_30)
    have l9_32 := lookE hA32 9 (es rfl l9_30)
    have l25_32 := lookE hA32 25 (es rfl l25_30)
    have l26_32 := lookE hA32 26 (es rfl l26_30)
    have l27_32 := lookE hA32 27 (es rfl l27_30)
    have l28_32 := lookE hA32 28 (et rfl)
    clear hA32 hsz30 hdf30 l27_30 l1_30 l6_30 l9_30 l25_30 l26_30
    refine then_n (hK31 _ _ ?_)
    clear hK31
    refine wp_seq_k (fun K33 hK33 => ?_)
    refine cond_dec l28_32 (fun c34 => ?_) (fun c34 => ?_)
    · skip
      have hHl := mp_len hH hk
      refine wp_skip ?_
      refine then_n (hK33 _ _ ?_)
      clear hK33
      refine wp_seq_k (fun K35 hK35 => ?_)
      refine wp_block ?_
      refine wp_seq_k (fun K36 hK36 => ?_)
      refine region_in ?_
      have k37 : k < O.length := by first | omega | (simp only [List.length_cons, List.length_nil]; omega) | (simp only [List.length_set]; omega)
      obtain ⟨y37, hy37⟩ := get_some (xs := O) (k := k) k37
      have hsy := hsm.at hy37
      obtain ⟨B37, O37, C37, hv37⟩ := (SlN.blk (sl_SlN h_ov.at) (by first | omega | (simp only [List.length_cons, List.length_nil]; omega) | (simp only [List.length_set]; omega)))
      refine W_v rfl rfl (V_ixS (off := O37 + k * 2) 2 (k) rfl l25_32 l27_32 hv37 (by omega) k37 Try.underlying22 (by kernel_rfl) rfl) ?_
      have fn38 : Ro w NoX (il .i64 y37.1.1 y37.1.2) := nst_ro1 n_ov hy37
      have bfn38 := SlN.le (sl_SlN (hS30.ro fn38))
      have fn39 : Ro w NoX (il .u64 y37.2.1 y37.2.2) := nst_ro2 n_ov hy37
      have bfn39 := SlN.le (sl_SlN (hS30.ro fn39))
      refine W_r rfl rfl (VR_ldR (ys := obC y37) rfl (et rfl) (SlN.row obC_len (sl_SlN (hS30.ro h_ov)) hv37 hy37 rfl) Try.underlying40 rfl (by kernel_rfl)) ?_
      refine W_allocS (z := .agg #[.slice none 0 0, .slice none 0 0]) (zs := #[.slice none 0 0, .slice none 0 0]) hS30 rfl rfl rfl (by kernel_rfl) (by rfl) (fun g40 w40 c40 hc40 hS40 => ?_)
      replace hS40 : St w NoX [c40, c29_30, cb29_30, c28_30, c22_30, c_30, c3_30] w40 := hS40
      refine W_stAS 0 hS40 rfl hc40 rfl rfl rfl (et rfl) (es rfl (et rfl)) (by simp only [List.all_toArray, List.all_cons, List.all_nil, obC, SlN_one (sl_SlN fn38.at), SlN_one (sl_SlN fn39.at)] <;> rfl) (by rfl) (by kernel_rfl) (fun w41 c41 hc41 hS41 => ?_)
      replace hS41 : St w NoX [c41, c29_30, cb29_30, c28_30, c22_30, c_30, c3_30] w41 := hS41
      refine W_end ?_
      refine gen_Q (fun A42 hA42 => ?_)
      have hsz42 := szq hA42
      have hdf42 : A42.defers = [] := by rw [hA42]; simp only [df_put]; exact hdf32
      have l1_42 := lookE hA42 1 (e2 rfl (es rfl l1_32))
      have l6_42 := lookE hA42 6 (e2 rfl (es rfl l6_32))
      have l9_42 := lookE hA42 9 (e2 rfl (es rfl l9_32))
      have l11_42 := lookE hA42 11 (et rfl)
      have l25_42 := lookE hA42 25 (e2 rfl (es rfl l25_32))
      have l26_42 := lookE hA42 26 (e2 rfl (es rfl l26_32))
      have l27_42 := lookE hA42 27 (e2 rfl (es rfl l27_32))
      clear hA42 hsz32 hdf32 l1_32 l6_32 l9_32 l25_32 l26_32 l27_32 l28_32
      refine then_n (hK36 _ _ ?_)
      clear hK36
      refine region_monoS 10 11 [none, none, none, none, some (SPv [] (fun _ => fun u l' => ∃ v_s, u = v_s ∧ ∃ c_s, c_s = io .i64 (v_s) y37.1.2 ∧ l' = [c_s]) 4), none, none, some (SPv [] (fun _ => fun u l' => ∃ v_s, u = v_s ∧ ∃ c_s, c_s = io .u64 (v_s) y37.2.2 ∧ l' = [c_s]) 7), none, some (SPv [35, 38] (fun vs => fun u l' => ∃ g_, u = .slice (some ⟨g_, 0, none⟩) 1 1 ∧ ∃ c_, c_ = ro 2 obC (.slice (some ⟨g_, 0, none⟩) 1 1) [(((vs.getD 0 undef), y37.1.2), ((vs.getD 1 undef), y37.2.2))] ∧ l' = [c_]) 9)] (by kernel_rfl) (by kernel_rfl) ?_
      refine D_v rfl rfl (V_fa (off' := 0) rfl l9_42 Try.underlying25 rfl (by decide +kernel) rfl) rfl rfl ?_
      refine D_r rfl rfl (by kernel_rfl) (fun sx hx hF => (VR_ldC rfl (et rfl) (cell_box (v := hv) ((hS41.grow hx).obj 4 rfl hc22_30) rfl) Try.underlying22 rfl)) rfl rfl ?_
      refine D_v rfl rfl (V_fa (off' := 0) rfl (es rfl (es rfl l11_42)) Try.underlying40 rfl (by decide +kernel) rfl) rfl rfl ?_
      refine D_r rfl rfl (by kernel_rfl) (fun sx hx hF => (VR_ldC rfl (et rfl) (cell_box (v := y37.1.1) ((hS41.grow hx).obj 0 rfl hc41) rfl) Try.underlying23 rfl)) rfl rfl ?_
      refine D_call (ts := []) (vs := []) (C0 := fun _ => fun u l' => ∃ v_s, u = v_s ∧ ∃ c_s, c_s = io .i64 (v_s) y37.1.2 ∧ l' = [c_s]) (C := fun u l' => ∃ v_s, u = v_s ∧ ∃ c_s, c_s = io .i64 (v_s) y37.1.2 ∧ l' = [c_s]) rfl rfl rfl Try.func67 (by kernel_rfl) rfl (args1 (et rfl)) rfl rfl rfl rfl (fun sx hx hF => ?_) (fun u43 l43 hu43 => ?_)
      · refine (kcl_c ((hS41.grow hx).roC fn38) (by first | omega | with_reducible assumption)).mono ?_
        rintro _ _ ⟨v_43, rfl, hz⟩
        exact ⟨_, rfl, _, ⟨_, rfl, _, rfl, rfl⟩, hz⟩
      obtain ⟨v_43, rfl, c_43, hc_43, hl43⟩ := hu43
      refine D_v rfl rfl (V_fa (off' := 1) rfl (e4 rfl (es rfl l11_42)) Try.underlying40 rfl (by decide +kernel) rfl) rfl rfl ?_
      refine D_r rfl rfl (by kernel_rfl) (fun sx hx hF => (VR_ldC rfl (et rfl) (cell_box (v := y37.2.1) ((hS41.grow hx).obj 0 rfl hc41) rfl) Try.underlying38 rfl)) rfl rfl ?_
      refine D_call (ts := []) (vs := []) (C0 := fun _ => fun u l' => ∃ v_s, u = v_s ∧ ∃ c_s, c_s = io .u64 (v_s) y37.2.2 ∧ l' = [c_s]) (C := fun u l' => ∃ v_s, u = v_s ∧ ∃ c_s, c_s = io .u64 (v_s) y37.2.2 ∧ l' = [c_s]) rfl rfl rfl Try.func68 (by kernel_rfl) rfl (args1 (et rfl)) rfl rfl rfl rfl (fun sx hx hF => ?_) (fun u44 l44 hu44 => ?_)
      · refine (kcu_c ((hS41.grow hx).roC fn39) (by first | omega | with_reducible assumption)).mono ?_
        rintro _ _ ⟨v_44, rfl, hz⟩
        exact ⟨_, rfl, _, ⟨_, rfl, _, rfl, rfl⟩, hz⟩
      obtain ⟨v_44, rfl, c_44, hc_44, hl44⟩ := hu44
      refine D_r rfl rfl (by kernel_rfl) (fun sx hx hF => by obtain ⟨ll43, ws43, we43, ⟨v_43q, hq43, c_43_, hc_43_, hl43_⟩, hm43, k43, e43⟩ := L.ancF_get (L.ancF_rest hF) (by kernel_rfl); cases hq43; subst hl43_; obtain ⟨ll44, ws44, we44, ⟨v_44q, hq44, c_44_, hc_44_, hl44_⟩, hm44, k44, e44⟩ := L.ancF_get hF (by kernel_rfl); cases hq44; subst hl44_; exact ((V_bldS (n := 2) (z := .agg #[.slice none 0 0, .slice none 0 0]) rfl (parts2 (e3 rfl (et rfl)) (et rfl)) (by kernel_rfl) (by simp only [List.all_cons, List.all_nil, SlN_one (ow_at ((k43.grow e43).chq 0 rfl hc_43_)), SlN_one (ow_at ((k44.grow e44).chq 0 rfl hc_44_)), Bool.and_true] <;> rfl) (by kernel_rfl) (by simp only [List.foldl_cons, List.foldl_nil, Value.cells, List.setIfInBounds_toArray, List.set_cons_succ, List.set_cons_zero] <;> rfl) : Val _ _ _ _) _)) rfl rfl ?_
      have hll45 : [((u43, y37.1.2), (u44, y37.2.2))].length = 1 := rfl
      refine D_lay (ts := [35, 38]) (vs := [u43, u44]) (C0 := fun vs => fun u l' => ∃ g_, u = .slice (some ⟨g_, 0, none⟩) 1 1 ∧ ∃ c_, c_ = ro 2 obC (.slice (some ⟨g_, 0, none⟩) 1 1) [(((vs.getD 0 undef), y37.1.2), ((vs.getD 1 undef), y37.2.2))] ∧ l' = [c_]) (C := fun u l' => ∃ g_, u = .slice (some ⟨g_, 0, none⟩) 1 1 ∧ ∃ c_, c_ = ro 2 obC (.slice (some ⟨g_, 0, none⟩) 1 1) [((u43, y37.1.2), (u44, y37.2.2))] ∧ l' = [c_]) rfl rfl rfl rfl (ts2 (e4 rfl (et rfl)) (es rfl (et rfl))) rfl (fun sx hx hF => lay_lit (vs := [.agg #[u43, u44]]) 2 rfl (parts1 (et rfl)) rfl Try.underlying22 (by kernel_rfl) (by decide) (by intro v hv; simp only [List.mem_cons, List.not_mem_nil, or_false] at hv; rcases hv with rfl <;> rfl) (by rfl)) (fun u45 l45 hu45 => ?_)
      obtain ⟨g45, rfl, c45, hc45, hl45⟩ := hu45
      refine D_eff rfl ?_
      refine ZS_eff hS41 rfl rfl (fun s46 hJ46 hL46 hF46 => ?_)
      obtain ⟨ll43, ws43, we43, ⟨v_43q, hq43, c_43r, hc_43r, hl43r⟩, hm43, k43, e43⟩ := L.all_get (L.all_rest (L.all_rest hF46)); cases hq43; subst hl43r
      replace hJ46 := hJ46.add hL46 (i := 4) rfl hm43 k43 e43
      obtain ⟨ll44, ws44, we44, ⟨v_44q, hq44, c_44r, hc_44r, hl44r⟩, hm44, k44, e44⟩ := L.all_get (L.all_rest hF46); cases hq44; subst hl44r
      replace hJ46 := hJ46.add hL46 (i := 7) rfl hm44 k44 e44
      obtain ⟨ll45, ws45, we45, ⟨g45q, hq45, c45r, hc45r, hl45r⟩, hm45, k45, e45⟩ := L.all_get hF46; cases hq45; subst hl45r
      replace hJ46 := hJ46.add hL46 (i := 9) rfl hm45 k45 e45
      have hS46 := hJ46.st; clear hF46 hJ46 hL46
      generalize s46.1 = w46 at *
      replace hS46 : St w NoX [c45r, c_44r, c_43r, c41, c29_30, cb29_30, c28_30, c22_30, c_30, c3_30] w46 := hS46
      refine W_appS 2 6 hS46 rfl hc28_30 rfl rfl rfl (e8 rfl (et rfl)) (et rfl) Try.underlying22 Try.underlying22 (z := .agg #[.slice none 0 0, .slice none 0 0]) (bytes := 48) (by kernel_rfl) rfl (by decide) (ow_at (hS46.chq 0 rfl hc45r)) (by intro u hu; simp only [List.flatMap_cons, List.flatMap_nil, obC, List.append_nil, List.cons_append, List.nil_append, List.mem_cons, List.not_mem_nil, or_false] at hu; rcases hu with rfl | rfl <;> first | exact SlN_one (ow_at (hS46.chq 2 rfl hc_43r)) | exact SlN_one (ow_at (hS46.chq 1 rfl hc_44r))) (by first | omega | (simp; done) | (simp; omega)) (by first | omega | (simp; done) | (simp; omega)) (fun v47 w47 c47 hc47 hS47 => ?_)
      replace hc47 : c47 = ro 2 obC v47 (H ++ [((u43, y37.1.2), (u44, y37.2.2))]) := hc47.trans (app_eqR (by simp))
      replace hS47 : St w NoX [c45r, c_44r, c_43r, c41, c29_30, cb29_30, c47, c22_30, c_30, c3_30] w47 := hS47
      have hS48 := hS47.sel [2, 4, 1, 5, 0, 3, 6, 7, 8, 9] (by decide) (l' := [c_43r, c29_30, c_44r, cb29_30, c45r, c41, c47, c22_30, c_30, c3_30]) rfl
      replace hS48 : St w NoX [c_43r, c29_30, c_44r, cb29_30, c45r, c41, c47, c22_30, c_30, c3_30] w47 := hS48
      rw [hc_43r, hc29_30, hc_44r, hcb29_30] at hS48
      obtain ⟨c49, cb49, hc49, hcb49, hS49⟩ := gen2 (nst_push (pv := u43) (ps := y37.1.2) (qv := u44) (qs := y37.2.2) (O := H) hS48)
      replace hS49 : St w NoX [c49, cb49, c45r, c41, c47, c22_30, c_30, c3_30] w47 := hS49
      replace hc49 : c49 = owl .i64 ((H ++ [((u43, y37.1.2), (u44, y37.2.2))]).map (·.1)) := hc49
      replace hcb49 : cb49 = owl .u64 ((H ++ [((u43, y37.1.2), (u44, y37.2.2))]).map (·.2)) := hcb49
      refine W_v rfl rfl (V_fa (off' := 0) rfl (e10 rfl (es rfl l9_42)) Try.underlying25 rfl (by decide +kernel) rfl) ?_
      refine W_stCS (zs' := #[v47, v_20]) 5 hS49 rfl hc22_30 rfl rfl rfl (et rfl) (es rfl (et rfl)) (SlN_one (ow_at (hS49.chq 4 rfl hc47))) (by rfl) (by kernel_rfl) (by first | rfl | (simp only [List.setIfInBounds_toArray, List.set_cons_succ, List.set_cons_zero] <;> rfl)) (fun w50 c50 hc50 hS50 => ?_)
      replace hS50 : St w NoX [c49, cb49, c45r, c41, c47, c50, c_30, c3_30] w50 := hS50
      refine W_end ?_
      refine Qo_normal ?_
      refine gen_Q (fun A51 hA51 => ?_)
      have hsz51 := szq hA51
      have hdf51 : A51.defers = [] := by rw [hA51]; simp only [df_put]; exact hdf42
      have l1_51 := lookE hA51 1 (e11 rfl (es rfl l1_42))
      have l6_51 := lookE hA51 6 (e11 rfl (es rfl l6_42))
      have l9_51 := lookE hA51 9 (e11 rfl (es rfl l9_42))
      have l25_51 := lookE hA51 25 (e11 rfl (es rfl l25_42))
      have l26_51 := lookE hA51 26 (e11 rfl (es rfl l26_42))
      have l27_51 := lookE hA51 27 (e11 rfl (es rfl l27_42))
      clear hA51 hsz42 hdf42 l1_42 l6_42 l9_42 l11_42 l25_42 l26_42 l27_42
      have hS52 : St w NoX [c49, cb49, c47, c50, c_30, c3_30] w50 := hS50.sel [0, 1, 4, 5, 6, 7] (by decide) rfl
      refine inb_n ?_
      refine then_n (hK35 _ _ ?_)
      clear hK35
      refine region_in ?_
      refine W_v rfl rfl (V_add rfl l27_51 rfl (by omega) (by omega)) ?_
      refine W_v rfl rfl (V_mov rfl (et rfl)) ?_
      refine W_end ?_
      refine gen_Q (fun A53 hA53 => ?_)
      have hsz53 := szq hA53
      have hdf53 : A53.defers = [] := by rw [hA53]; simp only [df_put]; exact hdf51
      have l1_53 := lookE hA53 1 (es rfl (es rfl l1_51))
      have l6_53 := lookE hA53 6 (es rfl (es rfl l6_51))
      have l9_53 := lookE hA53 9 (es rfl (es rfl l9_51))
      have l25_53 := lookE hA53 25 (es rfl (es rfl l25_51))
      have l26_53 := lookE hA53 26 (es rfl (es rfl l26_51))
      have l27_53 := lookE hA53 27 (et rfl)
      clear hA53 hsz51 hdf51 l1_51 l6_51 l9_51 l25_51 l26_51 l27_51
      refine then_n ⟨O.length - (k + 1), by simp only [hm30]; omega, hsz53, hdf53, (k + 1), v47, (H ++ [((u43, y37.1.2), (u44, y37.2.2))]), rfl, (by omega), (mp_snoc hH hy37 rfl), ((l27_53).trans (by first | rfl | (simp; done) | (congr 1; omega))), ((l1_53).trans l1_26.symm), ((l6_53).trans l6_26.symm), ((l9_53).trans l9_26.symm), ((l25_53).trans l25_26.symm), ((l26_53).trans l26_26.symm), (by subst hc49 hcb49 hc47 hc50 hc_30 hc3_30; exact hS52)⟩
    · skip
      have hHO := mp_done hH (by omega)
      have hHl := mp_lenE hHO
      rw [List.length_map] at hHl
      have hrg : ∀ p ∈ rs, 0 ≤ p ∧ p ≤ (H.length : Int) := fun p hp => by rw [hHl]; exact hrg0 p hp
      refine wp_exit ?_
      refine then_exit ?_
      refine then_exit ?_
      refine inb_hit ?_
      refine then_n (hK24 _ _ ?_)
      clear hK24
      refine wp_seq_k (fun K54 hK54 => ?_)
      refine wp_seq_k (fun K55 hK55 => ?_)
      refine region_in ?_
      refine W_v rfl rfl (V_mov rfl l1_32) ?_
      have hS56 := hS30.sel [3, 2, 0, 1, 4, 5] (by decide) (l' := [c22_30, c28_30, c29_30, cb29_30, c_30, c3_30]) rfl
      replace hS56 : St w NoX [c22_30, c28_30, c29_30, cb29_30, c_30, c3_30] w30 := hS56
      obtain ⟨Y57, hP57, hR57, hF57, hB57⟩ := St.call (pre := [c22_30, c28_30, c29_30, cb29_30, c_30]) (fr := [c3_30]) hS56
      rw [hc22_30, hc28_30, hc29_30, hcb29_30, hc_30] at hP57
      refine W_callV rfl rfl rfl (et rfl) Try.func53 (by kernel_rfl) rfl (args1 (es rfl l9_32)) (kLd1_c (b := b) (gb := gb) (f := f) (gf := gf) (a := a) (ga := ga) (hR57 _ hb_b) (hR57 _ hb_f) (hR57 _ hb_a) hP57 (by first | with_reducible assumption | (have q := hG.reg; simpa using q)) (by first | omega | with_reducible assumption) (by first | omega | with_reducible assumption)) ?_
      rintro _ w58 ⟨hv_58, H_58, qv_58, rfl, hH_58, hP58⟩
      refine ⟨_, rfl, ?_⟩
      obtain ⟨cB_58, cR_58, cP_58, cQ_58, cG_58, hcB_58, hcR_58, hcP_58, hcQ_58, hcG_58, hP58⟩ := gen5 hP58
      have hS58 := hB57 _ _ hP58
      replace hS58 : St w NoX [cB_58, cR_58, cP_58, cQ_58, cG_58, c3_30] w58 := hS58
      refine W_v rfl rfl (V_asg rfl (et rfl)) ?_
      refine W_end ?_
      refine gen_Q (fun A59 hA59 => ?_)
      have hsz59 := szq hA59
      have hdf59 : A59.defers = [] := by rw [hA59]; simp only [df_put]; exact hdf32
      have l6_59 := lookE hA59 6 (e2 rfl (es rfl l6_32))
      have l9_59 := lookE hA59 9 (e2 rfl (es rfl l9_32))
      have l12_59 := lookE hA59 12 (et rfl)
      clear hA59 hsz32 hdf32 l1_32 l6_32 l9_32 l25_32 l26_32 l27_32 l28_32
      refine then_n (hK55 _ _ ?_)
      clear hK55
      refine wp_seq_k (fun K60 hK60 => ?_)
      refine region_in ?_
      refine W_v rfl rfl (V_mov rfl l12_59) ?_
      refine W_v rfl rfl (V_neq rfl (et rfl) rfl) ?_
      refine W_end ?_
      refine gen_Q (fun A61 hA61 => ?_)
      have hsz61 := szq hA61
      have hdf61 : A61.defers = [] := by rw [hA61]; simp only [df_put]; exact hdf59
      have l6_61 := lookE hA61 6 (es rfl (es rfl l6_59))
      have l9_61 := lookE hA61 9 (es rfl (es rfl l9_59))
      have l12_61 := lookE hA61 12 (es rfl (es rfl l12_59))
      have l47_61 := lookE hA61 47 (et rfl)
      clear hA61 hsz59 hdf59 l6_59 l9_59 l12_59
      refine then_n (hK60 _ _ ?_)
      clear hK60
      refine cond_dec l47_61 (fun c62 => ?_) (fun c62 => ?_)
      · skip
        refine wp_seq_k (fun K63 hK63 => ?_)
        refine region_in ?_
        refine W_v rfl rfl (V_bldS (n := 2) (z := .agg #[.slice none 0 0, .slice none 0 0]) rfl (parts0) (by kernel_rfl) (by simp only [List.all_cons, List.all_nil, Bool.and_true] <;> rfl) (by kernel_rfl) (by simp only [List.foldl_cons, List.foldl_nil, Value.cells, List.setIfInBounds_toArray, List.set_cons_succ, List.set_cons_zero] <;> rfl)) ?_
        refine W_v rfl rfl (V_mov rfl (es rfl l12_61)) ?_
        refine W_stAS 5 hS58 rfl hc3_30 rfl rfl rfl (es rfl (es rfl l6_61)) (es rfl (et rfl)) (by first | (rw [List.all_toArray] <;> rfl) | (simp only [List.all_toArray, List.all_cons, List.all_nil] <;> rfl)) (by rfl) (by kernel_rfl) (fun w64 c64 hc64 hS64 => ?_)
        replace hS64 : St w NoX [cB_58, cR_58, cP_58, cQ_58, cG_58, c64] w64 := hS64
        refine W_v rfl rfl (V_asg rfl (et rfl)) ?_
        refine W_end ?_
        refine gen_Q (fun A65 hA65 => ?_)
        have hsz65 := szq hA65
        have hdf65 : A65.defers = [] := by rw [hA65]; simp only [df_put]; exact hdf61
        have l6_65 := lookE hA65 6 (e2 rfl (es rfl l6_61))
        have l7_65 := lookE hA65 7 (et rfl)
        clear hA65 hsz61 hdf61 l6_61 l9_61 l12_61 l47_61
        have hS66 : St w NoX [c64] w64 := hS64.sel [5] (by decide) rfl
        refine then_n (hK63 _ _ ?_)
        clear hK63
        refine wp_ret ?_
        refine then_ret ?_
        refine ret_in (results_2 Try.results51 (rv_cellA l6_65 (hS66.obj 0 rfl hc64) Try.underlying25 rfl (by kernel_rfl)) (rv_tmp l7_65)) hdf65 ?_
        -- leaf FFT
        obtain ⟨c67, hc67, hS67⟩ := hS66.pnil (s := 2)
        replace hc67 : c67 = ro 2 obC (.slice none 0 0) ([] : List Ob) := hc67
        obtain ⟨c68, cb68, hc68, hcb68, hS68⟩ := gen2 (nst_nils hS67)
        replace hS68 : St w NoX [c68, cb68, c67, c64] w64 := hS68
        obtain ⟨c69, hc69, hS69⟩ := hS68.pnil (s := 1)
        rw [hHO] at c62
        have h := (ld_in (f := f) hcd).1 (by simpa using c62)
        rw [h.1, h.2.1]
        exact ⟨_, ([] : List Ob), _, by rw [hHO], rfl, (hS69.fin4 3 rfl (hc67) 1 rfl (hc68) 2 rfl (hcb68) 0 rfl (hc69.trans (by (try rw [hHO]); rw [h.2.2] <;> rfl)) (by decide))⟩
      · skip
        refine wp_skip ?_
        refine then_n (hK54 _ _ ?_)
        clear hK54
        refine wp_seq_k (fun K70 hK70 => ?_)
        refine region_in ?_
        refine W_r rfl rfl (VR_ldA rfl l9_61 (hS58.obj 0 rfl hcB_58) Try.underlying25 rfl (by kernel_rfl)) ?_
        refine W_stAS 5 hS58 rfl hc3_30 rfl rfl rfl (es rfl l6_61) (et rfl) (by simp only [List.all_toArray, List.all_cons, List.all_nil, obC, SlN_one (ow_at (hS58.chq 1 rfl hcR_58)), SlN_one (ow_at (hS58.chq 4 rfl hcG_58))] <;> rfl) (by rfl) (by kernel_rfl) (fun w71 c71 hc71 hS71 => ?_)
        replace hS71 : St w NoX [cB_58, cR_58, cP_58, cQ_58, cG_58, c71] w71 := hS71
        refine W_v rfl rfl (V_asg rfl rfl) ?_
        refine W_end ?_
        refine gen_Q (fun A72 hA72 => ?_)
        have hsz72 := szq hA72
        have hdf72 : A72.defers = [] := by rw [hA72]; simp only [df_put]; exact hdf61
        have l6_72 := lookE hA72 6 (es rfl (es rfl l6_61))
        have l7_72 := lookE hA72 7 (et rfl)
        clear hA72 hsz61 hdf61 l6_61 l9_61 l12_61 l47_61
        have hS73 : St w NoX [cR_58, cP_58, cQ_58, cG_58, c71] w71 := hS71.sel [1, 2, 3, 4, 5] (by decide) rfl
        refine then_n (hK70 _ _ ?_)
        clear hK70
        refine wp_ret ?_
        refine ret_in (results_2 Try.results51 (rv_cellA l6_72 (hS73.obj 4 rfl hc71) Try.underlying25 rfl (by kernel_rfl)) (rv_tmp l7_72)) hdf72 ?_
        -- leaf FFF
        rw [hHO] at c62
        rw [hHO] at hH_58
        have h := (ld_in (f := f) hcd).2 (by first | rfl | simpa using c62)
        rw [h.1, h.2.1]
        exact ⟨_, H_58, _, rfl, hH_58, (hS73.fin4 0 rfl (hcR_58) 1 rfl (hcP_58) 2 rfl (hcQ_58) 3 rfl (hcG_58.trans (by (try rw [hHO]); rw [h.2.2] <;> rfl)) (by decide))⟩

set_option maxHeartbeats 4000000 in
theorem kchStore_c {ov : Value} {O : List Ob} {rv : Value} {rs : List Int} {a : Int} {ga : Nat} {f : Int} {gf : Nat} {b : Int} {gb : Nat} {nv : Value} {ns : List Int} {w : World} (h_ov : Ro w NoX (rl 2 obC ov O)) (n_ov : Ro w NoX (nst O)) (h_rv : Ro w NoX (il .i64 rv rs)) (hb_a : Ro w NoX (bx ga 3 #[.int .i64 a])) (hb_f : Ro w NoX (bx gf 3 #[.int .i64 f])) (hb_b : Ro w NoX (bx gb 3 #[.int .i64 b])) (h_nv : Ro w NoX (il .i64 nv ns)) (hsm : SM (O.map ab)) (hns : ns = [a, b]) :
    Calls Try.prog 51 #[.agg #[ov, rv], .func (.func 56) #[] #[.pointer (some ⟨ga, 0, none⟩), .pointer (some ⟨gf, 0, none⟩), .pointer (some ⟨gb, 0, none⟩)], nv] w fun e w' => ∃ hv H qv, e = .returned (.tuple #[.agg #[hv, qv], .int .i64 (ptE (O.map ab) rs [a, b] a f)]) ∧ (H.map ab = (soO (O.map ab) rs a f b)) ∧ St w NoX [ro 2 obC hv H, owl .i64 (H.map (·.1)), owl .u64 (H.map (·.2)), io .i64 (qv) (soR (O.map ab) rs a f b)] w' := by
  refine calls_in 51 Try.func51 rfl rfl (by simp) (fun A0 hsz0 hdf0 hargs => ?_)
  have l0_0 := hargs 0 (.agg #[ov, rv]) rfl
  have l1_0 := hargs 1 (.func (.func 56) #[] #[.pointer (some ⟨ga, 0, none⟩), .pointer (some ⟨gf, 0, none⟩), .pointer (some ⟨gb, 0, none⟩)]) rfl
  have l2_0 := hargs 2 (nv) rfl
  clear hargs; replace hsz0 : SzN A0 51 := ⟨hsz0⟩
  have hS := St.nil w
  have bh_ov := SlN.le (sl_SlN h_ov.at)
  have bh_rv := SlN.le (sl_SlN h_rv.at)
  have bh_nv := SlN.le (sl_SlN h_nv.at)
  refine wp_seq_k (fun K1 hK1 => ?_)
  refine region_in ?_
  refine W_boxS (zs := #[ov, rv]) hS rfl rfl rfl l0_0 (by rfl) (fun g2 w2 c2 hc2 hS2 => ?_)
  replace hS2 : St w NoX [c2] w2 := hS2
  refine W_allocS (z := .agg #[.slice none 0 0, .slice none 0 0]) (zs := #[.slice none 0 0, .slice none 0 0]) hS2 rfl rfl rfl (by kernel_rfl) (by rfl) (fun g3 w3 c3 hc3 hS3 => ?_)
  replace hS3 : St w NoX [c3, c2] w3 := hS3
  refine W_v rfl rfl (V_asg rfl rfl) ?_
  refine W_end ?_
  refine gen_Q (fun A4 hA4 => ?_)
  have hsz4 := szq hA4
  have hdf4 : A4.defers = [] := by rw [hA4]; simp only [df_put]; exact hdf0
  have l1_4 := lookE hA4 1 (e2 rfl (es rfl l1_0))
  have l2_4 := lookE hA4 2 (e2 rfl (es rfl l2_0))
  have l3_4 := lookE hA4 3 (e2 rfl (et rfl))
  have l6_4 := lookE hA4 6 (es rfl (et rfl))
  clear hA4 hsz0 hdf0 l0_0 l1_0 l2_0
  refine then_n (hK1 _ _ ?_)
  clear hK1
  refine wp_seq_k (fun K5 hK5 => ?_)
  refine wp_seq_k (fun K6 hK6 => ?_)
  refine region_in ?_
  refine W_r rfl rfl (VR_ldA rfl l3_4 (hS3.obj 1 rfl hc2) Try.underlying25 rfl (by kernel_rfl)) ?_
  refine W_v rfl rfl (V_mov rfl (es rfl l2_4)) ?_
  refine W_call rfl rfl rfl Try.func47 (by kernel_rfl) rfl (args2 (es rfl (et rfl)) (et rfl)) (kcd_c (hS3.roC h_ov) (hS3.roC n_ov) (hS3.roC h_rv) (hS3.roC h_nv) ) ?_
  rintro _ w7 ⟨rfl, hP7⟩
  refine ⟨_, rfl, ?_⟩
  have hS7 := hS3.join hP7
  replace hS7 : St w NoX [c3, c2] w7 := hS7
  refine W_v rfl rfl (V_asg rfl (et rfl)) ?_
  refine W_end ?_
  refine gen_Q (fun A8 hA8 => ?_)
  have hsz8 := szq hA8
  have hdf8 : A8.defers = [] := by rw [hA8]; simp only [df_put]; exact hdf4
  have l1_8 := lookE hA8 1 (e3 rfl (es rfl l1_4))
  have l3_8 := lookE hA8 3 (e3 rfl (es rfl l3_4))
  have l6_8 := lookE hA8 6 (e3 rfl (es rfl l6_4))
  have l8_8 := lookE hA8 8 (et rfl)
  clear hA8 hsz4 hdf4 l1_4 l2_4 l3_4 l6_4
  refine then_n (hK6 _ _ ?_)
  clear hK6
  refine wp_seq_k (fun K9 hK9 => ?_)
  refine region_in ?_
  refine W_v rfl rfl (V_mov rfl l8_8) ?_
  refine W_v rfl rfl (V_neq rfl (et rfl) rfl) ?_
  refine W_end ?_
  refine gen_Q (fun A10 hA10 => ?_)
  have hsz10 := szq hA10
  have hdf10 : A10.defers = [] := by rw [hA10]; simp only [df_put]; exact hdf8
  have l1_10 := lookE hA10 1 (es rfl (es rfl l1_8))
  have l3_10 := lookE hA10 3 (es rfl (es rfl l3_8))
  have l6_10 := lookE hA10 6 (es rfl (es rfl l6_8))
  have l8_10 := lookE hA10 8 (es rfl (es rfl l8_8))
  have l17_10 := lookE hA10 17 (et rfl)
  clear hA10 hsz8 hdf8 l1_8 l3_8 l6_8 l8_8
  refine then_n (hK9 _ _ ?_)
  clear hK9
  refine cond_dec l17_10 (fun c11 => ?_) (fun c11 => ?_)
  · skip
    have hcd : ckd (O.map ab) rs ns ≠ 0 := by simpa using c11
    rw [hns] at *
    refine wp_seq_k (fun K12 hK12 => ?_)
    refine region_in ?_
    refine W_v rfl rfl (V_bldS (n := 2) (z := .agg #[.slice none 0 0, .slice none 0 0]) rfl (parts0) (by kernel_rfl) (by simp only [List.all_cons, List.all_nil, Bool.and_true] <;> rfl) (by kernel_rfl) (by simp only [List.foldl_cons, List.foldl_nil, Value.cells, List.setIfInBounds_toArray, List.set_cons_succ, List.set_cons_zero] <;> rfl)) ?_
    refine W_v rfl rfl (V_mov rfl (es rfl l8_10)) ?_
    refine W_stAS 0 hS7 rfl hc3 rfl rfl rfl (es rfl (es rfl l6_10)) (es rfl (et rfl)) (by first | (rw [List.all_toArray] <;> rfl) | (simp only [List.all_toArray, List.all_cons, List.all_nil] <;> rfl)) (by rfl) (by kernel_rfl) (fun w13 c13 hc13 hS13 => ?_)
    replace hS13 : St w NoX [c13, c2] w13 := hS13
    refine W_v rfl rfl (V_asg rfl (et rfl)) ?_
    refine W_end ?_
    refine gen_Q (fun A14 hA14 => ?_)
    have hsz14 := szq hA14
    have hdf14 : A14.defers = [] := by rw [hA14]; simp only [df_put]; exact hdf10
    have l6_14 := lookE hA14 6 (e2 rfl (es rfl l6_10))
    have l7_14 := lookE hA14 7 (et rfl)
    clear hA14 hsz10 hdf10 l1_10 l3_10 l6_10 l8_10 l17_10
    have hS15 : St w NoX [c13] w13 := hS13.sel [0] (by decide) rfl
    refine then_n (hK12 _ _ ?_)
    clear hK12
    refine wp_ret ?_
    refine then_ret ?_
    refine ret_in (results_2 Try.results51 (rv_cellA l6_14 (hS15.obj 0 rfl hc13) Try.underlying25 rfl (by kernel_rfl)) (rv_tmp l7_14)) hdf14 ?_
    -- leaf T
    obtain ⟨c16, hc16, hS16⟩ := hS15.pnil (s := 2)
    replace hc16 : c16 = ro 2 obC (.slice none 0 0) ([] : List Ob) := hc16
    obtain ⟨c17, cb17, hc17, hcb17, hS17⟩ := gen2 (nst_nils hS16)
    replace hS17 : St w NoX [c17, cb17, c16, c13] w13 := hS17
    obtain ⟨c18, hc18, hS18⟩ := hS17.pnil (s := 1)
    have h := so_ck (f := f) hcd
    rw [h.1, h.2.1]
    exact ⟨_, ([] : List Ob), _, rfl, rfl, (hS18.fin4 3 rfl (hc16) 1 rfl (hc17) 2 rfl (hcb17) 0 rfl (hc18.trans (by rw [h.2.2] <;> rfl)) (by decide))⟩
  · skip
    have hcd : ckd (O.map ab) rs ns = 0 := by simpa using c11
    rw [hns] at hcd
    have hG := (ckd_0.1 hcd).1
    have ho4 := hG.o4
    have hr8 := hG.r8
    rw [List.length_map] at ho4
    have hrg0 : ∀ p ∈ rs, 0 ≤ p ∧ p ≤ (O.length : Int) := fun p hp => by have q := hG.reg p hp; rw [List.length_map] at q; exact q
    have ha := (ckd_0.1 hcd).2 a (by simp)
    have hb := (ckd_0.1 hcd).2 b (by simp)
    refine wp_skip ?_
    refine then_n (hK5 _ _ ?_)
    clear hK5
    refine wp_seq_k (fun K19 hK19 => ?_)
    refine region_in ?_
    refine W_v rfl rfl (V_fa (off' := 1) rfl l3_10 Try.underlying25 rfl (by decide +kernel) rfl) ?_
    refine W_r rfl rfl (VR_ldC rfl (et rfl) (cell_box (v := rv) (hS7.obj 1 rfl hc2) rfl) Try.underlying23 rfl) ?_
    refine W_call rfl rfl rfl Try.func67 (by kernel_rfl) rfl (args1 (et rfl)) (kcl_c (hS7.roC h_rv) (by first | omega | with_reducible assumption)) ?_
    rintro _ w20 ⟨v_20, rfl, hP20⟩
    refine ⟨_, rfl, ?_⟩
    obtain ⟨c_20, hc_20, hP20⟩ := gen1 hP20
    have hS20 := hS7.join hP20
    replace hS20 : St w NoX [c_20, c3, c2] w20 := hS20
    refine W_v rfl rfl (V_bldS (n := 2) (z := .agg #[.slice none 0 0, .slice none 0 0]) rfl (parts1 (et rfl)) (by kernel_rfl) (by simp only [List.all_cons, List.all_nil, SlN_one (ow_at (hS20.chq 0 rfl hc_20)), Bool.and_true] <;> rfl) (by kernel_rfl) (by simp only [List.foldl_cons, List.foldl_nil, Value.cells, List.setIfInBounds_toArray, List.set_cons_succ, List.set_cons_zero] <;> rfl)) ?_
    refine W_allocS (z := .agg #[.slice none 0 0, .slice none 0 0]) (zs := #[.slice none 0 0, .slice none 0 0]) hS20 rfl rfl rfl (by kernel_rfl) (by rfl) (fun g21 w21 c21 hc21 hS21 => ?_)
    replace hS21 : St w NoX [c21, c_20, c3, c2] w21 := hS21
    refine W_stAS 0 hS21 rfl hc21 rfl rfl rfl (et rfl) (es rfl (et rfl)) (by simp only [List.all_toArray, List.all_cons, List.all_nil, obC, SlN_one (ow_at (hS21.chq 1 rfl hc_20))] <;> rfl) (by rfl) (by kernel_rfl) (fun w22 c22 hc22 hS22 => ?_)
    replace hS22 : St w NoX [c22, c_20, c3, c2] w22 := hS22
    refine W_end ?_
    refine gen_Q (fun A23 hA23 => ?_)
    have hsz23 := szq hA23
    have hdf23 : A23.defers = [] := by rw [hA23]; simp only [df_put]; exact hdf10
    have l1_23 := lookE hA23 1 (e4 rfl (es rfl l1_10))
    have l3_23 := lookE hA23 3 (e4 rfl (es rfl l3_10))
    have l6_23 := lookE hA23 6 (e4 rfl (es rfl l6_10))
    have l9_23 := lookE hA23 9 (et rfl)
    clear hA23 hsz10 hdf10 l1_10 l3_10 l6_10 l8_10 l17_10
    refine then_n (hK19 _ _ ?_)
    clear hK19
    refine wp_seq_k (fun K24 hK24 => ?_)
    refine wp_seq_k (fun K25 hK25 => ?_)
    refine region_in ?_
    refine W_v rfl rfl (V_fa (off' := 0) rfl l3_23 Try.underlying25 rfl (by decide +kernel) rfl) ?_
    refine W_r rfl rfl (VR_ldC rfl (et rfl) (cell_box (v := ov) (hS22.obj 3 rfl hc2) rfl) Try.underlying22 rfl) ?_
    refine W_v rfl rfl (V_lenS rfl (et rfl) (sl_SlN h_ov.at) Try.underlying22) ?_
    refine W_v rfl rfl (V_mov rfl rfl) ?_
    refine W_end ?_
    refine gen_Q (fun A26 hA26 => ?_)
    have hsz26 := szq hA26
    have hdf26 : A26.defers = [] := by rw [hA26]; simp only [df_put]; exact hdf23
    have l1_26 := lookE hA26 1 (e3 rfl (es rfl l1_23))
    have l6_26 := lookE hA26 6 (e3 rfl (es rfl l6_23))
    have l9_26 := lookE hA26 9 (e3 rfl (es rfl l9_23))
    have l25_26 := lookE hA26 25 (e2 rfl (et rfl))
    have l26_26 := lookE hA26 26 (es rfl (et rfl))
    have l27_26 := lookE hA26 27 (et rfl)
    clear hA26 hsz23 hdf23 l1_23 l3_23 l6_23 l9_23
    have hS27 : St w NoX [c22, c_20, c3] w22 := hS22.sel [0, 1, 2] (by decide) rfl
    refine then_n (hK25 _ _ ?_)
    clear hK25
    refine wp_block ?_
    obtain ⟨c28, hc28, hS28⟩ := hS27.pnil (s := 2)
    replace hc28 : c28 = ro 2 obC (.slice none 0 0) ([] : List Ob) := hc28
    obtain ⟨c29, cb29, hc29, hcb29, hS29⟩ := gen2 (nst_nils hS28)
    replace hS29 : St w NoX [c29, cb29, c28, c22, c_20, c3] w22 := hS29
    -- loop 6
    refine loopX (fun mz A' w' => SzN A' 51 ∧ A'.defers = [] ∧ (∃ (k : Nat) (hv : Value) (H : List Ob), (mz = O.length - k) ∧ (k ≤ O.length) ∧ (H.map ab = (O.map ab).take k) ∧ (EV A' (.tmp 27) = .int .i64 (k : Int)) ∧ (EV A' (.tmp 1) = EV A26 (.tmp 1)) ∧ (EV A' (.tmp 6) = EV A26 (.tmp 6)) ∧ (EV A' (.tmp 9) = EV A26 (.tmp 9)) ∧ (EV A' (.tmp 25) = EV A26 (.tmp 25)) ∧ (EV A' (.tmp 26) = EV A26 (.tmp 26)) ∧ (St w NoX [owl .i64 (H.map (·.1)), owl .u64 (H.map (·.2)), ro 2 obC hv H, bx g21 25 #[hv, v_20], io .i64 v_20 rs, bx g3 25 #[.slice none 0 0, .slice none 0 0]] w'))) (O.length - 0) ⟨hsz26, hdf26, 0, (.slice none 0 0), [], rfl, (by omega), rfl, ((l27_26).trans (by first | rfl | (simp; done) | (congr 1; omega))), rfl, rfl, rfl, rfl, rfl, (by subst hc29 hcb29 hc28 hc22 hc_20 hc3; exact hS29)⟩ ?_
    clear hS29 hc29 hcb29 hc28 hc22 hc_20 hc3
    rintro n30 A30 w30 ⟨hsz30, hdf30, k, hv, H, hm30, hk, hH, l27_30, u1_30, u6_30, u9_30, u25_30, u26_30, hS30⟩
    have l1_30 := u1_30.trans l1_26
    have l6_30 := u6_30.trans l6_26
    have l9_30 := u9_30.trans l9_26
    have l25_30 := u25_30.trans l25_26
    have l26_30 := u26_30.trans l26_26
    obtain ⟨c29_30, cb29_30, c28_30, c22_30, c_30, c3_30, hc29_30, hcb29_30, hc28_30, hc22_30, hc_30, hc3_30, hS30⟩ := gen6 hS30
    refine wp_seq_k (fun K31 hK31 => ?_)
    refine region_in ?_
    refine W_v rfl rfl (V_lss rfl l27_30 l26_30) ?_
    refine W_end ?_
    refine gen_Q (fun A32 hA32 => ?_)
    have hsz32 := szq hA32
    have hdf32 : A32.defers = [] := by rw [hA32]; simp only [df_put]; exact hdf30
    have l1_32 := lookE hA32 1 (es rfl l1_30)
    have l6_32 := lookE hA32 6 (es rfl l6_30)
    have l9_32 := lookE hA32 9 (es rfl l9_30)
    have l25_32 := lookE hA32 25 (es rfl l25_30)
    have l26_32 := lookE hA32 26 (es rfl l26_30)
    have l27_32 := lookE hA32 27 (es rfl l27_30)
    have l28_32 := lookE hA32 28 (et rfl)
    clear hA32 hsz30 hdf30 l27_30 l1_30 l6_30 l9_30 l25_30 l26_30
    refine then_n (hK31 _ _ ?_)
    clear hK31
    refine wp_seq_k (fun K33 hK33 => ?_)
    refine cond_dec l28_32 (fun c34 => ?_) (fun c34 => ?_)
    · skip
      have hHl := mp_len hH hk
      refine wp_skip ?_
      refine then_n (hK33 _ _ ?_)
      clear hK33
      refine wp_seq_k (fun K35 hK35 => ?_)
      refine wp_block ?_
      refine wp_seq_k (fun K36 hK36 => ?_)
      refine region_in ?_
      have k37 : k < O.length := by first | omega | (simp only [List.length_cons, List.length_nil]; omega) | (simp only [List.length_set]; omega)
      obtain ⟨y37, hy37⟩ := get_some (xs := O) (k := k) k37
      have hsy := hsm.at hy37
      obtain ⟨B37, O37, C37, hv37⟩ := (SlN.blk (sl_SlN h_ov.at) (by first | omega | (simp only [List.length_cons, List.length_nil]; omega) | (simp only [List.length_set]; omega)))
      refine W_v rfl rfl (V_ixS (off := O37 + k * 2) 2 (k) rfl l25_32 l27_32 hv37 (by omega) k37 Try.underlying22 (by kernel_rfl) rfl) ?_
      have fn38 : Ro w NoX (il .i64 y37.1.1 y37.1.2) := nst_ro1 n_ov hy37
      have bfn38 := SlN.le (sl_SlN (hS30.ro fn38))
      have fn39 : Ro w NoX (il .u64 y37.2.1 y37.2.2) := nst_ro2 n_ov hy37
      have bfn39 := SlN.le (sl_SlN (hS30.ro fn39))
      refine W_r rfl rfl (VR_ldR (ys := obC y37) rfl (et rfl) (SlN.row obC_len (sl_SlN (hS30.ro h_ov)) hv37 hy37 rfl) Try.underlying40 rfl (by kernel_rfl)) ?_
      refine W_allocS (z := .agg #[.slice none 0 0, .slice none 0 0]) (zs := #[.slice none 0 0, .slice none 0 0]) hS30 rfl rfl rfl (by kernel_rfl) (by rfl) (fun g40 w40 c40 hc40 hS40 => ?_)
      replace hS40 : St w NoX [c40, c29_30, cb29_30, c28_30, c22_30, c_30, c3_30] w40 := hS40
      refine W_stAS 0 hS40 rfl hc40 rfl rfl rfl (et rfl) (es rfl (et rfl)) (by simp only [List.all_toArray, List.all_cons, List.all_nil, obC, SlN_one (sl_SlN fn38.at), SlN_one (sl_SlN fn39.at)] <;> rfl) (by rfl) (by kernel_rfl) (fun w41 c41 hc41 hS41 => ?_)
      replace hS41 : St w NoX [c41, c29_30, cb29_30, c28_30, c22_30, c_30, c3_30] w41 := hS41
      refine W_end ?_
      refine gen_Q (fun A42 hA42 => ?_)
      have hsz42 := szq hA42
      have hdf42 : A42.defers = [] := by rw [hA42]; simp only [df_put]; exact hdf32
      have l1_42 := lookE hA42 1 (e2 rfl (es rfl l1_32))
      have l6_42 := lookE hA42 6 (e2 rfl (es rfl l6_32))
      have l9_42 := lookE hA42 9 (e2 rfl (es rfl l9_32))
      have l11_42 := lookE hA42 11 (et rfl)
      have l25_42 := lookE hA42 25 (e2 rfl (es rfl l25_32))
      have l26_42 := lookE hA42 26 (e2 rfl (es rfl l26_32))
      have l27_42 := lookE hA42 27 (e2 rfl (es rfl l27_32))
      clear hA42 hsz32 hdf32 l1_32 l6_32 l9_32 l25_32 l26_32 l27_32 l28_32
      refine then_n (hK36 _ _ ?_)
      clear hK36
      refine region_monoS 10 11 [none, none, none, none, some (SPv [] (fun _ => fun u l' => ∃ v_s, u = v_s ∧ ∃ c_s, c_s = io .i64 (v_s) y37.1.2 ∧ l' = [c_s]) 4), none, none, some (SPv [] (fun _ => fun u l' => ∃ v_s, u = v_s ∧ ∃ c_s, c_s = io .u64 (v_s) y37.2.2 ∧ l' = [c_s]) 7), none, some (SPv [35, 38] (fun vs => fun u l' => ∃ g_, u = .slice (some ⟨g_, 0, none⟩) 1 1 ∧ ∃ c_, c_ = ro 2 obC (.slice (some ⟨g_, 0, none⟩) 1 1) [(((vs.getD 0 undef), y37.1.2), ((vs.getD 1 undef), y37.2.2))] ∧ l' = [c_]) 9)] (by kernel_rfl) (by kernel_rfl) ?_
      refine D_v rfl rfl (V_fa (off' := 0) rfl l9_42 Try.underlying25 rfl (by decide +kernel) rfl) rfl rfl ?_
      refine D_r rfl rfl (by kernel_rfl) (fun sx hx hF => (VR_ldC rfl (et rfl) (cell_box (v := hv) ((hS41.grow hx).obj 4 rfl hc22_30) rfl) Try.underlying22 rfl)) rfl rfl ?_
      refine D_v rfl rfl (V_fa (off' := 0) rfl (es rfl (es rfl l11_42)) Try.underlying40 rfl (by decide +kernel) rfl) rfl rfl ?_
      refine D_r rfl rfl (by kernel_rfl) (fun sx hx hF => (VR_ldC rfl (et rfl) (cell_box (v := y37.1.1) ((hS41.grow hx).obj 0 rfl hc41) rfl) Try.underlying23 rfl)) rfl rfl ?_
      refine D_call (ts := []) (vs := []) (C0 := fun _ => fun u l' => ∃ v_s, u = v_s ∧ ∃ c_s, c_s = io .i64 (v_s) y37.1.2 ∧ l' = [c_s]) (C := fun u l' => ∃ v_s, u = v_s ∧ ∃ c_s, c_s = io .i64 (v_s) y37.1.2 ∧ l' = [c_s]) rfl rfl rfl Try.func67 (by kernel_rfl) rfl (args1 (et rfl)) rfl rfl rfl rfl (fun sx hx hF => ?_) (fun u43 l43 hu43 => ?_)
      · refine (kcl_c ((hS41.grow hx).roC fn38) (by first | omega | with_reducible assumption)).mono ?_
        rintro _ _ ⟨v_43, rfl, hz⟩
        exact ⟨_, rfl, _, ⟨_, rfl, _, rfl, rfl⟩, hz⟩
      obtain ⟨v_43, rfl, c_43, hc_43, hl43⟩ := hu43
      refine D_v rfl rfl (V_fa (off' := 1) rfl (e4 rfl (es rfl l11_42)) Try.underlying40 rfl (by decide +kernel) rfl) rfl rfl ?_
      refine D_r rfl rfl (by kernel_rfl) (fun sx hx hF => (VR_ldC rfl (et rfl) (cell_box (v := y37.2.1) ((hS41.grow hx).obj 0 rfl hc41) rfl) Try.underlying38 rfl)) rfl rfl ?_
      refine D_call (ts := []) (vs := []) (C0 := fun _ => fun u l' => ∃ v_s, u = v_s ∧ ∃ c_s, c_s = io .u64 (v_s) y37.2.2 ∧ l' = [c_s]) (C := fun u l' => ∃ v_s, u = v_s ∧ ∃ c_s, c_s = io .u64 (v_s) y37.2.2 ∧ l' = [c_s]) rfl rfl rfl Try.func68 (by kernel_rfl) rfl (args1 (et rfl)) rfl rfl rfl rfl (fun sx hx hF => ?_) (fun u44 l44 hu44 => ?_)
      · refine (kcu_c ((hS41.grow hx).roC fn39) (by first | omega | with_reducible assumption)).mono ?_
        rintro _ _ ⟨v_44, rfl, hz⟩
        exact ⟨_, rfl, _, ⟨_, rfl, _, rfl, rfl⟩, hz⟩
      obtain ⟨v_44, rfl, c_44, hc_44, hl44⟩ := hu44
      refine D_r rfl rfl (by kernel_rfl) (fun sx hx hF => by obtain ⟨ll43, ws43, we43, ⟨v_43q, hq43, c_43_, hc_43_, hl43_⟩, hm43, k43, e43⟩ := L.ancF_get (L.ancF_rest hF) (by kernel_rfl); cases hq43; subst hl43_; obtain ⟨ll44, ws44, we44, ⟨v_44q, hq44, c_44_, hc_44_, hl44_⟩, hm44, k44, e44⟩ := L.ancF_get hF (by kernel_rfl); cases hq44; subst hl44_; exact ((V_bldS (n := 2) (z := .agg #[.slice none 0 0, .slice none 0 0]) rfl (parts2 (e3 rfl (et rfl)) (et rfl)) (by kernel_rfl) (by simp only [List.all_cons, List.all_nil, SlN_one (ow_at ((k43.grow e43).chq 0 rfl hc_43_)), SlN_one (ow_at ((k44.grow e44).chq 0 rfl hc_44_)), Bool.and_true] <;> rfl) (by kernel_rfl) (by simp only [List.foldl_cons, List.foldl_nil, Value.cells, List.setIfInBounds_toArray, List.set_cons_succ, List.set_cons_zero] <;> rfl) : Val _ _ _ _) _)) rfl rfl ?_
      have hll45 : [((u43, y37.1.2), (u44, y37.2.2))].length = 1 := rfl
      refine D_lay (ts := [35, 38]) (vs := [u43, u44]) (C0 := fun vs => fun u l' => ∃ g_, u = .slice (some ⟨g_, 0, none⟩) 1 1 ∧ ∃ c_, c_ = ro 2 obC (.slice (some ⟨g_, 0, none⟩) 1 1) [(((vs.getD 0 undef), y37.1.2), ((vs.getD 1 undef), y37.2.2))] ∧ l' = [c_]) (C := fun u l' => ∃ g_, u = .slice (some ⟨g_, 0, none⟩) 1 1 ∧ ∃ c_, c_ = ro 2 obC (.slice (some ⟨g_, 0, none⟩) 1 1) [((u43, y37.1.2), (u44, y37.2.2))] ∧ l' = [c_]) rfl rfl rfl rfl (ts2 (e4 rfl (et rfl)) (es rfl (et rfl))) rfl (fun sx hx hF => lay_lit (vs := [.agg #[u43, u44]]) 2 rfl (parts1 (et rfl)) rfl Try.underlying22 (by kernel_rfl) (by decide) (by intro v hv; simp only [List.mem_cons, List.not_mem_nil, or_false] at hv; rcases hv with rfl <;> rfl) (by rfl)) (fun u45 l45 hu45 => ?_)
      obtain ⟨g45, rfl, c45, hc45, hl45⟩ := hu45
      refine D_eff rfl ?_
      refine ZS_eff hS41 rfl rfl (fun s46 hJ46 hL46 hF46 => ?_)
      obtain ⟨ll43, ws43, we43, ⟨v_43q, hq43, c_43r, hc_43r, hl43r⟩, hm43, k43, e43⟩ := L.all_get (L.all_rest (L.all_rest hF46)); cases hq43; subst hl43r
      replace hJ46 := hJ46.add hL46 (i := 4) rfl hm43 k43 e43
      obtain ⟨ll44, ws44, we44, ⟨v_44q, hq44, c_44r, hc_44r, hl44r⟩, hm44, k44, e44⟩ := L.all_get (L.all_rest hF46); cases hq44; subst hl44r
      replace hJ46 := hJ46.add hL46 (i := 7) rfl hm44 k44 e44
      obtain ⟨ll45, ws45, we45, ⟨g45q, hq45, c45r, hc45r, hl45r⟩, hm45, k45, e45⟩ := L.all_get hF46; cases hq45; subst hl45r
      replace hJ46 := hJ46.add hL46 (i := 9) rfl hm45 k45 e45
      have hS46 := hJ46.st; clear hF46 hJ46 hL46
      generalize s46.1 = w46 at *
      replace hS46 : St w NoX [c45r, c_44r, c_43r, c41, c29_30, cb29_30, c28_30, c22_30, c_30, c3_30] w46 := hS46
      refine W_appS 2 6 hS46 rfl hc28_30 rfl rfl rfl (e8 rfl (et rfl)) (et rfl) Try.underlying22 Try.underlying22 (z := .agg #[.slice none 0 0, .slice none 0 0]) (bytes := 48) (by kernel_rfl) rfl (by decide) (ow_at (hS46.chq 0 rfl hc45r)) (by intro u hu; simp only [List.flatMap_cons, List.flatMap_nil, obC, List.append_nil, List.cons_append, List.nil_append, List.mem_cons, List.not_mem_nil, or_false] at hu; rcases hu with rfl | rfl <;> first | exact SlN_one (ow_at (hS46.chq 2 rfl hc_43r)) | exact SlN_one (ow_at (hS46.chq 1 rfl hc_44r))) (by first | omega | (simp; done) | (simp; omega)) (by first | omega | (simp; done) | (simp; omega)) (fun v47 w47 c47 hc47 hS47 => ?_)
      replace hc47 : c47 = ro 2 obC v47 (H ++ [((u43, y37.1.2), (u44, y37.2.2))]) := hc47.trans (app_eqR (by simp))
      replace hS47 : St w NoX [c45r, c_44r, c_43r, c41, c29_30, cb29_30, c47, c22_30, c_30, c3_30] w47 := hS47
      have hS48 := hS47.sel [2, 4, 1, 5, 0, 3, 6, 7, 8, 9] (by decide) (l' := [c_43r, c29_30, c_44r, cb29_30, c45r, c41, c47, c22_30, c_30, c3_30]) rfl
      replace hS48 : St w NoX [c_43r, c29_30, c_44r, cb29_30, c45r, c41, c47, c22_30, c_30, c3_30] w47 := hS48
      rw [hc_43r, hc29_30, hc_44r, hcb29_30] at hS48
      obtain ⟨c49, cb49, hc49, hcb49, hS49⟩ := gen2 (nst_push (pv := u43) (ps := y37.1.2) (qv := u44) (qs := y37.2.2) (O := H) hS48)
      replace hS49 : St w NoX [c49, cb49, c45r, c41, c47, c22_30, c_30, c3_30] w47 := hS49
      replace hc49 : c49 = owl .i64 ((H ++ [((u43, y37.1.2), (u44, y37.2.2))]).map (·.1)) := hc49
      replace hcb49 : cb49 = owl .u64 ((H ++ [((u43, y37.1.2), (u44, y37.2.2))]).map (·.2)) := hcb49
      refine W_v rfl rfl (V_fa (off' := 0) rfl (e10 rfl (es rfl l9_42)) Try.underlying25 rfl (by decide +kernel) rfl) ?_
      refine W_stCS (zs' := #[v47, v_20]) 5 hS49 rfl hc22_30 rfl rfl rfl (et rfl) (es rfl (et rfl)) (SlN_one (ow_at (hS49.chq 4 rfl hc47))) (by rfl) (by kernel_rfl) (by first | rfl | (simp only [List.setIfInBounds_toArray, List.set_cons_succ, List.set_cons_zero] <;> rfl)) (fun w50 c50 hc50 hS50 => ?_)
      replace hS50 : St w NoX [c49, cb49, c45r, c41, c47, c50, c_30, c3_30] w50 := hS50
      refine W_end ?_
      refine Qo_normal ?_
      refine gen_Q (fun A51 hA51 => ?_)
      have hsz51 := szq hA51
      have hdf51 : A51.defers = [] := by rw [hA51]; simp only [df_put]; exact hdf42
      have l1_51 := lookE hA51 1 (e11 rfl (es rfl l1_42))
      have l6_51 := lookE hA51 6 (e11 rfl (es rfl l6_42))
      have l9_51 := lookE hA51 9 (e11 rfl (es rfl l9_42))
      have l25_51 := lookE hA51 25 (e11 rfl (es rfl l25_42))
      have l26_51 := lookE hA51 26 (e11 rfl (es rfl l26_42))
      have l27_51 := lookE hA51 27 (e11 rfl (es rfl l27_42))
      clear hA51 hsz42 hdf42 l1_42 l6_42 l9_42 l11_42 l25_42 l26_42 l27_42
      have hS52 : St w NoX [c49, cb49, c47, c50, c_30, c3_30] w50 := hS50.sel [0, 1, 4, 5, 6, 7] (by decide) rfl
      refine inb_n ?_
      refine then_n (hK35 _ _ ?_)
      clear hK35
      refine region_in ?_
      refine W_v rfl rfl (V_add rfl l27_51 rfl (by omega) (by omega)) ?_
      refine W_v rfl rfl (V_mov rfl (et rfl)) ?_
      refine W_end ?_
      refine gen_Q (fun A53 hA53 => ?_)
      have hsz53 := szq hA53
      have hdf53 : A53.defers = [] := by rw [hA53]; simp only [df_put]; exact hdf51
      have l1_53 := lookE hA53 1 (es rfl (es rfl l1_51))
      have l6_53 := lookE hA53 6 (es rfl (es rfl l6_51))
      have l9_53 := lookE hA53 9 (es rfl (es rfl l9_51))
      have l25_53 := lookE hA53 25 (es rfl (es rfl l25_51))
      have l26_53 := lookE hA53 26 (es rfl (es rfl l26_51))
      have l27_53 := lookE hA53 27 (et rfl)
      clear hA53 hsz51 hdf51 l1_51 l6_51 l9_51 l25_51 l26_51 l27_51
      refine then_n ⟨O.length - (k + 1), by simp only [hm30]; omega, hsz53, hdf53, (k + 1), v47, (H ++ [((u43, y37.1.2), (u44, y37.2.2))]), rfl, (by omega), (mp_snoc hH hy37 rfl), ((l27_53).trans (by first | rfl | (simp; done) | (congr 1; omega))), ((l1_53).trans l1_26.symm), ((l6_53).trans l6_26.symm), ((l9_53).trans l9_26.symm), ((l25_53).trans l25_26.symm), ((l26_53).trans l26_26.symm), (by subst hc49 hcb49 hc47 hc50 hc_30 hc3_30; exact hS52)⟩
    · skip
      have hHO := mp_done hH (by omega)
      have hHl := mp_lenE hHO
      rw [List.length_map] at hHl
      have hrg : ∀ p ∈ rs, 0 ≤ p ∧ p ≤ (H.length : Int) := fun p hp => by rw [hHl]; exact hrg0 p hp
      refine wp_exit ?_
      refine then_exit ?_
      refine then_exit ?_
      refine inb_hit ?_
      refine then_n (hK24 _ _ ?_)
      clear hK24
      refine wp_seq_k (fun K54 hK54 => ?_)
      refine wp_seq_k (fun K55 hK55 => ?_)
      refine region_in ?_
      refine W_v rfl rfl (V_mov rfl l1_32) ?_
      have hS56 := hS30.sel [3, 2, 0, 1, 4, 5] (by decide) (l' := [c22_30, c28_30, c29_30, cb29_30, c_30, c3_30]) rfl
      replace hS56 : St w NoX [c22_30, c28_30, c29_30, cb29_30, c_30, c3_30] w30 := hS56
      obtain ⟨Y57, hP57, hR57, hF57, hB57⟩ := St.call (pre := [c22_30, c28_30, c29_30, cb29_30, c_30]) (fr := [c3_30]) hS56
      rw [hc22_30, hc28_30, hc29_30, hcb29_30, hc_30] at hP57
      refine W_callV rfl rfl rfl (et rfl) Try.func56 (by kernel_rfl) rfl (args1 (es rfl l9_32)) (kSo1_c (a := a) (ga := ga) (f := f) (gf := gf) (b := b) (gb := gb) (hR57 _ hb_a) (hR57 _ hb_f) (hR57 _ hb_b) hP57 (by first | with_reducible assumption | (have q := hG.reg; simpa using q)) (by first | omega | with_reducible assumption) (by first | omega | with_reducible assumption)) ?_
      rintro _ w58 ⟨hv_58, H_58, qv_58, rfl, hH_58, hP58⟩
      refine ⟨_, rfl, ?_⟩
      obtain ⟨cB_58, cR_58, cP_58, cQ_58, cG_58, hcB_58, hcR_58, hcP_58, hcQ_58, hcG_58, hP58⟩ := gen5 hP58
      have hS58 := hB57 _ _ hP58
      replace hS58 : St w NoX [cB_58, cR_58, cP_58, cQ_58, cG_58, c3_30] w58 := hS58
      refine W_v rfl rfl (V_asg rfl (et rfl)) ?_
      refine W_end ?_
      refine gen_Q (fun A59 hA59 => ?_)
      have hsz59 := szq hA59
      have hdf59 : A59.defers = [] := by rw [hA59]; simp only [df_put]; exact hdf32
      have l6_59 := lookE hA59 6 (e2 rfl (es rfl l6_32))
      have l9_59 := lookE hA59 9 (e2 rfl (es rfl l9_32))
      have l12_59 := lookE hA59 12 (et rfl)
      clear hA59 hsz32 hdf32 l1_32 l6_32 l9_32 l25_32 l26_32 l27_32 l28_32
      refine then_n (hK55 _ _ ?_)
      clear hK55
      refine wp_seq_k (fun K60 hK60 => ?_)
      refine region_in ?_
      refine W_v rfl rfl (V_mov rfl l12_59) ?_
      refine W_v rfl rfl (V_neq rfl (et rfl) rfl) ?_
      refine W_end ?_
      refine gen_Q (fun A61 hA61 => ?_)
      have hsz61 := szq hA61
      have hdf61 : A61.defers = [] := by rw [hA61]; simp only [df_put]; exact hdf59
      have l6_61 := lookE hA61 6 (es rfl (es rfl l6_59))
      have l9_61 := lookE hA61 9 (es rfl (es rfl l9_59))
      have l12_61 := lookE hA61 12 (es rfl (es rfl l12_59))
      have l47_61 := lookE hA61 47 (et rfl)
      clear hA61 hsz59 hdf59 l6_59 l9_59 l12_59
      refine then_n (hK60 _ _ ?_)
      clear hK60
      refine cond_dec l47_61 (fun c62 => ?_) (fun c62 => ?_)
      · skip
        refine wp_seq_k (fun K63 hK63 => ?_)
        refine region_in ?_
        refine W_v rfl rfl (V_bldS (n := 2) (z := .agg #[.slice none 0 0, .slice none 0 0]) rfl (parts0) (by kernel_rfl) (by simp only [List.all_cons, List.all_nil, Bool.and_true] <;> rfl) (by kernel_rfl) (by simp only [List.foldl_cons, List.foldl_nil, Value.cells, List.setIfInBounds_toArray, List.set_cons_succ, List.set_cons_zero] <;> rfl)) ?_
        refine W_v rfl rfl (V_mov rfl (es rfl l12_61)) ?_
        refine W_stAS 5 hS58 rfl hc3_30 rfl rfl rfl (es rfl (es rfl l6_61)) (es rfl (et rfl)) (by first | (rw [List.all_toArray] <;> rfl) | (simp only [List.all_toArray, List.all_cons, List.all_nil] <;> rfl)) (by rfl) (by kernel_rfl) (fun w64 c64 hc64 hS64 => ?_)
        replace hS64 : St w NoX [cB_58, cR_58, cP_58, cQ_58, cG_58, c64] w64 := hS64
        refine W_v rfl rfl (V_asg rfl (et rfl)) ?_
        refine W_end ?_
        refine gen_Q (fun A65 hA65 => ?_)
        have hsz65 := szq hA65
        have hdf65 : A65.defers = [] := by rw [hA65]; simp only [df_put]; exact hdf61
        have l6_65 := lookE hA65 6 (e2 rfl (es rfl l6_61))
        have l7_65 := lookE hA65 7 (et rfl)
        clear hA65 hsz61 hdf61 l6_61 l9_61 l12_61 l47_61
        have hS66 : St w NoX [c64] w64 := hS64.sel [5] (by decide) rfl
        refine then_n (hK63 _ _ ?_)
        clear hK63
        refine wp_ret ?_
        refine then_ret ?_
        refine ret_in (results_2 Try.results51 (rv_cellA l6_65 (hS66.obj 0 rfl hc64) Try.underlying25 rfl (by kernel_rfl)) (rv_tmp l7_65)) hdf65 ?_
        -- leaf FFT
        obtain ⟨c67, hc67, hS67⟩ := hS66.pnil (s := 2)
        replace hc67 : c67 = ro 2 obC (.slice none 0 0) ([] : List Ob) := hc67
        obtain ⟨c68, cb68, hc68, hcb68, hS68⟩ := gen2 (nst_nils hS67)
        replace hS68 : St w NoX [c68, cb68, c67, c64] w64 := hS68
        obtain ⟨c69, hc69, hS69⟩ := hS68.pnil (s := 1)
        rw [hHO] at c62
        have h := (so_in (f := f) hcd).1 (by simpa using c62)
        rw [h.1, h.2.1]
        exact ⟨_, ([] : List Ob), _, by rw [hHO], rfl, (hS69.fin4 3 rfl (hc67) 1 rfl (hc68) 2 rfl (hcb68) 0 rfl (hc69.trans (by (try rw [hHO]); rw [h.2.2] <;> rfl)) (by decide))⟩
      · skip
        refine wp_skip ?_
        refine then_n (hK54 _ _ ?_)
        clear hK54
        refine wp_seq_k (fun K70 hK70 => ?_)
        refine region_in ?_
        refine W_r rfl rfl (VR_ldA rfl l9_61 (hS58.obj 0 rfl hcB_58) Try.underlying25 rfl (by kernel_rfl)) ?_
        refine W_stAS 5 hS58 rfl hc3_30 rfl rfl rfl (es rfl l6_61) (et rfl) (by simp only [List.all_toArray, List.all_cons, List.all_nil, obC, SlN_one (ow_at (hS58.chq 1 rfl hcR_58)), SlN_one (ow_at (hS58.chq 4 rfl hcG_58))] <;> rfl) (by rfl) (by kernel_rfl) (fun w71 c71 hc71 hS71 => ?_)
        replace hS71 : St w NoX [cB_58, cR_58, cP_58, cQ_58, cG_58, c71] w71 := hS71
        refine W_v rfl rfl (V_asg rfl rfl) ?_
        refine W_end ?_
        refine gen_Q (fun A72 hA72 => ?_)
        have hsz72 := szq hA72
        have hdf72 : A72.defers = [] := by rw [hA72]; simp only [df_put]; exact hdf61
        have l6_72 := lookE hA72 6 (es rfl (es rfl l6_61))
        have l7_72 := lookE hA72 7 (et rfl)
        clear hA72 hsz61 hdf61 l6_61 l9_61 l12_61 l47_61
        have hS73 : St w NoX [cR_58, cP_58, cQ_58, cG_58, c71] w71 := hS71.sel [1, 2, 3, 4, 5] (by decide) rfl
        refine then_n (hK70 _ _ ?_)
        clear hK70
        refine wp_ret ?_
        refine ret_in (results_2 Try.results51 (rv_cellA l6_72 (hS73.obj 4 rfl hc71) Try.underlying25 rfl (by kernel_rfl)) (rv_tmp l7_72)) hdf72 ?_
        -- leaf FFF
        rw [hHO] at c62
        rw [hHO] at hH_58
        have h := (so_in (f := f) hcd).2 (by first | rfl | simpa using c62)
        rw [h.1, h.2.1]
        exact ⟨_, H_58, _, rfl, hH_58, (hS73.fin4 0 rfl (hcR_58) 1 rfl (hcP_58) 2 rfl (hcQ_58) 3 rfl (hcG_58.trans (by (try rw [hHO]); rw [h.2.2] <;> rfl)) (by decide))⟩

set_option maxHeartbeats 4000000 in
theorem kchWrite_c {ov : Value} {O : List Ob} {rv : Value} {rs : List Int} {a : Int} {ga : Nat} {f : Int} {gf : Nat} {x : Int} {gx : Nat} {nv : Value} {ns : List Int} {w : World} (h_ov : Ro w NoX (rl 2 obC ov O)) (n_ov : Ro w NoX (nst O)) (h_rv : Ro w NoX (il .i64 rv rs)) (hb_a : Ro w NoX (bx ga 3 #[.int .i64 a])) (hb_f : Ro w NoX (bx gf 3 #[.int .i64 f])) (hb_x : Ro w NoX (bx gx 45 #[.int .u64 x])) (h_nv : Ro w NoX (il .i64 nv ns)) (hsm : SM (O.map ab)) (hns : ns = [a]) :
    Calls Try.prog 51 #[.agg #[ov, rv], .func (.func 58) #[] #[.pointer (some ⟨ga, 0, none⟩), .pointer (some ⟨gf, 0, none⟩), .pointer (some ⟨gx, 0, none⟩)], nv] w fun e w' => ∃ hv H qv, e = .returned (.tuple #[.agg #[hv, qv], .int .i64 (rwE (O.map ab) rs [a] a f)]) ∧ (H.map ab = (wrO (O.map ab) rs a f x)) ∧ St w NoX [ro 2 obC hv H, owl .i64 (H.map (·.1)), owl .u64 (H.map (·.2)), io .i64 (qv) (wrR (O.map ab) rs a f)] w' := by
  refine calls_in 51 Try.func51 rfl rfl (by simp) (fun A0 hsz0 hdf0 hargs => ?_)
  have l0_0 := hargs 0 (.agg #[ov, rv]) rfl
  have l1_0 := hargs 1 (.func (.func 58) #[] #[.pointer (some ⟨ga, 0, none⟩), .pointer (some ⟨gf, 0, none⟩), .pointer (some ⟨gx, 0, none⟩)]) rfl
  have l2_0 := hargs 2 (nv) rfl
  clear hargs; replace hsz0 : SzN A0 51 := ⟨hsz0⟩
  have hS := St.nil w
  have bh_ov := SlN.le (sl_SlN h_ov.at)
  have bh_rv := SlN.le (sl_SlN h_rv.at)
  have bh_nv := SlN.le (sl_SlN h_nv.at)
  refine wp_seq_k (fun K1 hK1 => ?_)
  refine region_in ?_
  refine W_boxS (zs := #[ov, rv]) hS rfl rfl rfl l0_0 (by rfl) (fun g2 w2 c2 hc2 hS2 => ?_)
  replace hS2 : St w NoX [c2] w2 := hS2
  refine W_allocS (z := .agg #[.slice none 0 0, .slice none 0 0]) (zs := #[.slice none 0 0, .slice none 0 0]) hS2 rfl rfl rfl (by kernel_rfl) (by rfl) (fun g3 w3 c3 hc3 hS3 => ?_)
  replace hS3 : St w NoX [c3, c2] w3 := hS3
  refine W_v rfl rfl (V_asg rfl rfl) ?_
  refine W_end ?_
  refine gen_Q (fun A4 hA4 => ?_)
  have hsz4 := szq hA4
  have hdf4 : A4.defers = [] := by rw [hA4]; simp only [df_put]; exact hdf0
  have l1_4 := lookE hA4 1 (e2 rfl (es rfl l1_0))
  have l2_4 := lookE hA4 2 (e2 rfl (es rfl l2_0))
  have l3_4 := lookE hA4 3 (e2 rfl (et rfl))
  have l6_4 := lookE hA4 6 (es rfl (et rfl))
  clear hA4 hsz0 hdf0 l0_0 l1_0 l2_0
  refine then_n (hK1 _ _ ?_)
  clear hK1
  refine wp_seq_k (fun K5 hK5 => ?_)
  refine wp_seq_k (fun K6 hK6 => ?_)
  refine region_in ?_
  refine W_r rfl rfl (VR_ldA rfl l3_4 (hS3.obj 1 rfl hc2) Try.underlying25 rfl (by kernel_rfl)) ?_
  refine W_v rfl rfl (V_mov rfl (es rfl l2_4)) ?_
  refine W_call rfl rfl rfl Try.func47 (by kernel_rfl) rfl (args2 (es rfl (et rfl)) (et rfl)) (kcd_c (hS3.roC h_ov) (hS3.roC n_ov) (hS3.roC h_rv) (hS3.roC h_nv) ) ?_
  rintro _ w7 ⟨rfl, hP7⟩
  refine ⟨_, rfl, ?_⟩
  have hS7 := hS3.join hP7
  replace hS7 : St w NoX [c3, c2] w7 := hS7
  refine W_v rfl rfl (V_asg rfl (et rfl)) ?_
  refine W_end ?_
  refine gen_Q (fun A8 hA8 => ?_)
  have hsz8 := szq hA8
  have hdf8 : A8.defers = [] := by rw [hA8]; simp only [df_put]; exact hdf4
  have l1_8 := lookE hA8 1 (e3 rfl (es rfl l1_4))
  have l3_8 := lookE hA8 3 (e3 rfl (es rfl l3_4))
  have l6_8 := lookE hA8 6 (e3 rfl (es rfl l6_4))
  have l8_8 := lookE hA8 8 (et rfl)
  clear hA8 hsz4 hdf4 l1_4 l2_4 l3_4 l6_4
  refine then_n (hK6 _ _ ?_)
  clear hK6
  refine wp_seq_k (fun K9 hK9 => ?_)
  refine region_in ?_
  refine W_v rfl rfl (V_mov rfl l8_8) ?_
  refine W_v rfl rfl (V_neq rfl (et rfl) rfl) ?_
  refine W_end ?_
  refine gen_Q (fun A10 hA10 => ?_)
  have hsz10 := szq hA10
  have hdf10 : A10.defers = [] := by rw [hA10]; simp only [df_put]; exact hdf8
  have l1_10 := lookE hA10 1 (es rfl (es rfl l1_8))
  have l3_10 := lookE hA10 3 (es rfl (es rfl l3_8))
  have l6_10 := lookE hA10 6 (es rfl (es rfl l6_8))
  have l8_10 := lookE hA10 8 (es rfl (es rfl l8_8))
  have l17_10 := lookE hA10 17 (et rfl)
  clear hA10 hsz8 hdf8 l1_8 l3_8 l6_8 l8_8
  refine then_n (hK9 _ _ ?_)
  clear hK9
  refine cond_dec l17_10 (fun c11 => ?_) (fun c11 => ?_)
  · skip
    have hcd : ckd (O.map ab) rs ns ≠ 0 := by simpa using c11
    rw [hns] at *
    refine wp_seq_k (fun K12 hK12 => ?_)
    refine region_in ?_
    refine W_v rfl rfl (V_bldS (n := 2) (z := .agg #[.slice none 0 0, .slice none 0 0]) rfl (parts0) (by kernel_rfl) (by simp only [List.all_cons, List.all_nil, Bool.and_true] <;> rfl) (by kernel_rfl) (by simp only [List.foldl_cons, List.foldl_nil, Value.cells, List.setIfInBounds_toArray, List.set_cons_succ, List.set_cons_zero] <;> rfl)) ?_
    refine W_v rfl rfl (V_mov rfl (es rfl l8_10)) ?_
    refine W_stAS 0 hS7 rfl hc3 rfl rfl rfl (es rfl (es rfl l6_10)) (es rfl (et rfl)) (by first | (rw [List.all_toArray] <;> rfl) | (simp only [List.all_toArray, List.all_cons, List.all_nil] <;> rfl)) (by rfl) (by kernel_rfl) (fun w13 c13 hc13 hS13 => ?_)
    replace hS13 : St w NoX [c13, c2] w13 := hS13
    refine W_v rfl rfl (V_asg rfl (et rfl)) ?_
    refine W_end ?_
    refine gen_Q (fun A14 hA14 => ?_)
    have hsz14 := szq hA14
    have hdf14 : A14.defers = [] := by rw [hA14]; simp only [df_put]; exact hdf10
    have l6_14 := lookE hA14 6 (e2 rfl (es rfl l6_10))
    have l7_14 := lookE hA14 7 (et rfl)
    clear hA14 hsz10 hdf10 l1_10 l3_10 l6_10 l8_10 l17_10
    have hS15 : St w NoX [c13] w13 := hS13.sel [0] (by decide) rfl
    refine then_n (hK12 _ _ ?_)
    clear hK12
    refine wp_ret ?_
    refine then_ret ?_
    refine ret_in (results_2 Try.results51 (rv_cellA l6_14 (hS15.obj 0 rfl hc13) Try.underlying25 rfl (by kernel_rfl)) (rv_tmp l7_14)) hdf14 ?_
    -- leaf T
    obtain ⟨c16, hc16, hS16⟩ := hS15.pnil (s := 2)
    replace hc16 : c16 = ro 2 obC (.slice none 0 0) ([] : List Ob) := hc16
    obtain ⟨c17, cb17, hc17, hcb17, hS17⟩ := gen2 (nst_nils hS16)
    replace hS17 : St w NoX [c17, cb17, c16, c13] w13 := hS17
    obtain ⟨c18, hc18, hS18⟩ := hS17.pnil (s := 1)
    have h := wr_ck (f := f) (x := x) hcd
    rw [h.1, h.2.1]
    exact ⟨_, ([] : List Ob), _, rfl, rfl, (hS18.fin4 3 rfl (hc16) 1 rfl (hc17) 2 rfl (hcb17) 0 rfl (hc18.trans (by rw [h.2.2] <;> rfl)) (by decide))⟩
  · skip
    have hcd : ckd (O.map ab) rs ns = 0 := by simpa using c11
    rw [hns] at hcd
    have hG := (ckd_0.1 hcd).1
    have ho4 := hG.o4
    have hr8 := hG.r8
    rw [List.length_map] at ho4
    have hrg0 : ∀ p ∈ rs, 0 ≤ p ∧ p ≤ (O.length : Int) := fun p hp => by have q := hG.reg p hp; rw [List.length_map] at q; exact q
    have ha := (ckd_0.1 hcd).2 a (by simp)
    refine wp_skip ?_
    refine then_n (hK5 _ _ ?_)
    clear hK5
    refine wp_seq_k (fun K19 hK19 => ?_)
    refine region_in ?_
    refine W_v rfl rfl (V_fa (off' := 1) rfl l3_10 Try.underlying25 rfl (by decide +kernel) rfl) ?_
    refine W_r rfl rfl (VR_ldC rfl (et rfl) (cell_box (v := rv) (hS7.obj 1 rfl hc2) rfl) Try.underlying23 rfl) ?_
    refine W_call rfl rfl rfl Try.func67 (by kernel_rfl) rfl (args1 (et rfl)) (kcl_c (hS7.roC h_rv) (by first | omega | with_reducible assumption)) ?_
    rintro _ w20 ⟨v_20, rfl, hP20⟩
    refine ⟨_, rfl, ?_⟩
    obtain ⟨c_20, hc_20, hP20⟩ := gen1 hP20
    have hS20 := hS7.join hP20
    replace hS20 : St w NoX [c_20, c3, c2] w20 := hS20
    refine W_v rfl rfl (V_bldS (n := 2) (z := .agg #[.slice none 0 0, .slice none 0 0]) rfl (parts1 (et rfl)) (by kernel_rfl) (by simp only [List.all_cons, List.all_nil, SlN_one (ow_at (hS20.chq 0 rfl hc_20)), Bool.and_true] <;> rfl) (by kernel_rfl) (by simp only [List.foldl_cons, List.foldl_nil, Value.cells, List.setIfInBounds_toArray, List.set_cons_succ, List.set_cons_zero] <;> rfl)) ?_
    refine W_allocS (z := .agg #[.slice none 0 0, .slice none 0 0]) (zs := #[.slice none 0 0, .slice none 0 0]) hS20 rfl rfl rfl (by kernel_rfl) (by rfl) (fun g21 w21 c21 hc21 hS21 => ?_)
    replace hS21 : St w NoX [c21, c_20, c3, c2] w21 := hS21
    refine W_stAS 0 hS21 rfl hc21 rfl rfl rfl (et rfl) (es rfl (et rfl)) (by simp only [List.all_toArray, List.all_cons, List.all_nil, obC, SlN_one (ow_at (hS21.chq 1 rfl hc_20))] <;> rfl) (by rfl) (by kernel_rfl) (fun w22 c22 hc22 hS22 => ?_)
    replace hS22 : St w NoX [c22, c_20, c3, c2] w22 := hS22
    refine W_end ?_
    refine gen_Q (fun A23 hA23 => ?_)
    have hsz23 := szq hA23
    have hdf23 : A23.defers = [] := by rw [hA23]; simp only [df_put]; exact hdf10
    have l1_23 := lookE hA23 1 (e4 rfl (es rfl l1_10))
    have l3_23 := lookE hA23 3 (e4 rfl (es rfl l3_10))
    have l6_23 := lookE hA23 6 (e4 rfl (es rfl l6_10))
    have l9_23 := lookE hA23 9 (et rfl)
    clear hA23 hsz10 hdf10 l1_10 l3_10 l6_10 l8_10 l17_10
    refine then_n (hK19 _ _ ?_)
    clear hK19
    refine wp_seq_k (fun K24 hK24 => ?_)
    refine wp_seq_k (fun K25 hK25 => ?_)
    refine region_in ?_
    refine W_v rfl rfl (V_fa (off' := 0) rfl l3_23 Try.underlying25 rfl (by decide +kernel) rfl) ?_
    refine W_r rfl rfl (VR_ldC rfl (et rfl) (cell_box (v := ov) (hS22.obj 3 rfl hc2) rfl) Try.underlying22 rfl) ?_
    refine W_v rfl rfl (V_lenS rfl (et rfl) (sl_SlN h_ov.at) Try.underlying22) ?_
    refine W_v rfl rfl (V_mov rfl rfl) ?_
    refine W_end ?_
    refine gen_Q (fun A26 hA26 => ?_)
    have hsz26 := szq hA26
    have hdf26 : A26.defers = [] := by rw [hA26]; simp only [df_put]; exact hdf23
    have l1_26 := lookE hA26 1 (e3 rfl (es rfl l1_23))
    have l6_26 := lookE hA26 6 (e3 rfl (es rfl l6_23))
    have l9_26 := lookE hA26 9 (e3 rfl (es rfl l9_23))
    have l25_26 := lookE hA26 25 (e2 rfl (et rfl))
    have l26_26 := lookE hA26 26 (es rfl (et rfl))
    have l27_26 := lookE hA26 27 (et rfl)
    clear hA26 hsz23 hdf23 l1_23 l3_23 l6_23 l9_23
    have hS27 : St w NoX [c22, c_20, c3] w22 := hS22.sel [0, 1, 2] (by decide) rfl
    refine then_n (hK25 _ _ ?_)
    clear hK25
    refine wp_block ?_
    obtain ⟨c28, hc28, hS28⟩ := hS27.pnil (s := 2)
    replace hc28 : c28 = ro 2 obC (.slice none 0 0) ([] : List Ob) := hc28
    obtain ⟨c29, cb29, hc29, hcb29, hS29⟩ := gen2 (nst_nils hS28)
    replace hS29 : St w NoX [c29, cb29, c28, c22, c_20, c3] w22 := hS29
    -- loop 6
    refine loopX (fun mz A' w' => SzN A' 51 ∧ A'.defers = [] ∧ (∃ (k : Nat) (hv : Value) (H : List Ob), (mz = O.length - k) ∧ (k ≤ O.length) ∧ (H.map ab = (O.map ab).take k) ∧ (EV A' (.tmp 27) = .int .i64 (k : Int)) ∧ (EV A' (.tmp 1) = EV A26 (.tmp 1)) ∧ (EV A' (.tmp 6) = EV A26 (.tmp 6)) ∧ (EV A' (.tmp 9) = EV A26 (.tmp 9)) ∧ (EV A' (.tmp 25) = EV A26 (.tmp 25)) ∧ (EV A' (.tmp 26) = EV A26 (.tmp 26)) ∧ (St w NoX [owl .i64 (H.map (·.1)), owl .u64 (H.map (·.2)), ro 2 obC hv H, bx g21 25 #[hv, v_20], io .i64 v_20 rs, bx g3 25 #[.slice none 0 0, .slice none 0 0]] w'))) (O.length - 0) ⟨hsz26, hdf26, 0, (.slice none 0 0), [], rfl, (by omega), rfl, ((l27_26).trans (by first | rfl | (simp; done) | (congr 1; omega))), rfl, rfl, rfl, rfl, rfl, (by subst hc29 hcb29 hc28 hc22 hc_20 hc3; exact hS29)⟩ ?_
    clear hS29 hc29 hcb29 hc28 hc22 hc_20 hc3
    rintro n30 A30 w30 ⟨hsz30, hdf30, k, hv, H, hm30, hk, hH, l27_30, u1_30, u6_30, u9_30, u25_30, u26_30, hS30⟩
    have l1_30 := u1_30.trans l1_26
    have l6_30 := u6_30.trans l6_26
    have l9_30 := u9_30.trans l9_26
    have l25_30 := u25_30.trans l25_26
    have l26_30 := u26_30.trans l26_26
    obtain ⟨c29_30, cb29_30, c28_30, c22_30, c_30, c3_30, hc29_30, hcb29_30, hc28_30, hc22_30, hc_30, hc3_30, hS30⟩ := gen6 hS30
    refine wp_seq_k (fun K31 hK31 => ?_)
    refine region_in ?_
    refine W_v rfl rfl (V_lss rfl l27_30 l26_30) ?_
    refine W_end ?_
    refine gen_Q (fun A32 hA32 => ?_)
    have hsz32 := szq hA32
    have hdf32 : A32.defers = [] := by rw [hA32]; simp only [df_put]; exact hdf30
    have l1_32 := lookE hA32 1 (es rfl l1_30)
    have l6_32 := lookE hA32 6 (es rfl l6_30)
    have l9_32 := lookE hA32 9 (es rfl l9_30)
    have l25_32 := lookE hA32 25 (es rfl l25_30)
    have l26_32 := lookE hA32 26 (es rfl l26_30)
    have l27_32 := lookE hA32 27 (es rfl l27_30)
    have l28_32 := lookE hA32 28 (et rfl)
    clear hA32 hsz30 hdf30 l27_30 l1_30 l6_30 l9_30 l25_30 l26_30
    refine then_n (hK31 _ _ ?_)
    clear hK31
    refine wp_seq_k (fun K33 hK33 => ?_)
    refine cond_dec l28_32 (fun c34 => ?_) (fun c34 => ?_)
    · skip
      have hHl := mp_len hH hk
      refine wp_skip ?_
      refine then_n (hK33 _ _ ?_)
      clear hK33
      refine wp_seq_k (fun K35 hK35 => ?_)
      refine wp_block ?_
      refine wp_seq_k (fun K36 hK36 => ?_)
      refine region_in ?_
      have k37 : k < O.length := by first | omega | (simp only [List.length_cons, List.length_nil]; omega) | (simp only [List.length_set]; omega)
      obtain ⟨y37, hy37⟩ := get_some (xs := O) (k := k) k37
      have hsy := hsm.at hy37
      obtain ⟨B37, O37, C37, hv37⟩ := (SlN.blk (sl_SlN h_ov.at) (by first | omega | (simp only [List.length_cons, List.length_nil]; omega) | (simp only [List.length_set]; omega)))
      refine W_v rfl rfl (V_ixS (off := O37 + k * 2) 2 (k) rfl l25_32 l27_32 hv37 (by omega) k37 Try.underlying22 (by kernel_rfl) rfl) ?_
      have fn38 : Ro w NoX (il .i64 y37.1.1 y37.1.2) := nst_ro1 n_ov hy37
      have bfn38 := SlN.le (sl_SlN (hS30.ro fn38))
      have fn39 : Ro w NoX (il .u64 y37.2.1 y37.2.2) := nst_ro2 n_ov hy37
      have bfn39 := SlN.le (sl_SlN (hS30.ro fn39))
      refine W_r rfl rfl (VR_ldR (ys := obC y37) rfl (et rfl) (SlN.row obC_len (sl_SlN (hS30.ro h_ov)) hv37 hy37 rfl) Try.underlying40 rfl (by kernel_rfl)) ?_
      refine W_allocS (z := .agg #[.slice none 0 0, .slice none 0 0]) (zs := #[.slice none 0 0, .slice none 0 0]) hS30 rfl rfl rfl (by kernel_rfl) (by rfl) (fun g40 w40 c40 hc40 hS40 => ?_)
      replace hS40 : St w NoX [c40, c29_30, cb29_30, c28_30, c22_30, c_30, c3_30] w40 := hS40
      refine W_stAS 0 hS40 rfl hc40 rfl rfl rfl (et rfl) (es rfl (et rfl)) (by simp only [List.all_toArray, List.all_cons, List.all_nil, obC, SlN_one (sl_SlN fn38.at), SlN_one (sl_SlN fn39.at)] <;> rfl) (by rfl) (by kernel_rfl) (fun w41 c41 hc41 hS41 => ?_)
      replace hS41 : St w NoX [c41, c29_30, cb29_30, c28_30, c22_30, c_30, c3_30] w41 := hS41
      refine W_end ?_
      refine gen_Q (fun A42 hA42 => ?_)
      have hsz42 := szq hA42
      have hdf42 : A42.defers = [] := by rw [hA42]; simp only [df_put]; exact hdf32
      have l1_42 := lookE hA42 1 (e2 rfl (es rfl l1_32))
      have l6_42 := lookE hA42 6 (e2 rfl (es rfl l6_32))
      have l9_42 := lookE hA42 9 (e2 rfl (es rfl l9_32))
      have l11_42 := lookE hA42 11 (et rfl)
      have l25_42 := lookE hA42 25 (e2 rfl (es rfl l25_32))
      have l26_42 := lookE hA42 26 (e2 rfl (es rfl l26_32))
      have l27_42 := lookE hA42 27 (e2 rfl (es rfl l27_32))
      clear hA42 hsz32 hdf32 l1_32 l6_32 l9_32 l25_32 l26_32 l27_32 l28_32
      refine then_n (hK36 _ _ ?_)
      clear hK36
      refine region_monoS 10 11 [none, none, none, none, some (SPv [] (fun _ => fun u l' => ∃ v_s, u = v_s ∧ ∃ c_s, c_s = io .i64 (v_s) y37.1.2 ∧ l' = [c_s]) 4), none, none, some (SPv [] (fun _ => fun u l' => ∃ v_s, u = v_s ∧ ∃ c_s, c_s = io .u64 (v_s) y37.2.2 ∧ l' = [c_s]) 7), none, some (SPv [35, 38] (fun vs => fun u l' => ∃ g_, u = .slice (some ⟨g_, 0, none⟩) 1 1 ∧ ∃ c_, c_ = ro 2 obC (.slice (some ⟨g_, 0, none⟩) 1 1) [(((vs.getD 0 undef), y37.1.2), ((vs.getD 1 undef), y37.2.2))] ∧ l' = [c_]) 9)] (by kernel_rfl) (by kernel_rfl) ?_
      refine D_v rfl rfl (V_fa (off' := 0) rfl l9_42 Try.underlying25 rfl (by decide +kernel) rfl) rfl rfl ?_
      refine D_r rfl rfl (by kernel_rfl) (fun sx hx hF => (VR_ldC rfl (et rfl) (cell_box (v := hv) ((hS41.grow hx).obj 4 rfl hc22_30) rfl) Try.underlying22 rfl)) rfl rfl ?_
      refine D_v rfl rfl (V_fa (off' := 0) rfl (es rfl (es rfl l11_42)) Try.underlying40 rfl (by decide +kernel) rfl) rfl rfl ?_
      refine D_r rfl rfl (by kernel_rfl) (fun sx hx hF => (VR_ldC rfl (et rfl) (cell_box (v := y37.1.1) ((hS41.grow hx).obj 0 rfl hc41) rfl) Try.underlying23 rfl)) rfl rfl ?_
      refine D_call (ts := []) (vs := []) (C0 := fun _ => fun u l' => ∃ v_s, u = v_s ∧ ∃ c_s, c_s = io .i64 (v_s) y37.1.2 ∧ l' = [c_s]) (C := fun u l' => ∃ v_s, u = v_s ∧ ∃ c_s, c_s = io .i64 (v_s) y37.1.2 ∧ l' = [c_s]) rfl rfl rfl Try.func67 (by kernel_rfl) rfl (args1 (et rfl)) rfl rfl rfl rfl (fun sx hx hF => ?_) (fun u43 l43 hu43 => ?_)
      · refine (kcl_c ((hS41.grow hx).roC fn38) (by first | omega | with_reducible assumption)).mono ?_
        rintro _ _ ⟨v_43, rfl, hz⟩
        exact ⟨_, rfl, _, ⟨_, rfl, _, rfl, rfl⟩, hz⟩
      obtain ⟨v_43, rfl, c_43, hc_43, hl43⟩ := hu43
      refine D_v rfl rfl (V_fa (off' := 1) rfl (e4 rfl (es rfl l11_42)) Try.underlying40 rfl (by decide +kernel) rfl) rfl rfl ?_
      refine D_r rfl rfl (by kernel_rfl) (fun sx hx hF => (VR_ldC rfl (et rfl) (cell_box (v := y37.2.1) ((hS41.grow hx).obj 0 rfl hc41) rfl) Try.underlying38 rfl)) rfl rfl ?_
      refine D_call (ts := []) (vs := []) (C0 := fun _ => fun u l' => ∃ v_s, u = v_s ∧ ∃ c_s, c_s = io .u64 (v_s) y37.2.2 ∧ l' = [c_s]) (C := fun u l' => ∃ v_s, u = v_s ∧ ∃ c_s, c_s = io .u64 (v_s) y37.2.2 ∧ l' = [c_s]) rfl rfl rfl Try.func68 (by kernel_rfl) rfl (args1 (et rfl)) rfl rfl rfl rfl (fun sx hx hF => ?_) (fun u44 l44 hu44 => ?_)
      · refine (kcu_c ((hS41.grow hx).roC fn39) (by first | omega | with_reducible assumption)).mono ?_
        rintro _ _ ⟨v_44, rfl, hz⟩
        exact ⟨_, rfl, _, ⟨_, rfl, _, rfl, rfl⟩, hz⟩
      obtain ⟨v_44, rfl, c_44, hc_44, hl44⟩ := hu44
      refine D_r rfl rfl (by kernel_rfl) (fun sx hx hF => by obtain ⟨ll43, ws43, we43, ⟨v_43q, hq43, c_43_, hc_43_, hl43_⟩, hm43, k43, e43⟩ := L.ancF_get (L.ancF_rest hF) (by kernel_rfl); cases hq43; subst hl43_; obtain ⟨ll44, ws44, we44, ⟨v_44q, hq44, c_44_, hc_44_, hl44_⟩, hm44, k44, e44⟩ := L.ancF_get hF (by kernel_rfl); cases hq44; subst hl44_; exact ((V_bldS (n := 2) (z := .agg #[.slice none 0 0, .slice none 0 0]) rfl (parts2 (e3 rfl (et rfl)) (et rfl)) (by kernel_rfl) (by simp only [List.all_cons, List.all_nil, SlN_one (ow_at ((k43.grow e43).chq 0 rfl hc_43_)), SlN_one (ow_at ((k44.grow e44).chq 0 rfl hc_44_)), Bool.and_true] <;> rfl) (by kernel_rfl) (by simp only [List.foldl_cons, List.foldl_nil, Value.cells, List.setIfInBounds_toArray, List.set_cons_succ, List.set_cons_zero] <;> rfl) : Val _ _ _ _) _)) rfl rfl ?_
      have hll45 : [((u43, y37.1.2), (u44, y37.2.2))].length = 1 := rfl
      refine D_lay (ts := [35, 38]) (vs := [u43, u44]) (C0 := fun vs => fun u l' => ∃ g_, u = .slice (some ⟨g_, 0, none⟩) 1 1 ∧ ∃ c_, c_ = ro 2 obC (.slice (some ⟨g_, 0, none⟩) 1 1) [(((vs.getD 0 undef), y37.1.2), ((vs.getD 1 undef), y37.2.2))] ∧ l' = [c_]) (C := fun u l' => ∃ g_, u = .slice (some ⟨g_, 0, none⟩) 1 1 ∧ ∃ c_, c_ = ro 2 obC (.slice (some ⟨g_, 0, none⟩) 1 1) [((u43, y37.1.2), (u44, y37.2.2))] ∧ l' = [c_]) rfl rfl rfl rfl (ts2 (e4 rfl (et rfl)) (es rfl (et rfl))) rfl (fun sx hx hF => lay_lit (vs := [.agg #[u43, u44]]) 2 rfl (parts1 (et rfl)) rfl Try.underlying22 (by kernel_rfl) (by decide) (by intro v hv; simp only [List.mem_cons, List.not_mem_nil, or_false] at hv; rcases hv with rfl <;> rfl) (by rfl)) (fun u45 l45 hu45 => ?_)
      obtain ⟨g45, rfl, c45, hc45, hl45⟩ := hu45
      refine D_eff rfl ?_
      refine ZS_eff hS41 rfl rfl (fun s46 hJ46 hL46 hF46 => ?_)
      obtain ⟨ll43, ws43, we43, ⟨v_43q, hq43, c_43r, hc_43r, hl43r⟩, hm43, k43, e43⟩ := L.all_get (L.all_rest (L.all_rest hF46)); cases hq43; subst hl43r
      replace hJ46 := hJ46.add hL46 (i := 4) rfl hm43 k43 e43
      obtain ⟨ll44, ws44, we44, ⟨v_44q, hq44, c_44r, hc_44r, hl44r⟩, hm44, k44, e44⟩ := L.all_get (L.all_rest hF46); cases hq44; subst hl44r
      replace hJ46 := hJ46.add hL46 (i := 7) rfl hm44 k44 e44
      obtain ⟨ll45, ws45, we45, ⟨g45q, hq45, c45r, hc45r, hl45r⟩, hm45, k45, e45⟩ := L.all_get hF46; cases hq45; subst hl45r
      replace hJ46 := hJ46.add hL46 (i := 9) rfl hm45 k45 e45
      have hS46 := hJ46.st; clear hF46 hJ46 hL46
      generalize s46.1 = w46 at *
      replace hS46 : St w NoX [c45r, c_44r, c_43r, c41, c29_30, cb29_30, c28_30, c22_30, c_30, c3_30] w46 := hS46
      refine W_appS 2 6 hS46 rfl hc28_30 rfl rfl rfl (e8 rfl (et rfl)) (et rfl) Try.underlying22 Try.underlying22 (z := .agg #[.slice none 0 0, .slice none 0 0]) (bytes := 48) (by kernel_rfl) rfl (by decide) (ow_at (hS46.chq 0 rfl hc45r)) (by intro u hu; simp only [List.flatMap_cons, List.flatMap_nil, obC, List.append_nil, List.cons_append, List.nil_append, List.mem_cons, List.not_mem_nil, or_false] at hu; rcases hu with rfl | rfl <;> first | exact SlN_one (ow_at (hS46.chq 2 rfl hc_43r)) | exact SlN_one (ow_at (hS46.chq 1 rfl hc_44r))) (by first | omega | (simp; done) | (simp; omega)) (by first | omega | (simp; done) | (simp; omega)) (fun v47 w47 c47 hc47 hS47 => ?_)
      replace hc47 : c47 = ro 2 obC v47 (H ++ [((u43, y37.1.2), (u44, y37.2.2))]) := hc47.trans (app_eqR (by simp))
      replace hS47 : St w NoX [c45r, c_44r, c_43r, c41, c29_30, cb29_30, c47, c22_30, c_30, c3_30] w47 := hS47
      have hS48 := hS47.sel [2, 4, 1, 5, 0, 3, 6, 7, 8, 9] (by decide) (l' := [c_43r, c29_30, c_44r, cb29_30, c45r, c41, c47, c22_30, c_30, c3_30]) rfl
      replace hS48 : St w NoX [c_43r, c29_30, c_44r, cb29_30, c45r, c41, c47, c22_30, c_30, c3_30] w47 := hS48
      rw [hc_43r, hc29_30, hc_44r, hcb29_30] at hS48
      obtain ⟨c49, cb49, hc49, hcb49, hS49⟩ := gen2 (nst_push (pv := u43) (ps := y37.1.2) (qv := u44) (qs := y37.2.2) (O := H) hS48)
      replace hS49 : St w NoX [c49, cb49, c45r, c41, c47, c22_30, c_30, c3_30] w47 := hS49
      replace hc49 : c49 = owl .i64 ((H ++ [((u43, y37.1.2), (u44, y37.2.2))]).map (·.1)) := hc49
      replace hcb49 : cb49 = owl .u64 ((H ++ [((u43, y37.1.2), (u44, y37.2.2))]).map (·.2)) := hcb49
      refine W_v rfl rfl (V_fa (off' := 0) rfl (e10 rfl (es rfl l9_42)) Try.underlying25 rfl (by decide +kernel) rfl) ?_
      refine W_stCS (zs' := #[v47, v_20]) 5 hS49 rfl hc22_30 rfl rfl rfl (et rfl) (es rfl (et rfl)) (SlN_one (ow_at (hS49.chq 4 rfl hc47))) (by rfl) (by kernel_rfl) (by first | rfl | (simp only [List.setIfInBounds_toArray, List.set_cons_succ, List.set_cons_zero] <;> rfl)) (fun w50 c50 hc50 hS50 => ?_)
      replace hS50 : St w NoX [c49, cb49, c45r, c41, c47, c50, c_30, c3_30] w50 := hS50
      refine W_end ?_
      refine Qo_normal ?_
      refine gen_Q (fun A51 hA51 => ?_)
      have hsz51 := szq hA51
      have hdf51 : A51.defers = [] := by rw [hA51]; simp only [df_put]; exact hdf42
      have l1_51 := lookE hA51 1 (e11 rfl (es rfl l1_42))
      have l6_51 := lookE hA51 6 (e11 rfl (es rfl l6_42))
      have l9_51 := lookE hA51 9 (e11 rfl (es rfl l9_42))
      have l25_51 := lookE hA51 25 (e11 rfl (es rfl l25_42))
      have l26_51 := lookE hA51 26 (e11 rfl (es rfl l26_42))
      have l27_51 := lookE hA51 27 (e11 rfl (es rfl l27_42))
      clear hA51 hsz42 hdf42 l1_42 l6_42 l9_42 l11_42 l25_42 l26_42 l27_42
      have hS52 : St w NoX [c49, cb49, c47, c50, c_30, c3_30] w50 := hS50.sel [0, 1, 4, 5, 6, 7] (by decide) rfl
      refine inb_n ?_
      refine then_n (hK35 _ _ ?_)
      clear hK35
      refine region_in ?_
      refine W_v rfl rfl (V_add rfl l27_51 rfl (by omega) (by omega)) ?_
      refine W_v rfl rfl (V_mov rfl (et rfl)) ?_
      refine W_end ?_
      refine gen_Q (fun A53 hA53 => ?_)
      have hsz53 := szq hA53
      have hdf53 : A53.defers = [] := by rw [hA53]; simp only [df_put]; exact hdf51
      have l1_53 := lookE hA53 1 (es rfl (es rfl l1_51))
      have l6_53 := lookE hA53 6 (es rfl (es rfl l6_51))
      have l9_53 := lookE hA53 9 (es rfl (es rfl l9_51))
      have l25_53 := lookE hA53 25 (es rfl (es rfl l25_51))
      have l26_53 := lookE hA53 26 (es rfl (es rfl l26_51))
      have l27_53 := lookE hA53 27 (et rfl)
      clear hA53 hsz51 hdf51 l1_51 l6_51 l9_51 l25_51 l26_51 l27_51
      refine then_n ⟨O.length - (k + 1), by simp only [hm30]; omega, hsz53, hdf53, (k + 1), v47, (H ++ [((u43, y37.1.2), (u44, y37.2.2))]), rfl, (by omega), (mp_snoc hH hy37 rfl), ((l27_53).trans (by first | rfl | (simp; done) | (congr 1; omega))), ((l1_53).trans l1_26.symm), ((l6_53).trans l6_26.symm), ((l9_53).trans l9_26.symm), ((l25_53).trans l25_26.symm), ((l26_53).trans l26_26.symm), (by subst hc49 hcb49 hc47 hc50 hc_30 hc3_30; exact hS52)⟩
    · skip
      have hHO := mp_done hH (by omega)
      have hHl := mp_lenE hHO
      rw [List.length_map] at hHl
      have hrg : ∀ p ∈ rs, 0 ≤ p ∧ p ≤ (H.length : Int) := fun p hp => by rw [hHl]; exact hrg0 p hp
      refine wp_exit ?_
      refine then_exit ?_
      refine then_exit ?_
      refine inb_hit ?_
      refine then_n (hK24 _ _ ?_)
      clear hK24
      refine wp_seq_k (fun K54 hK54 => ?_)
      refine wp_seq_k (fun K55 hK55 => ?_)
      refine region_in ?_
      refine W_v rfl rfl (V_mov rfl l1_32) ?_
      have hS56 := hS30.sel [3, 2, 0, 1, 4, 5] (by decide) (l' := [c22_30, c28_30, c29_30, cb29_30, c_30, c3_30]) rfl
      replace hS56 : St w NoX [c22_30, c28_30, c29_30, cb29_30, c_30, c3_30] w30 := hS56
      obtain ⟨Y57, hP57, hR57, hF57, hB57⟩ := St.call (pre := [c22_30, c28_30, c29_30, cb29_30, c_30]) (fr := [c3_30]) hS56
      rw [hc22_30, hc28_30, hc29_30, hcb29_30, hc_30] at hP57
      refine W_callV rfl rfl rfl (et rfl) Try.func58 (by kernel_rfl) rfl (args1 (es rfl l9_32)) (kWr1_c (a := a) (ga := ga) (f := f) (gf := gf) (x := x) (gx := gx) (hR57 _ hb_a) (hR57 _ hb_f) (hR57 _ hb_x) hP57 (by first | with_reducible assumption | (have q := hG.reg; simpa using q)) (by first | omega | with_reducible assumption)) ?_
      rintro _ w58 ⟨hv_58, H_58, qv_58, rfl, hH_58, hP58⟩
      refine ⟨_, rfl, ?_⟩
      obtain ⟨cB_58, cR_58, cP_58, cQ_58, cG_58, hcB_58, hcR_58, hcP_58, hcQ_58, hcG_58, hP58⟩ := gen5 hP58
      have hS58 := hB57 _ _ hP58
      replace hS58 : St w NoX [cB_58, cR_58, cP_58, cQ_58, cG_58, c3_30] w58 := hS58
      refine W_v rfl rfl (V_asg rfl (et rfl)) ?_
      refine W_end ?_
      refine gen_Q (fun A59 hA59 => ?_)
      have hsz59 := szq hA59
      have hdf59 : A59.defers = [] := by rw [hA59]; simp only [df_put]; exact hdf32
      have l6_59 := lookE hA59 6 (e2 rfl (es rfl l6_32))
      have l9_59 := lookE hA59 9 (e2 rfl (es rfl l9_32))
      have l12_59 := lookE hA59 12 (et rfl)
      clear hA59 hsz32 hdf32 l1_32 l6_32 l9_32 l25_32 l26_32 l27_32 l28_32
      refine then_n (hK55 _ _ ?_)
      clear hK55
      refine wp_seq_k (fun K60 hK60 => ?_)
      refine region_in ?_
      refine W_v rfl rfl (V_mov rfl l12_59) ?_
      refine W_v rfl rfl (V_neq rfl (et rfl) rfl) ?_
      refine W_end ?_
      refine gen_Q (fun A61 hA61 => ?_)
      have hsz61 := szq hA61
      have hdf61 : A61.defers = [] := by rw [hA61]; simp only [df_put]; exact hdf59
      have l6_61 := lookE hA61 6 (es rfl (es rfl l6_59))
      have l9_61 := lookE hA61 9 (es rfl (es rfl l9_59))
      have l12_61 := lookE hA61 12 (es rfl (es rfl l12_59))
      have l47_61 := lookE hA61 47 (et rfl)
      clear hA61 hsz59 hdf59 l6_59 l9_59 l12_59
      refine then_n (hK60 _ _ ?_)
      clear hK60
      refine cond_dec l47_61 (fun c62 => ?_) (fun c62 => ?_)
      · skip
        refine wp_seq_k (fun K63 hK63 => ?_)
        refine region_in ?_
        refine W_v rfl rfl (V_bldS (n := 2) (z := .agg #[.slice none 0 0, .slice none 0 0]) rfl (parts0) (by kernel_rfl) (by simp only [List.all_cons, List.all_nil, Bool.and_true] <;> rfl) (by kernel_rfl) (by simp only [List.foldl_cons, List.foldl_nil, Value.cells, List.setIfInBounds_toArray, List.set_cons_succ, List.set_cons_zero] <;> rfl)) ?_
        refine W_v rfl rfl (V_mov rfl (es rfl l12_61)) ?_
        refine W_stAS 5 hS58 rfl hc3_30 rfl rfl rfl (es rfl (es rfl l6_61)) (es rfl (et rfl)) (by first | (rw [List.all_toArray] <;> rfl) | (simp only [List.all_toArray, List.all_cons, List.all_nil] <;> rfl)) (by rfl) (by kernel_rfl) (fun w64 c64 hc64 hS64 => ?_)
        replace hS64 : St w NoX [cB_58, cR_58, cP_58, cQ_58, cG_58, c64] w64 := hS64
        refine W_v rfl rfl (V_asg rfl (et rfl)) ?_
        refine W_end ?_
        refine gen_Q (fun A65 hA65 => ?_)
        have hsz65 := szq hA65
        have hdf65 : A65.defers = [] := by rw [hA65]; simp only [df_put]; exact hdf61
        have l6_65 := lookE hA65 6 (e2 rfl (es rfl l6_61))
        have l7_65 := lookE hA65 7 (et rfl)
        clear hA65 hsz61 hdf61 l6_61 l9_61 l12_61 l47_61
        have hS66 : St w NoX [c64] w64 := hS64.sel [5] (by decide) rfl
        refine then_n (hK63 _ _ ?_)
        clear hK63
        refine wp_ret ?_
        refine then_ret ?_
        refine ret_in (results_2 Try.results51 (rv_cellA l6_65 (hS66.obj 0 rfl hc64) Try.underlying25 rfl (by kernel_rfl)) (rv_tmp l7_65)) hdf65 ?_
        -- leaf FFT
        obtain ⟨c67, hc67, hS67⟩ := hS66.pnil (s := 2)
        replace hc67 : c67 = ro 2 obC (.slice none 0 0) ([] : List Ob) := hc67
        obtain ⟨c68, cb68, hc68, hcb68, hS68⟩ := gen2 (nst_nils hS67)
        replace hS68 : St w NoX [c68, cb68, c67, c64] w64 := hS68
        obtain ⟨c69, hc69, hS69⟩ := hS68.pnil (s := 1)
        rw [hHO] at c62
        have h := (wr_in (f := f) (x := x) hcd).1 (by simpa using c62)
        rw [h.1, h.2.1]
        exact ⟨_, ([] : List Ob), _, by rw [hHO], rfl, (hS69.fin4 3 rfl (hc67) 1 rfl (hc68) 2 rfl (hcb68) 0 rfl (hc69.trans (by (try rw [hHO]); rw [h.2.2] <;> rfl)) (by decide))⟩
      · skip
        refine wp_skip ?_
        refine then_n (hK54 _ _ ?_)
        clear hK54
        refine wp_seq_k (fun K70 hK70 => ?_)
        refine region_in ?_
        refine W_r rfl rfl (VR_ldA rfl l9_61 (hS58.obj 0 rfl hcB_58) Try.underlying25 rfl (by kernel_rfl)) ?_
        refine W_stAS 5 hS58 rfl hc3_30 rfl rfl rfl (es rfl l6_61) (et rfl) (by simp only [List.all_toArray, List.all_cons, List.all_nil, obC, SlN_one (ow_at (hS58.chq 1 rfl hcR_58)), SlN_one (ow_at (hS58.chq 4 rfl hcG_58))] <;> rfl) (by rfl) (by kernel_rfl) (fun w71 c71 hc71 hS71 => ?_)
        replace hS71 : St w NoX [cB_58, cR_58, cP_58, cQ_58, cG_58, c71] w71 := hS71
        refine W_v rfl rfl (V_asg rfl rfl) ?_
        refine W_end ?_
        refine gen_Q (fun A72 hA72 => ?_)
        have hsz72 := szq hA72
        have hdf72 : A72.defers = [] := by rw [hA72]; simp only [df_put]; exact hdf61
        have l6_72 := lookE hA72 6 (es rfl (es rfl l6_61))
        have l7_72 := lookE hA72 7 (et rfl)
        clear hA72 hsz61 hdf61 l6_61 l9_61 l12_61 l47_61
        have hS73 : St w NoX [cR_58, cP_58, cQ_58, cG_58, c71] w71 := hS71.sel [1, 2, 3, 4, 5] (by decide) rfl
        refine then_n (hK70 _ _ ?_)
        clear hK70
        refine wp_ret ?_
        refine ret_in (results_2 Try.results51 (rv_cellA l6_72 (hS73.obj 4 rfl hc71) Try.underlying25 rfl (by kernel_rfl)) (rv_tmp l7_72)) hdf72 ?_
        -- leaf FFF
        rw [hHO] at c62
        rw [hHO] at hH_58
        have h := (wr_in (f := f) (x := x) hcd).2 (by first | rfl | simpa using c62)
        rw [h.1, h.2.1]
        exact ⟨_, H_58, _, rfl, hH_58, (hS73.fin4 0 rfl (hcR_58) 1 rfl (hcP_58) 2 rfl (hcQ_58) 3 rfl (hcG_58.trans (by (try rw [hHO]); rw [h.2.2] <;> rfl)) (by decide))⟩

set_option maxHeartbeats 4000000 in
theorem kchMove_c {ov : Value} {O : List Ob} {rv : Value} {rs : List Int} {b : Int} {gb : Nat} {a : Int} {ga : Nat} {nv : Value} {ns : List Int} {w : World} (h_ov : Ro w NoX (rl 2 obC ov O)) (n_ov : Ro w NoX (nst O)) (h_rv : Ro w NoX (il .i64 rv rs)) (hb_b : Ro w NoX (bx gb 3 #[.int .i64 b])) (hb_a : Ro w NoX (bx ga 3 #[.int .i64 a])) (h_nv : Ro w NoX (il .i64 nv ns)) (hsm : SM (O.map ab)) (hns : ns = [a, b]) :
    Calls Try.prog 51 #[.agg #[ov, rv], .func (.func 62) #[] #[.pointer (some ⟨gb, 0, none⟩), .pointer (some ⟨ga, 0, none⟩)], nv] w fun e w' => ∃ hv H qv, e = .returned (.tuple #[.agg #[hv, qv], .int .i64 (ckd (O.map ab) rs [a, b])]) ∧ (H.map ab = (kpO (O.map ab) rs [a, b])) ∧ St w NoX [ro 2 obC hv H, owl .i64 (H.map (·.1)), owl .u64 (H.map (·.2)), io .i64 (qv) (mvR (O.map ab) rs a b)] w' := by
  refine calls_in 51 Try.func51 rfl rfl (by simp) (fun A0 hsz0 hdf0 hargs => ?_)
  have l0_0 := hargs 0 (.agg #[ov, rv]) rfl
  have l1_0 := hargs 1 (.func (.func 62) #[] #[.pointer (some ⟨gb, 0, none⟩), .pointer (some ⟨ga, 0, none⟩)]) rfl
  have l2_0 := hargs 2 (nv) rfl
  clear hargs; replace hsz0 : SzN A0 51 := ⟨hsz0⟩
  have hS := St.nil w
  have bh_ov := SlN.le (sl_SlN h_ov.at)
  have bh_rv := SlN.le (sl_SlN h_rv.at)
  have bh_nv := SlN.le (sl_SlN h_nv.at)
  refine wp_seq_k (fun K1 hK1 => ?_)
  refine region_in ?_
  refine W_boxS (zs := #[ov, rv]) hS rfl rfl rfl l0_0 (by rfl) (fun g2 w2 c2 hc2 hS2 => ?_)
  replace hS2 : St w NoX [c2] w2 := hS2
  refine W_allocS (z := .agg #[.slice none 0 0, .slice none 0 0]) (zs := #[.slice none 0 0, .slice none 0 0]) hS2 rfl rfl rfl (by kernel_rfl) (by rfl) (fun g3 w3 c3 hc3 hS3 => ?_)
  replace hS3 : St w NoX [c3, c2] w3 := hS3
  refine W_v rfl rfl (V_asg rfl rfl) ?_
  refine W_end ?_
  refine gen_Q (fun A4 hA4 => ?_)
  have hsz4 := szq hA4
  have hdf4 : A4.defers = [] := by rw [hA4]; simp only [df_put]; exact hdf0
  have l1_4 := lookE hA4 1 (e2 rfl (es rfl l1_0))
  have l2_4 := lookE hA4 2 (e2 rfl (es rfl l2_0))
  have l3_4 := lookE hA4 3 (e2 rfl (et rfl))
  have l6_4 := lookE hA4 6 (es rfl (et rfl))
  clear hA4 hsz0 hdf0 l0_0 l1_0 l2_0
  refine then_n (hK1 _ _ ?_)
  clear hK1
  refine wp_seq_k (fun K5 hK5 => ?_)
  refine wp_seq_k (fun K6 hK6 => ?_)
  refine region_in ?_
  refine W_r rfl rfl (VR_ldA rfl l3_4 (hS3.obj 1 rfl hc2) Try.underlying25 rfl (by kernel_rfl)) ?_
  refine W_v rfl rfl (V_mov rfl (es rfl l2_4)) ?_
  refine W_call rfl rfl rfl Try.func47 (by kernel_rfl) rfl (args2 (es rfl (et rfl)) (et rfl)) (kcd_c (hS3.roC h_ov) (hS3.roC n_ov) (hS3.roC h_rv) (hS3.roC h_nv) ) ?_
  rintro _ w7 ⟨rfl, hP7⟩
  refine ⟨_, rfl, ?_⟩
  have hS7 := hS3.join hP7
  replace hS7 : St w NoX [c3, c2] w7 := hS7
  refine W_v rfl rfl (V_asg rfl (et rfl)) ?_
  refine W_end ?_
  refine gen_Q (fun A8 hA8 => ?_)
  have hsz8 := szq hA8
  have hdf8 : A8.defers = [] := by rw [hA8]; simp only [df_put]; exact hdf4
  have l1_8 := lookE hA8 1 (e3 rfl (es rfl l1_4))
  have l3_8 := lookE hA8 3 (e3 rfl (es rfl l3_4))
  have l6_8 := lookE hA8 6 (e3 rfl (es rfl l6_4))
  have l8_8 := lookE hA8 8 (et rfl)
  clear hA8 hsz4 hdf4 l1_4 l2_4 l3_4 l6_4
  refine then_n (hK6 _ _ ?_)
  clear hK6
  refine wp_seq_k (fun K9 hK9 => ?_)
  refine region_in ?_
  refine W_v rfl rfl (V_mov rfl l8_8) ?_
  refine W_v rfl rfl (V_neq rfl (et rfl) rfl) ?_
  refine W_end ?_
  refine gen_Q (fun A10 hA10 => ?_)
  have hsz10 := szq hA10
  have hdf10 : A10.defers = [] := by rw [hA10]; simp only [df_put]; exact hdf8
  have l1_10 := lookE hA10 1 (es rfl (es rfl l1_8))
  have l3_10 := lookE hA10 3 (es rfl (es rfl l3_8))
  have l6_10 := lookE hA10 6 (es rfl (es rfl l6_8))
  have l8_10 := lookE hA10 8 (es rfl (es rfl l8_8))
  have l17_10 := lookE hA10 17 (et rfl)
  clear hA10 hsz8 hdf8 l1_8 l3_8 l6_8 l8_8
  refine then_n (hK9 _ _ ?_)
  clear hK9
  refine cond_dec l17_10 (fun c11 => ?_) (fun c11 => ?_)
  · skip
    have hcd : ckd (O.map ab) rs ns ≠ 0 := by simpa using c11
    rw [hns] at *
    refine wp_seq_k (fun K12 hK12 => ?_)
    refine region_in ?_
    refine W_v rfl rfl (V_bldS (n := 2) (z := .agg #[.slice none 0 0, .slice none 0 0]) rfl (parts0) (by kernel_rfl) (by simp only [List.all_cons, List.all_nil, Bool.and_true] <;> rfl) (by kernel_rfl) (by simp only [List.foldl_cons, List.foldl_nil, Value.cells, List.setIfInBounds_toArray, List.set_cons_succ, List.set_cons_zero] <;> rfl)) ?_
    refine W_v rfl rfl (V_mov rfl (es rfl l8_10)) ?_
    refine W_stAS 0 hS7 rfl hc3 rfl rfl rfl (es rfl (es rfl l6_10)) (es rfl (et rfl)) (by first | (rw [List.all_toArray] <;> rfl) | (simp only [List.all_toArray, List.all_cons, List.all_nil] <;> rfl)) (by rfl) (by kernel_rfl) (fun w13 c13 hc13 hS13 => ?_)
    replace hS13 : St w NoX [c13, c2] w13 := hS13
    refine W_v rfl rfl (V_asg rfl (et rfl)) ?_
    refine W_end ?_
    refine gen_Q (fun A14 hA14 => ?_)
    have hsz14 := szq hA14
    have hdf14 : A14.defers = [] := by rw [hA14]; simp only [df_put]; exact hdf10
    have l6_14 := lookE hA14 6 (e2 rfl (es rfl l6_10))
    have l7_14 := lookE hA14 7 (et rfl)
    clear hA14 hsz10 hdf10 l1_10 l3_10 l6_10 l8_10 l17_10
    have hS15 : St w NoX [c13] w13 := hS13.sel [0] (by decide) rfl
    refine then_n (hK12 _ _ ?_)
    clear hK12
    refine wp_ret ?_
    refine then_ret ?_
    refine ret_in (results_2 Try.results51 (rv_cellA l6_14 (hS15.obj 0 rfl hc13) Try.underlying25 rfl (by kernel_rfl)) (rv_tmp l7_14)) hdf14 ?_
    -- leaf T
    obtain ⟨c16, hc16, hS16⟩ := hS15.pnil (s := 2)
    replace hc16 : c16 = ro 2 obC (.slice none 0 0) ([] : List Ob) := hc16
    obtain ⟨c17, cb17, hc17, hcb17, hS17⟩ := gen2 (nst_nils hS16)
    replace hS17 : St w NoX [c17, cb17, c16, c13] w13 := hS17
    obtain ⟨c18, hc18, hS18⟩ := hS17.pnil (s := 1)
    have h := mv_ck  hcd
    rw [h.1, h.2.1]
    exact ⟨_, ([] : List Ob), _, rfl, rfl, (hS18.fin4 3 rfl (hc16) 1 rfl (hc17) 2 rfl (hcb17) 0 rfl (hc18.trans (by rw [h.2.2] <;> rfl)) (by decide))⟩
  · skip
    have hcd : ckd (O.map ab) rs ns = 0 := by simpa using c11
    rw [hns] at hcd
    have hG := (ckd_0.1 hcd).1
    have ho4 := hG.o4
    have hr8 := hG.r8
    rw [List.length_map] at ho4
    have hrg0 : ∀ p ∈ rs, 0 ≤ p ∧ p ≤ (O.length : Int) := fun p hp => by have q := hG.reg p hp; rw [List.length_map] at q; exact q
    have ha := (ckd_0.1 hcd).2 a (by simp)
    have hb := (ckd_0.1 hcd).2 b (by simp)
    refine wp_skip ?_
    refine then_n (hK5 _ _ ?_)
    clear hK5
    refine wp_seq_k (fun K19 hK19 => ?_)
    refine region_in ?_
    refine W_v rfl rfl (V_fa (off' := 1) rfl l3_10 Try.underlying25 rfl (by decide +kernel) rfl) ?_
    refine W_r rfl rfl (VR_ldC rfl (et rfl) (cell_box (v := rv) (hS7.obj 1 rfl hc2) rfl) Try.underlying23 rfl) ?_
    refine W_call rfl rfl rfl Try.func67 (by kernel_rfl) rfl (args1 (et rfl)) (kcl_c (hS7.roC h_rv) (by first | omega | with_reducible assumption)) ?_
    rintro _ w20 ⟨v_20, rfl, hP20⟩
    refine ⟨_, rfl, ?_⟩
    obtain ⟨c_20, hc_20, hP20⟩ := gen1 hP20
    have hS20 := hS7.join hP20
    replace hS20 : St w NoX [c_20, c3, c2] w20 := hS20
    refine W_v rfl rfl (V_bldS (n := 2) (z := .agg #[.slice none 0 0, .slice none 0 0]) rfl (parts1 (et rfl)) (by kernel_rfl) (by simp only [List.all_cons, List.all_nil, SlN_one (ow_at (hS20.chq 0 rfl hc_20)), Bool.and_true] <;> rfl) (by kernel_rfl) (by simp only [List.foldl_cons, List.foldl_nil, Value.cells, List.setIfInBounds_toArray, List.set_cons_succ, List.set_cons_zero] <;> rfl)) ?_
    refine W_allocS (z := .agg #[.slice none 0 0, .slice none 0 0]) (zs := #[.slice none 0 0, .slice none 0 0]) hS20 rfl rfl rfl (by kernel_rfl) (by rfl) (fun g21 w21 c21 hc21 hS21 => ?_)
    replace hS21 : St w NoX [c21, c_20, c3, c2] w21 := hS21
    refine W_stAS 0 hS21 rfl hc21 rfl rfl rfl (et rfl) (es rfl (et rfl)) (by simp only [List.all_toArray, List.all_cons, List.all_nil, obC, SlN_one (ow_at (hS21.chq 1 rfl hc_20))] <;> rfl) (by rfl) (by kernel_rfl) (fun w22 c22 hc22 hS22 => ?_)
    replace hS22 : St w NoX [c22, c_20, c3, c2] w22 := hS22
    refine W_end ?_
    refine gen_Q (fun A23 hA23 => ?_)
    have hsz23 := szq hA23
    have hdf23 : A23.defers = [] := by rw [hA23]; simp only [df_put]; exact hdf10
    have l1_23 := lookE hA23 1 (e4 rfl (es rfl l1_10))
    have l3_23 := lookE hA23 3 (e4 rfl (es rfl l3_10))
    have l6_23 := lookE hA23 6 (e4 rfl (es rfl l6_10))
    have l9_23 := lookE hA23 9 (et rfl)
    clear hA23 hsz10 hdf10 l1_10 l3_10 l6_10 l8_10 l17_10
    refine then_n (hK19 _ _ ?_)
    clear hK19
    refine wp_seq_k (fun K24 hK24 => ?_)
    refine wp_seq_k (fun K25 hK25 => ?_)
    refine region_in ?_
    refine W_v rfl rfl (V_fa (off' := 0) rfl l3_23 Try.underlying25 rfl (by decide +kernel) rfl) ?_
    refine W_r rfl rfl (VR_ldC rfl (et rfl) (cell_box (v := ov) (hS22.obj 3 rfl hc2) rfl) Try.underlying22 rfl) ?_
    refine W_v rfl rfl (V_lenS rfl (et rfl) (sl_SlN h_ov.at) Try.underlying22) ?_
    refine W_v rfl rfl (V_mov rfl rfl) ?_
    refine W_end ?_
    refine gen_Q (fun A26 hA26 => ?_)
    have hsz26 := szq hA26
    have hdf26 : A26.defers = [] := by rw [hA26]; simp only [df_put]; exact hdf23
    have l1_26 := lookE hA26 1 (e3 rfl (es rfl l1_23))
    have l6_26 := lookE hA26 6 (e3 rfl (es rfl l6_23))
    have l9_26 := lookE hA26 9 (e3 rfl (es rfl l9_23))
    have l25_26 := lookE hA26 25 (e2 rfl (et rfl))
    have l26_26 := lookE hA26 26 (es rfl (et rfl))
    have l27_26 := lookE hA26 27 (et rfl)
    clear hA26 hsz23 hdf23 l1_23 l3_23 l6_23 l9_23
    have hS27 : St w NoX [c22, c_20, c3] w22 := hS22.sel [0, 1, 2] (by decide) rfl
    refine then_n (hK25 _ _ ?_)
    clear hK25
    refine wp_block ?_
    obtain ⟨c28, hc28, hS28⟩ := hS27.pnil (s := 2)
    replace hc28 : c28 = ro 2 obC (.slice none 0 0) ([] : List Ob) := hc28
    obtain ⟨c29, cb29, hc29, hcb29, hS29⟩ := gen2 (nst_nils hS28)
    replace hS29 : St w NoX [c29, cb29, c28, c22, c_20, c3] w22 := hS29
    -- loop 6
    refine loopX (fun mz A' w' => SzN A' 51 ∧ A'.defers = [] ∧ (∃ (k : Nat) (hv : Value) (H : List Ob), (mz = O.length - k) ∧ (k ≤ O.length) ∧ (H.map ab = (O.map ab).take k) ∧ (EV A' (.tmp 27) = .int .i64 (k : Int)) ∧ (EV A' (.tmp 1) = EV A26 (.tmp 1)) ∧ (EV A' (.tmp 6) = EV A26 (.tmp 6)) ∧ (EV A' (.tmp 9) = EV A26 (.tmp 9)) ∧ (EV A' (.tmp 25) = EV A26 (.tmp 25)) ∧ (EV A' (.tmp 26) = EV A26 (.tmp 26)) ∧ (St w NoX [owl .i64 (H.map (·.1)), owl .u64 (H.map (·.2)), ro 2 obC hv H, bx g21 25 #[hv, v_20], io .i64 v_20 rs, bx g3 25 #[.slice none 0 0, .slice none 0 0]] w'))) (O.length - 0) ⟨hsz26, hdf26, 0, (.slice none 0 0), [], rfl, (by omega), rfl, ((l27_26).trans (by first | rfl | (simp; done) | (congr 1; omega))), rfl, rfl, rfl, rfl, rfl, (by subst hc29 hcb29 hc28 hc22 hc_20 hc3; exact hS29)⟩ ?_
    clear hS29 hc29 hcb29 hc28 hc22 hc_20 hc3
    rintro n30 A30 w30 ⟨hsz30, hdf30, k, hv, H, hm30, hk, hH, l27_30, u1_30, u6_30, u9_30, u25_30, u26_30, hS30⟩
    have l1_30 := u1_30.trans l1_26
    have l6_30 := u6_30.trans l6_26
    have l9_30 := u9_30.trans l9_26
    have l25_30 := u25_30.trans l25_26
    have l26_30 := u26_30.trans l26_26
    obtain ⟨c29_30, cb29_30, c28_30, c22_30, c_30, c3_30, hc29_30, hcb29_30, hc28_30, hc22_30, hc_30, hc3_30, hS30⟩ := gen6 hS30
    refine wp_seq_k (fun K31 hK31 => ?_)
    refine region_in ?_
    refine W_v rfl rfl (V_lss rfl l27_30 l26_30) ?_
    refine W_end ?_
    refine gen_Q (fun A32 hA32 => ?_)
    have hsz32 := szq hA32
    have hdf32 : A32.defers = [] := by rw [hA32]; simp only [df_put]; exact hdf30
    have l1_32 := lookE hA32 1 (es rfl l1_30)
    have l6_32 := lookE hA32 6 (es rfl l6_30)
    have l9_32 := lookE hA32 9 (es rfl l9_30)
    have l25_32 := lookE hA32 25 (es rfl l25_30)
    have l26_32 := lookE hA32 26 (es rfl l26_30)
    have l27_32 := lookE hA32 27 (es rfl l27_30)
    have l28_32 := lookE hA32 28 (et rfl)
    clear hA32 hsz30 hdf30 l27_30 l1_30 l6_30 l9_30 l25_30 l26_30
    refine then_n (hK31 _ _ ?_)
    clear hK31
    refine wp_seq_k (fun K33 hK33 => ?_)
    refine cond_dec l28_32 (fun c34 => ?_) (fun c34 => ?_)
    · skip
      have hHl := mp_len hH hk
      refine wp_skip ?_
      refine then_n (hK33 _ _ ?_)
      clear hK33
      refine wp_seq_k (fun K35 hK35 => ?_)
      refine wp_block ?_
      refine wp_seq_k (fun K36 hK36 => ?_)
      refine region_in ?_
      have k37 : k < O.length := by first | omega | (simp only [List.length_cons, List.length_nil]; omega) | (simp only [List.length_set]; omega)
      obtain ⟨y37, hy37⟩ := get_some (xs := O) (k := k) k37
      have hsy := hsm.at hy37
      obtain ⟨B37, O37, C37, hv37⟩ := (SlN.blk (sl_SlN h_ov.at) (by first | omega | (simp only [List.length_cons, List.length_nil]; omega) | (simp only [List.length_set]; omega)))
      refine W_v rfl rfl (V_ixS (off := O37 + k * 2) 2 (k) rfl l25_32 l27_32 hv37 (by omega) k37 Try.underlying22 (by kernel_rfl) rfl) ?_
      have fn38 : Ro w NoX (il .i64 y37.1.1 y37.1.2) := nst_ro1 n_ov hy37
      have bfn38 := SlN.le (sl_SlN (hS30.ro fn38))
      have fn39 : Ro w NoX (il .u64 y37.2.1 y37.2.2) := nst_ro2 n_ov hy37
      have bfn39 := SlN.le (sl_SlN (hS30.ro fn39))
      refine W_r rfl rfl (VR_ldR (ys := obC y37) rfl (et rfl) (SlN.row obC_len (sl_SlN (hS30.ro h_ov)) hv37 hy37 rfl) Try.underlying40 rfl (by kernel_rfl)) ?_
      refine W_allocS (z := .agg #[.slice none 0 0, .slice none 0 0]) (zs := #[.slice none 0 0, .slice none 0 0]) hS30 rfl rfl rfl (by kernel_rfl) (by rfl) (fun g40 w40 c40 hc40 hS40 => ?_)
      replace hS40 : St w NoX [c40, c29_30, cb29_30, c28_30, c22_30, c_30, c3_30] w40 := hS40
      refine W_stAS 0 hS40 rfl hc40 rfl rfl rfl (et rfl) (es rfl (et rfl)) (by simp only [List.all_toArray, List.all_cons, List.all_nil, obC, SlN_one (sl_SlN fn38.at), SlN_one (sl_SlN fn39.at)] <;> rfl) (by rfl) (by kernel_rfl) (fun w41 c41 hc41 hS41 => ?_)
      replace hS41 : St w NoX [c41, c29_30, cb29_30, c28_30, c22_30, c_30, c3_30] w41 := hS41
      refine W_end ?_
      refine gen_Q (fun A42 hA42 => ?_)
      have hsz42 := szq hA42
      have hdf42 : A42.defers = [] := by rw [hA42]; simp only [df_put]; exact hdf32
      have l1_42 := lookE hA42 1 (e2 rfl (es rfl l1_32))
      have l6_42 := lookE hA42 6 (e2 rfl (es rfl l6_32))
      have l9_42 := lookE hA42 9 (e2 rfl (es rfl l9_32))
      have l11_42 := lookE hA42 11 (et rfl)
      have l25_42 := lookE hA42 25 (e2 rfl (es rfl l25_32))
      have l26_42 := lookE hA42 26 (e2 rfl (es rfl l26_32))
      have l27_42 := lookE hA42 27 (e2 rfl (es rfl l27_32))
      clear hA42 hsz32 hdf32 l1_32 l6_32 l9_32 l25_32 l26_32 l27_32 l28_32
      refine then_n (hK36 _ _ ?_)
      clear hK36
      refine region_monoS 10 11 [none, none, none, none, some (SPv [] (fun _ => fun u l' => ∃ v_s, u = v_s ∧ ∃ c_s, c_s = io .i64 (v_s) y37.1.2 ∧ l' = [c_s]) 4), none, none, some (SPv [] (fun _ => fun u l' => ∃ v_s, u = v_s ∧ ∃ c_s, c_s = io .u64 (v_s) y37.2.2 ∧ l' = [c_s]) 7), none, some (SPv [35, 38] (fun vs => fun u l' => ∃ g_, u = .slice (some ⟨g_, 0, none⟩) 1 1 ∧ ∃ c_, c_ = ro 2 obC (.slice (some ⟨g_, 0, none⟩) 1 1) [(((vs.getD 0 undef), y37.1.2), ((vs.getD 1 undef), y37.2.2))] ∧ l' = [c_]) 9)] (by kernel_rfl) (by kernel_rfl) ?_
      refine D_v rfl rfl (V_fa (off' := 0) rfl l9_42 Try.underlying25 rfl (by decide +kernel) rfl) rfl rfl ?_
      refine D_r rfl rfl (by kernel_rfl) (fun sx hx hF => (VR_ldC rfl (et rfl) (cell_box (v := hv) ((hS41.grow hx).obj 4 rfl hc22_30) rfl) Try.underlying22 rfl)) rfl rfl ?_
      refine D_v rfl rfl (V_fa (off' := 0) rfl (es rfl (es rfl l11_42)) Try.underlying40 rfl (by decide +kernel) rfl) rfl rfl ?_
      refine D_r rfl rfl (by kernel_rfl) (fun sx hx hF => (VR_ldC rfl (et rfl) (cell_box (v := y37.1.1) ((hS41.grow hx).obj 0 rfl hc41) rfl) Try.underlying23 rfl)) rfl rfl ?_
      refine D_call (ts := []) (vs := []) (C0 := fun _ => fun u l' => ∃ v_s, u = v_s ∧ ∃ c_s, c_s = io .i64 (v_s) y37.1.2 ∧ l' = [c_s]) (C := fun u l' => ∃ v_s, u = v_s ∧ ∃ c_s, c_s = io .i64 (v_s) y37.1.2 ∧ l' = [c_s]) rfl rfl rfl Try.func67 (by kernel_rfl) rfl (args1 (et rfl)) rfl rfl rfl rfl (fun sx hx hF => ?_) (fun u43 l43 hu43 => ?_)
      · refine (kcl_c ((hS41.grow hx).roC fn38) (by first | omega | with_reducible assumption)).mono ?_
        rintro _ _ ⟨v_43, rfl, hz⟩
        exact ⟨_, rfl, _, ⟨_, rfl, _, rfl, rfl⟩, hz⟩
      obtain ⟨v_43, rfl, c_43, hc_43, hl43⟩ := hu43
      refine D_v rfl rfl (V_fa (off' := 1) rfl (e4 rfl (es rfl l11_42)) Try.underlying40 rfl (by decide +kernel) rfl) rfl rfl ?_
      refine D_r rfl rfl (by kernel_rfl) (fun sx hx hF => (VR_ldC rfl (et rfl) (cell_box (v := y37.2.1) ((hS41.grow hx).obj 0 rfl hc41) rfl) Try.underlying38 rfl)) rfl rfl ?_
      refine D_call (ts := []) (vs := []) (C0 := fun _ => fun u l' => ∃ v_s, u = v_s ∧ ∃ c_s, c_s = io .u64 (v_s) y37.2.2 ∧ l' = [c_s]) (C := fun u l' => ∃ v_s, u = v_s ∧ ∃ c_s, c_s = io .u64 (v_s) y37.2.2 ∧ l' = [c_s]) rfl rfl rfl Try.func68 (by kernel_rfl) rfl (args1 (et rfl)) rfl rfl rfl rfl (fun sx hx hF => ?_) (fun u44 l44 hu44 => ?_)
      · refine (kcu_c ((hS41.grow hx).roC fn39) (by first | omega | with_reducible assumption)).mono ?_
        rintro _ _ ⟨v_44, rfl, hz⟩
        exact ⟨_, rfl, _, ⟨_, rfl, _, rfl, rfl⟩, hz⟩
      obtain ⟨v_44, rfl, c_44, hc_44, hl44⟩ := hu44
      refine D_r rfl rfl (by kernel_rfl) (fun sx hx hF => by obtain ⟨ll43, ws43, we43, ⟨v_43q, hq43, c_43_, hc_43_, hl43_⟩, hm43, k43, e43⟩ := L.ancF_get (L.ancF_rest hF) (by kernel_rfl); cases hq43; subst hl43_; obtain ⟨ll44, ws44, we44, ⟨v_44q, hq44, c_44_, hc_44_, hl44_⟩, hm44, k44, e44⟩ := L.ancF_get hF (by kernel_rfl); cases hq44; subst hl44_; exact ((V_bldS (n := 2) (z := .agg #[.slice none 0 0, .slice none 0 0]) rfl (parts2 (e3 rfl (et rfl)) (et rfl)) (by kernel_rfl) (by simp only [List.all_cons, List.all_nil, SlN_one (ow_at ((k43.grow e43).chq 0 rfl hc_43_)), SlN_one (ow_at ((k44.grow e44).chq 0 rfl hc_44_)), Bool.and_true] <;> rfl) (by kernel_rfl) (by simp only [List.foldl_cons, List.foldl_nil, Value.cells, List.setIfInBounds_toArray, List.set_cons_succ, List.set_cons_zero] <;> rfl) : Val _ _ _ _) _)) rfl rfl ?_
      have hll45 : [((u43, y37.1.2), (u44, y37.2.2))].length = 1 := rfl
      refine D_lay (ts := [35, 38]) (vs := [u43, u44]) (C0 := fun vs => fun u l' => ∃ g_, u = .slice (some ⟨g_, 0, none⟩) 1 1 ∧ ∃ c_, c_ = ro 2 obC (.slice (some ⟨g_, 0, none⟩) 1 1) [(((vs.getD 0 undef), y37.1.2), ((vs.getD 1 undef), y37.2.2))] ∧ l' = [c_]) (C := fun u l' => ∃ g_, u = .slice (some ⟨g_, 0, none⟩) 1 1 ∧ ∃ c_, c_ = ro 2 obC (.slice (some ⟨g_, 0, none⟩) 1 1) [((u43, y37.1.2), (u44, y37.2.2))] ∧ l' = [c_]) rfl rfl rfl rfl (ts2 (e4 rfl (et rfl)) (es rfl (et rfl))) rfl (fun sx hx hF => lay_lit (vs := [.agg #[u43, u44]]) 2 rfl (parts1 (et rfl)) rfl Try.underlying22 (by kernel_rfl) (by decide) (by intro v hv; simp only [List.mem_cons, List.not_mem_nil, or_false] at hv; rcases hv with rfl <;> rfl) (by rfl)) (fun u45 l45 hu45 => ?_)
      obtain ⟨g45, rfl, c45, hc45, hl45⟩ := hu45
      refine D_eff rfl ?_
      refine ZS_eff hS41 rfl rfl (fun s46 hJ46 hL46 hF46 => ?_)
      obtain ⟨ll43, ws43, we43, ⟨v_43q, hq43, c_43r, hc_43r, hl43r⟩, hm43, k43, e43⟩ := L.all_get (L.all_rest (L.all_rest hF46)); cases hq43; subst hl43r
      replace hJ46 := hJ46.add hL46 (i := 4) rfl hm43 k43 e43
      obtain ⟨ll44, ws44, we44, ⟨v_44q, hq44, c_44r, hc_44r, hl44r⟩, hm44, k44, e44⟩ := L.all_get (L.all_rest hF46); cases hq44; subst hl44r
      replace hJ46 := hJ46.add hL46 (i := 7) rfl hm44 k44 e44
      obtain ⟨ll45, ws45, we45, ⟨g45q, hq45, c45r, hc45r, hl45r⟩, hm45, k45, e45⟩ := L.all_get hF46; cases hq45; subst hl45r
      replace hJ46 := hJ46.add hL46 (i := 9) rfl hm45 k45 e45
      have hS46 := hJ46.st; clear hF46 hJ46 hL46
      generalize s46.1 = w46 at *
      replace hS46 : St w NoX [c45r, c_44r, c_43r, c41, c29_30, cb29_30, c28_30, c22_30, c_30, c3_30] w46 := hS46
      refine W_appS 2 6 hS46 rfl hc28_30 rfl rfl rfl (e8 rfl (et rfl)) (et rfl) Try.underlying22 Try.underlying22 (z := .agg #[.slice none 0 0, .slice none 0 0]) (bytes := 48) (by kernel_rfl) rfl (by decide) (ow_at (hS46.chq 0 rfl hc45r)) (by intro u hu; simp only [List.flatMap_cons, List.flatMap_nil, obC, List.append_nil, List.cons_append, List.nil_append, List.mem_cons, List.not_mem_nil, or_false] at hu; rcases hu with rfl | rfl <;> first | exact SlN_one (ow_at (hS46.chq 2 rfl hc_43r)) | exact SlN_one (ow_at (hS46.chq 1 rfl hc_44r))) (by first | omega | (simp; done) | (simp; omega)) (by first | omega | (simp; done) | (simp; omega)) (fun v47 w47 c47 hc47 hS47 => ?_)
      replace hc47 : c47 = ro 2 obC v47 (H ++ [((u43, y37.1.2), (u44, y37.2.2))]) := hc47.trans (app_eqR (by simp))
      replace hS47 : St w NoX [c45r, c_44r, c_43r, c41, c29_30, cb29_30, c47, c22_30, c_30, c3_30] w47 := hS47
      have hS48 := hS47.sel [2, 4, 1, 5, 0, 3, 6, 7, 8, 9] (by decide) (l' := [c_43r, c29_30, c_44r, cb29_30, c45r, c41, c47, c22_30, c_30, c3_30]) rfl
      replace hS48 : St w NoX [c_43r, c29_30, c_44r, cb29_30, c45r, c41, c47, c22_30, c_30, c3_30] w47 := hS48
      rw [hc_43r, hc29_30, hc_44r, hcb29_30] at hS48
      obtain ⟨c49, cb49, hc49, hcb49, hS49⟩ := gen2 (nst_push (pv := u43) (ps := y37.1.2) (qv := u44) (qs := y37.2.2) (O := H) hS48)
      replace hS49 : St w NoX [c49, cb49, c45r, c41, c47, c22_30, c_30, c3_30] w47 := hS49
      replace hc49 : c49 = owl .i64 ((H ++ [((u43, y37.1.2), (u44, y37.2.2))]).map (·.1)) := hc49
      replace hcb49 : cb49 = owl .u64 ((H ++ [((u43, y37.1.2), (u44, y37.2.2))]).map (·.2)) := hcb49
      refine W_v rfl rfl (V_fa (off' := 0) rfl (e10 rfl (es rfl l9_42)) Try.underlying25 rfl (by decide +kernel) rfl) ?_
      refine W_stCS (zs' := #[v47, v_20]) 5 hS49 rfl hc22_30 rfl rfl rfl (et rfl) (es rfl (et rfl)) (SlN_one (ow_at (hS49.chq 4 rfl hc47))) (by rfl) (by kernel_rfl) (by first | rfl | (simp only [List.setIfInBounds_toArray, List.set_cons_succ, List.set_cons_zero] <;> rfl)) (fun w50 c50 hc50 hS50 => ?_)
      replace hS50 : St w NoX [c49, cb49, c45r, c41, c47, c50, c_30, c3_30] w50 := hS50
      refine W_end ?_
      refine Qo_normal ?_
      refine gen_Q (fun A51 hA51 => ?_)
      have hsz51 := szq hA51
      have hdf51 : A51.defers = [] := by rw [hA51]; simp only [df_put]; exact hdf42
      have l1_51 := lookE hA51 1 (e11 rfl (es rfl l1_42))
      have l6_51 := lookE hA51 6 (e11 rfl (es rfl l6_42))
      have l9_51 := lookE hA51 9 (e11 rfl (es rfl l9_42))
      have l25_51 := lookE hA51 25 (e11 rfl (es rfl l25_42))
      have l26_51 := lookE hA51 26 (e11 rfl (es rfl l26_42))
      have l27_51 := lookE hA51 27 (e11 rfl (es rfl l27_42))
      clear hA51 hsz42 hdf42 l1_42 l6_42 l9_42 l11_42 l25_42 l26_42 l27_42
      have hS52 : St w NoX [c49, cb49, c47, c50, c_30, c3_30] w50 := hS50.sel [0, 1, 4, 5, 6, 7] (by decide) rfl
      refine inb_n ?_
      refine then_n (hK35 _ _ ?_)
      clear hK35
      refine region_in ?_
      refine W_v rfl rfl (V_add rfl l27_51 rfl (by omega) (by omega)) ?_
      refine W_v rfl rfl (V_mov rfl (et rfl)) ?_
      refine W_end ?_
      refine gen_Q (fun A53 hA53 => ?_)
      have hsz53 := szq hA53
      have hdf53 : A53.defers = [] := by rw [hA53]; simp only [df_put]; exact hdf51
      have l1_53 := lookE hA53 1 (es rfl (es rfl l1_51))
      have l6_53 := lookE hA53 6 (es rfl (es rfl l6_51))
      have l9_53 := lookE hA53 9 (es rfl (es rfl l9_51))
      have l25_53 := lookE hA53 25 (es rfl (es rfl l25_51))
      have l26_53 := lookE hA53 26 (es rfl (es rfl l26_51))
      have l27_53 := lookE hA53 27 (et rfl)
      clear hA53 hsz51 hdf51 l1_51 l6_51 l9_51 l25_51 l26_51 l27_51
      refine then_n ⟨O.length - (k + 1), by simp only [hm30]; omega, hsz53, hdf53, (k + 1), v47, (H ++ [((u43, y37.1.2), (u44, y37.2.2))]), rfl, (by omega), (mp_snoc hH hy37 rfl), ((l27_53).trans (by first | rfl | (simp; done) | (congr 1; omega))), ((l1_53).trans l1_26.symm), ((l6_53).trans l6_26.symm), ((l9_53).trans l9_26.symm), ((l25_53).trans l25_26.symm), ((l26_53).trans l26_26.symm), (by subst hc49 hcb49 hc47 hc50 hc_30 hc3_30; exact hS52)⟩
    · skip
      have hHO := mp_done hH (by omega)
      have hHl := mp_lenE hHO
      rw [List.length_map] at hHl
      have hrg : ∀ p ∈ rs, 0 ≤ p ∧ p ≤ (H.length : Int) := fun p hp => by rw [hHl]; exact hrg0 p hp
      refine wp_exit ?_
      refine then_exit ?_
      refine then_exit ?_
      refine inb_hit ?_
      refine then_n (hK24 _ _ ?_)
      clear hK24
      refine wp_seq_k (fun K54 hK54 => ?_)
      refine wp_seq_k (fun K55 hK55 => ?_)
      refine region_in ?_
      refine W_v rfl rfl (V_mov rfl l1_32) ?_
      have hS56 := hS30.sel [3, 2, 0, 1, 4, 5] (by decide) (l' := [c22_30, c28_30, c29_30, cb29_30, c_30, c3_30]) rfl
      replace hS56 : St w NoX [c22_30, c28_30, c29_30, cb29_30, c_30, c3_30] w30 := hS56
      obtain ⟨Y57, hP57, hR57, hF57, hB57⟩ := St.call (pre := [c22_30, c28_30, c29_30, cb29_30, c_30]) (fr := [c3_30]) hS56
      rw [hc22_30, hc28_30, hc29_30, hcb29_30, hc_30] at hP57
      refine W_callV rfl rfl rfl (et rfl) Try.func62 (by kernel_rfl) rfl (args1 (es rfl l9_32)) (kMv1_c (b := b) (gb := gb) (a := a) (ga := ga) (hR57 _ hb_b) (hR57 _ hb_a) hP57 (by first | omega | with_reducible assumption) (by first | omega | with_reducible assumption)) ?_
      rintro _ w58 ⟨hv_58, H_58, qv_58, rfl, hH_58, hP58⟩
      refine ⟨_, rfl, ?_⟩
      obtain ⟨cB_58, cR_58, cP_58, cQ_58, cG_58, hcB_58, hcR_58, hcP_58, hcQ_58, hcG_58, hP58⟩ := gen5 hP58
      have hS58 := hB57 _ _ hP58
      replace hS58 : St w NoX [cB_58, cR_58, cP_58, cQ_58, cG_58, c3_30] w58 := hS58
      refine W_v rfl rfl (V_asg rfl (et rfl)) ?_
      refine W_end ?_
      refine gen_Q (fun A59 hA59 => ?_)
      have hsz59 := szq hA59
      have hdf59 : A59.defers = [] := by rw [hA59]; simp only [df_put]; exact hdf32
      have l6_59 := lookE hA59 6 (e2 rfl (es rfl l6_32))
      have l9_59 := lookE hA59 9 (e2 rfl (es rfl l9_32))
      have l12_59 := lookE hA59 12 (et rfl)
      clear hA59 hsz32 hdf32 l1_32 l6_32 l9_32 l25_32 l26_32 l27_32 l28_32
      refine then_n (hK55 _ _ ?_)
      clear hK55
      refine wp_seq_k (fun K60 hK60 => ?_)
      refine region_in ?_
      refine W_v rfl rfl (V_mov rfl l12_59) ?_
      refine W_v rfl rfl (V_neq rfl (et rfl) rfl) ?_
      refine W_end ?_
      refine gen_Q (fun A61 hA61 => ?_)
      have hsz61 := szq hA61
      have hdf61 : A61.defers = [] := by rw [hA61]; simp only [df_put]; exact hdf59
      have l6_61 := lookE hA61 6 (es rfl (es rfl l6_59))
      have l9_61 := lookE hA61 9 (es rfl (es rfl l9_59))
      have l12_61 := lookE hA61 12 (es rfl (es rfl l12_59))
      have l47_61 := lookE hA61 47 (et rfl)
      clear hA61 hsz59 hdf59 l6_59 l9_59 l12_59
      refine then_n (hK60 _ _ ?_)
      clear hK60
      refine cond_not l47_61 (by decide) ?_
      refine wp_skip ?_
      refine then_n (hK54 _ _ ?_)
      clear hK54
      refine wp_seq_k (fun K62 hK62 => ?_)
      refine region_in ?_
      refine W_r rfl rfl (VR_ldA rfl l9_61 (hS58.obj 0 rfl hcB_58) Try.underlying25 rfl (by kernel_rfl)) ?_
      refine W_stAS 5 hS58 rfl hc3_30 rfl rfl rfl (es rfl l6_61) (et rfl) (by simp only [List.all_toArray, List.all_cons, List.all_nil, obC, SlN_one (ow_at (hS58.chq 1 rfl hcR_58)), SlN_one (ow_at (hS58.chq 4 rfl hcG_58))] <;> rfl) (by rfl) (by kernel_rfl) (fun w63 c63 hc63 hS63 => ?_)
      replace hS63 : St w NoX [cB_58, cR_58, cP_58, cQ_58, cG_58, c63] w63 := hS63
      refine W_v rfl rfl (V_asg rfl rfl) ?_
      refine W_end ?_
      refine gen_Q (fun A64 hA64 => ?_)
      have hsz64 := szq hA64
      have hdf64 : A64.defers = [] := by rw [hA64]; simp only [df_put]; exact hdf61
      have l6_64 := lookE hA64 6 (es rfl (es rfl l6_61))
      have l7_64 := lookE hA64 7 (et rfl)
      clear hA64 hsz61 hdf61 l6_61 l9_61 l12_61 l47_61
      have hS65 : St w NoX [cR_58, cP_58, cQ_58, cG_58, c63] w63 := hS63.sel [1, 2, 3, 4, 5] (by decide) rfl
      refine then_n (hK62 _ _ ?_)
      clear hK62
      refine wp_ret ?_
      refine ret_in (results_2 Try.results51 (rv_cellA l6_64 (hS65.obj 4 rfl hc63) Try.underlying25 rfl (by kernel_rfl)) (rv_tmp l7_64)) hdf64 ?_
      -- leaf FF
      rw [hHO] at hH_58
      have h := (mv_in  hcd).2 (by first | rfl | simpa using c34)
      rw [h.1, h.2.1]
      exact ⟨_, H_58, _, rfl, hH_58, (hS65.fin4 0 rfl (hcR_58) 1 rfl (hcP_58) 2 rfl (hcQ_58) 3 rfl (hcG_58.trans (by (try rw [hHO]); rw [h.2.2] <;> rfl)) (by decide))⟩

set_option maxHeartbeats 4000000 in
theorem kchClear_c {ov : Value} {O : List Ob} {rv : Value} {rs : List Int} {a : Int} {ga : Nat} {nv : Value} {ns : List Int} {w : World} (h_ov : Ro w NoX (rl 2 obC ov O)) (n_ov : Ro w NoX (nst O)) (h_rv : Ro w NoX (il .i64 rv rs)) (hb_a : Ro w NoX (bx ga 3 #[.int .i64 a])) (h_nv : Ro w NoX (il .i64 nv ns)) (hsm : SM (O.map ab)) (hns : ns = [a]) :
    Calls Try.prog 51 #[.agg #[ov, rv], .func (.func 52) #[] #[.pointer (some ⟨ga, 0, none⟩)], nv] w fun e w' => ∃ hv H qv, e = .returned (.tuple #[.agg #[hv, qv], .int .i64 (ckd (O.map ab) rs [a])]) ∧ (H.map ab = (kpO (O.map ab) rs [a])) ∧ St w NoX [ro 2 obC hv H, owl .i64 (H.map (·.1)), owl .u64 (H.map (·.2)), io .i64 (qv) (clR (O.map ab) rs a)] w' := by
  refine calls_in 51 Try.func51 rfl rfl (by simp) (fun A0 hsz0 hdf0 hargs => ?_)
  have l0_0 := hargs 0 (.agg #[ov, rv]) rfl
  have l1_0 := hargs 1 (.func (.func 52) #[] #[.pointer (some ⟨ga, 0, none⟩)]) rfl
  have l2_0 := hargs 2 (nv) rfl
  clear hargs; replace hsz0 : SzN A0 51 := ⟨hsz0⟩
  have hS := St.nil w
  have bh_ov := SlN.le (sl_SlN h_ov.at)
  have bh_rv := SlN.le (sl_SlN h_rv.at)
  have bh_nv := SlN.le (sl_SlN h_nv.at)
  refine wp_seq_k (fun K1 hK1 => ?_)
  refine region_in ?_
  refine W_boxS (zs := #[ov, rv]) hS rfl rfl rfl l0_0 (by rfl) (fun g2 w2 c2 hc2 hS2 => ?_)
  replace hS2 : St w NoX [c2] w2 := hS2
  refine W_allocS (z := .agg #[.slice none 0 0, .slice none 0 0]) (zs := #[.slice none 0 0, .slice none 0 0]) hS2 rfl rfl rfl (by kernel_rfl) (by rfl) (fun g3 w3 c3 hc3 hS3 => ?_)
  replace hS3 : St w NoX [c3, c2] w3 := hS3
  refine W_v rfl rfl (V_asg rfl rfl) ?_
  refine W_end ?_
  refine gen_Q (fun A4 hA4 => ?_)
  have hsz4 := szq hA4
  have hdf4 : A4.defers = [] := by rw [hA4]; simp only [df_put]; exact hdf0
  have l1_4 := lookE hA4 1 (e2 rfl (es rfl l1_0))
  have l2_4 := lookE hA4 2 (e2 rfl (es rfl l2_0))
  have l3_4 := lookE hA4 3 (e2 rfl (et rfl))
  have l6_4 := lookE hA4 6 (es rfl (et rfl))
  clear hA4 hsz0 hdf0 l0_0 l1_0 l2_0
  refine then_n (hK1 _ _ ?_)
  clear hK1
  refine wp_seq_k (fun K5 hK5 => ?_)
  refine wp_seq_k (fun K6 hK6 => ?_)
  refine region_in ?_
  refine W_r rfl rfl (VR_ldA rfl l3_4 (hS3.obj 1 rfl hc2) Try.underlying25 rfl (by kernel_rfl)) ?_
  refine W_v rfl rfl (V_mov rfl (es rfl l2_4)) ?_
  refine W_call rfl rfl rfl Try.func47 (by kernel_rfl) rfl (args2 (es rfl (et rfl)) (et rfl)) (kcd_c (hS3.roC h_ov) (hS3.roC n_ov) (hS3.roC h_rv) (hS3.roC h_nv) ) ?_
  rintro _ w7 ⟨rfl, hP7⟩
  refine ⟨_, rfl, ?_⟩
  have hS7 := hS3.join hP7
  replace hS7 : St w NoX [c3, c2] w7 := hS7
  refine W_v rfl rfl (V_asg rfl (et rfl)) ?_
  refine W_end ?_
  refine gen_Q (fun A8 hA8 => ?_)
  have hsz8 := szq hA8
  have hdf8 : A8.defers = [] := by rw [hA8]; simp only [df_put]; exact hdf4
  have l1_8 := lookE hA8 1 (e3 rfl (es rfl l1_4))
  have l3_8 := lookE hA8 3 (e3 rfl (es rfl l3_4))
  have l6_8 := lookE hA8 6 (e3 rfl (es rfl l6_4))
  have l8_8 := lookE hA8 8 (et rfl)
  clear hA8 hsz4 hdf4 l1_4 l2_4 l3_4 l6_4
  refine then_n (hK6 _ _ ?_)
  clear hK6
  refine wp_seq_k (fun K9 hK9 => ?_)
  refine region_in ?_
  refine W_v rfl rfl (V_mov rfl l8_8) ?_
  refine W_v rfl rfl (V_neq rfl (et rfl) rfl) ?_
  refine W_end ?_
  refine gen_Q (fun A10 hA10 => ?_)
  have hsz10 := szq hA10
  have hdf10 : A10.defers = [] := by rw [hA10]; simp only [df_put]; exact hdf8
  have l1_10 := lookE hA10 1 (es rfl (es rfl l1_8))
  have l3_10 := lookE hA10 3 (es rfl (es rfl l3_8))
  have l6_10 := lookE hA10 6 (es rfl (es rfl l6_8))
  have l8_10 := lookE hA10 8 (es rfl (es rfl l8_8))
  have l17_10 := lookE hA10 17 (et rfl)
  clear hA10 hsz8 hdf8 l1_8 l3_8 l6_8 l8_8
  refine then_n (hK9 _ _ ?_)
  clear hK9
  refine cond_dec l17_10 (fun c11 => ?_) (fun c11 => ?_)
  · skip
    have hcd : ckd (O.map ab) rs ns ≠ 0 := by simpa using c11
    rw [hns] at *
    refine wp_seq_k (fun K12 hK12 => ?_)
    refine region_in ?_
    refine W_v rfl rfl (V_bldS (n := 2) (z := .agg #[.slice none 0 0, .slice none 0 0]) rfl (parts0) (by kernel_rfl) (by simp only [List.all_cons, List.all_nil, Bool.and_true] <;> rfl) (by kernel_rfl) (by simp only [List.foldl_cons, List.foldl_nil, Value.cells, List.setIfInBounds_toArray, List.set_cons_succ, List.set_cons_zero] <;> rfl)) ?_
    refine W_v rfl rfl (V_mov rfl (es rfl l8_10)) ?_
    refine W_stAS 0 hS7 rfl hc3 rfl rfl rfl (es rfl (es rfl l6_10)) (es rfl (et rfl)) (by first | (rw [List.all_toArray] <;> rfl) | (simp only [List.all_toArray, List.all_cons, List.all_nil] <;> rfl)) (by rfl) (by kernel_rfl) (fun w13 c13 hc13 hS13 => ?_)
    replace hS13 : St w NoX [c13, c2] w13 := hS13
    refine W_v rfl rfl (V_asg rfl (et rfl)) ?_
    refine W_end ?_
    refine gen_Q (fun A14 hA14 => ?_)
    have hsz14 := szq hA14
    have hdf14 : A14.defers = [] := by rw [hA14]; simp only [df_put]; exact hdf10
    have l6_14 := lookE hA14 6 (e2 rfl (es rfl l6_10))
    have l7_14 := lookE hA14 7 (et rfl)
    clear hA14 hsz10 hdf10 l1_10 l3_10 l6_10 l8_10 l17_10
    have hS15 : St w NoX [c13] w13 := hS13.sel [0] (by decide) rfl
    refine then_n (hK12 _ _ ?_)
    clear hK12
    refine wp_ret ?_
    refine then_ret ?_
    refine ret_in (results_2 Try.results51 (rv_cellA l6_14 (hS15.obj 0 rfl hc13) Try.underlying25 rfl (by kernel_rfl)) (rv_tmp l7_14)) hdf14 ?_
    -- leaf T
    obtain ⟨c16, hc16, hS16⟩ := hS15.pnil (s := 2)
    replace hc16 : c16 = ro 2 obC (.slice none 0 0) ([] : List Ob) := hc16
    obtain ⟨c17, cb17, hc17, hcb17, hS17⟩ := gen2 (nst_nils hS16)
    replace hS17 : St w NoX [c17, cb17, c16, c13] w13 := hS17
    obtain ⟨c18, hc18, hS18⟩ := hS17.pnil (s := 1)
    have h := cl_ck  hcd
    rw [h.1, h.2.1]
    exact ⟨_, ([] : List Ob), _, rfl, rfl, (hS18.fin4 3 rfl (hc16) 1 rfl (hc17) 2 rfl (hcb17) 0 rfl (hc18.trans (by rw [h.2.2] <;> rfl)) (by decide))⟩
  · skip
    have hcd : ckd (O.map ab) rs ns = 0 := by simpa using c11
    rw [hns] at hcd
    have hG := (ckd_0.1 hcd).1
    have ho4 := hG.o4
    have hr8 := hG.r8
    rw [List.length_map] at ho4
    have hrg0 : ∀ p ∈ rs, 0 ≤ p ∧ p ≤ (O.length : Int) := fun p hp => by have q := hG.reg p hp; rw [List.length_map] at q; exact q
    have ha := (ckd_0.1 hcd).2 a (by simp)
    refine wp_skip ?_
    refine then_n (hK5 _ _ ?_)
    clear hK5
    refine wp_seq_k (fun K19 hK19 => ?_)
    refine region_in ?_
    refine W_v rfl rfl (V_fa (off' := 1) rfl l3_10 Try.underlying25 rfl (by decide +kernel) rfl) ?_
    refine W_r rfl rfl (VR_ldC rfl (et rfl) (cell_box (v := rv) (hS7.obj 1 rfl hc2) rfl) Try.underlying23 rfl) ?_
    refine W_call rfl rfl rfl Try.func67 (by kernel_rfl) rfl (args1 (et rfl)) (kcl_c (hS7.roC h_rv) (by first | omega | with_reducible assumption)) ?_
    rintro _ w20 ⟨v_20, rfl, hP20⟩
    refine ⟨_, rfl, ?_⟩
    obtain ⟨c_20, hc_20, hP20⟩ := gen1 hP20
    have hS20 := hS7.join hP20
    replace hS20 : St w NoX [c_20, c3, c2] w20 := hS20
    refine W_v rfl rfl (V_bldS (n := 2) (z := .agg #[.slice none 0 0, .slice none 0 0]) rfl (parts1 (et rfl)) (by kernel_rfl) (by simp only [List.all_cons, List.all_nil, SlN_one (ow_at (hS20.chq 0 rfl hc_20)), Bool.and_true] <;> rfl) (by kernel_rfl) (by simp only [List.foldl_cons, List.foldl_nil, Value.cells, List.setIfInBounds_toArray, List.set_cons_succ, List.set_cons_zero] <;> rfl)) ?_
    refine W_allocS (z := .agg #[.slice none 0 0, .slice none 0 0]) (zs := #[.slice none 0 0, .slice none 0 0]) hS20 rfl rfl rfl (by kernel_rfl) (by rfl) (fun g21 w21 c21 hc21 hS21 => ?_)
    replace hS21 : St w NoX [c21, c_20, c3, c2] w21 := hS21
    refine W_stAS 0 hS21 rfl hc21 rfl rfl rfl (et rfl) (es rfl (et rfl)) (by simp only [List.all_toArray, List.all_cons, List.all_nil, obC, SlN_one (ow_at (hS21.chq 1 rfl hc_20))] <;> rfl) (by rfl) (by kernel_rfl) (fun w22 c22 hc22 hS22 => ?_)
    replace hS22 : St w NoX [c22, c_20, c3, c2] w22 := hS22
    refine W_end ?_
    refine gen_Q (fun A23 hA23 => ?_)
    have hsz23 := szq hA23
    have hdf23 : A23.defers = [] := by rw [hA23]; simp only [df_put]; exact hdf10
    have l1_23 := lookE hA23 1 (e4 rfl (es rfl l1_10))
    have l3_23 := lookE hA23 3 (e4 rfl (es rfl l3_10))
    have l6_23 := lookE hA23 6 (e4 rfl (es rfl l6_10))
    have l9_23 := lookE hA23 9 (et rfl)
    clear hA23 hsz10 hdf10 l1_10 l3_10 l6_10 l8_10 l17_10
    refine then_n (hK19 _ _ ?_)
    clear hK19
    refine wp_seq_k (fun K24 hK24 => ?_)
    refine wp_seq_k (fun K25 hK25 => ?_)
    refine region_in ?_
    refine W_v rfl rfl (V_fa (off' := 0) rfl l3_23 Try.underlying25 rfl (by decide +kernel) rfl) ?_
    refine W_r rfl rfl (VR_ldC rfl (et rfl) (cell_box (v := ov) (hS22.obj 3 rfl hc2) rfl) Try.underlying22 rfl) ?_
    refine W_v rfl rfl (V_lenS rfl (et rfl) (sl_SlN h_ov.at) Try.underlying22) ?_
    refine W_v rfl rfl (V_mov rfl rfl) ?_
    refine W_end ?_
    refine gen_Q (fun A26 hA26 => ?_)
    have hsz26 := szq hA26
    have hdf26 : A26.defers = [] := by rw [hA26]; simp only [df_put]; exact hdf23
    have l1_26 := lookE hA26 1 (e3 rfl (es rfl l1_23))
    have l6_26 := lookE hA26 6 (e3 rfl (es rfl l6_23))
    have l9_26 := lookE hA26 9 (e3 rfl (es rfl l9_23))
    have l25_26 := lookE hA26 25 (e2 rfl (et rfl))
    have l26_26 := lookE hA26 26 (es rfl (et rfl))
    have l27_26 := lookE hA26 27 (et rfl)
    clear hA26 hsz23 hdf23 l1_23 l3_23 l6_23 l9_23
    have hS27 : St w NoX [c22, c_20, c3] w22 := hS22.sel [0, 1, 2] (by decide) rfl
    refine then_n (hK25 _ _ ?_)
    clear hK25
    refine wp_block ?_
    obtain ⟨c28, hc28, hS28⟩ := hS27.pnil (s := 2)
    replace hc28 : c28 = ro 2 obC (.slice none 0 0) ([] : List Ob) := hc28
    obtain ⟨c29, cb29, hc29, hcb29, hS29⟩ := gen2 (nst_nils hS28)
    replace hS29 : St w NoX [c29, cb29, c28, c22, c_20, c3] w22 := hS29
    -- loop 6
    refine loopX (fun mz A' w' => SzN A' 51 ∧ A'.defers = [] ∧ (∃ (k : Nat) (hv : Value) (H : List Ob), (mz = O.length - k) ∧ (k ≤ O.length) ∧ (H.map ab = (O.map ab).take k) ∧ (EV A' (.tmp 27) = .int .i64 (k : Int)) ∧ (EV A' (.tmp 1) = EV A26 (.tmp 1)) ∧ (EV A' (.tmp 6) = EV A26 (.tmp 6)) ∧ (EV A' (.tmp 9) = EV A26 (.tmp 9)) ∧ (EV A' (.tmp 25) = EV A26 (.tmp 25)) ∧ (EV A' (.tmp 26) = EV A26 (.tmp 26)) ∧ (St w NoX [owl .i64 (H.map (·.1)), owl .u64 (H.map (·.2)), ro 2 obC hv H, bx g21 25 #[hv, v_20], io .i64 v_20 rs, bx g3 25 #[.slice none 0 0, .slice none 0 0]] w'))) (O.length - 0) ⟨hsz26, hdf26, 0, (.slice none 0 0), [], rfl, (by omega), rfl, ((l27_26).trans (by first | rfl | (simp; done) | (congr 1; omega))), rfl, rfl, rfl, rfl, rfl, (by subst hc29 hcb29 hc28 hc22 hc_20 hc3; exact hS29)⟩ ?_
    clear hS29 hc29 hcb29 hc28 hc22 hc_20 hc3
    rintro n30 A30 w30 ⟨hsz30, hdf30, k, hv, H, hm30, hk, hH, l27_30, u1_30, u6_30, u9_30, u25_30, u26_30, hS30⟩
    have l1_30 := u1_30.trans l1_26
    have l6_30 := u6_30.trans l6_26
    have l9_30 := u9_30.trans l9_26
    have l25_30 := u25_30.trans l25_26
    have l26_30 := u26_30.trans l26_26
    obtain ⟨c29_30, cb29_30, c28_30, c22_30, c_30, c3_30, hc29_30, hcb29_30, hc28_30, hc22_30, hc_30, hc3_30, hS30⟩ := gen6 hS30
    refine wp_seq_k (fun K31 hK31 => ?_)
    refine region_in ?_
    refine W_v rfl rfl (V_lss rfl l27_30 l26_30) ?_
    refine W_end ?_
    refine gen_Q (fun A32 hA32 => ?_)
    have hsz32 := szq hA32
    have hdf32 : A32.defers = [] := by rw [hA32]; simp only [df_put]; exact hdf30
    have l1_32 := lookE hA32 1 (es rfl l1_30)
    have l6_32 := lookE hA32 6 (es rfl l6_30)
    have l9_32 := lookE hA32 9 (es rfl l9_30)
    have l25_32 := lookE hA32 25 (es rfl l25_30)
    have l26_32 := lookE hA32 26 (es rfl l26_30)
    have l27_32 := lookE hA32 27 (es rfl l27_30)
    have l28_32 := lookE hA32 28 (et rfl)
    clear hA32 hsz30 hdf30 l27_30 l1_30 l6_30 l9_30 l25_30 l26_30
    refine then_n (hK31 _ _ ?_)
    clear hK31
    refine wp_seq_k (fun K33 hK33 => ?_)
    refine cond_dec l28_32 (fun c34 => ?_) (fun c34 => ?_)
    · skip
      have hHl := mp_len hH hk
      refine wp_skip ?_
      refine then_n (hK33 _ _ ?_)
      clear hK33
      refine wp_seq_k (fun K35 hK35 => ?_)
      refine wp_block ?_
      refine wp_seq_k (fun K36 hK36 => ?_)
      refine region_in ?_
      have k37 : k < O.length := by first | omega | (simp only [List.length_cons, List.length_nil]; omega) | (simp only [List.length_set]; omega)
      obtain ⟨y37, hy37⟩ := get_some (xs := O) (k := k) k37
      have hsy := hsm.at hy37
      obtain ⟨B37, O37, C37, hv37⟩ := (SlN.blk (sl_SlN h_ov.at) (by first | omega | (simp only [List.length_cons, List.length_nil]; omega) | (simp only [List.length_set]; omega)))
      refine W_v rfl rfl (V_ixS (off := O37 + k * 2) 2 (k) rfl l25_32 l27_32 hv37 (by omega) k37 Try.underlying22 (by kernel_rfl) rfl) ?_
      have fn38 : Ro w NoX (il .i64 y37.1.1 y37.1.2) := nst_ro1 n_ov hy37
      have bfn38 := SlN.le (sl_SlN (hS30.ro fn38))
      have fn39 : Ro w NoX (il .u64 y37.2.1 y37.2.2) := nst_ro2 n_ov hy37
      have bfn39 := SlN.le (sl_SlN (hS30.ro fn39))
      refine W_r rfl rfl (VR_ldR (ys := obC y37) rfl (et rfl) (SlN.row obC_len (sl_SlN (hS30.ro h_ov)) hv37 hy37 rfl) Try.underlying40 rfl (by kernel_rfl)) ?_
      refine W_allocS (z := .agg #[.slice none 0 0, .slice none 0 0]) (zs := #[.slice none 0 0, .slice none 0 0]) hS30 rfl rfl rfl (by kernel_rfl) (by rfl) (fun g40 w40 c40 hc40 hS40 => ?_)
      replace hS40 : St w NoX [c40, c29_30, cb29_30, c28_30, c22_30, c_30, c3_30] w40 := hS40
      refine W_stAS 0 hS40 rfl hc40 rfl rfl rfl (et rfl) (es rfl (et rfl)) (by simp only [List.all_toArray, List.all_cons, List.all_nil, obC, SlN_one (sl_SlN fn38.at), SlN_one (sl_SlN fn39.at)] <;> rfl) (by rfl) (by kernel_rfl) (fun w41 c41 hc41 hS41 => ?_)
      replace hS41 : St w NoX [c41, c29_30, cb29_30, c28_30, c22_30, c_30, c3_30] w41 := hS41
      refine W_end ?_
      refine gen_Q (fun A42 hA42 => ?_)
      have hsz42 := szq hA42
      have hdf42 : A42.defers = [] := by rw [hA42]; simp only [df_put]; exact hdf32
      have l1_42 := lookE hA42 1 (e2 rfl (es rfl l1_32))
      have l6_42 := lookE hA42 6 (e2 rfl (es rfl l6_32))
      have l9_42 := lookE hA42 9 (e2 rfl (es rfl l9_32))
      have l11_42 := lookE hA42 11 (et rfl)
      have l25_42 := lookE hA42 25 (e2 rfl (es rfl l25_32))
      have l26_42 := lookE hA42 26 (e2 rfl (es rfl l26_32))
      have l27_42 := lookE hA42 27 (e2 rfl (es rfl l27_32))
      clear hA42 hsz32 hdf32 l1_32 l6_32 l9_32 l25_32 l26_32 l27_32 l28_32
      refine then_n (hK36 _ _ ?_)
      clear hK36
      refine region_monoS 10 11 [none, none, none, none, some (SPv [] (fun _ => fun u l' => ∃ v_s, u = v_s ∧ ∃ c_s, c_s = io .i64 (v_s) y37.1.2 ∧ l' = [c_s]) 4), none, none, some (SPv [] (fun _ => fun u l' => ∃ v_s, u = v_s ∧ ∃ c_s, c_s = io .u64 (v_s) y37.2.2 ∧ l' = [c_s]) 7), none, some (SPv [35, 38] (fun vs => fun u l' => ∃ g_, u = .slice (some ⟨g_, 0, none⟩) 1 1 ∧ ∃ c_, c_ = ro 2 obC (.slice (some ⟨g_, 0, none⟩) 1 1) [(((vs.getD 0 undef), y37.1.2), ((vs.getD 1 undef), y37.2.2))] ∧ l' = [c_]) 9)] (by kernel_rfl) (by kernel_rfl) ?_
      refine D_v rfl rfl (V_fa (off' := 0) rfl l9_42 Try.underlying25 rfl (by decide +kernel) rfl) rfl rfl ?_
      refine D_r rfl rfl (by kernel_rfl) (fun sx hx hF => (VR_ldC rfl (et rfl) (cell_box (v := hv) ((hS41.grow hx).obj 4 rfl hc22_30) rfl) Try.underlying22 rfl)) rfl rfl ?_
      refine D_v rfl rfl (V_fa (off' := 0) rfl (es rfl (es rfl l11_42)) Try.underlying40 rfl (by decide +kernel) rfl) rfl rfl ?_
      refine D_r rfl rfl (by kernel_rfl) (fun sx hx hF => (VR_ldC rfl (et rfl) (cell_box (v := y37.1.1) ((hS41.grow hx).obj 0 rfl hc41) rfl) Try.underlying23 rfl)) rfl rfl ?_
      refine D_call (ts := []) (vs := []) (C0 := fun _ => fun u l' => ∃ v_s, u = v_s ∧ ∃ c_s, c_s = io .i64 (v_s) y37.1.2 ∧ l' = [c_s]) (C := fun u l' => ∃ v_s, u = v_s ∧ ∃ c_s, c_s = io .i64 (v_s) y37.1.2 ∧ l' = [c_s]) rfl rfl rfl Try.func67 (by kernel_rfl) rfl (args1 (et rfl)) rfl rfl rfl rfl (fun sx hx hF => ?_) (fun u43 l43 hu43 => ?_)
      · refine (kcl_c ((hS41.grow hx).roC fn38) (by first | omega | with_reducible assumption)).mono ?_
        rintro _ _ ⟨v_43, rfl, hz⟩
        exact ⟨_, rfl, _, ⟨_, rfl, _, rfl, rfl⟩, hz⟩
      obtain ⟨v_43, rfl, c_43, hc_43, hl43⟩ := hu43
      refine D_v rfl rfl (V_fa (off' := 1) rfl (e4 rfl (es rfl l11_42)) Try.underlying40 rfl (by decide +kernel) rfl) rfl rfl ?_
      refine D_r rfl rfl (by kernel_rfl) (fun sx hx hF => (VR_ldC rfl (et rfl) (cell_box (v := y37.2.1) ((hS41.grow hx).obj 0 rfl hc41) rfl) Try.underlying38 rfl)) rfl rfl ?_
      refine D_call (ts := []) (vs := []) (C0 := fun _ => fun u l' => ∃ v_s, u = v_s ∧ ∃ c_s, c_s = io .u64 (v_s) y37.2.2 ∧ l' = [c_s]) (C := fun u l' => ∃ v_s, u = v_s ∧ ∃ c_s, c_s = io .u64 (v_s) y37.2.2 ∧ l' = [c_s]) rfl rfl rfl Try.func68 (by kernel_rfl) rfl (args1 (et rfl)) rfl rfl rfl rfl (fun sx hx hF => ?_) (fun u44 l44 hu44 => ?_)
      · refine (kcu_c ((hS41.grow hx).roC fn39) (by first | omega | with_reducible assumption)).mono ?_
        rintro _ _ ⟨v_44, rfl, hz⟩
        exact ⟨_, rfl, _, ⟨_, rfl, _, rfl, rfl⟩, hz⟩
      obtain ⟨v_44, rfl, c_44, hc_44, hl44⟩ := hu44
      refine D_r rfl rfl (by kernel_rfl) (fun sx hx hF => by obtain ⟨ll43, ws43, we43, ⟨v_43q, hq43, c_43_, hc_43_, hl43_⟩, hm43, k43, e43⟩ := L.ancF_get (L.ancF_rest hF) (by kernel_rfl); cases hq43; subst hl43_; obtain ⟨ll44, ws44, we44, ⟨v_44q, hq44, c_44_, hc_44_, hl44_⟩, hm44, k44, e44⟩ := L.ancF_get hF (by kernel_rfl); cases hq44; subst hl44_; exact ((V_bldS (n := 2) (z := .agg #[.slice none 0 0, .slice none 0 0]) rfl (parts2 (e3 rfl (et rfl)) (et rfl)) (by kernel_rfl) (by simp only [List.all_cons, List.all_nil, SlN_one (ow_at ((k43.grow e43).chq 0 rfl hc_43_)), SlN_one (ow_at ((k44.grow e44).chq 0 rfl hc_44_)), Bool.and_true] <;> rfl) (by kernel_rfl) (by simp only [List.foldl_cons, List.foldl_nil, Value.cells, List.setIfInBounds_toArray, List.set_cons_succ, List.set_cons_zero] <;> rfl) : Val _ _ _ _) _)) rfl rfl ?_
      have hll45 : [((u43, y37.1.2), (u44, y37.2.2))].length = 1 := rfl
      refine D_lay (ts := [35, 38]) (vs := [u43, u44]) (C0 := fun vs => fun u l' => ∃ g_, u = .slice (some ⟨g_, 0, none⟩) 1 1 ∧ ∃ c_, c_ = ro 2 obC (.slice (some ⟨g_, 0, none⟩) 1 1) [(((vs.getD 0 undef), y37.1.2), ((vs.getD 1 undef), y37.2.2))] ∧ l' = [c_]) (C := fun u l' => ∃ g_, u = .slice (some ⟨g_, 0, none⟩) 1 1 ∧ ∃ c_, c_ = ro 2 obC (.slice (some ⟨g_, 0, none⟩) 1 1) [((u43, y37.1.2), (u44, y37.2.2))] ∧ l' = [c_]) rfl rfl rfl rfl (ts2 (e4 rfl (et rfl)) (es rfl (et rfl))) rfl (fun sx hx hF => lay_lit (vs := [.agg #[u43, u44]]) 2 rfl (parts1 (et rfl)) rfl Try.underlying22 (by kernel_rfl) (by decide) (by intro v hv; simp only [List.mem_cons, List.not_mem_nil, or_false] at hv; rcases hv with rfl <;> rfl) (by rfl)) (fun u45 l45 hu45 => ?_)
      obtain ⟨g45, rfl, c45, hc45, hl45⟩ := hu45
      refine D_eff rfl ?_
      refine ZS_eff hS41 rfl rfl (fun s46 hJ46 hL46 hF46 => ?_)
      obtain ⟨ll43, ws43, we43, ⟨v_43q, hq43, c_43r, hc_43r, hl43r⟩, hm43, k43, e43⟩ := L.all_get (L.all_rest (L.all_rest hF46)); cases hq43; subst hl43r
      replace hJ46 := hJ46.add hL46 (i := 4) rfl hm43 k43 e43
      obtain ⟨ll44, ws44, we44, ⟨v_44q, hq44, c_44r, hc_44r, hl44r⟩, hm44, k44, e44⟩ := L.all_get (L.all_rest hF46); cases hq44; subst hl44r
      replace hJ46 := hJ46.add hL46 (i := 7) rfl hm44 k44 e44
      obtain ⟨ll45, ws45, we45, ⟨g45q, hq45, c45r, hc45r, hl45r⟩, hm45, k45, e45⟩ := L.all_get hF46; cases hq45; subst hl45r
      replace hJ46 := hJ46.add hL46 (i := 9) rfl hm45 k45 e45
      have hS46 := hJ46.st; clear hF46 hJ46 hL46
      generalize s46.1 = w46 at *
      replace hS46 : St w NoX [c45r, c_44r, c_43r, c41, c29_30, cb29_30, c28_30, c22_30, c_30, c3_30] w46 := hS46
      refine W_appS 2 6 hS46 rfl hc28_30 rfl rfl rfl (e8 rfl (et rfl)) (et rfl) Try.underlying22 Try.underlying22 (z := .agg #[.slice none 0 0, .slice none 0 0]) (bytes := 48) (by kernel_rfl) rfl (by decide) (ow_at (hS46.chq 0 rfl hc45r)) (by intro u hu; simp only [List.flatMap_cons, List.flatMap_nil, obC, List.append_nil, List.cons_append, List.nil_append, List.mem_cons, List.not_mem_nil, or_false] at hu; rcases hu with rfl | rfl <;> first | exact SlN_one (ow_at (hS46.chq 2 rfl hc_43r)) | exact SlN_one (ow_at (hS46.chq 1 rfl hc_44r))) (by first | omega | (simp; done) | (simp; omega)) (by first | omega | (simp; done) | (simp; omega)) (fun v47 w47 c47 hc47 hS47 => ?_)
      replace hc47 : c47 = ro 2 obC v47 (H ++ [((u43, y37.1.2), (u44, y37.2.2))]) := hc47.trans (app_eqR (by simp))
      replace hS47 : St w NoX [c45r, c_44r, c_43r, c41, c29_30, cb29_30, c47, c22_30, c_30, c3_30] w47 := hS47
      have hS48 := hS47.sel [2, 4, 1, 5, 0, 3, 6, 7, 8, 9] (by decide) (l' := [c_43r, c29_30, c_44r, cb29_30, c45r, c41, c47, c22_30, c_30, c3_30]) rfl
      replace hS48 : St w NoX [c_43r, c29_30, c_44r, cb29_30, c45r, c41, c47, c22_30, c_30, c3_30] w47 := hS48
      rw [hc_43r, hc29_30, hc_44r, hcb29_30] at hS48
      obtain ⟨c49, cb49, hc49, hcb49, hS49⟩ := gen2 (nst_push (pv := u43) (ps := y37.1.2) (qv := u44) (qs := y37.2.2) (O := H) hS48)
      replace hS49 : St w NoX [c49, cb49, c45r, c41, c47, c22_30, c_30, c3_30] w47 := hS49
      replace hc49 : c49 = owl .i64 ((H ++ [((u43, y37.1.2), (u44, y37.2.2))]).map (·.1)) := hc49
      replace hcb49 : cb49 = owl .u64 ((H ++ [((u43, y37.1.2), (u44, y37.2.2))]).map (·.2)) := hcb49
      refine W_v rfl rfl (V_fa (off' := 0) rfl (e10 rfl (es rfl l9_42)) Try.underlying25 rfl (by decide +kernel) rfl) ?_
      refine W_stCS (zs' := #[v47, v_20]) 5 hS49 rfl hc22_30 rfl rfl rfl (et rfl) (es rfl (et rfl)) (SlN_one (ow_at (hS49.chq 4 rfl hc47))) (by rfl) (by kernel_rfl) (by first | rfl | (simp only [List.setIfInBounds_toArray, List.set_cons_succ, List.set_cons_zero] <;> rfl)) (fun w50 c50 hc50 hS50 => ?_)
      replace hS50 : St w NoX [c49, cb49, c45r, c41, c47, c50, c_30, c3_30] w50 := hS50
      refine W_end ?_
      refine Qo_normal ?_
      refine gen_Q (fun A51 hA51 => ?_)
      have hsz51 := szq hA51
      have hdf51 : A51.defers = [] := by rw [hA51]; simp only [df_put]; exact hdf42
      have l1_51 := lookE hA51 1 (e11 rfl (es rfl l1_42))
      have l6_51 := lookE hA51 6 (e11 rfl (es rfl l6_42))
      have l9_51 := lookE hA51 9 (e11 rfl (es rfl l9_42))
      have l25_51 := lookE hA51 25 (e11 rfl (es rfl l25_42))
      have l26_51 := lookE hA51 26 (e11 rfl (es rfl l26_42))
      have l27_51 := lookE hA51 27 (e11 rfl (es rfl l27_42))
      clear hA51 hsz42 hdf42 l1_42 l6_42 l9_42 l11_42 l25_42 l26_42 l27_42
      have hS52 : St w NoX [c49, cb49, c47, c50, c_30, c3_30] w50 := hS50.sel [0, 1, 4, 5, 6, 7] (by decide) rfl
      refine inb_n ?_
      refine then_n (hK35 _ _ ?_)
      clear hK35
      refine region_in ?_
      refine W_v rfl rfl (V_add rfl l27_51 rfl (by omega) (by omega)) ?_
      refine W_v rfl rfl (V_mov rfl (et rfl)) ?_
      refine W_end ?_
      refine gen_Q (fun A53 hA53 => ?_)
      have hsz53 := szq hA53
      have hdf53 : A53.defers = [] := by rw [hA53]; simp only [df_put]; exact hdf51
      have l1_53 := lookE hA53 1 (es rfl (es rfl l1_51))
      have l6_53 := lookE hA53 6 (es rfl (es rfl l6_51))
      have l9_53 := lookE hA53 9 (es rfl (es rfl l9_51))
      have l25_53 := lookE hA53 25 (es rfl (es rfl l25_51))
      have l26_53 := lookE hA53 26 (es rfl (es rfl l26_51))
      have l27_53 := lookE hA53 27 (et rfl)
      clear hA53 hsz51 hdf51 l1_51 l6_51 l9_51 l25_51 l26_51 l27_51
      refine then_n ⟨O.length - (k + 1), by simp only [hm30]; omega, hsz53, hdf53, (k + 1), v47, (H ++ [((u43, y37.1.2), (u44, y37.2.2))]), rfl, (by omega), (mp_snoc hH hy37 rfl), ((l27_53).trans (by first | rfl | (simp; done) | (congr 1; omega))), ((l1_53).trans l1_26.symm), ((l6_53).trans l6_26.symm), ((l9_53).trans l9_26.symm), ((l25_53).trans l25_26.symm), ((l26_53).trans l26_26.symm), (by subst hc49 hcb49 hc47 hc50 hc_30 hc3_30; exact hS52)⟩
    · skip
      have hHO := mp_done hH (by omega)
      have hHl := mp_lenE hHO
      rw [List.length_map] at hHl
      have hrg : ∀ p ∈ rs, 0 ≤ p ∧ p ≤ (H.length : Int) := fun p hp => by rw [hHl]; exact hrg0 p hp
      refine wp_exit ?_
      refine then_exit ?_
      refine then_exit ?_
      refine inb_hit ?_
      refine then_n (hK24 _ _ ?_)
      clear hK24
      refine wp_seq_k (fun K54 hK54 => ?_)
      refine wp_seq_k (fun K55 hK55 => ?_)
      refine region_in ?_
      refine W_v rfl rfl (V_mov rfl l1_32) ?_
      have hS56 := hS30.sel [3, 2, 0, 1, 4, 5] (by decide) (l' := [c22_30, c28_30, c29_30, cb29_30, c_30, c3_30]) rfl
      replace hS56 : St w NoX [c22_30, c28_30, c29_30, cb29_30, c_30, c3_30] w30 := hS56
      obtain ⟨Y57, hP57, hR57, hF57, hB57⟩ := St.call (pre := [c22_30, c28_30, c29_30, cb29_30, c_30]) (fr := [c3_30]) hS56
      rw [hc22_30, hc28_30, hc29_30, hcb29_30, hc_30] at hP57
      refine W_callV rfl rfl rfl (et rfl) Try.func52 (by kernel_rfl) rfl (args1 (es rfl l9_32)) (kCl1_c (a := a) (ga := ga) (hR57 _ hb_a) hP57 (by first | omega | with_reducible assumption)) ?_
      rintro _ w58 ⟨hv_58, H_58, qv_58, rfl, hH_58, hP58⟩
      refine ⟨_, rfl, ?_⟩
      obtain ⟨cB_58, cR_58, cP_58, cQ_58, cG_58, hcB_58, hcR_58, hcP_58, hcQ_58, hcG_58, hP58⟩ := gen5 hP58
      have hS58 := hB57 _ _ hP58
      replace hS58 : St w NoX [cB_58, cR_58, cP_58, cQ_58, cG_58, c3_30] w58 := hS58
      refine W_v rfl rfl (V_asg rfl (et rfl)) ?_
      refine W_end ?_
      refine gen_Q (fun A59 hA59 => ?_)
      have hsz59 := szq hA59
      have hdf59 : A59.defers = [] := by rw [hA59]; simp only [df_put]; exact hdf32
      have l6_59 := lookE hA59 6 (e2 rfl (es rfl l6_32))
      have l9_59 := lookE hA59 9 (e2 rfl (es rfl l9_32))
      have l12_59 := lookE hA59 12 (et rfl)
      clear hA59 hsz32 hdf32 l1_32 l6_32 l9_32 l25_32 l26_32 l27_32 l28_32
      refine then_n (hK55 _ _ ?_)
      clear hK55
      refine wp_seq_k (fun K60 hK60 => ?_)
      refine region_in ?_
      refine W_v rfl rfl (V_mov rfl l12_59) ?_
      refine W_v rfl rfl (V_neq rfl (et rfl) rfl) ?_
      refine W_end ?_
      refine gen_Q (fun A61 hA61 => ?_)
      have hsz61 := szq hA61
      have hdf61 : A61.defers = [] := by rw [hA61]; simp only [df_put]; exact hdf59
      have l6_61 := lookE hA61 6 (es rfl (es rfl l6_59))
      have l9_61 := lookE hA61 9 (es rfl (es rfl l9_59))
      have l12_61 := lookE hA61 12 (es rfl (es rfl l12_59))
      have l47_61 := lookE hA61 47 (et rfl)
      clear hA61 hsz59 hdf59 l6_59 l9_59 l12_59
      refine then_n (hK60 _ _ ?_)
      clear hK60
      refine cond_not l47_61 (by decide) ?_
      refine wp_skip ?_
      refine then_n (hK54 _ _ ?_)
      clear hK54
      refine wp_seq_k (fun K62 hK62 => ?_)
      refine region_in ?_
      refine W_r rfl rfl (VR_ldA rfl l9_61 (hS58.obj 0 rfl hcB_58) Try.underlying25 rfl (by kernel_rfl)) ?_
      refine W_stAS 5 hS58 rfl hc3_30 rfl rfl rfl (es rfl l6_61) (et rfl) (by simp only [List.all_toArray, List.all_cons, List.all_nil, obC, SlN_one (ow_at (hS58.chq 1 rfl hcR_58)), SlN_one (ow_at (hS58.chq 4 rfl hcG_58))] <;> rfl) (by rfl) (by kernel_rfl) (fun w63 c63 hc63 hS63 => ?_)
      replace hS63 : St w NoX [cB_58, cR_58, cP_58, cQ_58, cG_58, c63] w63 := hS63
      refine W_v rfl rfl (V_asg rfl rfl) ?_
      refine W_end ?_
      refine gen_Q (fun A64 hA64 => ?_)
      have hsz64 := szq hA64
      have hdf64 : A64.defers = [] := by rw [hA64]; simp only [df_put]; exact hdf61
      have l6_64 := lookE hA64 6 (es rfl (es rfl l6_61))
      have l7_64 := lookE hA64 7 (et rfl)
      clear hA64 hsz61 hdf61 l6_61 l9_61 l12_61 l47_61
      have hS65 : St w NoX [cR_58, cP_58, cQ_58, cG_58, c63] w63 := hS63.sel [1, 2, 3, 4, 5] (by decide) rfl
      refine then_n (hK62 _ _ ?_)
      clear hK62
      refine wp_ret ?_
      refine ret_in (results_2 Try.results51 (rv_cellA l6_64 (hS65.obj 4 rfl hc63) Try.underlying25 rfl (by kernel_rfl)) (rv_tmp l7_64)) hdf64 ?_
      -- leaf FF
      rw [hHO] at hH_58
      have h := (cl_in  hcd).2 (by first | rfl | simpa using c34)
      rw [h.1, h.2.1]
      exact ⟨_, H_58, _, rfl, hH_58, (hS65.fin4 0 rfl (hcR_58) 1 rfl (hcP_58) 2 rfl (hcQ_58) 3 rfl (hcG_58.trans (by (try rw [hHO]); rw [h.2.2] <;> rfl)) (by decide))⟩

end Go.Proofs.Ytdilbnmaihmgnaa