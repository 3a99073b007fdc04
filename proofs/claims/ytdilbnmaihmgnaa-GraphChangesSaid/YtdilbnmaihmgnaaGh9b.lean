import Derived.Test.YtdilbnmaihmgnaaProg
import Derived.Test.YtdilbnmaihmgnaaGh9
namespace Go.Proofs.Ytdilbnmaihmgnaa
open Go.RowKit Go.Own Go.Own.R Go.Own.G Go.Own.Gr


set_option maxHeartbeats 4000000 in
theorem qStore_c {ov : Value} {O : List Ob} {rv : Value} {rs : List Int} {a : Int} {f : Int} {b : Int} {w : World} (h_ov : Ro w NoX (rl 2 obC ov O)) (n_ov : Ro w NoX (nst O)) (h_rv : Ro w NoX (il .i64 rv rs)) (hsm : SM (O.map ab)) :
    Calls Try.prog 39 #[.agg #[ov, rv], .int .i64 a, .int .i64 f, .int .i64 b] w fun e w' => ∃ hv H qv, e = .returned (.tuple #[.agg #[hv, qv], .int .i64 (ptE (O.map ab) rs [a, b] a f)]) ∧ (H.map ab = (soO (O.map ab) rs a f b)) ∧ St w NoX [ro 2 obC hv H, owl .i64 (H.map (·.1)), owl .u64 (H.map (·.2)), io .i64 (qv) (soR (O.map ab) rs a f b)] w' := by
  refine calls_in 64 Try.func39 rfl rfl (by simp) (fun A0 hsz0 hdf0 hargs => ?_)
  have l0_0 := hargs 0 (.agg #[ov, rv]) rfl
  have l1_0 := hargs 1 (.int .i64 a) rfl
  have l2_0 := hargs 2 (.int .i64 f) rfl
  have l3_0 := hargs 3 (.int .i64 b) rfl
  clear hargs; replace hsz0 : SzN A0 64 := ⟨hsz0⟩
  have hS := St.nil w
  have bh_ov := SlN.le (sl_SlN h_ov.at)
  have bh_rv := SlN.le (sl_SlN h_rv.at)
  refine wp_seq_k (fun K1 hK1 => ?_)
  refine region_in ?_
  refine W_boxS (zs := #[ov, rv]) hS rfl rfl rfl l0_0 (by rfl) (fun g2 w2 c2 hc2 hS2 => ?_)
  replace hS2 : St w NoX [c2] w2 := hS2
  refine W_allocS (z := .agg #[.slice none 0 0, .slice none 0 0]) (zs := #[.slice none 0 0, .slice none 0 0]) hS2 rfl rfl rfl (by kernel_rfl) (by rfl) (fun g3 w3 c3 hc3 hS3 => ?_)
  replace hS3 : St w NoX [c3, c2] w3 := hS3
  refine W_v rfl rfl (V_asg rfl rfl) ?_
  refine W_end ?_
  refine gen_Q (fun A4 hA4 => ?_)
  have hsz4 := szq hA4
  have hdf4 : A4.defers = [] := by rw [hA4]; simp only [df_put]; exact hdf0
  have l1_4 := lookE hA4 1 (e2 rfl (es rfl l1_0))
  have l2_4 := lookE hA4 2 (e2 rfl (es rfl l2_0))
  have l3_4 := lookE hA4 3 (e2 rfl (es rfl l3_0))
  have l4_4 := lookE hA4 4 (e2 rfl (et rfl))
  have l8_4 := lookE hA4 8 (es rfl (et rfl))
  clear hA4 hsz0 hdf0 l0_0 l1_0 l2_0 l3_0
  refine then_n (hK1 _ _ ?_)
  clear hK1
  refine wp_seq_k (fun K5 hK5 => ?_)
  refine region_in ?_
  refine W_r rfl rfl (VR_ldA rfl l4_4 (hS3.obj 1 rfl hc2) Try.underlying25 rfl (by kernel_rfl)) ?_
  refine W_v rfl rfl (V_mov rfl (es rfl l1_4)) ?_
  refine W_v rfl rfl (V_mov rfl (es rfl (es rfl l3_4))) ?_
  have hll6 : [a, b].length = 2 := rfl
  refine W_litS (vs := [.int .i64 (a), .int .i64 (b)]) (xs := ([a, b].map (Value.int .i64))) 1 hS3 rfl rfl rfl (parts2 (es rfl (et rfl)) (et rfl)) rfl Try.underlying23 (by kernel_rfl) (by decide) (by intro v hv; simp only [List.mem_cons, List.not_mem_nil, or_false] at hv; rcases hv with rfl | rfl <;> rfl) (by rfl) (fun g6 w6 c6 hc6 hS6 => ?_)
  replace hc6 : c6 = io .i64 (.slice (some ⟨g6, 0, none⟩) 2 2) [a, b] := hc6
  replace hS6 : St w NoX [c6, c3, c2] w6 := hS6
  refine W_call rfl rfl rfl Try.func59 (by kernel_rfl) rfl (args2 (e3 rfl (et rfl)) (et rfl)) (qcd_c (hS6.roC h_ov) (hS6.roC n_ov) (hS6.roC h_rv) (hS6.chC 0 rfl hc6).own ) ?_
  rintro _ w7 ⟨rfl, hP7⟩
  refine ⟨_, rfl, ?_⟩
  have hS7 := hS6.join hP7
  replace hS7 : St w NoX [c6, c3, c2] w7 := hS7
  refine W_v rfl rfl (V_asg rfl (et rfl)) ?_
  refine W_end ?_
  refine gen_Q (fun A8 hA8 => ?_)
  have hsz8 := szq hA8
  have hdf8 : A8.defers = [] := by rw [hA8]; simp only [df_put]; exact hdf4
  have l1_8 := lookE hA8 1 (e5 rfl (es rfl l1_4))
  have l2_8 := lookE hA8 2 (e5 rfl (es rfl l2_4))
  have l3_8 := lookE hA8 3 (e5 rfl (es rfl l3_4))
  have l4_8 := lookE hA8 4 (e5 rfl (es rfl l4_4))
  have l8_8 := lookE hA8 8 (e5 rfl (es rfl l8_4))
  have l10_8 := lookE hA8 10 (et rfl)
  clear hA8 hsz4 hdf4 l1_4 l2_4 l3_4 l4_4 l8_4
  have hS9 : St w NoX [c3, c2] w7 := hS7.sel [1, 2] (by decide) rfl
  refine then_n (hK5 _ _ ?_)
  clear hK5
  refine wp_seq_k (fun K10 hK10 => ?_)
  refine wp_seq_k (fun K11 hK11 => ?_)
  refine region_in ?_
  refine W_v rfl rfl (V_mov rfl l10_8) ?_
  refine W_v rfl rfl (V_neq rfl (et rfl) rfl) ?_
  refine W_end ?_
  refine gen_Q (fun A12 hA12 => ?_)
  have hsz12 := szq hA12
  have hdf12 : A12.defers = [] := by rw [hA12]; simp only [df_put]; exact hdf8
  have l1_12 := lookE hA12 1 (es rfl (es rfl l1_8))
  have l2_12 := lookE hA12 2 (es rfl (es rfl l2_8))
  have l3_12 := lookE hA12 3 (es rfl (es rfl l3_8))
  have l4_12 := lookE hA12 4 (es rfl (es rfl l4_8))
  have l8_12 := lookE hA12 8 (es rfl (es rfl l8_8))
  have l10_12 := lookE hA12 10 (es rfl (es rfl l10_8))
  have l20_12 := lookE hA12 20 (et rfl)
  clear hA12 hsz8 hdf8 l1_8 l2_8 l3_8 l4_8 l8_8 l10_8
  refine then_n (hK11 _ _ ?_)
  clear hK11
  refine cond_dec l20_12 (fun c13 => ?_) (fun c13 => ?_)
  · skip
    refine wp_seq_k (fun K14 hK14 => ?_)
    refine region_in ?_
    refine W_v rfl rfl (V_bldS (n := 2) (z := .agg #[.slice none 0 0, .slice none 0 0]) rfl (parts0) (by kernel_rfl) (by simp only [List.all_cons, List.all_nil, Bool.and_true] <;> rfl) (by kernel_rfl) (by simp only [List.foldl_cons, List.foldl_nil, Value.cells, List.setIfInBounds_toArray, List.set_cons_succ, List.set_cons_zero] <;> rfl)) ?_
    refine W_v rfl rfl (V_mov rfl (es rfl l10_12)) ?_
    refine W_stAS 0 hS9 rfl hc3 rfl rfl rfl (es rfl (es rfl l8_12)) (es rfl (et rfl)) (by first | (rw [List.all_toArray] <;> rfl) | (simp only [List.all_toArray, List.all_cons, List.all_nil] <;> rfl)) (by rfl) (by kernel_rfl) (fun w15 c15 hc15 hS15 => ?_)
    replace hS15 : St w NoX [c15, c2] w15 := hS15
    refine W_v rfl rfl (V_asg rfl (et rfl)) ?_
    refine W_end ?_
    refine gen_Q (fun A16 hA16 => ?_)
    have hsz16 := szq hA16
    have hdf16 : A16.defers = [] := by rw [hA16]; simp only [df_put]; exact hdf12
    have l8_16 := lookE hA16 8 (e2 rfl (es rfl l8_12))
    have l9_16 := lookE hA16 9 (et rfl)
    clear hA16 hsz12 hdf12 l1_12 l2_12 l3_12 l4_12 l8_12 l10_12 l20_12
    have hS17 : St w NoX [c15] w15 := hS15.sel [0] (by decide) rfl
    refine then_n (hK14 _ _ ?_)
    clear hK14
    refine wp_ret ?_
    refine then_ret ?_
    refine ret_in (results_2 Try.results39 (rv_cellA l8_16 (hS17.obj 0 rfl hc15) Try.underlying25 rfl (by kernel_rfl)) (rv_tmp l9_16)) hdf16 ?_
    -- leaf T
    obtain ⟨c18, hc18, hS18⟩ := hS17.pnil (s := 2)
    replace hc18 : c18 = ro 2 obC (.slice none 0 0) ([] : List Ob) := hc18
    obtain ⟨c19, cb19, hc19, hcb19, hS19⟩ := gen2 (nst_nils hS18)
    replace hS19 : St w NoX [c19, cb19, c18, c15] w15 := hS19
    obtain ⟨c20, hc20, hS20⟩ := hS19.pnil (s := 1)
    obtain ⟨c21, hc21, hS21⟩ := hS20.pnil (s := 2)
    replace hc21 : c21 = ro 2 obC (.slice none 0 0) ([] : List Ob) := hc21
    obtain ⟨c22, cb22, hc22, hcb22, hS22⟩ := gen2 (nst_nils hS21)
    replace hS22 : St w NoX [c22, cb22, c21, c20, c19, cb19, c18, c15] w15 := hS22
    obtain ⟨c23, hc23, hS23⟩ := hS22.pnil (s := 1)
    have h := so_ck (f := f) c13
    rw [h.1, h.2.1]
    exact ⟨_, ([] : List Ob), _, rfl, rfl, (hS23.fin4 3 rfl (hc21) 1 rfl (hc22) 2 rfl (hcb22) 0 rfl (hc23.trans (by rw [h.2.2] <;> rfl)) (by decide))⟩
  · skip
    have hcd : ckd (O.map ab) rs [a, b] = 0 := by simpa using c13
    have hG0 := (ckd_0.1 hcd).1
    have hG := hG0
    have hrg : ∀ p ∈ rs, 0 ≤ p ∧ p ≤ (O.length : Int) := fun p hp => by have q := hG0.reg p hp; rw [List.length_map] at q; exact q
    have ha := (ckd_0.1 hcd).2 a (by simp)
    have hb := (ckd_0.1 hcd).2 b (by simp)
    refine wp_skip ?_
    refine then_n (hK10 _ _ ?_)
    clear hK10
    refine wp_seq_k (fun K24 hK24 => ?_)
    refine region_in ?_
    refine W_r rfl rfl (VR_ldA rfl l4_12 (hS9.obj 1 rfl hc2) Try.underlying25 rfl (by kernel_rfl)) ?_
    refine W_v rfl rfl (V_mov rfl (es rfl l1_12)) ?_
    refine W_call rfl rfl rfl Try.func60 (by kernel_rfl) rfl (args2 (es rfl (et rfl)) (et rfl)) (qob_c (a := a) (hS9.roC h_ov) (hS9.roC n_ov) (hS9.roC h_rv) (by first | with_reducible assumption | (have q := hG.reg; simpa using q)) (by first | omega | with_reducible assumption)) ?_
    rintro _ w25 (⟨rfl, hz_25, hP25⟩ | ⟨y_25, rfl, hy_25, hz_25, hP25⟩)
    · refine ⟨_, rfl, ?_⟩
      have hS25 := hS9.join hP25
      replace hS25 : St w NoX [c3, c2] w25 := hS25
      refine W_v rfl rfl (V_mov rfl (et rfl)) ?_
      refine W_v rfl rfl (V_ext (v := .agg #[.slice none 0 0, .slice none 0 0]) rfl (et rfl) rfl) ?_
      refine W_v rfl rfl (V_ext (v := .bool false) rfl (es rfl (et rfl)) rfl) ?_
      refine W_allocS (z := .agg #[.slice none 0 0, .slice none 0 0]) (zs := #[.slice none 0 0, .slice none 0 0]) hS25 rfl rfl rfl (by kernel_rfl) (by rfl) (fun g26 w26 c26 hc26 hS26 => ?_)
      replace hS26 : St w NoX [c26, c3, c2] w26 := hS26
      refine W_stAS 0 hS26 rfl hc26 rfl rfl rfl (et rfl) (e2 rfl (et rfl)) (by first | (rw [List.all_toArray] <;> rfl) | (simp only [List.all_toArray, List.all_cons, List.all_nil] <;> rfl)) (by rfl) (by kernel_rfl) (fun w27 c27 hc27 hS27 => ?_)
      replace hS27 : St w NoX [c27, c3, c2] w27 := hS27
      refine W_v rfl rfl (V_asg rfl (es rfl (et rfl))) ?_
      refine W_end ?_
      refine gen_Q (fun A28 hA28 => ?_)
      have hsz28 := szq hA28
      have hdf28 : A28.defers = [] := by rw [hA28]; simp only [df_put]; exact hdf12
      have l1_28 := lookE hA28 1 (e7 rfl (es rfl l1_12))
      have l2_28 := lookE hA28 2 (e7 rfl (es rfl l2_12))
      have l3_28 := lookE hA28 3 (e7 rfl (es rfl l3_12))
      have l4_28 := lookE hA28 4 (e7 rfl (es rfl l4_12))
      have l8_28 := lookE hA28 8 (e7 rfl (es rfl l8_12))
      have l11_28 := lookE hA28 11 (es rfl (et rfl))
      have l12_28 := lookE hA28 12 (et rfl)
      clear hA28 hsz12 hdf12 l1_12 l2_12 l3_12 l4_12 l8_12 l10_12 l20_12
      refine then_n (hK24 _ _ ?_)
      clear hK24
      refine wp_seq_k (fun K29 hK29 => ?_)
      refine wp_seq_k (fun K30 hK30 => ?_)
      refine region_in ?_
      refine W_v rfl rfl (V_mov rfl l12_28) ?_
      refine W_v rfl rfl (V_notF rfl (et rfl)) ?_
      refine W_v rfl rfl (V_mov rfl (et rfl)) ?_
      refine W_off rfl (wanted_f rfl rfl (et rfl) (ez rfl) rfl) ?_
      refine W_off rfl (wanted_f rfl rfl (es rfl (et rfl)) (ez rfl) rfl) ?_
      refine W_v rfl rfl (V_pickT rfl (e2 rfl (et rfl)) rfl) ?_
      refine W_v rfl rfl (V_mov rfl (et rfl)) ?_
      refine W_off rfl (wanted_f rfl rfl (et rfl) (ez rfl) rfl) ?_
      refine W_off rfl (wanted_f rfl rfl (es rfl (et rfl)) (ez rfl) rfl) ?_
      refine W_off rfl (wanted_f rfl rfl (e2 rfl (et rfl)) (ez rfl) rfl) ?_
      refine W_off rfl (wanted_f rfl rfl (e3 rfl (et rfl)) (ez rfl) rfl) ?_
      refine W_off rfl (wanted_f rfl rfl (e4 rfl (et rfl)) (ez rfl) rfl) ?_
      refine W_v rfl rfl (V_pickT rfl (e5 rfl (et rfl)) rfl) ?_
      refine W_end ?_
      refine gen_Q (fun A31 hA31 => ?_)
      have hsz31 := szq hA31
      have hdf31 : A31.defers = [] := by rw [hA31]; simp only [df_put]; exact hdf28
      have l1_31 := lookE hA31 1 (e12 rfl (es rfl l1_28))
      have l2_31 := lookE hA31 2 (e12 rfl (es rfl l2_28))
      have l3_31 := lookE hA31 3 (e12 rfl (es rfl l3_28))
      have l4_31 := lookE hA31 4 (e12 rfl (es rfl l4_28))
      have l8_31 := lookE hA31 8 (e12 rfl (es rfl l8_28))
      have l41_31 := lookE hA31 41 (et rfl)
      clear hA31 hsz28 hdf28 l1_28 l2_28 l3_28 l4_28 l8_28 l11_28 l12_28
      have hS32 : St w NoX [c3, c2] w27 := hS27.sel [1, 2] (by decide) rfl
      refine then_n (hK30 _ _ ?_)
      clear hK30
      refine cond_t l41_31 ?_
      refine wp_seq_k (fun K33 hK33 => ?_)
      refine region_in ?_
      refine W_v rfl rfl (V_bldS (n := 2) (z := .agg #[.slice none 0 0, .slice none 0 0]) rfl (parts0) (by kernel_rfl) (by simp only [List.all_cons, List.all_nil, Bool.and_true] <;> rfl) (by kernel_rfl) (by simp only [List.foldl_cons, List.foldl_nil, Value.cells, List.setIfInBounds_toArray, List.set_cons_succ, List.set_cons_zero] <;> rfl)) ?_
      refine W_stAS 0 hS32 rfl hc3 rfl rfl rfl (es rfl l8_31) (et rfl) (by first | (rw [List.all_toArray] <;> rfl) | (simp only [List.all_toArray, List.all_cons, List.all_nil] <;> rfl)) (by rfl) (by kernel_rfl) (fun w34 c34 hc34 hS34 => ?_)
      replace hS34 : St w NoX [c34, c2] w34 := hS34
      refine W_v rfl rfl (V_asg rfl rfl) ?_
      refine W_end ?_
      refine gen_Q (fun A35 hA35 => ?_)
      have hsz35 := szq hA35
      have hdf35 : A35.defers = [] := by rw [hA35]; simp only [df_put]; exact hdf31
      have l8_35 := lookE hA35 8 (es rfl (es rfl l8_31))
      have l9_35 := lookE hA35 9 (et rfl)
      clear hA35 hsz31 hdf31 l1_31 l2_31 l3_31 l4_31 l8_31 l41_31
      have hS36 : St w NoX [c34] w34 := hS34.sel [0] (by decide) rfl
      refine then_n (hK33 _ _ ?_)
      clear hK33
      refine wp_ret ?_
      refine then_ret ?_
      refine ret_in (results_2 Try.results39 (rv_cellA l8_35 (hS36.obj 0 rfl hc34) Try.underlying25 rfl (by kernel_rfl)) (rv_tmp l9_35)) hdf35 ?_
      -- leaf Fn
      obtain ⟨c37, hc37, hS37⟩ := hS36.pnil (s := 2)
      replace hc37 : c37 = ro 2 obC (.slice none 0 0) ([] : List Ob) := hc37
      obtain ⟨c38, cb38, hc38, hcb38, hS38⟩ := gen2 (nst_nils hS37)
      replace hS38 : St w NoX [c38, cb38, c37, c34] w34 := hS38
      obtain ⟨c39, hc39, hS39⟩ := hS38.pnil (s := 1)
      have hE := pt_no (a := a) (f := f) hcd (.inl hz_25)
      have h := so_e (by rw [hE]; decide)
      rw [hE, h.1]
      exact ⟨_, ([] : List Ob), _, rfl, rfl, (hS39.fin4 3 rfl (hc37) 1 rfl (hc38) 2 rfl (hcb38) 0 rfl (hc39.trans (by rw [h.2] <;> rfl)) (by decide))⟩
    · refine ⟨_, rfl, ?_⟩
      have hS25 := hS9.join hP25
      replace hS25 : St w NoX [c3, c2] w25 := hS25
      have fn40 : Ro w NoX (il .i64 y_25.1.1 y_25.1.2) := nst_ro1 n_ov hy_25
      have bfn40 := SlN.le (sl_SlN (hS25.ro fn40))
      have fn41 : Ro w NoX (il .u64 y_25.2.1 y_25.2.2) := nst_ro2 n_ov hy_25
      have bfn41 := SlN.le (sl_SlN (hS25.ro fn41))
      refine W_v rfl rfl (V_mov rfl (et rfl)) ?_
      refine W_v rfl rfl (V_ext (v := .agg #[y_25.1.1, y_25.2.1]) rfl (et rfl) rfl) ?_
      refine W_v rfl rfl (V_ext (v := .bool true) rfl (es rfl (et rfl)) rfl) ?_
      refine W_allocS (z := .agg #[.slice none 0 0, .slice none 0 0]) (zs := #[.slice none 0 0, .slice none 0 0]) hS25 rfl rfl rfl (by kernel_rfl) (by rfl) (fun g42 w42 c42 hc42 hS42 => ?_)
      replace hS42 : St w NoX [c42, c3, c2] w42 := hS42
      refine W_stAS 0 hS42 rfl hc42 rfl rfl rfl (et rfl) (e2 rfl (et rfl)) (by simp only [List.all_toArray, List.all_cons, List.all_nil, obC, SlN_one (sl_SlN fn40.at), SlN_one (sl_SlN fn41.at)] <;> rfl) (by rfl) (by kernel_rfl) (fun w43 c43 hc43 hS43 => ?_)
      replace hS43 : St w NoX [c43, c3, c2] w43 := hS43
      refine W_v rfl rfl (V_asg rfl (es rfl (et rfl))) ?_
      refine W_end ?_
      refine gen_Q (fun A44 hA44 => ?_)
      have hsz44 := szq hA44
      have hdf44 : A44.defers = [] := by rw [hA44]; simp only [df_put]; exact hdf12
      have l1_44 := lookE hA44 1 (e7 rfl (es rfl l1_12))
      have l2_44 := lookE hA44 2 (e7 rfl (es rfl l2_12))
      have l3_44 := lookE hA44 3 (e7 rfl (es rfl l3_12))
      have l4_44 := lookE hA44 4 (e7 rfl (es rfl l4_12))
      have l8_44 := lookE hA44 8 (e7 rfl (es rfl l8_12))
      have l11_44 := lookE hA44 11 (es rfl (et rfl))
      have l12_44 := lookE hA44 12 (et rfl)
      clear hA44 hsz12 hdf12 l1_12 l2_12 l3_12 l4_12 l8_12 l10_12 l20_12
      refine then_n (hK24 _ _ ?_)
      clear hK24
      refine wp_seq_k (fun K45 hK45 => ?_)
      refine wp_seq_k (fun K46 hK46 => ?_)
      refine region_in ?_
      refine W_v rfl rfl (V_mov rfl l12_44) ?_
      refine W_v rfl rfl (V_notT rfl (et rfl)) ?_
      refine W_v rfl rfl (V_mov rfl (et rfl)) ?_
      refine W_v rfl (wanted_t rfl rfl (et rfl) (ez rfl)) (V_mov rfl (e2 rfl (es rfl l2_44))) ?_
      refine W_v rfl (wanted_t rfl rfl (es rfl (et rfl)) (ez rfl)) (V_lss rfl (et rfl) rfl) ?_
      refine W_v rfl rfl (V_pickF rfl (e2 rfl (et rfl)) (et rfl)) ?_
      refine W_split rfl rfl (V_mov rfl (et rfl)) (fun c47 => ?_) (fun c47 => ?_)
      · skip
        refine W_off rfl (wanted_f rfl rfl (et rfl) (ez rfl) rfl) ?_
        refine W_off rfl (wanted_f rfl rfl (es rfl (et rfl)) (ez rfl) rfl) ?_
        refine W_off rfl (wanted_f rfl rfl (e2 rfl (et rfl)) (ez rfl) rfl) ?_
        refine W_off rfl (wanted_f rfl rfl (e3 rfl (et rfl)) (ez rfl) rfl) ?_
        refine W_off rfl (wanted_f rfl rfl (e4 rfl (et rfl)) (ez rfl) rfl) ?_
        refine W_v rfl rfl (V_pickT rfl (e5 rfl (et rfl)) rfl) ?_
        refine W_end ?_
        refine gen_Q (fun A48 hA48 => ?_)
        have hsz48 := szq hA48
        have hdf48 : A48.defers = [] := by rw [hA48]; simp only [df_put]; exact hdf44
        have l1_48 := lookE hA48 1 (e12 rfl (es rfl l1_44))
        have l2_48 := lookE hA48 2 (e12 rfl (es rfl l2_44))
        have l3_48 := lookE hA48 3 (e12 rfl (es rfl l3_44))
        have l4_48 := lookE hA48 4 (e12 rfl (es rfl l4_44))
        have l8_48 := lookE hA48 8 (e12 rfl (es rfl l8_44))
        have l41_48 := lookE hA48 41 (et rfl)
        clear hA48 hsz44 hdf44 l1_44 l2_44 l3_44 l4_44 l8_44 l11_44 l12_44
        have hS49 : St w NoX [c3, c2] w43 := hS43.sel [1, 2] (by decide) rfl
        refine then_n (hK46 _ _ ?_)
        clear hK46
        refine cond_t l41_48 ?_
        refine wp_seq_k (fun K50 hK50 => ?_)
        refine region_in ?_
        refine W_v rfl rfl (V_bldS (n := 2) (z := .agg #[.slice none 0 0, .slice none 0 0]) rfl (parts0) (by kernel_rfl) (by simp only [List.all_cons, List.all_nil, Bool.and_true] <;> rfl) (by kernel_rfl) (by simp only [List.foldl_cons, List.foldl_nil, Value.cells, List.setIfInBounds_toArray, List.set_cons_succ, List.set_cons_zero] <;> rfl)) ?_
        refine W_stAS 0 hS49 rfl hc3 rfl rfl rfl (es rfl l8_48) (et rfl) (by first | (rw [List.all_toArray] <;> rfl) | (simp only [List.all_toArray, List.all_cons, List.all_nil] <;> rfl)) (by rfl) (by kernel_rfl) (fun w51 c51 hc51 hS51 => ?_)
        replace hS51 : St w NoX [c51, c2] w51 := hS51
        refine W_v rfl rfl (V_asg rfl rfl) ?_
        refine W_end ?_
        refine gen_Q (fun A52 hA52 => ?_)
        have hsz52 := szq hA52
        have hdf52 : A52.defers = [] := by rw [hA52]; simp only [df_put]; exact hdf48
        have l8_52 := lookE hA52 8 (es rfl (es rfl l8_48))
        have l9_52 := lookE hA52 9 (et rfl)
        clear hA52 hsz48 hdf48 l1_48 l2_48 l3_48 l4_48 l8_48 l41_48
        have hS53 : St w NoX [c51] w51 := hS51.sel [0] (by decide) rfl
        refine then_n (hK50 _ _ ?_)
        clear hK50
        refine wp_ret ?_
        refine then_ret ?_
        refine ret_in (results_2 Try.results39 (rv_cellA l8_52 (hS53.obj 0 rfl hc51) Try.underlying25 rfl (by kernel_rfl)) (rv_tmp l9_52)) hdf52 ?_
        -- leaf FsT
        obtain ⟨c54, hc54, hS54⟩ := hS53.pnil (s := 2)
        replace hc54 : c54 = ro 2 obC (.slice none 0 0) ([] : List Ob) := hc54
        obtain ⟨c55, cb55, hc55, hcb55, hS55⟩ := gen2 (nst_nils hS54)
        replace hS55 : St w NoX [c55, cb55, c54, c51] w51 := hS55
        obtain ⟨c56, hc56, hS56⟩ := hS55.pnil (s := 1)
        have hE := pt_no (a := a) (f := f) hcd (.inr (.inl (by omega)))
        have h := so_e (by rw [hE]; decide)
        rw [hE, h.1]
        exact ⟨_, ([] : List Ob), _, rfl, rfl, (hS56.fin4 3 rfl (hc54) 1 rfl (hc55) 2 rfl (hcb55) 0 rfl (hc56.trans (by rw [h.2] <;> rfl)) (by decide))⟩
      · skip
        refine W_v rfl (wanted_t rfl rfl (et rfl) (ez rfl)) (V_mov rfl (e6 rfl (es rfl l2_44))) ?_
        refine W_v rfl (wanted_t rfl rfl (es rfl (et rfl)) (ez rfl)) (V_fa (off' := 0) rfl (e7 rfl (es rfl l11_44)) Try.underlying40 rfl (by decide +kernel) rfl) ?_
        refine W_r rfl (wanted_t rfl rfl (e2 rfl (et rfl)) (ez rfl)) (VR_ldC rfl (et rfl) (cell_box (v := y_25.1.1) (hS43.obj 0 rfl hc43) rfl) Try.underlying23 rfl) ?_
        refine W_v rfl (wanted_t rfl rfl (e3 rfl (et rfl)) (ez rfl)) (V_lenS rfl (et rfl) (sl_SlN fn40.at) Try.underlying23) ?_
        refine W_v rfl (wanted_t rfl rfl (e4 rfl (et rfl)) (ez rfl)) (V_geq rfl (e3 rfl (et rfl)) (et rfl)) ?_
        refine W_v rfl rfl (V_pickF rfl (e5 rfl (et rfl)) (et rfl)) ?_
        refine W_end ?_
        refine gen_Q (fun A57 hA57 => ?_)
        have hsz57 := szq hA57
        have hdf57 : A57.defers = [] := by rw [hA57]; simp only [df_put]; exact hdf44
        have l1_57 := lookE hA57 1 (e12 rfl (es rfl l1_44))
        have l2_57 := lookE hA57 2 (e12 rfl (es rfl l2_44))
        have l3_57 := lookE hA57 3 (e12 rfl (es rfl l3_44))
        have l4_57 := lookE hA57 4 (e12 rfl (es rfl l4_44))
        have l8_57 := lookE hA57 8 (e12 rfl (es rfl l8_44))
        have l41_57 := lookE hA57 41 (et rfl)
        clear hA57 hsz44 hdf44 l1_44 l2_44 l3_44 l4_44 l8_44 l11_44 l12_44
        have hS58 : St w NoX [c3, c2] w43 := hS43.sel [1, 2] (by decide) rfl
        refine then_n (hK46 _ _ ?_)
        clear hK46
        refine cond_dec l41_57 (fun c59 => ?_) (fun c59 => ?_)
        · skip
          refine wp_seq_k (fun K60 hK60 => ?_)
          refine region_in ?_
          refine W_v rfl rfl (V_bldS (n := 2) (z := .agg #[.slice none 0 0, .slice none 0 0]) rfl (parts0) (by kernel_rfl) (by simp only [List.all_cons, List.all_nil, Bool.and_true] <;> rfl) (by kernel_rfl) (by simp only [List.foldl_cons, List.foldl_nil, Value.cells, List.setIfInBounds_toArray, List.set_cons_succ, List.set_cons_zero] <;> rfl)) ?_
          refine W_stAS 0 hS58 rfl hc3 rfl rfl rfl (es rfl l8_57) (et rfl) (by first | (rw [List.all_toArray] <;> rfl) | (simp only [List.all_toArray, List.all_cons, List.all_nil] <;> rfl)) (by rfl) (by kernel_rfl) (fun w61 c61 hc61 hS61 => ?_)
          replace hS61 : St w NoX [c61, c2] w61 := hS61
          refine W_v rfl rfl (V_asg rfl rfl) ?_
          refine W_end ?_
          refine gen_Q (fun A62 hA62 => ?_)
          have hsz62 := szq hA62
          have hdf62 : A62.defers = [] := by rw [hA62]; simp only [df_put]; exact hdf57
          have l8_62 := lookE hA62 8 (es rfl (es rfl l8_57))
          have l9_62 := lookE hA62 9 (et rfl)
          clear hA62 hsz57 hdf57 l1_57 l2_57 l3_57 l4_57 l8_57 l41_57
          have hS63 : St w NoX [c61] w61 := hS61.sel [0] (by decide) rfl
          refine then_n (hK60 _ _ ?_)
          clear hK60
          refine wp_ret ?_
          refine then_ret ?_
          refine ret_in (results_2 Try.results39 (rv_cellA l8_62 (hS63.obj 0 rfl hc61) Try.underlying25 rfl (by kernel_rfl)) (rv_tmp l9_62)) hdf62 ?_
          -- leaf FsFT
          obtain ⟨c64, hc64, hS64⟩ := hS63.pnil (s := 2)
          replace hc64 : c64 = ro 2 obC (.slice none 0 0) ([] : List Ob) := hc64
          obtain ⟨c65, cb65, hc65, hcb65, hS65⟩ := gen2 (nst_nils hS64)
          replace hS65 : St w NoX [c65, cb65, c64, c61] w61 := hS65
          obtain ⟨c66, hc66, hS66⟩ := hS65.pnil (s := 1)
          have hE := pt_no (a := a) (f := f) hcd (.inr (.inr (by rw [ob_at hy_25]; simp only [ab]; omega)))
          have h := so_e (by rw [hE]; decide)
          rw [hE, h.1]
          exact ⟨_, ([] : List Ob), _, rfl, rfl, (hS66.fin4 3 rfl (hc64) 1 rfl (hc65) 2 rfl (hcb65) 0 rfl (hc66.trans (by rw [h.2] <;> rfl)) (by decide))⟩
        · skip
          refine wp_skip ?_
          refine then_n (hK45 _ _ ?_)
          clear hK45
          refine wp_seq_k (fun K67 hK67 => ?_)
          refine region_in ?_
          refine W_r rfl rfl (VR_ldA rfl l4_57 (hS58.obj 1 rfl hc2) Try.underlying25 rfl (by kernel_rfl)) ?_
          refine W_call rfl rfl rfl Try.func35 (by kernel_rfl) rfl (args1 (et rfl)) (qCn_c (hS58.roC h_ov) (hS58.roC n_ov) (hS58.roC h_rv) (by first | with_reducible assumption) (by first | omega | (have q := hG.r8; omega)) (by first | omega | (have q := hG.o4; rw [List.length_map] at q; omega))) ?_
          rintro _ w68 ⟨hv_68, H_68, qv_68, rfl, hH_68, hP68⟩
          refine ⟨_, rfl, ?_⟩
          obtain ⟨cR_68, cP_68, cQ_68, cG_68, hcR_68, hcP_68, hcQ_68, hcG_68, hP68⟩ := gen4 hP68
          have hS68 := hS58.join hP68
          replace hS68 : St w NoX [cR_68, cP_68, cQ_68, cG_68, c3, c2] w68 := hS68
          have hHl := mp_lenE hH_68
          rw [List.length_map] at hHl
          have hHo := hG.o4
          rw [List.length_map] at hHo
          refine W_allocS (z := .agg #[.slice none 0 0, .slice none 0 0]) (zs := #[.slice none 0 0, .slice none 0 0]) hS68 rfl rfl rfl (by kernel_rfl) (by rfl) (fun g69 w69 c69 hc69 hS69 => ?_)
          replace hS69 : St w NoX [c69, cR_68, cP_68, cQ_68, cG_68, c3, c2] w69 := hS69
          refine W_stAS 0 hS69 rfl hc69 rfl rfl rfl (et rfl) (es rfl (et rfl)) (by simp only [List.all_toArray, List.all_cons, List.all_nil, obC, SlN_one (ow_at (hS69.chq 1 rfl hcR_68)), SlN_one (ow_at (hS69.chq 4 rfl hcG_68))] <;> rfl) (by rfl) (by kernel_rfl) (fun w70 c70 hc70 hS70 => ?_)
          replace hS70 : St w NoX [c70, cR_68, cP_68, cQ_68, cG_68, c3, c2] w70 := hS70
          refine W_end ?_
          refine gen_Q (fun A71 hA71 => ?_)
          have hsz71 := szq hA71
          have hdf71 : A71.defers = [] := by rw [hA71]; simp only [df_put]; exact hdf57
          have l1_71 := lookE hA71 1 (e2 rfl (es rfl l1_57))
          have l2_71 := lookE hA71 2 (e2 rfl (es rfl l2_57))
          have l3_71 := lookE hA71 3 (e2 rfl (es rfl l3_57))
          have l4_71 := lookE hA71 4 (e2 rfl (es rfl l4_57))
          have l8_71 := lookE hA71 8 (e2 rfl (es rfl l8_57))
          have l13_71 := lookE hA71 13 (et rfl)
          clear hA71 hsz57 hdf57 l1_57 l2_57 l3_57 l4_57 l8_57 l41_57
          refine then_n (hK67 _ _ ?_)
          clear hK67
          refine wp_seq_k (fun K72 hK72 => ?_)
          refine region_monoS 18 19 [] (by kernel_rfl) (by kernel_rfl) ?_
          refine D_v rfl rfl (V_fa (off' := 0) rfl l13_71 Try.underlying25 rfl (by decide +kernel) rfl) rfl rfl ?_
          refine D_r rfl rfl (by kernel_rfl) (fun sx hx hF => (VR_ldC rfl (et rfl) (cell_box (v := hv_68) ((hS70.grow hx).obj 0 rfl hc70) rfl) Try.underlying22 rfl)) rfl rfl ?_
          refine D_v rfl rfl (V_fa (off' := 1) rfl (es rfl (es rfl l4_71)) Try.underlying25 rfl (by decide +kernel) rfl) rfl rfl ?_
          refine D_r rfl rfl (by kernel_rfl) (fun sx hx hF => (VR_ldC rfl (et rfl) (cell_box (v := rv) ((hS70.grow hx).obj 6 rfl hc2) rfl) Try.underlying23 rfl)) rfl rfl ?_
          refine D_v rfl rfl (V_mov rfl (e3 rfl (es rfl l1_71))) rfl rfl ?_
          have k73 : a.toNat < rs.length := by first | omega | (simp only [List.length_cons, List.length_nil]; omega) | (simp only [List.length_set]; omega)
          obtain ⟨y73, hy73⟩ := get_some (xs := rs) (k := a.toNat) k73
          have hq73 := rg_at hy73
          have hrg73 := hrg y73 (List.mem_of_getElem? hy73)
          obtain ⟨B73, O73, C73, hv73⟩ := (SlN.blk (sl_SlN h_rv.at) (by first | omega | (simp only [List.length_cons, List.length_nil]; omega) | (simp only [List.length_set]; omega)))
          refine D_v rfl rfl (V_ixS (off := O73 + a.toNat) 1 (a.toNat) rfl (es rfl (et rfl)) (et rfl) hv73 (by omega) k73 Try.underlying23 (by kernel_rfl) (congrArg _ (Nat.mul_one _))) rfl rfl ?_
          refine D_r rfl rfl (by kernel_rfl) (fun sx hx hF => (VR_ldC rfl (et rfl) ((sl_SlN ((hS70.grow hx).ro h_rv)).cell hv73 (map_get hy73)) Try.underlying3 rfl)) rfl rfl ?_
          refine D_v rfl rfl (V_sb rfl (et rfl) rfl (by omega) (by omega)) rfl rfl ?_
          have k74 : (rg rs a - 1).toNat < H_68.length := by first | omega | (simp only [List.length_cons, List.length_nil]; omega) | (simp only [List.length_set]; omega)
          obtain ⟨y74, hy74⟩ := get_some (xs := H_68) (k := (rg rs a - 1).toNat) k74
          have hmg74 := mp_get hH_68 hy74 hy_25
          have hml74 := congrArg List.length hmg74.1
          obtain ⟨B74, O74, C74, hv74⟩ := (SlN.blk (ow_at (hS70.chq 1 rfl hcR_68)) (by first | omega | (simp only [List.length_cons, List.length_nil]; omega) | (simp only [List.length_set]; omega)))
          refine D_v rfl rfl (V_ixS (off := O74 + ((rg rs a - 1).toNat) * 2) 2 ((rg rs a - 1).toNat) rfl (e6 rfl (et rfl)) (et rfl) hv74 (by omega) k74 Try.underlying22 (by kernel_rfl) rfl) rfl rfl ?_
          refine D_v rfl rfl (V_fa (off' := O74 + ((rg rs a - 1).toNat) * 2 + 0) rfl (et rfl) Try.underlying40 rfl (by decide +kernel) rfl) rfl rfl ?_
          have bfn75 := SlN.le (sl_SlN (owl_at (mapE (g := (·.1)) hy74) (hS70.chq 2 rfl hcP_68)))
          have bfn76 := SlN.le (sl_SlN (owl_at (mapE (g := (·.2)) hy74) (hS70.chq 3 rfl hcQ_68)))
          refine D_r rfl rfl (by kernel_rfl) (fun sx hx hF => (VR_ldC (v := y74.1.1) rfl (et rfl) (SlN.row obC_len (ow_at ((hS70.grow hx).chq 1 rfl hcR_68)) hv74 hy74 rfl 0 _ rfl) Try.underlying23 rfl)) rfl rfl ?_
          refine D_v rfl rfl (V_mov rfl (e10 rfl (es rfl l2_71))) rfl rfl ?_
          refine D_v rfl rfl (V_fa (off' := 1) rfl (e11 rfl (es rfl l4_71)) Try.underlying25 rfl (by decide +kernel) rfl) rfl rfl ?_
          refine D_r rfl rfl (by kernel_rfl) (fun sx hx hF => (VR_ldC rfl (et rfl) (cell_box (v := rv) ((hS70.grow hx).obj 6 rfl hc2) rfl) Try.underlying23 rfl)) rfl rfl ?_
          refine D_v rfl rfl (V_mov rfl (e13 rfl (es rfl l3_71))) rfl rfl ?_
          have k77 : b.toNat < rs.length := by first | omega | (simp only [List.length_cons, List.length_nil]; omega) | (simp only [List.length_set]; omega)
          obtain ⟨y77, hy77⟩ := get_some (xs := rs) (k := b.toNat) k77
          refine D_v rfl rfl (V_ixS (off := O73 + b.toNat) 1 (b.toNat) rfl (es rfl (et rfl)) (et rfl) hv73 (by omega) k77 Try.underlying23 (by kernel_rfl) (congrArg _ (Nat.mul_one _))) rfl rfl ?_
          refine D_r rfl rfl (by kernel_rfl) (fun sx hx hF => (VR_ldC rfl (et rfl) ((sl_SlN ((hS70.grow hx).ro h_rv)).cell hv73 (map_get hy77)) Try.underlying3 rfl)) rfl rfl ?_
          have k78 : f.toNat < y74.1.2.length := by first | omega | (simp only [List.length_cons, List.length_nil]; omega) | (simp only [List.length_set]; omega)
          obtain ⟨y78, hy78⟩ := get_some (xs := y74.1.2) (k := f.toNat) k78
          obtain ⟨B78, O78, C78, hv78⟩ := (SlN.blk (sl_SlN (owl_at (mapE (g := (·.1)) hy74) (hS70.chq 2 rfl hcP_68))) (by first | omega | (simp only [List.length_cons, List.length_nil]; omega) | (simp only [List.length_set]; omega)))
          refine D_v rfl rfl (V_ixS (off := O78 + f.toNat) 1 (f.toNat) rfl (e6 rfl (et rfl)) (e5 rfl (et rfl)) hv78 (by omega) k78 Try.underlying23 (by kernel_rfl) (congrArg _ (Nat.mul_one _))) rfl rfl ?_
          refine D_eff rfl ?_
          refine ZS_eff hS70 rfl rfl (fun s79 hJ79 hL79 hF79 => ?_)
          have hS79 := hJ79.st; clear hF79 hJ79 hL79
          generalize s79.1 = w79 at *
          replace hS79 : St w NoX [c70, cR_68, cP_68, cQ_68, cG_68, c3, c2] w79 := hS79
          have hS81 := hS79.sel [2, 3, 1, 0, 4, 5, 6] (by decide) (l' := [cP_68, cQ_68, cR_68, c70, cG_68, c3, c2]) rfl
          replace hS81 : St w NoX [cP_68, cQ_68, cR_68, c70, cG_68, c3, c2] w79 := hS81
          refine W_stN1 hS81 hcP_68 hcQ_68 hcR_68 hy74 hv78 rfl rfl rfl (et rfl) (es rfl (et rfl)) rfl (List.getElem?_eq_some_iff.1 hy78).1 (by kernel_rfl) (fun w80 ca80 cb80 c80 hca80 hcb80 hc80 hS80 => ?_)
          replace hS80 : St w NoX [ca80, cb80, c80, c70, cG_68, c3, c2] w80 := hS80
          refine W_end ?_
          refine Qo_normal ?_
          refine gen_Q (fun A82 hA82 => ?_)
          have hsz82 := szq hA82
          have hdf82 : A82.defers = [] := by rw [hA82]; simp only [df_put]; exact hdf71
          have l8_82 := lookE hA82 8 (e17 rfl (es rfl l8_71))
          have l13_82 := lookE hA82 13 (e17 rfl (es rfl l13_71))
          clear hA82 hsz71 hdf71 l1_71 l2_71 l3_71 l4_71 l8_71 l13_71
          have hS83 : St w NoX [ca80, cb80, c80, c70, cG_68, c3] w80 := hS80.sel [0, 1, 2, 3, 4, 5] (by decide) rfl
          refine then_n (hK72 _ _ ?_)
          clear hK72
          refine wp_seq_k (fun K84 hK84 => ?_)
          refine region_in ?_
          refine W_r rfl rfl (VR_ldA rfl l13_82 (hS83.obj 3 rfl hc70) Try.underlying25 rfl (by kernel_rfl)) ?_
          refine W_stAS 5 hS83 rfl hc3 rfl rfl rfl (es rfl l8_82) (et rfl) (by simp only [List.all_toArray, List.all_cons, List.all_nil, obC, SlN_one (ow_at (hS83.chq 2 rfl hc80)), SlN_one (ow_at (hS83.chq 4 rfl hcG_68))] <;> rfl) (by rfl) (by kernel_rfl) (fun w85 c85 hc85 hS85 => ?_)
          replace hS85 : St w NoX [ca80, cb80, c80, c70, cG_68, c85] w85 := hS85
          refine W_v rfl rfl (V_asg rfl rfl) ?_
          refine W_end ?_
          refine gen_Q (fun A86 hA86 => ?_)
          have hsz86 := szq hA86
          have hdf86 : A86.defers = [] := by rw [hA86]; simp only [df_put]; exact hdf82
          have l8_86 := lookE hA86 8 (es rfl (es rfl l8_82))
          have l9_86 := lookE hA86 9 (et rfl)
          clear hA86 hsz82 hdf82 l8_82 l13_82
          have hS87 : St w NoX [ca80, cb80, c80, cG_68, c85] w85 := hS85.sel [0, 1, 2, 4, 5] (by decide) rfl
          refine then_n (hK84 _ _ ?_)
          clear hK84
          refine wp_ret ?_
          refine ret_in (results_2 Try.results39 (rv_cellA l8_86 (hS87.obj 4 rfl hc85) Try.underlying25 rfl (by kernel_rfl)) (rv_tmp l9_86)) hdf86 ?_
          -- leaf FsFF
          have hn : ¬ noP (O.map ab) rs a f := by rintro (q | q | q) <;> first | omega | (rw [ob_at hy_25] at q; simp only [ab] at q; omega)
          have hE := pt_ok (a := a) (f := f) hcd hn
          have h := so_k hE
          rw [hE, h.1]
          exact ⟨_, (H_68.set ((rg rs a - 1).toNat) ((y74.1.1, y74.1.2.set f.toNat y77), y74.2)), _, rfl, by rw [so_map rfl hy74 (rg_at hy77) (by rw [hH_68]; exact hn), hH_68, soI_k hn], (hS87.fin4 2 rfl (hc80) 0 rfl (hca80) 1 rfl (hcb80) 3 rfl (hcG_68.trans (by rw [h.2] <;> rfl)) (by decide))⟩

set_option maxHeartbeats 4000000 in
theorem qWrite_c {ov : Value} {O : List Ob} {rv : Value} {rs : List Int} {a : Int} {f : Int} {x : Int} {w : World} (h_ov : Ro w NoX (rl 2 obC ov O)) (n_ov : Ro w NoX (nst O)) (h_rv : Ro w NoX (il .i64 rv rs)) (hsm : SM (O.map ab)) :
    Calls Try.prog 40 #[.agg #[ov, rv], .int .i64 a, .int .i64 f, .int .u64 x] w fun e w' => ∃ hv H qv, e = .returned (.tuple #[.agg #[hv, qv], .int .i64 (rwE (O.map ab) rs [a] a f)]) ∧ (H.map ab = (wrO (O.map ab) rs a f x)) ∧ St w NoX [ro 2 obC hv H, owl .i64 (H.map (·.1)), owl .u64 (H.map (·.2)), io .i64 (qv) (wrR (O.map ab) rs a f)] w' := by
  refine calls_in 41 Try.func40 rfl rfl (by simp) (fun A0 hsz0 hdf0 hargs => ?_)
  have l0_0 := hargs 0 (.agg #[ov, rv]) rfl
  have l1_0 := hargs 1 (.int .i64 a) rfl
  have l2_0 := hargs 2 (.int .i64 f) rfl
  have l3_0 := hargs 3 (.int .u64 x) rfl
  clear hargs; replace hsz0 : SzN A0 41 := ⟨hsz0⟩
  have hS := St.nil w
  have bh_ov := SlN.le (sl_SlN h_ov.at)
  have bh_rv := SlN.le (sl_SlN h_rv.at)
  refine wp_seq_k (fun K1 hK1 => ?_)
  refine region_in ?_
  refine W_boxS (zs := #[ov, rv]) hS rfl rfl rfl l0_0 (by rfl) (fun g2 w2 c2 hc2 hS2 => ?_)
  replace hS2 : St w NoX [c2] w2 := hS2
  refine W_allocS (z := .agg #[.slice none 0 0, .slice none 0 0]) (zs := #[.slice none 0 0, .slice none 0 0]) hS2 rfl rfl rfl (by kernel_rfl) (by rfl) (fun g3 w3 c3 hc3 hS3 => ?_)
  replace hS3 : St w NoX [c3, c2] w3 := hS3
  refine W_v rfl rfl (V_asg rfl rfl) ?_
  refine W_end ?_
  refine gen_Q (fun A4 hA4 => ?_)
  have hsz4 := szq hA4
  have hdf4 : A4.defers = [] := by rw [hA4]; simp only [df_put]; exact hdf0
  have l1_4 := lookE hA4 1 (e2 rfl (es rfl l1_0))
  have l2_4 := lookE hA4 2 (e2 rfl (es rfl l2_0))
  have l3_4 := lookE hA4 3 (e2 rfl (es rfl l3_0))
  have l4_4 := lookE hA4 4 (e2 rfl (et rfl))
  have l8_4 := lookE hA4 8 (es rfl (et rfl))
  clear hA4 hsz0 hdf0 l0_0 l1_0 l2_0 l3_0
  refine then_n (hK1 _ _ ?_)
  clear hK1
  refine wp_seq_k (fun K5 hK5 => ?_)
  refine region_in ?_
  refine W_r rfl rfl (VR_ldA rfl l4_4 (hS3.obj 1 rfl hc2) Try.underlying25 rfl (by kernel_rfl)) ?_
  refine W_v rfl rfl (V_mov rfl (es rfl l1_4)) ?_
  refine W_v rfl rfl (V_mov rfl (es rfl (es rfl l2_4))) ?_
  refine W_call rfl rfl rfl Try.func30 (by kernel_rfl) rfl (args3 (e2 rfl (et rfl)) (es rfl (et rfl)) (et rfl)) (qRd_c (a := a) (f := f) (hS3.roC h_ov) (hS3.roC n_ov) (hS3.roC h_rv) ) ?_
  rintro _ w6 ⟨rfl, hP6⟩
  refine ⟨_, rfl, ?_⟩
  have hS6 := hS3.join hP6
  replace hS6 : St w NoX [c3, c2] w6 := hS6
  refine W_v rfl rfl (V_mov rfl (et rfl)) ?_
  refine W_v rfl rfl (V_ext (v := .int .u64 ((rdV (O.map ab) rs a f))) rfl (et rfl) rfl) ?_
  refine W_v rfl rfl (V_ext (v := .int .i64 ((rwE (O.map ab) rs [a] a f))) rfl (es rfl (et rfl)) rfl) ?_
  refine W_v rfl rfl (V_asg rfl (es rfl (et rfl))) ?_
  refine W_v rfl rfl (V_asg rfl (es rfl (et rfl))) ?_
  refine W_end ?_
  refine gen_Q (fun A7 hA7 => ?_)
  have hsz7 := szq hA7
  have hdf7 : A7.defers = [] := by rw [hA7]; simp only [df_put]; exact hdf4
  have l1_7 := lookE hA7 1 (e8 rfl (es rfl l1_4))
  have l2_7 := lookE hA7 2 (e8 rfl (es rfl l2_4))
  have l3_7 := lookE hA7 3 (e8 rfl (es rfl l3_4))
  have l4_7 := lookE hA7 4 (e8 rfl (es rfl l4_4))
  have l8_7 := lookE hA7 8 (e8 rfl (es rfl l8_4))
  have l11_7 := lookE hA7 11 (et rfl)
  clear hA7 hsz4 hdf4 l1_4 l2_4 l3_4 l4_4 l8_4
  refine then_n (hK5 _ _ ?_)
  clear hK5
  refine wp_seq_k (fun K8 hK8 => ?_)
  refine wp_seq_k (fun K9 hK9 => ?_)
  refine region_in ?_
  refine W_v rfl rfl (V_mov rfl l11_7) ?_
  refine W_v rfl rfl (V_neq rfl (et rfl) rfl) ?_
  refine W_end ?_
  refine gen_Q (fun A10 hA10 => ?_)
  have hsz10 := szq hA10
  have hdf10 : A10.defers = [] := by rw [hA10]; simp only [df_put]; exact hdf7
  have l1_10 := lookE hA10 1 (es rfl (es rfl l1_7))
  have l2_10 := lookE hA10 2 (es rfl (es rfl l2_7))
  have l3_10 := lookE hA10 3 (es rfl (es rfl l3_7))
  have l4_10 := lookE hA10 4 (es rfl (es rfl l4_7))
  have l8_10 := lookE hA10 8 (es rfl (es rfl l8_7))
  have l11_10 := lookE hA10 11 (es rfl (es rfl l11_7))
  have l21_10 := lookE hA10 21 (et rfl)
  clear hA10 hsz7 hdf7 l1_7 l2_7 l3_7 l4_7 l8_7 l11_7
  refine then_n (hK9 _ _ ?_)
  clear hK9
  refine cond_dec l21_10 (fun c11 => ?_) (fun c11 => ?_)
  · skip
    refine wp_seq_k (fun K12 hK12 => ?_)
    refine region_in ?_
    refine W_v rfl rfl (V_bldS (n := 2) (z := .agg #[.slice none 0 0, .slice none 0 0]) rfl (parts0) (by kernel_rfl) (by simp only [List.all_cons, List.all_nil, Bool.and_true] <;> rfl) (by kernel_rfl) (by simp only [List.foldl_cons, List.foldl_nil, Value.cells, List.setIfInBounds_toArray, List.set_cons_succ, List.set_cons_zero] <;> rfl)) ?_
    refine W_v rfl rfl (V_mov rfl (es rfl l11_10)) ?_
    refine W_stAS 0 hS6 rfl hc3 rfl rfl rfl (es rfl (es rfl l8_10)) (es rfl (et rfl)) (by first | (rw [List.all_toArray] <;> rfl) | (simp only [List.all_toArray, List.all_cons, List.all_nil] <;> rfl)) (by rfl) (by kernel_rfl) (fun w13 c13 hc13 hS13 => ?_)
    replace hS13 : St w NoX [c13, c2] w13 := hS13
    refine W_v rfl rfl (V_asg rfl (et rfl)) ?_
    refine W_end ?_
    refine gen_Q (fun A14 hA14 => ?_)
    have hsz14 := szq hA14
    have hdf14 : A14.defers = [] := by rw [hA14]; simp only [df_put]; exact hdf10
    have l8_14 := lookE hA14 8 (e2 rfl (es rfl l8_10))
    have l9_14 := lookE hA14 9 (et rfl)
    clear hA14 hsz10 hdf10 l1_10 l2_10 l3_10 l4_10 l8_10 l11_10 l21_10
    have hS15 : St w NoX [c13] w13 := hS13.sel [0] (by decide) rfl
    refine then_n (hK12 _ _ ?_)
    clear hK12
    refine wp_ret ?_
    refine then_ret ?_
    refine ret_in (results_2 Try.results40 (rv_cellA l8_14 (hS15.obj 0 rfl hc13) Try.underlying25 rfl (by kernel_rfl)) (rv_tmp l9_14)) hdf14 ?_
    -- leaf T
    obtain ⟨c16, hc16, hS16⟩ := hS15.pnil (s := 2)
    replace hc16 : c16 = ro 2 obC (.slice none 0 0) ([] : List Ob) := hc16
    obtain ⟨c17, cb17, hc17, hcb17, hS17⟩ := gen2 (nst_nils hS16)
    replace hS17 : St w NoX [c17, cb17, c16, c13] w13 := hS17
    obtain ⟨c18, hc18, hS18⟩ := hS17.pnil (s := 1)
    have h := wr_e (x := x) c11
    rw [h.1]
    exact ⟨_, ([] : List Ob), _, rfl, rfl, (hS18.fin4 3 rfl (hc16) 1 rfl (hc17) 2 rfl (hcb17) 0 rfl (hc18.trans (by rw [h.2] <;> rfl)) (by decide))⟩
  · skip
    have hrw : rwE (O.map ab) rs [a] a f = 0 := by simpa using c11
    have hn := (rw_inv hrw).2
    have hz0 : ¬ rg rs a = 0 := fun q => hn (.inl q)
    have hcd := (rw_inv hrw).1
    have hG0 := (ckd_0.1 hcd).1
    have hG := hG0
    have hrg : ∀ p ∈ rs, 0 ≤ p ∧ p ≤ (O.length : Int) := fun p hp => by have q := hG0.reg p hp; rw [List.length_map] at q; exact q
    have ha := (ckd_0.1 hcd).2 a (by simp)
    refine wp_skip ?_
    refine then_n (hK8 _ _ ?_)
    clear hK8
    refine wp_seq_k (fun K19 hK19 => ?_)
    refine region_in ?_
    refine W_r rfl rfl (VR_ldA rfl l4_10 (hS6.obj 1 rfl hc2) Try.underlying25 rfl (by kernel_rfl)) ?_
    refine W_call rfl rfl rfl Try.func35 (by kernel_rfl) rfl (args1 (et rfl)) (qCn_c (hS6.roC h_ov) (hS6.roC n_ov) (hS6.roC h_rv) (by first | with_reducible assumption) (by first | omega | (have q := hG.r8; omega)) (by first | omega | (have q := hG.o4; rw [List.length_map] at q; omega))) ?_
    rintro _ w20 ⟨hv_20, H_20, qv_20, rfl, hH_20, hP20⟩
    refine ⟨_, rfl, ?_⟩
    obtain ⟨cR_20, cP_20, cQ_20, cG_20, hcR_20, hcP_20, hcQ_20, hcG_20, hP20⟩ := gen4 hP20
    have hS20 := hS6.join hP20
    replace hS20 : St w NoX [cR_20, cP_20, cQ_20, cG_20, c3, c2] w20 := hS20
    have hHl := mp_lenE hH_20
    rw [List.length_map] at hHl
    have hHo := hG.o4
    rw [List.length_map] at hHo
    refine W_allocS (z := .agg #[.slice none 0 0, .slice none 0 0]) (zs := #[.slice none 0 0, .slice none 0 0]) hS20 rfl rfl rfl (by kernel_rfl) (by rfl) (fun g21 w21 c21 hc21 hS21 => ?_)
    replace hS21 : St w NoX [c21, cR_20, cP_20, cQ_20, cG_20, c3, c2] w21 := hS21
    refine W_stAS 0 hS21 rfl hc21 rfl rfl rfl (et rfl) (es rfl (et rfl)) (by simp only [List.all_toArray, List.all_cons, List.all_nil, obC, SlN_one (ow_at (hS21.chq 1 rfl hcR_20)), SlN_one (ow_at (hS21.chq 4 rfl hcG_20))] <;> rfl) (by rfl) (by kernel_rfl) (fun w22 c22 hc22 hS22 => ?_)
    replace hS22 : St w NoX [c22, cR_20, cP_20, cQ_20, cG_20, c3, c2] w22 := hS22
    refine W_end ?_
    refine gen_Q (fun A23 hA23 => ?_)
    have hsz23 := szq hA23
    have hdf23 : A23.defers = [] := by rw [hA23]; simp only [df_put]; exact hdf10
    have l1_23 := lookE hA23 1 (e2 rfl (es rfl l1_10))
    have l2_23 := lookE hA23 2 (e2 rfl (es rfl l2_10))
    have l3_23 := lookE hA23 3 (e2 rfl (es rfl l3_10))
    have l4_23 := lookE hA23 4 (e2 rfl (es rfl l4_10))
    have l8_23 := lookE hA23 8 (e2 rfl (es rfl l8_10))
    have l12_23 := lookE hA23 12 (et rfl)
    clear hA23 hsz10 hdf10 l1_10 l2_10 l3_10 l4_10 l8_10 l11_10 l21_10
    refine then_n (hK19 _ _ ?_)
    clear hK19
    refine wp_seq_k (fun K24 hK24 => ?_)
    refine region_monoS 14 15 [] (by kernel_rfl) (by kernel_rfl) ?_
    refine D_v rfl rfl (V_fa (off' := 0) rfl l12_23 Try.underlying25 rfl (by decide +kernel) rfl) rfl rfl ?_
    refine D_r rfl rfl (by kernel_rfl) (fun sx hx hF => (VR_ldC rfl (et rfl) (cell_box (v := hv_20) ((hS22.grow hx).obj 0 rfl hc22) rfl) Try.underlying22 rfl)) rfl rfl ?_
    refine D_v rfl rfl (V_fa (off' := 1) rfl (es rfl (es rfl l4_23)) Try.underlying25 rfl (by decide +kernel) rfl) rfl rfl ?_
    refine D_r rfl rfl (by kernel_rfl) (fun sx hx hF => (VR_ldC rfl (et rfl) (cell_box (v := rv) ((hS22.grow hx).obj 6 rfl hc2) rfl) Try.underlying23 rfl)) rfl rfl ?_
    refine D_v rfl rfl (V_mov rfl (e3 rfl (es rfl l1_23))) rfl rfl ?_
    have k25 : a.toNat < rs.length := by first | omega | (simp only [List.length_cons, List.length_nil]; omega) | (simp only [List.length_set]; omega)
    obtain ⟨y25, hy25⟩ := get_some (xs := rs) (k := a.toNat) k25
    have hq25 := rg_at hy25
    have hrg25 := hrg y25 (List.mem_of_getElem? hy25)
    obtain ⟨B25, O25, C25, hv25⟩ := (SlN.blk (sl_SlN h_rv.at) (by first | omega | (simp only [List.length_cons, List.length_nil]; omega) | (simp only [List.length_set]; omega)))
    refine D_v rfl rfl (V_ixS (off := O25 + a.toNat) 1 (a.toNat) rfl (es rfl (et rfl)) (et rfl) hv25 (by omega) k25 Try.underlying23 (by kernel_rfl) (congrArg _ (Nat.mul_one _))) rfl rfl ?_
    refine D_r rfl rfl (by kernel_rfl) (fun sx hx hF => (VR_ldC rfl (et rfl) ((sl_SlN ((hS22.grow hx).ro h_rv)).cell hv25 (map_get hy25)) Try.underlying3 rfl)) rfl rfl ?_
    refine D_v rfl rfl (V_sb rfl (et rfl) rfl (by omega) (by omega)) rfl rfl ?_
    have k26 : ((y25 - 1)).toNat < H_20.length := by first | omega | (simp only [List.length_cons, List.length_nil]; omega) | (simp only [List.length_set]; omega)
    obtain ⟨y26, hy26⟩ := get_some (xs := H_20) (k := ((y25 - 1)).toNat) k26
    have hob26 := ob_of hH_20 hy25 hy26
    have hlt26 := noR_lt hn hob26
    obtain ⟨B26, O26, C26, hv26⟩ := (SlN.blk (ow_at (hS22.chq 1 rfl hcR_20)) (by first | omega | (simp only [List.length_cons, List.length_nil]; omega) | (simp only [List.length_set]; omega)))
    refine D_v rfl rfl (V_ixS (off := O26 + (((y25 - 1)).toNat) * 2) 2 (((y25 - 1)).toNat) rfl (e6 rfl (et rfl)) (et rfl) hv26 (by omega) k26 Try.underlying22 (by kernel_rfl) rfl) rfl rfl ?_
    refine D_v rfl rfl (V_fa (off' := O26 + (((y25 - 1)).toNat) * 2 + 1) rfl (et rfl) Try.underlying40 rfl (by decide +kernel) rfl) rfl rfl ?_
    have bfn27 := SlN.le (sl_SlN (owl_at (mapE (g := (·.1)) hy26) (hS22.chq 2 rfl hcP_20)))
    have bfn28 := SlN.le (sl_SlN (owl_at (mapE (g := (·.2)) hy26) (hS22.chq 3 rfl hcQ_20)))
    refine D_r rfl rfl (by kernel_rfl) (fun sx hx hF => (VR_ldC (v := y26.2.1) rfl (et rfl) (SlN.row obC_len (ow_at ((hS22.grow hx).chq 1 rfl hcR_20)) hv26 hy26 rfl 1 _ rfl) Try.underlying38 rfl)) rfl rfl ?_
    refine D_v rfl rfl (V_mov rfl (e10 rfl (es rfl l2_23))) rfl rfl ?_
    refine D_v rfl rfl (V_mov rfl (e11 rfl (es rfl l3_23))) rfl rfl ?_
    have k29 : f.toNat < y26.2.2.length := by first | omega | (simp only [List.length_cons, List.length_nil]; omega) | (simp only [List.length_set]; omega)
    obtain ⟨y29, hy29⟩ := get_some (xs := y26.2.2) (k := f.toNat) k29
    obtain ⟨B29, O29, C29, hv29⟩ := (SlN.blk (sl_SlN (owl_at (mapE (g := (·.2)) hy26) (hS22.chq 3 rfl hcQ_20))) (by first | omega | (simp only [List.length_cons, List.length_nil]; omega) | (simp only [List.length_set]; omega)))
    refine D_v rfl rfl (V_ixS (off := O29 + f.toNat) 1 (f.toNat) rfl (e2 rfl (et rfl)) (es rfl (et rfl)) hv29 (by omega) k29 Try.underlying38 (by kernel_rfl) (congrArg _ (Nat.mul_one _))) rfl rfl ?_
    refine D_eff rfl ?_
    refine ZS_eff hS22 rfl rfl (fun s30 hJ30 hL30 hF30 => ?_)
    have hS30 := hJ30.st; clear hF30 hJ30 hL30
    generalize s30.1 = w30 at *
    replace hS30 : St w NoX [c22, cR_20, cP_20, cQ_20, cG_20, c3, c2] w30 := hS30
    have hS32 := hS30.sel [3, 2, 1, 0, 4, 5, 6] (by decide) (l' := [cQ_20, cP_20, cR_20, c22, cG_20, c3, c2]) rfl
    replace hS32 : St w NoX [cQ_20, cP_20, cR_20, c22, cG_20, c3, c2] w30 := hS32
    refine W_stN2 hS32 hcQ_20 hcP_20 hcR_20 hy26 hv29 rfl rfl rfl (et rfl) (es rfl (et rfl)) rfl (List.getElem?_eq_some_iff.1 hy29).1 (by kernel_rfl) (fun w31 ca31 cb31 c31 hca31 hcb31 hc31 hS31 => ?_)
    replace hS31 : St w NoX [ca31, cb31, c31, c22, cG_20, c3, c2] w31 := hS31
    refine W_end ?_
    refine Qo_normal ?_
    refine gen_Q (fun A33 hA33 => ?_)
    have hsz33 := szq hA33
    have hdf33 : A33.defers = [] := by rw [hA33]; simp only [df_put]; exact hdf23
    have l8_33 := lookE hA33 8 (e13 rfl (es rfl l8_23))
    have l12_33 := lookE hA33 12 (e13 rfl (es rfl l12_23))
    clear hA33 hsz23 hdf23 l1_23 l2_23 l3_23 l4_23 l8_23 l12_23
    have hS34 : St w NoX [ca31, cb31, c31, c22, cG_20, c3] w31 := hS31.sel [0, 1, 2, 3, 4, 5] (by decide) rfl
    refine then_n (hK24 _ _ ?_)
    clear hK24
    refine wp_seq_k (fun K35 hK35 => ?_)
    refine region_in ?_
    refine W_r rfl rfl (VR_ldA rfl l12_33 (hS34.obj 3 rfl hc22) Try.underlying25 rfl (by kernel_rfl)) ?_
    refine W_stAS 5 hS34 rfl hc3 rfl rfl rfl (es rfl l8_33) (et rfl) (by simp only [List.all_toArray, List.all_cons, List.all_nil, obC, SlN_one (ow_at (hS34.chq 2 rfl hc31)), SlN_one (ow_at (hS34.chq 4 rfl hcG_20))] <;> rfl) (by rfl) (by kernel_rfl) (fun w36 c36 hc36 hS36 => ?_)
    replace hS36 : St w NoX [ca31, cb31, c31, c22, cG_20, c36] w36 := hS36
    refine W_v rfl rfl (V_asg rfl rfl) ?_
    refine W_end ?_
    refine gen_Q (fun A37 hA37 => ?_)
    have hsz37 := szq hA37
    have hdf37 : A37.defers = [] := by rw [hA37]; simp only [df_put]; exact hdf33
    have l8_37 := lookE hA37 8 (es rfl (es rfl l8_33))
    have l9_37 := lookE hA37 9 (et rfl)
    clear hA37 hsz33 hdf33 l8_33 l12_33
    have hS38 : St w NoX [ca31, cb31, c31, cG_20, c36] w36 := hS36.sel [0, 1, 2, 4, 5] (by decide) rfl
    refine then_n (hK35 _ _ ?_)
    clear hK35
    refine wp_ret ?_
    refine ret_in (results_2 Try.results40 (rv_cellA l8_37 (hS38.obj 4 rfl hc36) Try.underlying25 rfl (by kernel_rfl)) (rv_tmp l9_37)) hdf37 ?_
    -- leaf F
    have h := wr_k (x := x) hrw
    rw [hrw, h.1]
    exact ⟨_, (H_20.set (((y25 - 1)).toNat) (y26.1, (y26.2.1, y26.2.2.set f.toNat x))), _, rfl, by rw [wr_map (by rw [rg_at hy25]) hy26 (by rw [hH_20]; exact hn), hH_20, wrI_k hn], (hS38.fin4 2 rfl (hc31) 1 rfl (hcb31) 0 rfl (hca31) 3 rfl (hcG_20.trans (by rw [h.2] <;> rfl)) (by decide))⟩

set_option maxHeartbeats 4000000 in
theorem qMove_c {ov : Value} {O : List Ob} {rv : Value} {rs : List Int} {a : Int} {b : Int} {w : World} (h_ov : Ro w NoX (rl 2 obC ov O)) (n_ov : Ro w NoX (nst O)) (h_rv : Ro w NoX (il .i64 rv rs)) (hsm : SM (O.map ab)) :
    Calls Try.prog 42 #[.agg #[ov, rv], .int .i64 a, .int .i64 b] w fun e w' => ∃ hv H qv, e = .returned (.tuple #[.agg #[hv, qv], .int .i64 (ckd (O.map ab) rs [a, b])]) ∧ (H.map ab = (kpO (O.map ab) rs [a, b])) ∧ St w NoX [ro 2 obC hv H, owl .i64 (H.map (·.1)), owl .u64 (H.map (·.2)), io .i64 (qv) (mvR (O.map ab) rs a b)] w' := by
  refine calls_in 31 Try.func42 rfl rfl (by simp) (fun A0 hsz0 hdf0 hargs => ?_)
  have l0_0 := hargs 0 (.agg #[ov, rv]) rfl
  have l1_0 := hargs 1 (.int .i64 a) rfl
  have l2_0 := hargs 2 (.int .i64 b) rfl
  clear hargs; replace hsz0 : SzN A0 31 := ⟨hsz0⟩
  have hS := St.nil w
  have bh_ov := SlN.le (sl_SlN h_ov.at)
  have bh_rv := SlN.le (sl_SlN h_rv.at)
  refine wp_seq_k (fun K1 hK1 => ?_)
  refine region_in ?_
  refine W_boxS (zs := #[ov, rv]) hS rfl rfl rfl l0_0 (by rfl) (fun g2 w2 c2 hc2 hS2 => ?_)
  replace hS2 : St w NoX [c2] w2 := hS2
  refine W_allocS (z := .agg #[.slice none 0 0, .slice none 0 0]) (zs := #[.slice none 0 0, .slice none 0 0]) hS2 rfl rfl rfl (by kernel_rfl) (by rfl) (fun g3 w3 c3 hc3 hS3 => ?_)
  replace hS3 : St w NoX [c3, c2] w3 := hS3
  refine W_v rfl rfl (V_asg rfl rfl) ?_
  refine W_end ?_
  refine gen_Q (fun A4 hA4 => ?_)
  have hsz4 := szq hA4
  have hdf4 : A4.defers = [] := by rw [hA4]; simp only [df_put]; exact hdf0
  have l1_4 := lookE hA4 1 (e2 rfl (es rfl l1_0))
  have l2_4 := lookE hA4 2 (e2 rfl (es rfl l2_0))
  have l3_4 := lookE hA4 3 (e2 rfl (et rfl))
  have l6_4 := lookE hA4 6 (es rfl (et rfl))
  clear hA4 hsz0 hdf0 l0_0 l1_0 l2_0
  refine then_n (hK1 _ _ ?_)
  clear hK1
  refine wp_seq_k (fun K5 hK5 => ?_)
  refine region_in ?_
  refine W_r rfl rfl (VR_ldA rfl l3_4 (hS3.obj 1 rfl hc2) Try.underlying25 rfl (by kernel_rfl)) ?_
  refine W_v rfl rfl (V_mov rfl (es rfl l1_4)) ?_
  refine W_v rfl rfl (V_mov rfl (es rfl (es rfl l2_4))) ?_
  have hll6 : [a, b].length = 2 := rfl
  refine W_litS (vs := [.int .i64 (a), .int .i64 (b)]) (xs := ([a, b].map (Value.int .i64))) 1 hS3 rfl rfl rfl (parts2 (es rfl (et rfl)) (et rfl)) rfl Try.underlying23 (by kernel_rfl) (by decide) (by intro v hv; simp only [List.mem_cons, List.not_mem_nil, or_false] at hv; rcases hv with rfl | rfl <;> rfl) (by rfl) (fun g6 w6 c6 hc6 hS6 => ?_)
  replace hc6 : c6 = io .i64 (.slice (some ⟨g6, 0, none⟩) 2 2) [a, b] := hc6
  replace hS6 : St w NoX [c6, c3, c2] w6 := hS6
  refine W_call rfl rfl rfl Try.func59 (by kernel_rfl) rfl (args2 (e3 rfl (et rfl)) (et rfl)) (qcd_c (hS6.roC h_ov) (hS6.roC n_ov) (hS6.roC h_rv) (hS6.chC 0 rfl hc6).own ) ?_
  rintro _ w7 ⟨rfl, hP7⟩
  refine ⟨_, rfl, ?_⟩
  have hS7 := hS6.join hP7
  replace hS7 : St w NoX [c6, c3, c2] w7 := hS7
  refine W_v rfl rfl (V_asg rfl (et rfl)) ?_
  refine W_end ?_
  refine gen_Q (fun A8 hA8 => ?_)
  have hsz8 := szq hA8
  have hdf8 : A8.defers = [] := by rw [hA8]; simp only [df_put]; exact hdf4
  have l1_8 := lookE hA8 1 (e5 rfl (es rfl l1_4))
  have l2_8 := lookE hA8 2 (e5 rfl (es rfl l2_4))
  have l3_8 := lookE hA8 3 (e5 rfl (es rfl l3_4))
  have l6_8 := lookE hA8 6 (e5 rfl (es rfl l6_4))
  have l8_8 := lookE hA8 8 (et rfl)
  clear hA8 hsz4 hdf4 l1_4 l2_4 l3_4 l6_4
  have hS9 : St w NoX [c3, c2] w7 := hS7.sel [1, 2] (by decide) rfl
  refine then_n (hK5 _ _ ?_)
  clear hK5
  refine wp_seq_k (fun K10 hK10 => ?_)
  refine wp_seq_k (fun K11 hK11 => ?_)
  refine region_in ?_
  refine W_v rfl rfl (V_mov rfl l8_8) ?_
  refine W_v rfl rfl (V_neq rfl (et rfl) rfl) ?_
  refine W_end ?_
  refine gen_Q (fun A12 hA12 => ?_)
  have hsz12 := szq hA12
  have hdf12 : A12.defers = [] := by rw [hA12]; simp only [df_put]; exact hdf8
  have l1_12 := lookE hA12 1 (es rfl (es rfl l1_8))
  have l2_12 := lookE hA12 2 (es rfl (es rfl l2_8))
  have l3_12 := lookE hA12 3 (es rfl (es rfl l3_8))
  have l6_12 := lookE hA12 6 (es rfl (es rfl l6_8))
  have l8_12 := lookE hA12 8 (es rfl (es rfl l8_8))
  have l16_12 := lookE hA12 16 (et rfl)
  clear hA12 hsz8 hdf8 l1_8 l2_8 l3_8 l6_8 l8_8
  refine then_n (hK11 _ _ ?_)
  clear hK11
  refine cond_dec l16_12 (fun c13 => ?_) (fun c13 => ?_)
  · skip
    refine wp_seq_k (fun K14 hK14 => ?_)
    refine region_in ?_
    refine W_v rfl rfl (V_bldS (n := 2) (z := .agg #[.slice none 0 0, .slice none 0 0]) rfl (parts0) (by kernel_rfl) (by simp only [List.all_cons, List.all_nil, Bool.and_true] <;> rfl) (by kernel_rfl) (by simp only [List.foldl_cons, List.foldl_nil, Value.cells, List.setIfInBounds_toArray, List.set_cons_succ, List.set_cons_zero] <;> rfl)) ?_
    refine W_v rfl rfl (V_mov rfl (es rfl l8_12)) ?_
    refine W_stAS 0 hS9 rfl hc3 rfl rfl rfl (es rfl (es rfl l6_12)) (es rfl (et rfl)) (by first | (rw [List.all_toArray] <;> rfl) | (simp only [List.all_toArray, List.all_cons, List.all_nil] <;> rfl)) (by rfl) (by kernel_rfl) (fun w15 c15 hc15 hS15 => ?_)
    replace hS15 : St w NoX [c15, c2] w15 := hS15
    refine W_v rfl rfl (V_asg rfl (et rfl)) ?_
    refine W_end ?_
    refine gen_Q (fun A16 hA16 => ?_)
    have hsz16 := szq hA16
    have hdf16 : A16.defers = [] := by rw [hA16]; simp only [df_put]; exact hdf12
    have l6_16 := lookE hA16 6 (e2 rfl (es rfl l6_12))
    have l7_16 := lookE hA16 7 (et rfl)
    clear hA16 hsz12 hdf12 l1_12 l2_12 l3_12 l6_12 l8_12 l16_12
    have hS17 : St w NoX [c15] w15 := hS15.sel [0] (by decide) rfl
    refine then_n (hK14 _ _ ?_)
    clear hK14
    refine wp_ret ?_
    refine then_ret ?_
    refine ret_in (results_2 Try.results42 (rv_cellA l6_16 (hS17.obj 0 rfl hc15) Try.underlying25 rfl (by kernel_rfl)) (rv_tmp l7_16)) hdf16 ?_
    -- leaf T
    obtain ⟨c18, hc18, hS18⟩ := hS17.pnil (s := 2)
    replace hc18 : c18 = ro 2 obC (.slice none 0 0) ([] : List Ob) := hc18
    obtain ⟨c19, cb19, hc19, hcb19, hS19⟩ := gen2 (nst_nils hS18)
    replace hS19 : St w NoX [c19, cb19, c18, c15] w15 := hS19
    obtain ⟨c20, hc20, hS20⟩ := hS19.pnil (s := 1)
    have h := mv_ck c13
    rw [h.2.1]
    exact ⟨_, ([] : List Ob), _, rfl, rfl, (hS20.fin4 3 rfl (hc18) 1 rfl (hc19) 2 rfl (hcb19) 0 rfl (hc20.trans (by rw [h.2.2] <;> rfl)) (by decide))⟩
  · skip
    have hcd : ckd (O.map ab) rs [a, b] = 0 := by simpa using c13
    have hG0 := (ckd_0.1 hcd).1
    have hG := hG0
    have hrg : ∀ p ∈ rs, 0 ≤ p ∧ p ≤ (O.length : Int) := fun p hp => by have q := hG0.reg p hp; rw [List.length_map] at q; exact q
    have ha := (ckd_0.1 hcd).2 a (by simp)
    have hb := (ckd_0.1 hcd).2 b (by simp)
    refine wp_skip ?_
    refine then_n (hK10 _ _ ?_)
    clear hK10
    refine wp_seq_k (fun K21 hK21 => ?_)
    refine region_in ?_
    refine W_r rfl rfl (VR_ldA rfl l3_12 (hS9.obj 1 rfl hc2) Try.underlying25 rfl (by kernel_rfl)) ?_
    refine W_call rfl rfl rfl Try.func35 (by kernel_rfl) rfl (args1 (et rfl)) (qCn_c (hS9.roC h_ov) (hS9.roC n_ov) (hS9.roC h_rv) (by first | with_reducible assumption) (by first | omega | (have q := hG.r8; omega)) (by first | omega | (have q := hG.o4; rw [List.length_map] at q; omega))) ?_
    rintro _ w22 ⟨hv_22, H_22, qv_22, rfl, hH_22, hP22⟩
    refine ⟨_, rfl, ?_⟩
    obtain ⟨cR_22, cP_22, cQ_22, cG_22, hcR_22, hcP_22, hcQ_22, hcG_22, hP22⟩ := gen4 hP22
    have hS22 := hS9.join hP22
    replace hS22 : St w NoX [cR_22, cP_22, cQ_22, cG_22, c3, c2] w22 := hS22
    have hHl := mp_lenE hH_22
    rw [List.length_map] at hHl
    have hHo := hG.o4
    rw [List.length_map] at hHo
    refine W_allocS (z := .agg #[.slice none 0 0, .slice none 0 0]) (zs := #[.slice none 0 0, .slice none 0 0]) hS22 rfl rfl rfl (by kernel_rfl) (by rfl) (fun g23 w23 c23 hc23 hS23 => ?_)
    replace hS23 : St w NoX [c23, cR_22, cP_22, cQ_22, cG_22, c3, c2] w23 := hS23
    refine W_stAS 0 hS23 rfl hc23 rfl rfl rfl (et rfl) (es rfl (et rfl)) (by simp only [List.all_toArray, List.all_cons, List.all_nil, SlN_one (ow_at (hS23.chq 1 rfl hcR_22)), SlN_one (ow_at (hS23.chq 4 rfl hcG_22))] <;> rfl) (by rfl) (by kernel_rfl) (fun w24 c24 hc24 hS24 => ?_)
    replace hS24 : St w NoX [c24, cR_22, cP_22, cQ_22, cG_22, c3, c2] w24 := hS24
    refine W_end ?_
    refine gen_Q (fun A25 hA25 => ?_)
    have hsz25 := szq hA25
    have hdf25 : A25.defers = [] := by rw [hA25]; simp only [df_put]; exact hdf12
    have l1_25 := lookE hA25 1 (e2 rfl (es rfl l1_12))
    have l2_25 := lookE hA25 2 (e2 rfl (es rfl l2_12))
    have l3_25 := lookE hA25 3 (e2 rfl (es rfl l3_12))
    have l6_25 := lookE hA25 6 (e2 rfl (es rfl l6_12))
    have l9_25 := lookE hA25 9 (et rfl)
    clear hA25 hsz12 hdf12 l1_12 l2_12 l3_12 l6_12 l8_12 l16_12
    refine then_n (hK21 _ _ ?_)
    clear hK21
    refine wp_seq_k (fun K26 hK26 => ?_)
    refine region_monoS 9 10 [] (by kernel_rfl) (by kernel_rfl) ?_
    refine D_v rfl rfl (V_fa (off' := 1) rfl l9_25 Try.underlying25 rfl (by decide +kernel) rfl) rfl rfl ?_
    refine D_r rfl rfl (by kernel_rfl) (fun sx hx hF => (VR_ldC rfl (et rfl) (cell_box (v := qv_22) ((hS24.grow hx).obj 0 rfl hc24) rfl) Try.underlying23 rfl)) rfl rfl ?_
    refine D_v rfl rfl (V_mov rfl (es rfl (es rfl l1_25))) rfl rfl ?_
    refine D_v rfl rfl (V_fa (off' := 1) rfl (e2 rfl (es rfl l3_25)) Try.underlying25 rfl (by decide +kernel) rfl) rfl rfl ?_
    refine D_r rfl rfl (by kernel_rfl) (fun sx hx hF => (VR_ldC rfl (et rfl) (cell_box (v := rv) ((hS24.grow hx).obj 6 rfl hc2) rfl) Try.underlying23 rfl)) rfl rfl ?_
    refine D_v rfl rfl (V_mov rfl (e4 rfl (es rfl l2_25))) rfl rfl ?_
    have k27 : b.toNat < rs.length := by first | omega | (simp only [List.length_cons, List.length_nil]; omega) | (simp only [List.length_set]; omega)
    obtain ⟨y27, hy27⟩ := get_some (xs := rs) (k := b.toNat) k27
    obtain ⟨B27, O27, C27, hv27⟩ := (SlN.blk (sl_SlN h_rv.at) (by first | omega | (simp only [List.length_cons, List.length_nil]; omega) | (simp only [List.length_set]; omega)))
    refine D_v rfl rfl (V_ixS (off := O27 + b.toNat) 1 (b.toNat) rfl (es rfl (et rfl)) (et rfl) hv27 (by omega) k27 Try.underlying23 (by kernel_rfl) (congrArg _ (Nat.mul_one _))) rfl rfl ?_
    refine D_r rfl rfl (by kernel_rfl) (fun sx hx hF => (VR_ldC rfl (et rfl) ((sl_SlN ((hS24.grow hx).ro h_rv)).cell hv27 (map_get hy27)) Try.underlying3 rfl)) rfl rfl ?_
    have k28 : a.toNat < rs.length := by first | omega | (simp only [List.length_cons, List.length_nil]; omega) | (simp only [List.length_set]; omega)
    obtain ⟨y28, hy28⟩ := get_some (xs := rs) (k := a.toNat) k28
    have hq28 := rg_at hy28
    have hrg28 := hrg y28 (List.mem_of_getElem? hy28)
    obtain ⟨B28, O28, C28, hv28⟩ := (SlN.blk (ow_at (hS24.chq 4 rfl hcG_22)) (by first | omega | (simp only [List.length_cons, List.length_nil]; omega) | (simp only [List.length_set]; omega)))
    refine D_v rfl rfl (V_ixS (off := O28 + a.toNat) 1 (a.toNat) rfl (e6 rfl (et rfl)) (e5 rfl (et rfl)) hv28 (by omega) k28 Try.underlying23 (by kernel_rfl) (congrArg _ (Nat.mul_one _))) rfl rfl ?_
    refine D_eff rfl ?_
    refine ZS_eff hS24 rfl rfl (fun s29 hJ29 hL29 hF29 => ?_)
    have hS29 := hJ29.st; clear hF29 hJ29 hL29
    generalize s29.1 = w29 at *
    replace hS29 : St w NoX [c24, cR_22, cP_22, cQ_22, cG_22, c3, c2] w29 := hS29
    refine W_stE 4 hS29 rfl hcG_22 hv28 rfl rfl rfl (et rfl) (es rfl (et rfl)) (by rfl) rfl (by first | (simp only [List.length_map]; omega) | omega) (by kernel_rfl) (fun w30 c30 hc30 hS30 => ?_)
    replace hc30 : c30 = io .i64 qv_22 (rs.set a.toNat y27) := hc30.trans (by simp [io, bo, List.map_set] <;> rfl)
    replace hS30 : St w NoX [c24, cR_22, cP_22, cQ_22, c30, c3, c2] w30 := hS30
    refine W_end ?_
    refine Qo_normal ?_
    refine gen_Q (fun A31 hA31 => ?_)
    have hsz31 := szq hA31
    have hdf31 : A31.defers = [] := by rw [hA31]; simp only [df_put]; exact hdf25
    have l6_31 := lookE hA31 6 (e8 rfl (es rfl l6_25))
    have l9_31 := lookE hA31 9 (e8 rfl (es rfl l9_25))
    clear hA31 hsz25 hdf25 l1_25 l2_25 l3_25 l6_25 l9_25
    have hS32 : St w NoX [c24, cR_22, cP_22, cQ_22, c30, c3] w30 := hS30.sel [0, 1, 2, 3, 4, 5] (by decide) rfl
    refine then_n (hK26 _ _ ?_)
    clear hK26
    refine wp_seq_k (fun K33 hK33 => ?_)
    refine region_in ?_
    refine W_r rfl rfl (VR_ldA rfl l9_31 (hS32.obj 0 rfl hc24) Try.underlying25 rfl (by kernel_rfl)) ?_
    refine W_stAS 5 hS32 rfl hc3 rfl rfl rfl (es rfl l6_31) (et rfl) (by simp only [List.all_toArray, List.all_cons, List.all_nil, SlN_one (ow_at (hS32.chq 1 rfl hcR_22)), SlN_one (ow_at (hS32.chq 4 rfl hc30))] <;> rfl) (by rfl) (by kernel_rfl) (fun w34 c34 hc34 hS34 => ?_)
    replace hS34 : St w NoX [c24, cR_22, cP_22, cQ_22, c30, c34] w34 := hS34
    refine W_v rfl rfl (V_asg rfl rfl) ?_
    refine W_end ?_
    refine gen_Q (fun A35 hA35 => ?_)
    have hsz35 := szq hA35
    have hdf35 : A35.defers = [] := by rw [hA35]; simp only [df_put]; exact hdf31
    have l6_35 := lookE hA35 6 (es rfl (es rfl l6_31))
    have l7_35 := lookE hA35 7 (et rfl)
    clear hA35 hsz31 hdf31 l6_31 l9_31
    have hS36 : St w NoX [cR_22, cP_22, cQ_22, c30, c34] w34 := hS34.sel [1, 2, 3, 4, 5] (by decide) rfl
    refine then_n (hK33 _ _ ?_)
    clear hK33
    refine wp_ret ?_
    refine ret_in (results_2 Try.results42 (rv_cellA l6_35 (hS36.obj 4 rfl hc34) Try.underlying25 rfl (by kernel_rfl)) (rv_tmp l7_35)) hdf35 ?_
    -- leaf F
    have h := mv_k hcd
    rw [hcd, h.1]
    exact ⟨_, H_22, _, rfl, hH_22, (hS36.fin4 0 rfl (hcR_22) 1 rfl (hcP_22) 2 rfl (hcQ_22) 3 rfl (hc30.trans (by rw [h.2, rg_at hy27] <;> rfl)) (by decide))⟩

set_option maxHeartbeats 4000000 in
theorem qClear_c {ov : Value} {O : List Ob} {rv : Value} {rs : List Int} {a : Int} {w : World} (h_ov : Ro w NoX (rl 2 obC ov O)) (n_ov : Ro w NoX (nst O)) (h_rv : Ro w NoX (il .i64 rv rs)) (hsm : SM (O.map ab)) :
    Calls Try.prog 43 #[.agg #[ov, rv], .int .i64 a] w fun e w' => ∃ hv H qv, e = .returned (.tuple #[.agg #[hv, qv], .int .i64 (ckd (O.map ab) rs [a])]) ∧ (H.map ab = (kpO (O.map ab) rs [a])) ∧ St w NoX [ro 2 obC hv H, owl .i64 (H.map (·.1)), owl .u64 (H.map (·.2)), io .i64 (qv) (clR (O.map ab) rs a)] w' := by
  refine calls_in 23 Try.func43 rfl rfl (by simp) (fun A0 hsz0 hdf0 hargs => ?_)
  have l0_0 := hargs 0 (.agg #[ov, rv]) rfl
  have l1_0 := hargs 1 (.int .i64 a) rfl
  clear hargs; replace hsz0 : SzN A0 23 := ⟨hsz0⟩
  have hS := St.nil w
  have bh_ov := SlN.le (sl_SlN h_ov.at)
  have bh_rv := SlN.le (sl_SlN h_rv.at)
  refine wp_seq_k (fun K1 hK1 => ?_)
  refine region_in ?_
  refine W_boxS (zs := #[ov, rv]) hS rfl rfl rfl l0_0 (by rfl) (fun g2 w2 c2 hc2 hS2 => ?_)
  replace hS2 : St w NoX [c2] w2 := hS2
  refine W_allocS (z := .agg #[.slice none 0 0, .slice none 0 0]) (zs := #[.slice none 0 0, .slice none 0 0]) hS2 rfl rfl rfl (by kernel_rfl) (by rfl) (fun g3 w3 c3 hc3 hS3 => ?_)
  replace hS3 : St w NoX [c3, c2] w3 := hS3
  refine W_v rfl rfl (V_asg rfl rfl) ?_
  refine W_end ?_
  refine gen_Q (fun A4 hA4 => ?_)
  have hsz4 := szq hA4
  have hdf4 : A4.defers = [] := by rw [hA4]; simp only [df_put]; exact hdf0
  have l1_4 := lookE hA4 1 (e2 rfl (es rfl l1_0))
  have l2_4 := lookE hA4 2 (e2 rfl (et rfl))
  have l4_4 := lookE hA4 4 (es rfl (et rfl))
  clear hA4 hsz0 hdf0 l0_0 l1_0
  refine then_n (hK1 _ _ ?_)
  clear hK1
  refine wp_seq_k (fun K5 hK5 => ?_)
  refine region_in ?_
  refine W_r rfl rfl (VR_ldA rfl l2_4 (hS3.obj 1 rfl hc2) Try.underlying25 rfl (by kernel_rfl)) ?_
  refine W_v rfl rfl (V_mov rfl (es rfl l1_4)) ?_
  have hll6 : [a].length = 1 := rfl
  refine W_litS (vs := [.int .i64 (a)]) (xs := ([a].map (Value.int .i64))) 1 hS3 rfl rfl rfl (parts1 (et rfl)) rfl Try.underlying23 (by kernel_rfl) (by decide) (by intro v hv; simp only [List.mem_cons, List.not_mem_nil, or_false] at hv; rcases hv with rfl <;> rfl) (by rfl) (fun g6 w6 c6 hc6 hS6 => ?_)
  replace hc6 : c6 = io .i64 (.slice (some ⟨g6, 0, none⟩) 1 1) [a] := hc6
  replace hS6 : St w NoX [c6, c3, c2] w6 := hS6
  refine W_call rfl rfl rfl Try.func59 (by kernel_rfl) rfl (args2 (e2 rfl (et rfl)) (et rfl)) (qcd_c (hS6.roC h_ov) (hS6.roC n_ov) (hS6.roC h_rv) (hS6.chC 0 rfl hc6).own ) ?_
  rintro _ w7 ⟨rfl, hP7⟩
  refine ⟨_, rfl, ?_⟩
  have hS7 := hS6.join hP7
  replace hS7 : St w NoX [c6, c3, c2] w7 := hS7
  refine W_v rfl rfl (V_asg rfl (et rfl)) ?_
  refine W_end ?_
  refine gen_Q (fun A8 hA8 => ?_)
  have hsz8 := szq hA8
  have hdf8 : A8.defers = [] := by rw [hA8]; simp only [df_put]; exact hdf4
  have l1_8 := lookE hA8 1 (e4 rfl (es rfl l1_4))
  have l2_8 := lookE hA8 2 (e4 rfl (es rfl l2_4))
  have l4_8 := lookE hA8 4 (e4 rfl (es rfl l4_4))
  have l6_8 := lookE hA8 6 (et rfl)
  clear hA8 hsz4 hdf4 l1_4 l2_4 l4_4
  have hS9 : St w NoX [c3, c2] w7 := hS7.sel [1, 2] (by decide) rfl
  refine then_n (hK5 _ _ ?_)
  clear hK5
  refine wp_seq_k (fun K10 hK10 => ?_)
  refine wp_seq_k (fun K11 hK11 => ?_)
  refine region_in ?_
  refine W_v rfl rfl (V_mov rfl l6_8) ?_
  refine W_v rfl rfl (V_neq rfl (et rfl) rfl) ?_
  refine W_end ?_
  refine gen_Q (fun A12 hA12 => ?_)
  have hsz12 := szq hA12
  have hdf12 : A12.defers = [] := by rw [hA12]; simp only [df_put]; exact hdf8
  have l1_12 := lookE hA12 1 (es rfl (es rfl l1_8))
  have l2_12 := lookE hA12 2 (es rfl (es rfl l2_8))
  have l4_12 := lookE hA12 4 (es rfl (es rfl l4_8))
  have l6_12 := lookE hA12 6 (es rfl (es rfl l6_8))
  have l13_12 := lookE hA12 13 (et rfl)
  clear hA12 hsz8 hdf8 l1_8 l2_8 l4_8 l6_8
  refine then_n (hK11 _ _ ?_)
  clear hK11
  refine cond_dec l13_12 (fun c13 => ?_) (fun c13 => ?_)
  · skip
    refine wp_seq_k (fun K14 hK14 => ?_)
    refine region_in ?_
    refine W_v rfl rfl (V_bldS (n := 2) (z := .agg #[.slice none 0 0, .slice none 0 0]) rfl (parts0) (by kernel_rfl) (by simp only [List.all_cons, List.all_nil, Bool.and_true] <;> rfl) (by kernel_rfl) (by simp only [List.foldl_cons, List.foldl_nil, Value.cells, List.setIfInBounds_toArray, List.set_cons_succ, List.set_cons_zero] <;> rfl)) ?_
    refine W_v rfl rfl (V_mov rfl (es rfl l6_12)) ?_
    refine W_stAS 0 hS9 rfl hc3 rfl rfl rfl (es rfl (es rfl l4_12)) (es rfl (et rfl)) (by first | (rw [List.all_toArray] <;> rfl) | (simp only [List.all_toArray, List.all_cons, List.all_nil] <;> rfl)) (by rfl) (by kernel_rfl) (fun w15 c15 hc15 hS15 => ?_)
    replace hS15 : St w NoX [c15, c2] w15 := hS15
    refine W_v rfl rfl (V_asg rfl (et rfl)) ?_
    refine W_end ?_
    refine gen_Q (fun A16 hA16 => ?_)
    have hsz16 := szq hA16
    have hdf16 : A16.defers = [] := by rw [hA16]; simp only [df_put]; exact hdf12
    have l4_16 := lookE hA16 4 (e2 rfl (es rfl l4_12))
    have l5_16 := lookE hA16 5 (et rfl)
    clear hA16 hsz12 hdf12 l1_12 l2_12 l4_12 l6_12 l13_12
    have hS17 : St w NoX [c15] w15 := hS15.sel [0] (by decide) rfl
    refine then_n (hK14 _ _ ?_)
    clear hK14
    refine wp_ret ?_
    refine then_ret ?_
    refine ret_in (results_2 Try.results43 (rv_cellA l4_16 (hS17.obj 0 rfl hc15) Try.underlying25 rfl (by kernel_rfl)) (rv_tmp l5_16)) hdf16 ?_
    -- leaf T
    obtain ⟨c18, hc18, hS18⟩ := hS17.pnil (s := 2)
    replace hc18 : c18 = ro 2 obC (.slice none 0 0) ([] : List Ob) := hc18
    obtain ⟨c19, cb19, hc19, hcb19, hS19⟩ := gen2 (nst_nils hS18)
    replace hS19 : St w NoX [c19, cb19, c18, c15] w15 := hS19
    obtain ⟨c20, hc20, hS20⟩ := hS19.pnil (s := 1)
    have h := cl_ck c13
    rw [h.2.1]
    exact ⟨_, ([] : List Ob), _, rfl, rfl, (hS20.fin4 3 rfl (hc18) 1 rfl (hc19) 2 rfl (hcb19) 0 rfl (hc20.trans (by rw [h.2.2] <;> rfl)) (by decide))⟩
  · skip
    have hcd : ckd (O.map ab) rs [a] = 0 := by simpa using c13
    have hG0 := (ckd_0.1 hcd).1
    have hG := hG0
    have hrg : ∀ p ∈ rs, 0 ≤ p ∧ p ≤ (O.length : Int) := fun p hp => by have q := hG0.reg p hp; rw [List.length_map] at q; exact q
    have ha := (ckd_0.1 hcd).2 a (by simp)
    refine wp_skip ?_
    refine then_n (hK10 _ _ ?_)
    clear hK10
    refine wp_seq_k (fun K21 hK21 => ?_)
    refine region_in ?_
    refine W_r rfl rfl (VR_ldA rfl l2_12 (hS9.obj 1 rfl hc2) Try.underlying25 rfl (by kernel_rfl)) ?_
    refine W_call rfl rfl rfl Try.func35 (by kernel_rfl) rfl (args1 (et rfl)) (qCn_c (hS9.roC h_ov) (hS9.roC n_ov) (hS9.roC h_rv) (by first | with_reducible assumption) (by first | omega | (have q := hG.r8; omega)) (by first | omega | (have q := hG.o4; rw [List.length_map] at q; omega))) ?_
    rintro _ w22 ⟨hv_22, H_22, qv_22, rfl, hH_22, hP22⟩
    refine ⟨_, rfl, ?_⟩
    obtain ⟨cR_22, cP_22, cQ_22, cG_22, hcR_22, hcP_22, hcQ_22, hcG_22, hP22⟩ := gen4 hP22
    have hS22 := hS9.join hP22
    replace hS22 : St w NoX [cR_22, cP_22, cQ_22, cG_22, c3, c2] w22 := hS22
    have hHl := mp_lenE hH_22
    rw [List.length_map] at hHl
    have hHo := hG.o4
    rw [List.length_map] at hHo
    refine W_allocS (z := .agg #[.slice none 0 0, .slice none 0 0]) (zs := #[.slice none 0 0, .slice none 0 0]) hS22 rfl rfl rfl (by kernel_rfl) (by rfl) (fun g23 w23 c23 hc23 hS23 => ?_)
    replace hS23 : St w NoX [c23, cR_22, cP_22, cQ_22, cG_22, c3, c2] w23 := hS23
    refine W_stAS 0 hS23 rfl hc23 rfl rfl rfl (et rfl) (es rfl (et rfl)) (by simp only [List.all_toArray, List.all_cons, List.all_nil, SlN_one (ow_at (hS23.chq 1 rfl hcR_22)), SlN_one (ow_at (hS23.chq 4 rfl hcG_22))] <;> rfl) (by rfl) (by kernel_rfl) (fun w24 c24 hc24 hS24 => ?_)
    replace hS24 : St w NoX [c24, cR_22, cP_22, cQ_22, cG_22, c3, c2] w24 := hS24
    refine W_end ?_
    refine gen_Q (fun A25 hA25 => ?_)
    have hsz25 := szq hA25
    have hdf25 : A25.defers = [] := by rw [hA25]; simp only [df_put]; exact hdf12
    have l1_25 := lookE hA25 1 (e2 rfl (es rfl l1_12))
    have l4_25 := lookE hA25 4 (e2 rfl (es rfl l4_12))
    have l7_25 := lookE hA25 7 (et rfl)
    clear hA25 hsz12 hdf12 l1_12 l2_12 l4_12 l6_12 l13_12
    have hS26 : St w NoX [c24, cR_22, cP_22, cQ_22, cG_22, c3] w24 := hS24.sel [0, 1, 2, 3, 4, 5] (by decide) rfl
    refine then_n (hK21 _ _ ?_)
    clear hK21
    refine wp_seq_k (fun K27 hK27 => ?_)
    refine region_in ?_
    refine W_v rfl rfl (V_fa (off' := 1) rfl l7_25 Try.underlying25 rfl (by decide +kernel) rfl) ?_
    refine W_r rfl rfl (VR_ldC rfl (et rfl) (cell_box (v := qv_22) (hS26.obj 0 rfl hc24) rfl) Try.underlying23 rfl) ?_
    refine W_v rfl rfl (V_mov rfl (es rfl (es rfl l1_25))) ?_
    have k28 : a.toNat < rs.length := by first | omega | (simp only [List.length_cons, List.length_nil]; omega) | (simp only [List.length_set]; omega)
    obtain ⟨y28, hy28⟩ := get_some (xs := rs) (k := a.toNat) k28
    have hq28 := rg_at hy28
    have hrg28 := hrg y28 (List.mem_of_getElem? hy28)
    obtain ⟨B28, O28, C28, hv28⟩ := (SlN.blk (ow_at (hS26.chq 4 rfl hcG_22)) (by first | omega | (simp only [List.length_cons, List.length_nil]; omega) | (simp only [List.length_set]; omega)))
    refine W_v rfl rfl (V_ixS (off := O28 + a.toNat) 1 (a.toNat) rfl (es rfl (et rfl)) (et rfl) hv28 (by omega) k28 Try.underlying23 (by kernel_rfl) (congrArg _ (Nat.mul_one _))) ?_
    refine W_stE 4 hS26 rfl hcG_22 hv28 rfl rfl rfl (et rfl) rfl (by rfl) rfl (by first | (simp only [List.length_map]; omega) | omega) (by kernel_rfl) (fun w29 c29 hc29 hS29 => ?_)
    replace hc29 : c29 = io .i64 qv_22 (rs.set a.toNat 0) := hc29.trans (by simp [io, bo, List.map_set] <;> rfl)
    replace hS29 : St w NoX [c24, cR_22, cP_22, cQ_22, c29, c3] w29 := hS29
    refine W_end ?_
    refine gen_Q (fun A30 hA30 => ?_)
    have hsz30 := szq hA30
    have hdf30 : A30.defers = [] := by rw [hA30]; simp only [df_put]; exact hdf25
    have l4_30 := lookE hA30 4 (e3 rfl (es rfl l4_25))
    have l7_30 := lookE hA30 7 (e3 rfl (es rfl l7_25))
    clear hA30 hsz25 hdf25 l1_25 l4_25 l7_25
    refine then_n (hK27 _ _ ?_)
    clear hK27
    refine wp_seq_k (fun K31 hK31 => ?_)
    refine region_in ?_
    refine W_r rfl rfl (VR_ldA rfl l7_30 (hS29.obj 0 rfl hc24) Try.underlying25 rfl (by kernel_rfl)) ?_
    refine W_stAS 5 hS29 rfl hc3 rfl rfl rfl (es rfl l4_30) (et rfl) (by simp only [List.all_toArray, List.all_cons, List.all_nil, SlN_one (ow_at (hS29.chq 1 rfl hcR_22)), SlN_one (ow_at (hS29.chq 4 rfl hc29))] <;> rfl) (by rfl) (by kernel_rfl) (fun w32 c32 hc32 hS32 => ?_)
    replace hS32 : St w NoX [c24, cR_22, cP_22, cQ_22, c29, c32] w32 := hS32
    refine W_v rfl rfl (V_asg rfl rfl) ?_
    refine W_end ?_
    refine gen_Q (fun A33 hA33 => ?_)
    have hsz33 := szq hA33
    have hdf33 : A33.defers = [] := by rw [hA33]; simp only [df_put]; exact hdf30
    have l4_33 := lookE hA33 4 (es rfl (es rfl l4_30))
    have l5_33 := lookE hA33 5 (et rfl)
    clear hA33 hsz30 hdf30 l4_30 l7_30
    have hS34 : St w NoX [cR_22, cP_22, cQ_22, c29, c32] w32 := hS32.sel [1, 2, 3, 4, 5] (by decide) rfl
    refine then_n (hK31 _ _ ?_)
    clear hK31
    refine wp_ret ?_
    refine ret_in (results_2 Try.results43 (rv_cellA l4_33 (hS34.obj 4 rfl hc32) Try.underlying25 rfl (by kernel_rfl)) (rv_tmp l5_33)) hdf33 ?_
    -- leaf F
    have h := cl_k hcd
    rw [hcd, h.1]
    exact ⟨_, H_22, _, rfl, hH_22, (hS34.fin4 0 rfl (hcR_22) 1 rfl (hcP_22) 2 rfl (hcQ_22) 3 rfl (hc29.trans (by rw [h.2] <;> rfl)) (by decide))⟩

end Go.Proofs.Ytdilbnmaihmgnaa