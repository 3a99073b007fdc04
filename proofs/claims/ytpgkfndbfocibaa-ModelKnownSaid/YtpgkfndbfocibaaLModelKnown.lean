import Derived.Test.YtpgkfndbfocibaaProg
import Derived.Test.YtpgkfndbfocibaaMs14
import Derived.Test.YtpgkfndbfocibaaSep29g
import Derived.Test.YtpgkfndbfocibaaMs16
namespace Go.Proofs.Ytpgkfndbfocibaa
open Go.RowKit Go.Own Go.Own.R Go.Own.G Go.Own.Gr Go.Own.Ml


set_option maxHeartbeats 4000000 in
theorem ModelKnown_c  {w : World}   :
  Calls Try.prog 6 #[] w fun e w' => e = .returned (.bool true) ∧ St w NoX [] w' := by
 refine calls_in 105 Try.func6 V V (by simp) (fun A0 Y0 hdf0 hargs => ?_)
 clear hargs; replace Y0 : SzN A0 105 := ⟨Y0⟩
 have hS := St.nil w
 refine wp_seq_k fun K1 H1 => region_in ?_
 refine W_v V V (V_asg V V) ?_
 refine W_end (gen_Q fun A2 E2 => ?_)
 have Y2 := szq E2
 have F2 := fsE E2 (cq1 (FS.n hdf0) V)
 clear E2 Y0 hdf0
 refine tk H1 (wp_seq_k fun K3 H3 => region_in ?_)
 refine W_call V V V Try.func17 (by kernel_rfl) V (args0) (kcf29_c  ) ?_
 rintro _ w4 ⟨rfl, hP4⟩
 refine ⟨_, rfl, ?_⟩
 have S4 := hS.join hP4
 replace S4 : St w NoX [] w4 := S4
 refine W_call V V V Try.func18 (by kernel_rfl) V (args0) (scr_c  ) ?_
 rintro _ w5 ⟨v_5, rfl, hP5⟩
 refine ⟨_, rfl, ?_⟩
 obtain ⟨c_5, hc_5, hP5⟩ := gen1 hP5
 have S5 := S4.join hP5
 replace S5 : St w NoX [c_5] w5 := S5
 refine W_allocS (z := .agg #[.int .i64 0, .int .i64 0, .int .i64 0, .int .i64 0, .int .i64 0]) (zs := #[.int .i64 0, .int .i64 0, .int .i64 0, .int .i64 0, .int .i64 0]) S5 V V V (by kernel_rfl) (by rfl) (fun g6 w6 c6 hc6 S6 => ?_)
 replace S6 : St w NoX [c6, c_5] w6 := S6
 refine xsA 0 S6 V hc6 V V V (et V) (es2 V (et V)) (fun w7 c7 hc7 S7 => ?_)
 replace S7 : St w NoX [c7, c_5] w7 := S7
 refine W_v V V (V_asg V (es V (et V))) ?_
 refine W_end (gen_Q fun A8 E8 => ?_)
 have Y8 := szq E8
 have F8 := fsE E8 (ck (ck (cq2 F2 V) V V) V V)
 clear E8 Y2 F2
 refine tk H3 (wp_seq_k fun K9 H9 => region_in ?_)
 refine W_r V V (VR_ldA V (fg1 F8) (S7.obj 0 V hc7) Try.underlying23 V (by kernel_rfl)) ?_
 refine W_v V V (V_mov V (es V (fg0 F8))) ?_
 refine W_call V V V Try.func11 (by kernel_rfl) V (args5 (es V (et V)) (et V) V V V) (kLf_c (C := 8) (N := 8) (Z := 6) (K := 2) (Q := 2) (full := []) (fv := .slice none 0 0) (a := 0) (b := 8) (S7.chC 1 V hc_5).own ro_nil ) ?_
 rintro _ w10 ⟨rfl, hP10⟩
 refine ⟨_, rfl, ?_⟩
 have S10 := S7.join hP10
 replace S10 : St w NoX [c7, c_5] w10 := S10
 refine W_v V V (V_mov V (et V)) ?_
 refine W_v V V (V_ext (v := .int .i64 ((lfF (cfE 8 8 6 2 2) (lgN 8 8 6 2 2) 2 scr [] 0 8).1)) V (et V) V) ?_
 refine W_v V V (V_ext (v := .int .i64 ((lfF (cfE 8 8 6 2 2) (lgN 8 8 6 2 2) 2 scr [] 0 8).2)) V (es V (et V)) V) ?_
 refine W_v V V (V_asg V (es V (et V))) (W_v V V (V_asg V (es V (et V))) ?_)
 refine W_end (gen_Q fun A11 E11 => ?_)
 have Y11 := szq E11
 have F11 := fsE E11 (ck (ck (cq6 F8 V) V V) V V)
 clear E11 Y8 F8
 refine tk H9 (wp_seq_k fun K12 H12 => region_in ?_)
 refine W_r V V (VR_ldA V (fg3 F11) (S10.obj 0 V hc7) Try.underlying23 V (by kernel_rfl)) ?_
 refine W_v V V (V_mov V (es V (fg2 F11))) ?_
 refine W_call V V V Try.func11 (by kernel_rfl) V (args5 (es V (et V)) (et V) V V V) (kLf_c (C := 8) (N := 8) (Z := 6) (K := 2) (Q := 2) (full := []) (fv := .slice none 0 0) (a := 1) (b := 2) (S10.chC 1 V hc_5).own ro_nil ) ?_
 rintro _ w13 ⟨rfl, hP13⟩
 refine ⟨_, rfl, ?_⟩
 have S13 := S10.join hP13
 replace S13 : St w NoX [c7, c_5] w13 := S13
 refine W_v V V (V_mov V (et V)) ?_
 refine W_v V V (V_ext (v := .int .i64 ((lfF (cfE 8 8 6 2 2) (lgN 8 8 6 2 2) 2 scr [] 1 2).1)) V (et V) V) ?_
 refine W_v V V (V_ext (v := .int .i64 ((lfF (cfE 8 8 6 2 2) (lgN 8 8 6 2 2) 2 scr [] 1 2).2)) V (es V (et V)) V) ?_
 refine W_v V V (V_asg V (es V (et V))) (W_v V V (V_asg V (es V (et V))) ?_)
 refine W_end (gen_Q fun A14 E14 => ?_)
 have Y14 := szq E14
 have F14 := fsE E14 (ck (ck (cq6 F11 V) V V) V V)
 clear E14 Y11 F11
 refine tk H12 (wp_seq_k fun K15 H15 => region_in ?_)
 refine W_r V V (VR_ldA V (fg5 F14) (S13.obj 0 V hc7) Try.underlying23 V (by kernel_rfl)) ?_
 refine W_v V V (V_mov V (es V (fg4 F14))) ?_
 have hll16 : [6].length = 1 := rfl
 refine xsL (vs := [.int .i64 6]) (xs := ([6].map (Value.int .i64))) 1 S13 V V V (parts1 V) Try.underlying25 (fun g16 w16 c16 hc16 S16 => ?_)
 replace hc16 : c16 = io .i64 (.slice (some ⟨g16, 0, none⟩) 1 1) [6] := hc16
 replace S16 : St w NoX [c16, c7, c_5] w16 := S16
 refine W_call V V V Try.func12 (by kernel_rfl) V (args3 (es2 V (et V)) (es V (et V)) (et V)) (kPl_c (C := 8) (N := 8) (Z := 6) (K := 2) (Q := 2) (S16.chC 2 V hc_5).own (S16.chC 0 V hc16).own ) ?_
 rintro _ w17 (⟨rfl, hz_17, hP17⟩ | ⟨G_17, av_17, rfl, hz_17, hg_17, hP17⟩)
 ·refine ⟨_, rfl, ?_⟩
  have S17 := S16.join hP17
  replace S17 : St w NoX [c16, c7, c_5] w17 := S17
  refine W_v V V (V_mov V (et V)) ?_
  refine W_v V V (V_ext (v := .agg #[.slice none 0 0, .slice none 0 0]) V (et V) V) ?_
  refine W_v V V (V_ext (v := .slice none 0 0) V (es V (et V)) V) ?_
  refine W_v V V (V_ext (v := .int .i64 ((plF (cfE 8 8 6 2 2) (lgN 8 8 6 2 2) 2 scr [6]).1)) V (es2 V (et V)) V) ?_
  refine W_v V V (V_ext (v := .int .i64 ((plF (cfE 8 8 6 2 2) (lgN 8 8 6 2 2) 2 scr [6]).2)) V (es3 V (et V)) V) ?_
  refine W_allocS (z := .agg #[.slice none 0 0, .slice none 0 0]) (zs := #[.slice none 0 0, .slice none 0 0]) S17 V V V (by kernel_rfl) (by rfl) (fun g18 w18 c18 hc18 S18 => ?_)
  replace S18 : St w NoX [c18, c16, c7, c_5] w18 := S18
  refine xsA 0 S18 V hc18 V V V (et V) (es4 V (et V)) (fun w19 c19 hc19 S19 => ?_)
  replace S19 : St w NoX [c19, c16, c7, c_5] w19 := S19
  refine W_v V V (V_asg V (es3 V (et V))) (W_v V V (V_asg V (es3 V (et V))) (W_v V V (V_asg V (es3 V (et V))) ?_))
  refine W_end (gen_Q fun A20 E20 => ?_)
  have Y20 := szq E20
  have F20 := fsE E20 (ck (ck (cq3 (cq8 F14 V) V) V V) V V)
  clear E20 Y14 F14
  have S21 : St w NoX [c7, c_5] w19 := S19.sel [2, 3] (by decide) V
  refine tk H15 (wp_seq_k fun K22 H22 => region_in ?_)
  refine W_r V V (VR_ldA V (fg7 F20) (S21.obj 0 V hc7) Try.underlying23 V (by kernel_rfl)) ?_
  refine W_v V V (V_mov V (es V (fg6 F20))) ?_
  have hll23 : [8].length = 1 := rfl
  refine xsL (vs := [.int .i64 8]) (xs := ([8].map (Value.int .i64))) 1 S21 V V V (parts1 V) Try.underlying25 (fun g23 w23 c23 hc23 S23 => ?_)
  replace hc23 : c23 = io .i64 (.slice (some ⟨g23, 0, none⟩) 1 1) [8] := hc23
  replace S23 : St w NoX [c23, c7, c_5] w23 := S23
  refine W_call V V V Try.func12 (by kernel_rfl) V (args3 (es2 V (et V)) (es V (et V)) (et V)) (kPl_c (C := 8) (N := 8) (Z := 6) (K := 2) (Q := 2) (S23.chC 2 V hc_5).own (S23.chC 0 V hc23).own ) ?_
  rintro _ w24 (⟨rfl, hz_24, hP24⟩ | ⟨G_24, av_24, rfl, hz_24, hg_24, hP24⟩)
  ·refine ⟨_, rfl, ?_⟩
   have S24 := S23.join hP24
   replace S24 : St w NoX [c23, c7, c_5] w24 := S24
   refine W_v V V (V_mov V (et V)) ?_
   refine W_v V V (V_ext (v := .agg #[.slice none 0 0, .slice none 0 0]) V (et V) V) ?_
   refine W_v V V (V_ext (v := .slice none 0 0) V (es V (et V)) V) ?_
   refine W_v V V (V_ext (v := .int .i64 ((plF (cfE 8 8 6 2 2) (lgN 8 8 6 2 2) 2 scr [8]).1)) V (es2 V (et V)) V) ?_
   refine W_v V V (V_ext (v := .int .i64 ((plF (cfE 8 8 6 2 2) (lgN 8 8 6 2 2) 2 scr [8]).2)) V (es3 V (et V)) V) ?_
   refine W_allocS (z := .agg #[.slice none 0 0, .slice none 0 0]) (zs := #[.slice none 0 0, .slice none 0 0]) S24 V V V (by kernel_rfl) (by rfl) (fun g25 w25 c25 hc25 S25 => ?_)
   replace S25 : St w NoX [c25, c23, c7, c_5] w25 := S25
   refine xsA 0 S25 V hc25 V V V (et V) (es4 V (et V)) (fun w26 c26 hc26 S26 => ?_)
   replace S26 : St w NoX [c26, c23, c7, c_5] w26 := S26
   refine W_v V V (V_asg V (es3 V (et V))) (W_v V V (V_asg V (es3 V (et V))) (W_v V V (V_asg V (es3 V (et V))) ?_))
   refine W_end (gen_Q fun A27 E27 => ?_)
   have Y27 := szq E27
   have F27 := fsE E27 (ck (ck (cq3 (cq8 F20 V) V) V V) V V)
   clear E27 Y20 F20
   have S28 : St w NoX [c7, c_5] w26 := S26.sel [2, 3] (by decide) V
   refine tk H22 (wp_seq_k fun K29 H29 => ?_)
   refine region_monoS 12 12 [none, none, some (SPv [] (fun _ => fun u l' => ∃ g_, u = .slice (some ⟨g_, 0, none⟩) 8 8 ∧ ∃ c_, c_ = io .i64 (.slice (some ⟨g_, 0, none⟩) 8 8) [0, 5, 0, 0, 0, 0, 11, 10] ∧ l' = [c_]) 2), some (SPv [] (fun _ => fun u l' => ∃ v_s, u = v_s ∧ ∃ c_s, c_s = ro 3 anC (v_s) (List.map (fun x : Int => AnC.mk x false 0) [0, 5, 0, 0, 0, 0, 11, 10]) ∧ l' = [c_s]) 3), some (SPv [] (fun _ => fun u l' => ∃ rw_s, u = .tuple #[rw_s, .int .i64 (jdF (cfE 8 8 6 2 2) (lgN 8 8 6 2 2) 2 scr (List.map (fun x : Int => AnC.mk x false 0) [0, 5, 0, 0, 0, 0, 11, 10])).1, .int .i64 (jdF (cfE 8 8 6 2 2) (lgN 8 8 6 2 2) 2 scr (List.map (fun x : Int => AnC.mk x false 0) [0, 5, 0, 0, 0, 0, 11, 10])).2] ∧ ∃ cL_s, cL_s = io .i64 rw_s (jdL (cfE 8 8 6 2 2) (lgN 8 8 6 2 2) 2 scr (List.map (fun x : Int => AnC.mk x false 0) [0, 5, 0, 0, 0, 0, 11, 10])) ∧ l' = [cL_s]) 4)] (by kernel_rfl) (by kernel_rfl) ?_
   refine D_r V V (by kernel_rfl) (fun sx hx hF => (VR_ldA V (fg9 F27) ((S28.grow hx).obj 0 V hc7) Try.underlying23 V (by kernel_rfl))) V V ?_
   refine D_v V V (V_mov V (es V (fg8 F27))) V V ?_
   have hll30 : [0, 5, 0, 0, 0, 0, 11, 10].length = 8 := rfl
   refine D_lay (ts := []) (vs := []) (C0 := fun _ => fun u l' => ∃ g_, u = .slice (some ⟨g_, 0, none⟩) 8 8 ∧ ∃ c_, c_ = io .i64 (.slice (some ⟨g_, 0, none⟩) 8 8) [0, 5, 0, 0, 0, 0, 11, 10] ∧ l' = [c_]) (C := fun u l' => ∃ g_, u = .slice (some ⟨g_, 0, none⟩) 8 8 ∧ ∃ c_, c_ = io .i64 (.slice (some ⟨g_, 0, none⟩) 8 8) [0, 5, 0, 0, 0, 0, 11, 10] ∧ l' = [c_]) V V V V V V (fun sx hx hF => lay_lit (vs := [.int .i64 0, .int .i64 5, .int .i64 0, .int .i64 0, .int .i64 0, .int .i64 0, .int .i64 11, .int .i64 10]) 1 V (parts8 V V V V V V V V) V Try.underlying86 (by kernel_rfl) (by decide) (by intro v hv; simp only [List.mem_cons, List.not_mem_nil, or_false] at hv; rcases hv with rfl | rfl | rfl | rfl | rfl | rfl | rfl | rfl <;> rfl) (by rfl)) (fun u30 l30 hu30 => ?_)
   obtain ⟨g30, rfl, c30, hc30, hl30⟩ := hu30
   refine D_call (ts := []) (vs := []) (C0 := fun _ => fun u l' => ∃ v_s, u = v_s ∧ ∃ c_s, c_s = ro 3 anC (v_s) (List.map (fun x : Int => AnC.mk x false 0) [0, 5, 0, 0, 0, 0, 11, 10]) ∧ l' = [c_s]) (C := fun u l' => ∃ v_s, u = v_s ∧ ∃ c_s, c_s = ro 3 anC (v_s) (List.map (fun x : Int => AnC.mk x false 0) [0, 5, 0, 0, 0, 0, 11, 10]) ∧ l' = [c_s]) V V V Try.func20 (by kernel_rfl) V (args1 (et V)) V V V V (fun sx hx hF => ?_) (fun u31 l31 hu31 => ?_)
   ·obtain ⟨ll30, ws30, we30, ⟨g30q, hq30, c30_, hc30_, hl30_⟩, hm30, k30, e30⟩ := L.ancF_get hF (by kernel_rfl); cases hq30; subst hl30_; refine (kas_29 ((k30.grow e30).chC 0 rfl hc30_).own (by first | with_reducible assumption | decide | (simp; done) | omega)).mono ?_
    rintro _ _ ⟨v_31, rfl, hz⟩
    exact ⟨_, rfl, _, ⟨_, rfl, _, rfl, rfl⟩, hz⟩
   obtain ⟨v_31, rfl, c_31, hc_31, hl31⟩ := hu31
   refine D_call (ts := []) (vs := []) (C0 := fun _ => fun u l' => ∃ rw_s, u = .tuple #[rw_s, .int .i64 (jdF (cfE 8 8 6 2 2) (lgN 8 8 6 2 2) 2 scr (List.map (fun x : Int => AnC.mk x false 0) [0, 5, 0, 0, 0, 0, 11, 10])).1, .int .i64 (jdF (cfE 8 8 6 2 2) (lgN 8 8 6 2 2) 2 scr (List.map (fun x : Int => AnC.mk x false 0) [0, 5, 0, 0, 0, 0, 11, 10])).2] ∧ ∃ cL_s, cL_s = io .i64 rw_s (jdL (cfE 8 8 6 2 2) (lgN 8 8 6 2 2) 2 scr (List.map (fun x : Int => AnC.mk x false 0) [0, 5, 0, 0, 0, 0, 11, 10])) ∧ l' = [cL_s]) (C := fun u l' => ∃ rw_s, u = .tuple #[rw_s, .int .i64 (jdF (cfE 8 8 6 2 2) (lgN 8 8 6 2 2) 2 scr (List.map (fun x : Int => AnC.mk x false 0) [0, 5, 0, 0, 0, 0, 11, 10])).1, .int .i64 (jdF (cfE 8 8 6 2 2) (lgN 8 8 6 2 2) 2 scr (List.map (fun x : Int => AnC.mk x false 0) [0, 5, 0, 0, 0, 0, 11, 10])).2] ∧ ∃ cL_s, cL_s = io .i64 rw_s (jdL (cfE 8 8 6 2 2) (lgN 8 8 6 2 2) 2 scr (List.map (fun x : Int => AnC.mk x false 0) [0, 5, 0, 0, 0, 0, 11, 10])) ∧ l' = [cL_s]) V V V Try.func19 (by kernel_rfl) V (args3 (es3 V (et V)) (es2 V (et V)) (et V)) V V V V (fun sx hx hF => ?_) (fun u32 l32 hu32 => ?_)
   ·obtain ⟨ll31, ws31, we31, ⟨v_31q, hq31, c_31_, hc_31_, hl31_⟩, hm31, k31, e31⟩ := L.ancF_get hF (by kernel_rfl); cases hq31; subst hl31_; refine (kjd_u (C := 8) (N := 8) (Z := 6) (K := 2) (Q := 2) ((S28.grow hx).chC 1 rfl hc_5).own ((k31.grow e31).chC 0 rfl hc_31_).own (by first | with_reducible assumption | decide +kernel)).mono ?_
    rintro _ _ ⟨rw_32, rfl, hz⟩
    exact ⟨_, rfl, _, ⟨_, rfl, _, rfl, rfl⟩, hz⟩
   obtain ⟨rw_32, rfl, cL_32, hcL_32, hl32⟩ := hu32
   refine D_v V V (V_mov V (et V)) V V ?_
   refine D_v V V (V_ext (v := rw_32) V (et V) V) V V ?_
   refine D_v V V (V_ext (v := .int .i64 ((jdF (cfE 8 8 6 2 2) (lgN 8 8 6 2 2) 2 scr (List.map (fun x : Int => AnC.mk x false 0) [0, 5, 0, 0, 0, 0, 11, 10])).1)) V (es V (et V)) V) V V ?_
   refine D_v V V (V_ext (v := .int .i64 ((jdF (cfE 8 8 6 2 2) (lgN 8 8 6 2 2) 2 scr (List.map (fun x : Int => AnC.mk x false 0) [0, 5, 0, 0, 0, 0, 11, 10])).2)) V (es2 V (et V)) V) V V ?_
   refine D_v V V (V_asg V (es2 V (et V))) V V ?_
   refine D_v V V (V_asg V (es2 V (et V))) V V ?_
   refine D_v V V (V_asg V (es2 V (et V))) V V ?_
   refine ZS_none S28 (Nat.le_refl _) (Nat.le_refl _) (fun s33 hJ33 hL33 hF33 => ?_)
   obtain ⟨ll30, ws30, we30, ⟨g30q, hq30, c30r, hc30r, hl30r⟩, hm30, k30, e30⟩ := L.all_get (L.all_rest (L.all_rest hF33)); cases hq30; subst hl30r
   replace hJ33 := hJ33.add hL33 (i := 2) V hm30 k30 e30
   obtain ⟨ll31, ws31, we31, ⟨v_31q, hq31, c_31r, hc_31r, hl31r⟩, hm31, k31, e31⟩ := L.all_get (L.all_rest hF33); cases hq31; subst hl31r
   replace hJ33 := hJ33.add hL33 (i := 3) V hm31 k31 e31
   obtain ⟨ll32, ws32, we32, ⟨rw_32q, hq32, cL_32r, hcL_32r, hl32r⟩, hm32, k32, e32⟩ := L.all_get hF33; cases hq32; subst hl32r
   replace hJ33 := hJ33.add hL33 (i := 4) V hm32 k32 e32
   have S33 := hJ33.st; clear hF33 hJ33 hL33
   generalize s33.1 = w33 at *
   replace S33 : St w NoX [cL_32r, c_31r, c30r, c7, c_5] w33 := S33
   refine gen_Q (fun A34 E34 => ?_)
   have Y34 := szq E34
   have F34 := fsE E34 (ck (ck (ck (cq1 (cq8 F27 V) V) V V) V V) V V)
   clear E34 Y27 F27
   have S35 : St w NoX [cL_32r] w33 := S33.sel [0] (by decide) V
   refine tk H29 (wp_seq_k fun K36 H36 => region_in ?_)
   refine W_v V V (V_mov V (fg10 F34)) ?_
   refine W_v V V (V_eql V (et V) V) ?_
   refine W_sure (c' := true) V V (V_mov V (et V)) (by decide +kernel) ?_
   refine W_v V (xwt V V (et V)) (V_mov V (es3 V (fg9 F34))) ?_
   refine W_v V (xwt V V (es V (et V))) (V_eql V (et V) V) ?_
   refine W_v V V (V_pickT V (es2 V (et V)) (et V)) ?_
   refine W_sure (c' := true) V V (V_mov V (et V)) (by decide +kernel) ?_
   refine W_v V (xwt V V (et V)) (V_mov V (es7 V (fg8 F34))) ?_
   refine W_v V (xwt V V (es V (et V))) (V_eql V (et V) V) ?_
   refine W_v V V (V_pickT V (es2 V (et V)) (et V)) ?_
   refine W_sure (c' := true) V V (V_mov V (et V)) (by decide +kernel) ?_
   refine W_v V (xwt V V (et V)) (V_mov V (es8 V (es3 V (fg7 F34)))) ?_
   refine W_v V (xwt V V (es V (et V))) (V_eql V (et V) V) ?_
   refine W_v V V (V_pickT V (es2 V (et V)) (et V)) ?_
   refine W_sure (c' := true) V V (V_mov V (et V)) (by decide +kernel) ?_
   refine W_v V (xwt V V (et V)) (V_mov V (es8 V (es7 V (fg6 F34)))) ?_
   refine W_v V (xwt V V (es V (et V))) (V_eql V (et V) V) ?_
   refine W_v V V (V_pickT V (es2 V (et V)) (et V)) ?_
   refine W_sure (c' := true) V V (V_mov V (et V)) (by decide +kernel) ?_
   refine W_v V (xwt V V (et V)) (V_mov V (es8 V (es8 V (es3 V (fg5 F34))))) ?_
   refine W_v V (xwt V V (es V (et V))) (V_eql V (et V) V) ?_
   refine W_v V V (V_pickT V (es2 V (et V)) (et V)) ?_
   refine W_sure (c' := true) V V (V_mov V (et V)) (by decide +kernel) ?_
   refine W_v V (xwt V V (et V)) (V_mov V (es8 V (es8 V (es7 V (fg4 F34))))) ?_
   refine W_v V (xwt V V (es V (et V))) (V_eql V (et V) V) ?_
   refine W_v V V (V_pickT V (es2 V (et V)) (et V)) ?_
   refine W_sure (c' := true) V V (V_mov V (et V)) (by decide +kernel) ?_
   refine W_v V (xwt V V (et V)) (V_mov V (es8 V (es8 V (es8 V (es3 V (fg3 F34)))))) ?_
   refine W_v V (xwt V V (es V (et V))) (V_eql V (et V) V) ?_
   refine W_v V V (V_pickT V (es2 V (et V)) (et V)) ?_
   refine W_sure (c' := true) V V (V_mov V (et V)) (by decide +kernel) ?_
   refine W_v V (xwt V V (et V)) (V_mov V (es8 V (es8 V (es8 V (es7 V (fg2 F34)))))) ?_
   have hll37 : [1].length = 1 := rfl
   refine xsL (vs := [.int .i64 1]) (xs := ([1].map (Value.int .i64))) 1 S35 V (xwt V V (es V (et V))) V (parts1 V) Try.underlying25 (fun g37 w37 c37 hc37 S37 => ?_)
   replace hc37 : c37 = io .i64 (.slice (some ⟨g37, 0, none⟩) 1 1) [1] := hc37
   replace S37 : St w NoX [c37, cL_32r] w37 := S37
   refine W_call V (xwt V V (es2 V (et V))) V Try.func21 (by kernel_rfl) V (args2 (es V (et V)) (et V)) (qInts_c (S37.chC 1 V hcL_32r).own (S37.chC 0 V hc37).own ) ?_
   rintro _ w38 ⟨rfl, hP38⟩
   refine ⟨_, rfl, ?_⟩
   have S38 := S37.join hP38
   replace S38 : St w NoX [c37, cL_32r] w38 := S38
   refine W_v V V (V_pickT V (es3 V (et V)) (et V)) ?_
   refine W_sure (c' := true) V V (V_mov V (et V)) (by decide +kernel) ?_
   refine W_v V (xwt V V (et V)) (V_mov V (es8 V (es8 V (es8 V (es8 V (es4 V (fg1 F34))))))) ?_
   refine W_v V (xwt V V (es V (et V))) (V_eql V (et V) V) ?_
   refine W_v V V (V_pickT V (es2 V (et V)) (et V)) ?_
   refine W_sure (c' := true) V V (V_mov V (et V)) (by decide +kernel) ?_
   refine W_v V (xwt V V (et V)) (V_mov V (es8 V (es8 V (es8 V (es8 V (es8 V (fg0 F34))))))) ?_
   refine W_v V (xwt V V (es V (et V))) (V_eql V (et V) V) ?_
   refine W_v V V (V_pickT V (es2 V (et V)) (et V)) ?_
   refine W_sure (c' := true) V V (V_mov V (et V)) (by decide +kernel) ?_
   refine W_call V (xwt V V (et V)) V Try.func9 (by kernel_rfl) V (args0) (kshn_c  ) ?_
   rintro _ w39 ⟨rfl, hP39⟩
   refine ⟨_, rfl, ?_⟩
   have S39 := S38.join hP39
   replace S39 : St w NoX [c37, cL_32r] w39 := S39
   refine W_v V V (V_pickT V (es V (et V)) (et V)) ?_
   refine W_v V V (V_asg V (et V)) ?_
   refine W_end (gen_Q fun A40 E40 => ?_)
   have Y40 := szq E40
   have F40 := fsE E40 (ck (cq6 (cq8 (cq8 (cq8 (cq8 (cq8 F34 V) V) V) V) V) V) V V)
   clear E40 Y34 F34
   have S41 : St w NoX [] w39 := S39.sel [] (by decide) V
   refine tk H36 (wp_ret ?_)
   refine ret_in (results_1 Try.results6 (rv_tmp (fg0 F40))) F40.d ?_
   exact ⟨rfl, S41.fin0⟩
  refine ⟨_, rfl, ?_⟩
  obtain ⟨cK_24, cA_24, hcK_24, hcA_24, hP24⟩ := gen2 hP24
  have S24 := S23.join hP24
  replace S24 : St w NoX [cK_24, cA_24, c23, c7, c_5] w24 := S24
  exact absurd hz_24 (by decide +kernel)
 refine ⟨_, rfl, ?_⟩
 obtain ⟨cK_17, cA_17, hcK_17, hcA_17, hP17⟩ := gen2 hP17
 have S17 := S16.join hP17
 replace S17 : St w NoX [cK_17, cA_17, c16, c7, c_5] w17 := S17
 exact absurd hz_17 (by decide +kernel)

end Go.Proofs.Ytpgkfndbfocibaa