import Derived.Test.YtpgkfndbfocibaaProg
import Derived.Test.YtpgkfndbfocibaaMs5
import Derived.Test.YtpgkfndbfocibaaPl29d
namespace Go.Proofs.Ytpgkfndbfocibaa
open Go.RowKit Go.Own Go.Own.R Go.Own.G Go.Own.Gr Go.Own.Ml

abbrev LimR := Value × Value × Value × Value
def limC (y : LimR) : List Value := [y.1, y.2.1, y.2.2.1, y.2.2.2]
theorem limC_len : ∀ a : LimR, (limC a).length = 4 := fun _ => rfl
def limL : List LimR := [((Value.string ⟨#[99, 97, 114, 115]⟩), Value.int .i64 7, Value.int .i64 24, Value.func (.func 88) #[] #[]), ((Value.string ⟨#[111, 102]⟩), Value.int .i64 8, Value.int .i64 64, Value.func (.func 89) #[] #[]), ((Value.string ⟨#[110, 117, 114, 115, 101, 114, 121]⟩), Value.int .i64 4, Value.int .i64 64, Value.func (.func 90) #[] #[]), ((Value.string ⟨#[114, 101, 103, 105, 115, 116, 101, 114, 115]⟩), Value.int .i64 1, Value.int .i64 8, Value.func (.func 91) #[] #[]), ((Value.string ⟨#[112, 111, 112, 117, 108, 97, 114]⟩), Value.int .i64 2, Value.int .i64 16, Value.func (.func 92) #[] #[])]
set_option maxHeartbeats 4000000 in
theorem klim1_c {g : Nat} {w : World}   :
  Calls Try.prog 88 #[.pointer (some ⟨g, 0, none⟩)] w fun e w' => e = .returned (.pointer (some ⟨g, 1, none⟩)) ∧ St w NoX [] w' := by
 refine calls_in 6 Try.func88 V V (by simp) (fun A0 Y0 hdf0 hargs => ?_)
 have l0_0 := hargs 0 (.pointer (some ⟨g, 0, none⟩)) V
 clear hargs; replace Y0 : SzN A0 6 := ⟨Y0⟩
 have hS := St.nil w
 refine wp_seq_k fun K1 H1 => region_in ?_
 refine W_v V V (V_asg V V) ?_
 refine W_end (gen_Q fun A2 E2 => ?_)
 have Y2 := szq E2
 have F2 := (fsE E2 (cq1 (FS.n hdf0) V)).c (lookE E2 0 (es V l0_0))
 clear E2 Y0 hdf0 l0_0
 refine tk H1 (wp_seq_k fun K3 H3 => region_in ?_)
 refine W_v V V (V_mov V (fg0 F2)) ?_
 refine W_v V V (V_nil V (et V)) ?_
 refine W_v V V (V_fa (off' := 1) V (et V) Try.underlying23 V (by decide +kernel) V) ?_
 refine W_v V V (V_asg V (et V)) ?_
 refine W_end (gen_Q fun A4 E4 => ?_)
 have Y4 := szq E4
 have F4 := fsE E4 (ck (cq3 F2 V) V V)
 clear E4 Y2 F2
 refine tk H3 (wp_ret ?_)
 refine ret_in (results_1 Try.results88 (rv_tmp (fg0 F4))) F4.d ?_
 exact ⟨rfl, hS.fin0⟩

set_option maxHeartbeats 4000000 in
theorem klim2_c {g : Nat} {w : World}   :
  Calls Try.prog 89 #[.pointer (some ⟨g, 0, none⟩)] w fun e w' => e = .returned (.pointer (some ⟨g, 0, none⟩)) ∧ St w NoX [] w' := by
 refine calls_in 6 Try.func89 V V (by simp) (fun A0 Y0 hdf0 hargs => ?_)
 have l0_0 := hargs 0 (.pointer (some ⟨g, 0, none⟩)) V
 clear hargs; replace Y0 : SzN A0 6 := ⟨Y0⟩
 have hS := St.nil w
 refine wp_seq_k fun K1 H1 => region_in ?_
 refine W_v V V (V_asg V V) ?_
 refine W_end (gen_Q fun A2 E2 => ?_)
 have Y2 := szq E2
 have F2 := (fsE E2 (cq1 (FS.n hdf0) V)).c (lookE E2 0 (es V l0_0))
 clear E2 Y0 hdf0 l0_0
 refine tk H1 (wp_seq_k fun K3 H3 => region_in ?_)
 refine W_v V V (V_mov V (fg0 F2)) ?_
 refine W_v V V (V_nil V (et V)) ?_
 refine W_v V V (V_fa (off' := 0) V (et V) Try.underlying23 V (by decide +kernel) V) ?_
 refine W_v V V (V_asg V (et V)) ?_
 refine W_end (gen_Q fun A4 E4 => ?_)
 have Y4 := szq E4
 have F4 := fsE E4 (ck (cq3 F2 V) V V)
 clear E4 Y2 F2
 refine tk H3 (wp_ret ?_)
 refine ret_in (results_1 Try.results89 (rv_tmp (fg0 F4))) F4.d ?_
 exact ⟨rfl, hS.fin0⟩

set_option maxHeartbeats 4000000 in
theorem klim3_c {g : Nat} {w : World}   :
  Calls Try.prog 90 #[.pointer (some ⟨g, 0, none⟩)] w fun e w' => e = .returned (.pointer (some ⟨g, 2, none⟩)) ∧ St w NoX [] w' := by
 refine calls_in 6 Try.func90 V V (by simp) (fun A0 Y0 hdf0 hargs => ?_)
 have l0_0 := hargs 0 (.pointer (some ⟨g, 0, none⟩)) V
 clear hargs; replace Y0 : SzN A0 6 := ⟨Y0⟩
 have hS := St.nil w
 refine wp_seq_k fun K1 H1 => region_in ?_
 refine W_v V V (V_asg V V) ?_
 refine W_end (gen_Q fun A2 E2 => ?_)
 have Y2 := szq E2
 have F2 := (fsE E2 (cq1 (FS.n hdf0) V)).c (lookE E2 0 (es V l0_0))
 clear E2 Y0 hdf0 l0_0
 refine tk H1 (wp_seq_k fun K3 H3 => region_in ?_)
 refine W_v V V (V_mov V (fg0 F2)) ?_
 refine W_v V V (V_nil V (et V)) ?_
 refine W_v V V (V_fa (off' := 2) V (et V) Try.underlying23 V (by decide +kernel) V) ?_
 refine W_v V V (V_asg V (et V)) ?_
 refine W_end (gen_Q fun A4 E4 => ?_)
 have Y4 := szq E4
 have F4 := fsE E4 (ck (cq3 F2 V) V V)
 clear E4 Y2 F2
 refine tk H3 (wp_ret ?_)
 refine ret_in (results_1 Try.results90 (rv_tmp (fg0 F4))) F4.d ?_
 exact ⟨rfl, hS.fin0⟩

set_option maxHeartbeats 4000000 in
theorem klim4_c {g : Nat} {w : World}   :
  Calls Try.prog 91 #[.pointer (some ⟨g, 0, none⟩)] w fun e w' => e = .returned (.pointer (some ⟨g, 3, none⟩)) ∧ St w NoX [] w' := by
 refine calls_in 6 Try.func91 V V (by simp) (fun A0 Y0 hdf0 hargs => ?_)
 have l0_0 := hargs 0 (.pointer (some ⟨g, 0, none⟩)) V
 clear hargs; replace Y0 : SzN A0 6 := ⟨Y0⟩
 have hS := St.nil w
 refine wp_seq_k fun K1 H1 => region_in ?_
 refine W_v V V (V_asg V V) ?_
 refine W_end (gen_Q fun A2 E2 => ?_)
 have Y2 := szq E2
 have F2 := (fsE E2 (cq1 (FS.n hdf0) V)).c (lookE E2 0 (es V l0_0))
 clear E2 Y0 hdf0 l0_0
 refine tk H1 (wp_seq_k fun K3 H3 => region_in ?_)
 refine W_v V V (V_mov V (fg0 F2)) ?_
 refine W_v V V (V_nil V (et V)) ?_
 refine W_v V V (V_fa (off' := 3) V (et V) Try.underlying23 V (by decide +kernel) V) ?_
 refine W_v V V (V_asg V (et V)) ?_
 refine W_end (gen_Q fun A4 E4 => ?_)
 have Y4 := szq E4
 have F4 := fsE E4 (ck (cq3 F2 V) V V)
 clear E4 Y2 F2
 refine tk H3 (wp_ret ?_)
 refine ret_in (results_1 Try.results91 (rv_tmp (fg0 F4))) F4.d ?_
 exact ⟨rfl, hS.fin0⟩

set_option maxHeartbeats 4000000 in
theorem klim5_c {g : Nat} {w : World}   :
  Calls Try.prog 92 #[.pointer (some ⟨g, 0, none⟩)] w fun e w' => e = .returned (.pointer (some ⟨g, 4, none⟩)) ∧ St w NoX [] w' := by
 refine calls_in 6 Try.func92 V V (by simp) (fun A0 Y0 hdf0 hargs => ?_)
 have l0_0 := hargs 0 (.pointer (some ⟨g, 0, none⟩)) V
 clear hargs; replace Y0 : SzN A0 6 := ⟨Y0⟩
 have hS := St.nil w
 refine wp_seq_k fun K1 H1 => region_in ?_
 refine W_v V V (V_asg V V) ?_
 refine W_end (gen_Q fun A2 E2 => ?_)
 have Y2 := szq E2
 have F2 := (fsE E2 (cq1 (FS.n hdf0) V)).c (lookE E2 0 (es V l0_0))
 clear E2 Y0 hdf0 l0_0
 refine tk H1 (wp_seq_k fun K3 H3 => region_in ?_)
 refine W_v V V (V_mov V (fg0 F2)) ?_
 refine W_v V V (V_nil V (et V)) ?_
 refine W_v V V (V_fa (off' := 4) V (et V) Try.underlying23 V (by decide +kernel) V) ?_
 refine W_v V V (V_asg V (et V)) ?_
 refine W_end (gen_Q fun A4 E4 => ?_)
 have Y4 := szq E4
 have F4 := fsE E4 (ck (cq3 F2 V) V V)
 clear E4 Y2 F2
 refine tk H3 (wp_ret ?_)
 refine ret_in (results_1 Try.results92 (rv_tmp (fg0 F4))) F4.d ?_
 exact ⟨rfl, hS.fin0⟩

set_option maxHeartbeats 4000000 in
theorem klims_c  {w : World}   :
  Calls Try.prog 81 #[] w fun e w' => ∃ v, e = .returned (v) ∧ St w NoX [ro 4 limC v limL] w' := by
 refine calls_in 7 Try.func81 V V (by simp) (fun A0 Y0 hdf0 hargs => ?_)
 clear hargs; replace Y0 : SzN A0 7 := ⟨Y0⟩
 have hS := St.nil w
 refine wp_seq_k fun K1 H1 => region_in ?_
 refine W_v V V (V_asg V V) ?_
 refine W_end (gen_Q fun A2 E2 => ?_)
 have Y2 := szq E2
 have F2 := fsE E2 (cq1 (FS.n hdf0) V)
 clear E2 Y0 hdf0
 refine tk H1 (wp_seq_k fun K3 H3 => region_in ?_)
 refine W_v V V (xbS (n := 4) (z := .agg #[.string ByteArray.empty, .int .i64 0, .int .i64 0, .nilFunc]) V (parts4 V V V V)) ?_
 refine W_v V V (xbS (n := 4) (z := .agg #[.string ByteArray.empty, .int .i64 0, .int .i64 0, .nilFunc]) V (parts4 V V V V)) ?_
 refine W_v V V (xbS (n := 4) (z := .agg #[.string ByteArray.empty, .int .i64 0, .int .i64 0, .nilFunc]) V (parts4 V V V V)) ?_
 refine W_v V V (xbS (n := 4) (z := .agg #[.string ByteArray.empty, .int .i64 0, .int .i64 0, .nilFunc]) V (parts4 V V V V)) ?_
 refine W_v V V (xbS (n := 4) (z := .agg #[.string ByteArray.empty, .int .i64 0, .int .i64 0, .nilFunc]) V (parts4 V V V V)) ?_
 have hll4 : [((Value.string ⟨#[99, 97, 114, 115]⟩), Value.int .i64 7, Value.int .i64 24, Value.func (.func 88) #[] #[]), ((Value.string ⟨#[111, 102]⟩), Value.int .i64 8, Value.int .i64 64, Value.func (.func 89) #[] #[]), ((Value.string ⟨#[110, 117, 114, 115, 101, 114, 121]⟩), Value.int .i64 4, Value.int .i64 64, Value.func (.func 90) #[] #[]), ((Value.string ⟨#[114, 101, 103, 105, 115, 116, 101, 114, 115]⟩), Value.int .i64 1, Value.int .i64 8, Value.func (.func 91) #[] #[]), ((Value.string ⟨#[112, 111, 112, 117, 108, 97, 114]⟩), Value.int .i64 2, Value.int .i64 16, Value.func (.func 92) #[] #[])].length = 5 := rfl
 refine xsL (vs := [.agg #[(Value.string ⟨#[99, 97, 114, 115]⟩), .int .i64 7, .int .i64 24, .func (.func 88) #[] #[]], .agg #[(Value.string ⟨#[111, 102]⟩), .int .i64 8, .int .i64 64, .func (.func 89) #[] #[]], .agg #[(Value.string ⟨#[110, 117, 114, 115, 101, 114, 121]⟩), .int .i64 4, .int .i64 64, .func (.func 90) #[] #[]], .agg #[(Value.string ⟨#[114, 101, 103, 105, 115, 116, 101, 114, 115]⟩), .int .i64 1, .int .i64 8, .func (.func 91) #[] #[]], .agg #[(Value.string ⟨#[112, 111, 112, 117, 108, 97, 114]⟩), .int .i64 2, .int .i64 16, .func (.func 92) #[] #[]]]) (xs := ([((Value.string ⟨#[99, 97, 114, 115]⟩), Value.int .i64 7, Value.int .i64 24, Value.func (.func 88) #[] #[]), ((Value.string ⟨#[111, 102]⟩), Value.int .i64 8, Value.int .i64 64, Value.func (.func 89) #[] #[]), ((Value.string ⟨#[110, 117, 114, 115, 101, 114, 121]⟩), Value.int .i64 4, Value.int .i64 64, Value.func (.func 90) #[] #[]), ((Value.string ⟨#[114, 101, 103, 105, 115, 116, 101, 114, 115]⟩), Value.int .i64 1, Value.int .i64 8, Value.func (.func 91) #[] #[]), ((Value.string ⟨#[112, 111, 112, 117, 108, 97, 114]⟩), Value.int .i64 2, Value.int .i64 16, Value.func (.func 92) #[] #[])].flatMap limC)) 4 hS V V V (parts5 (es4 V (et V)) (es3 V (et V)) (es2 V (et V)) (es V (et V)) (et V)) Try.underlying144 (fun g4 w4 c4 hc4 S4 => ?_)
 replace hc4 : c4 = ro 4 limC (.slice (some ⟨g4, 0, none⟩) 5 5) [((Value.string ⟨#[99, 97, 114, 115]⟩), Value.int .i64 7, Value.int .i64 24, Value.func (.func 88) #[] #[]), ((Value.string ⟨#[111, 102]⟩), Value.int .i64 8, Value.int .i64 64, Value.func (.func 89) #[] #[]), ((Value.string ⟨#[110, 117, 114, 115, 101, 114, 121]⟩), Value.int .i64 4, Value.int .i64 64, Value.func (.func 90) #[] #[]), ((Value.string ⟨#[114, 101, 103, 105, 115, 116, 101, 114, 115]⟩), Value.int .i64 1, Value.int .i64 8, Value.func (.func 91) #[] #[]), ((Value.string ⟨#[112, 111, 112, 117, 108, 97, 114]⟩), Value.int .i64 2, Value.int .i64 16, Value.func (.func 92) #[] #[])] := hc4
 replace S4 : St w NoX [c4] w4 := S4
 refine W_v V V (V_asg V (et V)) ?_
 refine W_end (gen_Q fun A5 E5 => ?_)
 have Y5 := szq E5
 have F5 := fsE E5 (ck (cq6 F2 V) V V)
 clear E5 Y2 F2
 refine tk H3 (wp_ret ?_)
 refine ret_in (results_1 Try.results81 (rv_tmp (fg0 F5))) F5.d ?_
 exact ⟨_, rfl, (S4.fin1 0 V (hc4))⟩

set_option maxHeartbeats 4000000 in
theorem kcfg_c {C : Int} {N : Int} {Z : Int} {K : Int} {Q : Int} {w : World}   :
  Calls Try.prog 65 #[.agg #[.int .i64 C, .int .i64 N, .int .i64 Z, .int .i64 K, .int .i64 Q]] w fun e w' => e = .returned (.int .i64 (cfE C N Z K Q)) ∧ St w NoX [] w' := by
 refine calls_in 28 Try.func65 V V (by simp) (fun A0 Y0 hdf0 hargs => ?_)
 have l0_0 := hargs 0 (.agg #[.int .i64 C, .int .i64 N, .int .i64 Z, .int .i64 K, .int .i64 Q]) V
 clear hargs; replace Y0 : SzN A0 28 := ⟨Y0⟩
 have hS := St.nil w
 refine wp_seq_k fun K1 H1 => region_in ?_
 refine W_boxS (zs := #[.int .i64 (C), .int .i64 (N), .int .i64 (Z), .int .i64 (K), .int .i64 (Q)]) hS V V V l0_0 (by rfl) (fun g2 w2 c2 hc2 S2 => ?_)
 replace S2 : St w NoX [c2] w2 := S2
 refine W_v V V (V_asg V V) ?_
 refine W_end (gen_Q fun A3 E3 => ?_)
 have Y3 := szq E3
 have F3 := fsE E3 (cq1 (ck (FS.n hdf0) V V) V)
 clear E3 Y0 hdf0 l0_0
 refine tk H1 (wp_seq_k fun K4 H4 => ?_)
 refine wp_seq_k fun K5 H5 => region_in ?_
 refine W_call V V V Try.func81 (by kernel_rfl) V (args0) (klims_c  ) ?_
 rintro _ w6 ⟨v_6, rfl, hP6⟩
 refine ⟨_, rfl, ?_⟩
 obtain ⟨c_6, hc_6, hP6⟩ := gen1 hP6
 have S6 := S2.join hP6
 replace S6 : St w NoX [c_6, c2] w6 := S6
 refine W_v V V (V_lenS V (et V) (ow_at (S6.chq 0 V hc_6)) Try.underlying144) ?_
 refine W_v V V (V_mov V V) ?_
 refine W_end (gen_Q fun A7 E7 => ?_)
 have Y7 := szq E7
 have F7 := fsE E7 (ck (ck (ck F3 V V) V V) V V)
 clear E7 Y3 F3
 refine tk H5 (wp_block ?_)
 -- loop 2, round by round
 refine loopL ?_
 refine LW_step ?_
 have l8_8 : EV A7 (.tmp 8) = .int .i64 (0 : Int) := (fg0 F7)
 refine wp_seq_k fun K9 H9 => region_in ?_
 refine W_v V V (V_lss V l8_8 (fg1 F7)) ?_
 refine W_end (gen_Q fun A10 E10 => ?_)
 have Y10 := szq E10
 have F10 := (fsE E10 (ck (fx0 F7) V V)).c (lookE E10 8 (es V l8_8))
 clear E10 Y7 F7 l8_8
 refine tk H9 (wp_seq_k fun K11 H11 => ?_)
 refine cond_sure (fg1 F10) (by decide +kernel) ?_
 refine wp_skip ?_
 refine tk H11 (wp_seq_k fun K12 H12 => ?_)
 refine wp_block ?_
 refine wp_seq_k fun K13 H13 => region_in ?_
 have k14 : 0 < limL.length := by first | (simp; done) | decide +kernel
 obtain ⟨B14, O14, C14, hv14⟩ := (SlN.blk (ow_at (S6.chq 0 rfl hc_6)) (by first | (simp; done) | decide +kernel))
 refine W_v V V (V_ixS (off := O14 + 0 * 4) 4 (0) V (fg3 F10) (fg0 F10) hv14 (by omega) k14 Try.underlying144 (by kernel_rfl) V) ?_
 refine W_r V V (VR_ldR (ys := limC ((Value.string ⟨#[99, 97, 114, 115]⟩), Value.int .i64 7, Value.int .i64 24, Value.func (.func 88) #[] #[])) V (et V) (SlN.row limC_len (ow_at (S6.chq 0 V hc_6)) hv14 (show limL[0]? = some ((Value.string ⟨#[99, 97, 114, 115]⟩), Value.int .i64 7, Value.int .i64 24, Value.func (.func 88) #[] #[]) from rfl) V) Try.underlying148 V (by kernel_rfl)) ?_
 refine W_allocS (z := .agg #[.string ByteArray.empty, .int .i64 0, .int .i64 0, .nilFunc]) (zs := #[.string ByteArray.empty, .int .i64 0, .int .i64 0, .nilFunc]) S6 V V V (by kernel_rfl) (by rfl) (fun g15 w15 c15 hc15 S15 => ?_)
 replace S15 : St w NoX [c15, c_6, c2] w15 := S15
 refine xsA 0 S15 V hc15 V V V (et V) (es V (et V)) (fun w16 c16 hc16 S16 => ?_)
 replace S16 : St w NoX [c16, c_6, c2] w16 := S16
 refine W_end (gen_Q fun A17 E17 => ?_)
 have Y17 := szq E17
 have F17 := fsE E17 (ck (cq2 F10 V) V V)
 clear E17 Y10 F10
 refine tk H13 (wp_seq_k fun K18 H18 => region_in ?_)
 refine W_v V V (V_fa (off' := 3) V (fg0 F17) Try.underlying148 V (by decide +kernel) V) ?_
 refine W_r V V (xlC (v := .func (.func 88) #[] #[]) V (et V) (S16.obj 0 V hc16) Try.underlying146) ?_
 refine W_callV V V V (et V) Try.func88 (by kernel_rfl) V (args1 (es2 V (fg5 F17))) (klim1_c (g := g2)  ) ?_
 rintro _ w19 ⟨rfl, hP19⟩
 refine ⟨_, rfl, ?_⟩
 have S19 := S16.join hP19
 replace S19 : St w NoX [c16, c_6, c2] w19 := S19
 refine W_v V V (V_nil V (et V)) ?_
 refine W_r V V (xlC (v := .int .i64 (N)) V (et V) (S19.obj 2 V hc2) Try.underlying3) ?_
 refine W_v V V (V_asg V (et V)) ?_
 refine W_end (gen_Q fun A20 E20 => ?_)
 have Y20 := szq E20
 have F20 := fsE E20 (ck (cq5 F17 V) V V)
 clear E20 Y17 F17
 refine tk H18 (wp_seq_k fun K21 H21 => region_in ?_)
 refine W_v V V (V_mov V (fg0 F20)) ?_
 refine W_v V V (V_fa (off' := 1) V (es V (fg1 F20)) Try.underlying148 V (by decide +kernel) V) ?_
 refine W_r V V (xlC (v := .int .i64 7) V (et V) (S19.obj 0 V hc16) Try.underlying3) ?_
 refine W_v V V (V_lss V (es2 V (et V)) (et V)) ?_
 refine W_split V V (V_mov V (et V)) (fun c22 => ?_) (fun c22 => ?_)
 ·refine xof V V V (et V) (xof V V V (es V (et V)) (xof V V V (es2 V (et V)) (xof V V V (es3 V (et V)) ?_)))
  refine W_v V V (V_pickT V (es4 V (et V)) V) ?_
  refine W_end (gen_Q fun A23 E23 => ?_)
  have Y23 := szq E23
  have F23 := fsE E23 (ck (ck (ck (ck (ck (cq5 F20 V) V V) V V) V V) V V) V V)
  clear E23 Y20 F20
  have S24 : St w NoX [c_6, c2] w19 := S19.sel [1, 2] (by decide) V
  refine tk H21 ?_
  refine cond_t (fg0 F23) ?_
  refine wp_seq_k fun K25 H25 => region_in ?_
  refine W_v V V (V_asg V V) ?_
  refine W_end (gen_Q fun A26 E26 => ?_)
  have Y26 := szq E26
  have F26 := fsE E26 (ck F23 V V)
  clear E26 Y23 F23
  have S27 : St w NoX [] w19 := S24.sel [] (by decide) V
  refine tk H25 (wp_ret (inb_ret (then_ret (then_ret (inb_ret (then_ret ?_))))))
  refine ret_in (results_1 Try.results65 (rv_tmp (fg0 F26))) F26.d ?_
  have he : (cfE C N Z K Q) = 7 := cf_bad (by omega)
  rw [he]
  exact ⟨rfl, S27.fin0⟩
 refine W_v V (xwt V V (et V)) (V_mov V (es5 V (fg0 F20))) ?_
 refine W_v V (xwt V V (es V (et V))) (V_fa (off' := 2) V (es6 V (fg1 F20)) Try.underlying148 V (by decide +kernel) V) ?_
 refine W_r V (xwt V V (es2 V (et V))) (xlC (v := .int .i64 24) V (et V) (S19.obj 0 V hc16) Try.underlying3) ?_
 refine W_v V (xwt V V (es3 V (et V))) (V_gtr V (es2 V (et V)) (et V)) ?_
 refine W_v V V (V_pickF V (es4 V (et V)) (et V)) ?_
 refine W_end (gen_Q fun A28 E28 => ?_)
 have Y28 := szq E28
 have F28 := fsE E28 (ck (ck (ck (ck (ck (cq5 F20 V) V V) V V) V V) V V) V V)
 clear E28 Y20 F20
 refine tk H21 ?_
 refine cond_dec (fg0 F28) (fun c29 => ?_) (fun c29 => ?_)
 ·refine wp_seq_k fun K30 H30 => region_in ?_
  refine W_v V V (V_asg V V) ?_
  refine W_end (gen_Q fun A31 E31 => ?_)
  have Y31 := szq E31
  have F31 := fsE E31 (ck F28 V V)
  clear E31 Y28 F28
  have S32 : St w NoX [] w19 := S19.sel [] (by decide) V
  refine tk H30 (wp_ret (inb_ret (then_ret (then_ret (inb_ret (then_ret ?_))))))
  refine ret_in (results_1 Try.results65 (rv_tmp (fg0 F31))) F31.d ?_
  have he : (cfE C N Z K Q) = 7 := cf_bad (by omega)
  rw [he]
  exact ⟨rfl, S32.fin0⟩
 refine wp_skip (inb_n (tk H12 ?_))
 refine region_in ?_
 refine W_v V V (V_add V (fg7 F28) V (by omega) (by omega)) ?_
 refine W_v V V (V_mov V (et V)) ?_
 refine W_end (gen_Q fun A33 E33 => ?_)
 have Y33 := szq E33
 have F33 := fsE E33 (ck (cq1 (fx7 F28) V) V V)
 clear E33 Y28 F28
 refine then_n ?_
 refine LW_step ?_
 have l8_34 : EV A33 (.tmp 8) = .int .i64 (1 : Int) := (fg0 F33)
 refine wp_seq_k fun K35 H35 => region_in ?_
 refine W_v V V (V_lss V l8_34 (fg9 F33)) ?_
 refine W_end (gen_Q fun A36 E36 => ?_)
 have Y36 := szq E36
 have F36 := (fsE E36 (ck (fx7 (fx0 F33)) V V)).c (lookE E36 8 (es V l8_34))
 clear E36 Y33 F33 l8_34
 refine tk H35 (wp_seq_k fun K37 H37 => ?_)
 refine cond_sure (fg1 F36) (by decide +kernel) ?_
 refine wp_skip ?_
 refine tk H37 (wp_seq_k fun K38 H38 => ?_)
 refine wp_block ?_
 refine wp_seq_k fun K39 H39 => region_in ?_
 have k40 : 1 < limL.length := by first | (simp; done) | decide +kernel
 refine W_v V V (V_ixS (off := O14 + 1 * 4) 4 (1) V (fg10 F36) (fg0 F36) hv14 (by omega) k40 Try.underlying144 (by kernel_rfl) V) ?_
 refine W_r V V (VR_ldR (ys := limC ((Value.string ⟨#[111, 102]⟩), Value.int .i64 8, Value.int .i64 64, Value.func (.func 89) #[] #[])) V (et V) (SlN.row limC_len (ow_at (S19.chq 1 V hc_6)) hv14 (show limL[1]? = some ((Value.string ⟨#[111, 102]⟩), Value.int .i64 8, Value.int .i64 64, Value.func (.func 89) #[] #[]) from rfl) V) Try.underlying148 V (by kernel_rfl)) ?_
 refine W_allocS (z := .agg #[.string ByteArray.empty, .int .i64 0, .int .i64 0, .nilFunc]) (zs := #[.string ByteArray.empty, .int .i64 0, .int .i64 0, .nilFunc]) S19 V V V (by kernel_rfl) (by rfl) (fun g41 w41 c41 hc41 S41 => ?_)
 replace S41 : St w NoX [c41, c16, c_6, c2] w41 := S41
 refine xsA 0 S41 V hc41 V V V (et V) (es V (et V)) (fun w42 c42 hc42 S42 => ?_)
 replace S42 : St w NoX [c42, c16, c_6, c2] w42 := S42
 refine W_end (gen_Q fun A43 E43 => ?_)
 have Y43 := szq E43
 have F43 := fsE E43 (ck (cq2 (fx8 F36) V) V V)
 clear E43 Y36 F36
 refine tk H39 (wp_seq_k fun K44 H44 => region_in ?_)
 refine W_v V V (V_fa (off' := 3) V (fg0 F43) Try.underlying148 V (by decide +kernel) V) ?_
 refine W_r V V (xlC (v := .func (.func 89) #[] #[]) V (et V) (S42.obj 0 V hc42) Try.underlying146) ?_
 refine W_callV V V V (et V) Try.func89 (by kernel_rfl) V (args1 (es2 V (fg11 F43))) (klim2_c (g := g2)  ) ?_
 rintro _ w45 ⟨rfl, hP45⟩
 refine ⟨_, rfl, ?_⟩
 have S45 := S42.join hP45
 replace S45 : St w NoX [c42, c16, c_6, c2] w45 := S45
 refine W_v V V (V_nil V (et V)) ?_
 refine W_r V V (xlC (v := .int .i64 (C)) V (et V) (S45.obj 3 V hc2) Try.underlying3) ?_
 refine W_v V V (V_asg V (et V)) ?_
 refine W_end (gen_Q fun A46 E46 => ?_)
 have Y46 := szq E46
 have F46 := fsE E46 (ck (cq5 (fx8 F43) V) V V)
 clear E46 Y43 F43
 refine tk H44 (wp_seq_k fun K47 H47 => region_in ?_)
 refine W_v V V (V_mov V (fg0 F46)) ?_
 refine W_v V V (V_fa (off' := 1) V (es V (fg1 F46)) Try.underlying148 V (by decide +kernel) V) ?_
 refine W_r V V (xlC (v := .int .i64 8) V (et V) (S45.obj 0 V hc42) Try.underlying3) ?_
 refine W_v V V (V_lss V (es2 V (et V)) (et V)) ?_
 refine W_split V V (V_mov V (et V)) (fun c48 => ?_) (fun c48 => ?_)
 ·refine xof V V V (et V) (xof V V V (es V (et V)) (xof V V V (es2 V (et V)) (xof V V V (es3 V (et V)) ?_)))
  refine W_v V V (V_pickT V (es4 V (et V)) V) ?_
  refine W_end (gen_Q fun A49 E49 => ?_)
  have Y49 := szq E49
  have F49 := fsE E49 (ck (ck (ck (ck (ck (cq5 (fx4 (fx4 (fx4 (fx4 (fx4 F46))))) V) V V) V V) V V) V V) V V)
  clear E49 Y46 F46
  have S50 : St w NoX [c_6, c2] w45 := S45.sel [2, 3] (by decide) V
  refine tk H47 ?_
  refine cond_t (fg0 F49) ?_
  refine wp_seq_k fun K51 H51 => region_in ?_
  refine W_v V V (V_asg V V) ?_
  refine W_end (gen_Q fun A52 E52 => ?_)
  have Y52 := szq E52
  have F52 := fsE E52 (ck F49 V V)
  clear E52 Y49 F49
  have S53 : St w NoX [] w45 := S50.sel [] (by decide) V
  refine tk H51 (wp_ret (inb_ret (then_ret (then_ret (inb_ret (then_ret ?_))))))
  refine ret_in (results_1 Try.results65 (rv_tmp (fg0 F52))) F52.d ?_
  have he : (cfE C N Z K Q) = 7 := cf_bad (by omega)
  rw [he]
  exact ⟨rfl, S53.fin0⟩
 refine W_v V (xwt V V (et V)) (V_mov V (es5 V (fg0 F46))) ?_
 refine W_v V (xwt V V (es V (et V))) (V_fa (off' := 2) V (es6 V (fg1 F46)) Try.underlying148 V (by decide +kernel) V) ?_
 refine W_r V (xwt V V (es2 V (et V))) (xlC (v := .int .i64 64) V (et V) (S45.obj 0 V hc42) Try.underlying3) ?_
 refine W_v V (xwt V V (es3 V (et V))) (V_gtr V (es2 V (et V)) (et V)) ?_
 refine W_v V V (V_pickF V (es4 V (et V)) (et V)) ?_
 refine W_end (gen_Q fun A54 E54 => ?_)
 have Y54 := szq E54
 have F54 := fsE E54 (ck (ck (ck (ck (ck (cq5 (fx4 (fx4 (fx4 (fx4 (fx4 F46))))) V) V V) V V) V V) V V) V V)
 clear E54 Y46 F46
 have S55 : St w NoX [c42, c_6, c2] w45 := S45.sel [0, 2, 3] (by decide) V
 refine tk H47 ?_
 refine cond_dec (fg0 F54) (fun c56 => ?_) (fun c56 => ?_)
 ·refine wp_seq_k fun K57 H57 => region_in ?_
  refine W_v V V (V_asg V V) ?_
  refine W_end (gen_Q fun A58 E58 => ?_)
  have Y58 := szq E58
  have F58 := fsE E58 (ck F54 V V)
  clear E58 Y54 F54
  have S59 : St w NoX [] w45 := S55.sel [] (by decide) V
  refine tk H57 (wp_ret (inb_ret (then_ret (then_ret (inb_ret (then_ret ?_))))))
  refine ret_in (results_1 Try.results65 (rv_tmp (fg0 F58))) F58.d ?_
  have he : (cfE C N Z K Q) = 7 := cf_bad (by omega)
  rw [he]
  exact ⟨rfl, S59.fin0⟩
 refine wp_skip (inb_n (tk H38 ?_))
 refine region_in ?_
 refine W_v V V (V_add V (fg7 F54) V (by omega) (by omega)) ?_
 refine W_v V V (V_mov V (et V)) ?_
 refine W_end (gen_Q fun A60 E60 => ?_)
 have Y60 := szq E60
 have F60 := fsE E60 (ck (cq1 (fx7 F54) V) V V)
 clear E60 Y54 F54
 refine then_n ?_
 refine LW_step ?_
 have l8_61 : EV A60 (.tmp 8) = .int .i64 (2 : Int) := (fg0 F60)
 refine wp_seq_k fun K62 H62 => region_in ?_
 refine W_v V V (V_lss V l8_61 (fg9 F60)) ?_
 refine W_end (gen_Q fun A63 E63 => ?_)
 have Y63 := szq E63
 have F63 := (fsE E63 (ck (fx7 (fx0 F60)) V V)).c (lookE E63 8 (es V l8_61))
 clear E63 Y60 F60 l8_61
 refine tk H62 (wp_seq_k fun K64 H64 => ?_)
 refine cond_sure (fg1 F63) (by decide +kernel) ?_
 refine wp_skip ?_
 refine tk H64 (wp_seq_k fun K65 H65 => ?_)
 refine wp_block ?_
 refine wp_seq_k fun K66 H66 => region_in ?_
 have k67 : 2 < limL.length := by first | (simp; done) | decide +kernel
 refine W_v V V (V_ixS (off := O14 + 2 * 4) 4 (2) V (fg10 F63) (fg0 F63) hv14 (by omega) k67 Try.underlying144 (by kernel_rfl) V) ?_
 refine W_r V V (VR_ldR (ys := limC ((Value.string ⟨#[110, 117, 114, 115, 101, 114, 121]⟩), Value.int .i64 4, Value.int .i64 64, Value.func (.func 90) #[] #[])) V (et V) (SlN.row limC_len (ow_at (S55.chq 1 V hc_6)) hv14 (show limL[2]? = some ((Value.string ⟨#[110, 117, 114, 115, 101, 114, 121]⟩), Value.int .i64 4, Value.int .i64 64, Value.func (.func 90) #[] #[]) from rfl) V) Try.underlying148 V (by kernel_rfl)) ?_
 refine W_allocS (z := .agg #[.string ByteArray.empty, .int .i64 0, .int .i64 0, .nilFunc]) (zs := #[.string ByteArray.empty, .int .i64 0, .int .i64 0, .nilFunc]) S55 V V V (by kernel_rfl) (by rfl) (fun g68 w68 c68 hc68 S68 => ?_)
 replace S68 : St w NoX [c68, c42, c_6, c2] w68 := S68
 refine xsA 0 S68 V hc68 V V V (et V) (es V (et V)) (fun w69 c69 hc69 S69 => ?_)
 replace S69 : St w NoX [c69, c42, c_6, c2] w69 := S69
 refine W_end (gen_Q fun A70 E70 => ?_)
 have Y70 := szq E70
 have F70 := fsE E70 (ck (cq2 (fx8 F63) V) V V)
 clear E70 Y63 F63
 refine tk H66 (wp_seq_k fun K71 H71 => region_in ?_)
 refine W_v V V (V_fa (off' := 3) V (fg0 F70) Try.underlying148 V (by decide +kernel) V) ?_
 refine W_r V V (xlC (v := .func (.func 90) #[] #[]) V (et V) (S69.obj 0 V hc69) Try.underlying146) ?_
 refine W_callV V V V (et V) Try.func90 (by kernel_rfl) V (args1 (es2 V (fg11 F70))) (klim3_c (g := g2)  ) ?_
 rintro _ w72 ⟨rfl, hP72⟩
 refine ⟨_, rfl, ?_⟩
 have S72 := S69.join hP72
 replace S72 : St w NoX [c69, c42, c_6, c2] w72 := S72
 refine W_v V V (V_nil V (et V)) ?_
 refine W_r V V (xlC (v := .int .i64 (Z)) V (et V) (S72.obj 3 V hc2) Try.underlying3) ?_
 refine W_v V V (V_asg V (et V)) ?_
 refine W_end (gen_Q fun A73 E73 => ?_)
 have Y73 := szq E73
 have F73 := fsE E73 (ck (cq5 (fx8 F70) V) V V)
 clear E73 Y70 F70
 refine tk H71 (wp_seq_k fun K74 H74 => region_in ?_)
 refine W_v V V (V_mov V (fg0 F73)) ?_
 refine W_v V V (V_fa (off' := 1) V (es V (fg1 F73)) Try.underlying148 V (by decide +kernel) V) ?_
 refine W_r V V (xlC (v := .int .i64 4) V (et V) (S72.obj 0 V hc69) Try.underlying3) ?_
 refine W_v V V (V_lss V (es2 V (et V)) (et V)) ?_
 refine W_split V V (V_mov V (et V)) (fun c75 => ?_) (fun c75 => ?_)
 ·refine xof V V V (et V) (xof V V V (es V (et V)) (xof V V V (es2 V (et V)) (xof V V V (es3 V (et V)) ?_)))
  refine W_v V V (V_pickT V (es4 V (et V)) V) ?_
  refine W_end (gen_Q fun A76 E76 => ?_)
  have Y76 := szq E76
  have F76 := fsE E76 (ck (ck (ck (ck (ck (cq5 (fx4 (fx4 (fx4 (fx4 (fx4 F73))))) V) V V) V V) V V) V V) V V)
  clear E76 Y73 F73
  have S77 : St w NoX [c_6, c2] w72 := S72.sel [2, 3] (by decide) V
  refine tk H74 ?_
  refine cond_t (fg0 F76) ?_
  refine wp_seq_k fun K78 H78 => region_in ?_
  refine W_v V V (V_asg V V) ?_
  refine W_end (gen_Q fun A79 E79 => ?_)
  have Y79 := szq E79
  have F79 := fsE E79 (ck F76 V V)
  clear E79 Y76 F76
  have S80 : St w NoX [] w72 := S77.sel [] (by decide) V
  refine tk H78 (wp_ret (inb_ret (then_ret (then_ret (inb_ret (then_ret ?_))))))
  refine ret_in (results_1 Try.results65 (rv_tmp (fg0 F79))) F79.d ?_
  have he : (cfE C N Z K Q) = 7 := cf_bad (by omega)
  rw [he]
  exact ⟨rfl, S80.fin0⟩
 refine W_v V (xwt V V (et V)) (V_mov V (es5 V (fg0 F73))) ?_
 refine W_v V (xwt V V (es V (et V))) (V_fa (off' := 2) V (es6 V (fg1 F73)) Try.underlying148 V (by decide +kernel) V) ?_
 refine W_r V (xwt V V (es2 V (et V))) (xlC (v := .int .i64 64) V (et V) (S72.obj 0 V hc69) Try.underlying3) ?_
 refine W_v V (xwt V V (es3 V (et V))) (V_gtr V (es2 V (et V)) (et V)) ?_
 refine W_v V V (V_pickF V (es4 V (et V)) (et V)) ?_
 refine W_end (gen_Q fun A81 E81 => ?_)
 have Y81 := szq E81
 have F81 := fsE E81 (ck (ck (ck (ck (ck (cq5 (fx4 (fx4 (fx4 (fx4 (fx4 F73))))) V) V V) V V) V V) V V) V V)
 clear E81 Y73 F73
 have S82 : St w NoX [c69, c_6, c2] w72 := S72.sel [0, 2, 3] (by decide) V
 refine tk H74 ?_
 refine cond_dec (fg0 F81) (fun c83 => ?_) (fun c83 => ?_)
 ·refine wp_seq_k fun K84 H84 => region_in ?_
  refine W_v V V (V_asg V V) ?_
  refine W_end (gen_Q fun A85 E85 => ?_)
  have Y85 := szq E85
  have F85 := fsE E85 (ck F81 V V)
  clear E85 Y81 F81
  have S86 : St w NoX [] w72 := S82.sel [] (by decide) V
  refine tk H84 (wp_ret (inb_ret (then_ret (then_ret (inb_ret (then_ret ?_))))))
  refine ret_in (results_1 Try.results65 (rv_tmp (fg0 F85))) F85.d ?_
  have he : (cfE C N Z K Q) = 7 := cf_bad (by omega)
  rw [he]
  exact ⟨rfl, S86.fin0⟩
 refine wp_skip (inb_n (tk H65 ?_))
 refine region_in ?_
 refine W_v V V (V_add V (fg7 F81) V (by omega) (by omega)) ?_
 refine W_v V V (V_mov V (et V)) ?_
 refine W_end (gen_Q fun A87 E87 => ?_)
 have Y87 := szq E87
 have F87 := fsE E87 (ck (cq1 (fx7 F81) V) V V)
 clear E87 Y81 F81
 refine then_n ?_
 refine LW_step ?_
 have l8_88 : EV A87 (.tmp 8) = .int .i64 (3 : Int) := (fg0 F87)
 refine wp_seq_k fun K89 H89 => region_in ?_
 refine W_v V V (V_lss V l8_88 (fg9 F87)) ?_
 refine W_end (gen_Q fun A90 E90 => ?_)
 have Y90 := szq E90
 have F90 := (fsE E90 (ck (fx7 (fx0 F87)) V V)).c (lookE E90 8 (es V l8_88))
 clear E90 Y87 F87 l8_88
 refine tk H89 (wp_seq_k fun K91 H91 => ?_)
 refine cond_sure (fg1 F90) (by decide +kernel) ?_
 refine wp_skip ?_
 refine tk H91 (wp_seq_k fun K92 H92 => ?_)
 refine wp_block ?_
 refine wp_seq_k fun K93 H93 => region_in ?_
 have k94 : 3 < limL.length := by first | (simp; done) | decide +kernel
 refine W_v V V (V_ixS (off := O14 + 3 * 4) 4 (3) V (fg10 F90) (fg0 F90) hv14 (by omega) k94 Try.underlying144 (by kernel_rfl) V) ?_
 refine W_r V V (VR_ldR (ys := limC ((Value.string ⟨#[114, 101, 103, 105, 115, 116, 101, 114, 115]⟩), Value.int .i64 1, Value.int .i64 8, Value.func (.func 91) #[] #[])) V (et V) (SlN.row limC_len (ow_at (S82.chq 1 V hc_6)) hv14 (show limL[3]? = some ((Value.string ⟨#[114, 101, 103, 105, 115, 116, 101, 114, 115]⟩), Value.int .i64 1, Value.int .i64 8, Value.func (.func 91) #[] #[]) from rfl) V) Try.underlying148 V (by kernel_rfl)) ?_
 refine W_allocS (z := .agg #[.string ByteArray.empty, .int .i64 0, .int .i64 0, .nilFunc]) (zs := #[.string ByteArray.empty, .int .i64 0, .int .i64 0, .nilFunc]) S82 V V V (by kernel_rfl) (by rfl) (fun g95 w95 c95 hc95 S95 => ?_)
 replace S95 : St w NoX [c95, c69, c_6, c2] w95 := S95
 refine xsA 0 S95 V hc95 V V V (et V) (es V (et V)) (fun w96 c96 hc96 S96 => ?_)
 replace S96 : St w NoX [c96, c69, c_6, c2] w96 := S96
 refine W_end (gen_Q fun A97 E97 => ?_)
 have Y97 := szq E97
 have F97 := fsE E97 (ck (cq2 (fx8 F90) V) V V)
 clear E97 Y90 F90
 refine tk H93 (wp_seq_k fun K98 H98 => region_in ?_)
 refine W_v V V (V_fa (off' := 3) V (fg0 F97) Try.underlying148 V (by decide +kernel) V) ?_
 refine W_r V V (xlC (v := .func (.func 91) #[] #[]) V (et V) (S96.obj 0 V hc96) Try.underlying146) ?_
 refine W_callV V V V (et V) Try.func91 (by kernel_rfl) V (args1 (es2 V (fg11 F97))) (klim4_c (g := g2)  ) ?_
 rintro _ w99 ⟨rfl, hP99⟩
 refine ⟨_, rfl, ?_⟩
 have S99 := S96.join hP99
 replace S99 : St w NoX [c96, c69, c_6, c2] w99 := S99
 refine W_v V V (V_nil V (et V)) ?_
 refine W_r V V (xlC (v := .int .i64 (K)) V (et V) (S99.obj 3 V hc2) Try.underlying3) ?_
 refine W_v V V (V_asg V (et V)) ?_
 refine W_end (gen_Q fun A100 E100 => ?_)
 have Y100 := szq E100
 have F100 := fsE E100 (ck (cq5 (fx8 F97) V) V V)
 clear E100 Y97 F97
 refine tk H98 (wp_seq_k fun K101 H101 => region_in ?_)
 refine W_v V V (V_mov V (fg0 F100)) ?_
 refine W_v V V (V_fa (off' := 1) V (es V (fg1 F100)) Try.underlying148 V (by decide +kernel) V) ?_
 refine W_r V V (xlC (v := .int .i64 1) V (et V) (S99.obj 0 V hc96) Try.underlying3) ?_
 refine W_v V V (V_lss V (es2 V (et V)) (et V)) ?_
 refine W_split V V (V_mov V (et V)) (fun c102 => ?_) (fun c102 => ?_)
 ·refine xof V V V (et V) (xof V V V (es V (et V)) (xof V V V (es2 V (et V)) (xof V V V (es3 V (et V)) ?_)))
  refine W_v V V (V_pickT V (es4 V (et V)) V) ?_
  refine W_end (gen_Q fun A103 E103 => ?_)
  have Y103 := szq E103
  have F103 := fsE E103 (ck (ck (ck (ck (ck (cq5 (fx4 (fx4 (fx4 (fx4 (fx4 F100))))) V) V V) V V) V V) V V) V V)
  clear E103 Y100 F100
  have S104 : St w NoX [c_6, c2] w99 := S99.sel [2, 3] (by decide) V
  refine tk H101 ?_
  refine cond_t (fg0 F103) ?_
  refine wp_seq_k fun K105 H105 => region_in ?_
  refine W_v V V (V_asg V V) ?_
  refine W_end (gen_Q fun A106 E106 => ?_)
  have Y106 := szq E106
  have F106 := fsE E106 (ck F103 V V)
  clear E106 Y103 F103
  have S107 : St w NoX [] w99 := S104.sel [] (by decide) V
  refine tk H105 (wp_ret (inb_ret (then_ret (then_ret (inb_ret (then_ret ?_))))))
  refine ret_in (results_1 Try.results65 (rv_tmp (fg0 F106))) F106.d ?_
  have he : (cfE C N Z K Q) = 7 := cf_bad (by omega)
  rw [he]
  exact ⟨rfl, S107.fin0⟩
 refine W_v V (xwt V V (et V)) (V_mov V (es5 V (fg0 F100))) ?_
 refine W_v V (xwt V V (es V (et V))) (V_fa (off' := 2) V (es6 V (fg1 F100)) Try.underlying148 V (by decide +kernel) V) ?_
 refine W_r V (xwt V V (es2 V (et V))) (xlC (v := .int .i64 8) V (et V) (S99.obj 0 V hc96) Try.underlying3) ?_
 refine W_v V (xwt V V (es3 V (et V))) (V_gtr V (es2 V (et V)) (et V)) ?_
 refine W_v V V (V_pickF V (es4 V (et V)) (et V)) ?_
 refine W_end (gen_Q fun A108 E108 => ?_)
 have Y108 := szq E108
 have F108 := fsE E108 (ck (ck (ck (ck (ck (cq5 (fx4 (fx4 (fx4 (fx4 (fx4 F100))))) V) V V) V V) V V) V V) V V)
 clear E108 Y100 F100
 have S109 : St w NoX [c96, c_6, c2] w99 := S99.sel [0, 2, 3] (by decide) V
 refine tk H101 ?_
 refine cond_dec (fg0 F108) (fun c110 => ?_) (fun c110 => ?_)
 ·refine wp_seq_k fun K111 H111 => region_in ?_
  refine W_v V V (V_asg V V) ?_
  refine W_end (gen_Q fun A112 E112 => ?_)
  have Y112 := szq E112
  have F112 := fsE E112 (ck F108 V V)
  clear E112 Y108 F108
  have S113 : St w NoX [] w99 := S109.sel [] (by decide) V
  refine tk H111 (wp_ret (inb_ret (then_ret (then_ret (inb_ret (then_ret ?_))))))
  refine ret_in (results_1 Try.results65 (rv_tmp (fg0 F112))) F112.d ?_
  have he : (cfE C N Z K Q) = 7 := cf_bad (by omega)
  rw [he]
  exact ⟨rfl, S113.fin0⟩
 refine wp_skip (inb_n (tk H92 ?_))
 refine region_in ?_
 refine W_v V V (V_add V (fg7 F108) V (by omega) (by omega)) ?_
 refine W_v V V (V_mov V (et V)) ?_
 refine W_end (gen_Q fun A114 E114 => ?_)
 have Y114 := szq E114
 have F114 := fsE E114 (ck (cq1 (fx7 F108) V) V V)
 clear E114 Y108 F108
 refine then_n ?_
 refine LW_step ?_
 have l8_115 : EV A114 (.tmp 8) = .int .i64 (4 : Int) := (fg0 F114)
 refine wp_seq_k fun K116 H116 => region_in ?_
 refine W_v V V (V_lss V l8_115 (fg9 F114)) ?_
 refine W_end (gen_Q fun A117 E117 => ?_)
 have Y117 := szq E117
 have F117 := (fsE E117 (ck (fx7 (fx0 F114)) V V)).c (lookE E117 8 (es V l8_115))
 clear E117 Y114 F114 l8_115
 refine tk H116 (wp_seq_k fun K118 H118 => ?_)
 refine cond_sure (fg1 F117) (by decide +kernel) ?_
 refine wp_skip ?_
 refine tk H118 (wp_seq_k fun K119 H119 => ?_)
 refine wp_block ?_
 refine wp_seq_k fun K120 H120 => region_in ?_
 have k121 : 4 < limL.length := by first | (simp; done) | decide +kernel
 refine W_v V V (V_ixS (off := O14 + 4 * 4) 4 (4) V (fg10 F117) (fg0 F117) hv14 (by omega) k121 Try.underlying144 (by kernel_rfl) V) ?_
 refine W_r V V (VR_ldR (ys := limC ((Value.string ⟨#[112, 111, 112, 117, 108, 97, 114]⟩), Value.int .i64 2, Value.int .i64 16, Value.func (.func 92) #[] #[])) V (et V) (SlN.row limC_len (ow_at (S109.chq 1 V hc_6)) hv14 (show limL[4]? = some ((Value.string ⟨#[112, 111, 112, 117, 108, 97, 114]⟩), Value.int .i64 2, Value.int .i64 16, Value.func (.func 92) #[] #[]) from rfl) V) Try.underlying148 V (by kernel_rfl)) ?_
 refine W_allocS (z := .agg #[.string ByteArray.empty, .int .i64 0, .int .i64 0, .nilFunc]) (zs := #[.string ByteArray.empty, .int .i64 0, .int .i64 0, .nilFunc]) S109 V V V (by kernel_rfl) (by rfl) (fun g122 w122 c122 hc122 S122 => ?_)
 replace S122 : St w NoX [c122, c96, c_6, c2] w122 := S122
 refine xsA 0 S122 V hc122 V V V (et V) (es V (et V)) (fun w123 c123 hc123 S123 => ?_)
 replace S123 : St w NoX [c123, c96, c_6, c2] w123 := S123
 refine W_end (gen_Q fun A124 E124 => ?_)
 have Y124 := szq E124
 have F124 := fsE E124 (ck (cq2 (fx8 F117) V) V V)
 clear E124 Y117 F117
 refine tk H120 (wp_seq_k fun K125 H125 => region_in ?_)
 refine W_v V V (V_fa (off' := 3) V (fg0 F124) Try.underlying148 V (by decide +kernel) V) ?_
 refine W_r V V (xlC (v := .func (.func 92) #[] #[]) V (et V) (S123.obj 0 V hc123) Try.underlying146) ?_
 refine W_callV V V V (et V) Try.func92 (by kernel_rfl) V (args1 (es2 V (fg11 F124))) (klim5_c (g := g2)  ) ?_
 rintro _ w126 ⟨rfl, hP126⟩
 refine ⟨_, rfl, ?_⟩
 have S126 := S123.join hP126
 replace S126 : St w NoX [c123, c96, c_6, c2] w126 := S126
 refine W_v V V (V_nil V (et V)) ?_
 refine W_r V V (xlC (v := .int .i64 (Q)) V (et V) (S126.obj 3 V hc2) Try.underlying3) ?_
 refine W_v V V (V_asg V (et V)) ?_
 refine W_end (gen_Q fun A127 E127 => ?_)
 have Y127 := szq E127
 have F127 := fsE E127 (ck (cq5 (fx8 F124) V) V V)
 clear E127 Y124 F124
 refine tk H125 (wp_seq_k fun K128 H128 => region_in ?_)
 refine W_v V V (V_mov V (fg0 F127)) ?_
 refine W_v V V (V_fa (off' := 1) V (es V (fg1 F127)) Try.underlying148 V (by decide +kernel) V) ?_
 refine W_r V V (xlC (v := .int .i64 2) V (et V) (S126.obj 0 V hc123) Try.underlying3) ?_
 refine W_v V V (V_lss V (es2 V (et V)) (et V)) ?_
 refine W_split V V (V_mov V (et V)) (fun c129 => ?_) (fun c129 => ?_)
 ·refine xof V V V (et V) (xof V V V (es V (et V)) (xof V V V (es2 V (et V)) (xof V V V (es3 V (et V)) ?_)))
  refine W_v V V (V_pickT V (es4 V (et V)) V) ?_
  refine W_end (gen_Q fun A130 E130 => ?_)
  have Y130 := szq E130
  have F130 := fsE E130 (ck (ck (ck (ck (ck (cq5 (fx4 (fx4 (fx4 (fx4 (fx4 F127))))) V) V V) V V) V V) V V) V V)
  clear E130 Y127 F127
  have S131 : St w NoX [c_6, c2] w126 := S126.sel [2, 3] (by decide) V
  refine tk H128 ?_
  refine cond_t (fg0 F130) ?_
  refine wp_seq_k fun K132 H132 => region_in ?_
  refine W_v V V (V_asg V V) ?_
  refine W_end (gen_Q fun A133 E133 => ?_)
  have Y133 := szq E133
  have F133 := fsE E133 (ck F130 V V)
  clear E133 Y130 F130
  have S134 : St w NoX [] w126 := S131.sel [] (by decide) V
  refine tk H132 (wp_ret (inb_ret (then_ret (then_ret (inb_ret (then_ret ?_))))))
  refine ret_in (results_1 Try.results65 (rv_tmp (fg0 F133))) F133.d ?_
  have he : (cfE C N Z K Q) = 7 := cf_bad (by omega)
  rw [he]
  exact ⟨rfl, S134.fin0⟩
 refine W_v V (xwt V V (et V)) (V_mov V (es5 V (fg0 F127))) ?_
 refine W_v V (xwt V V (es V (et V))) (V_fa (off' := 2) V (es6 V (fg1 F127)) Try.underlying148 V (by decide +kernel) V) ?_
 refine W_r V (xwt V V (es2 V (et V))) (xlC (v := .int .i64 16) V (et V) (S126.obj 0 V hc123) Try.underlying3) ?_
 refine W_v V (xwt V V (es3 V (et V))) (V_gtr V (es2 V (et V)) (et V)) ?_
 refine W_v V V (V_pickF V (es4 V (et V)) (et V)) ?_
 refine W_end (gen_Q fun A135 E135 => ?_)
 have Y135 := szq E135
 have F135 := fsE E135 (ck (ck (ck (ck (ck (cq5 (fx4 (fx4 (fx4 (fx4 (fx4 F127))))) V) V V) V V) V V) V V) V V)
 clear E135 Y127 F127
 have S136 : St w NoX [c123, c_6, c2] w126 := S126.sel [0, 2, 3] (by decide) V
 refine tk H128 ?_
 refine cond_dec (fg0 F135) (fun c137 => ?_) (fun c137 => ?_)
 ·refine wp_seq_k fun K138 H138 => region_in ?_
  refine W_v V V (V_asg V V) ?_
  refine W_end (gen_Q fun A139 E139 => ?_)
  have Y139 := szq E139
  have F139 := fsE E139 (ck F135 V V)
  clear E139 Y135 F135
  have S140 : St w NoX [] w126 := S136.sel [] (by decide) V
  refine tk H138 (wp_ret (inb_ret (then_ret (then_ret (inb_ret (then_ret ?_))))))
  refine ret_in (results_1 Try.results65 (rv_tmp (fg0 F139))) F139.d ?_
  have he : (cfE C N Z K Q) = 7 := cf_bad (by omega)
  rw [he]
  exact ⟨rfl, S140.fin0⟩
 refine wp_skip (inb_n (tk H119 ?_))
 refine region_in ?_
 refine W_v V V (V_add V (fg7 F135) V (by omega) (by omega)) ?_
 refine W_v V V (V_mov V (et V)) ?_
 refine W_end (gen_Q fun A141 E141 => ?_)
 have Y141 := szq E141
 have F141 := fsE E141 (ck (cq1 (fx7 F135) V) V V)
 clear E141 Y135 F135
 refine then_n ?_
 refine LW_step ?_
 have l8_142 : EV A141 (.tmp 8) = .int .i64 (5 : Int) := (fg0 F141)
 refine wp_seq_k fun K143 H143 => region_in ?_
 refine W_v V V (V_lss V l8_142 (fg9 F141)) ?_
 refine W_end (gen_Q fun A144 E144 => ?_)
 have Y144 := szq E144
 have F144 := (fsE E144 (ck (fx7 (fx0 F141)) V V)).c (lookE E144 8 (es V l8_142))
 clear E144 Y141 F141 l8_142
 refine tk H143 (wp_seq_k fun K145 H145 => ?_)
 refine cond_not (fg1 F144) (by decide +kernel) ?_
 refine wp_exit (then_exit (then_exit ?_))
 refine inb_hit ?_
 refine tk H4 (wp_seq_k fun K146 H146 => region_in ?_)
 refine W_v V V (V_asg V V) ?_
 refine W_end (gen_Q fun A147 E147 => ?_)
 have Y147 := szq E147
 have F147 := fsE E147 (ck F144 V V)
 clear E147 Y144 F144
 have S148 : St w NoX [] w126 := S136.sel [] (by decide) V
 refine tk H146 (wp_ret ?_)
 refine ret_in (results_1 Try.results65 (rv_tmp (fg0 F147))) F147.d ?_
 have he : (cfE C N Z K Q) = 0 := cf_ok (by omega)
 rw [he]
 exact ⟨rfl, S148.fin0⟩

set_option maxHeartbeats 4000000 in
theorem klg1_c {C : Int} {N : Int} {Z : Int} {K : Int} {Q : Int} {gc : Nat} {w : World} (hb_gc : Ro w NoX (bx gc 23 #[.int .i64 C, .int .i64 N, .int .i64 Z, .int .i64 K, .int .i64 Q])) (hc : (cfE C N Z K Q) = 0) :
  Calls Try.prog 41 #[.pointer (some ⟨gc, 0, none⟩)] w fun e w' => e = .returned (.int .i64 (lgX C Z)) ∧ St w NoX [] w' := by
 have hr := cf_rng (show cfE C N Z K Q = 0 by omega)
 refine calls_in 8 Try.func41 V V (by simp) (fun A0 Y0 hdf0 hargs => ?_)
 have l0_0 := hargs 0 (.pointer (some ⟨gc, 0, none⟩)) V
 clear hargs; replace Y0 : SzN A0 8 := ⟨Y0⟩
 have hS := St.nil w
 refine wp_seq_k fun K1 H1 => region_in ?_
 refine W_v V V (V_asg V V) ?_
 refine W_end (gen_Q fun A2 E2 => ?_)
 have Y2 := szq E2
 have F2 := (fsE E2 (cq1 (FS.n hdf0) V)).c (lookE E2 0 (es V l0_0))
 clear E2 Y0 hdf0 l0_0
 refine tk H1 (wp_seq_k fun K3 H3 => region_in ?_)
 refine W_v V V (V_fa (off' := 0) V (fg0 F2) Try.underlying23 V (by decide +kernel) V) ?_
 refine W_r V V (VR_ldC V (et V) (cell_box (v := .int .i64 (C)) (ob_at (hS.ro hb_gc)) V) Try.underlying3 V) ?_
 refine W_v V V (V_quo V (et V) V (by omega) (by omega) (wrap_div (by omega) (by omega) (by omega))) ?_
 refine W_v V V (V_fa (off' := 2) V (es3 V (fg0 F2)) Try.underlying23 V (by decide +kernel) V) ?_
 refine W_r V V (VR_ldC V (et V) (cell_box (v := .int .i64 (Z)) (ob_at (hS.ro hb_gc)) V) Try.underlying3 V) ?_
 refine W_v V V (V_min V (es2 V (et V)) (et V)) ?_
 refine W_v V V (V_asg V (et V)) ?_
 refine W_end (gen_Q fun A4 E4 => ?_)
 have Y4 := szq E4
 have F4 := fsE E4 (ck (cq6 F2 V) V V)
 clear E4 Y2 F2
 refine tk H3 (wp_ret ?_)
 refine ret_in (results_1 Try.results41 (rv_tmp (fg0 F4))) F4.d ?_
 exact ⟨rfl, hS.fin0⟩

set_option maxHeartbeats 4000000 in
theorem kof_c {C : Int} {N : Int} {Z : Int} {K : Int} {Q : Int} {gc : Nat} {w : World} (hb_gc : Ro w NoX (bx gc 23 #[.int .i64 C, .int .i64 N, .int .i64 Z, .int .i64 K, .int .i64 Q]))  :
  Calls Try.prog 40 #[.agg #[.int .i64 C, .int .i64 N, .int .i64 Z, .int .i64 K, .int .i64 Q], .func (.func 41) #[] #[.pointer (some ⟨gc, 0, none⟩)]] w fun e w' => e = .returned (.tuple #[.int .i64 (lgN C N Z K Q), .int .i64 (cfE C N Z K Q)]) ∧ St w NoX [] w' := by
 refine calls_in 14 Try.func40 V V (by simp) (fun A0 Y0 hdf0 hargs => ?_)
 have l0_0 := hargs 0 (.agg #[.int .i64 C, .int .i64 N, .int .i64 Z, .int .i64 K, .int .i64 Q]) V
 have l1_0 := hargs 1 (.func (.func 41) #[] #[.pointer (some ⟨gc, 0, none⟩)]) V
 clear hargs; replace Y0 : SzN A0 14 := ⟨Y0⟩
 have hS := St.nil w
 refine wp_seq_k fun K1 H1 => region_in ?_
 refine W_boxS (zs := #[.int .i64 (C), .int .i64 (N), .int .i64 (Z), .int .i64 (K), .int .i64 (Q)]) hS V V V l0_0 (by rfl) (fun g2 w2 c2 hc2 S2 => ?_)
 replace S2 : St w NoX [c2] w2 := S2
 refine W_v V V (V_asg V V) (W_v V V (V_asg V V) ?_)
 refine W_end (gen_Q fun A3 E3 => ?_)
 have Y3 := szq E3
 have F3 := (fsE E3 (cq2 (ck (FS.n hdf0) V V) V)).c (lookE E3 1 (es3 V l1_0))
 clear E3 Y0 hdf0 l0_0 l1_0
 refine tk H1 (wp_seq_k fun K4 H4 => ?_)
 refine wp_seq_k fun K5 H5 => region_in ?_
 refine W_r V V (VR_ldA V (fg1 F3) (S2.obj 0 V hc2) Try.underlying23 V (by kernel_rfl)) ?_
 refine W_call V V V Try.func65 (by kernel_rfl) V (args1 (et V)) (kcfg_c (C := C) (N := N) (Z := Z) (K := K) (Q := Q)  ) ?_
 rintro _ w6 ⟨rfl, hP6⟩
 refine ⟨_, rfl, ?_⟩
 have S6 := S2.join hP6
 replace S6 : St w NoX [c2] w6 := S6
 refine W_v V V (V_asg V (et V)) ?_
 refine W_end (gen_Q fun A7 E7 => ?_)
 have Y7 := szq E7
 have F7 := fsE E7 (ck (cq2 F3 V) V V)
 clear E7 Y3 F3
 have S8 : St w NoX [] w6 := S6.sel [] (by decide) V
 refine tk H5 (wp_seq_k fun K9 H9 => region_in ?_)
 refine W_v V V (V_mov V (fg0 F7)) ?_
 refine W_v V V (V_neq V (et V) V) ?_
 refine W_end (gen_Q fun A10 E10 => ?_)
 have Y10 := szq E10
 have F10 := fsE E10 (ck (cq1 F7 V) V V)
 clear E10 Y7 F7
 refine tk H9 ?_
 refine cond_dec (fg0 F10) (fun c11 => ?_) (fun c11 => ?_)
 ·refine wp_seq_k fun K12 H12 => region_in ?_
  refine W_v V V (V_mov V (fg1 F10)) (W_v V V (V_asg V V) (W_v V V (V_asg V (es V (et V))) ?_))
  refine W_end (gen_Q fun A13 E13 => ?_)
  have Y13 := szq E13
  have F13 := fsE E13 (ck (ck (cq1 F10 V) V V) V V)
  clear E13 Y10 F10
  refine tk H12 (wp_ret (then_ret ?_))
  refine ret_in (results_2 Try.results40 (rv_tmp (fg1 F13)) (rv_tmp (fg0 F13))) F13.d ?_
  have hw := lg_bad (show cfE C N Z K Q ≠ 0 by omega)
  rw [hw]
  exact ⟨rfl, S8.fin0⟩
 refine wp_skip ?_
 refine tk H4 (wp_seq_k fun K14 H14 => region_in ?_)
 refine W_v V V (V_mov V (fg2 F10)) ?_
 refine W_callV V V V (et V) Try.func41 (by kernel_rfl) V (args0) (klg1_c (gc := gc) (C := C) (N := N) (Z := Z) (K := K) (Q := Q) (S8.roC hb_gc) (by first | with_reducible assumption | omega)) ?_
 rintro _ w15 ⟨rfl, hP15⟩
 refine ⟨_, rfl, ?_⟩
 have S15 := S8.join hP15
 replace S15 : St w NoX [] w15 := S15
 refine W_v V V (V_asg V (et V)) (W_v V V (V_asg V V) ?_)
 refine W_end (gen_Q fun A16 E16 => ?_)
 have Y16 := szq E16
 have F16 := fsE E16 (ck (ck (cq2 F10 V) V V) V V)
 clear E16 Y10 F10
 refine tk H14 (wp_ret ?_)
 refine ret_in (results_2 Try.results40 (rv_tmp (fg1 F16)) (rv_tmp (fg0 F16))) F16.d ?_
 have hw := lg_ok (show cfE C N Z K Q = 0 by omega)
 have he : cfE C N Z K Q = 0 := by omega
 rw [he, hw]
 exact ⟨rfl, S15.fin0⟩

set_option maxHeartbeats 4000000 in
theorem klg_c {C : Int} {N : Int} {Z : Int} {K : Int} {Q : Int} {w : World}   :
  Calls Try.prog 25 #[.agg #[.int .i64 C, .int .i64 N, .int .i64 Z, .int .i64 K, .int .i64 Q]] w fun e w' => e = .returned (.tuple #[.int .i64 (lgN C N Z K Q), .int .i64 (cfE C N Z K Q)]) ∧ St w NoX [] w' := by
 refine calls_in 9 Try.func25 V V (by simp) (fun A0 Y0 hdf0 hargs => ?_)
 have l0_0 := hargs 0 (.agg #[.int .i64 C, .int .i64 N, .int .i64 Z, .int .i64 K, .int .i64 Q]) V
 clear hargs; replace Y0 : SzN A0 9 := ⟨Y0⟩
 have hS := St.nil w
 refine wp_seq_k fun K1 H1 => region_in ?_
 refine W_boxS (zs := #[.int .i64 (C), .int .i64 (N), .int .i64 (Z), .int .i64 (K), .int .i64 (Q)]) hS V V V l0_0 (by rfl) (fun g2 w2 c2 hc2 S2 => ?_)
 replace S2 : St w NoX [c2] w2 := S2
 refine W_v V V (V_asg V V) (W_v V V (V_asg V V) ?_)
 refine W_end (gen_Q fun A3 E3 => ?_)
 have Y3 := szq E3
 have F3 := fsE E3 (cq2 (ck (FS.n hdf0) V V) V)
 clear E3 Y0 hdf0 l0_0
 refine tk H1 (wp_seq_k fun K4 H4 => region_in ?_)
 refine W_r V V (VR_ldA V (fg0 F3) (S2.obj 0 V hc2) Try.underlying23 V (by kernel_rfl)) ?_
 refine W_v V V (V_mkf V (args0) (args1 (es V (fg0 F3)))) ?_
 refine W_call V V V Try.func40 (by kernel_rfl) V (args2 (es V (et V)) (et V)) (kof_c (C := C) (N := N) (Z := Z) (K := K) (Q := Q) (gc := g2) (S2.chC 0 V hc2) ) ?_
 rintro _ w5 ⟨rfl, hP5⟩
 refine ⟨_, rfl, ?_⟩
 have S5 := S2.join hP5
 replace S5 : St w NoX [c2] w5 := S5
 refine W_v V V (V_ext (v := .int .i64 ((lgN C N Z K Q))) V (et V) V) ?_
 refine W_v V V (V_ext (v := .int .i64 ((cfE C N Z K Q))) V (es V (et V)) V) ?_
 refine W_v V V (V_asg V (es V (et V))) (W_v V V (V_asg V (es V (et V))) ?_)
 refine W_end (gen_Q fun A6 E6 => ?_)
 have Y6 := szq E6
 have F6 := fsE E6 (ck (ck (cq5 F3 V) V V) V V)
 clear E6 Y3 F3
 have S7 : St w NoX [] w5 := S5.sel [] (by decide) V
 refine tk H4 (wp_ret ?_)
 refine ret_in (results_2 Try.results25 (rv_tmp (fg1 F6)) (rv_tmp (fg0 F6))) F6.d ?_
 exact ⟨rfl, S7.fin0⟩

end Go.Proofs.Ytpgkfndbfocibaa