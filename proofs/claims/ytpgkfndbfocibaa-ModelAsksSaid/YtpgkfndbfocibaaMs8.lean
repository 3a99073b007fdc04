import Derived.Test.YtpgkfndbfocibaaProg
import Derived.Test.YtpgkfndbfocibaaMs5
import Derived.Test.YtpgkfndbfocibaaPl29d
import Derived.Test.YtpgkfndbfocibaaGen
import Derived.Test.YtpgkfndbfocibaaSepE
import Derived.Test.YtpgkfndbfocibaaSep8
import Derived.Test.YtpgkfndbfocibaaSep29
namespace Go.Proofs.Ytpgkfndbfocibaa
open Go.RowKit Go.Own Go.Own.R Go.Own.G Go.Own.Gr Go.Own.Ml

abbrev LimR := Value × Value × Value × Value
def limC (y : LimR) : List Value := [y.1, y.2.1, y.2.2.1, y.2.2.2]
theorem limC_len : ∀ a : LimR, (limC a).length = 4 := fun _ => rfl
def limL : List LimR := [((Value.string ⟨#[99, 97, 114, 115]⟩), Value.int .i64 7, Value.int .i64 24, Value.func (.func 88) #[] #[]), ((Value.string ⟨#[111, 102]⟩), Value.int .i64 8, Value.int .i64 64, Value.func (.func 89) #[] #[]), ((Value.string ⟨#[110, 117, 114, 115, 101, 114, 121]⟩), Value.int .i64 4, Value.int .i64 64, Value.func (.func 90) #[] #[]), ((Value.string ⟨#[114, 101, 103, 105, 115, 116, 101, 114, 115]⟩), Value.int .i64 1, Value.int .i64 8, Value.func (.func 91) #[] #[]), ((Value.string ⟨#[112, 111, 112, 117, 108, 97, 114]⟩), Value.int .i64 2, Value.int .i64 16, Value.func (.func 92) #[] #[])]
set_option maxHeartbeats 4000000 in
theorem klim1_c {g : Nat} {w : World}   :
  Calls Try.prog 88 #[.pointer (some ⟨g, 0, none⟩)] w fun e w' => e = .returned (.pointer (some ⟨g, 1, none⟩)) ∧ St w NoX [] w' := by
 refine calls_in 6 Try.func88 V V (by simp) (fun A0 Y0 hdf0 hargs => ?_)
 have l0_0 := hargs 0 (.pointer (some ⟨g, 0, none⟩)) V
 clear hargs; replace Y0 : SzN A0 6 := ⟨Y0⟩
 have hS := St.nil w
 refine wp_seq_k fun K1 H1 => region_in ?_
 refine W_v V V (V_asg V V) ?_
 refine W_end (gen_Q fun A2 E2 => ?_)
 have Y2 := szq E2
 have F2 := (fsE E2 (cq1 (FS.n hdf0) V)).c (lookE E2 0 (es V l0_0))
 clear E2 Y0 hdf0 l0_0
 refine tk H1 (wp_seq_k fun K3 H3 => region_in ?_)
 refine W_v V V (V_mov V (fg0 F2)) ?_
 refine W_v V V (V_nil V (et V)) ?_
 refine W_v V V (V_fa (off' := 1) V (et V) Try.underlying23 V (by decide +kernel) V) ?_
 refine W_v V V (V_asg V (et V)) ?_
 refine W_end (gen_Q fun A4 E4 => ?_)
 have Y4 := szq E4
 have F4 := fsE E4 (ck (cq3 F2 V) V V)
 clear E4 Y2 F2
 refine tk H3 (wp_ret ?_)
 refine ret_in (results_1 Try.results88 (rv_tmp (fg0 F4))) F4.d ?_
 exact ⟨rfl, hS.fin0⟩

set_option maxHeartbeats 4000000 in
theorem klim2_c {g : Nat} {w : World}   :
  Calls Try.prog 89 #[.pointer (some ⟨g, 0, none⟩)] w fun e w' => e = .returned (.pointer (some ⟨g, 0, none⟩)) ∧ St w NoX [] w' := by
 refine calls_in 6 Try.func89 V V (by simp) (fun A0 Y0 hdf0 hargs => ?_)
 have l0_0 := hargs 0 (.pointer (some ⟨g, 0, none⟩)) V
 clear hargs; replace Y0 : SzN A0 6 := ⟨Y0⟩
 have hS := St.nil w
 refine wp_seq_k fun K1 H1 => region_in ?_
 refine W_v V V (V_asg V V) ?_
 refine W_end (gen_Q fun A2 E2 => ?_)
 have Y2 := szq E2
 have F2 := (fsE E2 (cq1 (FS.n hdf0) V)).c (lookE E2 0 (es V l0_0))
 clear E2 Y0 hdf0 l0_0
 refine tk H1 (wp_seq_k fun K3 H3 => region_in ?_)
 refine W_v V V (V_mov V (fg0 F2)) ?_
 refine W_v V V (V_nil V (et V)) ?_
 refine W_v V V (V_fa (off' := 0) V (et V) Try.underlying23 V (by decide +kernel) V) ?_
 refine W_v V V (V_asg V (et V)) ?_
 refine W_end (gen_Q fun A4 E4 => ?_)
 have Y4 := szq E4
 have F4 := fsE E4 (ck (cq3 F2 V) V V)
 clear E4 Y2 F2
 refine tk H3 (wp_ret ?_)
 refine ret_in (results_1 Try.results89 (rv_tmp (fg0 F4))) F4.d ?_
 exact ⟨rfl, hS.fin0⟩

set_option maxHeartbeats 4000000 in
theorem klim3_c {g : Nat} {w : World}   :
  Calls Try.prog 90 #[.pointer (some ⟨g, 0, none⟩)] w fun e w' => e = .returned (.pointer (some ⟨g, 2, none⟩)) ∧ St w NoX [] w' := by
 refine calls_in 6 Try.func90 V V (by simp) (fun A0 Y0 hdf0 hargs => ?_)
 have l0_0 := hargs 0 (.pointer (some ⟨g, 0, none⟩)) V
 clear hargs; replace Y0 : SzN A0 6 := ⟨Y0⟩
 have hS := St.nil w
 refine wp_seq_k fun K1 H1 => region_in ?_
 refine W_v V V (V_asg V V) ?_
 refine W_end (gen_Q fun A2 E2 => ?_)
 have Y2 := szq E2
 have F2 := (fsE E2 (cq1 (FS.n hdf0) V)).c (lookE E2 0 (es V l0_0))
 clear E2 Y0 hdf0 l0_0
 refine tk H1 (wp_seq_k fun K3 H3 => region_in ?_)
 refine W_v V V (V_mov V (fg0 F2)) ?_
 refine W_v V V (V_nil V (et V)) ?_
 refine W_v V V (V_fa (off' := 2) V (et V) Try.underlying23 V (by decide +kernel) V) ?_
 refine W_v V V (V_asg V (et V)) ?_
 refine W_end (gen_Q fun A4 E4 => ?_)
 have Y4 := szq E4
 have F4 := fsE E4 (ck (cq3 F2 V) V V)
 clear E4 Y2 F2
 refine tk H3 (wp_ret ?_)
 refine ret_in (results_1 Try.results90 (rv_tmp (fg0 F4))) F4.d ?_
 exact ⟨rfl, hS.fin0⟩

set_option maxHeartbeats 4000000 in
theorem klim4_c {g : Nat} {w : World}   :
  Calls Try.prog 91 #[.pointer (some ⟨g, 0, none⟩)] w fun e w' => e = .returned (.pointer (some ⟨g, 3, none⟩)) ∧ St w NoX [] w' := by
 refine calls_in 6 Try.func91 V V (by simp) (fun A0 Y0 hdf0 hargs => ?_)
 have l0_0 := hargs 0 (.pointer (some ⟨g, 0, none⟩)) V
 clear hargs; replace Y0 : SzN A0 6 := ⟨Y0⟩
 have hS := St.nil w
 refine wp_seq_k fun K1 H1 => region_in ?_
 refine W_v V V (V_asg V V) ?_
 refine W_end (gen_Q fun A2 E2 => ?_)
 have Y2 := szq E2
 have F2 := (fsE E2 (cq1 (FS.n hdf0) V)).c (lookE E2 0 (es V l0_0))
 clear E2 Y0 hdf0 l0_0
 refine tk H1 (wp_seq_k fun K3 H3 => region_in ?_)
 refine W_v V V (V_mov V (fg0 F2)) ?_
 refine W_v V V (V_nil V (et V)) ?_
 refine W_v V V (V_fa (off' := 3) V (et V) Try.underlying23 V (by decide +kernel) V) ?_
 refine W_v V V (V_asg V (et V)) ?_
 refine W_end (gen_Q fun A4 E4 => ?_)
 have Y4 := szq E4
 have F4 := fsE E4 (ck (cq3 F2 V) V V)
 clear E4 Y2 F2
 refine tk H3 (wp_ret ?_)
 refine ret_in (results_1 Try.results91 (rv_tmp (fg0 F4))) F4.d ?_
 exact ⟨rfl, hS.fin0⟩

set_option maxHeartbeats 4000000 in
theorem klim5_c {g : Nat} {w : World}   :
  Calls Try.prog 92 #[.pointer (some ⟨g, 0, none⟩)] w fun e w' => e = .returned (.pointer (some ⟨g, 4, none⟩)) ∧ St w NoX [] w' := by
 refine calls_in 6 Try.func92 V V (by simp) (fun A0 Y0 hdf0 hargs => ?_)
 have l0_0 := hargs 0 (.pointer (some ⟨g, 0, none⟩)) V
 clear hargs; replace Y0 : SzN A0 6 := ⟨Y0⟩
 have hS := St.nil w
 refine wp_seq_k fun K1 H1 => region_in ?_
 refine W_v V V (V_asg V V) ?_
 refine W_end (gen_Q fun A2 E2 => ?_)
 have Y2 := szq E2
 have F2 := (fsE E2 (cq1 (FS.n hdf0) V)).c (lookE E2 0 (es V l0_0))
 clear E2 Y0 hdf0 l0_0
 refine tk H1 (wp_seq_k fun K3 H3 => region_in ?_)
 refine W_v V V (V_mov V (fg0 F2)) ?_
 refine W_v V V (V_nil V (et V)) ?_
 refine W_v V V (V_fa (off' := 4) V (et V) Try.underlying23 V (by decide +kernel) V) ?_
 refine W_v V V (V_asg V (et V)) ?_
 refine W_end (gen_Q fun A4 E4 => ?_)
 have Y4 := szq E4
 have F4 := fsE E4 (ck (cq3 F2 V) V V)
 clear E4 Y2 F2
 refine tk H3 (wp_ret ?_)
 refine ret_in (results_1 Try.results92 (rv_tmp (fg0 F4))) F4.d ?_
 exact ⟨rfl, hS.fin0⟩

set_option maxHeartbeats 4000000 in
theorem klims_c  {w : World}   :
  Calls Try.prog 81 #[] w fun e w' => ∃ v, e = .returned (v) ∧ St w NoX [ro 4 limC v limL] w' := by
 refine calls_in 7 Try.func81 V V (by simp) (fun A0 Y0 hdf0 hargs => ?_)
 clear hargs; replace Y0 : SzN A0 7 := ⟨Y0⟩
 have hS := St.nil w
 refine wp_seq_k fun K1 H1 => region_in ?_
 refine W_v V V (V_asg V V) ?_
 refine W_end (gen_Q fun A2 E2 => ?_)
 have Y2 := szq E2
 have F2 := fsE E2 (cq1 (FS.n hdf0) V)
 clear E2 Y0 hdf0
 refine tk H1 (wp_seq_k fun K3 H3 => region_in ?_)
 refine W_v V V (xbS (n := 4) (z := .agg #[.string ByteArray.empty, .int .i64 0, .int .i64 0, .nilFunc]) V (parts4 V V V V)) ?_
 refine W_v V V (xbS (n := 4) (z := .agg #[.string ByteArray.empty, .int .i64 0, .int .i64 0, .nilFunc]) V (parts4 V V V V)) ?_
 refine W_v V V (xbS (n := 4) (z := .agg #[.string ByteArray.empty, .int .i64 0, .int .i64 0, .nilFunc]) V (parts4 V V V V)) ?_
 refine W_v V V (xbS (n := 4) (z := .agg #[.string ByteArray.empty, .int .i64 0, .int .i64 0, .nilFunc]) V (parts4 V V V V)) ?_
 refine W_v V V (xbS (n := 4) (z := .agg #[.string ByteArray.empty, .int .i64 0, .int .i64 0, .nilFunc]) V (parts4 V V V V)) ?_
 have hll4 : [((Value.string ⟨#[99, 97, 114, 115]⟩), Value.int .i64 7, Value.int .i64 24, Value.func (.func 88) #[] #[]), ((Value.string ⟨#[111, 102]⟩), Value.int .i64 8, Value.int .i64 64, Value.func (.func 89) #[] #[]), ((Value.string ⟨#[110, 117, 114, 115, 101, 114, 121]⟩), Value.int .i64 4, Value.int .i64 64, Value.func (.func 90) #[] #[]), ((Value.string ⟨#[114, 101, 103, 105, 115, 116, 101, 114, 115]⟩), Value.int .i64 1, Value.int .i64 8, Value.func (.func 91) #[] #[]), ((Value.string ⟨#[112, 111, 112, 117, 108, 97, 114]⟩), Value.int .i64 2, Value.int .i64 16, Value.func (.func 92) #[] #[])].length = 5 := rfl
 refine xsL (vs := [.agg #[(Value.string ⟨#[99, 97, 114, 115]⟩), .int .i64 7, .int .i64 24, .func (.func 88) #[] #[]], .agg #[(Value.string ⟨#[111, 102]⟩), .int .i64 8, .int .i64 64, .func (.func 89) #[] #[]], .agg #[(Value.string ⟨#[110, 117, 114, 115, 101, 114, 121]⟩), .int .i64 4, .int .i64 64, .func (.func 90) #[] #[]], .agg #[(Value.string ⟨#[114, 101, 103, 105, 115, 116, 101, 114, 115]⟩), .int .i64 1, .int .i64 8, .func (.func 91) #[] #[]], .agg #[(Value.string ⟨#[112, 111, 112, 117, 108, 97, 114]⟩), .int .i64 2, .int .i64 16, .func (.func 92) #[] #[]]]) (xs := ([((Value.string ⟨#[99, 97, 114, 115]⟩), Value.int .i64 7, Value.int .i64 24, Value.func (.func 88) #[] #[]), ((Value.string ⟨#[111, 102]⟩), Value.int .i64 8, Value.int .i64 64, Value.func (.func 89) #[] #[]), ((Value.string ⟨#[110, 117, 114, 115, 101, 114, 121]⟩), Value.int .i64 4, Value.int .i64 64, Value.func (.func 90) #[] #[]), ((Value.string ⟨#[114, 101, 103, 105, 115, 116, 101, 114, 115]⟩), Value.int .i64 1, Value.int .i64 8, Value.func (.func 91) #[] #[]), ((Value.string ⟨#[112, 111, 112, 117, 108, 97, 114]⟩), Value.int .i64 2, Value.int .i64 16, Value.func (.func 92) #[] #[])].flatMap limC)) 4 hS V V V (parts5 (es4 V (et V)) (es3 V (et V)) (es2 V (et V)) (es V (et V)) (et V)) Try.underlying144 (fun g4 w4 c4 hc4 S4 => ?_)
 replace hc4 : c4 = ro 4 limC (.slice (some ⟨g4, 0, none⟩) 5 5) [((Value.string ⟨#[99, 97, 114, 115]⟩), Value.int .i64 7, Value.int .i64 24, Value.func (.func 88) #[] #[]), ((Value.string ⟨#[111, 102]⟩), Value.int .i64 8, Value.int .i64 64, Value.func (.func 89) #[] #[]), ((Value.string ⟨#[110, 117, 114, 115, 101, 114, 121]⟩), Value.int .i64 4, Value.int .i64 64, Value.func (.func 90) #[] #[]), ((Value.string ⟨#[114, 101, 103, 105, 115, 116, 101, 114, 115]⟩), Value.int .i64 1, Value.int .i64 8, Value.func (.func 91) #[] #[]), ((Value.string ⟨#[112, 111, 112, 117, 108, 97, 114]⟩), Value.int .i64 2, Value.int .i64 16, Value.func (.func 92) #[] #[])] := hc4
 replace S4 : St w NoX [c4] w4 := S4
 refine W_v V V (V_asg V (et V)) ?_
 refine W_end (gen_Q fun A5 E5 => ?_)
 have Y5 := szq E5
 have F5 := fsE E5 (ck (cq6 F2 V) V V)
 clear E5 Y2 F2
 refine tk H3 (wp_ret ?_)
 refine ret_in (results_1 Try.results81 (rv_tmp (fg0 F5))) F5.d ?_
 exact ⟨_, rfl, (S4.fin1 0 V (hc4))⟩

set_option maxHeartbeats 4000000 in
theorem kcfg_c {C : Int} {N : Int} {Z : Int} {K : Int} {Q : Int} {w : World}   :
  Calls Try.prog 65 #[.agg #[.int .i64 C, .int .i64 N, .int .i64 Z, .int .i64 K, .int .i64 Q]] w fun e w' => e = .returned (.int .i64 (cfE C N Z K Q)) ∧ St w NoX [] w' := by
 refine calls_in 28 Try.func65 V V (by simp) (fun A0 Y0 hdf0 hargs => ?_)
 have l0_0 := hargs 0 (.agg #[.int .i64 C, .int .i64 N, .int .i64 Z, .int .i64 K, .int .i64 Q]) V
 clear hargs; replace Y0 : SzN A0 28 := ⟨Y0⟩
 have hS := St.nil w
 refine wp_seq_k fun K1 H1 => region_in ?_
 refine W_boxS (zs := #[.int .i64 (C), .int .i64 (N), .int .i64 (Z), .int .i64 (K), .int .i64 (Q)]) hS V V V l0_0 (by rfl) (fun g2 w2 c2 hc2 S2 => ?_)
 replace S2 : St w NoX [c2] w2 := S2
 refine W_v V V (V_asg V V) ?_
 refine W_end (gen_Q fun A3 E3 => ?_)
 have Y3 := szq E3
 have F3 := fsE E3 (cq1 (ck (FS.n hdf0) V V) V)
 clear E3 Y0 hdf0 l0_0
 refine tk H1 (wp_seq_k fun K4 H4 => ?_)
 refine wp_seq_k fun K5 H5 => region_in ?_
 refine W_call V V V Try.func81 (by kernel_rfl) V (args0) (klims_c  ) ?_
 rintro _ w6 ⟨v_6, rfl, hP6⟩
 refine ⟨_, rfl, ?_⟩
 obtain ⟨c_6, hc_6, hP6⟩ := gen1 hP6
 have S6 := S2.join hP6
 replace S6 : St w NoX [c_6, c2] w6 := S6
 refine W_v V V (V_lenS V (et V) (ow_at (S6.chq 0 V hc_6)) Try.underlying144) ?_
 refine W_v V V (V_mov V V) ?_
 refine W_end (gen_Q fun A7 E7 => ?_)
 have Y7 := szq E7
 have F7 := fsE E7 (ck (ck (ck F3 V V) V V) V V)
 clear E7 Y3 F3
 refine tk H5 (wp_block ?_)
 -- loop 2, round by round
 refine loopL ?_
 refine LW_step ?_
 have l8_8 : EV A7 (.tmp 8) = .int .i64 (0 : Int) := (fg0 F7)
 refine wp_seq_k fun K9 H9 => region_in ?_
 refine W_v V V (V_lss V l8_8 (fg1 F7)) ?_
 refine W_end (gen_Q fun A10 E10 => ?_)
 have Y10 := szq E10
 have F10 := (fsE E10 (ck (fx0 F7) V V)).c (lookE E10 8 (es V l8_8))
 clear E10 Y7 F7 l8_8
 refine tk H9 (wp_seq_k fun K11 H11 => ?_)
 refine cond_sure (fg1 F10) (by decide +kernel) ?_
 refine wp_skip ?_
 refine tk H11 (wp_seq_k fun K12 H12 => ?_)
 refine wp_block ?_
 refine wp_seq_k fun K13 H13 => region_in ?_
 have k14 : 0 < limL.length := by first | (simp; done) | decide +kernel
 obtain ⟨B14, O14, C14, hv14⟩ := (SlN.blk (ow_at (S6.chq 0 rfl hc_6)) (by first | (simp; done) | decide +kernel))
 refine W_v V V (V_ixS (off := O14 + 0 * 4) 4 (0) V (fg3 F10) (fg0 F10) hv14 (by omega) k14 Try.underlying144 (by kernel_rfl) V) ?_
 refine W_r V V (VR_ldR (ys := limC ((Value.string ⟨#[99, 97, 114, 115]⟩), Value.int .i64 7, Value.int .i64 24, Value.func (.func 88) #[] #[])) V (et V) (SlN.row limC_len (ow_at (S6.chq 0 V hc_6)) hv14 (show limL[0]? = some ((Value.string ⟨#[99, 97, 114, 115]⟩), Value.int .i64 7, Value.int .i64 24, Value.func (.func 88) #[] #[]) from rfl) V) Try.underlying148 V (by kernel_rfl)) ?_
 refine W_allocS (z := .agg #[.string ByteArray.empty, .int .i64 0, .int .i64 0, .nilFunc]) (zs := #[.string ByteArray.empty, .int .i64 0, .int .i64 0, .nilFunc]) S6 V V V (by kernel_rfl) (by rfl) (fun g15 w15 c15 hc15 S15 => ?_)
 replace S15 : St w NoX [c15, c_6, c2] w15 := S15
 refine xsA 0 S15 V hc15 V V V (et V) (es V (et V)) (fun w16 c16 hc16 S16 => ?_)
 replace S16 : St w NoX [c16, c_6, c2] w16 := S16
 refine W_end (gen_Q fun A17 E17 => ?_)
 have Y17 := szq E17
 have F17 := fsE E17 (ck (cq2 F10 V) V V)
 clear E17 Y10 F10
 refine tk H13 (wp_seq_k fun K18 H18 => region_in ?_)
 refine W_v V V (V_fa (off' := 3) V (fg0 F17) Try.underlying148 V (by decide +kernel) V) ?_
 refine W_r V V (xlC (v := .func (.func 88) #[] #[]) V (et V) (S16.obj 0 V hc16) Try.underlying146) ?_
 refine W_callV V V V (et V) Try.func88 (by kernel_rfl) V (args1 (es2 V (fg5 F17))) (klim1_c (g := g2)  ) ?_
 rintro _ w19 ⟨rfl, hP19⟩
 refine ⟨_, rfl, ?_⟩
 have S19 := S16.join hP19
 replace S19 : St w NoX [c16, c_6, c2] w19 := S19
 refine W_v V V (V_nil V (et V)) ?_
 refine W_r V V (xlC (v := .int .i64 (N)) V (et V) (S19.obj 2 V hc2) Try.underlying3) ?_
 refine W_v V V (V_asg V (et V)) ?_
 refine W_end (gen_Q fun A20 E20 => ?_)
 have Y20 := szq E20
 have F20 := fsE E20 (ck (cq5 F17 V) V V)
 clear E20 Y17 F17
 refine tk H18 (wp_seq_k fun K21 H21 => region_in ?_)
 refine W_v V V (V_mov V (fg0 F20)) ?_
 refine W_v V V (V_fa (off' := 1) V (es V (fg1 F20)) Try.underlying148 V (by decide +kernel) V) ?_
 refine W_r V V (xlC (v := .int .i64 7) V (et V) (S19.obj 0 V hc16) Try.underlying3) ?_
 refine W_v V V (V_lss V (es2 V (et V)) (et V)) ?_
 refine W_split V V (V_mov V (et V)) (fun c22 => ?_) (fun c22 => ?_)
 ·refine xof V V V (et V) (xof V V V (es V (et V)) (xof V V V (es2 V (et V)) (xof V V V (es3 V (et V)) ?_)))
  refine W_v V V (V_pickT V (es4 V (et V)) V) ?_
  refine W_end (gen_Q fun A23 E23 => ?_)
  have Y23 := szq E23
  have F23 := fsE E23 (ck (ck (ck (ck (ck (cq5 F20 V) V V) V V) V V) V V) V V)
  clear E23 Y20 F20
  have S24 : St w NoX [c_6, c2] w19 := S19.sel [1, 2] (by decide) V
  refine tk H21 ?_
  refine cond_t (fg0 F23) ?_
  refine wp_seq_k fun K25 H25 => region_in ?_
  refine W_v V V (V_asg V V) ?_
  refine W_end (gen_Q fun A26 E26 => ?_)
  have Y26 := szq E26
  have F26 := fsE E26 (ck F23 V V)
  clear E26 Y23 F23
  have S27 : St w NoX [] w19 := S24.sel [] (by decide) V
  refine tk H25 (wp_ret (inb_ret (then_ret (then_ret (inb_ret (then_ret ?_))))))
  refine ret_in (results_1 Try.results65 (rv_tmp (fg0 F26))) F26.d ?_
  have he : (cfE C N Z K Q) = 7 := cf_bad (by omega)
  rw [he]
  exact ⟨rfl, S27.fin0⟩
 refine W_v V (xwt V V (et V)) (V_mov V (es5 V (fg0 F20))) ?_
 refine W_v V (xwt V V (es V (et V))) (V_fa (off' := 2) V (es6 V (fg1 F20)) Try.underlying148 V (by decide +kernel) V) ?_
 refine W_r V (xwt V V (es2 V (et V))) (xlC (v := .int .i64 24) V (et V) (S19.obj 0 V hc16) Try.underlying3) ?_
 refine W_v V (xwt V V (es3 V (et V))) (V_gtr V (es2 V (et V)) (et V)) ?_
 refine W_v V V (V_pickF V (es4 V (et V)) (et V)) ?_
 refine W_end (gen_Q fun A28 E28 => ?_)
 have Y28 := szq E28
 have F28 := fsE E28 (ck (ck (ck (ck (ck (cq5 F20 V) V V) V V) V V) V V) V V)
 clear E28 Y20 F20
 refine tk H21 ?_
 refine cond_dec (fg0 F28) (fun c29 => ?_) (fun c29 => ?_)
 ·refine wp_seq_k fun K30 H30 => region_in ?_
  refine W_v V V (V_asg V V) ?_
  refine W_end (gen_Q fun A31 E31 => ?_)
  have Y31 := szq E31
  have F31 := fsE E31 (ck F28 V V)
  clear E31 Y28 F28
  have S32 : St w NoX [] w19 := S19.sel [] (by decide) V
  refine tk H30 (wp_ret (inb_ret (then_ret (then_ret (inb_ret (then_ret ?_))))))
  refine ret_in (results_1 Try.results65 (rv_tmp (fg0 F31))) F31.d ?_
  have he : (cfE C N Z K Q) = 7 := cf_bad (by omega)
  rw [he]
  exact ⟨rfl, S32.fin0⟩
 refine wp_skip (inb_n (tk H12 ?_))
 refine region_in ?_
 refine W_v V V (V_add V (fg7 F28) V (by omega) (by omega)) ?_
 refine W_v V V (V_mov V (et V)) ?_
 refine W_end (gen_Q fun A33 E33 => ?_)
 have Y33 := szq E33
 have F33 := fsE E33 (ck (cq1 (fx7 F28) V) V V)
 clear E33 Y28 F28
 refine then_n ?_
 refine LW_step ?_
 have l8_34 : EV A33 (.tmp 8) = .int .i64 (1 : Int) := (fg0 F33)
 refine wp_seq_k fun K35 H35 => region_in ?_
 refine W_v V V (V_lss V l8_34 (fg9 F33)) ?_
 refine W_end (gen_Q fun A36 E36 => ?_)
 have Y36 := szq E36
 have F36 := (fsE E36 (ck (fx7 (fx0 F33)) V V)).c (lookE E36 8 (es V l8_34))
 clear E36 Y33 F33 l8_34
 refine tk H35 (wp_seq_k fun K37 H37 => ?_)
 refine cond_sure (fg1 F36) (by decide +kernel) ?_
 refine wp_skip ?_
 refine tk H37 (wp_seq_k fun K38 H38 => ?_)
 refine wp_block ?_
 refine wp_seq_k fun K39 H39 => region_in ?_
 have k40 : 1 < limL.length := by first | (simp; done) | decide +kernel
 refine W_v V V (V_ixS (off := O14 + 1 * 4) 4 (1) V (fg10 F36) (fg0 F36) hv14 (by omega) k40 Try.underlying144 (by kernel_rfl) V) ?_
 refine W_r V V (VR_ldR (ys := limC ((Value.string ⟨#[111, 102]⟩), Value.int .i64 8, Value.int .i64 64, Value.func (.func 89) #[] #[])) V (et V) (SlN.row limC_len (ow_at (S19.chq 1 V hc_6)) hv14 (show limL[1]? = some ((Value.string ⟨#[111, 102]⟩), Value.int .i64 8, Value.int .i64 64, Value.func (.func 89) #[] #[]) from rfl) V) Try.underlying148 V (by kernel_rfl)) ?_
 refine W_allocS (z := .agg #[.string ByteArray.empty, .int .i64 0, .int .i64 0, .nilFunc]) (zs := #[.string ByteArray.empty, .int .i64 0, .int .i64 0, .nilFunc]) S19 V V V (by kernel_rfl) (by rfl) (fun g41 w41 c41 hc41 S41 => ?_)
 replace S41 : St w NoX [c41, c16, c_6, c2] w41 := S41
 refine xsA 0 S41 V hc41 V V V (et V) (es V (et V)) (fun w42 c42 hc42 S42 => ?_)
 replace S42 : St w NoX [c42, c16, c_6, c2] w42 := S42
 refine W_end (gen_Q fun A43 E43 => ?_)
 have Y43 := szq E43
 have F43 := fsE E43 (ck (cq2 (fx8 F36) V) V V)
 clear E43 Y36 F36
 refine tk H39 (wp_seq_k fun K44 H44 => region_in ?_)
 refine W_v V V (V_fa (off' := 3) V (fg0 F43) Try.underlying148 V (by decide +kernel) V) ?_
 refine W_r V V (xlC (v := .func (.func 89) #[] #[]) V (et V) (S42.obj 0 V hc42) Try.underlying146) ?_
 refine W_callV V V V (et V) Try.func89 (by kernel_rfl) V (args1 (es2 V (fg11 F43))) (klim2_c (g := g2)  ) ?_
 rintro _ w45 ⟨rfl, hP45⟩
 refine ⟨_, rfl, ?_⟩
 have S45 := S42.join hP45
 replace S45 : St w NoX [c42, c16, c_6, c2] w45 := S45
 refine W_v V V (V_nil V (et V)) ?_
 refine W_r V V (xlC (v := .int .i64 (C)) V (et V) (S45.obj 3 V hc2) Try.underlying3) ?_
 refine W_v V V (V_asg V (et V)) ?_
 refine W_end (gen_Q fun A46 E46 => ?_)
 have Y46 := szq E46
 have F46 := fsE E46 (ck (cq5 (fx8 F43) V) V V)
 clear E46 Y43 F43
 refine tk H44 (wp_seq_k fun K47 H47 => region_in ?_)
 refine W_v V V (V_mov V (fg0 F46)) ?_
 refine W_v V V (V_fa (off' := 1) V (es V (fg1 F46)) Try.underlying148 V (by decide +kernel) V) ?_
 refine W_r V V (xlC (v := .int .i64 8) V (et V) (S45.obj 0 V hc42) Try.underlying3) ?_
 refine W_v V V (V_lss V (es2 V (et V)) (et V)) ?_
 refine W_split V V (V_mov V (et V)) (fun c48 => ?_) (fun c48 => ?_)
 ·refine xof V V V (et V) (xof V V V (es V (et V)) (xof V V V (es2 V (et V)) (xof V V V (es3 V (et V)) ?_)))
  refine W_v V V (V_pickT V (es4 V (et V)) V) ?_
  refine W_end (gen_Q fun A49 E49 => ?_)
  have Y49 := szq E49
  have F49 := fsE E49 (ck (ck (ck (ck (ck (cq5 (fx4 (fx4 (fx4 (fx4 (fx4 F46))))) V) V V) V V) V V) V V) V V)
  clear E49 Y46 F46
  have S50 : St w NoX [c_6, c2] w45 := S45.sel [2, 3] (by decide) V
  refine tk H47 ?_
  refine cond_t (fg0 F49) ?_
  refine wp_seq_k fun K51 H51 => region_in ?_
  refine W_v V V (V_asg V V) ?_
  refine W_end (gen_Q fun A52 E52 => ?_)
  have Y52 := szq E52
  have F52 := fsE E52 (ck F49 V V)
  clear E52 Y49 F49
  have S53 : St w NoX [] w45 := S50.sel [] (by decide) V
  refine tk H51 (wp_ret (inb_ret (then_ret (then_ret (inb_ret (then_ret ?_))))))
  refine ret_in (results_1 Try.results65 (rv_tmp (fg0 F52))) F52.d ?_
  have he : (cfE C N Z K Q) = 7 := cf_bad (by omega)
  rw [he]
  exact ⟨rfl, S53.fin0⟩
 refine W_v V (xwt V V (et V)) (V_mov V (es5 V (fg0 F46))) ?_
 refine W_v V (xwt V V (es V (et V))) (V_fa (off' := 2) V (es6 V (fg1 F46)) Try.underlying148 V (by decide +kernel) V) ?_
 refine W_r V (xwt V V (es2 V (et V))) (xlC (v := .int .i64 64) V (et V) (S45.obj 0 V hc42) Try.underlying3) ?_
 refine W_v V (xwt V V (es3 V (et V))) (V_gtr V (es2 V (et V)) (et V)) ?_
 refine W_v V V (V_pickF V (es4 V (et V)) (et V)) ?_
 refine W_end (gen_Q fun A54 E54 => ?_)
 have Y54 := szq E54
 have F54 := fsE E54 (ck (ck (ck (ck (ck (cq5 (fx4 (fx4 (fx4 (fx4 (fx4 F46))))) V) V V) V V) V V) V V) V V)
 clear E54 Y46 F46
 have S55 : St w NoX [c42, c_6, c2] w45 := S45.sel [0, 2, 3] (by decide) V
 refine tk H47 ?_
 refine cond_dec (fg0 F54) (fun c56 => ?_) (fun c56 => ?_)
 ·refine wp_seq_k fun K57 H57 => region_in ?_
  refine W_v V V (V_asg V V) ?_
  refine W_end (gen_Q fun A58 E58 => ?_)
  have Y58 := szq E58
  have F58 := fsE E58 (ck F54 V V)
  clear E58 Y54 F54
  have S59 : St w NoX [] w45 := S55.sel [] (by decide) V
  refine tk H57 (wp_ret (inb_ret (then_ret (then_ret (inb_ret (then_ret ?_))))))
  refine ret_in (results_1 Try.results65 (rv_tmp (fg0 F58))) F58.d ?_
  have he : (cfE C N Z K Q) = 7 := cf_bad (by omega)
  rw [he]
  exact ⟨rfl, S59.fin0⟩
 refine wp_skip (inb_n (tk H38 ?_))
 refine region_in ?_
 refine W_v V V (V_add V (fg7 F54) V (by omega) (by omega)) ?_
 refine W_v V V (V_mov V (et V)) ?_
 refine W_end (gen_Q fun A60 E60 => ?_)
 have Y60 := szq E60
 have F60 := fsE E60 (ck (cq1 (fx7 F54) V) V V)
 clear E60 Y54 F54
 refine then_n ?_
 refine LW_step ?_
 have l8_61 : EV A60 (.tmp 8) = .int .i64 (2 : Int) := (fg0 F60)
 refine wp_seq_k fun K62 H62 => region_in ?_
 refine W_v V V (V_lss V l8_61 (fg9 F60)) ?_
 refine W_end (gen_Q fun A63 E63 => ?_)
 have Y63 := szq E63
 have F63 := (fsE E63 (ck (fx7 (fx0 F60)) V V)).c (lookE E63 8 (es V l8_61))
 clear E63 Y60 F60 l8_61
 refine tk H62 (wp_seq_k fun K64 H64 => ?_)
 refine cond_sure (fg1 F63) (by decide +kernel) ?_
 refine wp_skip ?_
 refine tk H64 (wp_seq_k fun K65 H65 => ?_)
 refine wp_block ?_
 refine wp_seq_k fun K66 H66 => region_in ?_
 have k67 : 2 < limL.length := by first | (simp; done) | decide +kernel
 refine W_v V V (V_ixS (off := O14 + 2 * 4) 4 (2) V (fg10 F63) (fg0 F63) hv14 (by omega) k67 Try.underlying144 (by kernel_rfl) V) ?_
 refine W_r V V (VR_ldR (ys := limC ((Value.string ⟨#[110, 117, 114, 115, 101, 114, 121]⟩), Value.int .i64 4, Value.int .i64 64, Value.func (.func 90) #[] #[])) V (et V) (SlN.row limC_len (ow_at (S55.chq 1 V hc_6)) hv14 (show limL[2]? = some ((Value.string ⟨#[110, 117, 114, 115, 101, 114, 121]⟩), Value.int .i64 4, Value.int .i64 64, Value.func (.func 90) #[] #[]) from rfl) V) Try.underlying148 V (by kernel_rfl)) ?_
 refine W_allocS (z := .agg #[.string ByteArray.empty, .int .i64 0, .int .i64 0, .nilFunc]) (zs := #[.string ByteArray.empty, .int .i64 0, .int .i64 0, .nilFunc]) S55 V V V (by kernel_rfl) (by rfl) (fun g68 w68 c68 hc68 S68 => ?_)
 replace S68 : St w NoX [c68, c42, c_6, c2] w68 := S68
 refine xsA 0 S68 V hc68 V V V (et V) (es V (et V)) (fun w69 c69 hc69 S69 => ?_)
 replace S69 : St w NoX [c69, c42, c_6, c2] w69 := S69
 refine W_end (gen_Q fun A70 E70 => ?_)
 have Y70 := szq E70
 have F70 := fsE E70 (ck (cq2 (fx8 F63) V) V V)
 clear E70 Y63 F63
 refine tk H66 (wp_seq_k fun K71 H71 => region_in ?_)
 refine W_v V V (V_fa (off' := 3) V (fg0 F70) Try.underlying148 V (by decide +kernel) V) ?_
 refine W_r V V (xlC (v := .func (.func 90) #[] #[]) V (et V) (S69.obj 0 V hc69) Try.underlying146) ?_
 refine W_callV V V V (et V) Try.func90 (by kernel_rfl) V (args1 (es2 V (fg11 F70))) (klim3_c (g := g2)  ) ?_
 rintro _ w72 ⟨rfl, hP72⟩
 refine ⟨_, rfl, ?_⟩
 have S72 := S69.join hP72
 replace S72 : St w NoX [c69, c42, c_6, c2] w72 := S72
 refine W_v V V (V_nil V (et V)) ?_
 refine W_r V V (xlC (v := .int .i64 (Z)) V (et V) (S72.obj 3 V hc2) Try.underlying3) ?_
 refine W_v V V (V_asg V (et V)) ?_
 refine W_end (gen_Q fun A73 E73 => ?_)
 have Y73 := szq E73
 have F73 := fsE E73 (ck (cq5 (fx8 F70) V) V V)
 clear E73 Y70 F70
 refine tk H71 (wp_seq_k fun K74 H74 => region_in ?_)
 refine W_v V V (V_mov V (fg0 F73)) ?_
 refine W_v V V (V_fa (off' := 1) V (es V (fg1 F73)) Try.underlying148 V (by decide +kernel) V) ?_
 refine W_r V V (xlC (v := .int .i64 4) V (et V) (S72.obj 0 V hc69) Try.underlying3) ?_
 refine W_v V V (V_lss V (es2 V (et V)) (et V)) ?_
 refine W_split V V (V_mov V (et V)) (fun c75 => ?_) (fun c75 => ?_)
 ·refine xof V V V (et V) (xof V V V (es V (et V)) (xof V V V (es2 V (et V)) (xof V V V (es3 V (et V)) ?_)))
  refine W_v V V (V_pickT V (es4 V (et V)) V) ?_
  refine W_end (gen_Q fun A76 E76 => ?_)
  have Y76 := szq E76
  have F76 := fsE E76 (ck (ck (ck (ck (ck (cq5 (fx4 (fx4 (fx4 (fx4 (fx4 F73))))) V) V V) V V) V V) V V) V V)
  clear E76 Y73 F73
  have S77 : St w NoX [c_6, c2] w72 := S72.sel [2, 3] (by decide) V
  refine tk H74 ?_
  refine cond_t (fg0 F76) ?_
  refine wp_seq_k fun K78 H78 => region_in ?_
  refine W_v V V (V_asg V V) ?_
  refine W_end (gen_Q fun A79 E79 => ?_)
  have Y79 := szq E79
  have F79 := fsE E79 (ck F76 V V)
  clear E79 Y76 F76
  have S80 : St w NoX [] w72 := S77.sel [] (by decide) V
  refine tk H78 (wp_ret (inb_ret (then_ret (then_ret (inb_ret (then_ret ?_))))))
  refine ret_in (results_1 Try.results65 (rv_tmp (fg0 F79))) F79.d ?_
  have he : (cfE C N Z K Q) = 7 := cf_bad (by omega)
  rw [he]
  exact ⟨rfl, S80.fin0⟩
 refine W_v V (xwt V V (et V)) (V_mov V (es5 V (fg0 F73))) ?_
 refine W_v V (xwt V V (es V (et V))) (V_fa (off' := 2) V (es6 V (fg1 F73)) Try.underlying148 V (by decide +kernel) V) ?_
 refine W_r V (xwt V V (es2 V (et V))) (xlC (v := .int .i64 64) V (et V) (S72.obj 0 V hc69) Try.underlying3) ?_
 refine W_v V (xwt V V (es3 V (et V))) (V_gtr V (es2 V (et V)) (et V)) ?_
 refine W_v V V (V_pickF V (es4 V (et V)) (et V)) ?_
 refine W_end (gen_Q fun A81 E81 => ?_)
 have Y81 := szq E81
 have F81 := fsE E81 (ck (ck (ck (ck (ck (cq5 (fx4 (fx4 (fx4 (fx4 (fx4 F73))))) V) V V) V V) V V) V V) V V)
 clear E81 Y73 F73
 have S82 : St w NoX [c69, c_6, c2] w72 := S72.sel [0, 2, 3] (by decide) V
 refine tk H74 ?_
 refine cond_dec (fg0 F81) (fun c83 => ?_) (fun c83 => ?_)
 ·refine wp_seq_k fun K84 H84 => region_in ?_
  refine W_v V V (V_asg V V) ?_
  refine W_end (gen_Q fun A85 E85 => ?_)
  have Y85 := szq E85
  have F85 := fsE E85 (ck F81 V V)
  clear E85 Y81 F81
  have S86 : St w NoX [] w72 := S82.sel [] (by decide) V
  refine tk H84 (wp_ret (inb_ret (then_ret (then_ret (inb_ret (then_ret ?_))))))
  refine ret_in (results_1 Try.results65 (rv_tmp (fg0 F85))) F85.d ?_
  have he : (cfE C N Z K Q) = 7 := cf_bad (by omega)
  rw [he]
  exact ⟨rfl, S86.fin0⟩
 refine wp_skip (inb_n (tk H65 ?_))
 refine region_in ?_
 refine W_v V V (V_add V (fg7 F81) V (by omega) (by omega)) ?_
 refine W_v V V (V_mov V (et V)) ?_
 refine W_end (gen_Q fun A87 E87 => ?_)
 have Y87 := szq E87
 have F87 := fsE E87 (ck (cq1 (fx7 F81) V) V V)
 clear E87 Y81 F81
 refine then_n ?_
 refine LW_step ?_
 have l8_88 : EV A87 (.tmp 8) = .int .i64 (3 : Int) := (fg0 F87)
 refine wp_seq_k fun K89 H89 => region_in ?_
 refine W_v V V (V_lss V l8_88 (fg9 F87)) ?_
 refine W_end (gen_Q fun A90 E90 => ?_)
 have Y90 := szq E90
 have F90 := (fsE E90 (ck (fx7 (fx0 F87)) V V)).c (lookE E90 8 (es V l8_88))
 clear E90 Y87 F87 l8_88
 refine tk H89 (wp_seq_k fun K91 H91 => ?_)
 refine cond_sure (fg1 F90) (by decide +kernel) ?_
 refine wp_skip ?_
 refine tk H91 (wp_seq_k fun K92 H92 => ?_)
 refine wp_block ?_
 refine wp_seq_k fun K93 H93 => region_in ?_
 have k94 : 3 < limL.length := by first | (simp; done) | decide +kernel
 refine W_v V V (V_ixS (off := O14 + 3 * 4) 4 (3) V (fg10 F90) (fg0 F90) hv14 (by omega) k94 Try.underlying144 (by kernel_rfl) V) ?_
 refine W_r V V (VR_ldR (ys := limC ((Value.string ⟨#[114, 101, 103, 105, 115, 116, 101, 114, 115]⟩), Value.int .i64 1, Value.int .i64 8, Value.func (.func 91) #[] #[])) V (et V) (SlN.row limC_len (ow_at (S82.chq 1 V hc_6)) hv14 (show limL[3]? = some ((Value.string ⟨#[114, 101, 103, 105, 115, 116, 101, 114, 115]⟩), Value.int .i64 1, Value.int .i64 8, Value.func (.func 91) #[] #[]) from rfl) V) Try.underlying148 V (by kernel_rfl)) ?_
 refine W_allocS (z := .agg #[.string ByteArray.empty, .int .i64 0, .int .i64 0, .nilFunc]) (zs := #[.string ByteArray.empty, .int .i64 0, .int .i64 0, .nilFunc]) S82 V V V (by kernel_rfl) (by rfl) (fun g95 w95 c95 hc95 S95 => ?_)
 replace S95 : St w NoX [c95, c69, c_6, c2] w95 := S95
 refine xsA 0 S95 V hc95 V V V (et V) (es V (et V)) (fun w96 c96 hc96 S96 => ?_)
 replace S96 : St w NoX [c96, c69, c_6, c2] w96 := S96
 refine W_end (gen_Q fun A97 E97 => ?_)
 have Y97 := szq E97
 have F97 := fsE E97 (ck (cq2 (fx8 F90) V) V V)
 clear E97 Y90 F90
 refine tk H93 (wp_seq_k fun K98 H98 => region_in ?_)
 refine W_v V V (V_fa (off' := 3) V (fg0 F97) Try.underlying148 V (by decide +kernel) V) ?_
 refine W_r V V (xlC (v := .func (.func 91) #[] #[]) V (et V) (S96.obj 0 V hc96) Try.underlying146) ?_
 refine W_callV V V V (et V) Try.func91 (by kernel_rfl) V (args1 (es2 V (fg11 F97))) (klim4_c (g := g2)  ) ?_
 rintro _ w99 ⟨rfl, hP99⟩
 refine ⟨_, rfl, ?_⟩
 have S99 := S96.join hP99
 replace S99 : St w NoX [c96, c69, c_6, c2] w99 := S99
 refine W_v V V (V_nil V (et V)) ?_
 refine W_r V V (xlC (v := .int .i64 (K)) V (et V) (S99.obj 3 V hc2) Try.underlying3) ?_
 refine W_v V V (V_asg V (et V)) ?_
 refine W_end (gen_Q fun A100 E100 => ?_)
 have Y100 := szq E100
 have F100 := fsE E100 (ck (cq5 (fx8 F97) V) V V)
 clear E100 Y97 F97
 refine tk H98 (wp_seq_k fun K101 H101 => region_in ?_)
 refine W_v V V (V_mov V (fg0 F100)) ?_
 refine W_v V V (V_fa (off' := 1) V (es V (fg1 F100)) Try.underlying148 V (by decide +kernel) V) ?_
 refine W_r V V (xlC (v := .int .i64 1) V (et V) (S99.obj 0 V hc96) Try.underlying3) ?_
 refine W_v V V (V_lss V (es2 V (et V)) (et V)) ?_
 refine W_split V V (V_mov V (et V)) (fun c102 => ?_) (fun c102 => ?_)
 ·refine xof V V V (et V) (xof V V V (es V (et V)) (xof V V V (es2 V (et V)) (xof V V V (es3 V (et V)) ?_)))
  refine W_v V V (V_pickT V (es4 V (et V)) V) ?_
  refine W_end (gen_Q fun A103 E103 => ?_)
  have Y103 := szq E103
  have F103 := fsE E103 (ck (ck (ck (ck (ck (cq5 (fx4 (fx4 (fx4 (fx4 (fx4 F100))))) V) V V) V V) V V) V V) V V)
  clear E103 Y100 F100
  have S104 : St w NoX [c_6, c2] w99 := S99.sel [2, 3] (by decide) V
  refine tk H101 ?_
  refine cond_t (fg0 F103) ?_
  refine wp_seq_k fun K105 H105 => region_in ?_
  refine W_v V V (V_asg V V) ?_
  refine W_end (gen_Q fun A106 E106 => ?_)
  have Y106 := szq E106
  have F106 := fsE E106 (ck F103 V V)
  clear E106 Y103 F103
  have S107 : St w NoX [] w99 := S104.sel [] (by decide) V
  refine tk H105 (wp_ret (inb_ret (then_ret (then_ret (inb_ret (then_ret ?_))))))
  refine ret_in (results_1 Try.results65 (rv_tmp (fg0 F106))) F106.d ?_
  have he : (cfE C N Z K Q) = 7 := cf_bad (by omega)
  rw [he]
  exact ⟨rfl, S107.fin0⟩
 refine W_v V (xwt V V (et V)) (V_mov V (es5 V (fg0 F100))) ?_
 refine W_v V (xwt V V (es V (et V))) (V_fa (off' := 2) V (es6 V (fg1 F100)) Try.underlying148 V (by decide +kernel) V) ?_
 refine W_r V (xwt V V (es2 V (et V))) (xlC (v := .int .i64 8) V (et V) (S99.obj 0 V hc96) Try.underlying3) ?_
 refine W_v V (xwt V V (es3 V (et V))) (V_gtr V (es2 V (et V)) (et V)) ?_
 refine W_v V V (V_pickF V (es4 V (et V)) (et V)) ?_
 refine W_end (gen_Q fun A108 E108 => ?_)
 have Y108 := szq E108
 have F108 := fsE E108 (ck (ck (ck (ck (ck (cq5 (fx4 (fx4 (fx4 (fx4 (fx4 F100))))) V) V V) V V) V V) V V) V V)
 clear E108 Y100 F100
 have S109 : St w NoX [c96, c_6, c2] w99 := S99.sel [0, 2, 3] (by decide) V
 refine tk H101 ?_
 refine cond_dec (fg0 F108) (fun c110 => ?_) (fun c110 => ?_)
 ·refine wp_seq_k fun K111 H111 => region_in ?_
  refine W_v V V (V_asg V V) ?_
  refine W_end (gen_Q fun A112 E112 => ?_)
  have Y112 := szq E112
  have F112 := fsE E112 (ck F108 V V)
  clear E112 Y108 F108
  have S113 : St w NoX [] w99 := S109.sel [] (by decide) V
  refine tk H111 (wp_ret (inb_ret (then_ret (then_ret (inb_ret (then_ret ?_))))))
  refine ret_in (results_1 Try.results65 (rv_tmp (fg0 F112))) F112.d ?_
  have he : (cfE C N Z K Q) = 7 := cf_bad (by omega)
  rw [he]
  exact ⟨rfl, S113.fin0⟩
 refine wp_skip (inb_n (tk H92 ?_))
 refine region_in ?_
 refine W_v V V (V_add V (fg7 F108) V (by omega) (by omega)) ?_
 refine W_v V V (V_mov V (et V)) ?_
 refine W_end (gen_Q fun A114 E114 => ?_)
 have Y114 := szq E114
 have F114 := fsE E114 (ck (cq1 (fx7 F108) V) V V)
 clear E114 Y108 F108
 refine then_n ?_
 refine LW_step ?_
 have l8_115 : EV A114 (.tmp 8) = .int .i64 (4 : Int) := (fg0 F114)
 refine wp_seq_k fun K116 H116 => region_in ?_
 refine W_v V V (V_lss V l8_115 (fg9 F114)) ?_
 refine W_end (gen_Q fun A117 E117 => ?_)
 have Y117 := szq E117
 have F117 := (fsE E117 (ck (fx7 (fx0 F114)) V V)).c (lookE E117 8 (es V l8_115))
 clear E117 Y114 F114 l8_115
 refine tk H116 (wp_seq_k fun K118 H118 => ?_)
 refine cond_sure (fg1 F117) (by decide +kernel) ?_
 refine wp_skip ?_
 refine tk H118 (wp_seq_k fun K119 H119 => ?_)
 refine wp_block ?_
 refine wp_seq_k fun K120 H120 => region_in ?_
 have k121 : 4 < limL.length := by first | (simp; done) | decide +kernel
 refine W_v V V (V_ixS (off := O14 + 4 * 4) 4 (4) V (fg10 F117) (fg0 F117) hv14 (by omega) k121 Try.underlying144 (by kernel_rfl) V) ?_
 refine W_r V V (VR_ldR (ys := limC ((Value.string ⟨#[112, 111, 112, 117, 108, 97, 114]⟩), Value.int .i64 2, Value.int .i64 16, Value.func (.func 92) #[] #[])) V (et V) (SlN.row limC_len (ow_at (S109.chq 1 V hc_6)) hv14 (show limL[4]? = some ((Value.string ⟨#[112, 111, 112, 117, 108, 97, 114]⟩), Value.int .i64 2, Value.int .i64 16, Value.func (.func 92) #[] #[]) from rfl) V) Try.underlying148 V (by kernel_rfl)) ?_
 refine W_allocS (z := .agg #[.string ByteArray.empty, .int .i64 0, .int .i64 0, .nilFunc]) (zs := #[.string ByteArray.empty, .int .i64 0, .int .i64 0, .nilFunc]) S109 V V V (by kernel_rfl) (by rfl) (fun g122 w122 c122 hc122 S122 => ?_)
 replace S122 : St w NoX [c122, c96, c_6, c2] w122 := S122
 refine xsA 0 S122 V hc122 V V V (et V) (es V (et V)) (fun w123 c123 hc123 S123 => ?_)
 replace S123 : St w NoX [c123, c96, c_6, c2] w123 := S123
 refine W_end (gen_Q fun A124 E124 => ?_)
 have Y124 := szq E124
 have F124 := fsE E124 (ck (cq2 (fx8 F117) V) V V)
 clear E124 Y117 F117
 refine tk H120 (wp_seq_k fun K125 H125 => region_in ?_)
 refine W_v V V (V_fa (off' := 3) V (fg0 F124) Try.underlying148 V (by decide +kernel) V) ?_
 refine W_r V V (xlC (v := .func (.func 92) #[] #[]) V (et V) (S123.obj 0 V hc123) Try.underlying146) ?_
 refine W_callV V V V (et V) Try.func92 (by kernel_rfl) V (args1 (es2 V (fg11 F124))) (klim5_c (g := g2)  ) ?_
 rintro _ w126 ⟨rfl, hP126⟩
 refine ⟨_, rfl, ?_⟩
 have S126 := S123.join hP126
 replace S126 : St w NoX [c123, c96, c_6, c2] w126 := S126
 refine W_v V V (V_nil V (et V)) ?_
 refine W_r V V (xlC (v := .int .i64 (Q)) V (et V) (S126.obj 3 V hc2) Try.underlying3) ?_
 refine W_v V V (V_asg V (et V)) ?_
 refine W_end (gen_Q fun A127 E127 => ?_)
 have Y127 := szq E127
 have F127 := fsE E127 (ck (cq5 (fx8 F124) V) V V)
 clear E127 Y124 F124
 refine tk H125 (wp_seq_k fun K128 H128 => region_in ?_)
 refine W_v V V (V_mov V (fg0 F127)) ?_
 refine W_v V V (V_fa (off' := 1) V (es V (fg1 F127)) Try.underlying148 V (by decide +kernel) V) ?_
 refine W_r V V (xlC (v := .int .i64 2) V (et V) (S126.obj 0 V hc123) Try.underlying3) ?_
 refine W_v V V (V_lss V (es2 V (et V)) (et V)) ?_
 refine W_split V V (V_mov V (et V)) (fun c129 => ?_) (fun c129 => ?_)
 ·refine xof V V V (et V) (xof V V V (es V (et V)) (xof V V V (es2 V (et V)) (xof V V V (es3 V (et V)) ?_)))
  refine W_v V V (V_pickT V (es4 V (et V)) V) ?_
  refine W_end (gen_Q fun A130 E130 => ?_)
  have Y130 := szq E130
  have F130 := fsE E130 (ck (ck (ck (ck (ck (cq5 (fx4 (fx4 (fx4 (fx4 (fx4 F127))))) V) V V) V V) V V) V V) V V)
  clear E130 Y127 F127
  have S131 : St w NoX [c_6, c2] w126 := S126.sel [2, 3] (by decide) V
  refine tk H128 ?_
  refine cond_t (fg0 F130) ?_
  refine wp_seq_k fun K132 H132 => region_in ?_
  refine W_v V V (V_asg V V) ?_
  refine W_end (gen_Q fun A133 E133 => ?_)
  have Y133 := szq E133
  have F133 := fsE E133 (ck F130 V V)
  clear E133 Y130 F130
  have S134 : St w NoX [] w126 := S131.sel [] (by decide) V
  refine tk H132 (wp_ret (inb_ret (then_ret (then_ret (inb_ret (then_ret ?_))))))
  refine ret_in (results_1 Try.results65 (rv_tmp (fg0 F133))) F133.d ?_
  have he : (cfE C N Z K Q) = 7 := cf_bad (by omega)
  rw [he]
  exact ⟨rfl, S134.fin0⟩
 refine W_v V (xwt V V (et V)) (V_mov V (es5 V (fg0 F127))) ?_
 refine W_v V (xwt V V (es V (et V))) (V_fa (off' := 2) V (es6 V (fg1 F127)) Try.underlying148 V (by decide +kernel) V) ?_
 refine W_r V (xwt V V (es2 V (et V))) (xlC (v := .int .i64 16) V (et V) (S126.obj 0 V hc123) Try.underlying3) ?_
 refine W_v V (xwt V V (es3 V (et V))) (V_gtr V (es2 V (et V)) (et V)) ?_
 refine W_v V V (V_pickF V (es4 V (et V)) (et V)) ?_
 refine W_end (gen_Q fun A135 E135 => ?_)
 have Y135 := szq E135
 have F135 := fsE E135 (ck (ck (ck (ck (ck (cq5 (fx4 (fx4 (fx4 (fx4 (fx4 F127))))) V) V V) V V) V V) V V) V V)
 clear E135 Y127 F127
 have S136 : St w NoX [c123, c_6, c2] w126 := S126.sel [0, 2, 3] (by decide) V
 refine tk H128 ?_
 refine cond_dec (fg0 F135) (fun c137 => ?_) (fun c137 => ?_)
 ·refine wp_seq_k fun K138 H138 => region_in ?_
  refine W_v V V (V_asg V V) ?_
  refine W_end (gen_Q fun A139 E139 => ?_)
  have Y139 := szq E139
  have F139 := fsE E139 (ck F135 V V)
  clear E139 Y135 F135
  have S140 : St w NoX [] w126 := S136.sel [] (by decide) V
  refine tk H138 (wp_ret (inb_ret (then_ret (then_ret (inb_ret (then_ret ?_))))))
  refine ret_in (results_1 Try.results65 (rv_tmp (fg0 F139))) F139.d ?_
  have he : (cfE C N Z K Q) = 7 := cf_bad (by omega)
  rw [he]
  exact ⟨rfl, S140.fin0⟩
 refine wp_skip (inb_n (tk H119 ?_))
 refine region_in ?_
 refine W_v V V (V_add V (fg7 F135) V (by omega) (by omega)) ?_
 refine W_v V V (V_mov V (et V)) ?_
 refine W_end (gen_Q fun A141 E141 => ?_)
 have Y141 := szq E141
 have F141 := fsE E141 (ck (cq1 (fx7 F135) V) V V)
 clear E141 Y135 F135
 refine then_n ?_
 refine LW_step ?_
 have l8_142 : EV A141 (.tmp 8) = .int .i64 (5 : Int) := (fg0 F141)
 refine wp_seq_k fun K143 H143 => region_in ?_
 refine W_v V V (V_lss V l8_142 (fg9 F141)) ?_
 refine W_end (gen_Q fun A144 E144 => ?_)
 have Y144 := szq E144
 have F144 := (fsE E144 (ck (fx7 (fx0 F141)) V V)).c (lookE E144 8 (es V l8_142))
 clear E144 Y141 F141 l8_142
 refine tk H143 (wp_seq_k fun K145 H145 => ?_)
 refine cond_not (fg1 F144) (by decide +kernel) ?_
 refine wp_exit (then_exit (then_exit ?_))
 refine inb_hit ?_
 refine tk H4 (wp_seq_k fun K146 H146 => region_in ?_)
 refine W_v V V (V_asg V V) ?_
 refine W_end (gen_Q fun A147 E147 => ?_)
 have Y147 := szq E147
 have F147 := fsE E147 (ck F144 V V)
 clear E147 Y144 F144
 have S148 : St w NoX [] w126 := S136.sel [] (by decide) V
 refine tk H146 (wp_ret ?_)
 refine ret_in (results_1 Try.results65 (rv_tmp (fg0 F147))) F147.d ?_
 have he : (cfE C N Z K Q) = 0 := cf_ok (by omega)
 rw [he]
 exact ⟨rfl, S148.fin0⟩

set_option maxHeartbeats 4000000 in
theorem klg1_c {C : Int} {N : Int} {Z : Int} {K : Int} {Q : Int} {gc : Nat} {w : World} (hb_gc : Ro w NoX (bx gc 23 #[.int .i64 C, .int .i64 N, .int .i64 Z, .int .i64 K, .int .i64 Q])) (hc : (cfE C N Z K Q) = 0) :
  Calls Try.prog 41 #[.pointer (some ⟨gc, 0, none⟩)] w fun e w' => e = .returned (.int .i64 (lgX C Z)) ∧ St w NoX [] w' := by
 have hr := cf_rng (show cfE C N Z K Q = 0 by omega)
 refine calls_in 8 Try.func41 V V (by simp) (fun A0 Y0 hdf0 hargs => ?_)
 have l0_0 := hargs 0 (.pointer (some ⟨gc, 0, none⟩)) V
 clear hargs; replace Y0 : SzN A0 8 := ⟨Y0⟩
 have hS := St.nil w
 refine wp_seq_k fun K1 H1 => region_in ?_
 refine W_v V V (V_asg V V) ?_
 refine W_end (gen_Q fun A2 E2 => ?_)
 have Y2 := szq E2
 have F2 := (fsE E2 (cq1 (FS.n hdf0) V)).c (lookE E2 0 (es V l0_0))
 clear E2 Y0 hdf0 l0_0
 refine tk H1 (wp_seq_k fun K3 H3 => region_in ?_)
 refine W_v V V (V_fa (off' := 0) V (fg0 F2) Try.underlying23 V (by decide +kernel) V) ?_
 refine W_r V V (VR_ldC V (et V) (cell_box (v := .int .i64 (C)) (ob_at (hS.ro hb_gc)) V) Try.underlying3 V) ?_
 refine W_v V V (V_quo V (et V) V (by omega) (by omega) (wrap_div (by omega) (by omega) (by omega))) ?_
 refine W_v V V (V_fa (off' := 2) V (es3 V (fg0 F2)) Try.underlying23 V (by decide +kernel) V) ?_
 refine W_r V V (VR_ldC V (et V) (cell_box (v := .int .i64 (Z)) (ob_at (hS.ro hb_gc)) V) Try.underlying3 V) ?_
 refine W_v V V (V_min V (es2 V (et V)) (et V)) ?_
 refine W_v V V (V_asg V (et V)) ?_
 refine W_end (gen_Q fun A4 E4 => ?_)
 have Y4 := szq E4
 have F4 := fsE E4 (ck (cq6 F2 V) V V)
 clear E4 Y2 F2
 refine tk H3 (wp_ret ?_)
 refine ret_in (results_1 Try.results41 (rv_tmp (fg0 F4))) F4.d ?_
 exact ⟨rfl, hS.fin0⟩

set_option maxHeartbeats 4000000 in
theorem kof_c {C : Int} {N : Int} {Z : Int} {K : Int} {Q : Int} {gc : Nat} {w : World} (hb_gc : Ro w NoX (bx gc 23 #[.int .i64 C, .int .i64 N, .int .i64 Z, .int .i64 K, .int .i64 Q]))  :
  Calls Try.prog 40 #[.agg #[.int .i64 C, .int .i64 N, .int .i64 Z, .int .i64 K, .int .i64 Q], .func (.func 41) #[] #[.pointer (some ⟨gc, 0, none⟩)]] w fun e w' => e = .returned (.tuple #[.int .i64 (lgN C N Z K Q), .int .i64 (cfE C N Z K Q)]) ∧ St w NoX [] w' := by
 refine calls_in 14 Try.func40 V V (by simp) (fun A0 Y0 hdf0 hargs => ?_)
 have l0_0 := hargs 0 (.agg #[.int .i64 C, .int .i64 N, .int .i64 Z, .int .i64 K, .int .i64 Q]) V
 have l1_0 := hargs 1 (.func (.func 41) #[] #[.pointer (some ⟨gc, 0, none⟩)]) V
 clear hargs; replace Y0 : SzN A0 14 := ⟨Y0⟩
 have hS := St.nil w
 refine wp_seq_k fun K1 H1 => region_in ?_
 refine W_boxS (zs := #[.int .i64 (C), .int .i64 (N), .int .i64 (Z), .int .i64 (K), .int .i64 (Q)]) hS V V V l0_0 (by rfl) (fun g2 w2 c2 hc2 S2 => ?_)
 replace S2 : St w NoX [c2] w2 := S2
 refine W_v V V (V_asg V V) (W_v V V (V_asg V V) ?_)
 refine W_end (gen_Q fun A3 E3 => ?_)
 have Y3 := szq E3
 have F3 := (fsE E3 (cq2 (ck (FS.n hdf0) V V) V)).c (lookE E3 1 (es3 V l1_0))
 clear E3 Y0 hdf0 l0_0 l1_0
 refine tk H1 (wp_seq_k fun K4 H4 => ?_)
 refine wp_seq_k fun K5 H5 => region_in ?_
 refine W_r V V (VR_ldA V (fg1 F3) (S2.obj 0 V hc2) Try.underlying23 V (by kernel_rfl)) ?_
 refine W_call V V V Try.func65 (by kernel_rfl) V (args1 (et V)) (kcfg_c (C := C) (N := N) (Z := Z) (K := K) (Q := Q)  ) ?_
 rintro _ w6 ⟨rfl, hP6⟩
 refine ⟨_, rfl, ?_⟩
 have S6 := S2.join hP6
 replace S6 : St w NoX [c2] w6 := S6
 refine W_v V V (V_asg V (et V)) ?_
 refine W_end (gen_Q fun A7 E7 => ?_)
 have Y7 := szq E7
 have F7 := fsE E7 (ck (cq2 F3 V) V V)
 clear E7 Y3 F3
 have S8 : St w NoX [] w6 := S6.sel [] (by decide) V
 refine tk H5 (wp_seq_k fun K9 H9 => region_in ?_)
 refine W_v V V (V_mov V (fg0 F7)) ?_
 refine W_v V V (V_neq V (et V) V) ?_
 refine W_end (gen_Q fun A10 E10 => ?_)
 have Y10 := szq E10
 have F10 := fsE E10 (ck (cq1 F7 V) V V)
 clear E10 Y7 F7
 refine tk H9 ?_
 refine cond_dec (fg0 F10) (fun c11 => ?_) (fun c11 => ?_)
 ·refine wp_seq_k fun K12 H12 => region_in ?_
  refine W_v V V (V_mov V (fg1 F10)) (W_v V V (V_asg V V) (W_v V V (V_asg V (es V (et V))) ?_))
  refine W_end (gen_Q fun A13 E13 => ?_)
  have Y13 := szq E13
  have F13 := fsE E13 (ck (ck (cq1 F10 V) V V) V V)
  clear E13 Y10 F10
  refine tk H12 (wp_ret (then_ret ?_))
  refine ret_in (results_2 Try.results40 (rv_tmp (fg1 F13)) (rv_tmp (fg0 F13))) F13.d ?_
  have hw := lg_bad (show cfE C N Z K Q ≠ 0 by omega)
  rw [hw]
  exact ⟨rfl, S8.fin0⟩
 refine wp_skip ?_
 refine tk H4 (wp_seq_k fun K14 H14 => region_in ?_)
 refine W_v V V (V_mov V (fg2 F10)) ?_
 refine W_callV V V V (et V) Try.func41 (by kernel_rfl) V (args0) (klg1_c (gc := gc) (C := C) (N := N) (Z := Z) (K := K) (Q := Q) (S8.roC hb_gc) (by first | with_reducible assumption | omega)) ?_
 rintro _ w15 ⟨rfl, hP15⟩
 refine ⟨_, rfl, ?_⟩
 have S15 := S8.join hP15
 replace S15 : St w NoX [] w15 := S15
 refine W_v V V (V_asg V (et V)) (W_v V V (V_asg V V) ?_)
 refine W_end (gen_Q fun A16 E16 => ?_)
 have Y16 := szq E16
 have F16 := fsE E16 (ck (ck (cq2 F10 V) V V) V V)
 clear E16 Y10 F10
 refine tk H14 (wp_ret ?_)
 refine ret_in (results_2 Try.results40 (rv_tmp (fg1 F16)) (rv_tmp (fg0 F16))) F16.d ?_
 have hw := lg_ok (show cfE C N Z K Q = 0 by omega)
 have he : cfE C N Z K Q = 0 := by omega
 rw [he, hw]
 exact ⟨rfl, S15.fin0⟩

set_option maxHeartbeats 4000000 in
theorem klg_c {C : Int} {N : Int} {Z : Int} {K : Int} {Q : Int} {w : World}   :
  Calls Try.prog 25 #[.agg #[.int .i64 C, .int .i64 N, .int .i64 Z, .int .i64 K, .int .i64 Q]] w fun e w' => e = .returned (.tuple #[.int .i64 (lgN C N Z K Q), .int .i64 (cfE C N Z K Q)]) ∧ St w NoX [] w' := by
 refine calls_in 9 Try.func25 V V (by simp) (fun A0 Y0 hdf0 hargs => ?_)
 have l0_0 := hargs 0 (.agg #[.int .i64 C, .int .i64 N, .int .i64 Z, .int .i64 K, .int .i64 Q]) V
 clear hargs; replace Y0 : SzN A0 9 := ⟨Y0⟩
 have hS := St.nil w
 refine wp_seq_k fun K1 H1 => region_in ?_
 refine W_boxS (zs := #[.int .i64 (C), .int .i64 (N), .int .i64 (Z), .int .i64 (K), .int .i64 (Q)]) hS V V V l0_0 (by rfl) (fun g2 w2 c2 hc2 S2 => ?_)
 replace S2 : St w NoX [c2] w2 := S2
 refine W_v V V (V_asg V V) (W_v V V (V_asg V V) ?_)
 refine W_end (gen_Q fun A3 E3 => ?_)
 have Y3 := szq E3
 have F3 := fsE E3 (cq2 (ck (FS.n hdf0) V V) V)
 clear E3 Y0 hdf0 l0_0
 refine tk H1 (wp_seq_k fun K4 H4 => region_in ?_)
 refine W_r V V (VR_ldA V (fg0 F3) (S2.obj 0 V hc2) Try.underlying23 V (by kernel_rfl)) ?_
 refine W_v V V (V_mkf V (args0) (args1 (es V (fg0 F3)))) ?_
 refine W_call V V V Try.func40 (by kernel_rfl) V (args2 (es V (et V)) (et V)) (kof_c (C := C) (N := N) (Z := Z) (K := K) (Q := Q) (gc := g2) (S2.chC 0 V hc2) ) ?_
 rintro _ w5 ⟨rfl, hP5⟩
 refine ⟨_, rfl, ?_⟩
 have S5 := S2.join hP5
 replace S5 : St w NoX [c2] w5 := S5
 refine W_v V V (V_ext (v := .int .i64 ((lgN C N Z K Q))) V (et V) V) ?_
 refine W_v V V (V_ext (v := .int .i64 ((cfE C N Z K Q))) V (es V (et V)) V) ?_
 refine W_v V V (V_asg V (es V (et V))) (W_v V V (V_asg V (es V (et V))) ?_)
 refine W_end (gen_Q fun A6 E6 => ?_)
 have Y6 := szq E6
 have F6 := fsE E6 (ck (ck (cq5 F3 V) V V) V V)
 clear E6 Y3 F3
 have S7 : St w NoX [] w5 := S5.sel [] (by decide) V
 refine tk H4 (wp_ret ?_)
 refine ret_in (results_2 Try.results25 (rv_tmp (fg1 F6)) (rv_tmp (fg0 F6))) F6.d ?_
 exact ⟨rfl, S7.fin0⟩

end Go.Proofs.Ytpgkfndbfocibaa
namespace Go.Own
open Go Go.RowKit
theorem parts8 {A : Act} {i0 i1 i2 i3 i4 i5 i6 i7 : Nat} {x0 x1 x2 x3 x4 x5 x6 x7 : Operand} {v0 v1 v2 v3 v4 v5 v6 v7 : Value} (h0 : EV A x0 = v0) (h1 : EV A x1 = v1) (h2 : EV A x2 = v2) (h3 : EV A x3 = v3) (h4 : EV A x4 = v4) (h5 : EV A x5 = v5) (h6 : EV A x6 = v6) (h7 : EV A x7 = v7) : ((#[(i0, x0), (i1, x1), (i2, x2), (i3, x3), (i4, x4), (i5, x5), (i6, x6), (i7, x7)] : Array (Nat × Operand)).map fun (i, x) => (i, EV A x)).toList = [(i0, v0), (i1, v1), (i2, v2), (i3, v3), (i4, v4), (i5, v5), (i6, v6), (i7, v7)] := by subst_vars; simp
theorem parts9 {A : Act} {i0 i1 i2 i3 i4 i5 i6 i7 i8 : Nat} {x0 x1 x2 x3 x4 x5 x6 x7 x8 : Operand} {v0 v1 v2 v3 v4 v5 v6 v7 v8 : Value} (h0 : EV A x0 = v0) (h1 : EV A x1 = v1) (h2 : EV A x2 = v2) (h3 : EV A x3 = v3) (h4 : EV A x4 = v4) (h5 : EV A x5 = v5) (h6 : EV A x6 = v6) (h7 : EV A x7 = v7) (h8 : EV A x8 = v8) : ((#[(i0, x0), (i1, x1), (i2, x2), (i3, x3), (i4, x4), (i5, x5), (i6, x6), (i7, x7), (i8, x8)] : Array (Nat × Operand)).map fun (i, x) => (i, EV A x)).toList = [(i0, v0), (i1, v1), (i2, v2), (i3, v3), (i4, v4), (i5, v5), (i6, v6), (i7, v7), (i8, v8)] := by subst_vars; simp
theorem parts11 {A : Act} {i0 i1 i2 i3 i4 i5 i6 i7 i8 i9 i10 : Nat} {x0 x1 x2 x3 x4 x5 x6 x7 x8 x9 x10 : Operand} {v0 v1 v2 v3 v4 v5 v6 v7 v8 v9 v10 : Value} (h0 : EV A x0 = v0) (h1 : EV A x1 = v1) (h2 : EV A x2 = v2) (h3 : EV A x3 = v3) (h4 : EV A x4 = v4) (h5 : EV A x5 = v5) (h6 : EV A x6 = v6) (h7 : EV A x7 = v7) (h8 : EV A x8 = v8) (h9 : EV A x9 = v9) (h10 : EV A x10 = v10) : ((#[(i0, x0), (i1, x1), (i2, x2), (i3, x3), (i4, x4), (i5, x5), (i6, x6), (i7, x7), (i8, x8), (i9, x9), (i10, x10)] : Array (Nat × Operand)).map fun (i, x) => (i, EV A x)).toList = [(i0, v0), (i1, v1), (i2, v2), (i3, v3), (i4, v4), (i5, v5), (i6, v6), (i7, v7), (i8, v8), (i9, v9), (i10, v10)] := by subst_vars; simp
end Go.Own

/-! equality of structs of integers and bools; an array value of any values; division of words -/
namespace Go.Own
open Go Go.RowKit Go.Own.Ml
inductive SF where
  | i (k : IntKind) (a b : Int)
  | b (p q : Bool)
def SF.l : SF → Value
  | .i k z _ => .int k z
  | .b p _ => .bool p
def SF.r : SF → Value
  | .i k _ z => .int k z
  | .b _ q => .bool q
def SF.e : SF → Bool
  | .i _ z z' => z == z'
  | .b p q => p == q
def SF.k : SF → Bool
  | .i _ _ _ => true
  | .b _ _ => false
section
variable {P : Program} {w : World}
theorem run_part_s {t : TypeId} {p : SF} {cs : Array Value} {i : Nat} {v : Value} (ht : (∃ k, P.underlying t = some (.int k)) ∨ P.underlying t = some .bool) (h : cs[i]? = some v) : (part t cs i).run P w = .ok v w := by
  have hagg : (isAgg t).run P w = .ok false w := by
    unfold isAgg
    rcases ht with ⟨k, ht⟩ | ht <;> (rw [Sem.run_bind, run_underlying ht w]; rfl)
  simp [part, hagg, h]
def okF (P : Program) (t : TypeId) (k : Bool) : Prop := if k then ∃ k, P.underlying t = some (.int k) else P.underlying t = some .bool
theorem eqFields_s (d : Nat) (xs ys : Array Value) : ∀ (fs : List Field) (i : Nat) (l : List SF), (∀ (j : Nat) (f : Field) (p : SF), fs[j]? = some f → l[j]? = some p → f.name ≠ "_" ∧ f.offset = i + j ∧ okF P f.type p.k) →
    (∀ (j : Nat) (p : SF), l[j]? = some p → xs[i + j]? = some p.l ∧ ys[i + j]? = some p.r) → fs.length = l.length → (Op.eqFields (d + 1) xs ys fs).run P w = .ok (l.all SF.e) w
  | [], i, l, _, _, hl => by
    have : l = [] := List.eq_nil_of_length_eq_zero hl.symm
    subst this; rfl
  | f :: fs, i, [], _, _, hl => by simp at hl
  | f :: fs, i, p :: l, hf, hp, hl => by
    obtain ⟨h1, h2, h3⟩ := hf 0 f p rfl rfl
    obtain ⟨q1, q2⟩ := hp 0 p rfl
    simp only [Nat.add_zero] at h2 q1 q2
    have ih := eqFields_s d xs ys fs (i + 1) l (fun j f' p' h hh => by have := hf (j + 1) f' p' (by simpa using h) (by simpa using hh); rwa [show i + (j + 1) = i + 1 + j by omega] at this)
      (fun j p' h => by have := hp (j + 1) p' (by simpa using h); rwa [show i + (j + 1) = i + 1 + j by omega] at this) (by simpa using hl)
    have hor : (∃ k, P.underlying f.type = some (.int k)) ∨ P.underlying f.type = some .bool := by
      unfold okF at h3; split at h3
      · exact .inl h3
      · exact .inr h3
    have he : (Op.equalIn (d + 1) f.type p.l p.r).run P w = .ok p.e w := by
      cases p with
      | i k a b => obtain ⟨k', hk⟩ := h3; exact run_equalIn_int w d f.type k k' a b hk
      | b p q => exact run_equalIn_bool w d f.type p q h3
    unfold Op.eqFields
    rw [if_pos h1, h2]
    simp only [Sem.run_bind, run_part_s (p := p) hor q1, run_part_s (p := p) hor q2, Result.andThen_ok, he]
    cases h : p.e <;> simp [h, ih]
def stG (P : Program) (t : TypeId) (ks : List Bool) : Bool := (match P.underlying t with
  | some (.struct fs) => fs.size == ks.length && (List.range ks.length).all fun j => match fs[j]? with
    | some f => f.name != "_" && f.offset == j && (match P.underlying f.type with | some (.int _) => ks.getD j true | some .bool => !ks.getD j true | _ => false)
    | none => false
  | _ => false) && !P.stoodInHeld t && !P.eqGuardType P.depth t
theorem run_eqG {t : TypeId} {xs ys : Array Value} (l : List SF) (h : stG P t (l.map SF.k) = true) (hx : xs = (l.map SF.l).toArray) (hy : ys = (l.map SF.r).toArray) :
    (Op.equalIn 10000 t (.agg xs) (.agg ys)).run P w = .ok (l.all SF.e) w ∧ P.eqGuardType P.depth t = false := by
  unfold stG at h
  simp only [Bool.and_eq_true, Bool.not_eq_true'] at h
  obtain ⟨⟨h1, h2⟩, h3⟩ := h
  refine ⟨?_, h3⟩
  split at h1
  · rename_i fs hu
    have hfs : P.fieldsOf t = fs := by unfold Program.fieldsOf; rw [hu]
    rw [run_equalIn_struct w 9999 t xs ys (by rw [hfs]; exact hu) h2, hfs]
    simp only [Bool.and_eq_true, beq_iff_eq, List.all_eq_true, List.mem_range, List.length_map] at h1
    refine eqFields_s 9998 xs ys fs.toList 0 l (fun j f p hf hp => ?_) (fun j p h => by subst hx hy; simp [h]) (by simp [h1.1])
    have hlt := (List.getElem?_eq_some_iff.1 hp).1
    have := h1.2 j hlt
    have hf' : fs[j]? = some f := by simpa using hf
    rw [hf'] at this
    simp only [Bool.and_eq_true, bne_iff_ne, beq_iff_eq] at this
    obtain ⟨⟨a, b⟩, c⟩ := this
    refine ⟨a, by omega, ?_⟩
    have hk : (l.map SF.k).getD j true = p.k := by rw [List.getD_eq_getElem?_getD, List.getElem?_map, hp]; rfl
    rw [hk] at c
    unfold okF
    split at c
    · rw [if_pos c]; exact ⟨_, by assumption⟩
    · rw [if_neg (by simpa using c)]; assumption
    · cases c
  · cases h1
variable {A : Act} {o : Oper} {x y : Operand} {t t' : TypeId} {xs ys : Array Value}
theorem V_eqG {B : Bool} (l : List SF) (ho : o.op = .binOp .eql t x y t') (hx : EV A x = .agg xs) (hy : EV A y = .agg ys) (h : stG P t (l.map SF.k) = true) (h1 : xs = (l.map SF.l).toArray) (h2 : ys = (l.map SF.r).toArray) (hB : l.all SF.e = B) : Val P A o (.bool B) := fun w => by
  obtain ⟨q1, q2⟩ := run_eqG (w := w) l h h1 h2
  unfold execOp
  simp only [ho, hx, hy, Sem.run_bind, run_eqGuard_agg w .eql t x y _ _ q2, Result.andThen_ok, run_eql_struct, q1, Sem.run_pure, hB]
theorem V_neG {B : Bool} (l : List SF) (ho : o.op = .binOp .neq t x y t') (hx : EV A x = .agg xs) (hy : EV A y = .agg ys) (h : stG P t (l.map SF.k) = true) (h1 : xs = (l.map SF.l).toArray) (h2 : ys = (l.map SF.r).toArray) (hB : (!l.all SF.e) = B) : Val P A o (.bool B) := fun w => by
  obtain ⟨q1, q2⟩ := run_eqG (w := w) l h h1 h2
  unfold execOp
  simp only [ho, hx, hy, Sem.run_bind, run_eqGuard_agg w .neq t x y _ _ q2, Result.andThen_ok, run_neq_struct, q1, Sem.run_pure, hB]
section
variable {k0 k1 k2 k3 k4 k5 k6 : IntKind} {a0 a1 a2 a3 a4 a5 a6 b0 b1 b2 b3 b4 b5 b6 : Int} {p q : Bool}
theorem V_neSt7 (ho : o.op = .binOp .neq t x y t') (hx : EV A x = .agg #[.int k0 a0, .int k1 a1, .int k2 a2, .int k3 a3, .int k4 a4, .int k5 a5, .int k6 a6]) (hy : EV A y = .agg #[.int k0 b0, .int k1 b1, .int k2 b2, .int k3 b3, .int k4 b4, .int k5 b5, .int k6 b6]) (h : stG P t [true, true, true, true, true, true, true] = true) :
    Val P A o (.bool (decide (¬ (a0 = b0 ∧ a1 = b1 ∧ a2 = b2 ∧ a3 = b3 ∧ a4 = b4 ∧ a5 = b5 ∧ a6 = b6)))) :=
  V_neG [.i k0 a0 b0, .i k1 a1 b1, .i k2 a2 b2, .i k3 a3 b3, .i k4 a4 b4, .i k5 a5 b5, .i k6 a6 b6] ho hx hy h rfl rfl (by rw [Bool.eq_iff_iff]; simp [SF.e])
theorem V_neStA (ho : o.op = .binOp .neq t x y t') (hx : EV A x = .agg #[.int k0 a0, .bool p, .int k2 a2]) (hy : EV A y = .agg #[.int k0 b0, .bool q, .int k2 b2]) (h : stG P t [true, false, true] = true) : Val P A o (.bool (decide (¬ (a0 = b0 ∧ p = q ∧ a2 = b2)))) :=
  V_neG [.i k0 a0 b0, .b p q, .i k2 a2 b2] ho hx hy h rfl rfl (by rw [Bool.eq_iff_iff]; simp [SF.e])
theorem V_eqStA (ho : o.op = .binOp .eql t x y t') (hx : EV A x = .agg #[.int k0 a0, .bool p, .int k2 a2]) (hy : EV A y = .agg #[.int k0 b0, .bool q, .int k2 b2]) (h : stG P t [true, false, true] = true) : Val P A o (.bool (decide (a0 = b0 ∧ p = q ∧ a2 = b2))) :=
  V_eqG [.i k0 a0 b0, .b p q, .i k2 a2 b2] ho hx hy h rfl rfl (by rw [Bool.eq_iff_iff]; simp [SF.e])
end
end
section
variable {P : Program} {A : Act} {o : Oper} {x p : Operand} {t e n : Nat} {kd : IntKind} {z : Int}
/-- an array of single cells, indexed. -/
theorem V_ixvV {xs : List Value} {y : Value} {de : TypeDesc} (k : Nat) (ho : o.op = .index t x p) (hx : EV A x = .agg xs.toArray) (hp : EV A p = .int kd z) (hz : z = (k : Int)) (hu : P.underlying t = some (.array n e)) (hn : xs.length = n) (hy : xs[k]? = some y)
    (hd : P.underlying e = some de) (ha : (match de with | .struct _ | .array _ _ => true | _ => false) = false) (hi : (P.info? e).map (·.size) = some 1) : Val P A o y :=
  V_ixvT (f := id) (xs := xs) k ho (by rw [hx, List.map_id]) hp hz hu hn hy hd ha hi
end
section
variable {w0 w : World} {X : Nat → Prop} {l : List HP}
/-- own slices of ints, from here on read. -/
theorem nsi_allM : ∀ (M L : List SL), St w0 X (nsi L :: ((M.map fun y : SL => io .i64 y.1 y.2) ++ l)) w → St w0 X (nsi (M ++ L) :: l) w
  | [], L, h => h
  | y :: M, L, h => by
    have h3 : St w0 X (nsi (y :: L) :: ((M.map fun y : SL => io .i64 y.1 y.2) ++ l)) w := St.two h fun f g p1 p2 _ => ⟨fun b => f b ∨ g b, fun z hz => by
      rcases List.mem_cons.1 hz with rfl | hz
      · exact sl_mono (ow_sl p2) fun b => .inr
      · exact sl_mono (p1 z hz) fun b => .inl, fun _ h => h⟩
    exact (nsi_allM M (y :: L) h3).conv fun f h z hz => h z (by simp only [List.mem_append, List.mem_cons, List.cons_append] at hz ⊢; rcases hz with q | q | q <;> simp [q])
theorem nsi_own (M : List SL) (h : St w0 X (M.map fun y : SL => io .i64 y.1 y.2) w) : St w0 X [nsi M] w := by
  have := nsi_allM (l := []) M [] (by rw [List.append_nil]; exact h.emp fun y hy => by cases hy)
  rwa [List.append_nil] at this
theorem tr_at {us : List TR} {k : Nat} {y : TR} (hy : us[k]? = some y) (h : (nsi (us.map fun y : TR => y.2)).at w) : (il .i64 y.2.1 y.2.2).at w := nsi_at1 h (mapE (g := fun y : TR => y.2) hy)
end
theorem ret_inN {P : Program} {A : Act} {w : World} {fn : Func} {R : Ending → World → Prop} {v : Value} (hr : (results fn A.tmps).run P w = .ok v w) (hd : A.defers = []) (h : R (.returned v) w) : bodyPost P fn R .normal A w := ⟨hd, v, hr, h⟩
theorem V_shr1 {P : Program} {A : Act} {o : Oper} {x y : Operand} {t t' : TypeId} {yk : IntKind} {a : Int} (ho : o.op = .binOp .shr t x y t') (hx : EV A x = .int .u64 a) (hy : EV A y = .int yk 1) : Val P A o (.int .u64 (a / 2)) := fun w => by
  unfold execOp
  simp [ho, hx, hy, eqGuard, binOp, shift_shr .u64 yk a 1 (by decide) (by decide)]
end Go.Own

namespace Go.Proofs.Ytpgkfndbfocibaa
open Go.RowKit Go.Own Go.Own.R Go.Own.G Go.Own.Gr Go.Own.Ml


set_option maxHeartbeats 4000000 in
theorem knum_c {g : Nat} {wt : Int} {w : World}  (hw : 1 ≤ wt ∧ wt ≤ 5) :
  Calls Try.prog 45 #[.pointer (some ⟨g, 0, none⟩), .int .i64 wt] w fun e w' => e = .returned (.pointer (some ⟨g, Int.toNat wt, none⟩)) ∧ St w NoX [] w' := by
 refine calls_in 23 Try.func45 V V (by simp) (fun A0 Y0 hdf0 hargs => ?_)
 have l0_0 := hargs 0 (.pointer (some ⟨g, 0, none⟩)) V
 have l1_0 := hargs 1 (.int .i64 wt) V
 clear hargs; replace Y0 : SzN A0 23 := ⟨Y0⟩
 have hS := St.nil w
 refine wp_seq_k fun K1 H1 => region_in ?_
 refine W_v V V (V_asg V V) ?_
 refine W_end (gen_Q fun A2 E2 => ?_)
 have Y2 := szq E2
 have F2 := ((fsE E2 (cq1 (FS.n hdf0) V)).c (lookE E2 0 (es V l0_0))).c (lookE E2 1 (es V l1_0))
 clear E2 Y0 hdf0 l0_0 l1_0
 refine tk H1 (wp_seq_k fun K3 H3 => ?_)
 refine region_monoS 19 19 [] (by kernel_rfl) (by kernel_rfl) ?_
 refine D_v V V (V_mov V (fg1 F2)) V V ?_
 refine D_v V V (V_nil V (et V)) V V ?_
 refine D_v V V (V_fa (off' := 1) V (et V) Try.underlying42 V (by decide +kernel) V) V V ?_
 refine D_v V V (V_mov V (es3 V (fg1 F2))) V V ?_
 refine D_v V V (V_nil V (et V)) V V ?_
 refine D_v V V (V_fa (off' := 2) V (et V) Try.underlying42 V (by decide +kernel) V) V V ?_
 refine D_v V V (V_mov V (es6 V (fg1 F2))) V V ?_
 refine D_v V V (V_nil V (et V)) V V ?_
 refine D_v V V (V_fa (off' := 3) V (et V) Try.underlying42 V (by decide +kernel) V) V V ?_
 refine D_v V V (V_mov V (es8 V (es V (fg1 F2)))) V V ?_
 refine D_v V V (V_nil V (et V)) V V ?_
 refine D_v V V (V_fa (off' := 4) V (et V) Try.underlying42 V (by decide +kernel) V) V V ?_
 refine D_v V V (V_mov V (es8 V (es4 V (fg1 F2)))) V V ?_
 refine D_v V V (V_nil V (et V)) V V ?_
 refine D_v V V (V_fa (off' := 5) V (et V) Try.underlying42 V (by decide +kernel) V) V V ?_
 refine D_v V V (V_bldA (n := 6) (z := .agg #[.pointer none, .pointer none, .pointer none, .pointer none, .pointer none, .pointer none]) V (parts5 (es8 V (es4 V (et V))) (es8 V (es V (et V))) (es6 V (et V)) (es3 V (et V)) (et V)) (by kernel_rfl) (by simp only [List.all_cons, List.all_nil, Bool.and_true] <;> rfl) (by kernel_rfl) (by simp only [List.foldl_cons, List.foldl_nil, Value.cells, List.setIfInBounds_toArray, List.set_cons_succ, List.set_cons_zero] <;> rfl)) V V ?_
 refine D_v V V (V_mov V (es8 V (es8 V (fg0 F2)))) V V ?_
 refine D_v V V (V_ixvV (xs := [.pointer none, .pointer (some ⟨g, 1, none⟩), .pointer (some ⟨g, 2, none⟩), .pointer (some ⟨g, 3, none⟩), .pointer (some ⟨g, 4, none⟩), .pointer (some ⟨g, 5, none⟩)]) (y := .pointer (some ⟨g, Int.toNat wt, none⟩)) ((Int.toNat wt)) V (es V (et V)) (et V) (by omega) Try.underlying127 V (num_at hw) Try.underlying96 V (by kernel_rfl)) V V ?_
 refine D_v V V (V_asg V (et V)) V V ?_
 refine ZS_none hS (Nat.le_refl _) (Nat.le_refl _) (fun s4 hJ4 hL4 hF4 => ?_)
 have S4 := hJ4.st; clear hF4 hJ4 hL4
 generalize s4.1 = w4 at *
 replace S4 : St w NoX [] w4 := S4
 refine gen_Q (fun A5 E5 => ?_)
 have Y5 := szq E5
 have F5 := fsE E5 (ck (cq2 (cq8 (cq8 F2 V) V) V) V V)
 clear E5 Y2 F2
 refine tk H3 (wp_ret ?_)
 refine ret_in (results_1 Try.results45 (rv_tmp (fg0 F5))) F5.d ?_
 exact ⟨rfl, S4.fin0⟩

set_option maxHeartbeats 4000000 in
theorem ktk1_c {kd : Int} {a : Int} {b : Int} {f : Int} {p : Int} {q : Int} {uu : Int} {gb : Nat} {er : Int} {ge : Nat} {w : World} {Y : Nat → Prop}  (hS : St w Y [bx gb 42 #[.int .i64 kd, .int .i64 a, .int .i64 b, .int .i64 f, .int .i64 p, .int .i64 q, .int .u64 uu], bx ge 28 #[.int .i64 er]] w)  :
  Calls Try.prog 44 #[.int .i64 1, .pointer (some ⟨gb, 0, none⟩), .pointer (some ⟨ge, 0, none⟩)] w fun e w' => e = .returned (.tuple #[]) ∧ St w Y [bx gb 42 #[.int .i64 kd, .int .i64 (if (1 : Int) = 1 then 0 else a), .int .i64 (if (1 : Int) = 2 then 0 else b), .int .i64 (if (1 : Int) = 3 then 0 else f), .int .i64 (if (1 : Int) = 4 then 0 else p), .int .i64 (if (1 : Int) = 5 then 0 else q), .int .u64 (if (1 : Int) = 6 then 0 else uu)], bx ge 28 #[.int .i64 (if ((1 : Int) = 1 ∧ badN a) ∨ ((1 : Int) = 2 ∧ badN b) ∨ ((1 : Int) = 3 ∧ badN f) ∨ ((1 : Int) = 4 ∧ badN p) ∨ ((1 : Int) = 5 ∧ badN q) then 7 else er)]] w' := by
 refine calls_in 22 Try.func44 V V (by simp) (fun A0 Y0 hdf0 hargs => ?_)
 have l0_0 := hargs 0 (.int .i64 1) V
 have l1_0 := hargs 1 (.pointer (some ⟨gb, 0, none⟩)) V
 have l2_0 := hargs 2 (.pointer (some ⟨ge, 0, none⟩)) V
 clear hargs; replace Y0 : SzN A0 22 := ⟨Y0⟩
 obtain ⟨mb_gb, mb_ge, hmb_gb, hmb_ge, hS⟩ := gen2 hS
 replace hS : St w Y [mb_gb, mb_ge] w := hS
 refine wp_seq_k fun K1 H1 => ?_
 refine wp_seq_k fun K2 H2 => region_in ?_
 refine W_v V V (V_mov V l0_0) ?_
 refine W_v V V (V_eql V (et V) V) ?_
 refine W_end (gen_Q fun A3 E3 => ?_)
 have Y3 := szq E3
 have F3 := (((fsE E3 (ck (cq1 (FS.n hdf0) V) V V)).c (lookE E3 0 (es2 V l0_0))).c (lookE E3 1 (es2 V l1_0))).c (lookE E3 2 (es2 V l2_0))
 clear E3 Y0 hdf0 l0_0 l1_0 l2_0
 refine tk H2 ?_
 refine cond_not (fg3 F3) (by decide) ?_
 refine wp_skip ?_
 refine tk H1 (wp_seq_k fun K4 H4 => region_in ?_)
 refine W_v V V (V_mov V (fg2 F3)) ?_
 refine W_call V V V Try.func45 (by kernel_rfl) V (args2 (es V (fg1 F3)) (et V)) (knum_c (g := gb) (wt := 1)  (by first | with_reducible assumption | omega)) ?_
 rintro _ w5 ⟨rfl, hP5⟩
 refine ⟨_, rfl, ?_⟩
 have S5 := hS.join hP5
 replace S5 : St w Y [mb_gb, mb_ge] w5 := S5
 refine W_v V V (V_asg V (et V)) ?_
 refine W_end (gen_Q fun A6 E6 => ?_)
 have Y6 := szq E6
 have F6 := fsE E6 (ck (cq2 F3 V) V V)
 clear E6 Y3 F3
 refine tk H4 (wp_seq_k fun K7 H7 => ?_)
 refine wp_seq_k fun K8 H8 => region_in ?_
 refine W_v V V (V_mov V (fg0 F6)) ?_
 refine W_v V V (V_nil V (et V)) ?_
 refine W_r V V (xlC (v := .int .i64 (a)) V (et V) (S5.obj 0 V hmb_gb) Try.underlying3) ?_
 refine W_v V V (V_lss V (et V) V) ?_
 refine W_split V V (V_mov V (et V)) (fun c9 => ?_) (fun c9 => ?_)
 ·refine xof V V V (et V) (xof V V V (es V (et V)) (xof V V V (es2 V (et V)) (xof V V V (es3 V (et V)) ?_)))
  refine W_v V V (V_pickT V (es4 V (et V)) V) ?_
  refine W_end (gen_Q fun A10 E10 => ?_)
  have Y10 := szq E10
  have F10 := fsE E10 (ck (cq1 (cq8 F6 V) V) V V)
  clear E10 Y6 F6
  refine tk H8 ?_
  refine cond_t (fg0 F10) ?_
  refine region_in ?_
  refine xsC (zs' := #[.int .i64 7]) 1 S5 V hmb_ge V V V (fg2 F10) V (by rfl) (fun w11 c11 hc11 S11 => ?_)
  replace S11 : St w Y [mb_gb, c11] w11 := S11
  refine W_end (tk H7 ?_)
  refine region_in ?_
  refine W_v V V (V_mov V (fg1 F10)) ?_
  refine W_v V V (V_nil V (et V)) ?_
  refine xsC (zs' := #[.int .i64 (kd), .int .i64 0, .int .i64 (b), .int .i64 (f), .int .i64 (p), .int .i64 (q), .int .u64 (uu)]) 0 S11 V hmb_gb V V V (et V) V (by rfl) (fun w12 c12 hc12 S12 => ?_)
  replace S12 : St w Y [c12, c11] w12 := S12
  refine W_end (gen_Q fun A13 E13 => ?_)
  have Y13 := szq E13
  have F13 := fsE E13 (cq2 F10 V)
  clear E13 Y10 F10
  refine ret_inN (results_0 Try.results44 ) F13.d ?_
  exact ⟨rfl, (S12.fin2 0 V (hc12.trans (by simp)) 1 V (hc11.trans (congrArg (fun z => bx ge 28 #[Value.int .i64 z]) (show _ = (if ((1 : Int) = 1 ∧ badN a) ∨ ((1 : Int) = 2 ∧ badN b) ∨ ((1 : Int) = 3 ∧ badN f) ∨ ((1 : Int) = 4 ∧ badN p) ∨ ((1 : Int) = 5 ∧ badN q) then 7 else er) from (by rw [if_pos (show ((1 : Int) = 1 ∧ badN a) ∨ ((1 : Int) = 2 ∧ badN b) ∨ ((1 : Int) = 3 ∧ badN f) ∨ ((1 : Int) = 4 ∧ badN p) ∨ ((1 : Int) = 5 ∧ badN q) from by simp [badN]; omega)])))) (by decide))⟩
 refine W_v V (xwt V V (et V)) (V_mov V (es5 V (fg0 F6))) ?_
 refine W_v V (xwt V V (es V (et V))) (V_nil V (et V)) ?_
 refine W_r V (xwt V V (es2 V (et V))) (xlC (v := .int .i64 (a)) V (et V) (S5.obj 0 V hmb_gb) Try.underlying3) ?_
 refine W_v V (xwt V V (es3 V (et V))) (V_gtr V (et V) V) ?_
 refine W_v V V (V_pickF V (es4 V (et V)) (et V)) ?_
 refine W_end (gen_Q fun A14 E14 => ?_)
 have Y14 := szq E14
 have F14 := fsE E14 (ck (cq1 (cq8 F6 V) V) V V)
 clear E14 Y6 F6
 refine tk H8 ?_
 refine cond_dec (fg0 F14) (fun c15 => ?_) (fun c15 => ?_)
 ·refine region_in ?_
  refine xsC (zs' := #[.int .i64 7]) 1 S5 V hmb_ge V V V (fg2 F14) V (by rfl) (fun w16 c16 hc16 S16 => ?_)
  replace S16 : St w Y [mb_gb, c16] w16 := S16
  refine W_end (tk H7 ?_)
  refine region_in ?_
  refine W_v V V (V_mov V (fg1 F14)) ?_
  refine W_v V V (V_nil V (et V)) ?_
  refine xsC (zs' := #[.int .i64 (kd), .int .i64 0, .int .i64 (b), .int .i64 (f), .int .i64 (p), .int .i64 (q), .int .u64 (uu)]) 0 S16 V hmb_gb V V V (et V) V (by rfl) (fun w17 c17 hc17 S17 => ?_)
  replace S17 : St w Y [c17, c16] w17 := S17
  refine W_end (gen_Q fun A18 E18 => ?_)
  have Y18 := szq E18
  have F18 := fsE E18 (cq2 F14 V)
  clear E18 Y14 F14
  refine ret_inN (results_0 Try.results44 ) F18.d ?_
  exact ⟨rfl, (S17.fin2 0 V (hc17.trans (by simp)) 1 V (hc16.trans (congrArg (fun z => bx ge 28 #[Value.int .i64 z]) (show _ = (if ((1 : Int) = 1 ∧ badN a) ∨ ((1 : Int) = 2 ∧ badN b) ∨ ((1 : Int) = 3 ∧ badN f) ∨ ((1 : Int) = 4 ∧ badN p) ∨ ((1 : Int) = 5 ∧ badN q) then 7 else er) from (by rw [if_pos (show ((1 : Int) = 1 ∧ badN a) ∨ ((1 : Int) = 2 ∧ badN b) ∨ ((1 : Int) = 3 ∧ badN f) ∨ ((1 : Int) = 4 ∧ badN p) ∨ ((1 : Int) = 5 ∧ badN q) from by simp [badN]; omega)])))) (by decide))⟩
 refine wp_skip (tk H7 ?_)
 refine region_in ?_
 refine W_v V V (V_mov V (fg1 F14)) ?_
 refine W_v V V (V_nil V (et V)) ?_
 refine xsC (zs' := #[.int .i64 (kd), .int .i64 0, .int .i64 (b), .int .i64 (f), .int .i64 (p), .int .i64 (q), .int .u64 (uu)]) 0 S5 V hmb_gb V V V (et V) V (by rfl) (fun w19 c19 hc19 S19 => ?_)
 replace S19 : St w Y [c19, mb_ge] w19 := S19
 refine W_end (gen_Q fun A20 E20 => ?_)
 have Y20 := szq E20
 have F20 := fsE E20 (cq2 F14 V)
 clear E20 Y14 F14
 refine ret_inN (results_0 Try.results44 ) F20.d ?_
 exact ⟨rfl, (S19.fin2 0 V (hc19.trans (by simp)) 1 V (hmb_ge.trans (congrArg (fun z => bx ge 28 #[Value.int .i64 z]) (show _ = (if ((1 : Int) = 1 ∧ badN a) ∨ ((1 : Int) = 2 ∧ badN b) ∨ ((1 : Int) = 3 ∧ badN f) ∨ ((1 : Int) = 4 ∧ badN p) ∨ ((1 : Int) = 5 ∧ badN q) then 7 else er) from (by rw [if_neg (show ¬ (((1 : Int) = 1 ∧ badN a) ∨ ((1 : Int) = 2 ∧ badN b) ∨ ((1 : Int) = 3 ∧ badN f) ∨ ((1 : Int) = 4 ∧ badN p) ∨ ((1 : Int) = 5 ∧ badN q)) from by simp [badN]; omega)])))) (by decide))⟩

set_option maxHeartbeats 4000000 in
theorem ktk2_c {kd : Int} {a : Int} {b : Int} {f : Int} {p : Int} {q : Int} {uu : Int} {gb : Nat} {er : Int} {ge : Nat} {w : World} {Y : Nat → Prop}  (hS : St w Y [bx gb 42 #[.int .i64 kd, .int .i64 a, .int .i64 b, .int .i64 f, .int .i64 p, .int .i64 q, .int .u64 uu], bx ge 28 #[.int .i64 er]] w)  :
  Calls Try.prog 44 #[.int .i64 2, .pointer (some ⟨gb, 0, none⟩), .pointer (some ⟨ge, 0, none⟩)] w fun e w' => e = .returned (.tuple #[]) ∧ St w Y [bx gb 42 #[.int .i64 kd, .int .i64 (if (2 : Int) = 1 then 0 else a), .int .i64 (if (2 : Int) = 2 then 0 else b), .int .i64 (if (2 : Int) = 3 then 0 else f), .int .i64 (if (2 : Int) = 4 then 0 else p), .int .i64 (if (2 : Int) = 5 then 0 else q), .int .u64 (if (2 : Int) = 6 then 0 else uu)], bx ge 28 #[.int .i64 (if ((2 : Int) = 1 ∧ badN a) ∨ ((2 : Int) = 2 ∧ badN b) ∨ ((2 : Int) = 3 ∧ badN f) ∨ ((2 : Int) = 4 ∧ badN p) ∨ ((2 : Int) = 5 ∧ badN q) then 7 else er)]] w' := by
 refine calls_in 22 Try.func44 V V (by simp) (fun A0 Y0 hdf0 hargs => ?_)
 have l0_0 := hargs 0 (.int .i64 2) V
 have l1_0 := hargs 1 (.pointer (some ⟨gb, 0, none⟩)) V
 have l2_0 := hargs 2 (.pointer (some ⟨ge, 0, none⟩)) V
 clear hargs; replace Y0 : SzN A0 22 := ⟨Y0⟩
 obtain ⟨mb_gb, mb_ge, hmb_gb, hmb_ge, hS⟩ := gen2 hS
 replace hS : St w Y [mb_gb, mb_ge] w := hS
 refine wp_seq_k fun K1 H1 => ?_
 refine wp_seq_k fun K2 H2 => region_in ?_
 refine W_v V V (V_mov V l0_0) ?_
 refine W_v V V (V_eql V (et V) V) ?_
 refine W_end (gen_Q fun A3 E3 => ?_)
 have Y3 := szq E3
 have F3 := (((fsE E3 (ck (cq1 (FS.n hdf0) V) V V)).c (lookE E3 0 (es2 V l0_0))).c (lookE E3 1 (es2 V l1_0))).c (lookE E3 2 (es2 V l2_0))
 clear E3 Y0 hdf0 l0_0 l1_0 l2_0
 refine tk H2 ?_
 refine cond_not (fg3 F3) (by decide) ?_
 refine wp_skip ?_
 refine tk H1 (wp_seq_k fun K4 H4 => region_in ?_)
 refine W_v V V (V_mov V (fg2 F3)) ?_
 refine W_call V V V Try.func45 (by kernel_rfl) V (args2 (es V (fg1 F3)) (et V)) (knum_c (g := gb) (wt := 2)  (by first | with_reducible assumption | omega)) ?_
 rintro _ w5 ⟨rfl, hP5⟩
 refine ⟨_, rfl, ?_⟩
 have S5 := hS.join hP5
 replace S5 : St w Y [mb_gb, mb_ge] w5 := S5
 refine W_v V V (V_asg V (et V)) ?_
 refine W_end (gen_Q fun A6 E6 => ?_)
 have Y6 := szq E6
 have F6 := fsE E6 (ck (cq2 F3 V) V V)
 clear E6 Y3 F3
 refine tk H4 (wp_seq_k fun K7 H7 => ?_)
 refine wp_seq_k fun K8 H8 => region_in ?_
 refine W_v V V (V_mov V (fg0 F6)) ?_
 refine W_v V V (V_nil V (et V)) ?_
 refine W_r V V (xlC (v := .int .i64 (b)) V (et V) (S5.obj 0 V hmb_gb) Try.underlying3) ?_
 refine W_v V V (V_lss V (et V) V) ?_
 refine W_split V V (V_mov V (et V)) (fun c9 => ?_) (fun c9 => ?_)
 ·refine xof V V V (et V) (xof V V V (es V (et V)) (xof V V V (es2 V (et V)) (xof V V V (es3 V (et V)) ?_)))
  refine W_v V V (V_pickT V (es4 V (et V)) V) ?_
  refine W_end (gen_Q fun A10 E10 => ?_)
  have Y10 := szq E10
  have F10 := fsE E10 (ck (cq1 (cq8 F6 V) V) V V)
  clear E10 Y6 F6
  refine tk H8 ?_
  refine cond_t (fg0 F10) ?_
  refine region_in ?_
  refine xsC (zs' := #[.int .i64 7]) 1 S5 V hmb_ge V V V (fg2 F10) V (by rfl) (fun w11 c11 hc11 S11 => ?_)
  replace S11 : St w Y [mb_gb, c11] w11 := S11
  refine W_end (tk H7 ?_)
  refine region_in ?_
  refine W_v V V (V_mov V (fg1 F10)) ?_
  refine W_v V V (V_nil V (et V)) ?_
  refine xsC (zs' := #[.int .i64 (kd), .int .i64 (a), .int .i64 0, .int .i64 (f), .int .i64 (p), .int .i64 (q), .int .u64 (uu)]) 0 S11 V hmb_gb V V V (et V) V (by rfl) (fun w12 c12 hc12 S12 => ?_)
  replace S12 : St w Y [c12, c11] w12 := S12
  refine W_end (gen_Q fun A13 E13 => ?_)
  have Y13 := szq E13
  have F13 := fsE E13 (cq2 F10 V)
  clear E13 Y10 F10
  refine ret_inN (results_0 Try.results44 ) F13.d ?_
  exact ⟨rfl, (S12.fin2 0 V (hc12.trans (by simp)) 1 V (hc11.trans (congrArg (fun z => bx ge 28 #[Value.int .i64 z]) (show _ = (if ((2 : Int) = 1 ∧ badN a) ∨ ((2 : Int) = 2 ∧ badN b) ∨ ((2 : Int) = 3 ∧ badN f) ∨ ((2 : Int) = 4 ∧ badN p) ∨ ((2 : Int) = 5 ∧ badN q) then 7 else er) from (by rw [if_pos (show ((2 : Int) = 1 ∧ badN a) ∨ ((2 : Int) = 2 ∧ badN b) ∨ ((2 : Int) = 3 ∧ badN f) ∨ ((2 : Int) = 4 ∧ badN p) ∨ ((2 : Int) = 5 ∧ badN q) from by simp [badN]; omega)])))) (by decide))⟩
 refine W_v V (xwt V V (et V)) (V_mov V (es5 V (fg0 F6))) ?_
 refine W_v V (xwt V V (es V (et V))) (V_nil V (et V)) ?_
 refine W_r V (xwt V V (es2 V (et V))) (xlC (v := .int .i64 (b)) V (et V) (S5.obj 0 V hmb_gb) Try.underlying3) ?_
 refine W_v V (xwt V V (es3 V (et V))) (V_gtr V (et V) V) ?_
 refine W_v V V (V_pickF V (es4 V (et V)) (et V)) ?_
 refine W_end (gen_Q fun A14 E14 => ?_)
 have Y14 := szq E14
 have F14 := fsE E14 (ck (cq1 (cq8 F6 V) V) V V)
 clear E14 Y6 F6
 refine tk H8 ?_
 refine cond_dec (fg0 F14) (fun c15 => ?_) (fun c15 => ?_)
 ·refine region_in ?_
  refine xsC (zs' := #[.int .i64 7]) 1 S5 V hmb_ge V V V (fg2 F14) V (by rfl) (fun w16 c16 hc16 S16 => ?_)
  replace S16 : St w Y [mb_gb, c16] w16 := S16
  refine W_end (tk H7 ?_)
  refine region_in ?_
  refine W_v V V (V_mov V (fg1 F14)) ?_
  refine W_v V V (V_nil V (et V)) ?_
  refine xsC (zs' := #[.int .i64 (kd), .int .i64 (a), .int .i64 0, .int .i64 (f), .int .i64 (p), .int .i64 (q), .int .u64 (uu)]) 0 S16 V hmb_gb V V V (et V) V (by rfl) (fun w17 c17 hc17 S17 => ?_)
  replace S17 : St w Y [c17, c16] w17 := S17
  refine W_end (gen_Q fun A18 E18 => ?_)
  have Y18 := szq E18
  have F18 := fsE E18 (cq2 F14 V)
  clear E18 Y14 F14
  refine ret_inN (results_0 Try.results44 ) F18.d ?_
  exact ⟨rfl, (S17.fin2 0 V (hc17.trans (by simp)) 1 V (hc16.trans (congrArg (fun z => bx ge 28 #[Value.int .i64 z]) (show _ = (if ((2 : Int) = 1 ∧ badN a) ∨ ((2 : Int) = 2 ∧ badN b) ∨ ((2 : Int) = 3 ∧ badN f) ∨ ((2 : Int) = 4 ∧ badN p) ∨ ((2 : Int) = 5 ∧ badN q) then 7 else er) from (by rw [if_pos (show ((2 : Int) = 1 ∧ badN a) ∨ ((2 : Int) = 2 ∧ badN b) ∨ ((2 : Int) = 3 ∧ badN f) ∨ ((2 : Int) = 4 ∧ badN p) ∨ ((2 : Int) = 5 ∧ badN q) from by simp [badN]; omega)])))) (by decide))⟩
 refine wp_skip (tk H7 ?_)
 refine region_in ?_
 refine W_v V V (V_mov V (fg1 F14)) ?_
 refine W_v V V (V_nil V (et V)) ?_
 refine xsC (zs' := #[.int .i64 (kd), .int .i64 (a), .int .i64 0, .int .i64 (f), .int .i64 (p), .int .i64 (q), .int .u64 (uu)]) 0 S5 V hmb_gb V V V (et V) V (by rfl) (fun w19 c19 hc19 S19 => ?_)
 replace S19 : St w Y [c19, mb_ge] w19 := S19
 refine W_end (gen_Q fun A20 E20 => ?_)
 have Y20 := szq E20
 have F20 := fsE E20 (cq2 F14 V)
 clear E20 Y14 F14
 refine ret_inN (results_0 Try.results44 ) F20.d ?_
 exact ⟨rfl, (S19.fin2 0 V (hc19.trans (by simp)) 1 V (hmb_ge.trans (congrArg (fun z => bx ge 28 #[Value.int .i64 z]) (show _ = (if ((2 : Int) = 1 ∧ badN a) ∨ ((2 : Int) = 2 ∧ badN b) ∨ ((2 : Int) = 3 ∧ badN f) ∨ ((2 : Int) = 4 ∧ badN p) ∨ ((2 : Int) = 5 ∧ badN q) then 7 else er) from (by rw [if_neg (show ¬ (((2 : Int) = 1 ∧ badN a) ∨ ((2 : Int) = 2 ∧ badN b) ∨ ((2 : Int) = 3 ∧ badN f) ∨ ((2 : Int) = 4 ∧ badN p) ∨ ((2 : Int) = 5 ∧ badN q)) from by simp [badN]; omega)])))) (by decide))⟩

set_option maxHeartbeats 4000000 in
theorem ktk3_c {kd : Int} {a : Int} {b : Int} {f : Int} {p : Int} {q : Int} {uu : Int} {gb : Nat} {er : Int} {ge : Nat} {w : World} {Y : Nat → Prop}  (hS : St w Y [bx gb 42 #[.int .i64 kd, .int .i64 a, .int .i64 b, .int .i64 f, .int .i64 p, .int .i64 q, .int .u64 uu], bx ge 28 #[.int .i64 er]] w)  :
  Calls Try.prog 44 #[.int .i64 3, .pointer (some ⟨gb, 0, none⟩), .pointer (some ⟨ge, 0, none⟩)] w fun e w' => e = .returned (.tuple #[]) ∧ St w Y [bx gb 42 #[.int .i64 kd, .int .i64 (if (3 : Int) = 1 then 0 else a), .int .i64 (if (3 : Int) = 2 then 0 else b), .int .i64 (if (3 : Int) = 3 then 0 else f), .int .i64 (if (3 : Int) = 4 then 0 else p), .int .i64 (if (3 : Int) = 5 then 0 else q), .int .u64 (if (3 : Int) = 6 then 0 else uu)], bx ge 28 #[.int .i64 (if ((3 : Int) = 1 ∧ badN a) ∨ ((3 : Int) = 2 ∧ badN b) ∨ ((3 : Int) = 3 ∧ badN f) ∨ ((3 : Int) = 4 ∧ badN p) ∨ ((3 : Int) = 5 ∧ badN q) then 7 else er)]] w' := by
 refine calls_in 22 Try.func44 V V (by simp) (fun A0 Y0 hdf0 hargs => ?_)
 have l0_0 := hargs 0 (.int .i64 3) V
 have l1_0 := hargs 1 (.pointer (some ⟨gb, 0, none⟩)) V
 have l2_0 := hargs 2 (.pointer (some ⟨ge, 0, none⟩)) V
 clear hargs; replace Y0 : SzN A0 22 := ⟨Y0⟩
 obtain ⟨mb_gb, mb_ge, hmb_gb, hmb_ge, hS⟩ := gen2 hS
 replace hS : St w Y [mb_gb, mb_ge] w := hS
 refine wp_seq_k fun K1 H1 => ?_
 refine wp_seq_k fun K2 H2 => region_in ?_
 refine W_v V V (V_mov V l0_0) ?_
 refine W_v V V (V_eql V (et V) V) ?_
 refine W_end (gen_Q fun A3 E3 => ?_)
 have Y3 := szq E3
 have F3 := (((fsE E3 (ck (cq1 (FS.n hdf0) V) V V)).c (lookE E3 0 (es2 V l0_0))).c (lookE E3 1 (es2 V l1_0))).c (lookE E3 2 (es2 V l2_0))
 clear E3 Y0 hdf0 l0_0 l1_0 l2_0
 refine tk H2 ?_
 refine cond_not (fg3 F3) (by decide) ?_
 refine wp_skip ?_
 refine tk H1 (wp_seq_k fun K4 H4 => region_in ?_)
 refine W_v V V (V_mov V (fg2 F3)) ?_
 refine W_call V V V Try.func45 (by kernel_rfl) V (args2 (es V (fg1 F3)) (et V)) (knum_c (g := gb) (wt := 3)  (by first | with_reducible assumption | omega)) ?_
 rintro _ w5 ⟨rfl, hP5⟩
 refine ⟨_, rfl, ?_⟩
 have S5 := hS.join hP5
 replace S5 : St w Y [mb_gb, mb_ge] w5 := S5
 refine W_v V V (V_asg V (et V)) ?_
 refine W_end (gen_Q fun A6 E6 => ?_)
 have Y6 := szq E6
 have F6 := fsE E6 (ck (cq2 F3 V) V V)
 clear E6 Y3 F3
 refine tk H4 (wp_seq_k fun K7 H7 => ?_)
 refine wp_seq_k fun K8 H8 => region_in ?_
 refine W_v V V (V_mov V (fg0 F6)) ?_
 refine W_v V V (V_nil V (et V)) ?_
 refine W_r V V (xlC (v := .int .i64 (f)) V (et V) (S5.obj 0 V hmb_gb) Try.underlying3) ?_
 refine W_v V V (V_lss V (et V) V) ?_
 refine W_split V V (V_mov V (et V)) (fun c9 => ?_) (fun c9 => ?_)
 ·refine xof V V V (et V) (xof V V V (es V (et V)) (xof V V V (es2 V (et V)) (xof V V V (es3 V (et V)) ?_)))
  refine W_v V V (V_pickT V (es4 V (et V)) V) ?_
  refine W_end (gen_Q fun A10 E10 => ?_)
  have Y10 := szq E10
  have F10 := fsE E10 (ck (cq1 (cq8 F6 V) V) V V)
  clear E10 Y6 F6
  refine tk H8 ?_
  refine cond_t (fg0 F10) ?_
  refine region_in ?_
  refine xsC (zs' := #[.int .i64 7]) 1 S5 V hmb_ge V V V (fg2 F10) V (by rfl) (fun w11 c11 hc11 S11 => ?_)
  replace S11 : St w Y [mb_gb, c11] w11 := S11
  refine W_end (tk H7 ?_)
  refine region_in ?_
  refine W_v V V (V_mov V (fg1 F10)) ?_
  refine W_v V V (V_nil V (et V)) ?_
  refine xsC (zs' := #[.int .i64 (kd), .int .i64 (a), .int .i64 (b), .int .i64 0, .int .i64 (p), .int .i64 (q), .int .u64 (uu)]) 0 S11 V hmb_gb V V V (et V) V (by rfl) (fun w12 c12 hc12 S12 => ?_)
  replace S12 : St w Y [c12, c11] w12 := S12
  refine W_end (gen_Q fun A13 E13 => ?_)
  have Y13 := szq E13
  have F13 := fsE E13 (cq2 F10 V)
  clear E13 Y10 F10
  refine ret_inN (results_0 Try.results44 ) F13.d ?_
  exact ⟨rfl, (S12.fin2 0 V (hc12.trans (by simp)) 1 V (hc11.trans (congrArg (fun z => bx ge 28 #[Value.int .i64 z]) (show _ = (if ((3 : Int) = 1 ∧ badN a) ∨ ((3 : Int) = 2 ∧ badN b) ∨ ((3 : Int) = 3 ∧ badN f) ∨ ((3 : Int) = 4 ∧ badN p) ∨ ((3 : Int) = 5 ∧ badN q) then 7 else er) from (by rw [if_pos (show ((3 : Int) = 1 ∧ badN a) ∨ ((3 : Int) = 2 ∧ badN b) ∨ ((3 : Int) = 3 ∧ badN f) ∨ ((3 : Int) = 4 ∧ badN p) ∨ ((3 : Int) = 5 ∧ badN q) from by simp [badN]; omega)])))) (by decide))⟩
 refine W_v V (xwt V V (et V)) (V_mov V (es5 V (fg0 F6))) ?_
 refine W_v V (xwt V V (es V (et V))) (V_nil V (et V)) ?_
 refine W_r V (xwt V V (es2 V (et V))) (xlC (v := .int .i64 (f)) V (et V) (S5.obj 0 V hmb_gb) Try.underlying3) ?_
 refine W_v V (xwt V V (es3 V (et V))) (V_gtr V (et V) V) ?_
 refine W_v V V (V_pickF V (es4 V (et V)) (et V)) ?_
 refine W_end (gen_Q fun A14 E14 => ?_)
 have Y14 := szq E14
 have F14 := fsE E14 (ck (cq1 (cq8 F6 V) V) V V)
 clear E14 Y6 F6
 refine tk H8 ?_
 refine cond_dec (fg0 F14) (fun c15 => ?_) (fun c15 => ?_)
 ·refine region_in ?_
  refine xsC (zs' := #[.int .i64 7]) 1 S5 V hmb_ge V V V (fg2 F14) V (by rfl) (fun w16 c16 hc16 S16 => ?_)
  replace S16 : St w Y [mb_gb, c16] w16 := S16
  refine W_end (tk H7 ?_)
  refine region_in ?_
  refine W_v V V (V_mov V (fg1 F14)) ?_
  refine W_v V V (V_nil V (et V)) ?_
  refine xsC (zs' := #[.int .i64 (kd), .int .i64 (a), .int .i64 (b), .int .i64 0, .int .i64 (p), .int .i64 (q), .int .u64 (uu)]) 0 S16 V hmb_gb V V V (et V) V (by rfl) (fun w17 c17 hc17 S17 => ?_)
  replace S17 : St w Y [c17, c16] w17 := S17
  refine W_end (gen_Q fun A18 E18 => ?_)
  have Y18 := szq E18
  have F18 := fsE E18 (cq2 F14 V)
  clear E18 Y14 F14
  refine ret_inN (results_0 Try.results44 ) F18.d ?_
  exact ⟨rfl, (S17.fin2 0 V (hc17.trans (by simp)) 1 V (hc16.trans (congrArg (fun z => bx ge 28 #[Value.int .i64 z]) (show _ = (if ((3 : Int) = 1 ∧ badN a) ∨ ((3 : Int) = 2 ∧ badN b) ∨ ((3 : Int) = 3 ∧ badN f) ∨ ((3 : Int) = 4 ∧ badN p) ∨ ((3 : Int) = 5 ∧ badN q) then 7 else er) from (by rw [if_pos (show ((3 : Int) = 1 ∧ badN a) ∨ ((3 : Int) = 2 ∧ badN b) ∨ ((3 : Int) = 3 ∧ badN f) ∨ ((3 : Int) = 4 ∧ badN p) ∨ ((3 : Int) = 5 ∧ badN q) from by simp [badN]; omega)])))) (by decide))⟩
 refine wp_skip (tk H7 ?_)
 refine region_in ?_
 refine W_v V V (V_mov V (fg1 F14)) ?_
 refine W_v V V (V_nil V (et V)) ?_
 refine xsC (zs' := #[.int .i64 (kd), .int .i64 (a), .int .i64 (b), .int .i64 0, .int .i64 (p), .int .i64 (q), .int .u64 (uu)]) 0 S5 V hmb_gb V V V (et V) V (by rfl) (fun w19 c19 hc19 S19 => ?_)
 replace S19 : St w Y [c19, mb_ge] w19 := S19
 refine W_end (gen_Q fun A20 E20 => ?_)
 have Y20 := szq E20
 have F20 := fsE E20 (cq2 F14 V)
 clear E20 Y14 F14
 refine ret_inN (results_0 Try.results44 ) F20.d ?_
 exact ⟨rfl, (S19.fin2 0 V (hc19.trans (by simp)) 1 V (hmb_ge.trans (congrArg (fun z => bx ge 28 #[Value.int .i64 z]) (show _ = (if ((3 : Int) = 1 ∧ badN a) ∨ ((3 : Int) = 2 ∧ badN b) ∨ ((3 : Int) = 3 ∧ badN f) ∨ ((3 : Int) = 4 ∧ badN p) ∨ ((3 : Int) = 5 ∧ badN q) then 7 else er) from (by rw [if_neg (show ¬ (((3 : Int) = 1 ∧ badN a) ∨ ((3 : Int) = 2 ∧ badN b) ∨ ((3 : Int) = 3 ∧ badN f) ∨ ((3 : Int) = 4 ∧ badN p) ∨ ((3 : Int) = 5 ∧ badN q)) from by simp [badN]; omega)])))) (by decide))⟩

set_option maxHeartbeats 4000000 in
theorem ktk4_c {kd : Int} {a : Int} {b : Int} {f : Int} {p : Int} {q : Int} {uu : Int} {gb : Nat} {er : Int} {ge : Nat} {w : World} {Y : Nat → Prop}  (hS : St w Y [bx gb 42 #[.int .i64 kd, .int .i64 a, .int .i64 b, .int .i64 f, .int .i64 p, .int .i64 q, .int .u64 uu], bx ge 28 #[.int .i64 er]] w)  :
  Calls Try.prog 44 #[.int .i64 4, .pointer (some ⟨gb, 0, none⟩), .pointer (some ⟨ge, 0, none⟩)] w fun e w' => e = .returned (.tuple #[]) ∧ St w Y [bx gb 42 #[.int .i64 kd, .int .i64 (if (4 : Int) = 1 then 0 else a), .int .i64 (if (4 : Int) = 2 then 0 else b), .int .i64 (if (4 : Int) = 3 then 0 else f), .int .i64 (if (4 : Int) = 4 then 0 else p), .int .i64 (if (4 : Int) = 5 then 0 else q), .int .u64 (if (4 : Int) = 6 then 0 else uu)], bx ge 28 #[.int .i64 (if ((4 : Int) = 1 ∧ badN a) ∨ ((4 : Int) = 2 ∧ badN b) ∨ ((4 : Int) = 3 ∧ badN f) ∨ ((4 : Int) = 4 ∧ badN p) ∨ ((4 : Int) = 5 ∧ badN q) then 7 else er)]] w' := by
 refine calls_in 22 Try.func44 V V (by simp) (fun A0 Y0 hdf0 hargs => ?_)
 have l0_0 := hargs 0 (.int .i64 4) V
 have l1_0 := hargs 1 (.pointer (some ⟨gb, 0, none⟩)) V
 have l2_0 := hargs 2 (.pointer (some ⟨ge, 0, none⟩)) V
 clear hargs; replace Y0 : SzN A0 22 := ⟨Y0⟩
 obtain ⟨mb_gb, mb_ge, hmb_gb, hmb_ge, hS⟩ := gen2 hS
 replace hS : St w Y [mb_gb, mb_ge] w := hS
 refine wp_seq_k fun K1 H1 => ?_
 refine wp_seq_k fun K2 H2 => region_in ?_
 refine W_v V V (V_mov V l0_0) ?_
 refine W_v V V (V_eql V (et V) V) ?_
 refine W_end (gen_Q fun A3 E3 => ?_)
 have Y3 := szq E3
 have F3 := (((fsE E3 (ck (cq1 (FS.n hdf0) V) V V)).c (lookE E3 0 (es2 V l0_0))).c (lookE E3 1 (es2 V l1_0))).c (lookE E3 2 (es2 V l2_0))
 clear E3 Y0 hdf0 l0_0 l1_0 l2_0
 refine tk H2 ?_
 refine cond_not (fg3 F3) (by decide) ?_
 refine wp_skip ?_
 refine tk H1 (wp_seq_k fun K4 H4 => region_in ?_)
 refine W_v V V (V_mov V (fg2 F3)) ?_
 refine W_call V V V Try.func45 (by kernel_rfl) V (args2 (es V (fg1 F3)) (et V)) (knum_c (g := gb) (wt := 4)  (by first | with_reducible assumption | omega)) ?_
 rintro _ w5 ⟨rfl, hP5⟩
 refine ⟨_, rfl, ?_⟩
 have S5 := hS.join hP5
 replace S5 : St w Y [mb_gb, mb_ge] w5 := S5
 refine W_v V V (V_asg V (et V)) ?_
 refine W_end (gen_Q fun A6 E6 => ?_)
 have Y6 := szq E6
 have F6 := fsE E6 (ck (cq2 F3 V) V V)
 clear E6 Y3 F3
 refine tk H4 (wp_seq_k fun K7 H7 => ?_)
 refine wp_seq_k fun K8 H8 => region_in ?_
 refine W_v V V (V_mov V (fg0 F6)) ?_
 refine W_v V V (V_nil V (et V)) ?_
 refine W_r V V (xlC (v := .int .i64 (p)) V (et V) (S5.obj 0 V hmb_gb) Try.underlying3) ?_
 refine W_v V V (V_lss V (et V) V) ?_
 refine W_split V V (V_mov V (et V)) (fun c9 => ?_) (fun c9 => ?_)
 ·refine xof V V V (et V) (xof V V V (es V (et V)) (xof V V V (es2 V (et V)) (xof V V V (es3 V (et V)) ?_)))
  refine W_v V V (V_pickT V (es4 V (et V)) V) ?_
  refine W_end (gen_Q fun A10 E10 => ?_)
  have Y10 := szq E10
  have F10 := fsE E10 (ck (cq1 (cq8 F6 V) V) V V)
  clear E10 Y6 F6
  refine tk H8 ?_
  refine cond_t (fg0 F10) ?_
  refine region_in ?_
  refine xsC (zs' := #[.int .i64 7]) 1 S5 V hmb_ge V V V (fg2 F10) V (by rfl) (fun w11 c11 hc11 S11 => ?_)
  replace S11 : St w Y [mb_gb, c11] w11 := S11
  refine W_end (tk H7 ?_)
  refine region_in ?_
  refine W_v V V (V_mov V (fg1 F10)) ?_
  refine W_v V V (V_nil V (et V)) ?_
  refine xsC (zs' := #[.int .i64 (kd), .int .i64 (a), .int .i64 (b), .int .i64 (f), .int .i64 0, .int .i64 (q), .int .u64 (uu)]) 0 S11 V hmb_gb V V V (et V) V (by rfl) (fun w12 c12 hc12 S12 => ?_)
  replace S12 : St w Y [c12, c11] w12 := S12
  refine W_end (gen_Q fun A13 E13 => ?_)
  have Y13 := szq E13
  have F13 := fsE E13 (cq2 F10 V)
  clear E13 Y10 F10
  refine ret_inN (results_0 Try.results44 ) F13.d ?_
  exact ⟨rfl, (S12.fin2 0 V (hc12.trans (by simp)) 1 V (hc11.trans (congrArg (fun z => bx ge 28 #[Value.int .i64 z]) (show _ = (if ((4 : Int) = 1 ∧ badN a) ∨ ((4 : Int) = 2 ∧ badN b) ∨ ((4 : Int) = 3 ∧ badN f) ∨ ((4 : Int) = 4 ∧ badN p) ∨ ((4 : Int) = 5 ∧ badN q) then 7 else er) from (by rw [if_pos (show ((4 : Int) = 1 ∧ badN a) ∨ ((4 : Int) = 2 ∧ badN b) ∨ ((4 : Int) = 3 ∧ badN f) ∨ ((4 : Int) = 4 ∧ badN p) ∨ ((4 : Int) = 5 ∧ badN q) from by simp [badN]; omega)])))) (by decide))⟩
 refine W_v V (xwt V V (et V)) (V_mov V (es5 V (fg0 F6))) ?_
 refine W_v V (xwt V V (es V (et V))) (V_nil V (et V)) ?_
 refine W_r V (xwt V V (es2 V (et V))) (xlC (v := .int .i64 (p)) V (et V) (S5.obj 0 V hmb_gb) Try.underlying3) ?_
 refine W_v V (xwt V V (es3 V (et V))) (V_gtr V (et V) V) ?_
 refine W_v V V (V_pickF V (es4 V (et V)) (et V)) ?_
 refine W_end (gen_Q fun A14 E14 => ?_)
 have Y14 := szq E14
 have F14 := fsE E14 (ck (cq1 (cq8 F6 V) V) V V)
 clear E14 Y6 F6
 refine tk H8 ?_
 refine cond_dec (fg0 F14) (fun c15 => ?_) (fun c15 => ?_)
 ·refine region_in ?_
  refine xsC (zs' := #[.int .i64 7]) 1 S5 V hmb_ge V V V (fg2 F14) V (by rfl) (fun w16 c16 hc16 S16 => ?_)
  replace S16 : St w Y [mb_gb, c16] w16 := S16
  refine W_end (tk H7 ?_)
  refine region_in ?_
  refine W_v V V (V_mov V (fg1 F14)) ?_
  refine W_v V V (V_nil V (et V)) ?_
  refine xsC (zs' := #[.int .i64 (kd), .int .i64 (a), .int .i64 (b), .int .i64 (f), .int .i64 0, .int .i64 (q), .int .u64 (uu)]) 0 S16 V hmb_gb V V V (et V) V (by rfl) (fun w17 c17 hc17 S17 => ?_)
  replace S17 : St w Y [c17, c16] w17 := S17
  refine W_end (gen_Q fun A18 E18 => ?_)
  have Y18 := szq E18
  have F18 := fsE E18 (cq2 F14 V)
  clear E18 Y14 F14
  refine ret_inN (results_0 Try.results44 ) F18.d ?_
  exact ⟨rfl, (S17.fin2 0 V (hc17.trans (by simp)) 1 V (hc16.trans (congrArg (fun z => bx ge 28 #[Value.int .i64 z]) (show _ = (if ((4 : Int) = 1 ∧ badN a) ∨ ((4 : Int) = 2 ∧ badN b) ∨ ((4 : Int) = 3 ∧ badN f) ∨ ((4 : Int) = 4 ∧ badN p) ∨ ((4 : Int) = 5 ∧ badN q) then 7 else er) from (by rw [if_pos (show ((4 : Int) = 1 ∧ badN a) ∨ ((4 : Int) = 2 ∧ badN b) ∨ ((4 : Int) = 3 ∧ badN f) ∨ ((4 : Int) = 4 ∧ badN p) ∨ ((4 : Int) = 5 ∧ badN q) from by simp [badN]; omega)])))) (by decide))⟩
 refine wp_skip (tk H7 ?_)
 refine region_in ?_
 refine W_v V V (V_mov V (fg1 F14)) ?_
 refine W_v V V (V_nil V (et V)) ?_
 refine xsC (zs' := #[.int .i64 (kd), .int .i64 (a), .int .i64 (b), .int .i64 (f), .int .i64 0, .int .i64 (q), .int .u64 (uu)]) 0 S5 V hmb_gb V V V (et V) V (by rfl) (fun w19 c19 hc19 S19 => ?_)
 replace S19 : St w Y [c19, mb_ge] w19 := S19
 refine W_end (gen_Q fun A20 E20 => ?_)
 have Y20 := szq E20
 have F20 := fsE E20 (cq2 F14 V)
 clear E20 Y14 F14
 refine ret_inN (results_0 Try.results44 ) F20.d ?_
 exact ⟨rfl, (S19.fin2 0 V (hc19.trans (by simp)) 1 V (hmb_ge.trans (congrArg (fun z => bx ge 28 #[Value.int .i64 z]) (show _ = (if ((4 : Int) = 1 ∧ badN a) ∨ ((4 : Int) = 2 ∧ badN b) ∨ ((4 : Int) = 3 ∧ badN f) ∨ ((4 : Int) = 4 ∧ badN p) ∨ ((4 : Int) = 5 ∧ badN q) then 7 else er) from (by rw [if_neg (show ¬ (((4 : Int) = 1 ∧ badN a) ∨ ((4 : Int) = 2 ∧ badN b) ∨ ((4 : Int) = 3 ∧ badN f) ∨ ((4 : Int) = 4 ∧ badN p) ∨ ((4 : Int) = 5 ∧ badN q)) from by simp [badN]; omega)])))) (by decide))⟩

set_option maxHeartbeats 4000000 in
theorem ktk5_c {kd : Int} {a : Int} {b : Int} {f : Int} {p : Int} {q : Int} {uu : Int} {gb : Nat} {er : Int} {ge : Nat} {w : World} {Y : Nat → Prop}  (hS : St w Y [bx gb 42 #[.int .i64 kd, .int .i64 a, .int .i64 b, .int .i64 f, .int .i64 p, .int .i64 q, .int .u64 uu], bx ge 28 #[.int .i64 er]] w)  :
  Calls Try.prog 44 #[.int .i64 5, .pointer (some ⟨gb, 0, none⟩), .pointer (some ⟨ge, 0, none⟩)] w fun e w' => e = .returned (.tuple #[]) ∧ St w Y [bx gb 42 #[.int .i64 kd, .int .i64 (if (5 : Int) = 1 then 0 else a), .int .i64 (if (5 : Int) = 2 then 0 else b), .int .i64 (if (5 : Int) = 3 then 0 else f), .int .i64 (if (5 : Int) = 4 then 0 else p), .int .i64 (if (5 : Int) = 5 then 0 else q), .int .u64 (if (5 : Int) = 6 then 0 else uu)], bx ge 28 #[.int .i64 (if ((5 : Int) = 1 ∧ badN a) ∨ ((5 : Int) = 2 ∧ badN b) ∨ ((5 : Int) = 3 ∧ badN f) ∨ ((5 : Int) = 4 ∧ badN p) ∨ ((5 : Int) = 5 ∧ badN q) then 7 else er)]] w' := by
 refine calls_in 22 Try.func44 V V (by simp) (fun A0 Y0 hdf0 hargs => ?_)
 have l0_0 := hargs 0 (.int .i64 5) V
 have l1_0 := hargs 1 (.pointer (some ⟨gb, 0, none⟩)) V
 have l2_0 := hargs 2 (.pointer (some ⟨ge, 0, none⟩)) V
 clear hargs; replace Y0 : SzN A0 22 := ⟨Y0⟩
 obtain ⟨mb_gb, mb_ge, hmb_gb, hmb_ge, hS⟩ := gen2 hS
 replace hS : St w Y [mb_gb, mb_ge] w := hS
 refine wp_seq_k fun K1 H1 => ?_
 refine wp_seq_k fun K2 H2 => region_in ?_
 refine W_v V V (V_mov V l0_0) ?_
 refine W_v V V (V_eql V (et V) V) ?_
 refine W_end (gen_Q fun A3 E3 => ?_)
 have Y3 := szq E3
 have F3 := (((fsE E3 (ck (cq1 (FS.n hdf0) V) V V)).c (lookE E3 0 (es2 V l0_0))).c (lookE E3 1 (es2 V l1_0))).c (lookE E3 2 (es2 V l2_0))
 clear E3 Y0 hdf0 l0_0 l1_0 l2_0
 refine tk H2 ?_
 refine cond_not (fg3 F3) (by decide) ?_
 refine wp_skip ?_
 refine tk H1 (wp_seq_k fun K4 H4 => region_in ?_)
 refine W_v V V (V_mov V (fg2 F3)) ?_
 refine W_call V V V Try.func45 (by kernel_rfl) V (args2 (es V (fg1 F3)) (et V)) (knum_c (g := gb) (wt := 5)  (by first | with_reducible assumption | omega)) ?_
 rintro _ w5 ⟨rfl, hP5⟩
 refine ⟨_, rfl, ?_⟩
 have S5 := hS.join hP5
 replace S5 : St w Y [mb_gb, mb_ge] w5 := S5
 refine W_v V V (V_asg V (et V)) ?_
 refine W_end (gen_Q fun A6 E6 => ?_)
 have Y6 := szq E6
 have F6 := fsE E6 (ck (cq2 F3 V) V V)
 clear E6 Y3 F3
 refine tk H4 (wp_seq_k fun K7 H7 => ?_)
 refine wp_seq_k fun K8 H8 => region_in ?_
 refine W_v V V (V_mov V (fg0 F6)) ?_
 refine W_v V V (V_nil V (et V)) ?_
 refine W_r V V (xlC (v := .int .i64 (q)) V (et V) (S5.obj 0 V hmb_gb) Try.underlying3) ?_
 refine W_v V V (V_lss V (et V) V) ?_
 refine W_split V V (V_mov V (et V)) (fun c9 => ?_) (fun c9 => ?_)
 ·refine xof V V V (et V) (xof V V V (es V (et V)) (xof V V V (es2 V (et V)) (xof V V V (es3 V (et V)) ?_)))
  refine W_v V V (V_pickT V (es4 V (et V)) V) ?_
  refine W_end (gen_Q fun A10 E10 => ?_)
  have Y10 := szq E10
  have F10 := fsE E10 (ck (cq1 (cq8 F6 V) V) V V)
  clear E10 Y6 F6
  refine tk H8 ?_
  refine cond_t (fg0 F10) ?_
  refine region_in ?_
  refine xsC (zs' := #[.int .i64 7]) 1 S5 V hmb_ge V V V (fg2 F10) V (by rfl) (fun w11 c11 hc11 S11 => ?_)
  replace S11 : St w Y [mb_gb, c11] w11 := S11
  refine W_end (tk H7 ?_)
  refine region_in ?_
  refine W_v V V (V_mov V (fg1 F10)) ?_
  refine W_v V V (V_nil V (et V)) ?_
  refine xsC (zs' := #[.int .i64 (kd), .int .i64 (a), .int .i64 (b), .int .i64 (f), .int .i64 (p), .int .i64 0, .int .u64 (uu)]) 0 S11 V hmb_gb V V V (et V) V (by rfl) (fun w12 c12 hc12 S12 => ?_)
  replace S12 : St w Y [c12, c11] w12 := S12
  refine W_end (gen_Q fun A13 E13 => ?_)
  have Y13 := szq E13
  have F13 := fsE E13 (cq2 F10 V)
  clear E13 Y10 F10
  refine ret_inN (results_0 Try.results44 ) F13.d ?_
  exact ⟨rfl, (S12.fin2 0 V (hc12.trans (by simp)) 1 V (hc11.trans (congrArg (fun z => bx ge 28 #[Value.int .i64 z]) (show _ = (if ((5 : Int) = 1 ∧ badN a) ∨ ((5 : Int) = 2 ∧ badN b) ∨ ((5 : Int) = 3 ∧ badN f) ∨ ((5 : Int) = 4 ∧ badN p) ∨ ((5 : Int) = 5 ∧ badN q) then 7 else er) from (by rw [if_pos (show ((5 : Int) = 1 ∧ badN a) ∨ ((5 : Int) = 2 ∧ badN b) ∨ ((5 : Int) = 3 ∧ badN f) ∨ ((5 : Int) = 4 ∧ badN p) ∨ ((5 : Int) = 5 ∧ badN q) from by simp [badN]; omega)])))) (by decide))⟩
 refine W_v V (xwt V V (et V)) (V_mov V (es5 V (fg0 F6))) ?_
 refine W_v V (xwt V V (es V (et V))) (V_nil V (et V)) ?_
 refine W_r V (xwt V V (es2 V (et V))) (xlC (v := .int .i64 (q)) V (et V) (S5.obj 0 V hmb_gb) Try.underlying3) ?_
 refine W_v V (xwt V V (es3 V (et V))) (V_gtr V (et V) V) ?_
 refine W_v V V (V_pickF V (es4 V (et V)) (et V)) ?_
 refine W_end (gen_Q fun A14 E14 => ?_)
 have Y14 := szq E14
 have F14 := fsE E14 (ck (cq1 (cq8 F6 V) V) V V)
 clear E14 Y6 F6
 refine tk H8 ?_
 refine cond_dec (fg0 F14) (fun c15 => ?_) (fun c15 => ?_)
 ·refine region_in ?_
  refine xsC (zs' := #[.int .i64 7]) 1 S5 V hmb_ge V V V (fg2 F14) V (by rfl) (fun w16 c16 hc16 S16 => ?_)
  replace S16 : St w Y [mb_gb, c16] w16 := S16
  refine W_end (tk H7 ?_)
  refine region_in ?_
  refine W_v V V (V_mov V (fg1 F14)) ?_
  refine W_v V V (V_nil V (et V)) ?_
  refine xsC (zs' := #[.int .i64 (kd), .int .i64 (a), .int .i64 (b), .int .i64 (f), .int .i64 (p), .int .i64 0, .int .u64 (uu)]) 0 S16 V hmb_gb V V V (et V) V (by rfl) (fun w17 c17 hc17 S17 => ?_)
  replace S17 : St w Y [c17, c16] w17 := S17
  refine W_end (gen_Q fun A18 E18 => ?_)
  have Y18 := szq E18
  have F18 := fsE E18 (cq2 F14 V)
  clear E18 Y14 F14
  refine ret_inN (results_0 Try.results44 ) F18.d ?_
  exact ⟨rfl, (S17.fin2 0 V (hc17.trans (by simp)) 1 V (hc16.trans (congrArg (fun z => bx ge 28 #[Value.int .i64 z]) (show _ = (if ((5 : Int) = 1 ∧ badN a) ∨ ((5 : Int) = 2 ∧ badN b) ∨ ((5 : Int) = 3 ∧ badN f) ∨ ((5 : Int) = 4 ∧ badN p) ∨ ((5 : Int) = 5 ∧ badN q) then 7 else er) from (by rw [if_pos (show ((5 : Int) = 1 ∧ badN a) ∨ ((5 : Int) = 2 ∧ badN b) ∨ ((5 : Int) = 3 ∧ badN f) ∨ ((5 : Int) = 4 ∧ badN p) ∨ ((5 : Int) = 5 ∧ badN q) from by simp [badN]; omega)])))) (by decide))⟩
 refine wp_skip (tk H7 ?_)
 refine region_in ?_
 refine W_v V V (V_mov V (fg1 F14)) ?_
 refine W_v V V (V_nil V (et V)) ?_
 refine xsC (zs' := #[.int .i64 (kd), .int .i64 (a), .int .i64 (b), .int .i64 (f), .int .i64 (p), .int .i64 0, .int .u64 (uu)]) 0 S5 V hmb_gb V V V (et V) V (by rfl) (fun w19 c19 hc19 S19 => ?_)
 replace S19 : St w Y [c19, mb_ge] w19 := S19
 refine W_end (gen_Q fun A20 E20 => ?_)
 have Y20 := szq E20
 have F20 := fsE E20 (cq2 F14 V)
 clear E20 Y14 F14
 refine ret_inN (results_0 Try.results44 ) F20.d ?_
 exact ⟨rfl, (S19.fin2 0 V (hc19.trans (by simp)) 1 V (hmb_ge.trans (congrArg (fun z => bx ge 28 #[Value.int .i64 z]) (show _ = (if ((5 : Int) = 1 ∧ badN a) ∨ ((5 : Int) = 2 ∧ badN b) ∨ ((5 : Int) = 3 ∧ badN f) ∨ ((5 : Int) = 4 ∧ badN p) ∨ ((5 : Int) = 5 ∧ badN q) then 7 else er) from (by rw [if_neg (show ¬ (((5 : Int) = 1 ∧ badN a) ∨ ((5 : Int) = 2 ∧ badN b) ∨ ((5 : Int) = 3 ∧ badN f) ∨ ((5 : Int) = 4 ∧ badN p) ∨ ((5 : Int) = 5 ∧ badN q)) from by simp [badN]; omega)])))) (by decide))⟩

set_option maxHeartbeats 4000000 in
theorem ktk6_c {kd : Int} {a : Int} {b : Int} {f : Int} {p : Int} {q : Int} {uu : Int} {gb : Nat} {er : Int} {ge : Nat} {w : World} {Y : Nat → Prop}  (hS : St w Y [bx gb 42 #[.int .i64 kd, .int .i64 a, .int .i64 b, .int .i64 f, .int .i64 p, .int .i64 q, .int .u64 uu], bx ge 28 #[.int .i64 er]] w)  :
  Calls Try.prog 44 #[.int .i64 6, .pointer (some ⟨gb, 0, none⟩), .pointer (some ⟨ge, 0, none⟩)] w fun e w' => e = .returned (.tuple #[]) ∧ St w Y [bx gb 42 #[.int .i64 kd, .int .i64 (if (6 : Int) = 1 then 0 else a), .int .i64 (if (6 : Int) = 2 then 0 else b), .int .i64 (if (6 : Int) = 3 then 0 else f), .int .i64 (if (6 : Int) = 4 then 0 else p), .int .i64 (if (6 : Int) = 5 then 0 else q), .int .u64 (if (6 : Int) = 6 then 0 else uu)], bx ge 28 #[.int .i64 (if ((6 : Int) = 1 ∧ badN a) ∨ ((6 : Int) = 2 ∧ badN b) ∨ ((6 : Int) = 3 ∧ badN f) ∨ ((6 : Int) = 4 ∧ badN p) ∨ ((6 : Int) = 5 ∧ badN q) then 7 else er)]] w' := by
 refine calls_in 22 Try.func44 V V (by simp) (fun A0 Y0 hdf0 hargs => ?_)
 have l0_0 := hargs 0 (.int .i64 6) V
 have l1_0 := hargs 1 (.pointer (some ⟨gb, 0, none⟩)) V
 have l2_0 := hargs 2 (.pointer (some ⟨ge, 0, none⟩)) V
 clear hargs; replace Y0 : SzN A0 22 := ⟨Y0⟩
 obtain ⟨mb_gb, mb_ge, hmb_gb, hmb_ge, hS⟩ := gen2 hS
 replace hS : St w Y [mb_gb, mb_ge] w := hS
 refine wp_seq_k fun K1 H1 => ?_
 refine wp_seq_k fun K2 H2 => region_in ?_
 refine W_v V V (V_mov V l0_0) ?_
 refine W_v V V (V_eql V (et V) V) ?_
 refine W_end (gen_Q fun A3 E3 => ?_)
 have Y3 := szq E3
 have F3 := (((fsE E3 (ck (cq1 (FS.n hdf0) V) V V)).c (lookE E3 0 (es2 V l0_0))).c (lookE E3 1 (es2 V l1_0))).c (lookE E3 2 (es2 V l2_0))
 clear E3 Y0 hdf0 l0_0 l1_0 l2_0
 refine tk H2 ?_
 refine cond_sure (fg3 F3) (by simp) ?_
 refine wp_seq_k fun K4 H4 => region_in ?_
 refine W_v V V (V_fa (off' := 6) V (fg1 F3) Try.underlying42 V (by decide +kernel) V) ?_
 refine xsC (zs' := #[.int .i64 (kd), .int .i64 (a), .int .i64 (b), .int .i64 (f), .int .i64 (p), .int .i64 (q), .int .u64 0]) 0 hS V hmb_gb V V V (et V) V (by rfl) (fun w5 c5 hc5 S5 => ?_)
 replace S5 : St w Y [c5, mb_ge] w5 := S5
 refine W_end (gen_Q fun A6 E6 => ?_)
 have Y6 := szq E6
 have F6 := fsE E6 (cq1 F3 V)
 clear E6 Y3 F3
 refine tk H4 (wp_ret (then_ret ?_))
 refine ret_in (results_0 Try.results44 ) F6.d ?_
 exact ⟨rfl, (S5.fin2 0 V (hc5.trans (by simp)) 1 V (hmb_ge.trans (congrArg (fun z => bx ge 28 #[Value.int .i64 z]) (show _ = (if ((6 : Int) = 1 ∧ badN a) ∨ ((6 : Int) = 2 ∧ badN b) ∨ ((6 : Int) = 3 ∧ badN f) ∨ ((6 : Int) = 4 ∧ badN p) ∨ ((6 : Int) = 5 ∧ badN q) then 7 else er) from by simp))) (by decide))⟩

set_option maxHeartbeats 4000000 in
theorem ktk_c {wt : Int} {kd : Int} {a : Int} {b : Int} {f : Int} {p : Int} {q : Int} {uu : Int} {gb : Nat} {er : Int} {ge : Nat} {w : World} {Y : Nat → Prop}  (hS : St w Y [bx gb 42 #[.int .i64 kd, .int .i64 a, .int .i64 b, .int .i64 f, .int .i64 p, .int .i64 q, .int .u64 uu], bx ge 28 #[.int .i64 er]] w) (hw : 1 ≤ wt ∧ wt ≤ 6) :
  Calls Try.prog 44 #[.int .i64 wt, .pointer (some ⟨gb, 0, none⟩), .pointer (some ⟨ge, 0, none⟩)] w fun e w' => e = .returned (.tuple #[]) ∧ St w Y [bx gb 42 #[.int .i64 kd, .int .i64 (if (wt : Int) = 1 then 0 else a), .int .i64 (if (wt : Int) = 2 then 0 else b), .int .i64 (if (wt : Int) = 3 then 0 else f), .int .i64 (if (wt : Int) = 4 then 0 else p), .int .i64 (if (wt : Int) = 5 then 0 else q), .int .u64 (if (wt : Int) = 6 then 0 else uu)], bx ge 28 #[.int .i64 (if ((wt : Int) = 1 ∧ badN a) ∨ ((wt : Int) = 2 ∧ badN b) ∨ ((wt : Int) = 3 ∧ badN f) ∨ ((wt : Int) = 4 ∧ badN p) ∨ ((wt : Int) = 5 ∧ badN q) then 7 else er)]] w' := by
 rcases (by omega : wt = 1 ∨ wt = 2 ∨ wt = 3 ∨ wt = 4 ∨ wt = 5 ∨ wt = 6) with rfl | rfl | rfl | rfl | rfl | rfl
 ·exact ktk1_c hS
 ·exact ktk2_c hS
 ·exact ktk3_c hS
 ·exact ktk4_c hS
 ·exact ktk5_c hS
 exact ktk6_c hS


set_option maxHeartbeats 4000000 in
theorem ktab_c  {w : World}   :
  Calls Try.prog 46 #[] w fun e w' => ∃ v1 v2 v3 v4 v5 v6 v7 v8 v9 v10, e = .returned (.agg #[stv [], .slice none 0 0, stv [97, 108, 108, 111, 99], v1, stv [108, 111, 97, 100], v2, stv [115, 116, 111, 114, 101], v3, stv [114, 101, 97, 100], v4, stv [119, 114, 105, 116, 101], v5, stv [109, 111, 118, 101], v6, stv [99, 108, 101, 97, 114], v7, stv [115, 97, 109, 101], v8, stv [110, 105, 108], v9, stv [115, 105, 122, 101], v10, stv [99, 111, 108, 108, 101, 99, 116], .slice none 0 0]) ∧ St w NoX [nsi (List.map (fun y : TR => y.2) ([([], (Value.slice none 0 0, [])), ([97, 108, 108, 111, 99], (v1, [1, 4, 5])), ([108, 111, 97, 100], (v2, [1, 2, 3])), ([115, 116, 111, 114, 101], (v3, [1, 3, 2])), ([114, 101, 97, 100], (v4, [1, 3])), ([119, 114, 105, 116, 101], (v5, [1, 3, 6])), ([109, 111, 118, 101], (v6, [1, 2])), ([99, 108, 101, 97, 114], (v7, [1])), ([115, 97, 109, 101], (v8, [1, 2])), ([110, 105, 108], (v9, [1])), ([115, 105, 122, 101], (v10, [1])), ([99, 111, 108, 108, 101, 99, 116], (Value.slice none 0 0, []))] : List TR))] w' := by
 refine calls_in 23 Try.func46 V V (by simp) (fun A0 Y0 hdf0 hargs => ?_)
 clear hargs; replace Y0 : SzN A0 23 := ⟨Y0⟩
 have hS := St.nil w
 refine wp_seq_k fun K1 H1 => region_in ?_
 refine W_allocS (z := .agg #[.string ByteArray.empty, .slice none 0 0, .string ByteArray.empty, .slice none 0 0, .string ByteArray.empty, .slice none 0 0, .string ByteArray.empty, .slice none 0 0, .string ByteArray.empty, .slice none 0 0, .string ByteArray.empty, .slice none 0 0, .string ByteArray.empty, .slice none 0 0, .string ByteArray.empty, .slice none 0 0, .string ByteArray.empty, .slice none 0 0, .string ByteArray.empty, .slice none 0 0, .string ByteArray.empty, .slice none 0 0, .string ByteArray.empty, .slice none 0 0]) (zs := #[.string ByteArray.empty, .slice none 0 0, .string ByteArray.empty, .slice none 0 0, .string ByteArray.empty, .slice none 0 0, .string ByteArray.empty, .slice none 0 0, .string ByteArray.empty, .slice none 0 0, .string ByteArray.empty, .slice none 0 0, .string ByteArray.empty, .slice none 0 0, .string ByteArray.empty, .slice none 0 0, .string ByteArray.empty, .slice none 0 0, .string ByteArray.empty, .slice none 0 0, .string ByteArray.empty, .slice none 0 0, .string ByteArray.empty, .slice none 0 0]) hS V V V (by kernel_rfl) (by rfl) (fun g2 w2 c2 hc2 S2 => ?_)
 replace S2 : St w NoX [c2] w2 := S2
 refine W_end (gen_Q fun A3 E3 => ?_)
 have Y3 := szq E3
 have F3 := fsE E3 (ck (FS.n hdf0) V V)
 clear E3 Y0 hdf0
 refine tk H1 (wp_seq_k fun K4 H4 => region_in ?_)
 have hll5 : [1, 4, 5].length = 3 := rfl
 refine xsL (vs := [.int .i64 1, .int .i64 4, .int .i64 5]) (xs := ([1, 4, 5].map (Value.int .i64))) 1 S2 V V V (parts3 V V V) Try.underlying25 (fun g5 w5 c5 hc5 S5 => ?_)
 replace hc5 : c5 = io .i64 (.slice (some ⟨g5, 0, none⟩) 3 3) [1, 4, 5] := hc5
 replace S5 : St w NoX [c5, c2] w5 := S5
 refine W_v V V (xbT (n := 2) (z := .agg #[.string ByteArray.empty, .slice none 0 0]) V (parts2 V (et V)) (by simp only [List.all_cons, List.all_nil, SlN_one (ow_at (S5.chq 0 V hc5)), Bool.and_true] <;> rfl)) ?_
 have hll6 : [1, 2, 3].length = 3 := rfl
 refine xsL (vs := [.int .i64 1, .int .i64 2, .int .i64 3]) (xs := ([1, 2, 3].map (Value.int .i64))) 1 S5 V V V (parts3 V V V) Try.underlying25 (fun g6 w6 c6 hc6 S6 => ?_)
 replace hc6 : c6 = io .i64 (.slice (some ⟨g6, 0, none⟩) 3 3) [1, 2, 3] := hc6
 replace S6 : St w NoX [c6, c5, c2] w6 := S6
 refine W_v V V (xbT (n := 2) (z := .agg #[.string ByteArray.empty, .slice none 0 0]) V (parts2 V (et V)) (by simp only [List.all_cons, List.all_nil, SlN_one (ow_at (S6.chq 0 V hc6)), Bool.and_true] <;> rfl)) ?_
 have hll7 : [1, 3, 2].length = 3 := rfl
 refine xsL (vs := [.int .i64 1, .int .i64 3, .int .i64 2]) (xs := ([1, 3, 2].map (Value.int .i64))) 1 S6 V V V (parts3 V V V) Try.underlying25 (fun g7 w7 c7 hc7 S7 => ?_)
 replace hc7 : c7 = io .i64 (.slice (some ⟨g7, 0, none⟩) 3 3) [1, 3, 2] := hc7
 replace S7 : St w NoX [c7, c6, c5, c2] w7 := S7
 refine W_v V V (xbT (n := 2) (z := .agg #[.string ByteArray.empty, .slice none 0 0]) V (parts2 V (et V)) (by simp only [List.all_cons, List.all_nil, SlN_one (ow_at (S7.chq 0 V hc7)), Bool.and_true] <;> rfl)) ?_
 have hll8 : [1, 3].length = 2 := rfl
 refine xsL (vs := [.int .i64 1, .int .i64 3]) (xs := ([1, 3].map (Value.int .i64))) 1 S7 V V V (parts2 V V) Try.underlying25 (fun g8 w8 c8 hc8 S8 => ?_)
 replace hc8 : c8 = io .i64 (.slice (some ⟨g8, 0, none⟩) 2 2) [1, 3] := hc8
 replace S8 : St w NoX [c8, c7, c6, c5, c2] w8 := S8
 refine W_v V V (xbT (n := 2) (z := .agg #[.string ByteArray.empty, .slice none 0 0]) V (parts2 V (et V)) (by simp only [List.all_cons, List.all_nil, SlN_one (ow_at (S8.chq 0 V hc8)), Bool.and_true] <;> rfl)) ?_
 have hll9 : [1, 3, 6].length = 3 := rfl
 refine xsL (vs := [.int .i64 1, .int .i64 3, .int .i64 6]) (xs := ([1, 3, 6].map (Value.int .i64))) 1 S8 V V V (parts3 V V V) Try.underlying25 (fun g9 w9 c9 hc9 S9 => ?_)
 replace hc9 : c9 = io .i64 (.slice (some ⟨g9, 0, none⟩) 3 3) [1, 3, 6] := hc9
 replace S9 : St w NoX [c9, c8, c7, c6, c5, c2] w9 := S9
 refine W_v V V (xbT (n := 2) (z := .agg #[.string ByteArray.empty, .slice none 0 0]) V (parts2 V (et V)) (by simp only [List.all_cons, List.all_nil, SlN_one (ow_at (S9.chq 0 V hc9)), Bool.and_true] <;> rfl)) ?_
 have hll10 : [1, 2].length = 2 := rfl
 refine xsL (vs := [.int .i64 1, .int .i64 2]) (xs := ([1, 2].map (Value.int .i64))) 1 S9 V V V (parts2 V V) Try.underlying25 (fun g10 w10 c10 hc10 S10 => ?_)
 replace hc10 : c10 = io .i64 (.slice (some ⟨g10, 0, none⟩) 2 2) [1, 2] := hc10
 replace S10 : St w NoX [c10, c9, c8, c7, c6, c5, c2] w10 := S10
 refine W_v V V (xbT (n := 2) (z := .agg #[.string ByteArray.empty, .slice none 0 0]) V (parts2 V (et V)) (by simp only [List.all_cons, List.all_nil, SlN_one (ow_at (S10.chq 0 V hc10)), Bool.and_true] <;> rfl)) ?_
 have hll11 : [1].length = 1 := rfl
 refine xsL (vs := [.int .i64 1]) (xs := ([1].map (Value.int .i64))) 1 S10 V V V (parts1 V) Try.underlying25 (fun g11 w11 c11 hc11 S11 => ?_)
 replace hc11 : c11 = io .i64 (.slice (some ⟨g11, 0, none⟩) 1 1) [1] := hc11
 replace S11 : St w NoX [c11, c10, c9, c8, c7, c6, c5, c2] w11 := S11
 refine W_v V V (xbT (n := 2) (z := .agg #[.string ByteArray.empty, .slice none 0 0]) V (parts2 V (et V)) (by simp only [List.all_cons, List.all_nil, SlN_one (ow_at (S11.chq 0 V hc11)), Bool.and_true] <;> rfl)) ?_
 have hll12 : [1, 2].length = 2 := rfl
 refine xsL (vs := [.int .i64 1, .int .i64 2]) (xs := ([1, 2].map (Value.int .i64))) 1 S11 V V V (parts2 V V) Try.underlying25 (fun g12 w12 c12 hc12 S12 => ?_)
 replace hc12 : c12 = io .i64 (.slice (some ⟨g12, 0, none⟩) 2 2) [1, 2] := hc12
 replace S12 : St w NoX [c12, c11, c10, c9, c8, c7, c6, c5, c2] w12 := S12
 refine W_v V V (xbT (n := 2) (z := .agg #[.string ByteArray.empty, .slice none 0 0]) V (parts2 V (et V)) (by simp only [List.all_cons, List.all_nil, SlN_one (ow_at (S12.chq 0 V hc12)), Bool.and_true] <;> rfl)) ?_
 have hll13 : [1].length = 1 := rfl
 refine xsL (vs := [.int .i64 1]) (xs := ([1].map (Value.int .i64))) 1 S12 V V V (parts1 V) Try.underlying25 (fun g13 w13 c13 hc13 S13 => ?_)
 replace hc13 : c13 = io .i64 (.slice (some ⟨g13, 0, none⟩) 1 1) [1] := hc13
 replace S13 : St w NoX [c13, c12, c11, c10, c9, c8, c7, c6, c5, c2] w13 := S13
 refine W_v V V (xbT (n := 2) (z := .agg #[.string ByteArray.empty, .slice none 0 0]) V (parts2 V (et V)) (by simp only [List.all_cons, List.all_nil, SlN_one (ow_at (S13.chq 0 V hc13)), Bool.and_true] <;> rfl)) ?_
 have hll14 : [1].length = 1 := rfl
 refine xsL (vs := [.int .i64 1]) (xs := ([1].map (Value.int .i64))) 1 S13 V V V (parts1 V) Try.underlying25 (fun g14 w14 c14 hc14 S14 => ?_)
 replace hc14 : c14 = io .i64 (.slice (some ⟨g14, 0, none⟩) 1 1) [1] := hc14
 replace S14 : St w NoX [c14, c13, c12, c11, c10, c9, c8, c7, c6, c5, c2] w14 := S14
 refine W_v V V (xbT (n := 2) (z := .agg #[.string ByteArray.empty, .slice none 0 0]) V (parts2 V (et V)) (by simp only [List.all_cons, List.all_nil, SlN_one (ow_at (S14.chq 0 V hc14)), Bool.and_true] <;> rfl)) ?_
 refine W_v V V (xbS (n := 2) (z := .agg #[.string ByteArray.empty, .slice none 0 0]) V (parts2 V V)) ?_
 refine W_v V V (V_bld (cs := #[.string ByteArray.empty, .slice none 0 0, (stv ([97, 108, 108, 111, 99] : List UInt8)), (.slice (some ⟨g5, 0, none⟩) 3 3), (stv ([108, 111, 97, 100] : List UInt8)), (.slice (some ⟨g6, 0, none⟩) 3 3), (stv ([115, 116, 111, 114, 101] : List UInt8)), (.slice (some ⟨g7, 0, none⟩) 3 3), (stv ([114, 101, 97, 100] : List UInt8)), (.slice (some ⟨g8, 0, none⟩) 2 2), (stv ([119, 114, 105, 116, 101] : List UInt8)), (.slice (some ⟨g9, 0, none⟩) 3 3), (stv ([109, 111, 118, 101] : List UInt8)), (.slice (some ⟨g10, 0, none⟩) 2 2), (stv ([99, 108, 101, 97, 114] : List UInt8)), (.slice (some ⟨g11, 0, none⟩) 1 1), (stv ([115, 97, 109, 101] : List UInt8)), (.slice (some ⟨g12, 0, none⟩) 2 2), (stv ([110, 105, 108] : List UInt8)), (.slice (some ⟨g13, 0, none⟩) 1 1), (stv ([115, 105, 122, 101] : List UInt8)), (.slice (some ⟨g14, 0, none⟩) 1 1), (stv ([99, 111, 108, 108, 101, 99, 116] : List UInt8)), .slice none 0 0]) V (parts11 (es8 V (es8 V (es3 V (et V)))) (es8 V (es8 V (es V (et V)))) (es8 V (es7 V (et V))) (es8 V (es5 V (et V))) (es8 V (es3 V (et V))) (es8 V (es V (et V))) (es7 V (et V)) (es5 V (et V)) (es3 V (et V)) (es V (et V)) (et V)) (by kernel_rfl)) ?_
 refine xsB 10 S14 V hc2 V V V (es8 V (es8 V (es6 V (fg0 F3)))) (et V) (by simp only [List.all_toArray, List.all_cons, List.all_nil, SlN_one (ow_at (S14.chq 9 V hc5)), SlN_one (ow_at (S14.chq 8 V hc6)), SlN_one (ow_at (S14.chq 7 V hc7)), SlN_one (ow_at (S14.chq 6 V hc8)), SlN_one (ow_at (S14.chq 5 V hc9)), SlN_one (ow_at (S14.chq 4 V hc10)), SlN_one (ow_at (S14.chq 3 V hc11)), SlN_one (ow_at (S14.chq 2 V hc12)), SlN_one (ow_at (S14.chq 1 V hc13)), SlN_one (ow_at (S14.chq 0 V hc14))] <;> rfl) (fun w15 c15 hc15 S15 => ?_)
 replace S15 : St w NoX [c14, c13, c12, c11, c10, c9, c8, c7, c6, c5, c15] w15 := S15
 refine W_end (gen_Q fun A16 E16 => ?_)
 have Y16 := szq E16
 have F16 := fsE E16 (cq6 (cq8 (cq8 F3 V) V) V)
 clear E16 Y3 F3
 refine tk H4 (wp_ret ?_)
 refine ret_in (results_1 Try.results46 (rv_cellA (fg0 F16) (S15.obj 10 V hc15) Try.underlying102 V (by kernel_rfl))) F16.d ?_
 obtain ⟨c17, hc17, S17⟩ := S15.pnil (s := 1)
 obtain ⟨c18, hc18, S18⟩ := S17.pnil (s := 1)
 have S19 : St w NoX [c17, c5, c6, c7, c8, c9, c10, c11, c12, c13, c14, c18] w15 := S18.sel [1, 11, 10, 9, 8, 7, 6, 5, 4, 3, 2, 0] (by decide) V
 exact ⟨_, _, _, _, _, _, _, _, _, _, rfl, by subst hc17 hc5 hc6 hc7 hc8 hc9 hc10 hc11 hc12 hc13 hc14 hc18; exact nsi_own [((Value.slice none 0 0), []), ((Value.slice (some ⟨g5, 0, none⟩) 3 3), [1, 4, 5]), ((Value.slice (some ⟨g6, 0, none⟩) 3 3), [1, 2, 3]), ((Value.slice (some ⟨g7, 0, none⟩) 3 3), [1, 3, 2]), ((Value.slice (some ⟨g8, 0, none⟩) 2 2), [1, 3]), ((Value.slice (some ⟨g9, 0, none⟩) 3 3), [1, 3, 6]), ((Value.slice (some ⟨g10, 0, none⟩) 2 2), [1, 2]), ((Value.slice (some ⟨g11, 0, none⟩) 1 1), [1]), ((Value.slice (some ⟨g12, 0, none⟩) 2 2), [1, 2]), ((Value.slice (some ⟨g13, 0, none⟩) 1 1), [1]), ((Value.slice (some ⟨g14, 0, none⟩) 1 1), [1]), ((Value.slice none 0 0), [])] S19⟩

end Go.Proofs.Ytpgkfndbfocibaa
namespace Go.Proofs.Ytpgkfndbfocibaa
open Go.RowKit Go.Own Go.Own.R Go.Own.G Go.Own.Gr Go.Own.Ml


set_option maxHeartbeats 4000000 in
theorem kopc_c {kd : Int} {a : Int} {b : Int} {f : Int} {p : Int} {q : Int} {uu : Int} {w : World}   :
  Calls Try.prog 27 #[.agg #[.int .i64 kd, .int .i64 a, .int .i64 b, .int .i64 f, .int .i64 p, .int .i64 q, .int .u64 uu]] w fun e w' => e = .returned (.int .i64 (opE (⟨kd, a, b, f, p, q, uu⟩ : OpC))) ∧ St w NoX [] w' := by
 refine calls_in 37 Try.func27 V V (by simp) (fun A0 hsz0 hdf0 hargs => ?_)
 have l0_0 := hargs 0 (.agg #[.int .i64 kd, .int .i64 a, .int .i64 b, .int .i64 f, .int .i64 p, .int .i64 q, .int .u64 uu]) V
 clear hargs; replace hsz0 : SzN A0 37 := ⟨hsz0⟩
 have hS := St.nil w
 refine wp_seq_k fun K1 H1 => region_in ?_
 refine W_boxS (zs := #[.int .i64 (kd), .int .i64 (a), .int .i64 (b), .int .i64 (f), .int .i64 (p), .int .i64 (q), .int .u64 (uu)]) hS V V V l0_0 (by rfl) (fun g2 w2 c2 hc2 S2 => ?_)
 replace S2 : St w NoX [c2] w2 := S2
 refine W_v V V (V_asg V V) ?_
 refine W_end (gen_Q fun A3 E3 => ?_)
 have hsz3 := szq E3
 have F3 := fsE E3 (cq1 (ck (FS.n hdf0) V V) V)
 clear E3 hsz0 hdf0 l0_0
 refine tk H1 (wp_seq_k fun K4 H4 => ?_)
 refine wp_seq_k fun K5 H5 => region_in ?_
 refine W_v V V (V_fa (off' := 0) V (fg0 F3) Try.underlying42 V (by decide +kernel) V) ?_
 refine W_r V V (xlC (v := .int .i64 (kd)) V (et V) (S2.obj 0 V hc2) Try.underlying3) ?_
 refine W_v V V (V_lss V (et V) V) ?_
 refine W_split V V (V_mov V (et V)) (fun c6 => ?_) (fun c6 => ?_)
 ·refine xof V V V (et V) (xof V V V (es V (et V)) (xof V V V (es2 V (et V)) ?_))
  refine W_v V V (V_pickT V (es3 V (et V)) V) ?_
  refine W_end (gen_Q fun A7 E7 => ?_)
  have hsz7 := szq E7
  have F7 := fsE E7 (ck (cq7 F3 V) V V)
  clear E7 hsz3 F3
  refine tk H5 ?_
  refine cond_t (fg0 F7) ?_
  refine wp_seq_k fun K8 H8 => region_in ?_
  refine W_v V V (V_asg V V) ?_
  refine W_end (gen_Q fun A9 E9 => ?_)
  have hsz9 := szq E9
  have F9 := fsE E9 (ck F7 V V)
  clear E9 hsz7 F7
  have S10 : St w NoX [] w2 := S2.sel [] (by decide) V
  refine tk H8 (wp_ret (then_ret ?_))
  refine ret_in (results_1 Try.results27 (rv_tmp (fg0 F9))) F9.d ?_
  have h : (opE (⟨kd, a, b, f, p, q, uu⟩ : OpC)) = 2 := op_kd (by simp only; omega)
  rw [h]
  exact ⟨rfl, S10.fin0⟩
 refine W_v V (xwt V V (et V)) (V_fa (off' := 0) V (es4 V (fg0 F3)) Try.underlying42 V (by decide +kernel) V) ?_
 refine W_r V (xwt V V (es V (et V))) (xlC (v := .int .i64 (kd)) V (et V) (S2.obj 0 V hc2) Try.underlying3) ?_
 refine W_v V (xwt V V (es2 V (et V))) (V_gtr V (et V) V) ?_
 refine W_v V V (V_pickF V (es3 V (et V)) (et V)) ?_
 refine W_end (gen_Q fun A11 E11 => ?_)
 have hsz11 := szq E11
 have F11 := fsE E11 (ck (cq7 F3 V) V V)
 clear E11 hsz3 F3
 refine tk H5 ?_
 refine cond_dec (fg0 F11) (fun c12 => ?_) (fun c12 => ?_)
 ·refine wp_seq_k fun K13 H13 => region_in ?_
  refine W_v V V (V_asg V V) ?_
  refine W_end (gen_Q fun A14 E14 => ?_)
  have hsz14 := szq E14
  have F14 := fsE E14 (ck F11 V V)
  clear E14 hsz11 F11
  have S15 : St w NoX [] w2 := S2.sel [] (by decide) V
  refine tk H13 (wp_ret (then_ret ?_))
  refine ret_in (results_1 Try.results27 (rv_tmp (fg0 F14))) F14.d ?_
  have h : (opE (⟨kd, a, b, f, p, q, uu⟩ : OpC)) = 2 := op_kd (by simp only; omega)
  rw [h]
  exact ⟨rfl, S15.fin0⟩
 refine wp_skip ?_
 refine tk H4 (wp_seq_k fun K16 H16 => region_in ?_)
 refine W_r V V (VR_ldA V (fg1 F11) (S2.obj 0 V hc2) Try.underlying42 V (by kernel_rfl)) ?_
 refine W_allocS (z := .agg #[.int .i64 0, .int .i64 0, .int .i64 0, .int .i64 0, .int .i64 0, .int .i64 0, .int .u64 0]) (zs := #[.int .i64 0, .int .i64 0, .int .i64 0, .int .i64 0, .int .i64 0, .int .i64 0, .int .u64 0]) S2 V V V (by kernel_rfl) (by rfl) (fun g17 w17 c17 hc17 S17 => ?_)
 replace S17 : St w NoX [c17, c2] w17 := S17
 refine W_allocS (z := .int .i64 0) (zs := #[.int .i64 0]) S17 V V V (by kernel_rfl) (by rfl) (fun g18 w18 c18 hc18 S18 => ?_)
 replace S18 : St w NoX [c18, c17, c2] w18 := S18
 refine xsA 1 S18 V hc17 V V V (es V (et V)) (es2 V (et V)) (fun w19 c19 hc19 S19 => ?_)
 replace S19 : St w NoX [c18, c19, c2] w19 := S19
 refine xsC (zs' := #[.int .i64 0]) 0 S19 V hc18 V V V (et V) V (by rfl) (fun w20 c20 hc20 S20 => ?_)
 replace S20 : St w NoX [c20, c19, c2] w20 := S20
 refine W_end (gen_Q fun A21 E21 => ?_)
 have hsz21 := szq E21
 have F21 := fsE E21 (ck (ck (cq1 F11 V) V V) V V)
 clear E21 hsz11 F11
 refine tk H16 (wp_seq_k fun K22 H22 => region_in ?_)
 refine W_v V V (V_fa (off' := 0) V (fg1 F21) Try.underlying42 V (by decide +kernel) V) ?_
 refine xsC (zs' := #[.int .i64 0, .int .i64 (a), .int .i64 (b), .int .i64 (f), .int .i64 (p), .int .i64 (q), .int .u64 (uu)]) 1 S20 V hc19 V V V (et V) V (by rfl) (fun w23 c23 hc23 S23 => ?_)
 replace S23 : St w NoX [c20, c23, c2] w23 := S23
 refine W_end (gen_Q fun A24 E24 => ?_)
 have hsz24 := szq E24
 have F24 := fsE E24 (cq1 F21 V)
 clear E24 hsz21 F21
 refine tk H22 (wp_seq_k fun K25 H25 => region_in ?_)
 refine W_v V V (V_mkf V (args0) (args2 (fg1 F24) (fg0 F24))) ?_
 refine W_v V V (V_asg V (et V)) ?_
 refine W_end (gen_Q fun A26 E26 => ?_)
 have hsz26 := szq E26
 have F26 := fsE E26 (ck (cq1 F24 V) V V)
 clear E26 hsz24 F24
 refine tk H25 (wp_seq_k fun K27 H27 => ?_)
 refine wp_seq_k fun K28 H28 => ?_
 refine region_monoS 7 7 [some (SPv [] (fun _ => fun u l' => ∃ v1_s v2_s v3_s v4_s v5_s v6_s v7_s v8_s v9_s v10_s, u = .agg #[stv [], .slice none 0 0, stv [97, 108, 108, 111, 99], v1_s, stv [108, 111, 97, 100], v2_s, stv [115, 116, 111, 114, 101], v3_s, stv [114, 101, 97, 100], v4_s, stv [119, 114, 105, 116, 101], v5_s, stv [109, 111, 118, 101], v6_s, stv [99, 108, 101, 97, 114], v7_s, stv [115, 97, 109, 101], v8_s, stv [110, 105, 108], v9_s, stv [115, 105, 122, 101], v10_s, stv [99, 111, 108, 108, 101, 99, 116], .slice none 0 0] ∧ ∃ cT_s, cT_s = nsi (List.map (fun y : TR => y.2) ([([], (Value.slice none 0 0, [])), ([97, 108, 108, 111, 99], (v1_s, [1, 4, 5])), ([108, 111, 97, 100], (v2_s, [1, 2, 3])), ([115, 116, 111, 114, 101], (v3_s, [1, 3, 2])), ([114, 101, 97, 100], (v4_s, [1, 3])), ([119, 114, 105, 116, 101], (v5_s, [1, 3, 6])), ([109, 111, 118, 101], (v6_s, [1, 2])), ([99, 108, 101, 97, 114], (v7_s, [1])), ([115, 97, 109, 101], (v8_s, [1, 2])), ([110, 105, 108], (v9_s, [1])), ([115, 105, 122, 101], (v10_s, [1])), ([99, 111, 108, 108, 101, 99, 116], (Value.slice none 0 0, []))] : List TR)) ∧ l' = [cT_s]) 0)] (by kernel_rfl) (by kernel_rfl) ?_
 refine D_call (ts := []) (vs := []) (C0 := fun _ => fun u l' => ∃ v1_s v2_s v3_s v4_s v5_s v6_s v7_s v8_s v9_s v10_s, u = .agg #[stv [], .slice none 0 0, stv [97, 108, 108, 111, 99], v1_s, stv [108, 111, 97, 100], v2_s, stv [115, 116, 111, 114, 101], v3_s, stv [114, 101, 97, 100], v4_s, stv [119, 114, 105, 116, 101], v5_s, stv [109, 111, 118, 101], v6_s, stv [99, 108, 101, 97, 114], v7_s, stv [115, 97, 109, 101], v8_s, stv [110, 105, 108], v9_s, stv [115, 105, 122, 101], v10_s, stv [99, 111, 108, 108, 101, 99, 116], .slice none 0 0] ∧ ∃ cT_s, cT_s = nsi (List.map (fun y : TR => y.2) ([([], (Value.slice none 0 0, [])), ([97, 108, 108, 111, 99], (v1_s, [1, 4, 5])), ([108, 111, 97, 100], (v2_s, [1, 2, 3])), ([115, 116, 111, 114, 101], (v3_s, [1, 3, 2])), ([114, 101, 97, 100], (v4_s, [1, 3])), ([119, 114, 105, 116, 101], (v5_s, [1, 3, 6])), ([109, 111, 118, 101], (v6_s, [1, 2])), ([99, 108, 101, 97, 114], (v7_s, [1])), ([115, 97, 109, 101], (v8_s, [1, 2])), ([110, 105, 108], (v9_s, [1])), ([115, 105, 122, 101], (v10_s, [1])), ([99, 111, 108, 108, 101, 99, 116], (Value.slice none 0 0, []))] : List TR)) ∧ l' = [cT_s]) (C := fun u l' => ∃ v1_s v2_s v3_s v4_s v5_s v6_s v7_s v8_s v9_s v10_s, u = .agg #[stv [], .slice none 0 0, stv [97, 108, 108, 111, 99], v1_s, stv [108, 111, 97, 100], v2_s, stv [115, 116, 111, 114, 101], v3_s, stv [114, 101, 97, 100], v4_s, stv [119, 114, 105, 116, 101], v5_s, stv [109, 111, 118, 101], v6_s, stv [99, 108, 101, 97, 114], v7_s, stv [115, 97, 109, 101], v8_s, stv [110, 105, 108], v9_s, stv [115, 105, 122, 101], v10_s, stv [99, 111, 108, 108, 101, 99, 116], .slice none 0 0] ∧ ∃ cT_s, cT_s = nsi (List.map (fun y : TR => y.2) ([([], (Value.slice none 0 0, [])), ([97, 108, 108, 111, 99], (v1_s, [1, 4, 5])), ([108, 111, 97, 100], (v2_s, [1, 2, 3])), ([115, 116, 111, 114, 101], (v3_s, [1, 3, 2])), ([114, 101, 97, 100], (v4_s, [1, 3])), ([119, 114, 105, 116, 101], (v5_s, [1, 3, 6])), ([109, 111, 118, 101], (v6_s, [1, 2])), ([99, 108, 101, 97, 114], (v7_s, [1])), ([115, 97, 109, 101], (v8_s, [1, 2])), ([110, 105, 108], (v9_s, [1])), ([115, 105, 122, 101], (v10_s, [1])), ([99, 111, 108, 108, 101, 99, 116], (Value.slice none 0 0, []))] : List TR)) ∧ l' = [cT_s]) V V V Try.func46 (by kernel_rfl) V (args0) V V V V (fun sx hx hF => ?_) (fun u29 l29 hu29 => ?_)
 ·refine (ktab_c  ).mono ?_
  rintro _ _ ⟨v1_29, v2_29, v3_29, v4_29, v5_29, v6_29, v7_29, v8_29, v9_29, v10_29, rfl, hz⟩
  exact ⟨_, rfl, _, ⟨_, _, _, _, _, _, _, _, _, _, rfl, _, rfl, rfl⟩, hz⟩
 obtain ⟨v1_29, v2_29, v3_29, v4_29, v5_29, v6_29, v7_29, v8_29, v9_29, v10_29, rfl, cT_29, hcT_29, hl29⟩ := hu29
 refine D_v V V (V_fa (off' := 0) V (es V (fg4 F26)) Try.underlying42 V (by decide +kernel) V) V V ?_
 refine D_r V V (by kernel_rfl) (fun sx hx hF => (VR_ldC V (et V) (cell_box (v := .int .i64 (kd)) ((S23.grow hx).obj 2 V hc2) V) Try.underlying3 V)) V V ?_
 obtain ⟨y30, hy30⟩ := get_some (xs := ([([], (Value.slice none 0 0, [])), ([97, 108, 108, 111, 99], (v1_29, [1, 4, 5])), ([108, 111, 97, 100], (v2_29, [1, 2, 3])), ([115, 116, 111, 114, 101], (v3_29, [1, 3, 2])), ([114, 101, 97, 100], (v4_29, [1, 3])), ([119, 114, 105, 116, 101], (v5_29, [1, 3, 6])), ([109, 111, 118, 101], (v6_29, [1, 2])), ([99, 108, 101, 97, 114], (v7_29, [1])), ([115, 97, 109, 101], (v8_29, [1, 2])), ([110, 105, 108], (v9_29, [1])), ([115, 105, 122, 101], (v10_29, [1])), ([99, 111, 108, 108, 101, 99, 116], (Value.slice none 0 0, []))] : List TR)) (k := kd.toNat) (by simp only [List.length_cons, List.length_nil]; omega)
 have hfd30 := tr_fd V hy30
 have hfl30 := fdG_le kd
 rw [← hfd30] at hfl30
 refine D_v V V (V_ixvR trC_len kd.toNat V (es2 V (et V)) (et V) (by omega) Try.underlying102 V hy30 Try.underlying101 V (by kernel_rfl)) V V ?_
 refine D_v V V (V_fld (v := y30.2.1) V (et V) Try.underlying101 V Try.underlying25 V V) V V ?_
 refine D_r V V (by kernel_rfl) (fun sx hx hF => by obtain ⟨ll29, ws29, we29, ⟨v1_29q, v2_29q, v3_29q, v4_29q, v5_29q, v6_29q, v7_29q, v8_29q, v9_29q, v10_29q, hq29, cT_29_, hcT_29_, hl29_⟩, hm29, k29, e29⟩ := L.ancF_get hF (by kernel_rfl); cases hq29; subst hl29_; exact (V_lenS V (et V) (sl_SlN (tr_at hy30 ((k29.grow e29).chq 0 V hcT_29_))) Try.underlying25 sx.1)) V V ?_
 refine D_v V V (V_mov V V) V V ?_
 refine ZS_none S23 (Nat.le_refl _) (Nat.le_refl _) (fun s31 hJ31 hL31 hF31 => ?_)
 obtain ⟨ll29, ws29, we29, ⟨v1_29q, v2_29q, v3_29q, v4_29q, v5_29q, v6_29q, v7_29q, v8_29q, v9_29q, v10_29q, hq29, cT_29r, hcT_29r, hl29r⟩, hm29, k29, e29⟩ := L.all_get hF31; cases hq29; subst hl29r
 replace hJ31 := hJ31.add hL31 (i := 0) V hm29 k29 e29
 have S31 := hJ31.st; clear hF31 hJ31 hL31
 generalize s31.1 = w31 at *
 replace S31 : St w NoX [cT_29r, c20, c23, c2] w31 := S31
 refine gen_Q (fun A32 E32 => ?_)
 have hsz32 := szq E32
 have F32 := fsE E32 (ck (ck (ck (cq4 F26 V) V V) V V) V V)
 clear E32 hsz26 F26
 have S33 : St w NoX [cT_29r, c20, c23] w31 := S31.sel [0, 1, 2] (by decide) V
 refine tk H28 (wp_block ?_)
 -- loop 7
 refine loopX (fun mz A' w' => SzN A' 37 ∧ A'.defers = [] ∧ (∃ (j : Nat) (za : Int) (zb : Int) (zf : Int) (zp : Int) (zq : Int) (zu : Int) (er : Int), (mz = y30.2.2.length - j) ∧ (j ≤ y30.2.2.length) ∧ (tkG (y30.2.2.drop j) (⟨0, za, zb, zf, zp, zq, zu⟩, er) = tkG y30.2.2 (⟨0, a, b, f, p, q, uu⟩, 0)) ∧ (EV A' (.tmp 25) = .int .i64 (j : Int)) ∧ (EV A' (.tmp 3) = EV A32 (.tmp 3)) ∧ (EV A' (.tmp 4) = EV A32 (.tmp 4)) ∧ (EV A' (.tmp 5) = EV A32 (.tmp 5)) ∧ (EV A' (.tmp 23) = EV A32 (.tmp 23)) ∧ (EV A' (.tmp 24) = EV A32 (.tmp 24)) ∧ (St w NoX [nsi (List.map (fun y : TR => y.2) ([([], (Value.slice none 0 0, [])), ([97, 108, 108, 111, 99], (v1_29, [1, 4, 5])), ([108, 111, 97, 100], (v2_29, [1, 2, 3])), ([115, 116, 111, 114, 101], (v3_29, [1, 3, 2])), ([114, 101, 97, 100], (v4_29, [1, 3])), ([119, 114, 105, 116, 101], (v5_29, [1, 3, 6])), ([109, 111, 118, 101], (v6_29, [1, 2])), ([99, 108, 101, 97, 114], (v7_29, [1])), ([115, 97, 109, 101], (v8_29, [1, 2])), ([110, 105, 108], (v9_29, [1])), ([115, 105, 122, 101], (v10_29, [1])), ([99, 111, 108, 108, 101, 99, 116], (Value.slice none 0 0, []))] : List TR)), bx g18 28 #[.int .i64 (er)], bx g17 42 #[.int .i64 0, .int .i64 (za), .int .i64 (zb), .int .i64 (zf), .int .i64 (zp), .int .i64 (zq), .int .u64 (zu)]] w'))) (y30.2.2.length - 0) ⟨hsz32, F32.d, 0, a, b, f, p, q, uu, 0, rfl, (by omega), rfl, (((fg0 F32)).trans (by first | rfl | (simp; done) | (congr 1; omega))), rfl, rfl, rfl, rfl, rfl, (by subst hcT_29r hc20 hc23; exact S33)⟩ ?_
 clear S33 hcT_29r hc20 hc23
 rintro n34 A34 w34 ⟨hsz34, hdf34, j, za, zb, zf, zp, zq, zu, er, hm34, hj, hT, l25_34, u3_34, u4_34, u5_34, u23_34, u24_34, S34⟩
 have l3_34 := u3_34.trans (fg5 F32)
 have l4_34 := u4_34.trans (fg4 F32)
 have l5_34 := u5_34.trans (fg3 F32)
 have l23_34 := u23_34.trans (fg2 F32)
 have l24_34 := u24_34.trans (fg1 F32)
 obtain ⟨cT_29r_34, c20_34, c23_34, hcT_29r_34, hc20_34, hc23_34, S34⟩ := gen3 S34
 refine wp_seq_k fun K35 H35 => region_in ?_
 refine W_v V V (V_lss V l25_34 l24_34) ?_
 refine W_end (gen_Q fun A36 E36 => ?_)
 have hsz36 := szq E36
 have F36 := ((((((fsE E36 (ck (FS.n hdf34) V V)).c (lookE E36 3 (es V l3_34))).c (lookE E36 4 (es V l4_34))).c (lookE E36 5 (es V l5_34))).c (lookE E36 23 (es V l23_34))).c (lookE E36 24 (es V l24_34))).c (lookE E36 25 (es V l25_34))
 clear E36 hsz34 hdf34 l25_34 l3_34 l4_34 l5_34 l23_34 l24_34
 refine tk H35 (wp_seq_k fun K37 H37 => ?_)
 refine cond_dec (fg6 F36) (fun c38 => ?_) (fun c38 => ?_)
 ·refine wp_skip ?_
  refine tk H37 (wp_seq_k fun K39 H39 => ?_)
  refine wp_block ?_
  refine wp_seq_k fun K40 H40 => region_in ?_
  have k41 : j < y30.2.2.length := by first | omega | (simp only [List.length_cons, List.length_nil]; omega) | (simp only [List.length_set]; omega) | decide
  obtain ⟨y41, hy41⟩ := get_some (xs := y30.2.2) (k := j) k41
  have hwr41 := fdG_rng (k := kd) (j := j) (by rw [← hfd30]; exact hy41)
  obtain ⟨B41, O41, C41, hv41⟩ := (SlN.blk (sl_SlN (tr_at hy30 (S34.chq 0 rfl hcT_29r_34))) (by first | omega | (simp only [List.length_cons, List.length_nil]; omega) | (simp only [List.length_set]; omega) | decide))
  refine W_v V V (V_ixS (off := O41 + j) 1 (j) V (fg2 F36) (fg0 F36) hv41 (by omega) k41 Try.underlying25 (by kernel_rfl) (congrArg _ (Nat.mul_one _))) ?_
  refine W_r V V (VR_ldC V (et V) ((sl_SlN (tr_at hy30 (S34.chq 0 V hcT_29r_34))).cell hv41 (map_get hy41)) Try.underlying3 V) ?_
  refine W_v V V (V_asg V (et V)) ?_
  refine W_end (gen_Q fun A42 E42 => ?_)
  have hsz42 := szq E42
  have F42 := fsE E42 (ck (cq2 F36 V) V V)
  clear E42 hsz36 F36
  refine tk H40 ?_
  refine region_in ?_
  refine W_v V V (V_mov V (fg4 F42)) (W_v V V (V_mov V (es V (fg0 F42))) ?_)
  have S43 := S34.sel [2, 1, 0] (by decide) (l' := [c23_34, c20_34, cT_29r_34]) V
  replace S43 : St w NoX [c23_34, c20_34, cT_29r_34] w34 := S43
  obtain ⟨Y44, hP44, hR44, hF44, hB44⟩ := St.call (pre := [c23_34, c20_34]) (fr := [cT_29r_34]) S43
  rw [hc23_34, hc20_34] at hP44
  refine W_callV V V V (es V (et V)) Try.func44 (by kernel_rfl) V (args1 (et V)) (ktk_c (wt := y41)  hP44 (by first | with_reducible assumption | omega)) ?_
  rintro _ w45 ⟨rfl, hP45⟩
  refine ⟨_, rfl, ?_⟩
  obtain ⟨cB_45, cE_45, hcB_45, hcE_45, hP45⟩ := gen2 hP45
  have S45 := hB44 _ _ hP45
  replace S45 : St w NoX [cB_45, cE_45, cT_29r_34] w45 := S45
  refine W_end (gen_Q fun A46 E46 => ?_)
  have hsz46 := szq E46
  have F46 := fsE E46 (cq3 F42 V)
  clear E46 hsz42 F42
  refine inb_n (tk H39 ?_)
  refine region_in ?_
  refine W_v V V (V_add V (fg1 F46) V (by omega) (by omega)) ?_
  refine W_v V V (V_mov V (et V)) ?_
  refine W_end (gen_Q fun A47 E47 => ?_)
  have hsz47 := szq E47
  have F47 := fsE E47 (ck (cq1 (fx1 F46) V) V V)
  clear E47 hsz46 F46
  have S48 : St w NoX [cT_29r_34, cE_45, cB_45] w45 := S45.sel [2, 1, 0] (by decide) V
  refine then_n ⟨y30.2.2.length - (j + 1), by simp only [hm34]; omega, hsz47, F47.d, (j + 1), (if (y41 : Int) = 1 then 0 else za), (if (y41 : Int) = 2 then 0 else zb), (if (y41 : Int) = 3 then 0 else zf), (if (y41 : Int) = 4 then 0 else zp), (if (y41 : Int) = 5 then 0 else zq), (if (y41 : Int) = 6 then 0 else zu), (if ((y41 : Int) = 1 ∧ badN za) ∨ ((y41 : Int) = 2 ∧ badN zb) ∨ ((y41 : Int) = 3 ∧ badN zf) ∨ ((y41 : Int) = 4 ∧ badN zp) ∨ ((y41 : Int) = 5 ∧ badN zq) then 7 else er), rfl, (by omega), (tkG_step hT hy41), (((fg0 F47)).trans (by first | rfl | (simp; done) | (congr 1; omega))), (((fg6 F47)).trans (fg5 F32).symm), (((fg5 F47)).trans (fg4 F32).symm), (((fg4 F47)).trans (fg3 F32).symm), (((fg3 F47)).trans (fg2 F32).symm), (((fg2 F47)).trans (fg1 F32).symm), (by subst hcT_29r_34 hcE_45 hcB_45; exact S48)⟩
 refine wp_exit (then_exit (then_exit ?_))
 refine inb_hit ?_
 refine tk H27 (wp_seq_k fun K49 H49 => ?_)
 refine wp_seq_k fun K50 H50 => region_in ?_
 refine W_r V V (VR_ldA V (fg5 F36) (S34.obj 2 V hc23_34) Try.underlying42 V (by kernel_rfl)) ?_
 refine W_v V V (xbS (n := 7) (z := .agg #[.int .i64 0, .int .i64 0, .int .i64 0, .int .i64 0, .int .i64 0, .int .i64 0, .int .u64 0]) V (parts0)) ?_
 refine W_v V V (V_neSt7 V (es V (et V)) (et V) (by kernel_rfl)) ?_
 refine W_end (gen_Q fun A51 E51 => ?_)
 have hsz51 := szq E51
 have F51 := fsE E51 (ck (cq2 F36 V) V V)
 clear E51 hsz36 F36
 have S52 : St w NoX [c20_34] w34 := S34.sel [1] (by decide) V
 refine tk H50 ?_
 refine cond_dec (fg0 F51) (fun c53 => ?_) (fun c53 => ?_)
 ·refine wp_seq_k fun K54 H54 => region_in ?_
  refine W_v V V (V_asg V V) ?_
  refine W_end (gen_Q fun A55 E55 => ?_)
  have hsz55 := szq E55
  have F55 := fsE E55 (ck F51 V V)
  clear E55 hsz51 F51
  have S56 : St w NoX [] w34 := S52.sel [] (by decide) V
  refine tk H54 (wp_ret (then_ret ?_))
  refine ret_in (results_1 Try.results27 (rv_tmp (fg0 F55))) F55.d ?_
  have hR := tkG_end hT (by omega)
  rw [hfd30] at hR
  have h : (opE (⟨kd, a, b, f, p, q, uu⟩ : OpC)) = 2 := op_ne (c := (⟨kd, a, b, f, p, q, uu⟩ : OpC)) (by simp only; omega) hR (by omega)
  rw [h]
  exact ⟨rfl, S56.fin0⟩
 refine wp_skip ?_
 refine tk H49 (wp_seq_k fun K57 H57 => region_in ?_)
 refine W_r V V (xlC (v := .int .i64 (er)) V (fg5 F51) (S52.obj 0 V hc20_34) Try.underlying28) ?_
 refine W_v V V (V_asg V (et V)) ?_
 refine W_end (gen_Q fun A58 E58 => ?_)
 have hsz58 := szq E58
 have F58 := fsE E58 (ck (cq1 F51 V) V V)
 clear E58 hsz51 F51
 have S59 : St w NoX [] w34 := S52.sel [] (by decide) V
 refine tk H57 (wp_ret ?_)
 refine ret_in (results_1 Try.results27 (rv_tmp (fg0 F58))) F58.d ?_
 have hR := tkG_end hT (by omega)
 rw [hfd30] at hR
 have h : (opE (⟨kd, a, b, f, p, q, uu⟩ : OpC)) = er := op_ok (c := (⟨kd, a, b, f, p, q, uu⟩ : OpC)) (by simp only; omega) hR (by omega)
 rw [h]
 exact ⟨rfl, S59.fin0⟩

end Go.Proofs.Ytpgkfndbfocibaa