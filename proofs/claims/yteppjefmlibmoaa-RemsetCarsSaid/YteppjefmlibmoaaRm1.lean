import Derived.Test.YteppjefmlibmoaaProg
import Derived.Test.YteppjefmlibmoaaSl6
import Derived.Test.YteppjefmlibmoaaPl8
import Derived.Test.YteppjefmlibmoaaSep8
namespace Go.Proofs.Yteppjefmlibmoaa
open Go.RowKit Go.Own Go.Own.R Go.Own.S Go.Own.E

abbrev LimR := Value × Value × Value × Value
def limC (y : LimR) : List Value := [y.1, y.2.1, y.2.2.1, y.2.2.2]
theorem limC_len : ∀ a : LimR, (limC a).length = 4 := fun _ => rfl
def limL : List LimR := [((Value.string ⟨#[99, 97, 114, 115]⟩), Value.int .i64 7, Value.int .i64 24, Value.func (.func 93) #[] #[]), ((Value.string ⟨#[111, 102]⟩), Value.int .i64 8, Value.int .i64 64, Value.func (.func 94) #[] #[]), ((Value.string ⟨#[110, 117, 114, 115, 101, 114, 121]⟩), Value.int .i64 4, Value.int .i64 64, Value.func (.func 95) #[] #[]), ((Value.string ⟨#[114, 101, 103, 105, 115, 116, 101, 114, 115]⟩), Value.int .i64 1, Value.int .i64 8, Value.func (.func 96) #[] #[]), ((Value.string ⟨#[112, 111, 112, 117, 108, 97, 114]⟩), Value.int .i64 2, Value.int .i64 16, Value.func (.func 97) #[] #[])]
set_option maxHeartbeats 4000000 in
theorem klim1_c {g : Nat} {w : World}   :
  Calls Try.prog 93 #[.pointer (some ⟨g, 0, none⟩)] w fun e w' => e = .returned (.pointer (some ⟨g, 1, none⟩)) ∧ St w NoX [] w' := by
 refine calls_in 6 Try.func93 rfl rfl (by simp) (fun A0 Y0 hdf0 hargs => ?_)
 have l0_0 := hargs 0 (.pointer (some ⟨g, 0, none⟩)) rfl
 clear hargs; replace Y0 : SzN A0 6 := ⟨Y0⟩
 have hS := St.nil w
 refine wp_seq_k fun K1 H1 => ?_
 refine region_in ?_
 refine W_v rfl rfl (V_asg rfl rfl) ?_
 refine W_end (gen_Q fun A2 E2 => ?_)
 have Y2 := szq E2
 have F2 := (fsE E2 (cq1 (FS.n hdf0) rfl)).c (lookE E2 0 (es rfl l0_0))
 clear E2 Y0 hdf0 l0_0
 refine tk H1 ?_
 refine wp_seq_k fun K3 H3 => ?_
 refine region_in ?_
 refine W_v rfl rfl (V_mov rfl (fg0 F2)) ?_
 refine W_v rfl rfl (V_nil rfl (et rfl)) ?_
 refine W_v rfl rfl (V_fa (off' := 1) rfl (et rfl) Try.underlying23 rfl (by decide +kernel) rfl) ?_
 refine W_v rfl rfl (V_asg rfl (et rfl)) ?_
 refine W_end (gen_Q fun A4 E4 => ?_)
 have Y4 := szq E4
 have F4 := fsE E4 (ck (cq3 F2 rfl) rfl rfl)
 clear E4 Y2 F2
 refine tk H3 ?_
 refine wp_ret ?_
 refine ret_in (results_1 Try.results93 (rv_tmp (fg0 F4))) F4.d ?_
 exact ⟨rfl, hS.fin0⟩

set_option maxHeartbeats 4000000 in
theorem klim2_c {g : Nat} {w : World}   :
  Calls Try.prog 94 #[.pointer (some ⟨g, 0, none⟩)] w fun e w' => e = .returned (.pointer (some ⟨g, 0, none⟩)) ∧ St w NoX [] w' := by
 refine calls_in 6 Try.func94 rfl rfl (by simp) (fun A0 Y0 hdf0 hargs => ?_)
 have l0_0 := hargs 0 (.pointer (some ⟨g, 0, none⟩)) rfl
 clear hargs; replace Y0 : SzN A0 6 := ⟨Y0⟩
 have hS := St.nil w
 refine wp_seq_k fun K1 H1 => ?_
 refine region_in ?_
 refine W_v rfl rfl (V_asg rfl rfl) ?_
 refine W_end (gen_Q fun A2 E2 => ?_)
 have Y2 := szq E2
 have F2 := (fsE E2 (cq1 (FS.n hdf0) rfl)).c (lookE E2 0 (es rfl l0_0))
 clear E2 Y0 hdf0 l0_0
 refine tk H1 ?_
 refine wp_seq_k fun K3 H3 => ?_
 refine region_in ?_
 refine W_v rfl rfl (V_mov rfl (fg0 F2)) ?_
 refine W_v rfl rfl (V_nil rfl (et rfl)) ?_
 refine W_v rfl rfl (V_fa (off' := 0) rfl (et rfl) Try.underlying23 rfl (by decide +kernel) rfl) ?_
 refine W_v rfl rfl (V_asg rfl (et rfl)) ?_
 refine W_end (gen_Q fun A4 E4 => ?_)
 have Y4 := szq E4
 have F4 := fsE E4 (ck (cq3 F2 rfl) rfl rfl)
 clear E4 Y2 F2
 refine tk H3 ?_
 refine wp_ret ?_
 refine ret_in (results_1 Try.results94 (rv_tmp (fg0 F4))) F4.d ?_
 exact ⟨rfl, hS.fin0⟩

set_option maxHeartbeats 4000000 in
theorem klim3_c {g : Nat} {w : World}   :
  Calls Try.prog 95 #[.pointer (some ⟨g, 0, none⟩)] w fun e w' => e = .returned (.pointer (some ⟨g, 2, none⟩)) ∧ St w NoX [] w' := by
 refine calls_in 6 Try.func95 rfl rfl (by simp) (fun A0 Y0 hdf0 hargs => ?_)
 have l0_0 := hargs 0 (.pointer (some ⟨g, 0, none⟩)) rfl
 clear hargs; replace Y0 : SzN A0 6 := ⟨Y0⟩
 have hS := St.nil w
 refine wp_seq_k fun K1 H1 => ?_
 refine region_in ?_
 refine W_v rfl rfl (V_asg rfl rfl) ?_
 refine W_end (gen_Q fun A2 E2 => ?_)
 have Y2 := szq E2
 have F2 := (fsE E2 (cq1 (FS.n hdf0) rfl)).c (lookE E2 0 (es rfl l0_0))
 clear E2 Y0 hdf0 l0_0
 refine tk H1 ?_
 refine wp_seq_k fun K3 H3 => ?_
 refine region_in ?_
 refine W_v rfl rfl (V_mov rfl (fg0 F2)) ?_
 refine W_v rfl rfl (V_nil rfl (et rfl)) ?_
 refine W_v rfl rfl (V_fa (off' := 2) rfl (et rfl) Try.underlying23 rfl (by decide +kernel) rfl) ?_
 refine W_v rfl rfl (V_asg rfl (et rfl)) ?_
 refine W_end (gen_Q fun A4 E4 => ?_)
 have Y4 := szq E4
 have F4 := fsE E4 (ck (cq3 F2 rfl) rfl rfl)
 clear E4 Y2 F2
 refine tk H3 ?_
 refine wp_ret ?_
 refine ret_in (results_1 Try.results95 (rv_tmp (fg0 F4))) F4.d ?_
 exact ⟨rfl, hS.fin0⟩

set_option maxHeartbeats 4000000 in
theorem klim4_c {g : Nat} {w : World}   :
  Calls Try.prog 96 #[.pointer (some ⟨g, 0, none⟩)] w fun e w' => e = .returned (.pointer (some ⟨g, 3, none⟩)) ∧ St w NoX [] w' := by
 refine calls_in 6 Try.func96 rfl rfl (by simp) (fun A0 Y0 hdf0 hargs => ?_)
 have l0_0 := hargs 0 (.pointer (some ⟨g, 0, none⟩)) rfl
 clear hargs; replace Y0 : SzN A0 6 := ⟨Y0⟩
 have hS := St.nil w
 refine wp_seq_k fun K1 H1 => ?_
 refine region_in ?_
 refine W_v rfl rfl (V_asg rfl rfl) ?_
 refine W_end (gen_Q fun A2 E2 => ?_)
 have Y2 := szq E2
 have F2 := (fsE E2 (cq1 (FS.n hdf0) rfl)).c (lookE E2 0 (es rfl l0_0))
 clear E2 Y0 hdf0 l0_0
 refine tk H1 ?_
 refine wp_seq_k fun K3 H3 => ?_
 refine region_in ?_
 refine W_v rfl rfl (V_mov rfl (fg0 F2)) ?_
 refine W_v rfl rfl (V_nil rfl (et rfl)) ?_
 refine W_v rfl rfl (V_fa (off' := 3) rfl (et rfl) Try.underlying23 rfl (by decide +kernel) rfl) ?_
 refine W_v rfl rfl (V_asg rfl (et rfl)) ?_
 refine W_end (gen_Q fun A4 E4 => ?_)
 have Y4 := szq E4
 have F4 := fsE E4 (ck (cq3 F2 rfl) rfl rfl)
 clear E4 Y2 F2
 refine tk H3 ?_
 refine wp_ret ?_
 refine ret_in (results_1 Try.results96 (rv_tmp (fg0 F4))) F4.d ?_
 exact ⟨rfl, hS.fin0⟩

set_option maxHeartbeats 4000000 in
theorem klim5_c {g : Nat} {w : World}   :
  Calls Try.prog 97 #[.pointer (some ⟨g, 0, none⟩)] w fun e w' => e = .returned (.pointer (some ⟨g, 4, none⟩)) ∧ St w NoX [] w' := by
 refine calls_in 6 Try.func97 rfl rfl (by simp) (fun A0 Y0 hdf0 hargs => ?_)
 have l0_0 := hargs 0 (.pointer (some ⟨g, 0, none⟩)) rfl
 clear hargs; replace Y0 : SzN A0 6 := ⟨Y0⟩
 have hS := St.nil w
 refine wp_seq_k fun K1 H1 => ?_
 refine region_in ?_
 refine W_v rfl rfl (V_asg rfl rfl) ?_
 refine W_end (gen_Q fun A2 E2 => ?_)
 have Y2 := szq E2
 have F2 := (fsE E2 (cq1 (FS.n hdf0) rfl)).c (lookE E2 0 (es rfl l0_0))
 clear E2 Y0 hdf0 l0_0
 refine tk H1 ?_
 refine wp_seq_k fun K3 H3 => ?_
 refine region_in ?_
 refine W_v rfl rfl (V_mov rfl (fg0 F2)) ?_
 refine W_v rfl rfl (V_nil rfl (et rfl)) ?_
 refine W_v rfl rfl (V_fa (off' := 4) rfl (et rfl) Try.underlying23 rfl (by decide +kernel) rfl) ?_
 refine W_v rfl rfl (V_asg rfl (et rfl)) ?_
 refine W_end (gen_Q fun A4 E4 => ?_)
 have Y4 := szq E4
 have F4 := fsE E4 (ck (cq3 F2 rfl) rfl rfl)
 clear E4 Y2 F2
 refine tk H3 ?_
 refine wp_ret ?_
 refine ret_in (results_1 Try.results97 (rv_tmp (fg0 F4))) F4.d ?_
 exact ⟨rfl, hS.fin0⟩

set_option maxHeartbeats 4000000 in
theorem klims_c  {w : World}   :
  Calls Try.prog 70 #[] w fun e w' => ∃ v, e = .returned (v) ∧ St w NoX [ro 4 limC v limL] w' := by
 refine calls_in 7 Try.func70 rfl rfl (by simp) (fun A0 Y0 hdf0 hargs => ?_)
 clear hargs; replace Y0 : SzN A0 7 := ⟨Y0⟩
 have hS := St.nil w
 refine wp_seq_k fun K1 H1 => ?_
 refine region_in ?_
 refine W_v rfl rfl (V_asg rfl rfl) ?_
 refine W_end (gen_Q fun A2 E2 => ?_)
 have Y2 := szq E2
 have F2 := fsE E2 (cq1 (FS.n hdf0) rfl)
 clear E2 Y0 hdf0
 refine tk H1 ?_
 refine wp_seq_k fun K3 H3 => ?_
 refine region_in ?_
 refine W_v rfl rfl (V_bldS (n := 4) (z := .agg #[.string ByteArray.empty, .int .i64 0, .int .i64 0, .nilFunc]) rfl (parts4 rfl rfl rfl rfl) (by kernel_rfl) (by simp only [List.all_cons, List.all_nil, Bool.and_true] <;> rfl) (by kernel_rfl) (by simp only [List.foldl_cons, List.foldl_nil, Value.cells, List.setIfInBounds_toArray, List.set_cons_succ, List.set_cons_zero] <;> rfl)) ?_
 refine W_v rfl rfl (V_bldS (n := 4) (z := .agg #[.string ByteArray.empty, .int .i64 0, .int .i64 0, .nilFunc]) rfl (parts4 rfl rfl rfl rfl) (by kernel_rfl) (by simp only [List.all_cons, List.all_nil, Bool.and_true] <;> rfl) (by kernel_rfl) (by simp only [List.foldl_cons, List.foldl_nil, Value.cells, List.setIfInBounds_toArray, List.set_cons_succ, List.set_cons_zero] <;> rfl)) ?_
 refine W_v rfl rfl (V_bldS (n := 4) (z := .agg #[.string ByteArray.empty, .int .i64 0, .int .i64 0, .nilFunc]) rfl (parts4 rfl rfl rfl rfl) (by kernel_rfl) (by simp only [List.all_cons, List.all_nil, Bool.and_true] <;> rfl) (by kernel_rfl) (by simp only [List.foldl_cons, List.foldl_nil, Value.cells, List.setIfInBounds_toArray, List.set_cons_succ, List.set_cons_zero] <;> rfl)) ?_
 refine W_v rfl rfl (V_bldS (n := 4) (z := .agg #[.string ByteArray.empty, .int .i64 0, .int .i64 0, .nilFunc]) rfl (parts4 rfl rfl rfl rfl) (by kernel_rfl) (by simp only [List.all_cons, List.all_nil, Bool.and_true] <;> rfl) (by kernel_rfl) (by simp only [List.foldl_cons, List.foldl_nil, Value.cells, List.setIfInBounds_toArray, List.set_cons_succ, List.set_cons_zero] <;> rfl)) ?_
 refine W_v rfl rfl (V_bldS (n := 4) (z := .agg #[.string ByteArray.empty, .int .i64 0, .int .i64 0, .nilFunc]) rfl (parts4 rfl rfl rfl rfl) (by kernel_rfl) (by simp only [List.all_cons, List.all_nil, Bool.and_true] <;> rfl) (by kernel_rfl) (by simp only [List.foldl_cons, List.foldl_nil, Value.cells, List.setIfInBounds_toArray, List.set_cons_succ, List.set_cons_zero] <;> rfl)) ?_
 have hll4 : [((Value.string ⟨#[99, 97, 114, 115]⟩), Value.int .i64 7, Value.int .i64 24, Value.func (.func 93) #[] #[]), ((Value.string ⟨#[111, 102]⟩), Value.int .i64 8, Value.int .i64 64, Value.func (.func 94) #[] #[]), ((Value.string ⟨#[110, 117, 114, 115, 101, 114, 121]⟩), Value.int .i64 4, Value.int .i64 64, Value.func (.func 95) #[] #[]), ((Value.string ⟨#[114, 101, 103, 105, 115, 116, 101, 114, 115]⟩), Value.int .i64 1, Value.int .i64 8, Value.func (.func 96) #[] #[]), ((Value.string ⟨#[112, 111, 112, 117, 108, 97, 114]⟩), Value.int .i64 2, Value.int .i64 16, Value.func (.func 97) #[] #[])].length = 5 := rfl
 refine W_litS (vs := [.agg #[(Value.string ⟨#[99, 97, 114, 115]⟩), .int .i64 7, .int .i64 24, .func (.func 93) #[] #[]], .agg #[(Value.string ⟨#[111, 102]⟩), .int .i64 8, .int .i64 64, .func (.func 94) #[] #[]], .agg #[(Value.string ⟨#[110, 117, 114, 115, 101, 114, 121]⟩), .int .i64 4, .int .i64 64, .func (.func 95) #[] #[]], .agg #[(Value.string ⟨#[114, 101, 103, 105, 115, 116, 101, 114, 115]⟩), .int .i64 1, .int .i64 8, .func (.func 96) #[] #[]], .agg #[(Value.string ⟨#[112, 111, 112, 117, 108, 97, 114]⟩), .int .i64 2, .int .i64 16, .func (.func 97) #[] #[]]]) (xs := ([((Value.string ⟨#[99, 97, 114, 115]⟩), Value.int .i64 7, Value.int .i64 24, Value.func (.func 93) #[] #[]), ((Value.string ⟨#[111, 102]⟩), Value.int .i64 8, Value.int .i64 64, Value.func (.func 94) #[] #[]), ((Value.string ⟨#[110, 117, 114, 115, 101, 114, 121]⟩), Value.int .i64 4, Value.int .i64 64, Value.func (.func 95) #[] #[]), ((Value.string ⟨#[114, 101, 103, 105, 115, 116, 101, 114, 115]⟩), Value.int .i64 1, Value.int .i64 8, Value.func (.func 96) #[] #[]), ((Value.string ⟨#[112, 111, 112, 117, 108, 97, 114]⟩), Value.int .i64 2, Value.int .i64 16, Value.func (.func 97) #[] #[])].flatMap limC)) 4 hS rfl rfl rfl (parts5 (es4 rfl (et rfl)) (es3 rfl (et rfl)) (es2 rfl (et rfl)) (es rfl (et rfl)) (et rfl)) rfl Try.underlying94 (by kernel_rfl) (by decide) (by intro v hv; simp only [List.mem_cons, List.not_mem_nil, or_false] at hv; rcases hv with rfl | rfl | rfl | rfl | rfl <;> rfl) (by rfl) (fun g4 w4 c4 hc4 S4 => ?_)
 replace hc4 : c4 = ro 4 limC (.slice (some ⟨g4, 0, none⟩) 5 5) [((Value.string ⟨#[99, 97, 114, 115]⟩), Value.int .i64 7, Value.int .i64 24, Value.func (.func 93) #[] #[]), ((Value.string ⟨#[111, 102]⟩), Value.int .i64 8, Value.int .i64 64, Value.func (.func 94) #[] #[]), ((Value.string ⟨#[110, 117, 114, 115, 101, 114, 121]⟩), Value.int .i64 4, Value.int .i64 64, Value.func (.func 95) #[] #[]), ((Value.string ⟨#[114, 101, 103, 105, 115, 116, 101, 114, 115]⟩), Value.int .i64 1, Value.int .i64 8, Value.func (.func 96) #[] #[]), ((Value.string ⟨#[112, 111, 112, 117, 108, 97, 114]⟩), Value.int .i64 2, Value.int .i64 16, Value.func (.func 97) #[] #[])] := hc4
 replace S4 : St w NoX [c4] w4 := S4
 refine W_v rfl rfl (V_asg rfl (et rfl)) ?_
 refine W_end (gen_Q fun A5 E5 => ?_)
 have Y5 := szq E5
 have F5 := fsE E5 (ck (cq6 F2 rfl) rfl rfl)
 clear E5 Y2 F2
 refine tk H3 ?_
 refine wp_ret ?_
 refine ret_in (results_1 Try.results70 (rv_tmp (fg0 F5))) F5.d ?_
 exact ⟨_, rfl, (S4.fin1 0 rfl (hc4))⟩

set_option maxHeartbeats 4000000 in
theorem kcfg_c {C : Int} {N : Int} {Z : Int} {K : Int} {Q : Int} {w : World}   :
  Calls Try.prog 40 #[.agg #[.int .i64 C, .int .i64 N, .int .i64 Z, .int .i64 K, .int .i64 Q]] w fun e w' => e = .returned (.int .i64 (cfE C N Z K Q)) ∧ St w NoX [] w' := by
 refine calls_in 28 Try.func40 rfl rfl (by simp) (fun A0 Y0 hdf0 hargs => ?_)
 have l0_0 := hargs 0 (.agg #[.int .i64 C, .int .i64 N, .int .i64 Z, .int .i64 K, .int .i64 Q]) rfl
 clear hargs; replace Y0 : SzN A0 28 := ⟨Y0⟩
 have hS := St.nil w
 refine wp_seq_k fun K1 H1 => ?_
 refine region_in ?_
 refine W_boxS (zs := #[.int .i64 (C), .int .i64 (N), .int .i64 (Z), .int .i64 (K), .int .i64 (Q)]) hS rfl rfl rfl l0_0 (by rfl) (fun g2 w2 c2 hc2 S2 => ?_)
 replace S2 : St w NoX [c2] w2 := S2
 refine W_v rfl rfl (V_asg rfl rfl) ?_
 refine W_end (gen_Q fun A3 E3 => ?_)
 have Y3 := szq E3
 have F3 := fsE E3 (cq1 (ck (FS.n hdf0) rfl rfl) rfl)
 clear E3 Y0 hdf0 l0_0
 refine tk H1 ?_
 refine wp_seq_k fun K4 H4 => ?_
 refine wp_seq_k fun K5 H5 => ?_
 refine region_in ?_
 refine W_call rfl rfl rfl Try.func70 (by kernel_rfl) rfl (args0) (klims_c  ) ?_
 rintro _ w6 ⟨v_6, rfl, hP6⟩
 refine ⟨_, rfl, ?_⟩
 obtain ⟨c_6, hc_6, hP6⟩ := gen1 hP6
 have S6 := S2.join hP6
 replace S6 : St w NoX [c_6, c2] w6 := S6
 refine W_v rfl rfl (V_lenS rfl (et rfl) (ow_at (S6.chq 0 rfl hc_6)) Try.underlying94) ?_
 refine W_v rfl rfl (V_mov rfl rfl) ?_
 refine W_end (gen_Q fun A7 E7 => ?_)
 have Y7 := szq E7
 have F7 := fsE E7 (ck (ck (ck F3 rfl rfl) rfl rfl) rfl rfl)
 clear E7 Y3 F3
 refine tk H5 ?_
 refine wp_block ?_
 -- loop 2, round by round
 refine loopL ?_
 refine LW_step ?_
 have l8_8 : EV A7 (.tmp 8) = .int .i64 (0 : Int) := (fg0 F7)
 refine wp_seq_k fun K9 H9 => ?_
 refine region_in ?_
 refine W_v rfl rfl (V_lss rfl l8_8 (fg1 F7)) ?_
 refine W_end (gen_Q fun A10 E10 => ?_)
 have Y10 := szq E10
 have F10 := (fsE E10 (ck (fx0 F7) rfl rfl)).c (lookE E10 8 (es rfl l8_8))
 clear E10 Y7 F7 l8_8
 refine tk H9 ?_
 refine wp_seq_k fun K11 H11 => ?_
 refine cond_sure (fg1 F10) (by decide +kernel) ?_
 refine wp_skip ?_
 refine tk H11 ?_
 refine wp_seq_k fun K12 H12 => ?_
 refine wp_block ?_
 refine wp_seq_k fun K13 H13 => ?_
 refine region_in ?_
 have k14 : 0 < limL.length := by first | (simp; done) | decide +kernel
 obtain ⟨B14, O14, C14, hv14⟩ := (SlN.blk (ow_at (S6.chq 0 rfl hc_6)) (by first | (simp; done) | decide +kernel))
 refine W_v rfl rfl (V_ixS (off := O14 + 0 * 4) 4 (0) rfl (fg3 F10) (fg0 F10) hv14 (by omega) k14 Try.underlying94 (by kernel_rfl) rfl) ?_
 refine W_r rfl rfl (VR_ldR (ys := limC ((Value.string ⟨#[99, 97, 114, 115]⟩), Value.int .i64 7, Value.int .i64 24, Value.func (.func 93) #[] #[])) rfl (et rfl) (SlN.row limC_len (ow_at (S6.chq 0 rfl hc_6)) hv14 (show limL[0]? = some ((Value.string ⟨#[99, 97, 114, 115]⟩), Value.int .i64 7, Value.int .i64 24, Value.func (.func 93) #[] #[]) from rfl) rfl) Try.underlying98 rfl (by kernel_rfl)) ?_
 refine W_allocS (z := .agg #[.string ByteArray.empty, .int .i64 0, .int .i64 0, .nilFunc]) (zs := #[.string ByteArray.empty, .int .i64 0, .int .i64 0, .nilFunc]) S6 rfl rfl rfl (by kernel_rfl) (by rfl) (fun g15 w15 c15 hc15 S15 => ?_)
 replace S15 : St w NoX [c15, c_6, c2] w15 := S15
 refine W_stAS 0 S15 rfl hc15 rfl rfl rfl (et rfl) (es rfl (et rfl)) (by first | (rw [List.all_toArray] <;> rfl) | (simp only [List.all_toArray, List.all_cons, List.all_nil] <;> rfl)) (by rfl) (by kernel_rfl) (fun w16 c16 hc16 S16 => ?_)
 replace S16 : St w NoX [c16, c_6, c2] w16 := S16
 refine W_end (gen_Q fun A17 E17 => ?_)
 have Y17 := szq E17
 have F17 := fsE E17 (ck (cq2 F10 rfl) rfl rfl)
 clear E17 Y10 F10
 refine tk H13 ?_
 refine wp_seq_k fun K18 H18 => ?_
 refine region_in ?_
 refine W_v rfl rfl (V_fa (off' := 3) rfl (fg0 F17) Try.underlying98 rfl (by decide +kernel) rfl) ?_
 refine W_r rfl rfl (VR_ldC rfl (et rfl) (cell_box (v := .func (.func 93) #[] #[]) (S16.obj 0 rfl hc16) rfl) Try.underlying96 rfl) ?_
 refine W_callV rfl rfl rfl (et rfl) Try.func93 (by kernel_rfl) rfl (args1 (es2 rfl (fg5 F17))) (klim1_c (g := g2)  ) ?_
 rintro _ w19 ⟨rfl, hP19⟩
 refine ⟨_, rfl, ?_⟩
 have S19 := S16.join hP19
 replace S19 : St w NoX [c16, c_6, c2] w19 := S19
 refine W_v rfl rfl (V_nil rfl (et rfl)) ?_
 refine W_r rfl rfl (VR_ldC rfl (et rfl) (cell_box (v := .int .i64 (N)) (S19.obj 2 rfl hc2) rfl) Try.underlying3 rfl) ?_
 refine W_v rfl rfl (V_asg rfl (et rfl)) ?_
 refine W_end (gen_Q fun A20 E20 => ?_)
 have Y20 := szq E20
 have F20 := fsE E20 (ck (cq5 F17 rfl) rfl rfl)
 clear E20 Y17 F17
 refine tk H18 ?_
 refine wp_seq_k fun K21 H21 => ?_
 refine region_in ?_
 refine W_v rfl rfl (V_mov rfl (fg0 F20)) ?_
 refine W_v rfl rfl (V_fa (off' := 1) rfl (es rfl (fg1 F20)) Try.underlying98 rfl (by decide +kernel) rfl) ?_
 refine W_r rfl rfl (VR_ldC rfl (et rfl) (cell_box (v := .int .i64 7) (S19.obj 0 rfl hc16) rfl) Try.underlying3 rfl) ?_
 refine W_v rfl rfl (V_lss rfl (es2 rfl (et rfl)) (et rfl)) ?_
 refine W_split rfl rfl (V_mov rfl (et rfl)) (fun c22 => ?_) (fun c22 => ?_)
 ·refine W_off rfl (wanted_f rfl rfl (et rfl) (ez rfl) rfl) ?_
  refine W_off rfl (wanted_f rfl rfl (es rfl (et rfl)) (ez rfl) rfl) ?_
  refine W_off rfl (wanted_f rfl rfl (es2 rfl (et rfl)) (ez rfl) rfl) ?_
  refine W_off rfl (wanted_f rfl rfl (es3 rfl (et rfl)) (ez rfl) rfl) ?_
  refine W_v rfl rfl (V_pickT rfl (es4 rfl (et rfl)) rfl) ?_
  refine W_end (gen_Q fun A23 E23 => ?_)
  have Y23 := szq E23
  have F23 := fsE E23 (ck (ck (ck (ck (ck (cq5 F20 rfl) rfl rfl) rfl rfl) rfl rfl) rfl rfl) rfl rfl)
  clear E23 Y20 F20
  have S24 : St w NoX [c_6, c2] w19 := S19.sel [1, 2] (by decide) rfl
  refine tk H21 ?_
  refine cond_t (fg0 F23) ?_
  refine wp_seq_k fun K25 H25 => ?_
  refine region_in ?_
  refine W_v rfl rfl (V_asg rfl rfl) ?_
  refine W_end (gen_Q fun A26 E26 => ?_)
  have Y26 := szq E26
  have F26 := fsE E26 (ck F23 rfl rfl)
  clear E26 Y23 F23
  have S27 : St w NoX [] w19 := S24.sel [] (by decide) rfl
  refine tk H25 ?_
  refine wp_ret ?_
  refine inb_ret ?_
  refine then_ret ?_
  refine then_ret ?_
  refine inb_ret ?_
  refine then_ret ?_
  refine ret_in (results_1 Try.results40 (rv_tmp (fg0 F26))) F26.d ?_
  have he : (cfE C N Z K Q) = 7 := cf_bad (by omega)
  rw [he]
  exact ⟨rfl, S27.fin0⟩
 refine W_v rfl (wanted_t rfl rfl (et rfl) (ez rfl)) (V_mov rfl (es5 rfl (fg0 F20))) ?_
 refine W_v rfl (wanted_t rfl rfl (es rfl (et rfl)) (ez rfl)) (V_fa (off' := 2) rfl (es6 rfl (fg1 F20)) Try.underlying98 rfl (by decide +kernel) rfl) ?_
 refine W_r rfl (wanted_t rfl rfl (es2 rfl (et rfl)) (ez rfl)) (VR_ldC rfl (et rfl) (cell_box (v := .int .i64 24) (S19.obj 0 rfl hc16) rfl) Try.underlying3 rfl) ?_
 refine W_v rfl (wanted_t rfl rfl (es3 rfl (et rfl)) (ez rfl)) (V_gtr rfl (es2 rfl (et rfl)) (et rfl)) ?_
 refine W_v rfl rfl (V_pickF rfl (es4 rfl (et rfl)) (et rfl)) ?_
 refine W_end (gen_Q fun A28 E28 => ?_)
 have Y28 := szq E28
 have F28 := fsE E28 (ck (ck (ck (ck (ck (cq5 F20 rfl) rfl rfl) rfl rfl) rfl rfl) rfl rfl) rfl rfl)
 clear E28 Y20 F20
 refine tk H21 ?_
 refine cond_dec (fg0 F28) (fun c29 => ?_) (fun c29 => ?_)
 ·refine wp_seq_k fun K30 H30 => ?_
  refine region_in ?_
  refine W_v rfl rfl (V_asg rfl rfl) ?_
  refine W_end (gen_Q fun A31 E31 => ?_)
  have Y31 := szq E31
  have F31 := fsE E31 (ck F28 rfl rfl)
  clear E31 Y28 F28
  have S32 : St w NoX [] w19 := S19.sel [] (by decide) rfl
  refine tk H30 ?_
  refine wp_ret ?_
  refine inb_ret ?_
  refine then_ret ?_
  refine then_ret ?_
  refine inb_ret ?_
  refine then_ret ?_
  refine ret_in (results_1 Try.results40 (rv_tmp (fg0 F31))) F31.d ?_
  have he : (cfE C N Z K Q) = 7 := cf_bad (by omega)
  rw [he]
  exact ⟨rfl, S32.fin0⟩
 refine wp_skip ?_
 refine inb_n ?_
 refine tk H12 ?_
 refine region_in ?_
 refine W_v rfl rfl (V_add rfl (fg7 F28) rfl (by omega) (by omega)) ?_
 refine W_v rfl rfl (V_mov rfl (et rfl)) ?_
 refine W_end (gen_Q fun A33 E33 => ?_)
 have Y33 := szq E33
 have F33 := fsE E33 (ck (cq1 (fx7 F28) rfl) rfl rfl)
 clear E33 Y28 F28
 refine then_n ?_
 refine LW_step ?_
 have l8_34 : EV A33 (.tmp 8) = .int .i64 (1 : Int) := (fg0 F33)
 refine wp_seq_k fun K35 H35 => ?_
 refine region_in ?_
 refine W_v rfl rfl (V_lss rfl l8_34 (fg9 F33)) ?_
 refine W_end (gen_Q fun A36 E36 => ?_)
 have Y36 := szq E36
 have F36 := (fsE E36 (ck (fx7 (fx0 F33)) rfl rfl)).c (lookE E36 8 (es rfl l8_34))
 clear E36 Y33 F33 l8_34
 refine tk H35 ?_
 refine wp_seq_k fun K37 H37 => ?_
 refine cond_sure (fg1 F36) (by decide +kernel) ?_
 refine wp_skip ?_
 refine tk H37 ?_
 refine wp_seq_k fun K38 H38 => ?_
 refine wp_block ?_
 refine wp_seq_k fun K39 H39 => ?_
 refine region_in ?_
 have k40 : 1 < limL.length := by first | (simp; done) | decide +kernel
 refine W_v rfl rfl (V_ixS (off := O14 + 1 * 4) 4 (1) rfl (fg10 F36) (fg0 F36) hv14 (by omega) k40 Try.underlying94 (by kernel_rfl) rfl) ?_
 refine W_r rfl rfl (VR_ldR (ys := limC ((Value.string ⟨#[111, 102]⟩), Value.int .i64 8, Value.int .i64 64, Value.func (.func 94) #[] #[])) rfl (et rfl) (SlN.row limC_len (ow_at (S19.chq 1 rfl hc_6)) hv14 (show limL[1]? = some ((Value.string ⟨#[111, 102]⟩), Value.int .i64 8, Value.int .i64 64, Value.func (.func 94) #[] #[]) from rfl) rfl) Try.underlying98 rfl (by kernel_rfl)) ?_
 refine W_allocS (z := .agg #[.string ByteArray.empty, .int .i64 0, .int .i64 0, .nilFunc]) (zs := #[.string ByteArray.empty, .int .i64 0, .int .i64 0, .nilFunc]) S19 rfl rfl rfl (by kernel_rfl) (by rfl) (fun g41 w41 c41 hc41 S41 => ?_)
 replace S41 : St w NoX [c41, c16, c_6, c2] w41 := S41
 refine W_stAS 0 S41 rfl hc41 rfl rfl rfl (et rfl) (es rfl (et rfl)) (by first | (rw [List.all_toArray] <;> rfl) | (simp only [List.all_toArray, List.all_cons, List.all_nil] <;> rfl)) (by rfl) (by kernel_rfl) (fun w42 c42 hc42 S42 => ?_)
 replace S42 : St w NoX [c42, c16, c_6, c2] w42 := S42
 refine W_end (gen_Q fun A43 E43 => ?_)
 have Y43 := szq E43
 have F43 := fsE E43 (ck (cq2 (fx8 F36) rfl) rfl rfl)
 clear E43 Y36 F36
 refine tk H39 ?_
 refine wp_seq_k fun K44 H44 => ?_
 refine region_in ?_
 refine W_v rfl rfl (V_fa (off' := 3) rfl (fg0 F43) Try.underlying98 rfl (by decide +kernel) rfl) ?_
 refine W_r rfl rfl (VR_ldC rfl (et rfl) (cell_box (v := .func (.func 94) #[] #[]) (S42.obj 0 rfl hc42) rfl) Try.underlying96 rfl) ?_
 refine W_callV rfl rfl rfl (et rfl) Try.func94 (by kernel_rfl) rfl (args1 (es2 rfl (fg11 F43))) (klim2_c (g := g2)  ) ?_
 rintro _ w45 ⟨rfl, hP45⟩
 refine ⟨_, rfl, ?_⟩
 have S45 := S42.join hP45
 replace S45 : St w NoX [c42, c16, c_6, c2] w45 := S45
 refine W_v rfl rfl (V_nil rfl (et rfl)) ?_
 refine W_r rfl rfl (VR_ldC rfl (et rfl) (cell_box (v := .int .i64 (C)) (S45.obj 3 rfl hc2) rfl) Try.underlying3 rfl) ?_
 refine W_v rfl rfl (V_asg rfl (et rfl)) ?_
 refine W_end (gen_Q fun A46 E46 => ?_)
 have Y46 := szq E46
 have F46 := fsE E46 (ck (cq5 (fx8 F43) rfl) rfl rfl)
 clear E46 Y43 F43
 refine tk H44 ?_
 refine wp_seq_k fun K47 H47 => ?_
 refine region_in ?_
 refine W_v rfl rfl (V_mov rfl (fg0 F46)) ?_
 refine W_v rfl rfl (V_fa (off' := 1) rfl (es rfl (fg1 F46)) Try.underlying98 rfl (by decide +kernel) rfl) ?_
 refine W_r rfl rfl (VR_ldC rfl (et rfl) (cell_box (v := .int .i64 8) (S45.obj 0 rfl hc42) rfl) Try.underlying3 rfl) ?_
 refine W_v rfl rfl (V_lss rfl (es2 rfl (et rfl)) (et rfl)) ?_
 refine W_split rfl rfl (V_mov rfl (et rfl)) (fun c48 => ?_) (fun c48 => ?_)
 ·refine W_off rfl (wanted_f rfl rfl (et rfl) (ez rfl) rfl) ?_
  refine W_off rfl (wanted_f rfl rfl (es rfl (et rfl)) (ez rfl) rfl) ?_
  refine W_off rfl (wanted_f rfl rfl (es2 rfl (et rfl)) (ez rfl) rfl) ?_
  refine W_off rfl (wanted_f rfl rfl (es3 rfl (et rfl)) (ez rfl) rfl) ?_
  refine W_v rfl rfl (V_pickT rfl (es4 rfl (et rfl)) rfl) ?_
  refine W_end (gen_Q fun A49 E49 => ?_)
  have Y49 := szq E49
  have F49 := fsE E49 (ck (ck (ck (ck (ck (cq5 (fx4 (fx4 (fx4 (fx4 (fx4 F46))))) rfl) rfl rfl) rfl rfl) rfl rfl) rfl rfl) rfl rfl)
  clear E49 Y46 F46
  have S50 : St w NoX [c_6, c2] w45 := S45.sel [2, 3] (by decide) rfl
  refine tk H47 ?_
  refine cond_t (fg0 F49) ?_
  refine wp_seq_k fun K51 H51 => ?_
  refine region_in ?_
  refine W_v rfl rfl (V_asg rfl rfl) ?_
  refine W_end (gen_Q fun A52 E52 => ?_)
  have Y52 := szq E52
  have F52 := fsE E52 (ck F49 rfl rfl)
  clear E52 Y49 F49
  have S53 : St w NoX [] w45 := S50.sel [] (by decide) rfl
  refine tk H51 ?_
  refine wp_ret ?_
  refine inb_ret ?_
  refine then_ret ?_
  refine then_ret ?_
  refine inb_ret ?_
  refine then_ret ?_
  refine ret_in (results_1 Try.results40 (rv_tmp (fg0 F52))) F52.d ?_
  have he : (cfE C N Z K Q) = 7 := cf_bad (by omega)
  rw [he]
  exact ⟨rfl, S53.fin0⟩
 refine W_v rfl (wanted_t rfl rfl (et rfl) (ez rfl)) (V_mov rfl (es5 rfl (fg0 F46))) ?_
 refine W_v rfl (wanted_t rfl rfl (es rfl (et rfl)) (ez rfl)) (V_fa (off' := 2) rfl (es6 rfl (fg1 F46)) Try.underlying98 rfl (by decide +kernel) rfl) ?_
 refine W_r rfl (wanted_t rfl rfl (es2 rfl (et rfl)) (ez rfl)) (VR_ldC rfl (et rfl) (cell_box (v := .int .i64 64) (S45.obj 0 rfl hc42) rfl) Try.underlying3 rfl) ?_
 refine W_v rfl (wanted_t rfl rfl (es3 rfl (et rfl)) (ez rfl)) (V_gtr rfl (es2 rfl (et rfl)) (et rfl)) ?_
 refine W_v rfl rfl (V_pickF rfl (es4 rfl (et rfl)) (et rfl)) ?_
 refine W_end (gen_Q fun A54 E54 => ?_)
 have Y54 := szq E54
 have F54 := fsE E54 (ck (ck (ck (ck (ck (cq5 (fx4 (fx4 (fx4 (fx4 (fx4 F46))))) rfl) rfl rfl) rfl rfl) rfl rfl) rfl rfl) rfl rfl)
 clear E54 Y46 F46
 have S55 : St w NoX [c42, c_6, c2] w45 := S45.sel [0, 2, 3] (by decide) rfl
 refine tk H47 ?_
 refine cond_dec (fg0 F54) (fun c56 => ?_) (fun c56 => ?_)
 ·refine wp_seq_k fun K57 H57 => ?_
  refine region_in ?_
  refine W_v rfl rfl (V_asg rfl rfl) ?_
  refine W_end (gen_Q fun A58 E58 => ?_)
  have Y58 := szq E58
  have F58 := fsE E58 (ck F54 rfl rfl)
  clear E58 Y54 F54
  have S59 : St w NoX [] w45 := S55.sel [] (by decide) rfl
  refine tk H57 ?_
  refine wp_ret ?_
  refine inb_ret ?_
  refine then_ret ?_
  refine then_ret ?_
  refine inb_ret ?_
  refine then_ret ?_
  refine ret_in (results_1 Try.results40 (rv_tmp (fg0 F58))) F58.d ?_
  have he : (cfE C N Z K Q) = 7 := cf_bad (by omega)
  rw [he]
  exact ⟨rfl, S59.fin0⟩
 refine wp_skip ?_
 refine inb_n ?_
 refine tk H38 ?_
 refine region_in ?_
 refine W_v rfl rfl (V_add rfl (fg7 F54) rfl (by omega) (by omega)) ?_
 refine W_v rfl rfl (V_mov rfl (et rfl)) ?_
 refine W_end (gen_Q fun A60 E60 => ?_)
 have Y60 := szq E60
 have F60 := fsE E60 (ck (cq1 (fx7 F54) rfl) rfl rfl)
 clear E60 Y54 F54
 refine then_n ?_
 refine LW_step ?_
 have l8_61 : EV A60 (.tmp 8) = .int .i64 (2 : Int) := (fg0 F60)
 refine wp_seq_k fun K62 H62 => ?_
 refine region_in ?_
 refine W_v rfl rfl (V_lss rfl l8_61 (fg9 F60)) ?_
 refine W_end (gen_Q fun A63 E63 => ?_)
 have Y63 := szq E63
 have F63 := (fsE E63 (ck (fx7 (fx0 F60)) rfl rfl)).c (lookE E63 8 (es rfl l8_61))
 clear E63 Y60 F60 l8_61
 refine tk H62 ?_
 refine wp_seq_k fun K64 H64 => ?_
 refine cond_sure (fg1 F63) (by decide +kernel) ?_
 refine wp_skip ?_
 refine tk H64 ?_
 refine wp_seq_k fun K65 H65 => ?_
 refine wp_block ?_
 refine wp_seq_k fun K66 H66 => ?_
 refine region_in ?_
 have k67 : 2 < limL.length := by first | (simp; done) | decide +kernel
 refine W_v rfl rfl (V_ixS (off := O14 + 2 * 4) 4 (2) rfl (fg10 F63) (fg0 F63) hv14 (by omega) k67 Try.underlying94 (by kernel_rfl) rfl) ?_
 refine W_r rfl rfl (VR_ldR (ys := limC ((Value.string ⟨#[110, 117, 114, 115, 101, 114, 121]⟩), Value.int .i64 4, Value.int .i64 64, Value.func (.func 95) #[] #[])) rfl (et rfl) (SlN.row limC_len (ow_at (S55.chq 1 rfl hc_6)) hv14 (show limL[2]? = some ((Value.string ⟨#[110, 117, 114, 115, 101, 114, 121]⟩), Value.int .i64 4, Value.int .i64 64, Value.func (.func 95) #[] #[]) from rfl) rfl) Try.underlying98 rfl (by kernel_rfl)) ?_
 refine W_allocS (z := .agg #[.string ByteArray.empty, .int .i64 0, .int .i64 0, .nilFunc]) (zs := #[.string ByteArray.empty, .int .i64 0, .int .i64 0, .nilFunc]) S55 rfl rfl rfl (by kernel_rfl) (by rfl) (fun g68 w68 c68 hc68 S68 => ?_)
 replace S68 : St w NoX [c68, c42, c_6, c2] w68 := S68
 refine W_stAS 0 S68 rfl hc68 rfl rfl rfl (et rfl) (es rfl (et rfl)) (by first | (rw [List.all_toArray] <;> rfl) | (simp only [List.all_toArray, List.all_cons, List.all_nil] <;> rfl)) (by rfl) (by kernel_rfl) (fun w69 c69 hc69 S69 => ?_)
 replace S69 : St w NoX [c69, c42, c_6, c2] w69 := S69
 refine W_end (gen_Q fun A70 E70 => ?_)
 have Y70 := szq E70
 have F70 := fsE E70 (ck (cq2 (fx8 F63) rfl) rfl rfl)
 clear E70 Y63 F63
 refine tk H66 ?_
 refine wp_seq_k fun K71 H71 => ?_
 refine region_in ?_
 refine W_v rfl rfl (V_fa (off' := 3) rfl (fg0 F70) Try.underlying98 rfl (by decide +kernel) rfl) ?_
 refine W_r rfl rfl (VR_ldC rfl (et rfl) (cell_box (v := .func (.func 95) #[] #[]) (S69.obj 0 rfl hc69) rfl) Try.underlying96 rfl) ?_
 refine W_callV rfl rfl rfl (et rfl) Try.func95 (by kernel_rfl) rfl (args1 (es2 rfl (fg11 F70))) (klim3_c (g := g2)  ) ?_
 rintro _ w72 ⟨rfl, hP72⟩
 refine ⟨_, rfl, ?_⟩
 have S72 := S69.join hP72
 replace S72 : St w NoX [c69, c42, c_6, c2] w72 := S72
 refine W_v rfl rfl (V_nil rfl (et rfl)) ?_
 refine W_r rfl rfl (VR_ldC rfl (et rfl) (cell_box (v := .int .i64 (Z)) (S72.obj 3 rfl hc2) rfl) Try.underlying3 rfl) ?_
 refine W_v rfl rfl (V_asg rfl (et rfl)) ?_
 refine W_end (gen_Q fun A73 E73 => ?_)
 have Y73 := szq E73
 have F73 := fsE E73 (ck (cq5 (fx8 F70) rfl) rfl rfl)
 clear E73 Y70 F70
 refine tk H71 ?_
 refine wp_seq_k fun K74 H74 => ?_
 refine region_in ?_
 refine W_v rfl rfl (V_mov rfl (fg0 F73)) ?_
 refine W_v rfl rfl (V_fa (off' := 1) rfl (es rfl (fg1 F73)) Try.underlying98 rfl (by decide +kernel) rfl) ?_
 refine W_r rfl rfl (VR_ldC rfl (et rfl) (cell_box (v := .int .i64 4) (S72.obj 0 rfl hc69) rfl) Try.underlying3 rfl) ?_
 refine W_v rfl rfl (V_lss rfl (es2 rfl (et rfl)) (et rfl)) ?_
 refine W_split rfl rfl (V_mov rfl (et rfl)) (fun c75 => ?_) (fun c75 => ?_)
 ·refine W_off rfl (wanted_f rfl rfl (et rfl) (ez rfl) rfl) ?_
  refine W_off rfl (wanted_f rfl rfl (es rfl (et rfl)) (ez rfl) rfl) ?_
  refine W_off rfl (wanted_f rfl rfl (es2 rfl (et rfl)) (ez rfl) rfl) ?_
  refine W_off rfl (wanted_f rfl rfl (es3 rfl (et rfl)) (ez rfl) rfl) ?_
  refine W_v rfl rfl (V_pickT rfl (es4 rfl (et rfl)) rfl) ?_
  refine W_end (gen_Q fun A76 E76 => ?_)
  have Y76 := szq E76
  have F76 := fsE E76 (ck (ck (ck (ck (ck (cq5 (fx4 (fx4 (fx4 (fx4 (fx4 F73))))) rfl) rfl rfl) rfl rfl) rfl rfl) rfl rfl) rfl rfl)
  clear E76 Y73 F73
  have S77 : St w NoX [c_6, c2] w72 := S72.sel [2, 3] (by decide) rfl
  refine tk H74 ?_
  refine cond_t (fg0 F76) ?_
  refine wp_seq_k fun K78 H78 => ?_
  refine region_in ?_
  refine W_v rfl rfl (V_asg rfl rfl) ?_
  refine W_end (gen_Q fun A79 E79 => ?_)
  have Y79 := szq E79
  have F79 := fsE E79 (ck F76 rfl rfl)
  clear E79 Y76 F76
  have S80 : St w NoX [] w72 := S77.sel [] (by decide) rfl
  refine tk H78 ?_
  refine wp_ret ?_
  refine inb_ret ?_
  refine then_ret ?_
  refine then_ret ?_
  refine inb_ret ?_
  refine then_ret ?_
  refine ret_in (results_1 Try.results40 (rv_tmp (fg0 F79))) F79.d ?_
  have he : (cfE C N Z K Q) = 7 := cf_bad (by omega)
  rw [he]
  exact ⟨rfl, S80.fin0⟩
 refine W_v rfl (wanted_t rfl rfl (et rfl) (ez rfl)) (V_mov rfl (es5 rfl (fg0 F73))) ?_
 refine W_v rfl (wanted_t rfl rfl (es rfl (et rfl)) (ez rfl)) (V_fa (off' := 2) rfl (es6 rfl (fg1 F73)) Try.underlying98 rfl (by decide +kernel) rfl) ?_
 refine W_r rfl (wanted_t rfl rfl (es2 rfl (et rfl)) (ez rfl)) (VR_ldC rfl (et rfl) (cell_box (v := .int .i64 64) (S72.obj 0 rfl hc69) rfl) Try.underlying3 rfl) ?_
 refine W_v rfl (wanted_t rfl rfl (es3 rfl (et rfl)) (ez rfl)) (V_gtr rfl (es2 rfl (et rfl)) (et rfl)) ?_
 refine W_v rfl rfl (V_pickF rfl (es4 rfl (et rfl)) (et rfl)) ?_
 refine W_end (gen_Q fun A81 E81 => ?_)
 have Y81 := szq E81
 have F81 := fsE E81 (ck (ck (ck (ck (ck (cq5 (fx4 (fx4 (fx4 (fx4 (fx4 F73))))) rfl) rfl rfl) rfl rfl) rfl rfl) rfl rfl) rfl rfl)
 clear E81 Y73 F73
 have S82 : St w NoX [c69, c_6, c2] w72 := S72.sel [0, 2, 3] (by decide) rfl
 refine tk H74 ?_
 refine cond_dec (fg0 F81) (fun c83 => ?_) (fun c83 => ?_)
 ·refine wp_seq_k fun K84 H84 => ?_
  refine region_in ?_
  refine W_v rfl rfl (V_asg rfl rfl) ?_
  refine W_end (gen_Q fun A85 E85 => ?_)
  have Y85 := szq E85
  have F85 := fsE E85 (ck F81 rfl rfl)
  clear E85 Y81 F81
  have S86 : St w NoX [] w72 := S82.sel [] (by decide) rfl
  refine tk H84 ?_
  refine wp_ret ?_
  refine inb_ret ?_
  refine then_ret ?_
  refine then_ret ?_
  refine inb_ret ?_
  refine then_ret ?_
  refine ret_in (results_1 Try.results40 (rv_tmp (fg0 F85))) F85.d ?_
  have he : (cfE C N Z K Q) = 7 := cf_bad (by omega)
  rw [he]
  exact ⟨rfl, S86.fin0⟩
 refine wp_skip ?_
 refine inb_n ?_
 refine tk H65 ?_
 refine region_in ?_
 refine W_v rfl rfl (V_add rfl (fg7 F81) rfl (by omega) (by omega)) ?_
 refine W_v rfl rfl (V_mov rfl (et rfl)) ?_
 refine W_end (gen_Q fun A87 E87 => ?_)
 have Y87 := szq E87
 have F87 := fsE E87 (ck (cq1 (fx7 F81) rfl) rfl rfl)
 clear E87 Y81 F81
 refine then_n ?_
 refine LW_step ?_
 have l8_88 : EV A87 (.tmp 8) = .int .i64 (3 : Int) := (fg0 F87)
 refine wp_seq_k fun K89 H89 => ?_
 refine region_in ?_
 refine W_v rfl rfl (V_lss rfl l8_88 (fg9 F87)) ?_
 refine W_end (gen_Q fun A90 E90 => ?_)
 have Y90 := szq E90
 have F90 := (fsE E90 (ck (fx7 (fx0 F87)) rfl rfl)).c (lookE E90 8 (es rfl l8_88))
 clear E90 Y87 F87 l8_88
 refine tk H89 ?_
 refine wp_seq_k fun K91 H91 => ?_
 refine cond_sure (fg1 F90) (by decide +kernel) ?_
 refine wp_skip ?_
 refine tk H91 ?_
 refine wp_seq_k fun K92 H92 => ?_
 refine wp_block ?_
 refine wp_seq_k fun K93 H93 => ?_
 refine region_in ?_
 have k94 : 3 < limL.length := by first | (simp; done) | decide +kernel
 refine W_v rfl rfl (V_ixS (off := O14 + 3 * 4) 4 (3) rfl (fg10 F90) (fg0 F90) hv14 (by omega) k94 Try.underlying94 (by kernel_rfl) rfl) ?_
 refine W_r rfl rfl (VR_ldR (ys := limC ((Value.string ⟨#[114, 101, 103, 105, 115, 116, 101, 114, 115]⟩), Value.int .i64 1, Value.int .i64 8, Value.func (.func 96) #[] #[])) rfl (et rfl) (SlN.row limC_len (ow_at (S82.chq 1 rfl hc_6)) hv14 (show limL[3]? = some ((Value.string ⟨#[114, 101, 103, 105, 115, 116, 101, 114, 115]⟩), Value.int .i64 1, Value.int .i64 8, Value.func (.func 96) #[] #[]) from rfl) rfl) Try.underlying98 rfl (by kernel_rfl)) ?_
 refine W_allocS (z := .agg #[.string ByteArray.empty, .int .i64 0, .int .i64 0, .nilFunc]) (zs := #[.string ByteArray.empty, .int .i64 0, .int .i64 0, .nilFunc]) S82 rfl rfl rfl (by kernel_rfl) (by rfl) (fun g95 w95 c95 hc95 S95 => ?_)
 replace S95 : St w NoX [c95, c69, c_6, c2] w95 := S95
 refine W_stAS 0 S95 rfl hc95 rfl rfl rfl (et rfl) (es rfl (et rfl)) (by first | (rw [List.all_toArray] <;> rfl) | (simp only [List.all_toArray, List.all_cons, List.all_nil] <;> rfl)) (by rfl) (by kernel_rfl) (fun w96 c96 hc96 S96 => ?_)
 replace S96 : St w NoX [c96, c69, c_6, c2] w96 := S96
 refine W_end (gen_Q fun A97 E97 => ?_)
 have Y97 := szq E97
 have F97 := fsE E97 (ck (cq2 (fx8 F90) rfl) rfl rfl)
 clear E97 Y90 F90
 refine tk H93 ?_
 refine wp_seq_k fun K98 H98 => ?_
 refine region_in ?_
 refine W_v rfl rfl (V_fa (off' := 3) rfl (fg0 F97) Try.underlying98 rfl (by decide +kernel) rfl) ?_
 refine W_r rfl rfl (VR_ldC rfl (et rfl) (cell_box (v := .func (.func 96) #[] #[]) (S96.obj 0 rfl hc96) rfl) Try.underlying96 rfl) ?_
 refine W_callV rfl rfl rfl (et rfl) Try.func96 (by kernel_rfl) rfl (args1 (es2 rfl (fg11 F97))) (klim4_c (g := g2)  ) ?_
 rintro _ w99 ⟨rfl, hP99⟩
 refine ⟨_, rfl, ?_⟩
 have S99 := S96.join hP99
 replace S99 : St w NoX [c96, c69, c_6, c2] w99 := S99
 refine W_v rfl rfl (V_nil rfl (et rfl)) ?_
 refine W_r rfl rfl (VR_ldC rfl (et rfl) (cell_box (v := .int .i64 (K)) (S99.obj 3 rfl hc2) rfl) Try.underlying3 rfl) ?_
 refine W_v rfl rfl (V_asg rfl (et rfl)) ?_
 refine W_end (gen_Q fun A100 E100 => ?_)
 have Y100 := szq E100
 have F100 := fsE E100 (ck (cq5 (fx8 F97) rfl) rfl rfl)
 clear E100 Y97 F97
 refine tk H98 ?_
 refine wp_seq_k fun K101 H101 => ?_
 refine region_in ?_
 refine W_v rfl rfl (V_mov rfl (fg0 F100)) ?_
 refine W_v rfl rfl (V_fa (off' := 1) rfl (es rfl (fg1 F100)) Try.underlying98 rfl (by decide +kernel) rfl) ?_
 refine W_r rfl rfl (VR_ldC rfl (et rfl) (cell_box (v := .int .i64 1) (S99.obj 0 rfl hc96) rfl) Try.underlying3 rfl) ?_
 refine W_v rfl rfl (V_lss rfl (es2 rfl (et rfl)) (et rfl)) ?_
 refine W_split rfl rfl (V_mov rfl (et rfl)) (fun c102 => ?_) (fun c102 => ?_)
 ·refine W_off rfl (wanted_f rfl rfl (et rfl) (ez rfl) rfl) ?_
  refine W_off rfl (wanted_f rfl rfl (es rfl (et rfl)) (ez rfl) rfl) ?_
  refine W_off rfl (wanted_f rfl rfl (es2 rfl (et rfl)) (ez rfl) rfl) ?_
  refine W_off rfl (wanted_f rfl rfl (es3 rfl (et rfl)) (ez rfl) rfl) ?_
  refine W_v rfl rfl (V_pickT rfl (es4 rfl (et rfl)) rfl) ?_
  refine W_end (gen_Q fun A103 E103 => ?_)
  have Y103 := szq E103
  have F103 := fsE E103 (ck (ck (ck (ck (ck (cq5 (fx4 (fx4 (fx4 (fx4 (fx4 F100))))) rfl) rfl rfl) rfl rfl) rfl rfl) rfl rfl) rfl rfl)
  clear E103 Y100 F100
  have S104 : St w NoX [c_6, c2] w99 := S99.sel [2, 3] (by decide) rfl
  refine tk H101 ?_
  refine cond_t (fg0 F103) ?_
  refine wp_seq_k fun K105 H105 => ?_
  refine region_in ?_
  refine W_v rfl rfl (V_asg rfl rfl) ?_
  refine W_end (gen_Q fun A106 E106 => ?_)
  have Y106 := szq E106
  have F106 := fsE E106 (ck F103 rfl rfl)
  clear E106 Y103 F103
  have S107 : St w NoX [] w99 := S104.sel [] (by decide) rfl
  refine tk H105 ?_
  refine wp_ret ?_
  refine inb_ret ?_
  refine then_ret ?_
  refine then_ret ?_
  refine inb_ret ?_
  refine then_ret ?_
  refine ret_in (results_1 Try.results40 (rv_tmp (fg0 F106))) F106.d ?_
  have he : (cfE C N Z K Q) = 7 := cf_bad (by omega)
  rw [he]
  exact ⟨rfl, S107.fin0⟩
 refine W_v rfl (wanted_t rfl rfl (et rfl) (ez rfl)) (V_mov rfl (es5 rfl (fg0 F100))) ?_
 refine W_v rfl (wanted_t rfl rfl (es rfl (et rfl)) (ez rfl)) (V_fa (off' := 2) rfl (es6 rfl (fg1 F100)) Try.underlying98 rfl (by decide +kernel) rfl) ?_
 refine W_r rfl (wanted_t rfl rfl (es2 rfl (et rfl)) (ez rfl)) (VR_ldC rfl (et rfl) (cell_box (v := .int .i64 8) (S99.obj 0 rfl hc96) rfl) Try.underlying3 rfl) ?_
 refine W_v rfl (wanted_t rfl rfl (es3 rfl (et rfl)) (ez rfl)) (V_gtr rfl (es2 rfl (et rfl)) (et rfl)) ?_
 refine W_v rfl rfl (V_pickF rfl (es4 rfl (et rfl)) (et rfl)) ?_
 refine W_end (gen_Q fun A108 E108 => ?_)
 have Y108 := szq E108
 have F108 := fsE E108 (ck (ck (ck (ck (ck (cq5 (fx4 (fx4 (fx4 (fx4 (fx4 F100))))) rfl) rfl rfl) rfl rfl) rfl rfl) rfl rfl) rfl rfl)
 clear E108 Y100 F100
 have S109 : St w NoX [c96, c_6, c2] w99 := S99.sel [0, 2, 3] (by decide) rfl
 refine tk H101 ?_
 refine cond_dec (fg0 F108) (fun c110 => ?_) (fun c110 => ?_)
 ·refine wp_seq_k fun K111 H111 => ?_
  refine region_in ?_
  refine W_v rfl rfl (V_asg rfl rfl) ?_
  refine W_end (gen_Q fun A112 E112 => ?_)
  have Y112 := szq E112
  have F112 := fsE E112 (ck F108 rfl rfl)
  clear E112 Y108 F108
  have S113 : St w NoX [] w99 := S109.sel [] (by decide) rfl
  refine tk H111 ?_
  refine wp_ret ?_
  refine inb_ret ?_
  refine then_ret ?_
  refine then_ret ?_
  refine inb_ret ?_
  refine then_ret ?_
  refine ret_in (results_1 Try.results40 (rv_tmp (fg0 F112))) F112.d ?_
  have he : (cfE C N Z K Q) = 7 := cf_bad (by omega)
  rw [he]
  exact ⟨rfl, S113.fin0⟩
 refine wp_skip ?_
 refine inb_n ?_
 refine tk H92 ?_
 refine region_in ?_
 refine W_v rfl rfl (V_add rfl (fg7 F108) rfl (by omega) (by omega)) ?_
 refine W_v rfl rfl (V_mov rfl (et rfl)) ?_
 refine W_end (gen_Q fun A114 E114 => ?_)
 have Y114 := szq E114
 have F114 := fsE E114 (ck (cq1 (fx7 F108) rfl) rfl rfl)
 clear E114 Y108 F108
 refine then_n ?_
 refine LW_step ?_
 have l8_115 : EV A114 (.tmp 8) = .int .i64 (4 : Int) := (fg0 F114)
 refine wp_seq_k fun K116 H116 => ?_
 refine region_in ?_
 refine W_v rfl rfl (V_lss rfl l8_115 (fg9 F114)) ?_
 refine W_end (gen_Q fun A117 E117 => ?_)
 have Y117 := szq E117
 have F117 := (fsE E117 (ck (fx7 (fx0 F114)) rfl rfl)).c (lookE E117 8 (es rfl l8_115))
 clear E117 Y114 F114 l8_115
 refine tk H116 ?_
 refine wp_seq_k fun K118 H118 => ?_
 refine cond_sure (fg1 F117) (by decide +kernel) ?_
 refine wp_skip ?_
 refine tk H118 ?_
 refine wp_seq_k fun K119 H119 => ?_
 refine wp_block ?_
 refine wp_seq_k fun K120 H120 => ?_
 refine region_in ?_
 have k121 : 4 < limL.length := by first | (simp; done) | decide +kernel
 refine W_v rfl rfl (V_ixS (off := O14 + 4 * 4) 4 (4) rfl (fg10 F117) (fg0 F117) hv14 (by omega) k121 Try.underlying94 (by kernel_rfl) rfl) ?_
 refine W_r rfl rfl (VR_ldR (ys := limC ((Value.string ⟨#[112, 111, 112, 117, 108, 97, 114]⟩), Value.int .i64 2, Value.int .i64 16, Value.func (.func 97) #[] #[])) rfl (et rfl) (SlN.row limC_len (ow_at (S109.chq 1 rfl hc_6)) hv14 (show limL[4]? = some ((Value.string ⟨#[112, 111, 112, 117, 108, 97, 114]⟩), Value.int .i64 2, Value.int .i64 16, Value.func (.func 97) #[] #[]) from rfl) rfl) Try.underlying98 rfl (by kernel_rfl)) ?_
 refine W_allocS (z := .agg #[.string ByteArray.empty, .int .i64 0, .int .i64 0, .nilFunc]) (zs := #[.string ByteArray.empty, .int .i64 0, .int .i64 0, .nilFunc]) S109 rfl rfl rfl (by kernel_rfl) (by rfl) (fun g122 w122 c122 hc122 S122 => ?_)
 replace S122 : St w NoX [c122, c96, c_6, c2] w122 := S122
 refine W_stAS 0 S122 rfl hc122 rfl rfl rfl (et rfl) (es rfl (et rfl)) (by first | (rw [List.all_toArray] <;> rfl) | (simp only [List.all_toArray, List.all_cons, List.all_nil] <;> rfl)) (by rfl) (by kernel_rfl) (fun w123 c123 hc123 S123 => ?_)
 replace S123 : St w NoX [c123, c96, c_6, c2] w123 := S123
 refine W_end (gen_Q fun A124 E124 => ?_)
 have Y124 := szq E124
 have F124 := fsE E124 (ck (cq2 (fx8 F117) rfl) rfl rfl)
 clear E124 Y117 F117
 refine tk H120 ?_
 refine wp_seq_k fun K125 H125 => ?_
 refine region_in ?_
 refine W_v rfl rfl (V_fa (off' := 3) rfl (fg0 F124) Try.underlying98 rfl (by decide +kernel) rfl) ?_
 refine W_r rfl rfl (VR_ldC rfl (et rfl) (cell_box (v := .func (.func 97) #[] #[]) (S123.obj 0 rfl hc123) rfl) Try.underlying96 rfl) ?_
 refine W_callV rfl rfl rfl (et rfl) Try.func97 (by kernel_rfl) rfl (args1 (es2 rfl (fg11 F124))) (klim5_c (g := g2)  ) ?_
 rintro _ w126 ⟨rfl, hP126⟩
 refine ⟨_, rfl, ?_⟩
 have S126 := S123.join hP126
 replace S126 : St w NoX [c123, c96, c_6, c2] w126 := S126
 refine W_v rfl rfl (V_nil rfl (et rfl)) ?_
 refine W_r rfl rfl (VR_ldC rfl (et rfl) (cell_box (v := .int .i64 (Q)) (S126.obj 3 rfl hc2) rfl) Try.underlying3 rfl) ?_
 refine W_v rfl rfl (V_asg rfl (et rfl)) ?_
 refine W_end (gen_Q fun A127 E127 => ?_)
 have Y127 := szq E127
 have F127 := fsE E127 (ck (cq5 (fx8 F124) rfl) rfl rfl)
 clear E127 Y124 F124
 refine tk H125 ?_
 refine wp_seq_k fun K128 H128 => ?_
 refine region_in ?_
 refine W_v rfl rfl (V_mov rfl (fg0 F127)) ?_
 refine W_v rfl rfl (V_fa (off' := 1) rfl (es rfl (fg1 F127)) Try.underlying98 rfl (by decide +kernel) rfl) ?_
 refine W_r rfl rfl (VR_ldC rfl (et rfl) (cell_box (v := .int .i64 2) (S126.obj 0 rfl hc123) rfl) Try.underlying3 rfl) ?_
 refine W_v rfl rfl (V_lss rfl (es2 rfl (et rfl)) (et rfl)) ?_
 refine W_split rfl rfl (V_mov rfl (et rfl)) (fun c129 => ?_) (fun c129 => ?_)
 ·refine W_off rfl (wanted_f rfl rfl (et rfl) (ez rfl) rfl) ?_
  refine W_off rfl (wanted_f rfl rfl (es rfl (et rfl)) (ez rfl) rfl) ?_
  refine W_off rfl (wanted_f rfl rfl (es2 rfl (et rfl)) (ez rfl) rfl) ?_
  refine W_off rfl (wanted_f rfl rfl (es3 rfl (et rfl)) (ez rfl) rfl) ?_
  refine W_v rfl rfl (V_pickT rfl (es4 rfl (et rfl)) rfl) ?_
  refine W_end (gen_Q fun A130 E130 => ?_)
  have Y130 := szq E130
  have F130 := fsE E130 (ck (ck (ck (ck (ck (cq5 (fx4 (fx4 (fx4 (fx4 (fx4 F127))))) rfl) rfl rfl) rfl rfl) rfl rfl) rfl rfl) rfl rfl)
  clear E130 Y127 F127
  have S131 : St w NoX [c_6, c2] w126 := S126.sel [2, 3] (by decide) rfl
  refine tk H128 ?_
  refine cond_t (fg0 F130) ?_
  refine wp_seq_k fun K132 H132 => ?_
  refine region_in ?_
  refine W_v rfl rfl (V_asg rfl rfl) ?_
  refine W_end (gen_Q fun A133 E133 => ?_)
  have Y133 := szq E133
  have F133 := fsE E133 (ck F130 rfl rfl)
  clear E133 Y130 F130
  have S134 : St w NoX [] w126 := S131.sel [] (by decide) rfl
  refine tk H132 ?_
  refine wp_ret ?_
  refine inb_ret ?_
  refine then_ret ?_
  refine then_ret ?_
  refine inb_ret ?_
  refine then_ret ?_
  refine ret_in (results_1 Try.results40 (rv_tmp (fg0 F133))) F133.d ?_
  have he : (cfE C N Z K Q) = 7 := cf_bad (by omega)
  rw [he]
  exact ⟨rfl, S134.fin0⟩
 refine W_v rfl (wanted_t rfl rfl (et rfl) (ez rfl)) (V_mov rfl (es5 rfl (fg0 F127))) ?_
 refine W_v rfl (wanted_t rfl rfl (es rfl (et rfl)) (ez rfl)) (V_fa (off' := 2) rfl (es6 rfl (fg1 F127)) Try.underlying98 rfl (by decide +kernel) rfl) ?_
 refine W_r rfl (wanted_t rfl rfl (es2 rfl (et rfl)) (ez rfl)) (VR_ldC rfl (et rfl) (cell_box (v := .int .i64 16) (S126.obj 0 rfl hc123) rfl) Try.underlying3 rfl) ?_
 refine W_v rfl (wanted_t rfl rfl (es3 rfl (et rfl)) (ez rfl)) (V_gtr rfl (es2 rfl (et rfl)) (et rfl)) ?_
 refine W_v rfl rfl (V_pickF rfl (es4 rfl (et rfl)) (et rfl)) ?_
 refine W_end (gen_Q fun A135 E135 => ?_)
 have Y135 := szq E135
 have F135 := fsE E135 (ck (ck (ck (ck (ck (cq5 (fx4 (fx4 (fx4 (fx4 (fx4 F127))))) rfl) rfl rfl) rfl rfl) rfl rfl) rfl rfl) rfl rfl)
 clear E135 Y127 F127
 have S136 : St w NoX [c123, c_6, c2] w126 := S126.sel [0, 2, 3] (by decide) rfl
 refine tk H128 ?_
 refine cond_dec (fg0 F135) (fun c137 => ?_) (fun c137 => ?_)
 ·refine wp_seq_k fun K138 H138 => ?_
  refine region_in ?_
  refine W_v rfl rfl (V_asg rfl rfl) ?_
  refine W_end (gen_Q fun A139 E139 => ?_)
  have Y139 := szq E139
  have F139 := fsE E139 (ck F135 rfl rfl)
  clear E139 Y135 F135
  have S140 : St w NoX [] w126 := S136.sel [] (by decide) rfl
  refine tk H138 ?_
  refine wp_ret ?_
  refine inb_ret ?_
  refine then_ret ?_
  refine then_ret ?_
  refine inb_ret ?_
  refine then_ret ?_
  refine ret_in (results_1 Try.results40 (rv_tmp (fg0 F139))) F139.d ?_
  have he : (cfE C N Z K Q) = 7 := cf_bad (by omega)
  rw [he]
  exact ⟨rfl, S140.fin0⟩
 refine wp_skip ?_
 refine inb_n ?_
 refine tk H119 ?_
 refine region_in ?_
 refine W_v rfl rfl (V_add rfl (fg7 F135) rfl (by omega) (by omega)) ?_
 refine W_v rfl rfl (V_mov rfl (et rfl)) ?_
 refine W_end (gen_Q fun A141 E141 => ?_)
 have Y141 := szq E141
 have F141 := fsE E141 (ck (cq1 (fx7 F135) rfl) rfl rfl)
 clear E141 Y135 F135
 refine then_n ?_
 refine LW_step ?_
 have l8_142 : EV A141 (.tmp 8) = .int .i64 (5 : Int) := (fg0 F141)
 refine wp_seq_k fun K143 H143 => ?_
 refine region_in ?_
 refine W_v rfl rfl (V_lss rfl l8_142 (fg9 F141)) ?_
 refine W_end (gen_Q fun A144 E144 => ?_)
 have Y144 := szq E144
 have F144 := (fsE E144 (ck (fx7 (fx0 F141)) rfl rfl)).c (lookE E144 8 (es rfl l8_142))
 clear E144 Y141 F141 l8_142
 refine tk H143 ?_
 refine wp_seq_k fun K145 H145 => ?_
 refine cond_not (fg1 F144) (by decide +kernel) ?_
 refine wp_exit ?_
 refine then_exit ?_
 refine then_exit ?_
 refine inb_hit ?_
 refine tk H4 ?_
 refine wp_seq_k fun K146 H146 => ?_
 refine region_in ?_
 refine W_v rfl rfl (V_asg rfl rfl) ?_
 refine W_end (gen_Q fun A147 E147 => ?_)
 have Y147 := szq E147
 have F147 := fsE E147 (ck F144 rfl rfl)
 clear E147 Y144 F144
 have S148 : St w NoX [] w126 := S136.sel [] (by decide) rfl
 refine tk H146 ?_
 refine wp_ret ?_
 refine ret_in (results_1 Try.results40 (rv_tmp (fg0 F147))) F147.d ?_
 have he : (cfE C N Z K Q) = 0 := cf_ok (by omega)
 rw [he]
 exact ⟨rfl, S148.fin0⟩

set_option maxHeartbeats 4000000 in
theorem kwd1_c {C : Int} {N : Int} {Z : Int} {K : Int} {Q : Int} {gc : Nat} {w : World} (hb_gc : Ro w NoX (bx gc 23 #[.int .i64 C, .int .i64 N, .int .i64 Z, .int .i64 K, .int .i64 Q])) (hc : (cfE C N Z K Q) = 0) :
  Calls Try.prog 118 #[.pointer (some ⟨gc, 0, none⟩)] w fun e w' => e = .returned (.int .i64 (1 + Z + N * C)) ∧ St w NoX [] w' := by
 have hr := cf_rng (show cfE C N Z K Q = 0 by omega)
 have hm := mul_rng hr.2.1 hr.1
 refine calls_in 11 Try.func118 rfl rfl (by simp) (fun A0 Y0 hdf0 hargs => ?_)
 have l0_0 := hargs 0 (.pointer (some ⟨gc, 0, none⟩)) rfl
 clear hargs; replace Y0 : SzN A0 11 := ⟨Y0⟩
 have hS := St.nil w
 refine wp_seq_k fun K1 H1 => ?_
 refine region_in ?_
 refine W_v rfl rfl (V_asg rfl rfl) ?_
 refine W_end (gen_Q fun A2 E2 => ?_)
 have Y2 := szq E2
 have F2 := (fsE E2 (cq1 (FS.n hdf0) rfl)).c (lookE E2 0 (es rfl l0_0))
 clear E2 Y0 hdf0 l0_0
 refine tk H1 ?_
 refine wp_seq_k fun K3 H3 => ?_
 refine region_in ?_
 refine W_v rfl rfl (V_fa (off' := 2) rfl (fg0 F2) Try.underlying23 rfl (by decide +kernel) rfl) ?_
 refine W_r rfl rfl (VR_ldC rfl (et rfl) (cell_box (v := .int .i64 (Z)) (ob_at (hS.ro hb_gc)) rfl) Try.underlying3 rfl) ?_
 refine W_v rfl rfl (V_add rfl rfl (et rfl) (by omega) (by omega)) ?_
 refine W_v rfl rfl (V_fa (off' := 1) rfl (es3 rfl (fg0 F2)) Try.underlying23 rfl (by decide +kernel) rfl) ?_
 refine W_r rfl rfl (VR_ldC rfl (et rfl) (cell_box (v := .int .i64 (N)) (ob_at (hS.ro hb_gc)) rfl) Try.underlying3 rfl) ?_
 refine W_v rfl rfl (V_fa (off' := 0) rfl (es5 rfl (fg0 F2)) Try.underlying23 rfl (by decide +kernel) rfl) ?_
 refine W_r rfl rfl (VR_ldC rfl (et rfl) (cell_box (v := .int .i64 (C)) (ob_at (hS.ro hb_gc)) rfl) Try.underlying3 rfl) ?_
 refine W_v rfl rfl (V_mul rfl (es2 rfl (et rfl)) (et rfl) (by omega) (by omega)) ?_
 refine W_v rfl rfl (V_add rfl (es5 rfl (et rfl)) (et rfl) (by omega) (by omega)) ?_
 refine W_v rfl rfl (V_asg rfl (et rfl)) ?_
 refine W_end (gen_Q fun A4 E4 => ?_)
 have Y4 := szq E4
 have F4 := fsE E4 (ck (cq1 (cq8 F2 rfl) rfl) rfl rfl)
 clear E4 Y2 F2
 refine tk H3 ?_
 refine wp_ret ?_
 refine ret_in (results_1 Try.results118 (rv_tmp (fg0 F4))) F4.d ?_
 exact ⟨rfl, hS.fin0⟩

set_option maxHeartbeats 4000000 in
theorem kof8_c {C : Int} {N : Int} {Z : Int} {K : Int} {Q : Int} {gc : Nat} {w : World} (hb_gc : Ro w NoX (bx gc 23 #[.int .i64 C, .int .i64 N, .int .i64 Z, .int .i64 K, .int .i64 Q]))  :
  Calls Try.prog 117 #[.agg #[.int .i64 C, .int .i64 N, .int .i64 Z, .int .i64 K, .int .i64 Q], .func (.func 118) #[] #[.pointer (some ⟨gc, 0, none⟩)]] w fun e w' => e = .returned (.tuple #[.int .i64 (wdN C N Z K Q), .int .i64 (cfE C N Z K Q)]) ∧ St w NoX [] w' := by
 refine calls_in 14 Try.func117 rfl rfl (by simp) (fun A0 Y0 hdf0 hargs => ?_)
 have l0_0 := hargs 0 (.agg #[.int .i64 C, .int .i64 N, .int .i64 Z, .int .i64 K, .int .i64 Q]) rfl
 have l1_0 := hargs 1 (.func (.func 118) #[] #[.pointer (some ⟨gc, 0, none⟩)]) rfl
 clear hargs; replace Y0 : SzN A0 14 := ⟨Y0⟩
 have hS := St.nil w
 refine wp_seq_k fun K1 H1 => ?_
 refine region_in ?_
 refine W_boxS (zs := #[.int .i64 (C), .int .i64 (N), .int .i64 (Z), .int .i64 (K), .int .i64 (Q)]) hS rfl rfl rfl l0_0 (by rfl) (fun g2 w2 c2 hc2 S2 => ?_)
 replace S2 : St w NoX [c2] w2 := S2
 refine W_v rfl rfl (V_asg rfl rfl) ?_
 refine W_v rfl rfl (V_asg rfl rfl) ?_
 refine W_end (gen_Q fun A3 E3 => ?_)
 have Y3 := szq E3
 have F3 := (fsE E3 (cq2 (ck (FS.n hdf0) rfl rfl) rfl)).c (lookE E3 1 (es3 rfl l1_0))
 clear E3 Y0 hdf0 l0_0 l1_0
 refine tk H1 ?_
 refine wp_seq_k fun K4 H4 => ?_
 refine wp_seq_k fun K5 H5 => ?_
 refine region_in ?_
 refine W_r rfl rfl (VR_ldA rfl (fg1 F3) (S2.obj 0 rfl hc2) Try.underlying23 rfl (by kernel_rfl)) ?_
 refine W_call rfl rfl rfl Try.func40 (by kernel_rfl) rfl (args1 (et rfl)) (kcfg_c (C := C) (N := N) (Z := Z) (K := K) (Q := Q)  ) ?_
 rintro _ w6 ⟨rfl, hP6⟩
 refine ⟨_, rfl, ?_⟩
 have S6 := S2.join hP6
 replace S6 : St w NoX [c2] w6 := S6
 refine W_v rfl rfl (V_asg rfl (et rfl)) ?_
 refine W_end (gen_Q fun A7 E7 => ?_)
 have Y7 := szq E7
 have F7 := fsE E7 (ck (cq2 F3 rfl) rfl rfl)
 clear E7 Y3 F3
 have S8 : St w NoX [] w6 := S6.sel [] (by decide) rfl
 refine tk H5 ?_
 refine wp_seq_k fun K9 H9 => ?_
 refine region_in ?_
 refine W_v rfl rfl (V_mov rfl (fg0 F7)) ?_
 refine W_v rfl rfl (V_neq rfl (et rfl) rfl) ?_
 refine W_end (gen_Q fun A10 E10 => ?_)
 have Y10 := szq E10
 have F10 := fsE E10 (ck (cq1 F7 rfl) rfl rfl)
 clear E10 Y7 F7
 refine tk H9 ?_
 refine cond_dec (fg0 F10) (fun c11 => ?_) (fun c11 => ?_)
 ·refine wp_seq_k fun K12 H12 => ?_
  refine region_in ?_
  refine W_v rfl rfl (V_mov rfl (fg1 F10)) ?_
  refine W_v rfl rfl (V_asg rfl rfl) ?_
  refine W_v rfl rfl (V_asg rfl (es rfl (et rfl))) ?_
  refine W_end (gen_Q fun A13 E13 => ?_)
  have Y13 := szq E13
  have F13 := fsE E13 (ck (ck (cq1 F10 rfl) rfl rfl) rfl rfl)
  clear E13 Y10 F10
  refine tk H12 ?_
  refine wp_ret ?_
  refine then_ret ?_
  refine ret_in (results_2 Try.results117 (rv_tmp (fg1 F13)) (rv_tmp (fg0 F13))) F13.d ?_
  have hw := wd_bad (show cfE C N Z K Q ≠ 0 by omega)
  rw [hw]
  exact ⟨rfl, S8.fin0⟩
 refine wp_skip ?_
 refine tk H4 ?_
 refine wp_seq_k fun K14 H14 => ?_
 refine region_in ?_
 refine W_v rfl rfl (V_mov rfl (fg2 F10)) ?_
 refine W_callV rfl rfl rfl (et rfl) Try.func118 (by kernel_rfl) rfl (args0) (kwd1_c (gc := gc) (C := C) (N := N) (Z := Z) (K := K) (Q := Q) (S8.roC hb_gc) (by first | with_reducible assumption | omega)) ?_
 rintro _ w15 ⟨rfl, hP15⟩
 refine ⟨_, rfl, ?_⟩
 have S15 := S8.join hP15
 replace S15 : St w NoX [] w15 := S15
 refine W_v rfl rfl (V_asg rfl (et rfl)) ?_
 refine W_v rfl rfl (V_asg rfl rfl) ?_
 refine W_end (gen_Q fun A16 E16 => ?_)
 have Y16 := szq E16
 have F16 := fsE E16 (ck (ck (cq2 F10 rfl) rfl rfl) rfl rfl)
 clear E16 Y10 F10
 refine tk H14 ?_
 refine wp_ret ?_
 refine ret_in (results_2 Try.results117 (rv_tmp (fg1 F16)) (rv_tmp (fg0 F16))) F16.d ?_
 have hw := (wd_ok (show cfE C N Z K Q = 0 by omega)).1
 have he : cfE C N Z K Q = 0 := by omega
 rw [he, hw]
 exact ⟨rfl, S15.fin0⟩

set_option maxHeartbeats 4000000 in
theorem kwd_c {C : Int} {N : Int} {Z : Int} {K : Int} {Q : Int} {w : World}   :
  Calls Try.prog 99 #[.agg #[.int .i64 C, .int .i64 N, .int .i64 Z, .int .i64 K, .int .i64 Q]] w fun e w' => e = .returned (.tuple #[.int .i64 (wdN C N Z K Q), .int .i64 (cfE C N Z K Q)]) ∧ St w NoX [] w' := by
 refine calls_in 9 Try.func99 rfl rfl (by simp) (fun A0 Y0 hdf0 hargs => ?_)
 have l0_0 := hargs 0 (.agg #[.int .i64 C, .int .i64 N, .int .i64 Z, .int .i64 K, .int .i64 Q]) rfl
 clear hargs; replace Y0 : SzN A0 9 := ⟨Y0⟩
 have hS := St.nil w
 refine wp_seq_k fun K1 H1 => ?_
 refine region_in ?_
 refine W_boxS (zs := #[.int .i64 (C), .int .i64 (N), .int .i64 (Z), .int .i64 (K), .int .i64 (Q)]) hS rfl rfl rfl l0_0 (by rfl) (fun g2 w2 c2 hc2 S2 => ?_)
 replace S2 : St w NoX [c2] w2 := S2
 refine W_v rfl rfl (V_asg rfl rfl) ?_
 refine W_v rfl rfl (V_asg rfl rfl) ?_
 refine W_end (gen_Q fun A3 E3 => ?_)
 have Y3 := szq E3
 have F3 := fsE E3 (cq2 (ck (FS.n hdf0) rfl rfl) rfl)
 clear E3 Y0 hdf0 l0_0
 refine tk H1 ?_
 refine wp_seq_k fun K4 H4 => ?_
 refine region_in ?_
 refine W_r rfl rfl (VR_ldA rfl (fg0 F3) (S2.obj 0 rfl hc2) Try.underlying23 rfl (by kernel_rfl)) ?_
 refine W_v rfl rfl (V_mkf rfl (args0) (args1 (es rfl (fg0 F3)))) ?_
 refine W_call rfl rfl rfl Try.func117 (by kernel_rfl) rfl (args2 (es rfl (et rfl)) (et rfl)) (kof8_c (C := C) (N := N) (Z := Z) (K := K) (Q := Q) (gc := g2) (S2.chC 0 rfl hc2) ) ?_
 rintro _ w5 ⟨rfl, hP5⟩
 refine ⟨_, rfl, ?_⟩
 have S5 := S2.join hP5
 replace S5 : St w NoX [c2] w5 := S5
 refine W_v rfl rfl (V_ext (v := .int .i64 ((wdN C N Z K Q))) rfl (et rfl) rfl) ?_
 refine W_v rfl rfl (V_ext (v := .int .i64 ((cfE C N Z K Q))) rfl (es rfl (et rfl)) rfl) ?_
 refine W_v rfl rfl (V_asg rfl (es rfl (et rfl))) ?_
 refine W_v rfl rfl (V_asg rfl (es rfl (et rfl))) ?_
 refine W_end (gen_Q fun A6 E6 => ?_)
 have Y6 := szq E6
 have F6 := fsE E6 (ck (ck (cq5 F3 rfl) rfl rfl) rfl rfl)
 clear E6 Y3 F3
 have S7 : St w NoX [] w5 := S5.sel [] (by decide) rfl
 refine tk H4 ?_
 refine wp_ret ?_
 refine ret_in (results_2 Try.results99 (rv_tmp (fg1 F6)) (rv_tmp (fg0 F6))) F6.d ?_
 exact ⟨rfl, S7.fin0⟩

set_option maxHeartbeats 4000000 in
theorem ksp_c {C : Int} {N : Int} {Z : Int} {K : Int} {Q : Int} {i : Int} {w : World}   :
  Calls Try.prog 75 #[.agg #[.int .i64 C, .int .i64 N, .int .i64 Z, .int .i64 K, .int .i64 Q], .int .i64 i] w fun e w' => e = .returned (.tuple #[.int .i64 (spA C N Z K Q i), .int .i64 (spB C N Z K Q i), .int .i64 (spE C N Z K Q i)]) ∧ St w NoX [] w' := by
 refine calls_in 42 Try.func75 rfl rfl (by simp) (fun A0 Y0 hdf0 hargs => ?_)
 have l0_0 := hargs 0 (.agg #[.int .i64 C, .int .i64 N, .int .i64 Z, .int .i64 K, .int .i64 Q]) rfl
 have l1_0 := hargs 1 (.int .i64 i) rfl
 clear hargs; replace Y0 : SzN A0 42 := ⟨Y0⟩
 have hS := St.nil w
 refine wp_seq_k fun K1 H1 => ?_
 refine region_in ?_
 refine W_boxS (zs := #[.int .i64 (C), .int .i64 (N), .int .i64 (Z), .int .i64 (K), .int .i64 (Q)]) hS rfl rfl rfl l0_0 (by rfl) (fun g2 w2 c2 hc2 S2 => ?_)
 replace S2 : St w NoX [c2] w2 := S2
 refine W_v rfl rfl (V_asg rfl rfl) ?_
 refine W_v rfl rfl (V_asg rfl rfl) ?_
 refine W_v rfl rfl (V_asg rfl rfl) ?_
 refine W_end (gen_Q fun A3 E3 => ?_)
 have Y3 := szq E3
 have F3 := (fsE E3 (cq3 (ck (FS.n hdf0) rfl rfl) rfl)).c (lookE E3 1 (es4 rfl l1_0))
 clear E3 Y0 hdf0 l0_0 l1_0
 refine tk H1 ?_
 refine wp_seq_k fun K4 H4 => ?_
 refine wp_seq_k fun K5 H5 => ?_
 refine region_in ?_
 refine W_r rfl rfl (VR_ldA rfl (fg1 F3) (S2.obj 0 rfl hc2) Try.underlying23 rfl (by kernel_rfl)) ?_
 refine W_call rfl rfl rfl Try.func40 (by kernel_rfl) rfl (args1 (et rfl)) (kcfg_c (C := C) (N := N) (Z := Z) (K := K) (Q := Q)  ) ?_
 rintro _ w6 ⟨rfl, hP6⟩
 refine ⟨_, rfl, ?_⟩
 have S6 := S2.join hP6
 replace S6 : St w NoX [c2] w6 := S6
 refine W_v rfl rfl (V_asg rfl (et rfl)) ?_
 refine W_end (gen_Q fun A7 E7 => ?_)
 have Y7 := szq E7
 have F7 := fsE E7 (ck (cq2 F3 rfl) rfl rfl)
 clear E7 Y3 F3
 refine tk H5 ?_
 refine wp_block ?_
 refine wp_seq_k fun K8 H8 => ?_
 refine region_in ?_
 refine W_v rfl rfl (V_mov rfl (fg0 F7)) ?_
 refine W_v rfl rfl (V_neq rfl (et rfl) rfl) ?_
 refine W_v rfl rfl (V_asg rfl (et rfl)) ?_
 refine W_end (gen_Q fun A9 E9 => ?_)
 have Y9 := szq E9
 have F9 := fsE E9 (ck (cq2 F7 rfl) rfl rfl)
 clear E9 Y7 F7
 refine tk H8 ?_
 refine cond_dec (fg0 F9) (fun c10 => ?_) (fun c10 => ?_)
 ·refine wp_seq_k fun K11 H11 => ?_
  refine region_in ?_
  refine W_v rfl rfl (V_mov rfl (fg1 F9)) ?_
  refine W_v rfl rfl (V_asg rfl rfl) ?_
  refine W_v rfl rfl (V_asg rfl rfl) ?_
  refine W_v rfl rfl (V_asg rfl (es2 rfl (et rfl))) ?_
  refine W_end (gen_Q fun A12 E12 => ?_)
  have Y12 := szq E12
  have F12 := fsE E12 (ck (ck (ck (cq1 F9 rfl) rfl rfl) rfl rfl) rfl rfl)
  clear E12 Y9 F9
  have S13 : St w NoX [] w6 := S6.sel [] (by decide) rfl
  refine tk H11 ?_
  refine wp_ret ?_
  refine inb_ret ?_
  refine then_ret ?_
  refine ret_in (results_3 Try.results75 (rv_tmp (fg2 F12)) (rv_tmp (fg1 F12)) (rv_tmp (fg0 F12))) F12.d ?_
  have he : spE C N Z K Q i = (cfE C N Z K Q) := sp_e1 (by omega)
  have hb := sp_bad (C := C) (N := N) (Z := Z) (K := K) (Q := Q) (i := i) (by omega)
  rw [hb.1, hb.2, he]
  exact ⟨rfl, S13.fin0⟩
 have hr := cf_rng (show cfE C N Z K Q = 0 by omega)
 have hm := mul_rng hr.2.1 hr.1
 refine wp_seq_k fun K14 H14 => ?_
 refine region_in ?_
 refine W_v rfl rfl (V_mov rfl (fg2 F9)) ?_
 refine W_v rfl rfl (V_lss rfl (et rfl) rfl) ?_
 refine W_split rfl rfl (V_mov rfl (et rfl)) (fun c15 => ?_) (fun c15 => ?_)
 ·refine W_off rfl (wanted_f rfl rfl (et rfl) (ez rfl) rfl) ?_
  refine W_off rfl (wanted_f rfl rfl (es rfl (et rfl)) (ez rfl) rfl) ?_
  refine W_off rfl (wanted_f rfl rfl (es2 rfl (et rfl)) (ez rfl) rfl) ?_
  refine W_off rfl (wanted_f rfl rfl (es3 rfl (et rfl)) (ez rfl) rfl) ?_
  refine W_v rfl rfl (V_pickT rfl (es4 rfl (et rfl)) rfl) ?_
  refine W_v rfl rfl (V_asg rfl (et rfl)) ?_
  refine W_end (gen_Q fun A16 E16 => ?_)
  have Y16 := szq E16
  have F16 := fsE E16 (ck (cq8 F9 rfl) rfl rfl)
  clear E16 Y9 F9
  refine tk H14 ?_
  refine cond_t (fg0 F16) ?_
  refine wp_seq_k fun K17 H17 => ?_
  refine region_in ?_
  refine W_v rfl rfl (V_asg rfl rfl) ?_
  refine W_v rfl rfl (V_asg rfl rfl) ?_
  refine W_v rfl rfl (V_asg rfl rfl) ?_
  refine W_end (gen_Q fun A18 E18 => ?_)
  have Y18 := szq E18
  have F18 := fsE E18 (ck (ck (ck F16 rfl rfl) rfl rfl) rfl rfl)
  clear E18 Y16 F16
  have S19 : St w NoX [] w6 := S6.sel [] (by decide) rfl
  refine tk H17 ?_
  refine wp_ret ?_
  refine inb_ret ?_
  refine then_ret ?_
  refine ret_in (results_3 Try.results75 (rv_tmp (fg2 F18)) (rv_tmp (fg1 F18)) (rv_tmp (fg0 F18))) F18.d ?_
  have he : spE C N Z K Q i = 7 := sp_e2 (show cfE C N Z K Q = 0 by omega) (by omega)
  have hb := sp_bad (C := C) (N := N) (Z := Z) (K := K) (Q := Q) (i := i) (by omega)
  rw [hb.1, hb.2, he]
  exact ⟨rfl, S19.fin0⟩
 refine W_v rfl (wanted_t rfl rfl (et rfl) (ez rfl)) (V_mov rfl (es3 rfl (fg2 F9))) ?_
 refine W_v rfl (wanted_t rfl rfl (es rfl (et rfl)) (ez rfl)) (V_fa (off' := 1) rfl (es4 rfl (fg3 F9)) Try.underlying23 rfl (by decide +kernel) rfl) ?_
 refine W_r rfl (wanted_t rfl rfl (es2 rfl (et rfl)) (ez rfl)) (VR_ldC rfl (et rfl) (cell_box (v := .int .i64 (N)) (S6.obj 0 rfl hc2) rfl) Try.underlying3 rfl) ?_
 refine W_v rfl (wanted_t rfl rfl (es3 rfl (et rfl)) (ez rfl)) (V_geq rfl (es2 rfl (et rfl)) (et rfl)) ?_
 refine W_v rfl rfl (V_pickF rfl (es4 rfl (et rfl)) (et rfl)) ?_
 refine W_v rfl rfl (V_asg rfl (et rfl)) ?_
 refine W_end (gen_Q fun A20 E20 => ?_)
 have Y20 := szq E20
 have F20 := fsE E20 (ck (cq8 F9 rfl) rfl rfl)
 clear E20 Y9 F9
 refine tk H14 ?_
 refine cond_dec (fg0 F20) (fun c21 => ?_) (fun c21 => ?_)
 ·refine wp_seq_k fun K22 H22 => ?_
  refine region_in ?_
  refine W_v rfl rfl (V_asg rfl rfl) ?_
  refine W_v rfl rfl (V_asg rfl rfl) ?_
  refine W_v rfl rfl (V_asg rfl rfl) ?_
  refine W_end (gen_Q fun A23 E23 => ?_)
  have Y23 := szq E23
  have F23 := fsE E23 (ck (ck (ck F20 rfl rfl) rfl rfl) rfl rfl)
  clear E23 Y20 F20
  have S24 : St w NoX [] w6 := S6.sel [] (by decide) rfl
  refine tk H22 ?_
  refine wp_ret ?_
  refine inb_ret ?_
  refine then_ret ?_
  refine ret_in (results_3 Try.results75 (rv_tmp (fg2 F23)) (rv_tmp (fg1 F23)) (rv_tmp (fg0 F23))) F23.d ?_
  have he : spE C N Z K Q i = 7 := sp_e2 (show cfE C N Z K Q = 0 by omega) (by omega)
  have hb := sp_bad (C := C) (N := N) (Z := Z) (K := K) (Q := Q) (i := i) (by omega)
  rw [hb.1, hb.2, he]
  exact ⟨rfl, S24.fin0⟩
 refine wp_seq_k fun K25 H25 => ?_
 refine region_in ?_
 refine W_v rfl rfl (V_mov rfl (fg3 F20)) ?_
 refine W_v rfl rfl (V_lss rfl (et rfl) rfl) ?_
 refine W_v rfl rfl (V_asg rfl (et rfl)) ?_
 refine W_end (gen_Q fun A26 E26 => ?_)
 have Y26 := szq E26
 have F26 := fsE E26 (ck (cq2 F20 rfl) rfl rfl)
 clear E26 Y20 F20
 refine tk H25 ?_
 refine cond_dec (fg0 F26) (fun c27 => ?_) (fun c27 => ?_)
 ·refine wp_seq_k fun K28 H28 => ?_
  refine region_monoS 6 6 [] (by kernel_rfl) (by kernel_rfl) ?_
  refine D_v rfl rfl (V_fa (off' := 2) rfl (fg5 F26) Try.underlying23 rfl (by decide +kernel) rfl) rfl rfl ?_
  refine D_r rfl rfl (by kernel_rfl) (fun sx hx hF => (VR_ldC rfl (et rfl) (cell_box (v := .int .i64 (Z)) ((S6.grow hx).obj 0 rfl hc2) rfl) Try.underlying3 rfl)) rfl rfl ?_
  refine D_v rfl rfl (V_add rfl rfl (et rfl) (by omega) (by omega)) rfl rfl ?_
  refine D_v rfl rfl (V_asg rfl rfl) rfl rfl ?_
  refine D_v rfl rfl (V_asg rfl (es rfl (et rfl))) rfl rfl ?_
  refine D_v rfl rfl (V_asg rfl rfl) rfl rfl ?_
  refine ZS_none S6 (Nat.le_refl _) (Nat.le_refl _) (fun s29 hJ29 hL29 hF29 => ?_)
  have S29 := hJ29.st; clear hF29 hJ29 hL29
  generalize s29.1 = w29 at *
  replace S29 : St w NoX [c2] w29 := S29
  refine gen_Q (fun A30 E30 => ?_)
  have Y30 := szq E30
  have F30 := fsE E30 (ck (ck (ck (cq3 F26 rfl) rfl rfl) rfl rfl) rfl rfl)
  clear E30 Y26 F26
  have S31 : St w NoX [] w29 := S29.sel [] (by decide) rfl
  refine tk H28 ?_
  refine wp_ret ?_
  refine inb_ret ?_
  refine then_ret ?_
  refine ret_in (results_3 Try.results75 (rv_tmp (fg2 F30)) (rv_tmp (fg1 F30)) (rv_tmp (fg0 F30))) F30.d ?_
  have he : spE C N Z K Q i = 0 := sp_e0 (by omega) (by omega)
  have hb := sp_young he (by omega)
  rw [hb.1, hb.2, he]
  exact ⟨rfl, S31.fin0⟩
 have hmi := mul_rng0 (N := i) (C := C) ⟨by omega, by omega⟩ hr.1
 refine wp_skip ?_
 refine inb_n ?_
 refine tk H4 ?_
 refine wp_seq_k fun K32 H32 => ?_
 refine region_in ?_
 refine W_v rfl rfl (V_fa (off' := 2) rfl (fg5 F26) Try.underlying23 rfl (by decide +kernel) rfl) ?_
 refine W_r rfl rfl (VR_ldC rfl (et rfl) (cell_box (v := .int .i64 (Z)) (S6.obj 0 rfl hc2) rfl) Try.underlying3 rfl) ?_
 refine W_v rfl rfl (V_add rfl rfl (et rfl) (by omega) (by omega)) ?_
 refine W_v rfl rfl (V_mov rfl (es3 rfl (fg4 F26))) ?_
 refine W_v rfl rfl (V_fa (off' := 0) rfl (es4 rfl (fg5 F26)) Try.underlying23 rfl (by decide +kernel) rfl) ?_
 refine W_r rfl rfl (VR_ldC rfl (et rfl) (cell_box (v := .int .i64 (C)) (S6.obj 0 rfl hc2) rfl) Try.underlying3 rfl) ?_
 refine W_v rfl rfl (V_mul rfl (es2 rfl (et rfl)) (et rfl) (by omega) (by omega)) ?_
 refine W_v rfl rfl (V_add rfl (es4 rfl (et rfl)) (et rfl) (by omega) (by omega)) ?_
 refine W_v rfl rfl (V_asg rfl (et rfl)) ?_
 refine W_end (gen_Q fun A33 E33 => ?_)
 have Y33 := szq E33
 have F33 := fsE E33 (ck (cq8 F26 rfl) rfl rfl)
 clear E33 Y26 F26
 refine tk H32 ?_
 refine wp_seq_k fun K34 H34 => ?_
 refine region_monoS 8 8 [] (by kernel_rfl) (by kernel_rfl) ?_
 refine D_v rfl rfl (V_mov rfl (fg0 F33)) rfl rfl ?_
 refine D_v rfl rfl (V_mov rfl (es rfl (fg0 F33))) rfl rfl ?_
 refine D_v rfl rfl (V_fa (off' := 0) rfl (es2 rfl (fg6 F33)) Try.underlying23 rfl (by decide +kernel) rfl) rfl rfl ?_
 refine D_r rfl rfl (by kernel_rfl) (fun sx hx hF => (VR_ldC rfl (et rfl) (cell_box (v := .int .i64 (C)) ((S6.grow hx).obj 0 rfl hc2) rfl) Try.underlying3 rfl)) rfl rfl ?_
 refine D_v rfl rfl (V_add rfl (es2 rfl (et rfl)) (et rfl) (by omega) (by omega)) rfl rfl ?_
 refine D_v rfl rfl (V_asg rfl (es4 rfl (et rfl))) rfl rfl ?_
 refine D_v rfl rfl (V_asg rfl (es rfl (et rfl))) rfl rfl ?_
 refine D_v rfl rfl (V_asg rfl rfl) rfl rfl ?_
 refine ZS_none S6 (Nat.le_refl _) (Nat.le_refl _) (fun s35 hJ35 hL35 hF35 => ?_)
 have S35 := hJ35.st; clear hF35 hJ35 hL35
 generalize s35.1 = w35 at *
 replace S35 : St w NoX [c2] w35 := S35
 refine gen_Q (fun A36 E36 => ?_)
 have Y36 := szq E36
 have F36 := fsE E36 (ck (ck (ck (cq5 (fx0 F33) rfl) rfl rfl) rfl rfl) rfl rfl)
 clear E36 Y33 F33
 have S37 : St w NoX [] w35 := S35.sel [] (by decide) rfl
 refine tk H34 ?_
 refine wp_ret ?_
 refine ret_in (results_3 Try.results75 (rv_tmp (fg2 F36)) (rv_tmp (fg1 F36)) (rv_tmp (fg0 F36))) F36.d ?_
 have he : spE C N Z K Q i = 0 := sp_e0 (by omega) (by omega)
 have hb := sp_car he (by omega)
 rw [hb.1, hb.2, he]
 exact ⟨rfl, S37.fin0⟩

set_option maxHeartbeats 4000000 in
theorem kpl_c {C : Int} {N : Int} {Z : Int} {K : Int} {Q : Int} {a : Int} {w : World}   :
  Calls Try.prog 73 #[.agg #[.int .i64 C, .int .i64 N, .int .i64 Z, .int .i64 K, .int .i64 Q], .int .i64 a] w fun e w' => e = .returned (.tuple #[.int .i64 (caN C N Z K Q a), .int .i64 (caO C N Z K Q a), .int .i64 (caE C N Z K Q a)]) ∧ St w NoX [] w' := by
 refine calls_in 46 Try.func73 rfl rfl (by simp) (fun A0 Y0 hdf0 hargs => ?_)
 have l0_0 := hargs 0 (.agg #[.int .i64 C, .int .i64 N, .int .i64 Z, .int .i64 K, .int .i64 Q]) rfl
 have l1_0 := hargs 1 (.int .i64 a) rfl
 clear hargs; replace Y0 : SzN A0 46 := ⟨Y0⟩
 have hS := St.nil w
 refine wp_seq_k fun K1 H1 => ?_
 refine region_in ?_
 refine W_boxS (zs := #[.int .i64 (C), .int .i64 (N), .int .i64 (Z), .int .i64 (K), .int .i64 (Q)]) hS rfl rfl rfl l0_0 (by rfl) (fun g2 w2 c2 hc2 S2 => ?_)
 replace S2 : St w NoX [c2] w2 := S2
 refine W_v rfl rfl (V_asg rfl rfl) ?_
 refine W_v rfl rfl (V_asg rfl rfl) ?_
 refine W_v rfl rfl (V_asg rfl rfl) ?_
 refine W_end (gen_Q fun A3 E3 => ?_)
 have Y3 := szq E3
 have F3 := (fsE E3 (cq3 (ck (FS.n hdf0) rfl rfl) rfl)).c (lookE E3 1 (es4 rfl l1_0))
 clear E3 Y0 hdf0 l0_0 l1_0
 refine tk H1 ?_
 refine wp_seq_k fun K4 H4 => ?_
 refine wp_seq_k fun K5 H5 => ?_
 refine region_in ?_
 refine W_r rfl rfl (VR_ldA rfl (fg1 F3) (S2.obj 0 rfl hc2) Try.underlying23 rfl (by kernel_rfl)) ?_
 refine W_call rfl rfl rfl Try.func99 (by kernel_rfl) rfl (args1 (et rfl)) (kwd_c (C := C) (N := N) (Z := Z) (K := K) (Q := Q)  ) ?_
 rintro _ w6 ⟨rfl, hP6⟩
 refine ⟨_, rfl, ?_⟩
 have S6 := S2.join hP6
 replace S6 : St w NoX [c2] w6 := S6
 refine W_v rfl rfl (V_mov rfl (et rfl)) ?_
 refine W_v rfl rfl (V_ext (v := .int .i64 ((wdN C N Z K Q))) rfl (et rfl) rfl) ?_
 refine W_v rfl rfl (V_ext (v := .int .i64 ((cfE C N Z K Q))) rfl (es rfl (et rfl)) rfl) ?_
 refine W_v rfl rfl (V_asg rfl (es rfl (et rfl))) ?_
 refine W_v rfl rfl (V_asg rfl (es rfl (et rfl))) ?_
 refine W_end (gen_Q fun A7 E7 => ?_)
 have Y7 := szq E7
 have F7 := fsE E7 (ck (ck (cq5 F3 rfl) rfl rfl) rfl rfl)
 clear E7 Y3 F3
 refine tk H5 ?_
 refine wp_block ?_
 refine wp_seq_k fun K8 H8 => ?_
 refine region_in ?_
 refine W_v rfl rfl (V_mov rfl (fg0 F7)) ?_
 refine W_v rfl rfl (V_neq rfl (et rfl) rfl) ?_
 refine W_v rfl rfl (V_asg rfl (et rfl)) ?_
 refine W_end (gen_Q fun A9 E9 => ?_)
 have Y9 := szq E9
 have F9 := fsE E9 (ck (cq2 F7 rfl) rfl rfl)
 clear E9 Y7 F7
 refine tk H8 ?_
 refine cond_dec (fg0 F9) (fun c10 => ?_) (fun c10 => ?_)
 ·refine wp_seq_k fun K11 H11 => ?_
  refine region_in ?_
  refine W_v rfl rfl (V_mov rfl (fg1 F9)) ?_
  refine W_v rfl rfl (V_asg rfl rfl) ?_
  refine W_v rfl rfl (V_asg rfl rfl) ?_
  refine W_v rfl rfl (V_asg rfl (es2 rfl (et rfl))) ?_
  refine W_end (gen_Q fun A12 E12 => ?_)
  have Y12 := szq E12
  have F12 := fsE E12 (ck (ck (ck (cq1 F9 rfl) rfl rfl) rfl rfl) rfl rfl)
  clear E12 Y9 F9
  have S13 : St w NoX [] w6 := S6.sel [] (by decide) rfl
  refine tk H11 ?_
  refine wp_ret ?_
  refine inb_ret ?_
  refine then_ret ?_
  refine ret_in (results_3 Try.results73 (rv_tmp (fg2 F12)) (rv_tmp (fg1 F12)) (rv_tmp (fg0 F12))) F12.d ?_
  have he : caE C N Z K Q a = (cfE C N Z K Q) := ca_e1 (by omega)
  have hb := ca_bad (C := C) (N := N) (Z := Z) (K := K) (Q := Q) (a := a) (by omega)
  rw [hb.1, hb.2, he]
  exact ⟨rfl, S13.fin0⟩
 have hw := wd_ok (show cfE C N Z K Q = 0 by omega)
 have hr := cf_rng (show cfE C N Z K Q = 0 by omega)
 refine wp_seq_k fun K14 H14 => ?_
 refine region_in ?_
 refine W_v rfl rfl (V_mov rfl (fg3 F9)) ?_
 refine W_v rfl rfl (V_lss rfl (et rfl) rfl) ?_
 refine W_split rfl rfl (V_mov rfl (et rfl)) (fun c15 => ?_) (fun c15 => ?_)
 ·refine W_off rfl (wanted_f rfl rfl (et rfl) (ez rfl) rfl) ?_
  refine W_off rfl (wanted_f rfl rfl (es rfl (et rfl)) (ez rfl) rfl) ?_
  refine W_off rfl (wanted_f rfl rfl (es2 rfl (et rfl)) (ez rfl) rfl) ?_
  refine W_v rfl rfl (V_pickT rfl (es3 rfl (et rfl)) rfl) ?_
  refine W_v rfl rfl (V_asg rfl (et rfl)) ?_
  refine W_end (gen_Q fun A16 E16 => ?_)
  have Y16 := szq E16
  have F16 := fsE E16 (ck (cq7 F9 rfl) rfl rfl)
  clear E16 Y9 F9
  refine tk H14 ?_
  refine cond_t (fg0 F16) ?_
  refine wp_seq_k fun K17 H17 => ?_
  refine region_in ?_
  refine W_v rfl rfl (V_asg rfl rfl) ?_
  refine W_v rfl rfl (V_asg rfl rfl) ?_
  refine W_v rfl rfl (V_asg rfl rfl) ?_
  refine W_end (gen_Q fun A18 E18 => ?_)
  have Y18 := szq E18
  have F18 := fsE E18 (ck (ck (ck F16 rfl rfl) rfl rfl) rfl rfl)
  clear E18 Y16 F16
  have S19 : St w NoX [] w6 := S6.sel [] (by decide) rfl
  refine tk H17 ?_
  refine wp_ret ?_
  refine inb_ret ?_
  refine then_ret ?_
  refine ret_in (results_3 Try.results73 (rv_tmp (fg2 F18)) (rv_tmp (fg1 F18)) (rv_tmp (fg0 F18))) F18.d ?_
  have he : caE C N Z K Q a = 7 := ca_e2 (show cfE C N Z K Q = 0 by omega) (by omega)
  have hb := ca_bad (C := C) (N := N) (Z := Z) (K := K) (Q := Q) (a := a) (by omega)
  rw [hb.1, hb.2, he]
  exact ⟨rfl, S19.fin0⟩
 refine W_v rfl (wanted_t rfl rfl (et rfl) (ez rfl)) (V_mov rfl (es3 rfl (fg3 F9))) ?_
 refine W_v rfl (wanted_t rfl rfl (es rfl (et rfl)) (ez rfl)) (V_mov rfl (es4 rfl (fg2 F9))) ?_
 refine W_v rfl (wanted_t rfl rfl (es2 rfl (et rfl)) (ez rfl)) (V_geq rfl (es rfl (et rfl)) (et rfl)) ?_
 refine W_v rfl rfl (V_pickF rfl (es3 rfl (et rfl)) (et rfl)) ?_
 refine W_v rfl rfl (V_asg rfl (et rfl)) ?_
 refine W_end (gen_Q fun A20 E20 => ?_)
 have Y20 := szq E20
 have F20 := fsE E20 (ck (cq7 F9 rfl) rfl rfl)
 clear E20 Y9 F9
 refine tk H14 ?_
 refine cond_dec (fg0 F20) (fun c21 => ?_) (fun c21 => ?_)
 ·refine wp_seq_k fun K22 H22 => ?_
  refine region_in ?_
  refine W_v rfl rfl (V_asg rfl rfl) ?_
  refine W_v rfl rfl (V_asg rfl rfl) ?_
  refine W_v rfl rfl (V_asg rfl rfl) ?_
  refine W_end (gen_Q fun A23 E23 => ?_)
  have Y23 := szq E23
  have F23 := fsE E23 (ck (ck (ck F20 rfl rfl) rfl rfl) rfl rfl)
  clear E23 Y20 F20
  have S24 : St w NoX [] w6 := S6.sel [] (by decide) rfl
  refine tk H22 ?_
  refine wp_ret ?_
  refine inb_ret ?_
  refine then_ret ?_
  refine ret_in (results_3 Try.results73 (rv_tmp (fg2 F23)) (rv_tmp (fg1 F23)) (rv_tmp (fg0 F23))) F23.d ?_
  have he : caE C N Z K Q a = 7 := ca_e2 (show cfE C N Z K Q = 0 by omega) (by omega)
  have hb := ca_bad (C := C) (N := N) (Z := Z) (K := K) (Q := Q) (a := a) (by omega)
  rw [hb.1, hb.2, he]
  exact ⟨rfl, S24.fin0⟩
 refine wp_seq_k fun K25 H25 => ?_
 refine region_in ?_
 refine W_v rfl rfl (V_mov rfl (fg4 F20)) ?_
 refine W_v rfl rfl (V_fa (off' := 2) rfl (es rfl (fg5 F20)) Try.underlying23 rfl (by decide +kernel) rfl) ?_
 refine W_r rfl rfl (VR_ldC rfl (et rfl) (cell_box (v := .int .i64 (Z)) (S6.obj 0 rfl hc2) rfl) Try.underlying3 rfl) ?_
 refine W_v rfl rfl (V_leq rfl (es2 rfl (et rfl)) (et rfl)) ?_
 refine W_v rfl rfl (V_asg rfl (et rfl)) ?_
 refine W_end (gen_Q fun A26 E26 => ?_)
 have Y26 := szq E26
 have F26 := fsE E26 (ck (cq4 F20 rfl) rfl rfl)
 clear E26 Y20 F20
 refine tk H25 ?_
 refine cond_dec (fg0 F26) (fun c27 => ?_) (fun c27 => ?_)
 ·refine wp_seq_k fun K28 H28 => ?_
  refine region_in ?_
  refine W_v rfl rfl (V_mov rfl (fg5 F26)) ?_
  refine W_v rfl rfl (V_sb rfl (et rfl) rfl (by omega) (by omega)) ?_
  refine W_v rfl rfl (V_asg rfl rfl) ?_
  refine W_v rfl rfl (V_asg rfl (es rfl (et rfl))) ?_
  refine W_v rfl rfl (V_asg rfl rfl) ?_
  refine W_end (gen_Q fun A29 E29 => ?_)
  have Y29 := szq E29
  have F29 := fsE E29 (ck (ck (ck (cq2 F26 rfl) rfl rfl) rfl rfl) rfl rfl)
  clear E29 Y26 F26
  have S30 : St w NoX [] w6 := S6.sel [] (by decide) rfl
  refine tk H28 ?_
  refine wp_ret ?_
  refine inb_ret ?_
  refine then_ret ?_
  refine ret_in (results_3 Try.results73 (rv_tmp (fg2 F29)) (rv_tmp (fg1 F29)) (rv_tmp (fg0 F29))) F29.d ?_
  have he : caE C N Z K Q a = 0 := ca_e0 (by omega) (by omega)
  have hb := ca_young he (by omega)
  rw [hb.1, hb.2, he]
  exact ⟨rfl, S30.fin0⟩
 refine wp_skip ?_
 refine inb_n ?_
 refine tk H4 ?_
 refine wp_seq_k fun K31 H31 => ?_
 refine region_in ?_
 refine W_v rfl rfl (V_mov rfl (fg5 F26)) ?_
 refine W_v rfl rfl (V_fa (off' := 2) rfl (es rfl (fg6 F26)) Try.underlying23 rfl (by decide +kernel) rfl) ?_
 refine W_r rfl rfl (VR_ldC rfl (et rfl) (cell_box (v := .int .i64 (Z)) (S6.obj 0 rfl hc2) rfl) Try.underlying3 rfl) ?_
 refine W_v rfl rfl (V_add rfl rfl (et rfl) (by omega) (by omega)) ?_
 refine W_v rfl rfl (V_sb rfl (es3 rfl (et rfl)) (et rfl) (by omega) (by omega)) ?_
 refine W_v rfl rfl (V_asg rfl (et rfl)) ?_
 refine W_end (gen_Q fun A32 E32 => ?_)
 have Y32 := szq E32
 have F32 := fsE E32 (ck (cq5 (fx5 F26) rfl) rfl rfl)
 clear E32 Y26 F26
 refine tk H31 ?_
 refine wp_seq_k fun K33 H33 => ?_
 refine region_monoS 11 11 [] (by kernel_rfl) (by kernel_rfl) ?_
 refine D_v rfl rfl (V_mov rfl (fg0 F32)) rfl rfl ?_
 refine D_v rfl rfl (V_fa (off' := 0) rfl (es rfl (fg6 F32)) Try.underlying23 rfl (by decide +kernel) rfl) rfl rfl ?_
 refine D_r rfl rfl (by kernel_rfl) (fun sx hx hF => (VR_ldC rfl (et rfl) (cell_box (v := .int .i64 (C)) ((S6.grow hx).obj 0 rfl hc2) rfl) Try.underlying3 rfl)) rfl rfl ?_
 refine D_v rfl rfl (V_quo rfl (es2 rfl (et rfl)) (et rfl) (by omega) (by omega) (wrap_div (by omega) (by omega) (by omega))) rfl rfl ?_
 refine D_v rfl rfl (V_mov rfl (es4 rfl (fg0 F32))) rfl rfl ?_
 refine D_v rfl rfl (V_fa (off' := 0) rfl (es5 rfl (fg6 F32)) Try.underlying23 rfl (by decide +kernel) rfl) rfl rfl ?_
 refine D_r rfl rfl (by kernel_rfl) (fun sx hx hF => (VR_ldC rfl (et rfl) (cell_box (v := .int .i64 (C)) ((S6.grow hx).obj 0 rfl hc2) rfl) Try.underlying3 rfl)) rfl rfl ?_
 refine D_v rfl rfl (V_rem rfl (es2 rfl (et rfl)) (et rfl) (by omega) (by omega) (wrap_mod (by omega) (by omega))) rfl rfl ?_
 refine D_v rfl rfl (V_asg rfl (es4 rfl (et rfl))) rfl rfl ?_
 refine D_v rfl rfl (V_asg rfl (es rfl (et rfl))) rfl rfl ?_
 refine D_v rfl rfl (V_asg rfl rfl) rfl rfl ?_
 refine ZS_none S6 (Nat.le_refl _) (Nat.le_refl _) (fun s34 hJ34 hL34 hF34 => ?_)
 have S34 := hJ34.st; clear hF34 hJ34 hL34
 generalize s34.1 = w34 at *
 replace S34 : St w NoX [c2] w34 := S34
 refine gen_Q (fun A35 E35 => ?_)
 have Y35 := szq E35
 have F35 := fsE E35 (ck (ck (ck (cq8 F32 rfl) rfl rfl) rfl rfl) rfl rfl)
 clear E35 Y32 F32
 have S36 : St w NoX [] w34 := S34.sel [] (by decide) rfl
 refine tk H33 ?_
 refine wp_ret ?_
 refine ret_in (results_3 Try.results73 (rv_tmp (fg2 F35)) (rv_tmp (fg1 F35)) (rv_tmp (fg0 F35))) F35.d ?_
 have he : caE C N Z K Q a = 0 := ca_e0 (by omega) (by omega)
 have hb := ca_car he (by omega)
 rw [hb.1, hb.2, he]
 exact ⟨rfl, S36.fin0⟩

set_option maxHeartbeats 4000000 in
theorem kca_c {C : Int} {N : Int} {Z : Int} {K : Int} {Q : Int} {a : Int} {w : World}   :
  Calls Try.prog 43 #[.agg #[.int .i64 C, .int .i64 N, .int .i64 Z, .int .i64 K, .int .i64 Q], .int .i64 a] w fun e w' => e = .returned (.tuple #[.int .i64 (caN C N Z K Q a), .int .i64 (caE C N Z K Q a)]) ∧ St w NoX [] w' := by
 refine calls_in 15 Try.func43 rfl rfl (by simp) (fun A0 Y0 hdf0 hargs => ?_)
 have l0_0 := hargs 0 (.agg #[.int .i64 C, .int .i64 N, .int .i64 Z, .int .i64 K, .int .i64 Q]) rfl
 have l1_0 := hargs 1 (.int .i64 a) rfl
 clear hargs; replace Y0 : SzN A0 15 := ⟨Y0⟩
 have hS := St.nil w
 refine wp_seq_k fun K1 H1 => ?_
 refine region_in ?_
 refine W_boxS (zs := #[.int .i64 (C), .int .i64 (N), .int .i64 (Z), .int .i64 (K), .int .i64 (Q)]) hS rfl rfl rfl l0_0 (by rfl) (fun g2 w2 c2 hc2 S2 => ?_)
 replace S2 : St w NoX [c2] w2 := S2
 refine W_v rfl rfl (V_asg rfl rfl) ?_
 refine W_v rfl rfl (V_asg rfl rfl) ?_
 refine W_end (gen_Q fun A3 E3 => ?_)
 have Y3 := szq E3
 have F3 := (fsE E3 (cq2 (ck (FS.n hdf0) rfl rfl) rfl)).c (lookE E3 1 (es3 rfl l1_0))
 clear E3 Y0 hdf0 l0_0 l1_0
 refine tk H1 ?_
 refine wp_seq_k fun K4 H4 => ?_
 refine region_in ?_
 refine W_r rfl rfl (VR_ldA rfl (fg1 F3) (S2.obj 0 rfl hc2) Try.underlying23 rfl (by kernel_rfl)) ?_
 refine W_v rfl rfl (V_mov rfl (es rfl (fg0 F3))) ?_
 refine W_call rfl rfl rfl Try.func73 (by kernel_rfl) rfl (args2 (es rfl (et rfl)) (et rfl)) (kpl_c (C := C) (N := N) (Z := Z) (K := K) (Q := Q) (a := a)  ) ?_
 rintro _ w5 ⟨rfl, hP5⟩
 refine ⟨_, rfl, ?_⟩
 have S5 := S2.join hP5
 replace S5 : St w NoX [c2] w5 := S5
 refine W_v rfl rfl (V_mov rfl (et rfl)) ?_
 refine W_v rfl rfl (V_ext (v := .int .i64 ((caN C N Z K Q a))) rfl (et rfl) rfl) ?_
 refine W_v rfl rfl (V_ext (v := .int .i64 ((caO C N Z K Q a))) rfl (es rfl (et rfl)) rfl) ?_
 refine W_v rfl rfl (V_ext (v := .int .i64 ((caE C N Z K Q a))) rfl (es2 rfl (et rfl)) rfl) ?_
 refine W_v rfl rfl (V_asg rfl (es2 rfl (et rfl))) ?_
 refine W_v rfl rfl (V_asg rfl (es rfl (et rfl))) ?_
 refine W_end (gen_Q fun A6 E6 => ?_)
 have Y6 := szq E6
 have F6 := fsE E6 (ck (ck (cq7 F3 rfl) rfl rfl) rfl rfl)
 clear E6 Y3 F3
 have S7 : St w NoX [] w5 := S5.sel [] (by decide) rfl
 refine tk H4 ?_
 refine wp_seq_k fun K8 H8 => ?_
 refine region_in ?_
 refine W_v rfl rfl (V_mov rfl (fg1 F6)) ?_
 refine W_v rfl rfl (V_mov rfl (es rfl (fg0 F6))) ?_
 refine W_v rfl rfl (V_asg rfl (es rfl (et rfl))) ?_
 refine W_v rfl rfl (V_asg rfl (es rfl (et rfl))) ?_
 refine W_end (gen_Q fun A9 E9 => ?_)
 have Y9 := szq E9
 have F9 := fsE E9 (ck (ck (cq2 (fx0 (fx0 F6)) rfl) rfl rfl) rfl rfl)
 clear E9 Y6 F6
 refine tk H8 ?_
 refine wp_ret ?_
 refine ret_in (results_2 Try.results43 (rv_tmp (fg1 F9)) (rv_tmp (fg0 F9))) F9.d ?_
 exact ⟨rfl, S7.fin0⟩

end Go.Proofs.Yteppjefmlibmoaa