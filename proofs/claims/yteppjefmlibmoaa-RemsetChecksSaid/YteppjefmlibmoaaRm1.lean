import Derived.Test.YteppjefmlibmoaaProg
import Derived.Test.YteppjefmlibmoaaSl6
import Derived.Test.YteppjefmlibmoaaPl8
import Derived.Test.YteppjefmlibmoaaSep8
namespace Go.Proofs.Yteppjefmlibmoaa
open Go.RowKit Go.Own Go.Own.R Go.Own.S Go.Own.E

abbrev LimR := Value × Value × Value × Value
def limC (y : LimR) : List Value := [y.1, y.2.1, y.2.2.1, y.2.2.2]
theorem limC_len : ∀ a : LimR, (limC a).length = 4 := fun _ => rfl
def limL : List LimR := [((Value.string ⟨#[99, 97, 114, 115]⟩), Value.int .i64 7, Value.int .i64 24, Value.func (.func 93) #[] #[]), ((Value.string ⟨#[111, 102]⟩), Value.int .i64 8, Value.int .i64 64, Value.func (.func 94) #[] #[]), ((Value.string ⟨#[110, 117, 114, 115, 101, 114, 121]⟩), Value.int .i64 4, Value.int .i64 64, Value.func (.func 95) #[] #[]), ((Value.string ⟨#[114, 101, 103, 105, 115, 116, 101, 114, 115]⟩), Value.int .i64 1, Value.int .i64 8, Value.func (.func 96) #[] #[]), ((Value.string ⟨#[112, 111, 112, 117, 108, 97, 114]⟩), Value.int .i64 2, Value.int .i64 16, Value.func (.func 97) #[] #[])]
set_option maxHeartbeats 4000000 in
theorem klim1_c {g : Nat} {w : World}   :
  Calls Try.prog 93 #[.pointer (some ⟨g, 0, none⟩)] w fun e w' => e = .returned (.pointer (some ⟨g, 1, none⟩)) ∧ St w NoX [] w' := by
 refine calls_in 6 Try.func93 rfl rfl (by simp) (fun A0 hsz0 hdf0 hargs => ?_)
 have l0_0 := hargs 0 (.pointer (some ⟨g, 0, none⟩)) rfl
 clear hargs; replace hsz0 : SzN A0 6 := ⟨hsz0⟩
 have hS := St.nil w
 refine wp_seq_k fun K1 hK1 => ?_
 refine region_in ?_
 refine W_v rfl rfl (V_asg rfl rfl) ?_
 refine W_end (gen_Q fun A2 hA2 => ?_)
 have hsz2 := szq hA2
 have hdf2 := dfE hA2 hdf0
 have l0_2 := lookE hA2 0 (es rfl l0_0)
 clear hA2 hsz0 hdf0 l0_0
 refine then_n (hK1 _ _ ?_)
 clear hK1
 refine wp_seq_k fun K3 hK3 => ?_
 refine region_in ?_
 refine W_v rfl rfl (V_mov rfl l0_2) ?_
 refine W_v rfl rfl (V_nil rfl (et rfl)) ?_
 refine W_v rfl rfl (V_fa (off' := 1) rfl (et rfl) Try.underlying23 rfl (by decide +kernel) rfl) ?_
 refine W_v rfl rfl (V_asg rfl (et rfl)) ?_
 refine W_end (gen_Q fun A4 hA4 => ?_)
 have hsz4 := szq hA4
 have hdf4 := dfE hA4 hdf2
 have l2_4 := lookE hA4 2 (et rfl)
 clear hA4 hsz2 hdf2 l0_2
 refine then_n (hK3 _ _ ?_)
 clear hK3
 refine wp_ret ?_
 refine ret_in (results_1 Try.results93 (rv_tmp l2_4)) hdf4 ?_
 exact ⟨rfl, hS.fin0⟩

set_option maxHeartbeats 4000000 in
theorem klim2_c {g : Nat} {w : World}   :
  Calls Try.prog 94 #[.pointer (some ⟨g, 0, none⟩)] w fun e w' => e = .returned (.pointer (some ⟨g, 0, none⟩)) ∧ St w NoX [] w' := by
 refine calls_in 6 Try.func94 rfl rfl (by simp) (fun A0 hsz0 hdf0 hargs => ?_)
 have l0_0 := hargs 0 (.pointer (some ⟨g, 0, none⟩)) rfl
 clear hargs; replace hsz0 : SzN A0 6 := ⟨hsz0⟩
 have hS := St.nil w
 refine wp_seq_k fun K1 hK1 => ?_
 refine region_in ?_
 refine W_v rfl rfl (V_asg rfl rfl) ?_
 refine W_end (gen_Q fun A2 hA2 => ?_)
 have hsz2 := szq hA2
 have hdf2 := dfE hA2 hdf0
 have l0_2 := lookE hA2 0 (es rfl l0_0)
 clear hA2 hsz0 hdf0 l0_0
 refine then_n (hK1 _ _ ?_)
 clear hK1
 refine wp_seq_k fun K3 hK3 => ?_
 refine region_in ?_
 refine W_v rfl rfl (V_mov rfl l0_2) ?_
 refine W_v rfl rfl (V_nil rfl (et rfl)) ?_
 refine W_v rfl rfl (V_fa (off' := 0) rfl (et rfl) Try.underlying23 rfl (by decide +kernel) rfl) ?_
 refine W_v rfl rfl (V_asg rfl (et rfl)) ?_
 refine W_end (gen_Q fun A4 hA4 => ?_)
 have hsz4 := szq hA4
 have hdf4 := dfE hA4 hdf2
 have l2_4 := lookE hA4 2 (et rfl)
 clear hA4 hsz2 hdf2 l0_2
 refine then_n (hK3 _ _ ?_)
 clear hK3
 refine wp_ret ?_
 refine ret_in (results_1 Try.results94 (rv_tmp l2_4)) hdf4 ?_
 exact ⟨rfl, hS.fin0⟩

set_option maxHeartbeats 4000000 in
theorem klim3_c {g : Nat} {w : World}   :
  Calls Try.prog 95 #[.pointer (some ⟨g, 0, none⟩)] w fun e w' => e = .returned (.pointer (some ⟨g, 2, none⟩)) ∧ St w NoX [] w' := by
 refine calls_in 6 Try.func95 rfl rfl (by simp) (fun A0 hsz0 hdf0 hargs => ?_)
 have l0_0 := hargs 0 (.pointer (some ⟨g, 0, none⟩)) rfl
 clear hargs; replace hsz0 : SzN A0 6 := ⟨hsz0⟩
 have hS := St.nil w
 refine wp_seq_k fun K1 hK1 => ?_
 refine region_in ?_
 refine W_v rfl rfl (V_asg rfl rfl) ?_
 refine W_end (gen_Q fun A2 hA2 => ?_)
 have hsz2 := szq hA2
 have hdf2 := dfE hA2 hdf0
 have l0_2 := lookE hA2 0 (es rfl l0_0)
 clear hA2 hsz0 hdf0 l0_0
 refine then_n (hK1 _ _ ?_)
 clear hK1
 refine wp_seq_k fun K3 hK3 => ?_
 refine region_in ?_
 refine W_v rfl rfl (V_mov rfl l0_2) ?_
 refine W_v rfl rfl (V_nil rfl (et rfl)) ?_
 refine W_v rfl rfl (V_fa (off' := 2) rfl (et rfl) Try.underlying23 rfl (by decide +kernel) rfl) ?_
 refine W_v rfl rfl (V_asg rfl (et rfl)) ?_
 refine W_end (gen_Q fun A4 hA4 => ?_)
 have hsz4 := szq hA4
 have hdf4 := dfE hA4 hdf2
 have l2_4 := lookE hA4 2 (et rfl)
 clear hA4 hsz2 hdf2 l0_2
 refine then_n (hK3 _ _ ?_)
 clear hK3
 refine wp_ret ?_
 refine ret_in (results_1 Try.results95 (rv_tmp l2_4)) hdf4 ?_
 exact ⟨rfl, hS.fin0⟩

set_option maxHeartbeats 4000000 in
theorem klim4_c {g : Nat} {w : World}   :
  Calls Try.prog 96 #[.pointer (some ⟨g, 0, none⟩)] w fun e w' => e = .returned (.pointer (some ⟨g, 3, none⟩)) ∧ St w NoX [] w' := by
 refine calls_in 6 Try.func96 rfl rfl (by simp) (fun A0 hsz0 hdf0 hargs => ?_)
 have l0_0 := hargs 0 (.pointer (some ⟨g, 0, none⟩)) rfl
 clear hargs; replace hsz0 : SzN A0 6 := ⟨hsz0⟩
 have hS := St.nil w
 refine wp_seq_k fun K1 hK1 => ?_
 refine region_in ?_
 refine W_v rfl rfl (V_asg rfl rfl) ?_
 refine W_end (gen_Q fun A2 hA2 => ?_)
 have hsz2 := szq hA2
 have hdf2 := dfE hA2 hdf0
 have l0_2 := lookE hA2 0 (es rfl l0_0)
 clear hA2 hsz0 hdf0 l0_0
 refine then_n (hK1 _ _ ?_)
 clear hK1
 refine wp_seq_k fun K3 hK3 => ?_
 refine region_in ?_
 refine W_v rfl rfl (V_mov rfl l0_2) ?_
 refine W_v rfl rfl (V_nil rfl (et rfl)) ?_
 refine W_v rfl rfl (V_fa (off' := 3) rfl (et rfl) Try.underlying23 rfl (by decide +kernel) rfl) ?_
 refine W_v rfl rfl (V_asg rfl (et rfl)) ?_
 refine W_end (gen_Q fun A4 hA4 => ?_)
 have hsz4 := szq hA4
 have hdf4 := dfE hA4 hdf2
 have l2_4 := lookE hA4 2 (et rfl)
 clear hA4 hsz2 hdf2 l0_2
 refine then_n (hK3 _ _ ?_)
 clear hK3
 refine wp_ret ?_
 refine ret_in (results_1 Try.results96 (rv_tmp l2_4)) hdf4 ?_
 exact ⟨rfl, hS.fin0⟩

set_option maxHeartbeats 4000000 in
theorem klim5_c {g : Nat} {w : World}   :
  Calls Try.prog 97 #[.pointer (some ⟨g, 0, none⟩)] w fun e w' => e = .returned (.pointer (some ⟨g, 4, none⟩)) ∧ St w NoX [] w' := by
 refine calls_in 6 Try.func97 rfl rfl (by simp) (fun A0 hsz0 hdf0 hargs => ?_)
 have l0_0 := hargs 0 (.pointer (some ⟨g, 0, none⟩)) rfl
 clear hargs; replace hsz0 : SzN A0 6 := ⟨hsz0⟩
 have hS := St.nil w
 refine wp_seq_k fun K1 hK1 => ?_
 refine region_in ?_
 refine W_v rfl rfl (V_asg rfl rfl) ?_
 refine W_end (gen_Q fun A2 hA2 => ?_)
 have hsz2 := szq hA2
 have hdf2 := dfE hA2 hdf0
 have l0_2 := lookE hA2 0 (es rfl l0_0)
 clear hA2 hsz0 hdf0 l0_0
 refine then_n (hK1 _ _ ?_)
 clear hK1
 refine wp_seq_k fun K3 hK3 => ?_
 refine region_in ?_
 refine W_v rfl rfl (V_mov rfl l0_2) ?_
 refine W_v rfl rfl (V_nil rfl (et rfl)) ?_
 refine W_v rfl rfl (V_fa (off' := 4) rfl (et rfl) Try.underlying23 rfl (by decide +kernel) rfl) ?_
 refine W_v rfl rfl (V_asg rfl (et rfl)) ?_
 refine W_end (gen_Q fun A4 hA4 => ?_)
 have hsz4 := szq hA4
 have hdf4 := dfE hA4 hdf2
 have l2_4 := lookE hA4 2 (et rfl)
 clear hA4 hsz2 hdf2 l0_2
 refine then_n (hK3 _ _ ?_)
 clear hK3
 refine wp_ret ?_
 refine ret_in (results_1 Try.results97 (rv_tmp l2_4)) hdf4 ?_
 exact ⟨rfl, hS.fin0⟩

set_option maxHeartbeats 4000000 in
theorem klims_c  {w : World}   :
  Calls Try.prog 70 #[] w fun e w' => ∃ v, e = .returned (v) ∧ St w NoX [ro 4 limC v limL] w' := by
 refine calls_in 7 Try.func70 rfl rfl (by simp) (fun A0 hsz0 hdf0 hargs => ?_)
 clear hargs; replace hsz0 : SzN A0 7 := ⟨hsz0⟩
 have hS := St.nil w
 refine wp_seq_k fun K1 hK1 => ?_
 refine region_in ?_
 refine W_v rfl rfl (V_asg rfl rfl) ?_
 refine W_end (gen_Q fun A2 hA2 => ?_)
 have hsz2 := szq hA2
 have hdf2 := dfE hA2 hdf0
 clear hA2 hsz0 hdf0
 refine then_n (hK1 _ _ ?_)
 clear hK1
 refine wp_seq_k fun K3 hK3 => ?_
 refine region_in ?_
 refine W_v rfl rfl (V_bldS (n := 4) (z := .agg #[.string ByteArray.empty, .int .i64 0, .int .i64 0, .nilFunc]) rfl (parts4 rfl rfl rfl rfl) (by kernel_rfl) (by simp only [List.all_cons, List.all_nil, Bool.and_true] <;> rfl) (by kernel_rfl) (by simp only [List.foldl_cons, List.foldl_nil, Value.cells, List.setIfInBounds_toArray, List.set_cons_succ, List.set_cons_zero] <;> rfl)) ?_
 refine W_v rfl rfl (V_bldS (n := 4) (z := .agg #[.string ByteArray.empty, .int .i64 0, .int .i64 0, .nilFunc]) rfl (parts4 rfl rfl rfl rfl) (by kernel_rfl) (by simp only [List.all_cons, List.all_nil, Bool.and_true] <;> rfl) (by kernel_rfl) (by simp only [List.foldl_cons, List.foldl_nil, Value.cells, List.setIfInBounds_toArray, List.set_cons_succ, List.set_cons_zero] <;> rfl)) ?_
 refine W_v rfl rfl (V_bldS (n := 4) (z := .agg #[.string ByteArray.empty, .int .i64 0, .int .i64 0, .nilFunc]) rfl (parts4 rfl rfl rfl rfl) (by kernel_rfl) (by simp only [List.all_cons, List.all_nil, Bool.and_true] <;> rfl) (by kernel_rfl) (by simp only [List.foldl_cons, List.foldl_nil, Value.cells, List.setIfInBounds_toArray, List.set_cons_succ, List.set_cons_zero] <;> rfl)) ?_
 refine W_v rfl rfl (V_bldS (n := 4) (z := .agg #[.string ByteArray.empty, .int .i64 0, .int .i64 0, .nilFunc]) rfl (parts4 rfl rfl rfl rfl) (by kernel_rfl) (by simp only [List.all_cons, List.all_nil, Bool.and_true] <;> rfl) (by kernel_rfl) (by simp only [List.foldl_cons, List.foldl_nil, Value.cells, List.setIfInBounds_toArray, List.set_cons_succ, List.set_cons_zero] <;> rfl)) ?_
 refine W_v rfl rfl (V_bldS (n := 4) (z := .agg #[.string ByteArray.empty, .int .i64 0, .int .i64 0, .nilFunc]) rfl (parts4 rfl rfl rfl rfl) (by kernel_rfl) (by simp only [List.all_cons, List.all_nil, Bool.and_true] <;> rfl) (by kernel_rfl) (by simp only [List.foldl_cons, List.foldl_nil, Value.cells, List.setIfInBounds_toArray, List.set_cons_succ, List.set_cons_zero] <;> rfl)) ?_
 have hll4 : [((Value.string ⟨#[99, 97, 114, 115]⟩), Value.int .i64 7, Value.int .i64 24, Value.func (.func 93) #[] #[]), ((Value.string ⟨#[111, 102]⟩), Value.int .i64 8, Value.int .i64 64, Value.func (.func 94) #[] #[]), ((Value.string ⟨#[110, 117, 114, 115, 101, 114, 121]⟩), Value.int .i64 4, Value.int .i64 64, Value.func (.func 95) #[] #[]), ((Value.string ⟨#[114, 101, 103, 105, 115, 116, 101, 114, 115]⟩), Value.int .i64 1, Value.int .i64 8, Value.func (.func 96) #[] #[]), ((Value.string ⟨#[112, 111, 112, 117, 108, 97, 114]⟩), Value.int .i64 2, Value.int .i64 16, Value.func (.func 97) #[] #[])].length = 5 := rfl
 refine W_litS (vs := [.agg #[(Value.string ⟨#[99, 97, 114, 115]⟩), .int .i64 7, .int .i64 24, .func (.func 93) #[] #[]], .agg #[(Value.string ⟨#[111, 102]⟩), .int .i64 8, .int .i64 64, .func (.func 94) #[] #[]], .agg #[(Value.string ⟨#[110, 117, 114, 115, 101, 114, 121]⟩), .int .i64 4, .int .i64 64, .func (.func 95) #[] #[]], .agg #[(Value.string ⟨#[114, 101, 103, 105, 115, 116, 101, 114, 115]⟩), .int .i64 1, .int .i64 8, .func (.func 96) #[] #[]], .agg #[(Value.string ⟨#[112, 111, 112, 117, 108, 97, 114]⟩), .int .i64 2, .int .i64 16, .func (.func 97) #[] #[]]]) (xs := ([((Value.string ⟨#[99, 97, 114, 115]⟩), Value.int .i64 7, Value.int .i64 24, Value.func (.func 93) #[] #[]), ((Value.string ⟨#[111, 102]⟩), Value.int .i64 8, Value.int .i64 64, Value.func (.func 94) #[] #[]), ((Value.string ⟨#[110, 117, 114, 115, 101, 114, 121]⟩), Value.int .i64 4, Value.int .i64 64, Value.func (.func 95) #[] #[]), ((Value.string ⟨#[114, 101, 103, 105, 115, 116, 101, 114, 115]⟩), Value.int .i64 1, Value.int .i64 8, Value.func (.func 96) #[] #[]), ((Value.string ⟨#[112, 111, 112, 117, 108, 97, 114]⟩), Value.int .i64 2, Value.int .i64 16, Value.func (.func 97) #[] #[])].flatMap limC)) 4 hS rfl rfl rfl (parts5 (e4 rfl (et rfl)) (e3 rfl (et rfl)) (e2 rfl (et rfl)) (es rfl (et rfl)) (et rfl)) rfl Try.underlying94 (by kernel_rfl) (by decide) (by intro v hv; simp only [List.mem_cons, List.not_mem_nil, or_false] at hv; rcases hv with rfl | rfl | rfl | rfl | rfl <;> rfl) (by rfl) (fun g4 w4 c4 hc4 hS4 => ?_)
 replace hc4 : c4 = ro 4 limC (.slice (some ⟨g4, 0, none⟩) 5 5) [((Value.string ⟨#[99, 97, 114, 115]⟩), Value.int .i64 7, Value.int .i64 24, Value.func (.func 93) #[] #[]), ((Value.string ⟨#[111, 102]⟩), Value.int .i64 8, Value.int .i64 64, Value.func (.func 94) #[] #[]), ((Value.string ⟨#[110, 117, 114, 115, 101, 114, 121]⟩), Value.int .i64 4, Value.int .i64 64, Value.func (.func 95) #[] #[]), ((Value.string ⟨#[114, 101, 103, 105, 115, 116, 101, 114, 115]⟩), Value.int .i64 1, Value.int .i64 8, Value.func (.func 96) #[] #[]), ((Value.string ⟨#[112, 111, 112, 117, 108, 97, 114]⟩), Value.int .i64 2, Value.int .i64 16, Value.func (.func 97) #[] #[])] := hc4
 replace hS4 : St w NoX [c4] w4 := hS4
 refine W_v rfl rfl (V_asg rfl (et rfl)) ?_
 refine W_end (gen_Q fun A5 hA5 => ?_)
 have hsz5 := szq hA5
 have hdf5 := dfE hA5 hdf2
 have l0_5 := lookE hA5 0 (et rfl)
 clear hA5 hsz2 hdf2
 refine then_n (hK3 _ _ ?_)
 clear hK3
 refine wp_ret ?_
 refine ret_in (results_1 Try.results70 (rv_tmp l0_5)) hdf5 ?_
 exact ⟨_, rfl, (hS4.fin1 0 rfl (hc4))⟩

set_option maxHeartbeats 4000000 in
theorem kcfg_c {C : Int} {N : Int} {Z : Int} {K : Int} {Q : Int} {w : World}   :
  Calls Try.prog 40 #[.agg #[.int .i64 C, .int .i64 N, .int .i64 Z, .int .i64 K, .int .i64 Q]] w fun e w' => e = .returned (.int .i64 (cfE C N Z K Q)) ∧ St w NoX [] w' := by
 refine calls_in 28 Try.func40 rfl rfl (by simp) (fun A0 hsz0 hdf0 hargs => ?_)
 have l0_0 := hargs 0 (.agg #[.int .i64 C, .int .i64 N, .int .i64 Z, .int .i64 K, .int .i64 Q]) rfl
 clear hargs; replace hsz0 : SzN A0 28 := ⟨hsz0⟩
 have hS := St.nil w
 refine wp_seq_k fun K1 hK1 => ?_
 refine region_in ?_
 refine W_boxS (zs := #[.int .i64 (C), .int .i64 (N), .int .i64 (Z), .int .i64 (K), .int .i64 (Q)]) hS rfl rfl rfl l0_0 (by rfl) (fun g2 w2 c2 hc2 hS2 => ?_)
 replace hS2 : St w NoX [c2] w2 := hS2
 refine W_v rfl rfl (V_asg rfl rfl) ?_
 refine W_end (gen_Q fun A3 hA3 => ?_)
 have hsz3 := szq hA3
 have hdf3 := dfE hA3 hdf0
 have l1_3 := lookE hA3 1 (es rfl (et rfl))
 clear hA3 hsz0 hdf0 l0_0
 refine then_n (hK1 _ _ ?_)
 clear hK1
 refine wp_seq_k fun K4 hK4 => ?_
 refine wp_seq_k fun K5 hK5 => ?_
 refine region_in ?_
 refine W_call rfl rfl rfl Try.func70 (by kernel_rfl) rfl (args0) (klims_c  ) ?_
 rintro _ w6 ⟨v_6, rfl, hP6⟩
 refine ⟨_, rfl, ?_⟩
 obtain ⟨c_6, hc_6, hP6⟩ := gen1 hP6
 have hS6 := hS2.join hP6
 replace hS6 : St w NoX [c_6, c2] w6 := hS6
 refine W_v rfl rfl (V_lenS rfl (et rfl) (ow_at (hS6.chq 0 rfl hc_6)) Try.underlying94) ?_
 refine W_v rfl rfl (V_mov rfl rfl) ?_
 refine W_end (gen_Q fun A7 hA7 => ?_)
 have hsz7 := szq hA7
 have hdf7 := dfE hA7 hdf3
 have l1_7 := ek3 hA7 1 rfl l1_3
 have l6_7 := lookE hA7 6 (e2 rfl (et rfl))
 have l7_7 := lookE hA7 7 (es rfl (et rfl))
 have l8_7 := lookE hA7 8 (et rfl)
 clear hA7 hsz3 hdf3 l1_3
 refine then_n (hK5 _ _ ?_)
 clear hK5
 refine wp_block ?_
 -- loop 2, round by round
 refine loopL ?_
 refine LW_step ?_
 have l8_8 : EV A7 (.tmp 8) = .int .i64 (0 : Int) := l8_7
 refine wp_seq_k fun K9 hK9 => ?_
 refine region_in ?_
 refine W_v rfl rfl (V_lss rfl l8_8 l7_7) ?_
 refine W_end (gen_Q fun A10 hA10 => ?_)
 have hsz10 := szq hA10
 have hdf10 := dfE hA10 hdf7
 have l1_10 := lookE hA10 1 (es rfl l1_7)
 have l6_10 := lookE hA10 6 (es rfl l6_7)
 have l7_10 := lookE hA10 7 (es rfl l7_7)
 have l8_10 := lookE hA10 8 (es rfl l8_8)
 have l9_10 := lookE hA10 9 (et rfl)
 clear hA10 hsz7 hdf7 l1_7 l6_7 l7_7 l8_8
 refine then_n (hK9 _ _ ?_)
 clear hK9
 refine wp_seq_k fun K11 hK11 => ?_
 refine cond_sure l9_10 (by decide +kernel) ?_
 refine wp_skip ?_
 refine then_n (hK11 _ _ ?_)
 clear hK11
 refine wp_seq_k fun K12 hK12 => ?_
 refine wp_block ?_
 refine wp_seq_k fun K13 hK13 => ?_
 refine region_in ?_
 have k14 : 0 < limL.length := by first | (simp; done) | decide +kernel
 obtain ⟨B14, O14, C14, hv14⟩ := (SlN.blk (ow_at (hS6.chq 0 rfl hc_6)) (by first | (simp; done) | decide +kernel))
 refine W_v rfl rfl (V_ixS (off := O14 + 0 * 4) 4 (0) rfl l6_10 l8_10 hv14 (by omega) k14 Try.underlying94 (by kernel_rfl) rfl) ?_
 refine W_r rfl rfl (VR_ldR (ys := limC ((Value.string ⟨#[99, 97, 114, 115]⟩), Value.int .i64 7, Value.int .i64 24, Value.func (.func 93) #[] #[])) rfl (et rfl) (SlN.row limC_len (ow_at (hS6.chq 0 rfl hc_6)) hv14 (show limL[0]? = some ((Value.string ⟨#[99, 97, 114, 115]⟩), Value.int .i64 7, Value.int .i64 24, Value.func (.func 93) #[] #[]) from rfl) rfl) Try.underlying98 rfl (by kernel_rfl)) ?_
 refine W_allocS (z := .agg #[.string ByteArray.empty, .int .i64 0, .int .i64 0, .nilFunc]) (zs := #[.string ByteArray.empty, .int .i64 0, .int .i64 0, .nilFunc]) hS6 rfl rfl rfl (by kernel_rfl) (by rfl) (fun g15 w15 c15 hc15 hS15 => ?_)
 replace hS15 : St w NoX [c15, c_6, c2] w15 := hS15
 refine W_stAS 0 hS15 rfl hc15 rfl rfl rfl (et rfl) (es rfl (et rfl)) (by first | (rw [List.all_toArray] <;> rfl) | (simp only [List.all_toArray, List.all_cons, List.all_nil] <;> rfl)) (by rfl) (by kernel_rfl) (fun w16 c16 hc16 hS16 => ?_)
 replace hS16 : St w NoX [c16, c_6, c2] w16 := hS16
 refine W_end (gen_Q fun A17 hA17 => ?_)
 have hsz17 := szq hA17
 have hdf17 := dfE hA17 hdf10
 have l1_17 := ek3 hA17 1 rfl l1_10
 have l4_17 := lookE hA17 4 (et rfl)
 have l6_17 := ek3 hA17 6 rfl l6_10
 have l7_17 := ek3 hA17 7 rfl l7_10
 have l8_17 := ek3 hA17 8 rfl l8_10
 clear hA17 hsz10 hdf10 l1_10 l6_10 l7_10 l8_10 l9_10
 refine then_n (hK13 _ _ ?_)
 clear hK13
 refine wp_seq_k fun K18 hK18 => ?_
 refine region_in ?_
 refine W_v rfl rfl (V_fa (off' := 3) rfl l4_17 Try.underlying98 rfl (by decide +kernel) rfl) ?_
 refine W_r rfl rfl (VR_ldC rfl (et rfl) (cell_box (v := .func (.func 93) #[] #[]) (hS16.obj 0 rfl hc16) rfl) Try.underlying96 rfl) ?_
 refine W_callV rfl rfl rfl (et rfl) Try.func93 (by kernel_rfl) rfl (args1 (e2 rfl l1_17)) (klim1_c (g := g2)  ) ?_
 rintro _ w19 ⟨rfl, hP19⟩
 refine ⟨_, rfl, ?_⟩
 have hS19 := hS16.join hP19
 replace hS19 : St w NoX [c16, c_6, c2] w19 := hS19
 refine W_v rfl rfl (V_nil rfl (et rfl)) ?_
 refine W_r rfl rfl (VR_ldC rfl (et rfl) (cell_box (v := .int .i64 (N)) (hS19.obj 2 rfl hc2) rfl) Try.underlying3 rfl) ?_
 refine W_v rfl rfl (V_asg rfl (et rfl)) ?_
 refine W_end (gen_Q fun A20 hA20 => ?_)
 have hsz20 := szq hA20
 have hdf20 := dfE hA20 hdf17
 have l1_20 := ek6 hA20 1 rfl l1_17
 have l4_20 := ek6 hA20 4 rfl l4_17
 have l5_20 := lookE hA20 5 (et rfl)
 have l6_20 := ek6 hA20 6 rfl l6_17
 have l7_20 := ek6 hA20 7 rfl l7_17
 have l8_20 := ek6 hA20 8 rfl l8_17
 clear hA20 hsz17 hdf17 l1_17 l4_17 l6_17 l7_17 l8_17
 refine then_n (hK18 _ _ ?_)
 clear hK18
 refine wp_seq_k fun K21 hK21 => ?_
 refine region_in ?_
 refine W_v rfl rfl (V_mov rfl l5_20) ?_
 refine W_v rfl rfl (V_fa (off' := 1) rfl (es rfl l4_20) Try.underlying98 rfl (by decide +kernel) rfl) ?_
 refine W_r rfl rfl (VR_ldC rfl (et rfl) (cell_box (v := .int .i64 7) (hS19.obj 0 rfl hc16) rfl) Try.underlying3 rfl) ?_
 refine W_v rfl rfl (V_lss rfl (e2 rfl (et rfl)) (et rfl)) ?_
 refine W_split rfl rfl (V_mov rfl (et rfl)) (fun c22 => ?_) (fun c22 => ?_)
 ·refine W_off rfl (wanted_f rfl rfl (et rfl) (ez rfl) rfl) ?_
  refine W_off rfl (wanted_f rfl rfl (es rfl (et rfl)) (ez rfl) rfl) ?_
  refine W_off rfl (wanted_f rfl rfl (e2 rfl (et rfl)) (ez rfl) rfl) ?_
  refine W_off rfl (wanted_f rfl rfl (e3 rfl (et rfl)) (ez rfl) rfl) ?_
  refine W_v rfl rfl (V_pickT rfl (e4 rfl (et rfl)) rfl) ?_
  refine W_end (gen_Q fun A23 hA23 => ?_)
  have hsz23 := szq hA23
  have hdf23 := dfE hA23 hdf20
  have l1_23 := ek10 hA23 1 rfl l1_20
  have l6_23 := ek10 hA23 6 rfl l6_20
  have l7_23 := ek10 hA23 7 rfl l7_20
  have l8_23 := ek10 hA23 8 rfl l8_20
  have l22_23 := lookE hA23 22 (e4 rfl (et rfl))
  have l23_23 := lookE hA23 23 (e3 rfl (et rfl))
  have l24_23 := lookE hA23 24 (e2 rfl (et rfl))
  have l25_23 := lookE hA23 25 (es rfl (et rfl))
  have l26_23 := lookE hA23 26 (et rfl)
  clear hA23 hsz20 hdf20 l1_20 l4_20 l5_20 l6_20 l7_20 l8_20
  have hS24 : St w NoX [c_6, c2] w19 := hS19.sel [1, 2] (by decide) rfl
  refine then_n (hK21 _ _ ?_)
  clear hK21
  refine cond_t l26_23 ?_
  refine wp_seq_k fun K25 hK25 => ?_
  refine region_in ?_
  refine W_v rfl rfl (V_asg rfl rfl) ?_
  refine W_end (gen_Q fun A26 hA26 => ?_)
  have hsz26 := szq hA26
  have hdf26 := dfE hA26 hdf23
  have l2_26 := lookE hA26 2 (et rfl)
  clear hA26 hsz23 hdf23 l1_23 l6_23 l7_23 l8_23 l22_23 l23_23 l24_23 l25_23 l26_23
  have hS27 : St w NoX [] w19 := hS24.sel [] (by decide) rfl
  refine then_n (hK25 _ _ ?_)
  clear hK25
  refine wp_ret ?_
  refine inb_ret ?_
  refine then_ret ?_
  refine then_ret ?_
  refine inb_ret ?_
  refine then_ret ?_
  refine ret_in (results_1 Try.results40 (rv_tmp l2_26)) hdf26 ?_
  have he : (cfE C N Z K Q) = 7 := cf_bad (by omega)
  rw [he]
  exact ⟨rfl, hS27.fin0⟩
 ·refine W_v rfl (wanted_t rfl rfl (et rfl) (ez rfl)) (V_mov rfl (e5 rfl l5_20)) ?_
  refine W_v rfl (wanted_t rfl rfl (es rfl (et rfl)) (ez rfl)) (V_fa (off' := 2) rfl (e6 rfl l4_20) Try.underlying98 rfl (by decide +kernel) rfl) ?_
  refine W_r rfl (wanted_t rfl rfl (e2 rfl (et rfl)) (ez rfl)) (VR_ldC rfl (et rfl) (cell_box (v := .int .i64 24) (hS19.obj 0 rfl hc16) rfl) Try.underlying3 rfl) ?_
  refine W_v rfl (wanted_t rfl rfl (e3 rfl (et rfl)) (ez rfl)) (V_gtr rfl (e2 rfl (et rfl)) (et rfl)) ?_
  refine W_v rfl rfl (V_pickF rfl (e4 rfl (et rfl)) (et rfl)) ?_
  refine W_end (gen_Q fun A28 hA28 => ?_)
  have hsz28 := szq hA28
  have hdf28 := dfE hA28 hdf20
  have l1_28 := ek10 hA28 1 rfl l1_20
  have l6_28 := ek10 hA28 6 rfl l6_20
  have l7_28 := ek10 hA28 7 rfl l7_20
  have l8_28 := ek10 hA28 8 rfl l8_20
  have l22_28 := lookE hA28 22 (e4 rfl (et rfl))
  have l23_28 := lookE hA28 23 (e3 rfl (et rfl))
  have l24_28 := lookE hA28 24 (e2 rfl (et rfl))
  have l25_28 := lookE hA28 25 (es rfl (et rfl))
  have l26_28 := lookE hA28 26 (et rfl)
  clear hA28 hsz20 hdf20 l1_20 l4_20 l5_20 l6_20 l7_20 l8_20
  refine then_n (hK21 _ _ ?_)
  clear hK21
  refine cond_dec l26_28 (fun c29 => ?_) (fun c29 => ?_)
  ·refine wp_seq_k fun K30 hK30 => ?_
   refine region_in ?_
   refine W_v rfl rfl (V_asg rfl rfl) ?_
   refine W_end (gen_Q fun A31 hA31 => ?_)
   have hsz31 := szq hA31
   have hdf31 := dfE hA31 hdf28
   have l2_31 := lookE hA31 2 (et rfl)
   clear hA31 hsz28 hdf28 l1_28 l6_28 l7_28 l8_28 l22_28 l23_28 l24_28 l25_28 l26_28
   have hS32 : St w NoX [] w19 := hS19.sel [] (by decide) rfl
   refine then_n (hK30 _ _ ?_)
   clear hK30
   refine wp_ret ?_
   refine inb_ret ?_
   refine then_ret ?_
   refine then_ret ?_
   refine inb_ret ?_
   refine then_ret ?_
   refine ret_in (results_1 Try.results40 (rv_tmp l2_31)) hdf31 ?_
   have he : (cfE C N Z K Q) = 7 := cf_bad (by omega)
   rw [he]
   exact ⟨rfl, hS32.fin0⟩
  ·refine wp_skip ?_
   refine inb_n ?_
   refine then_n (hK12 _ _ ?_)
   clear hK12
   refine region_in ?_
   refine W_v rfl rfl (V_add rfl l8_28 rfl (by omega) (by omega)) ?_
   refine W_v rfl rfl (V_mov rfl (et rfl)) ?_
   refine W_end (gen_Q fun A33 hA33 => ?_)
   have hsz33 := szq hA33
   have hdf33 := dfE hA33 hdf28
   have l1_33 := ek2 hA33 1 rfl l1_28
   have l6_33 := ek2 hA33 6 rfl l6_28
   have l7_33 := ek2 hA33 7 rfl l7_28
   have l8_33 := lookE hA33 8 (et rfl)
   have l22_33 := ek2 hA33 22 rfl l22_28
   have l23_33 := ek2 hA33 23 rfl l23_28
   have l24_33 := ek2 hA33 24 rfl l24_28
   have l25_33 := ek2 hA33 25 rfl l25_28
   clear hA33 hsz28 hdf28 l1_28 l6_28 l7_28 l8_28 l22_28 l23_28 l24_28 l25_28 l26_28
   refine then_n ?_
   refine LW_step ?_
   have l8_34 : EV A33 (.tmp 8) = .int .i64 (1 : Int) := l8_33
   refine wp_seq_k fun K35 hK35 => ?_
   refine region_in ?_
   refine W_v rfl rfl (V_lss rfl l8_34 l7_33) ?_
   refine W_end (gen_Q fun A36 hA36 => ?_)
   have hsz36 := szq hA36
   have hdf36 := dfE hA36 hdf33
   have l1_36 := lookE hA36 1 (es rfl l1_33)
   have l6_36 := lookE hA36 6 (es rfl l6_33)
   have l7_36 := lookE hA36 7 (es rfl l7_33)
   have l8_36 := lookE hA36 8 (es rfl l8_34)
   have l9_36 := lookE hA36 9 (et rfl)
   have l22_36 := lookE hA36 22 (es rfl l22_33)
   have l23_36 := lookE hA36 23 (es rfl l23_33)
   have l24_36 := lookE hA36 24 (es rfl l24_33)
   have l25_36 := lookE hA36 25 (es rfl l25_33)
   clear hA36 hsz33 hdf33 l1_33 l6_33 l7_33 l8_34 l22_33 l23_33 l24_33 l25_33
   refine then_n (hK35 _ _ ?_)
   clear hK35
   refine wp_seq_k fun K37 hK37 => ?_
   refine cond_sure l9_36 (by decide +kernel) ?_
   refine wp_skip ?_
   refine then_n (hK37 _ _ ?_)
   clear hK37
   refine wp_seq_k fun K38 hK38 => ?_
   refine wp_block ?_
   refine wp_seq_k fun K39 hK39 => ?_
   refine region_in ?_
   have k40 : 1 < limL.length := by first | (simp; done) | decide +kernel
   refine W_v rfl rfl (V_ixS (off := O14 + 1 * 4) 4 (1) rfl l6_36 l8_36 hv14 (by omega) k40 Try.underlying94 (by kernel_rfl) rfl) ?_
   refine W_r rfl rfl (VR_ldR (ys := limC ((Value.string ⟨#[111, 102]⟩), Value.int .i64 8, Value.int .i64 64, Value.func (.func 94) #[] #[])) rfl (et rfl) (SlN.row limC_len (ow_at (hS19.chq 1 rfl hc_6)) hv14 (show limL[1]? = some ((Value.string ⟨#[111, 102]⟩), Value.int .i64 8, Value.int .i64 64, Value.func (.func 94) #[] #[]) from rfl) rfl) Try.underlying98 rfl (by kernel_rfl)) ?_
   refine W_allocS (z := .agg #[.string ByteArray.empty, .int .i64 0, .int .i64 0, .nilFunc]) (zs := #[.string ByteArray.empty, .int .i64 0, .int .i64 0, .nilFunc]) hS19 rfl rfl rfl (by kernel_rfl) (by rfl) (fun g41 w41 c41 hc41 hS41 => ?_)
   replace hS41 : St w NoX [c41, c16, c_6, c2] w41 := hS41
   refine W_stAS 0 hS41 rfl hc41 rfl rfl rfl (et rfl) (es rfl (et rfl)) (by first | (rw [List.all_toArray] <;> rfl) | (simp only [List.all_toArray, List.all_cons, List.all_nil] <;> rfl)) (by rfl) (by kernel_rfl) (fun w42 c42 hc42 hS42 => ?_)
   replace hS42 : St w NoX [c42, c16, c_6, c2] w42 := hS42
   refine W_end (gen_Q fun A43 hA43 => ?_)
   have hsz43 := szq hA43
   have hdf43 := dfE hA43 hdf36
   have l1_43 := ek3 hA43 1 rfl l1_36
   have l4_43 := lookE hA43 4 (et rfl)
   have l6_43 := ek3 hA43 6 rfl l6_36
   have l7_43 := ek3 hA43 7 rfl l7_36
   have l8_43 := ek3 hA43 8 rfl l8_36
   have l22_43 := ek3 hA43 22 rfl l22_36
   have l23_43 := ek3 hA43 23 rfl l23_36
   have l24_43 := ek3 hA43 24 rfl l24_36
   have l25_43 := ek3 hA43 25 rfl l25_36
   clear hA43 hsz36 hdf36 l1_36 l6_36 l7_36 l8_36 l9_36 l22_36 l23_36 l24_36 l25_36
   refine then_n (hK39 _ _ ?_)
   clear hK39
   refine wp_seq_k fun K44 hK44 => ?_
   refine region_in ?_
   refine W_v rfl rfl (V_fa (off' := 3) rfl l4_43 Try.underlying98 rfl (by decide +kernel) rfl) ?_
   refine W_r rfl rfl (VR_ldC rfl (et rfl) (cell_box (v := .func (.func 94) #[] #[]) (hS42.obj 0 rfl hc42) rfl) Try.underlying96 rfl) ?_
   refine W_callV rfl rfl rfl (et rfl) Try.func94 (by kernel_rfl) rfl (args1 (e2 rfl l1_43)) (klim2_c (g := g2)  ) ?_
   rintro _ w45 ⟨rfl, hP45⟩
   refine ⟨_, rfl, ?_⟩
   have hS45 := hS42.join hP45
   replace hS45 : St w NoX [c42, c16, c_6, c2] w45 := hS45
   refine W_v rfl rfl (V_nil rfl (et rfl)) ?_
   refine W_r rfl rfl (VR_ldC rfl (et rfl) (cell_box (v := .int .i64 (C)) (hS45.obj 3 rfl hc2) rfl) Try.underlying3 rfl) ?_
   refine W_v rfl rfl (V_asg rfl (et rfl)) ?_
   refine W_end (gen_Q fun A46 hA46 => ?_)
   have hsz46 := szq hA46
   have hdf46 := dfE hA46 hdf43
   have l1_46 := ek6 hA46 1 rfl l1_43
   have l4_46 := ek6 hA46 4 rfl l4_43
   have l5_46 := lookE hA46 5 (et rfl)
   have l6_46 := ek6 hA46 6 rfl l6_43
   have l7_46 := ek6 hA46 7 rfl l7_43
   have l8_46 := ek6 hA46 8 rfl l8_43
   have l22_46 := ek6 hA46 22 rfl l22_43
   have l23_46 := ek6 hA46 23 rfl l23_43
   have l24_46 := ek6 hA46 24 rfl l24_43
   have l25_46 := ek6 hA46 25 rfl l25_43
   clear hA46 hsz43 hdf43 l1_43 l4_43 l6_43 l7_43 l8_43 l22_43 l23_43 l24_43 l25_43
   refine then_n (hK44 _ _ ?_)
   clear hK44
   refine wp_seq_k fun K47 hK47 => ?_
   refine region_in ?_
   refine W_v rfl rfl (V_mov rfl l5_46) ?_
   refine W_v rfl rfl (V_fa (off' := 1) rfl (es rfl l4_46) Try.underlying98 rfl (by decide +kernel) rfl) ?_
   refine W_r rfl rfl (VR_ldC rfl (et rfl) (cell_box (v := .int .i64 8) (hS45.obj 0 rfl hc42) rfl) Try.underlying3 rfl) ?_
   refine W_v rfl rfl (V_lss rfl (e2 rfl (et rfl)) (et rfl)) ?_
   refine W_split rfl rfl (V_mov rfl (et rfl)) (fun c48 => ?_) (fun c48 => ?_)
   ·refine W_off rfl (wanted_f rfl rfl (et rfl) (ez rfl) rfl) ?_
    refine W_off rfl (wanted_f rfl rfl (es rfl (et rfl)) (ez rfl) rfl) ?_
    refine W_off rfl (wanted_f rfl rfl (e2 rfl (et rfl)) (ez rfl) rfl) ?_
    refine W_off rfl (wanted_f rfl rfl (e3 rfl (et rfl)) (ez rfl) rfl) ?_
    refine W_v rfl rfl (V_pickT rfl (e4 rfl (et rfl)) rfl) ?_
    refine W_end (gen_Q fun A49 hA49 => ?_)
    have hsz49 := szq hA49
    have hdf49 := dfE hA49 hdf46
    have l1_49 := ek10 hA49 1 rfl l1_46
    have l6_49 := ek10 hA49 6 rfl l6_46
    have l7_49 := ek10 hA49 7 rfl l7_46
    have l8_49 := ek10 hA49 8 rfl l8_46
    have l22_49 := lookE hA49 22 (e4 rfl (et rfl))
    have l23_49 := lookE hA49 23 (e3 rfl (et rfl))
    have l24_49 := lookE hA49 24 (e2 rfl (et rfl))
    have l25_49 := lookE hA49 25 (es rfl (et rfl))
    have l26_49 := lookE hA49 26 (et rfl)
    clear hA49 hsz46 hdf46 l1_46 l4_46 l5_46 l6_46 l7_46 l8_46 l22_46 l23_46 l24_46 l25_46
    have hS50 : St w NoX [c_6, c2] w45 := hS45.sel [2, 3] (by decide) rfl
    refine then_n (hK47 _ _ ?_)
    clear hK47
    refine cond_t l26_49 ?_
    refine wp_seq_k fun K51 hK51 => ?_
    refine region_in ?_
    refine W_v rfl rfl (V_asg rfl rfl) ?_
    refine W_end (gen_Q fun A52 hA52 => ?_)
    have hsz52 := szq hA52
    have hdf52 := dfE hA52 hdf49
    have l2_52 := lookE hA52 2 (et rfl)
    clear hA52 hsz49 hdf49 l1_49 l6_49 l7_49 l8_49 l22_49 l23_49 l24_49 l25_49 l26_49
    have hS53 : St w NoX [] w45 := hS50.sel [] (by decide) rfl
    refine then_n (hK51 _ _ ?_)
    clear hK51
    refine wp_ret ?_
    refine inb_ret ?_
    refine then_ret ?_
    refine then_ret ?_
    refine inb_ret ?_
    refine then_ret ?_
    refine ret_in (results_1 Try.results40 (rv_tmp l2_52)) hdf52 ?_
    have he : (cfE C N Z K Q) = 7 := cf_bad (by omega)
    rw [he]
    exact ⟨rfl, hS53.fin0⟩
   ·refine W_v rfl (wanted_t rfl rfl (et rfl) (ez rfl)) (V_mov rfl (e5 rfl l5_46)) ?_
    refine W_v rfl (wanted_t rfl rfl (es rfl (et rfl)) (ez rfl)) (V_fa (off' := 2) rfl (e6 rfl l4_46) Try.underlying98 rfl (by decide +kernel) rfl) ?_
    refine W_r rfl (wanted_t rfl rfl (e2 rfl (et rfl)) (ez rfl)) (VR_ldC rfl (et rfl) (cell_box (v := .int .i64 64) (hS45.obj 0 rfl hc42) rfl) Try.underlying3 rfl) ?_
    refine W_v rfl (wanted_t rfl rfl (e3 rfl (et rfl)) (ez rfl)) (V_gtr rfl (e2 rfl (et rfl)) (et rfl)) ?_
    refine W_v rfl rfl (V_pickF rfl (e4 rfl (et rfl)) (et rfl)) ?_
    refine W_end (gen_Q fun A54 hA54 => ?_)
    have hsz54 := szq hA54
    have hdf54 := dfE hA54 hdf46
    have l1_54 := ek10 hA54 1 rfl l1_46
    have l6_54 := ek10 hA54 6 rfl l6_46
    have l7_54 := ek10 hA54 7 rfl l7_46
    have l8_54 := ek10 hA54 8 rfl l8_46
    have l22_54 := lookE hA54 22 (e4 rfl (et rfl))
    have l23_54 := lookE hA54 23 (e3 rfl (et rfl))
    have l24_54 := lookE hA54 24 (e2 rfl (et rfl))
    have l25_54 := lookE hA54 25 (es rfl (et rfl))
    have l26_54 := lookE hA54 26 (et rfl)
    clear hA54 hsz46 hdf46 l1_46 l4_46 l5_46 l6_46 l7_46 l8_46 l22_46 l23_46 l24_46 l25_46
    have hS55 : St w NoX [c42, c_6, c2] w45 := hS45.sel [0, 2, 3] (by decide) rfl
    refine then_n (hK47 _ _ ?_)
    clear hK47
    refine cond_dec l26_54 (fun c56 => ?_) (fun c56 => ?_)
    ·refine wp_seq_k fun K57 hK57 => ?_
     refine region_in ?_
     refine W_v rfl rfl (V_asg rfl rfl) ?_
     refine W_end (gen_Q fun A58 hA58 => ?_)
     have hsz58 := szq hA58
     have hdf58 := dfE hA58 hdf54
     have l2_58 := lookE hA58 2 (et rfl)
     clear hA58 hsz54 hdf54 l1_54 l6_54 l7_54 l8_54 l22_54 l23_54 l24_54 l25_54 l26_54
     have hS59 : St w NoX [] w45 := hS55.sel [] (by decide) rfl
     refine then_n (hK57 _ _ ?_)
     clear hK57
     refine wp_ret ?_
     refine inb_ret ?_
     refine then_ret ?_
     refine then_ret ?_
     refine inb_ret ?_
     refine then_ret ?_
     refine ret_in (results_1 Try.results40 (rv_tmp l2_58)) hdf58 ?_
     have he : (cfE C N Z K Q) = 7 := cf_bad (by omega)
     rw [he]
     exact ⟨rfl, hS59.fin0⟩
    ·refine wp_skip ?_
     refine inb_n ?_
     refine then_n (hK38 _ _ ?_)
     clear hK38
     refine region_in ?_
     refine W_v rfl rfl (V_add rfl l8_54 rfl (by omega) (by omega)) ?_
     refine W_v rfl rfl (V_mov rfl (et rfl)) ?_
     refine W_end (gen_Q fun A60 hA60 => ?_)
     have hsz60 := szq hA60
     have hdf60 := dfE hA60 hdf54
     have l1_60 := ek2 hA60 1 rfl l1_54
     have l6_60 := ek2 hA60 6 rfl l6_54
     have l7_60 := ek2 hA60 7 rfl l7_54
     have l8_60 := lookE hA60 8 (et rfl)
     have l22_60 := ek2 hA60 22 rfl l22_54
     have l23_60 := ek2 hA60 23 rfl l23_54
     have l24_60 := ek2 hA60 24 rfl l24_54
     have l25_60 := ek2 hA60 25 rfl l25_54
     clear hA60 hsz54 hdf54 l1_54 l6_54 l7_54 l8_54 l22_54 l23_54 l24_54 l25_54 l26_54
     refine then_n ?_
     refine LW_step ?_
     have l8_61 : EV A60 (.tmp 8) = .int .i64 (2 : Int) := l8_60
     refine wp_seq_k fun K62 hK62 => ?_
     refine region_in ?_
     refine W_v rfl rfl (V_lss rfl l8_61 l7_60) ?_
     refine W_end (gen_Q fun A63 hA63 => ?_)
     have hsz63 := szq hA63
     have hdf63 := dfE hA63 hdf60
     have l1_63 := lookE hA63 1 (es rfl l1_60)
     have l6_63 := lookE hA63 6 (es rfl l6_60)
     have l7_63 := lookE hA63 7 (es rfl l7_60)
     have l8_63 := lookE hA63 8 (es rfl l8_61)
     have l9_63 := lookE hA63 9 (et rfl)
     have l22_63 := lookE hA63 22 (es rfl l22_60)
     have l23_63 := lookE hA63 23 (es rfl l23_60)
     have l24_63 := lookE hA63 24 (es rfl l24_60)
     have l25_63 := lookE hA63 25 (es rfl l25_60)
     clear hA63 hsz60 hdf60 l1_60 l6_60 l7_60 l8_61 l22_60 l23_60 l24_60 l25_60
     refine then_n (hK62 _ _ ?_)
     clear hK62
     refine wp_seq_k fun K64 hK64 => ?_
     refine cond_sure l9_63 (by decide +kernel) ?_
     refine wp_skip ?_
     refine then_n (hK64 _ _ ?_)
     clear hK64
     refine wp_seq_k fun K65 hK65 => ?_
     refine wp_block ?_
     refine wp_seq_k fun K66 hK66 => ?_
     refine region_in ?_
     have k67 : 2 < limL.length := by first | (simp; done) | decide +kernel
     refine W_v rfl rfl (V_ixS (off := O14 + 2 * 4) 4 (2) rfl l6_63 l8_63 hv14 (by omega) k67 Try.underlying94 (by kernel_rfl) rfl) ?_
     refine W_r rfl rfl (VR_ldR (ys := limC ((Value.string ⟨#[110, 117, 114, 115, 101, 114, 121]⟩), Value.int .i64 4, Value.int .i64 64, Value.func (.func 95) #[] #[])) rfl (et rfl) (SlN.row limC_len (ow_at (hS55.chq 1 rfl hc_6)) hv14 (show limL[2]? = some ((Value.string ⟨#[110, 117, 114, 115, 101, 114, 121]⟩), Value.int .i64 4, Value.int .i64 64, Value.func (.func 95) #[] #[]) from rfl) rfl) Try.underlying98 rfl (by kernel_rfl)) ?_
     refine W_allocS (z := .agg #[.string ByteArray.empty, .int .i64 0, .int .i64 0, .nilFunc]) (zs := #[.string ByteArray.empty, .int .i64 0, .int .i64 0, .nilFunc]) hS55 rfl rfl rfl (by kernel_rfl) (by rfl) (fun g68 w68 c68 hc68 hS68 => ?_)
     replace hS68 : St w NoX [c68, c42, c_6, c2] w68 := hS68
     refine W_stAS 0 hS68 rfl hc68 rfl rfl rfl (et rfl) (es rfl (et rfl)) (by first | (rw [List.all_toArray] <;> rfl) | (simp only [List.all_toArray, List.all_cons, List.all_nil] <;> rfl)) (by rfl) (by kernel_rfl) (fun w69 c69 hc69 hS69 => ?_)
     replace hS69 : St w NoX [c69, c42, c_6, c2] w69 := hS69
     refine W_end (gen_Q fun A70 hA70 => ?_)
     have hsz70 := szq hA70
     have hdf70 := dfE hA70 hdf63
     have l1_70 := ek3 hA70 1 rfl l1_63
     have l4_70 := lookE hA70 4 (et rfl)
     have l6_70 := ek3 hA70 6 rfl l6_63
     have l7_70 := ek3 hA70 7 rfl l7_63
     have l8_70 := ek3 hA70 8 rfl l8_63
     have l22_70 := ek3 hA70 22 rfl l22_63
     have l23_70 := ek3 hA70 23 rfl l23_63
     have l24_70 := ek3 hA70 24 rfl l24_63
     have l25_70 := ek3 hA70 25 rfl l25_63
     clear hA70 hsz63 hdf63 l1_63 l6_63 l7_63 l8_63 l9_63 l22_63 l23_63 l24_63 l25_63
     refine then_n (hK66 _ _ ?_)
     clear hK66
     refine wp_seq_k fun K71 hK71 => ?_
     refine region_in ?_
     refine W_v rfl rfl (V_fa (off' := 3) rfl l4_70 Try.underlying98 rfl (by decide +kernel) rfl) ?_
     refine W_r rfl rfl (VR_ldC rfl (et rfl) (cell_box (v := .func (.func 95) #[] #[]) (hS69.obj 0 rfl hc69) rfl) Try.underlying96 rfl) ?_
     refine W_callV rfl rfl rfl (et rfl) Try.func95 (by kernel_rfl) rfl (args1 (e2 rfl l1_70)) (klim3_c (g := g2)  ) ?_
     rintro _ w72 ⟨rfl, hP72⟩
     refine ⟨_, rfl, ?_⟩
     have hS72 := hS69.join hP72
     replace hS72 : St w NoX [c69, c42, c_6, c2] w72 := hS72
     refine W_v rfl rfl (V_nil rfl (et rfl)) ?_
     refine W_r rfl rfl (VR_ldC rfl (et rfl) (cell_box (v := .int .i64 (Z)) (hS72.obj 3 rfl hc2) rfl) Try.underlying3 rfl) ?_
     refine W_v rfl rfl (V_asg rfl (et rfl)) ?_
     refine W_end (gen_Q fun A73 hA73 => ?_)
     have hsz73 := szq hA73
     have hdf73 := dfE hA73 hdf70
     have l1_73 := ek6 hA73 1 rfl l1_70
     have l4_73 := ek6 hA73 4 rfl l4_70
     have l5_73 := lookE hA73 5 (et rfl)
     have l6_73 := ek6 hA73 6 rfl l6_70
     have l7_73 := ek6 hA73 7 rfl l7_70
     have l8_73 := ek6 hA73 8 rfl l8_70
     have l22_73 := ek6 hA73 22 rfl l22_70
     have l23_73 := ek6 hA73 23 rfl l23_70
     have l24_73 := ek6 hA73 24 rfl l24_70
     have l25_73 := ek6 hA73 25 rfl l25_70
     clear hA73 hsz70 hdf70 l1_70 l4_70 l6_70 l7_70 l8_70 l22_70 l23_70 l24_70 l25_70
     refine then_n (hK71 _ _ ?_)
     clear hK71
     refine wp_seq_k fun K74 hK74 => ?_
     refine region_in ?_
     refine W_v rfl rfl (V_mov rfl l5_73) ?_
     refine W_v rfl rfl (V_fa (off' := 1) rfl (es rfl l4_73) Try.underlying98 rfl (by decide +kernel) rfl) ?_
     refine W_r rfl rfl (VR_ldC rfl (et rfl) (cell_box (v := .int .i64 4) (hS72.obj 0 rfl hc69) rfl) Try.underlying3 rfl) ?_
     refine W_v rfl rfl (V_lss rfl (e2 rfl (et rfl)) (et rfl)) ?_
     refine W_split rfl rfl (V_mov rfl (et rfl)) (fun c75 => ?_) (fun c75 => ?_)
     ·refine W_off rfl (wanted_f rfl rfl (et rfl) (ez rfl) rfl) ?_
      refine W_off rfl (wanted_f rfl rfl (es rfl (et rfl)) (ez rfl) rfl) ?_
      refine W_off rfl (wanted_f rfl rfl (e2 rfl (et rfl)) (ez rfl) rfl) ?_
      refine W_off rfl (wanted_f rfl rfl (e3 rfl (et rfl)) (ez rfl) rfl) ?_
      refine W_v rfl rfl (V_pickT rfl (e4 rfl (et rfl)) rfl) ?_
      refine W_end (gen_Q fun A76 hA76 => ?_)
      have hsz76 := szq hA76
      have hdf76 := dfE hA76 hdf73
      have l1_76 := ek10 hA76 1 rfl l1_73
      have l6_76 := ek10 hA76 6 rfl l6_73
      have l7_76 := ek10 hA76 7 rfl l7_73
      have l8_76 := ek10 hA76 8 rfl l8_73
      have l22_76 := lookE hA76 22 (e4 rfl (et rfl))
      have l23_76 := lookE hA76 23 (e3 rfl (et rfl))
      have l24_76 := lookE hA76 24 (e2 rfl (et rfl))
      have l25_76 := lookE hA76 25 (es rfl (et rfl))
      have l26_76 := lookE hA76 26 (et rfl)
      clear hA76 hsz73 hdf73 l1_73 l4_73 l5_73 l6_73 l7_73 l8_73 l22_73 l23_73 l24_73 l25_73
      have hS77 : St w NoX [c_6, c2] w72 := hS72.sel [2, 3] (by decide) rfl
      refine then_n (hK74 _ _ ?_)
      clear hK74
      refine cond_t l26_76 ?_
      refine wp_seq_k fun K78 hK78 => ?_
      refine region_in ?_
      refine W_v rfl rfl (V_asg rfl rfl) ?_
      refine W_end (gen_Q fun A79 hA79 => ?_)
      have hsz79 := szq hA79
      have hdf79 := dfE hA79 hdf76
      have l2_79 := lookE hA79 2 (et rfl)
      clear hA79 hsz76 hdf76 l1_76 l6_76 l7_76 l8_76 l22_76 l23_76 l24_76 l25_76 l26_76
      have hS80 : St w NoX [] w72 := hS77.sel [] (by decide) rfl
      refine then_n (hK78 _ _ ?_)
      clear hK78
      refine wp_ret ?_
      refine inb_ret ?_
      refine then_ret ?_
      refine then_ret ?_
      refine inb_ret ?_
      refine then_ret ?_
      refine ret_in (results_1 Try.results40 (rv_tmp l2_79)) hdf79 ?_
      have he : (cfE C N Z K Q) = 7 := cf_bad (by omega)
      rw [he]
      exact ⟨rfl, hS80.fin0⟩
     ·refine W_v rfl (wanted_t rfl rfl (et rfl) (ez rfl)) (V_mov rfl (e5 rfl l5_73)) ?_
      refine W_v rfl (wanted_t rfl rfl (es rfl (et rfl)) (ez rfl)) (V_fa (off' := 2) rfl (e6 rfl l4_73) Try.underlying98 rfl (by decide +kernel) rfl) ?_
      refine W_r rfl (wanted_t rfl rfl (e2 rfl (et rfl)) (ez rfl)) (VR_ldC rfl (et rfl) (cell_box (v := .int .i64 64) (hS72.obj 0 rfl hc69) rfl) Try.underlying3 rfl) ?_
      refine W_v rfl (wanted_t rfl rfl (e3 rfl (et rfl)) (ez rfl)) (V_gtr rfl (e2 rfl (et rfl)) (et rfl)) ?_
      refine W_v rfl rfl (V_pickF rfl (e4 rfl (et rfl)) (et rfl)) ?_
      refine W_end (gen_Q fun A81 hA81 => ?_)
      have hsz81 := szq hA81
      have hdf81 := dfE hA81 hdf73
      have l1_81 := ek10 hA81 1 rfl l1_73
      have l6_81 := ek10 hA81 6 rfl l6_73
      have l7_81 := ek10 hA81 7 rfl l7_73
      have l8_81 := ek10 hA81 8 rfl l8_73
      have l22_81 := lookE hA81 22 (e4 rfl (et rfl))
      have l23_81 := lookE hA81 23 (e3 rfl (et rfl))
      have l24_81 := lookE hA81 24 (e2 rfl (et rfl))
      have l25_81 := lookE hA81 25 (es rfl (et rfl))
      have l26_81 := lookE hA81 26 (et rfl)
      clear hA81 hsz73 hdf73 l1_73 l4_73 l5_73 l6_73 l7_73 l8_73 l22_73 l23_73 l24_73 l25_73
      have hS82 : St w NoX [c69, c_6, c2] w72 := hS72.sel [0, 2, 3] (by decide) rfl
      refine then_n (hK74 _ _ ?_)
      clear hK74
      refine cond_dec l26_81 (fun c83 => ?_) (fun c83 => ?_)
      ·refine wp_seq_k fun K84 hK84 => ?_
       refine region_in ?_
       refine W_v rfl rfl (V_asg rfl rfl) ?_
       refine W_end (gen_Q fun A85 hA85 => ?_)
       have hsz85 := szq hA85
       have hdf85 := dfE hA85 hdf81
       have l2_85 := lookE hA85 2 (et rfl)
       clear hA85 hsz81 hdf81 l1_81 l6_81 l7_81 l8_81 l22_81 l23_81 l24_81 l25_81 l26_81
       have hS86 : St w NoX [] w72 := hS82.sel [] (by decide) rfl
       refine then_n (hK84 _ _ ?_)
       clear hK84
       refine wp_ret ?_
       refine inb_ret ?_
       refine then_ret ?_
       refine then_ret ?_
       refine inb_ret ?_
       refine then_ret ?_
       refine ret_in (results_1 Try.results40 (rv_tmp l2_85)) hdf85 ?_
       have he : (cfE C N Z K Q) = 7 := cf_bad (by omega)
       rw [he]
       exact ⟨rfl, hS86.fin0⟩
      ·refine wp_skip ?_
       refine inb_n ?_
       refine then_n (hK65 _ _ ?_)
       clear hK65
       refine region_in ?_
       refine W_v rfl rfl (V_add rfl l8_81 rfl (by omega) (by omega)) ?_
       refine W_v rfl rfl (V_mov rfl (et rfl)) ?_
       refine W_end (gen_Q fun A87 hA87 => ?_)
       have hsz87 := szq hA87
       have hdf87 := dfE hA87 hdf81
       have l1_87 := ek2 hA87 1 rfl l1_81
       have l6_87 := ek2 hA87 6 rfl l6_81
       have l7_87 := ek2 hA87 7 rfl l7_81
       have l8_87 := lookE hA87 8 (et rfl)
       have l22_87 := ek2 hA87 22 rfl l22_81
       have l23_87 := ek2 hA87 23 rfl l23_81
       have l24_87 := ek2 hA87 24 rfl l24_81
       have l25_87 := ek2 hA87 25 rfl l25_81
       clear hA87 hsz81 hdf81 l1_81 l6_81 l7_81 l8_81 l22_81 l23_81 l24_81 l25_81 l26_81
       refine then_n ?_
       refine LW_step ?_
       have l8_88 : EV A87 (.tmp 8) = .int .i64 (3 : Int) := l8_87
       refine wp_seq_k fun K89 hK89 => ?_
       refine region_in ?_
       refine W_v rfl rfl (V_lss rfl l8_88 l7_87) ?_
       refine W_end (gen_Q fun A90 hA90 => ?_)
       have hsz90 := szq hA90
       have hdf90 := dfE hA90 hdf87
       have l1_90 := lookE hA90 1 (es rfl l1_87)
       have l6_90 := lookE hA90 6 (es rfl l6_87)
       have l7_90 := lookE hA90 7 (es rfl l7_87)
       have l8_90 := lookE hA90 8 (es rfl l8_88)
       have l9_90 := lookE hA90 9 (et rfl)
       have l22_90 := lookE hA90 22 (es rfl l22_87)
       have l23_90 := lookE hA90 23 (es rfl l23_87)
       have l24_90 := lookE hA90 24 (es rfl l24_87)
       have l25_90 := lookE hA90 25 (es rfl l25_87)
       clear hA90 hsz87 hdf87 l1_87 l6_87 l7_87 l8_88 l22_87 l23_87 l24_87 l25_87
       refine then_n (hK89 _ _ ?_)
       clear hK89
       refine wp_seq_k fun K91 hK91 => ?_
       refine cond_sure l9_90 (by decide +kernel) ?_
       refine wp_skip ?_
       refine then_n (hK91 _ _ ?_)
       clear hK91
       refine wp_seq_k fun K92 hK92 => ?_
       refine wp_block ?_
       refine wp_seq_k fun K93 hK93 => ?_
       refine region_in ?_
       have k94 : 3 < limL.length := by first | (simp; done) | decide +kernel
       refine W_v rfl rfl (V_ixS (off := O14 + 3 * 4) 4 (3) rfl l6_90 l8_90 hv14 (by omega) k94 Try.underlying94 (by kernel_rfl) rfl) ?_
       refine W_r rfl rfl (VR_ldR (ys := limC ((Value.string ⟨#[114, 101, 103, 105, 115, 116, 101, 114, 115]⟩), Value.int .i64 1, Value.int .i64 8, Value.func (.func 96) #[] #[])) rfl (et rfl) (SlN.row limC_len (ow_at (hS82.chq 1 rfl hc_6)) hv14 (show limL[3]? = some ((Value.string ⟨#[114, 101, 103, 105, 115, 116, 101, 114, 115]⟩), Value.int .i64 1, Value.int .i64 8, Value.func (.func 96) #[] #[]) from rfl) rfl) Try.underlying98 rfl (by kernel_rfl)) ?_
       refine W_allocS (z := .agg #[.string ByteArray.empty, .int .i64 0, .int .i64 0, .nilFunc]) (zs := #[.string ByteArray.empty, .int .i64 0, .int .i64 0, .nilFunc]) hS82 rfl rfl rfl (by kernel_rfl) (by rfl) (fun g95 w95 c95 hc95 hS95 => ?_)
       replace hS95 : St w NoX [c95, c69, c_6, c2] w95 := hS95
       refine W_stAS 0 hS95 rfl hc95 rfl rfl rfl (et rfl) (es rfl (et rfl)) (by first | (rw [List.all_toArray] <;> rfl) | (simp only [List.all_toArray, List.all_cons, List.all_nil] <;> rfl)) (by rfl) (by kernel_rfl) (fun w96 c96 hc96 hS96 => ?_)
       replace hS96 : St w NoX [c96, c69, c_6, c2] w96 := hS96
       refine W_end (gen_Q fun A97 hA97 => ?_)
       have hsz97 := szq hA97
       have hdf97 := dfE hA97 hdf90
       have l1_97 := ek3 hA97 1 rfl l1_90
       have l4_97 := lookE hA97 4 (et rfl)
       have l6_97 := ek3 hA97 6 rfl l6_90
       have l7_97 := ek3 hA97 7 rfl l7_90
       have l8_97 := ek3 hA97 8 rfl l8_90
       have l22_97 := ek3 hA97 22 rfl l22_90
       have l23_97 := ek3 hA97 23 rfl l23_90
       have l24_97 := ek3 hA97 24 rfl l24_90
       have l25_97 := ek3 hA97 25 rfl l25_90
       clear hA97 hsz90 hdf90 l1_90 l6_90 l7_90 l8_90 l9_90 l22_90 l23_90 l24_90 l25_90
       refine then_n (hK93 _ _ ?_)
       clear hK93
       refine wp_seq_k fun K98 hK98 => ?_
       refine region_in ?_
       refine W_v rfl rfl (V_fa (off' := 3) rfl l4_97 Try.underlying98 rfl (by decide +kernel) rfl) ?_
       refine W_r rfl rfl (VR_ldC rfl (et rfl) (cell_box (v := .func (.func 96) #[] #[]) (hS96.obj 0 rfl hc96) rfl) Try.underlying96 rfl) ?_
       refine W_callV rfl rfl rfl (et rfl) Try.func96 (by kernel_rfl) rfl (args1 (e2 rfl l1_97)) (klim4_c (g := g2)  ) ?_
       rintro _ w99 ⟨rfl, hP99⟩
       refine ⟨_, rfl, ?_⟩
       have hS99 := hS96.join hP99
       replace hS99 : St w NoX [c96, c69, c_6, c2] w99 := hS99
       refine W_v rfl rfl (V_nil rfl (et rfl)) ?_
       refine W_r rfl rfl (VR_ldC rfl (et rfl) (cell_box (v := .int .i64 (K)) (hS99.obj 3 rfl hc2) rfl) Try.underlying3 rfl) ?_
       refine W_v rfl rfl (V_asg rfl (et rfl)) ?_
       refine W_end (gen_Q fun A100 hA100 => ?_)
       have hsz100 := szq hA100
       have hdf100 := dfE hA100 hdf97
       have l1_100 := ek6 hA100 1 rfl l1_97
       have l4_100 := ek6 hA100 4 rfl l4_97
       have l5_100 := lookE hA100 5 (et rfl)
       have l6_100 := ek6 hA100 6 rfl l6_97
       have l7_100 := ek6 hA100 7 rfl l7_97
       have l8_100 := ek6 hA100 8 rfl l8_97
       have l22_100 := ek6 hA100 22 rfl l22_97
       have l23_100 := ek6 hA100 23 rfl l23_97
       have l24_100 := ek6 hA100 24 rfl l24_97
       have l25_100 := ek6 hA100 25 rfl l25_97
       clear hA100 hsz97 hdf97 l1_97 l4_97 l6_97 l7_97 l8_97 l22_97 l23_97 l24_97 l25_97
       refine then_n (hK98 _ _ ?_)
       clear hK98
       refine wp_seq_k fun K101 hK101 => ?_
       refine region_in ?_
       refine W_v rfl rfl (V_mov rfl l5_100) ?_
       refine W_v rfl rfl (V_fa (off' := 1) rfl (es rfl l4_100) Try.underlying98 rfl (by decide +kernel) rfl) ?_
       refine W_r rfl rfl (VR_ldC rfl (et rfl) (cell_box (v := .int .i64 1) (hS99.obj 0 rfl hc96) rfl) Try.underlying3 rfl) ?_
       refine W_v rfl rfl (V_lss rfl (e2 rfl (et rfl)) (et rfl)) ?_
       refine W_split rfl rfl (V_mov rfl (et rfl)) (fun c102 => ?_) (fun c102 => ?_)
       ·refine W_off rfl (wanted_f rfl rfl (et rfl) (ez rfl) rfl) ?_
        refine W_off rfl (wanted_f rfl rfl (es rfl (et rfl)) (ez rfl) rfl) ?_
        refine W_off rfl (wanted_f rfl rfl (e2 rfl (et rfl)) (ez rfl) rfl) ?_
        refine W_off rfl (wanted_f rfl rfl (e3 rfl (et rfl)) (ez rfl) rfl) ?_
        refine W_v rfl rfl (V_pickT rfl (e4 rfl (et rfl)) rfl) ?_
        refine W_end (gen_Q fun A103 hA103 => ?_)
        have hsz103 := szq hA103
        have hdf103 := dfE hA103 hdf100
        have l1_103 := ek10 hA103 1 rfl l1_100
        have l6_103 := ek10 hA103 6 rfl l6_100
        have l7_103 := ek10 hA103 7 rfl l7_100
        have l8_103 := ek10 hA103 8 rfl l8_100
        have l22_103 := lookE hA103 22 (e4 rfl (et rfl))
        have l23_103 := lookE hA103 23 (e3 rfl (et rfl))
        have l24_103 := lookE hA103 24 (e2 rfl (et rfl))
        have l25_103 := lookE hA103 25 (es rfl (et rfl))
        have l26_103 := lookE hA103 26 (et rfl)
        clear hA103 hsz100 hdf100 l1_100 l4_100 l5_100 l6_100 l7_100 l8_100 l22_100 l23_100 l24_100 l25_100
        have hS104 : St w NoX [c_6, c2] w99 := hS99.sel [2, 3] (by decide) rfl
        refine then_n (hK101 _ _ ?_)
        clear hK101
        refine cond_t l26_103 ?_
        refine wp_seq_k fun K105 hK105 => ?_
        refine region_in ?_
        refine W_v rfl rfl (V_asg rfl rfl) ?_
        refine W_end (gen_Q fun A106 hA106 => ?_)
        have hsz106 := szq hA106
        have hdf106 := dfE hA106 hdf103
        have l2_106 := lookE hA106 2 (et rfl)
        clear hA106 hsz103 hdf103 l1_103 l6_103 l7_103 l8_103 l22_103 l23_103 l24_103 l25_103 l26_103
        have hS107 : St w NoX [] w99 := hS104.sel [] (by decide) rfl
        refine then_n (hK105 _ _ ?_)
        clear hK105
        refine wp_ret ?_
        refine inb_ret ?_
        refine then_ret ?_
        refine then_ret ?_
        refine inb_ret ?_
        refine then_ret ?_
        refine ret_in (results_1 Try.results40 (rv_tmp l2_106)) hdf106 ?_
        have he : (cfE C N Z K Q) = 7 := cf_bad (by omega)
        rw [he]
        exact ⟨rfl, hS107.fin0⟩
       ·refine W_v rfl (wanted_t rfl rfl (et rfl) (ez rfl)) (V_mov rfl (e5 rfl l5_100)) ?_
        refine W_v rfl (wanted_t rfl rfl (es rfl (et rfl)) (ez rfl)) (V_fa (off' := 2) rfl (e6 rfl l4_100) Try.underlying98 rfl (by decide +kernel) rfl) ?_
        refine W_r rfl (wanted_t rfl rfl (e2 rfl (et rfl)) (ez rfl)) (VR_ldC rfl (et rfl) (cell_box (v := .int .i64 8) (hS99.obj 0 rfl hc96) rfl) Try.underlying3 rfl) ?_
        refine W_v rfl (wanted_t rfl rfl (e3 rfl (et rfl)) (ez rfl)) (V_gtr rfl (e2 rfl (et rfl)) (et rfl)) ?_
        refine W_v rfl rfl (V_pickF rfl (e4 rfl (et rfl)) (et rfl)) ?_
        refine W_end (gen_Q fun A108 hA108 => ?_)
        have hsz108 := szq hA108
        have hdf108 := dfE hA108 hdf100
        have l1_108 := ek10 hA108 1 rfl l1_100
        have l6_108 := ek10 hA108 6 rfl l6_100
        have l7_108 := ek10 hA108 7 rfl l7_100
        have l8_108 := ek10 hA108 8 rfl l8_100
        have l22_108 := lookE hA108 22 (e4 rfl (et rfl))
        have l23_108 := lookE hA108 23 (e3 rfl (et rfl))
        have l24_108 := lookE hA108 24 (e2 rfl (et rfl))
        have l25_108 := lookE hA108 25 (es rfl (et rfl))
        have l26_108 := lookE hA108 26 (et rfl)
        clear hA108 hsz100 hdf100 l1_100 l4_100 l5_100 l6_100 l7_100 l8_100 l22_100 l23_100 l24_100 l25_100
        have hS109 : St w NoX [c96, c_6, c2] w99 := hS99.sel [0, 2, 3] (by decide) rfl
        refine then_n (hK101 _ _ ?_)
        clear hK101
        refine cond_dec l26_108 (fun c110 => ?_) (fun c110 => ?_)
        ·refine wp_seq_k fun K111 hK111 => ?_
         refine region_in ?_
         refine W_v rfl rfl (V_asg rfl rfl) ?_
         refine W_end (gen_Q fun A112 hA112 => ?_)
         have hsz112 := szq hA112
         have hdf112 := dfE hA112 hdf108
         have l2_112 := lookE hA112 2 (et rfl)
         clear hA112 hsz108 hdf108 l1_108 l6_108 l7_108 l8_108 l22_108 l23_108 l24_108 l25_108 l26_108
         have hS113 : St w NoX [] w99 := hS109.sel [] (by decide) rfl
         refine then_n (hK111 _ _ ?_)
         clear hK111
         refine wp_ret ?_
         refine inb_ret ?_
         refine then_ret ?_
         refine then_ret ?_
         refine inb_ret ?_
         refine then_ret ?_
         refine ret_in (results_1 Try.results40 (rv_tmp l2_112)) hdf112 ?_
         have he : (cfE C N Z K Q) = 7 := cf_bad (by omega)
         rw [he]
         exact ⟨rfl, hS113.fin0⟩
        ·refine wp_skip ?_
         refine inb_n ?_
         refine then_n (hK92 _ _ ?_)
         clear hK92
         refine region_in ?_
         refine W_v rfl rfl (V_add rfl l8_108 rfl (by omega) (by omega)) ?_
         refine W_v rfl rfl (V_mov rfl (et rfl)) ?_
         refine W_end (gen_Q fun A114 hA114 => ?_)
         have hsz114 := szq hA114
         have hdf114 := dfE hA114 hdf108
         have l1_114 := ek2 hA114 1 rfl l1_108
         have l6_114 := ek2 hA114 6 rfl l6_108
         have l7_114 := ek2 hA114 7 rfl l7_108
         have l8_114 := lookE hA114 8 (et rfl)
         have l22_114 := ek2 hA114 22 rfl l22_108
         have l23_114 := ek2 hA114 23 rfl l23_108
         have l24_114 := ek2 hA114 24 rfl l24_108
         have l25_114 := ek2 hA114 25 rfl l25_108
         clear hA114 hsz108 hdf108 l1_108 l6_108 l7_108 l8_108 l22_108 l23_108 l24_108 l25_108 l26_108
         refine then_n ?_
         refine LW_step ?_
         have l8_115 : EV A114 (.tmp 8) = .int .i64 (4 : Int) := l8_114
         refine wp_seq_k fun K116 hK116 => ?_
         refine region_in ?_
         refine W_v rfl rfl (V_lss rfl l8_115 l7_114) ?_
         refine W_end (gen_Q fun A117 hA117 => ?_)
         have hsz117 := szq hA117
         have hdf117 := dfE hA117 hdf114
         have l1_117 := lookE hA117 1 (es rfl l1_114)
         have l6_117 := lookE hA117 6 (es rfl l6_114)
         have l7_117 := lookE hA117 7 (es rfl l7_114)
         have l8_117 := lookE hA117 8 (es rfl l8_115)
         have l9_117 := lookE hA117 9 (et rfl)
         have l22_117 := lookE hA117 22 (es rfl l22_114)
         have l23_117 := lookE hA117 23 (es rfl l23_114)
         have l24_117 := lookE hA117 24 (es rfl l24_114)
         have l25_117 := lookE hA117 25 (es rfl l25_114)
         clear hA117 hsz114 hdf114 l1_114 l6_114 l7_114 l8_115 l22_114 l23_114 l24_114 l25_114
         refine then_n (hK116 _ _ ?_)
         clear hK116
         refine wp_seq_k fun K118 hK118 => ?_
         refine cond_sure l9_117 (by decide +kernel) ?_
         refine wp_skip ?_
         refine then_n (hK118 _ _ ?_)
         clear hK118
         refine wp_seq_k fun K119 hK119 => ?_
         refine wp_block ?_
         refine wp_seq_k fun K120 hK120 => ?_
         refine region_in ?_
         have k121 : 4 < limL.length := by first | (simp; done) | decide +kernel
         refine W_v rfl rfl (V_ixS (off := O14 + 4 * 4) 4 (4) rfl l6_117 l8_117 hv14 (by omega) k121 Try.underlying94 (by kernel_rfl) rfl) ?_
         refine W_r rfl rfl (VR_ldR (ys := limC ((Value.string ⟨#[112, 111, 112, 117, 108, 97, 114]⟩), Value.int .i64 2, Value.int .i64 16, Value.func (.func 97) #[] #[])) rfl (et rfl) (SlN.row limC_len (ow_at (hS109.chq 1 rfl hc_6)) hv14 (show limL[4]? = some ((Value.string ⟨#[112, 111, 112, 117, 108, 97, 114]⟩), Value.int .i64 2, Value.int .i64 16, Value.func (.func 97) #[] #[]) from rfl) rfl) Try.underlying98 rfl (by kernel_rfl)) ?_
         refine W_allocS (z := .agg #[.string ByteArray.empty, .int .i64 0, .int .i64 0, .nilFunc]) (zs := #[.string ByteArray.empty, .int .i64 0, .int .i64 0, .nilFunc]) hS109 rfl rfl rfl (by kernel_rfl) (by rfl) (fun g122 w122 c122 hc122 hS122 => ?_)
         replace hS122 : St w NoX [c122, c96, c_6, c2] w122 := hS122
         refine W_stAS 0 hS122 rfl hc122 rfl rfl rfl (et rfl) (es rfl (et rfl)) (by first | (rw [List.all_toArray] <;> rfl) | (simp only [List.all_toArray, List.all_cons, List.all_nil] <;> rfl)) (by rfl) (by kernel_rfl) (fun w123 c123 hc123 hS123 => ?_)
         replace hS123 : St w NoX [c123, c96, c_6, c2] w123 := hS123
         refine W_end (gen_Q fun A124 hA124 => ?_)
         have hsz124 := szq hA124
         have hdf124 := dfE hA124 hdf117
         have l1_124 := ek3 hA124 1 rfl l1_117
         have l4_124 := lookE hA124 4 (et rfl)
         have l6_124 := ek3 hA124 6 rfl l6_117
         have l7_124 := ek3 hA124 7 rfl l7_117
         have l8_124 := ek3 hA124 8 rfl l8_117
         have l22_124 := ek3 hA124 22 rfl l22_117
         have l23_124 := ek3 hA124 23 rfl l23_117
         have l24_124 := ek3 hA124 24 rfl l24_117
         have l25_124 := ek3 hA124 25 rfl l25_117
         clear hA124 hsz117 hdf117 l1_117 l6_117 l7_117 l8_117 l9_117 l22_117 l23_117 l24_117 l25_117
         refine then_n (hK120 _ _ ?_)
         clear hK120
         refine wp_seq_k fun K125 hK125 => ?_
         refine region_in ?_
         refine W_v rfl rfl (V_fa (off' := 3) rfl l4_124 Try.underlying98 rfl (by decide +kernel) rfl) ?_
         refine W_r rfl rfl (VR_ldC rfl (et rfl) (cell_box (v := .func (.func 97) #[] #[]) (hS123.obj 0 rfl hc123) rfl) Try.underlying96 rfl) ?_
         refine W_callV rfl rfl rfl (et rfl) Try.func97 (by kernel_rfl) rfl (args1 (e2 rfl l1_124)) (klim5_c (g := g2)  ) ?_
         rintro _ w126 ⟨rfl, hP126⟩
         refine ⟨_, rfl, ?_⟩
         have hS126 := hS123.join hP126
         replace hS126 : St w NoX [c123, c96, c_6, c2] w126 := hS126
         refine W_v rfl rfl (V_nil rfl (et rfl)) ?_
         refine W_r rfl rfl (VR_ldC rfl (et rfl) (cell_box (v := .int .i64 (Q)) (hS126.obj 3 rfl hc2) rfl) Try.underlying3 rfl) ?_
         refine W_v rfl rfl (V_asg rfl (et rfl)) ?_
         refine W_end (gen_Q fun A127 hA127 => ?_)
         have hsz127 := szq hA127
         have hdf127 := dfE hA127 hdf124
         have l1_127 := ek6 hA127 1 rfl l1_124
         have l4_127 := ek6 hA127 4 rfl l4_124
         have l5_127 := lookE hA127 5 (et rfl)
         have l6_127 := ek6 hA127 6 rfl l6_124
         have l7_127 := ek6 hA127 7 rfl l7_124
         have l8_127 := ek6 hA127 8 rfl l8_124
         have l22_127 := ek6 hA127 22 rfl l22_124
         have l23_127 := ek6 hA127 23 rfl l23_124
         have l24_127 := ek6 hA127 24 rfl l24_124
         have l25_127 := ek6 hA127 25 rfl l25_124
         clear hA127 hsz124 hdf124 l1_124 l4_124 l6_124 l7_124 l8_124 l22_124 l23_124 l24_124 l25_124
         refine then_n (hK125 _ _ ?_)
         clear hK125
         refine wp_seq_k fun K128 hK128 => ?_
         refine region_in ?_
         refine W_v rfl rfl (V_mov rfl l5_127) ?_
         refine W_v rfl rfl (V_fa (off' := 1) rfl (es rfl l4_127) Try.underlying98 rfl (by decide +kernel) rfl) ?_
         refine W_r rfl rfl (VR_ldC rfl (et rfl) (cell_box (v := .int .i64 2) (hS126.obj 0 rfl hc123) rfl) Try.underlying3 rfl) ?_
         refine W_v rfl rfl (V_lss rfl (e2 rfl (et rfl)) (et rfl)) ?_
         refine W_split rfl rfl (V_mov rfl (et rfl)) (fun c129 => ?_) (fun c129 => ?_)
         ·refine W_off rfl (wanted_f rfl rfl (et rfl) (ez rfl) rfl) ?_
          refine W_off rfl (wanted_f rfl rfl (es rfl (et rfl)) (ez rfl) rfl) ?_
          refine W_off rfl (wanted_f rfl rfl (e2 rfl (et rfl)) (ez rfl) rfl) ?_
          refine W_off rfl (wanted_f rfl rfl (e3 rfl (et rfl)) (ez rfl) rfl) ?_
          refine W_v rfl rfl (V_pickT rfl (e4 rfl (et rfl)) rfl) ?_
          refine W_end (gen_Q fun A130 hA130 => ?_)
          have hsz130 := szq hA130
          have hdf130 := dfE hA130 hdf127
          have l1_130 := ek10 hA130 1 rfl l1_127
          have l6_130 := ek10 hA130 6 rfl l6_127
          have l7_130 := ek10 hA130 7 rfl l7_127
          have l8_130 := ek10 hA130 8 rfl l8_127
          have l22_130 := lookE hA130 22 (e4 rfl (et rfl))
          have l23_130 := lookE hA130 23 (e3 rfl (et rfl))
          have l24_130 := lookE hA130 24 (e2 rfl (et rfl))
          have l25_130 := lookE hA130 25 (es rfl (et rfl))
          have l26_130 := lookE hA130 26 (et rfl)
          clear hA130 hsz127 hdf127 l1_127 l4_127 l5_127 l6_127 l7_127 l8_127 l22_127 l23_127 l24_127 l25_127
          have hS131 : St w NoX [c_6, c2] w126 := hS126.sel [2, 3] (by decide) rfl
          refine then_n (hK128 _ _ ?_)
          clear hK128
          refine cond_t l26_130 ?_
          refine wp_seq_k fun K132 hK132 => ?_
          refine region_in ?_
          refine W_v rfl rfl (V_asg rfl rfl) ?_
          refine W_end (gen_Q fun A133 hA133 => ?_)
          have hsz133 := szq hA133
          have hdf133 := dfE hA133 hdf130
          have l2_133 := lookE hA133 2 (et rfl)
          clear hA133 hsz130 hdf130 l1_130 l6_130 l7_130 l8_130 l22_130 l23_130 l24_130 l25_130 l26_130
          have hS134 : St w NoX [] w126 := hS131.sel [] (by decide) rfl
          refine then_n (hK132 _ _ ?_)
          clear hK132
          refine wp_ret ?_
          refine inb_ret ?_
          refine then_ret ?_
          refine then_ret ?_
          refine inb_ret ?_
          refine then_ret ?_
          refine ret_in (results_1 Try.results40 (rv_tmp l2_133)) hdf133 ?_
          have he : (cfE C N Z K Q) = 7 := cf_bad (by omega)
          rw [he]
          exact ⟨rfl, hS134.fin0⟩
         ·refine W_v rfl (wanted_t rfl rfl (et rfl) (ez rfl)) (V_mov rfl (e5 rfl l5_127)) ?_
          refine W_v rfl (wanted_t rfl rfl (es rfl (et rfl)) (ez rfl)) (V_fa (off' := 2) rfl (e6 rfl l4_127) Try.underlying98 rfl (by decide +kernel) rfl) ?_
          refine W_r rfl (wanted_t rfl rfl (e2 rfl (et rfl)) (ez rfl)) (VR_ldC rfl (et rfl) (cell_box (v := .int .i64 16) (hS126.obj 0 rfl hc123) rfl) Try.underlying3 rfl) ?_
          refine W_v rfl (wanted_t rfl rfl (e3 rfl (et rfl)) (ez rfl)) (V_gtr rfl (e2 rfl (et rfl)) (et rfl)) ?_
          refine W_v rfl rfl (V_pickF rfl (e4 rfl (et rfl)) (et rfl)) ?_
          refine W_end (gen_Q fun A135 hA135 => ?_)
          have hsz135 := szq hA135
          have hdf135 := dfE hA135 hdf127
          have l1_135 := ek10 hA135 1 rfl l1_127
          have l6_135 := ek10 hA135 6 rfl l6_127
          have l7_135 := ek10 hA135 7 rfl l7_127
          have l8_135 := ek10 hA135 8 rfl l8_127
          have l22_135 := lookE hA135 22 (e4 rfl (et rfl))
          have l23_135 := lookE hA135 23 (e3 rfl (et rfl))
          have l24_135 := lookE hA135 24 (e2 rfl (et rfl))
          have l25_135 := lookE hA135 25 (es rfl (et rfl))
          have l26_135 := lookE hA135 26 (et rfl)
          clear hA135 hsz127 hdf127 l1_127 l4_127 l5_127 l6_127 l7_127 l8_127 l22_127 l23_127 l24_127 l25_127
          have hS136 : St w NoX [c123, c_6, c2] w126 := hS126.sel [0, 2, 3] (by decide) rfl
          refine then_n (hK128 _ _ ?_)
          clear hK128
          refine cond_dec l26_135 (fun c137 => ?_) (fun c137 => ?_)
          ·refine wp_seq_k fun K138 hK138 => ?_
           refine region_in ?_
           refine W_v rfl rfl (V_asg rfl rfl) ?_
           refine W_end (gen_Q fun A139 hA139 => ?_)
           have hsz139 := szq hA139
           have hdf139 := dfE hA139 hdf135
           have l2_139 := lookE hA139 2 (et rfl)
           clear hA139 hsz135 hdf135 l1_135 l6_135 l7_135 l8_135 l22_135 l23_135 l24_135 l25_135 l26_135
           have hS140 : St w NoX [] w126 := hS136.sel [] (by decide) rfl
           refine then_n (hK138 _ _ ?_)
           clear hK138
           refine wp_ret ?_
           refine inb_ret ?_
           refine then_ret ?_
           refine then_ret ?_
           refine inb_ret ?_
           refine then_ret ?_
           refine ret_in (results_1 Try.results40 (rv_tmp l2_139)) hdf139 ?_
           have he : (cfE C N Z K Q) = 7 := cf_bad (by omega)
           rw [he]
           exact ⟨rfl, hS140.fin0⟩
          ·refine wp_skip ?_
           refine inb_n ?_
           refine then_n (hK119 _ _ ?_)
           clear hK119
           refine region_in ?_
           refine W_v rfl rfl (V_add rfl l8_135 rfl (by omega) (by omega)) ?_
           refine W_v rfl rfl (V_mov rfl (et rfl)) ?_
           refine W_end (gen_Q fun A141 hA141 => ?_)
           have hsz141 := szq hA141
           have hdf141 := dfE hA141 hdf135
           have l1_141 := ek2 hA141 1 rfl l1_135
           have l6_141 := ek2 hA141 6 rfl l6_135
           have l7_141 := ek2 hA141 7 rfl l7_135
           have l8_141 := lookE hA141 8 (et rfl)
           have l22_141 := ek2 hA141 22 rfl l22_135
           have l23_141 := ek2 hA141 23 rfl l23_135
           have l24_141 := ek2 hA141 24 rfl l24_135
           have l25_141 := ek2 hA141 25 rfl l25_135
           clear hA141 hsz135 hdf135 l1_135 l6_135 l7_135 l8_135 l22_135 l23_135 l24_135 l25_135 l26_135
           refine then_n ?_
           refine LW_step ?_
           have l8_142 : EV A141 (.tmp 8) = .int .i64 (5 : Int) := l8_141
           refine wp_seq_k fun K143 hK143 => ?_
           refine region_in ?_
           refine W_v rfl rfl (V_lss rfl l8_142 l7_141) ?_
           refine W_end (gen_Q fun A144 hA144 => ?_)
           have hsz144 := szq hA144
           have hdf144 := dfE hA144 hdf141
           have l1_144 := lookE hA144 1 (es rfl l1_141)
           have l6_144 := lookE hA144 6 (es rfl l6_141)
           have l7_144 := lookE hA144 7 (es rfl l7_141)
           have l8_144 := lookE hA144 8 (es rfl l8_142)
           have l9_144 := lookE hA144 9 (et rfl)
           have l22_144 := lookE hA144 22 (es rfl l22_141)
           have l23_144 := lookE hA144 23 (es rfl l23_141)
           have l24_144 := lookE hA144 24 (es rfl l24_141)
           have l25_144 := lookE hA144 25 (es rfl l25_141)
           clear hA144 hsz141 hdf141 l1_141 l6_141 l7_141 l8_142 l22_141 l23_141 l24_141 l25_141
           refine then_n (hK143 _ _ ?_)
           clear hK143
           refine wp_seq_k fun K145 hK145 => ?_
           refine cond_not l9_144 (by decide +kernel) ?_
           refine wp_exit ?_
           refine then_exit ?_
           refine then_exit ?_
           refine inb_hit ?_
           refine then_n (hK4 _ _ ?_)
           clear hK4
           refine wp_seq_k fun K146 hK146 => ?_
           refine region_in ?_
           refine W_v rfl rfl (V_asg rfl rfl) ?_
           refine W_end (gen_Q fun A147 hA147 => ?_)
           have hsz147 := szq hA147
           have hdf147 := dfE hA147 hdf144
           have l2_147 := lookE hA147 2 (et rfl)
           clear hA147 hsz144 hdf144 l1_144 l6_144 l7_144 l8_144 l9_144 l22_144 l23_144 l24_144 l25_144
           have hS148 : St w NoX [] w126 := hS136.sel [] (by decide) rfl
           refine then_n (hK146 _ _ ?_)
           clear hK146
           refine wp_ret ?_
           refine ret_in (results_1 Try.results40 (rv_tmp l2_147)) hdf147 ?_
           have he : (cfE C N Z K Q) = 0 := cf_ok (by omega)
           rw [he]
           exact ⟨rfl, hS148.fin0⟩

set_option maxHeartbeats 4000000 in
theorem qin_c {n : Int} {a : Int} {b : Int} {w : World}   :
  Calls Try.prog 83 #[.int .i64 n, .int .i64 a, .int .i64 b] w fun e w' => e = .returned (.bool (decide (a ≤ n ∧ n ≤ b))) ∧ St w NoX [] w' := by
 refine calls_in 15 Try.func83 rfl rfl (by simp) (fun A0 hsz0 hdf0 hargs => ?_)
 have l0_0 := hargs 0 (.int .i64 n) rfl
 have l1_0 := hargs 1 (.int .i64 a) rfl
 have l2_0 := hargs 2 (.int .i64 b) rfl
 clear hargs; replace hsz0 : SzN A0 15 := ⟨hsz0⟩
 have hS := St.nil w
 refine wp_seq_k fun K1 hK1 => ?_
 refine region_in ?_
 refine W_v rfl rfl (V_asg rfl rfl) ?_
 refine W_end (gen_Q fun A2 hA2 => ?_)
 have hsz2 := szq hA2
 have hdf2 := dfE hA2 hdf0
 have l0_2 := lookE hA2 0 (es rfl l0_0)
 have l1_2 := lookE hA2 1 (es rfl l1_0)
 have l2_2 := lookE hA2 2 (es rfl l2_0)
 clear hA2 hsz0 hdf0 l0_0 l1_0 l2_0
 refine then_n (hK1 _ _ ?_)
 clear hK1
 refine wp_seq_k fun K3 hK3 => ?_
 refine region_in ?_
 refine W_v rfl rfl (V_mov rfl l0_2) ?_
 refine W_v rfl rfl (V_mov rfl (es rfl l1_2)) ?_
 refine W_v rfl rfl (V_geq rfl (es rfl (et rfl)) (et rfl)) ?_
 refine W_split rfl rfl (V_mov rfl (et rfl)) (fun c4 => ?_) (fun c4 => ?_)
 ·refine W_v rfl (wanted_t rfl rfl (et rfl) (ez rfl)) (V_mov rfl (e4 rfl l0_2)) ?_
  refine W_v rfl (wanted_t rfl rfl (es rfl (et rfl)) (ez rfl)) (V_mov rfl (e5 rfl l2_2)) ?_
  refine W_v rfl (wanted_t rfl rfl (e2 rfl (et rfl)) (ez rfl)) (V_leq rfl (es rfl (et rfl)) (et rfl)) ?_
  refine W_v rfl rfl (V_pickT rfl (e3 rfl (et rfl)) (et rfl)) ?_
  refine W_v rfl rfl (V_asg rfl (et rfl)) ?_
  refine W_end (gen_Q fun A5 hA5 => ?_)
  have hsz5 := szq hA5
  have hdf5 := dfE hA5 hdf2
  have l6_5 := lookE hA5 6 (et rfl)
  clear hA5 hsz2 hdf2 l0_2 l1_2 l2_2
  refine then_n (hK3 _ _ ?_)
  clear hK3
  refine wp_ret ?_
  refine ret_in (results_1 Try.results83 (rv_tmp l6_5)) hdf5 ?_
  rw [show (decide (a ≤ n ∧ n ≤ b)) = decide (n ≤ b) by exact decide_eq_decide.2 (by omega)]
  exact ⟨rfl, hS.fin0⟩
 ·refine W_off rfl (wanted_f rfl rfl (et rfl) (ez rfl) rfl) ?_
  refine W_off rfl (wanted_f rfl rfl (es rfl (et rfl)) (ez rfl) rfl) ?_
  refine W_off rfl (wanted_f rfl rfl (e2 rfl (et rfl)) (ez rfl) rfl) ?_
  refine W_v rfl rfl (V_pickF rfl (e3 rfl (et rfl)) rfl) ?_
  refine W_v rfl rfl (V_asg rfl (et rfl)) ?_
  refine W_end (gen_Q fun A6 hA6 => ?_)
  have hsz6 := szq hA6
  have hdf6 := dfE hA6 hdf2
  have l6_6 := lookE hA6 6 (et rfl)
  clear hA6 hsz2 hdf2 l0_2 l1_2 l2_2
  refine then_n (hK3 _ _ ?_)
  clear hK3
  refine wp_ret ?_
  refine ret_in (results_1 Try.results83 (rv_tmp l6_6)) hdf6 ?_
  rw [show (decide (a ≤ n ∧ n ≤ b)) = false by exact decide_eq_false (by omega)]
  exact ⟨rfl, hS.fin0⟩

set_option maxHeartbeats 4000000 in
theorem qcfg_c {C : Int} {N : Int} {Z : Int} {K : Int} {Q : Int} {w : World}   :
  Calls Try.prog 54 #[.agg #[.int .i64 C, .int .i64 N, .int .i64 Z, .int .i64 K, .int .i64 Q]] w fun e w' => e = .returned (.int .i64 (cfE C N Z K Q)) ∧ St w NoX [] w' := by
 refine calls_in 26 Try.func54 rfl rfl (by simp) (fun A0 hsz0 hdf0 hargs => ?_)
 have l0_0 := hargs 0 (.agg #[.int .i64 C, .int .i64 N, .int .i64 Z, .int .i64 K, .int .i64 Q]) rfl
 clear hargs; replace hsz0 : SzN A0 26 := ⟨hsz0⟩
 have hS := St.nil w
 refine wp_seq_k fun K1 hK1 => ?_
 refine region_in ?_
 refine W_boxS (zs := #[.int .i64 (C), .int .i64 (N), .int .i64 (Z), .int .i64 (K), .int .i64 (Q)]) hS rfl rfl rfl l0_0 (by rfl) (fun g2 w2 c2 hc2 hS2 => ?_)
 replace hS2 : St w NoX [c2] w2 := hS2
 refine W_v rfl rfl (V_asg rfl rfl) ?_
 refine W_end (gen_Q fun A3 hA3 => ?_)
 have hsz3 := szq hA3
 have hdf3 := dfE hA3 hdf0
 have l1_3 := lookE hA3 1 (es rfl (et rfl))
 clear hA3 hsz0 hdf0 l0_0
 refine then_n (hK1 _ _ ?_)
 clear hK1
 refine wp_seq_k fun K4 hK4 => ?_
 refine wp_seq_k fun K5 hK5 => ?_
 refine region_in ?_
 refine W_v rfl rfl (V_fa (off' := 0) rfl l1_3 Try.underlying23 rfl (by decide +kernel) rfl) ?_
 refine W_r rfl rfl (VR_ldC rfl (et rfl) (cell_box (v := .int .i64 (C)) (hS2.obj 0 rfl hc2) rfl) Try.underlying3 rfl) ?_
 refine W_call rfl rfl rfl Try.func83 (by kernel_rfl) rfl (args3 (et rfl) rfl rfl) (qin_c (n := C) (a := 8) (b := 64)  ) ?_
 rintro _ w6 ⟨rfl, hP6⟩
 refine ⟨_, rfl, ?_⟩
 have hS6 := hS2.join hP6
 replace hS6 : St w NoX [c2] w6 := hS6
 refine W_split rfl rfl (V_mov rfl (et rfl)) (fun c7 => ?_) (fun c7 => ?_)
 ·refine W_v rfl (wanted_t rfl rfl (et rfl) (ez rfl)) (V_fa (off' := 1) rfl (e4 rfl l1_3) Try.underlying23 rfl (by decide +kernel) rfl) ?_
  refine W_r rfl (wanted_t rfl rfl (es rfl (et rfl)) (ez rfl)) (VR_ldC rfl (et rfl) (cell_box (v := .int .i64 (N)) (hS6.obj 0 rfl hc2) rfl) Try.underlying3 rfl) ?_
  refine W_call rfl (wanted_t rfl rfl (e2 rfl (et rfl)) (ez rfl)) rfl Try.func83 (by kernel_rfl) rfl (args3 (et rfl) rfl rfl) (qin_c (n := N) (a := 7) (b := 24)  ) ?_
  rintro _ w8 ⟨rfl, hP8⟩
  refine ⟨_, rfl, ?_⟩
  have hS8 := hS6.join hP8
  replace hS8 : St w NoX [c2] w8 := hS8
  refine W_v rfl rfl (V_pickT rfl (e3 rfl (et rfl)) (et rfl)) ?_
  refine W_split rfl rfl (V_mov rfl (et rfl)) (fun c9 => ?_) (fun c9 => ?_)
  ·refine W_v rfl (wanted_t rfl rfl (et rfl) (ez rfl)) (V_fa (off' := 2) rfl (e9 rfl l1_3) Try.underlying23 rfl (by decide +kernel) rfl) ?_
   refine W_r rfl (wanted_t rfl rfl (es rfl (et rfl)) (ez rfl)) (VR_ldC rfl (et rfl) (cell_box (v := .int .i64 (Z)) (hS8.obj 0 rfl hc2) rfl) Try.underlying3 rfl) ?_
   refine W_call rfl (wanted_t rfl rfl (e2 rfl (et rfl)) (ez rfl)) rfl Try.func83 (by kernel_rfl) rfl (args3 (et rfl) rfl rfl) (qin_c (n := Z) (a := 4) (b := 64)  ) ?_
   rintro _ w10 ⟨rfl, hP10⟩
   refine ⟨_, rfl, ?_⟩
   have hS10 := hS8.join hP10
   replace hS10 : St w NoX [c2] w10 := hS10
   refine W_v rfl rfl (V_pickT rfl (e3 rfl (et rfl)) (et rfl)) ?_
   refine W_split rfl rfl (V_mov rfl (et rfl)) (fun c11 => ?_) (fun c11 => ?_)
   ·refine W_v rfl (wanted_t rfl rfl (et rfl) (ez rfl)) (V_fa (off' := 3) rfl (e14 rfl l1_3) Try.underlying23 rfl (by decide +kernel) rfl) ?_
    refine W_r rfl (wanted_t rfl rfl (es rfl (et rfl)) (ez rfl)) (VR_ldC rfl (et rfl) (cell_box (v := .int .i64 (K)) (hS10.obj 0 rfl hc2) rfl) Try.underlying3 rfl) ?_
    refine W_call rfl (wanted_t rfl rfl (e2 rfl (et rfl)) (ez rfl)) rfl Try.func83 (by kernel_rfl) rfl (args3 (et rfl) rfl rfl) (qin_c (n := K) (a := 1) (b := 8)  ) ?_
    rintro _ w12 ⟨rfl, hP12⟩
    refine ⟨_, rfl, ?_⟩
    have hS12 := hS10.join hP12
    replace hS12 : St w NoX [c2] w12 := hS12
    refine W_v rfl rfl (V_pickT rfl (e3 rfl (et rfl)) (et rfl)) ?_
    refine W_split rfl rfl (V_mov rfl (et rfl)) (fun c13 => ?_) (fun c13 => ?_)
    ·refine W_v rfl (wanted_t rfl rfl (et rfl) (ez rfl)) (V_fa (off' := 4) rfl (e19 rfl l1_3) Try.underlying23 rfl (by decide +kernel) rfl) ?_
     refine W_r rfl (wanted_t rfl rfl (es rfl (et rfl)) (ez rfl)) (VR_ldC rfl (et rfl) (cell_box (v := .int .i64 (Q)) (hS12.obj 0 rfl hc2) rfl) Try.underlying3 rfl) ?_
     refine W_call rfl (wanted_t rfl rfl (e2 rfl (et rfl)) (ez rfl)) rfl Try.func83 (by kernel_rfl) rfl (args3 (et rfl) rfl rfl) (qin_c (n := Q) (a := 2) (b := 16)  ) ?_
     rintro _ w14 ⟨rfl, hP14⟩
     refine ⟨_, rfl, ?_⟩
     have hS14 := hS12.join hP14
     replace hS14 : St w NoX [c2] w14 := hS14
     refine W_v rfl rfl (V_pickT rfl (e3 rfl (et rfl)) (et rfl)) ?_
     refine W_end (gen_Q fun A15 hA15 => ?_)
     have hsz15 := szq hA15
     have hdf15 := dfE hA15 hdf3
     have l25_15 := lookE hA15 25 (et rfl)
     clear hA15 hsz3 hdf3 l1_3
     have hS16 : St w NoX [] w14 := hS14.sel [] (by decide) rfl
     refine then_n (hK5 _ _ ?_)
     clear hK5
     refine cond_dec l25_15 (fun c17 => ?_) (fun c17 => ?_)
     ·refine wp_seq_k fun K18 hK18 => ?_
      refine region_in ?_
      refine W_v rfl rfl (V_asg rfl rfl) ?_
      refine W_end (gen_Q fun A19 hA19 => ?_)
      have hsz19 := szq hA19
      have hdf19 := dfE hA19 hdf15
      have l2_19 := lookE hA19 2 (et rfl)
      clear hA19 hsz15 hdf15 l25_15
      refine then_n (hK18 _ _ ?_)
      clear hK18
      refine wp_ret ?_
      refine then_ret ?_
      refine ret_in (results_1 Try.results54 (rv_tmp l2_19)) hdf19 ?_
      have he : (cfE C N Z K Q) = 0 := cf_ok (by omega)
      rw [he]
      exact ⟨rfl, hS16.fin0⟩
     ·refine wp_skip ?_
      refine then_n (hK4 _ _ ?_)
      clear hK4
      refine wp_seq_k fun K20 hK20 => ?_
      refine region_in ?_
      refine W_v rfl rfl (V_asg rfl rfl) ?_
      refine W_end (gen_Q fun A21 hA21 => ?_)
      have hsz21 := szq hA21
      have hdf21 := dfE hA21 hdf15
      have l2_21 := lookE hA21 2 (et rfl)
      clear hA21 hsz15 hdf15 l25_15
      refine then_n (hK20 _ _ ?_)
      clear hK20
      refine wp_ret ?_
      refine ret_in (results_1 Try.results54 (rv_tmp l2_21)) hdf21 ?_
      have he : (cfE C N Z K Q) = 7 := cf_bad (by omega)
      rw [he]
      exact ⟨rfl, hS16.fin0⟩
    ·refine W_off rfl (wanted_f rfl rfl (et rfl) (ez rfl) rfl) ?_
     refine W_off rfl (wanted_f rfl rfl (es rfl (et rfl)) (ez rfl) rfl) ?_
     refine W_off rfl (wanted_f rfl rfl (e2 rfl (et rfl)) (ez rfl) rfl) ?_
     refine W_v rfl rfl (V_pickF rfl (e3 rfl (et rfl)) rfl) ?_
     refine W_end (gen_Q fun A22 hA22 => ?_)
     have hsz22 := szq hA22
     have hdf22 := dfE hA22 hdf3
     have l25_22 := lookE hA22 25 (et rfl)
     clear hA22 hsz3 hdf3 l1_3
     have hS23 : St w NoX [] w12 := hS12.sel [] (by decide) rfl
     refine then_n (hK5 _ _ ?_)
     clear hK5
     refine cond_f l25_22 ?_
     refine wp_skip ?_
     refine then_n (hK4 _ _ ?_)
     clear hK4
     refine wp_seq_k fun K24 hK24 => ?_
     refine region_in ?_
     refine W_v rfl rfl (V_asg rfl rfl) ?_
     refine W_end (gen_Q fun A25 hA25 => ?_)
     have hsz25 := szq hA25
     have hdf25 := dfE hA25 hdf22
     have l2_25 := lookE hA25 2 (et rfl)
     clear hA25 hsz22 hdf22 l25_22
     refine then_n (hK24 _ _ ?_)
     clear hK24
     refine wp_ret ?_
     refine ret_in (results_1 Try.results54 (rv_tmp l2_25)) hdf25 ?_
     have he : (cfE C N Z K Q) = 7 := cf_bad (by omega)
     rw [he]
     exact ⟨rfl, hS23.fin0⟩
   ·refine W_off rfl (wanted_f rfl rfl (et rfl) (ez rfl) rfl) ?_
    refine W_off rfl (wanted_f rfl rfl (es rfl (et rfl)) (ez rfl) rfl) ?_
    refine W_off rfl (wanted_f rfl rfl (e2 rfl (et rfl)) (ez rfl) rfl) ?_
    refine W_v rfl rfl (V_pickF rfl (e3 rfl (et rfl)) rfl) ?_
    refine W_v rfl rfl (V_mov rfl (et rfl)) ?_
    refine W_off rfl (wanted_f rfl rfl (et rfl) (ez rfl) rfl) ?_
    refine W_off rfl (wanted_f rfl rfl (es rfl (et rfl)) (ez rfl) rfl) ?_
    refine W_off rfl (wanted_f rfl rfl (e2 rfl (et rfl)) (ez rfl) rfl) ?_
    refine W_v rfl rfl (V_pickF rfl (e3 rfl (et rfl)) rfl) ?_
    refine W_end (gen_Q fun A26 hA26 => ?_)
    have hsz26 := szq hA26
    have hdf26 := dfE hA26 hdf3
    have l25_26 := lookE hA26 25 (et rfl)
    clear hA26 hsz3 hdf3 l1_3
    have hS27 : St w NoX [] w10 := hS10.sel [] (by decide) rfl
    refine then_n (hK5 _ _ ?_)
    clear hK5
    refine cond_f l25_26 ?_
    refine wp_skip ?_
    refine then_n (hK4 _ _ ?_)
    clear hK4
    refine wp_seq_k fun K28 hK28 => ?_
    refine region_in ?_
    refine W_v rfl rfl (V_asg rfl rfl) ?_
    refine W_end (gen_Q fun A29 hA29 => ?_)
    have hsz29 := szq hA29
    have hdf29 := dfE hA29 hdf26
    have l2_29 := lookE hA29 2 (et rfl)
    clear hA29 hsz26 hdf26 l25_26
    refine then_n (hK28 _ _ ?_)
    clear hK28
    refine wp_ret ?_
    refine ret_in (results_1 Try.results54 (rv_tmp l2_29)) hdf29 ?_
    have he : (cfE C N Z K Q) = 7 := cf_bad (by omega)
    rw [he]
    exact ⟨rfl, hS27.fin0⟩
  ·refine W_off rfl (wanted_f rfl rfl (et rfl) (ez rfl) rfl) ?_
   refine W_off rfl (wanted_f rfl rfl (es rfl (et rfl)) (ez rfl) rfl) ?_
   refine W_off rfl (wanted_f rfl rfl (e2 rfl (et rfl)) (ez rfl) rfl) ?_
   refine W_v rfl rfl (V_pickF rfl (e3 rfl (et rfl)) rfl) ?_
   refine W_v rfl rfl (V_mov rfl (et rfl)) ?_
   refine W_off rfl (wanted_f rfl rfl (et rfl) (ez rfl) rfl) ?_
   refine W_off rfl (wanted_f rfl rfl (es rfl (et rfl)) (ez rfl) rfl) ?_
   refine W_off rfl (wanted_f rfl rfl (e2 rfl (et rfl)) (ez rfl) rfl) ?_
   refine W_v rfl rfl (V_pickF rfl (e3 rfl (et rfl)) rfl) ?_
   refine W_v rfl rfl (V_mov rfl (et rfl)) ?_
   refine W_off rfl (wanted_f rfl rfl (et rfl) (ez rfl) rfl) ?_
   refine W_off rfl (wanted_f rfl rfl (es rfl (et rfl)) (ez rfl) rfl) ?_
   refine W_off rfl (wanted_f rfl rfl (e2 rfl (et rfl)) (ez rfl) rfl) ?_
   refine W_v rfl rfl (V_pickF rfl (e3 rfl (et rfl)) rfl) ?_
   refine W_end (gen_Q fun A30 hA30 => ?_)
   have hsz30 := szq hA30
   have hdf30 := dfE hA30 hdf3
   have l25_30 := lookE hA30 25 (et rfl)
   clear hA30 hsz3 hdf3 l1_3
   have hS31 : St w NoX [] w8 := hS8.sel [] (by decide) rfl
   refine then_n (hK5 _ _ ?_)
   clear hK5
   refine cond_f l25_30 ?_
   refine wp_skip ?_
   refine then_n (hK4 _ _ ?_)
   clear hK4
   refine wp_seq_k fun K32 hK32 => ?_
   refine region_in ?_
   refine W_v rfl rfl (V_asg rfl rfl) ?_
   refine W_end (gen_Q fun A33 hA33 => ?_)
   have hsz33 := szq hA33
   have hdf33 := dfE hA33 hdf30
   have l2_33 := lookE hA33 2 (et rfl)
   clear hA33 hsz30 hdf30 l25_30
   refine then_n (hK32 _ _ ?_)
   clear hK32
   refine wp_ret ?_
   refine ret_in (results_1 Try.results54 (rv_tmp l2_33)) hdf33 ?_
   have he : (cfE C N Z K Q) = 7 := cf_bad (by omega)
   rw [he]
   exact ⟨rfl, hS31.fin0⟩
 ·refine W_off rfl (wanted_f rfl rfl (et rfl) (ez rfl) rfl) ?_
  refine W_off rfl (wanted_f rfl rfl (es rfl (et rfl)) (ez rfl) rfl) ?_
  refine W_off rfl (wanted_f rfl rfl (e2 rfl (et rfl)) (ez rfl) rfl) ?_
  refine W_v rfl rfl (V_pickF rfl (e3 rfl (et rfl)) rfl) ?_
  refine W_v rfl rfl (V_mov rfl (et rfl)) ?_
  refine W_off rfl (wanted_f rfl rfl (et rfl) (ez rfl) rfl) ?_
  refine W_off rfl (wanted_f rfl rfl (es rfl (et rfl)) (ez rfl) rfl) ?_
  refine W_off rfl (wanted_f rfl rfl (e2 rfl (et rfl)) (ez rfl) rfl) ?_
  refine W_v rfl rfl (V_pickF rfl (e3 rfl (et rfl)) rfl) ?_
  refine W_v rfl rfl (V_mov rfl (et rfl)) ?_
  refine W_off rfl (wanted_f rfl rfl (et rfl) (ez rfl) rfl) ?_
  refine W_off rfl (wanted_f rfl rfl (es rfl (et rfl)) (ez rfl) rfl) ?_
  refine W_off rfl (wanted_f rfl rfl (e2 rfl (et rfl)) (ez rfl) rfl) ?_
  refine W_v rfl rfl (V_pickF rfl (e3 rfl (et rfl)) rfl) ?_
  refine W_v rfl rfl (V_mov rfl (et rfl)) ?_
  refine W_off rfl (wanted_f rfl rfl (et rfl) (ez rfl) rfl) ?_
  refine W_off rfl (wanted_f rfl rfl (es rfl (et rfl)) (ez rfl) rfl) ?_
  refine W_off rfl (wanted_f rfl rfl (e2 rfl (et rfl)) (ez rfl) rfl) ?_
  refine W_v rfl rfl (V_pickF rfl (e3 rfl (et rfl)) rfl) ?_
  refine W_end (gen_Q fun A34 hA34 => ?_)
  have hsz34 := szq hA34
  have hdf34 := dfE hA34 hdf3
  have l25_34 := lookE hA34 25 (et rfl)
  clear hA34 hsz3 hdf3 l1_3
  have hS35 : St w NoX [] w6 := hS6.sel [] (by decide) rfl
  refine then_n (hK5 _ _ ?_)
  clear hK5
  refine cond_f l25_34 ?_
  refine wp_skip ?_
  refine then_n (hK4 _ _ ?_)
  clear hK4
  refine wp_seq_k fun K36 hK36 => ?_
  refine region_in ?_
  refine W_v rfl rfl (V_asg rfl rfl) ?_
  refine W_end (gen_Q fun A37 hA37 => ?_)
  have hsz37 := szq hA37
  have hdf37 := dfE hA37 hdf34
  have l2_37 := lookE hA37 2 (et rfl)
  clear hA37 hsz34 hdf34 l25_34
  refine then_n (hK36 _ _ ?_)
  clear hK36
  refine wp_ret ?_
  refine ret_in (results_1 Try.results54 (rv_tmp l2_37)) hdf37 ?_
  have he : (cfE C N Z K Q) = 7 := cf_bad (by omega)
  rw [he]
  exact ⟨rfl, hS35.fin0⟩

set_option maxHeartbeats 4000000 in
theorem kwd1_c {C : Int} {N : Int} {Z : Int} {K : Int} {Q : Int} {gc : Nat} {w : World} (hb_gc : Ro w NoX (bx gc 23 #[.int .i64 C, .int .i64 N, .int .i64 Z, .int .i64 K, .int .i64 Q])) (hc : (cfE C N Z K Q) = 0) :
  Calls Try.prog 118 #[.pointer (some ⟨gc, 0, none⟩)] w fun e w' => e = .returned (.int .i64 (1 + Z + N * C)) ∧ St w NoX [] w' := by
 have hr := cf_rng (show cfE C N Z K Q = 0 by omega)
 have hm := mul_rng hr.2.1 hr.1
 refine calls_in 11 Try.func118 rfl rfl (by simp) (fun A0 hsz0 hdf0 hargs => ?_)
 have l0_0 := hargs 0 (.pointer (some ⟨gc, 0, none⟩)) rfl
 clear hargs; replace hsz0 : SzN A0 11 := ⟨hsz0⟩
 have hS := St.nil w
 refine wp_seq_k fun K1 hK1 => ?_
 refine region_in ?_
 refine W_v rfl rfl (V_asg rfl rfl) ?_
 refine W_end (gen_Q fun A2 hA2 => ?_)
 have hsz2 := szq hA2
 have hdf2 := dfE hA2 hdf0
 have l0_2 := lookE hA2 0 (es rfl l0_0)
 clear hA2 hsz0 hdf0 l0_0
 refine then_n (hK1 _ _ ?_)
 clear hK1
 refine wp_seq_k fun K3 hK3 => ?_
 refine region_in ?_
 refine W_v rfl rfl (V_fa (off' := 2) rfl l0_2 Try.underlying23 rfl (by decide +kernel) rfl) ?_
 refine W_r rfl rfl (VR_ldC rfl (et rfl) (cell_box (v := .int .i64 (Z)) (ob_at (hS.ro hb_gc)) rfl) Try.underlying3 rfl) ?_
 refine W_v rfl rfl (V_add rfl rfl (et rfl) (by omega) (by omega)) ?_
 refine W_v rfl rfl (V_fa (off' := 1) rfl (e3 rfl l0_2) Try.underlying23 rfl (by decide +kernel) rfl) ?_
 refine W_r rfl rfl (VR_ldC rfl (et rfl) (cell_box (v := .int .i64 (N)) (ob_at (hS.ro hb_gc)) rfl) Try.underlying3 rfl) ?_
 refine W_v rfl rfl (V_fa (off' := 0) rfl (e5 rfl l0_2) Try.underlying23 rfl (by decide +kernel) rfl) ?_
 refine W_r rfl rfl (VR_ldC rfl (et rfl) (cell_box (v := .int .i64 (C)) (ob_at (hS.ro hb_gc)) rfl) Try.underlying3 rfl) ?_
 refine W_v rfl rfl (V_mul rfl (e2 rfl (et rfl)) (et rfl) (by omega) (by omega)) ?_
 refine W_v rfl rfl (V_add rfl (e5 rfl (et rfl)) (et rfl) (by omega) (by omega)) ?_
 refine W_v rfl rfl (V_asg rfl (et rfl)) ?_
 refine W_end (gen_Q fun A4 hA4 => ?_)
 have hsz4 := szq hA4
 have hdf4 := dfE hA4 hdf2
 have l1_4 := lookE hA4 1 (et rfl)
 clear hA4 hsz2 hdf2 l0_2
 refine then_n (hK3 _ _ ?_)
 clear hK3
 refine wp_ret ?_
 refine ret_in (results_1 Try.results118 (rv_tmp l1_4)) hdf4 ?_
 exact ⟨rfl, hS.fin0⟩

set_option maxHeartbeats 4000000 in
theorem kof8_c {C : Int} {N : Int} {Z : Int} {K : Int} {Q : Int} {gc : Nat} {w : World} (hb_gc : Ro w NoX (bx gc 23 #[.int .i64 C, .int .i64 N, .int .i64 Z, .int .i64 K, .int .i64 Q]))  :
  Calls Try.prog 117 #[.agg #[.int .i64 C, .int .i64 N, .int .i64 Z, .int .i64 K, .int .i64 Q], .func (.func 118) #[] #[.pointer (some ⟨gc, 0, none⟩)]] w fun e w' => e = .returned (.tuple #[.int .i64 (wdN C N Z K Q), .int .i64 (cfE C N Z K Q)]) ∧ St w NoX [] w' := by
 refine calls_in 14 Try.func117 rfl rfl (by simp) (fun A0 hsz0 hdf0 hargs => ?_)
 have l0_0 := hargs 0 (.agg #[.int .i64 C, .int .i64 N, .int .i64 Z, .int .i64 K, .int .i64 Q]) rfl
 have l1_0 := hargs 1 (.func (.func 118) #[] #[.pointer (some ⟨gc, 0, none⟩)]) rfl
 clear hargs; replace hsz0 : SzN A0 14 := ⟨hsz0⟩
 have hS := St.nil w
 refine wp_seq_k fun K1 hK1 => ?_
 refine region_in ?_
 refine W_boxS (zs := #[.int .i64 (C), .int .i64 (N), .int .i64 (Z), .int .i64 (K), .int .i64 (Q)]) hS rfl rfl rfl l0_0 (by rfl) (fun g2 w2 c2 hc2 hS2 => ?_)
 replace hS2 : St w NoX [c2] w2 := hS2
 refine W_v rfl rfl (V_asg rfl rfl) ?_
 refine W_v rfl rfl (V_asg rfl rfl) ?_
 refine W_end (gen_Q fun A3 hA3 => ?_)
 have hsz3 := szq hA3
 have hdf3 := dfE hA3 hdf0
 have l1_3 := ek3 hA3 1 rfl l1_0
 have l2_3 := lookE hA3 2 (e2 rfl (et rfl))
 clear hA3 hsz0 hdf0 l0_0 l1_0
 refine then_n (hK1 _ _ ?_)
 clear hK1
 refine wp_seq_k fun K4 hK4 => ?_
 refine wp_seq_k fun K5 hK5 => ?_
 refine region_in ?_
 refine W_r rfl rfl (VR_ldA rfl l2_3 (hS2.obj 0 rfl hc2) Try.underlying23 rfl (by kernel_rfl)) ?_
 refine W_call rfl rfl rfl Try.func40 (by kernel_rfl) rfl (args1 (et rfl)) (kcfg_c (C := C) (N := N) (Z := Z) (K := K) (Q := Q)  ) ?_
 rintro _ w6 ⟨rfl, hP6⟩
 refine ⟨_, rfl, ?_⟩
 have hS6 := hS2.join hP6
 replace hS6 : St w NoX [c2] w6 := hS6
 refine W_v rfl rfl (V_asg rfl (et rfl)) ?_
 refine W_end (gen_Q fun A7 hA7 => ?_)
 have hsz7 := szq hA7
 have hdf7 := dfE hA7 hdf3
 have l1_7 := ek3 hA7 1 rfl l1_3
 have l6_7 := lookE hA7 6 (et rfl)
 clear hA7 hsz3 hdf3 l1_3 l2_3
 have hS8 : St w NoX [] w6 := hS6.sel [] (by decide) rfl
 refine then_n (hK5 _ _ ?_)
 clear hK5
 refine wp_seq_k fun K9 hK9 => ?_
 refine region_in ?_
 refine W_v rfl rfl (V_mov rfl l6_7) ?_
 refine W_v rfl rfl (V_neq rfl (et rfl) rfl) ?_
 refine W_end (gen_Q fun A10 hA10 => ?_)
 have hsz10 := szq hA10
 have hdf10 := dfE hA10 hdf7
 have l1_10 := ek2 hA10 1 rfl l1_7
 have l6_10 := ek2 hA10 6 rfl l6_7
 have l10_10 := lookE hA10 10 (et rfl)
 clear hA10 hsz7 hdf7 l1_7 l6_7
 refine then_n (hK9 _ _ ?_)
 clear hK9
 refine cond_dec l10_10 (fun c11 => ?_) (fun c11 => ?_)
 ·refine wp_seq_k fun K12 hK12 => ?_
  refine region_in ?_
  refine W_v rfl rfl (V_mov rfl l6_10) ?_
  refine W_v rfl rfl (V_asg rfl rfl) ?_
  refine W_v rfl rfl (V_asg rfl (es rfl (et rfl))) ?_
  refine W_end (gen_Q fun A13 hA13 => ?_)
  have hsz13 := szq hA13
  have hdf13 := dfE hA13 hdf10
  have l4_13 := lookE hA13 4 (es rfl (et rfl))
  have l5_13 := lookE hA13 5 (et rfl)
  clear hA13 hsz10 hdf10 l1_10 l6_10 l10_10
  refine then_n (hK12 _ _ ?_)
  clear hK12
  refine wp_ret ?_
  refine then_ret ?_
  refine ret_in (results_2 Try.results117 (rv_tmp l4_13) (rv_tmp l5_13)) hdf13 ?_
  have hw := wd_bad (show cfE C N Z K Q ≠ 0 by omega)
  rw [hw]
  exact ⟨rfl, hS8.fin0⟩
 ·refine wp_skip ?_
  refine then_n (hK4 _ _ ?_)
  clear hK4
  refine wp_seq_k fun K14 hK14 => ?_
  refine region_in ?_
  refine W_v rfl rfl (V_mov rfl l1_10) ?_
  refine W_callV rfl rfl rfl (et rfl) Try.func118 (by kernel_rfl) rfl (args0) (kwd1_c (gc := gc) (C := C) (N := N) (Z := Z) (K := K) (Q := Q) (hS8.roC hb_gc) (by first | with_reducible assumption | omega)) ?_
  rintro _ w15 ⟨rfl, hP15⟩
  refine ⟨_, rfl, ?_⟩
  have hS15 := hS8.join hP15
  replace hS15 : St w NoX [] w15 := hS15
  refine W_v rfl rfl (V_asg rfl (et rfl)) ?_
  refine W_v rfl rfl (V_asg rfl rfl) ?_
  refine W_end (gen_Q fun A16 hA16 => ?_)
  have hsz16 := szq hA16
  have hdf16 := dfE hA16 hdf10
  have l4_16 := lookE hA16 4 (es rfl (et rfl))
  have l5_16 := lookE hA16 5 (et rfl)
  clear hA16 hsz10 hdf10 l1_10 l6_10 l10_10
  refine then_n (hK14 _ _ ?_)
  clear hK14
  refine wp_ret ?_
  refine ret_in (results_2 Try.results117 (rv_tmp l4_16) (rv_tmp l5_16)) hdf16 ?_
  have hw := (wd_ok (show cfE C N Z K Q = 0 by omega)).1
  have he : cfE C N Z K Q = 0 := by omega
  rw [he, hw]
  exact ⟨rfl, hS15.fin0⟩

set_option maxHeartbeats 4000000 in
theorem kwd_c {C : Int} {N : Int} {Z : Int} {K : Int} {Q : Int} {w : World}   :
  Calls Try.prog 99 #[.agg #[.int .i64 C, .int .i64 N, .int .i64 Z, .int .i64 K, .int .i64 Q]] w fun e w' => e = .returned (.tuple #[.int .i64 (wdN C N Z K Q), .int .i64 (cfE C N Z K Q)]) ∧ St w NoX [] w' := by
 refine calls_in 9 Try.func99 rfl rfl (by simp) (fun A0 hsz0 hdf0 hargs => ?_)
 have l0_0 := hargs 0 (.agg #[.int .i64 C, .int .i64 N, .int .i64 Z, .int .i64 K, .int .i64 Q]) rfl
 clear hargs; replace hsz0 : SzN A0 9 := ⟨hsz0⟩
 have hS := St.nil w
 refine wp_seq_k fun K1 hK1 => ?_
 refine region_in ?_
 refine W_boxS (zs := #[.int .i64 (C), .int .i64 (N), .int .i64 (Z), .int .i64 (K), .int .i64 (Q)]) hS rfl rfl rfl l0_0 (by rfl) (fun g2 w2 c2 hc2 hS2 => ?_)
 replace hS2 : St w NoX [c2] w2 := hS2
 refine W_v rfl rfl (V_asg rfl rfl) ?_
 refine W_v rfl rfl (V_asg rfl rfl) ?_
 refine W_end (gen_Q fun A3 hA3 => ?_)
 have hsz3 := szq hA3
 have hdf3 := dfE hA3 hdf0
 have l1_3 := lookE hA3 1 (e2 rfl (et rfl))
 clear hA3 hsz0 hdf0 l0_0
 refine then_n (hK1 _ _ ?_)
 clear hK1
 refine wp_seq_k fun K4 hK4 => ?_
 refine region_in ?_
 refine W_r rfl rfl (VR_ldA rfl l1_3 (hS2.obj 0 rfl hc2) Try.underlying23 rfl (by kernel_rfl)) ?_
 refine W_v rfl rfl (V_mkf rfl (args0) (args1 (es rfl l1_3))) ?_
 refine W_call rfl rfl rfl Try.func117 (by kernel_rfl) rfl (args2 (es rfl (et rfl)) (et rfl)) (kof8_c (C := C) (N := N) (Z := Z) (K := K) (Q := Q) (gc := g2) (hS2.chC 0 rfl hc2) ) ?_
 rintro _ w5 ⟨rfl, hP5⟩
 refine ⟨_, rfl, ?_⟩
 have hS5 := hS2.join hP5
 replace hS5 : St w NoX [c2] w5 := hS5
 refine W_v rfl rfl (V_ext (v := .int .i64 ((wdN C N Z K Q))) rfl (et rfl) rfl) ?_
 refine W_v rfl rfl (V_ext (v := .int .i64 ((cfE C N Z K Q))) rfl (es rfl (et rfl)) rfl) ?_
 refine W_v rfl rfl (V_asg rfl (es rfl (et rfl))) ?_
 refine W_v rfl rfl (V_asg rfl (es rfl (et rfl))) ?_
 refine W_end (gen_Q fun A6 hA6 => ?_)
 have hsz6 := szq hA6
 have hdf6 := dfE hA6 hdf3
 have l2_6 := lookE hA6 2 (es rfl (et rfl))
 have l3_6 := lookE hA6 3 (et rfl)
 clear hA6 hsz3 hdf3 l1_3
 have hS7 : St w NoX [] w5 := hS5.sel [] (by decide) rfl
 refine then_n (hK4 _ _ ?_)
 clear hK4
 refine wp_ret ?_
 refine ret_in (results_2 Try.results99 (rv_tmp l2_6) (rv_tmp l3_6)) hdf6 ?_
 exact ⟨rfl, hS7.fin0⟩

set_option maxHeartbeats 4000000 in
theorem qwd_c {C : Int} {N : Int} {Z : Int} {K : Int} {Q : Int} {w : World}   :
  Calls Try.prog 63 #[.agg #[.int .i64 C, .int .i64 N, .int .i64 Z, .int .i64 K, .int .i64 Q]] w fun e w' => e = .returned (.tuple #[.int .i64 (wdN C N Z K Q), .int .i64 (cfE C N Z K Q)]) ∧ St w NoX [] w' := by
 refine calls_in 19 Try.func63 rfl rfl (by simp) (fun A0 hsz0 hdf0 hargs => ?_)
 have l0_0 := hargs 0 (.agg #[.int .i64 C, .int .i64 N, .int .i64 Z, .int .i64 K, .int .i64 Q]) rfl
 clear hargs; replace hsz0 : SzN A0 19 := ⟨hsz0⟩
 have hS := St.nil w
 refine wp_seq_k fun K1 hK1 => ?_
 refine region_in ?_
 refine W_boxS (zs := #[.int .i64 (C), .int .i64 (N), .int .i64 (Z), .int .i64 (K), .int .i64 (Q)]) hS rfl rfl rfl l0_0 (by rfl) (fun g2 w2 c2 hc2 hS2 => ?_)
 replace hS2 : St w NoX [c2] w2 := hS2
 refine W_v rfl rfl (V_asg rfl rfl) ?_
 refine W_v rfl rfl (V_asg rfl rfl) ?_
 refine W_end (gen_Q fun A3 hA3 => ?_)
 have hsz3 := szq hA3
 have hdf3 := dfE hA3 hdf0
 have l1_3 := lookE hA3 1 (e2 rfl (et rfl))
 clear hA3 hsz0 hdf0 l0_0
 refine then_n (hK1 _ _ ?_)
 clear hK1
 refine wp_seq_k fun K4 hK4 => ?_
 refine region_in ?_
 refine W_r rfl rfl (VR_ldA rfl l1_3 (hS2.obj 0 rfl hc2) Try.underlying23 rfl (by kernel_rfl)) ?_
 refine W_call rfl rfl rfl Try.func54 (by kernel_rfl) rfl (args1 (et rfl)) (qcfg_c (C := C) (N := N) (Z := Z) (K := K) (Q := Q)  ) ?_
 rintro _ w5 ⟨rfl, hP5⟩
 refine ⟨_, rfl, ?_⟩
 have hS5 := hS2.join hP5
 replace hS5 : St w NoX [c2] w5 := hS5
 refine W_v rfl rfl (V_asg rfl (et rfl)) ?_
 refine W_end (gen_Q fun A6 hA6 => ?_)
 have hsz6 := szq hA6
 have hdf6 := dfE hA6 hdf3
 have l1_6 := ek3 hA6 1 rfl l1_3
 have l4_6 := lookE hA6 4 (et rfl)
 clear hA6 hsz3 hdf3 l1_3
 refine then_n (hK4 _ _ ?_)
 clear hK4
 refine wp_seq_k fun K7 hK7 => ?_
 refine wp_seq_k fun K8 hK8 => ?_
 refine region_in ?_
 refine W_v rfl rfl (V_mov rfl l4_6) ?_
 refine W_v rfl rfl (V_neq rfl (et rfl) rfl) ?_
 refine W_end (gen_Q fun A9 hA9 => ?_)
 have hsz9 := szq hA9
 have hdf9 := dfE hA9 hdf6
 have l1_9 := ek2 hA9 1 rfl l1_6
 have l4_9 := ek2 hA9 4 rfl l4_6
 have l8_9 := lookE hA9 8 (et rfl)
 clear hA9 hsz6 hdf6 l1_6 l4_6
 refine then_n (hK8 _ _ ?_)
 clear hK8
 refine cond_dec l8_9 (fun c10 => ?_) (fun c10 => ?_)
 ·refine wp_seq_k fun K11 hK11 => ?_
  refine region_in ?_
  refine W_v rfl rfl (V_mov rfl l4_9) ?_
  refine W_v rfl rfl (V_asg rfl rfl) ?_
  refine W_v rfl rfl (V_asg rfl (es rfl (et rfl))) ?_
  refine W_end (gen_Q fun A12 hA12 => ?_)
  have hsz12 := szq hA12
  have hdf12 := dfE hA12 hdf9
  have l2_12 := lookE hA12 2 (es rfl (et rfl))
  have l3_12 := lookE hA12 3 (et rfl)
  clear hA12 hsz9 hdf9 l1_9 l4_9 l8_9
  have hS13 : St w NoX [] w5 := hS5.sel [] (by decide) rfl
  refine then_n (hK11 _ _ ?_)
  clear hK11
  refine wp_ret ?_
  refine then_ret ?_
  refine ret_in (results_2 Try.results63 (rv_tmp l2_12) (rv_tmp l3_12)) hdf12 ?_
  have hw := wd_bad (show cfE C N Z K Q ≠ 0 by omega)
  rw [hw]
  exact ⟨rfl, hS13.fin0⟩
 ·have hr := cf_rng (show cfE C N Z K Q = 0 by omega)
  have hm := mul_rng hr.2.1 hr.1
  refine wp_skip ?_
  refine then_n (hK7 _ _ ?_)
  clear hK7
  refine wp_seq_k fun K14 hK14 => ?_
  refine region_in ?_
  refine W_v rfl rfl (V_fa (off' := 2) rfl l1_9 Try.underlying23 rfl (by decide +kernel) rfl) ?_
  refine W_r rfl rfl (VR_ldC rfl (et rfl) (cell_box (v := .int .i64 (Z)) (hS5.obj 0 rfl hc2) rfl) Try.underlying3 rfl) ?_
  refine W_v rfl rfl (V_add rfl rfl (et rfl) (by omega) (by omega)) ?_
  refine W_v rfl rfl (V_fa (off' := 1) rfl (e3 rfl l1_9) Try.underlying23 rfl (by decide +kernel) rfl) ?_
  refine W_r rfl rfl (VR_ldC rfl (et rfl) (cell_box (v := .int .i64 (N)) (hS5.obj 0 rfl hc2) rfl) Try.underlying3 rfl) ?_
  refine W_v rfl rfl (V_fa (off' := 0) rfl (e5 rfl l1_9) Try.underlying23 rfl (by decide +kernel) rfl) ?_
  refine W_r rfl rfl (VR_ldC rfl (et rfl) (cell_box (v := .int .i64 (C)) (hS5.obj 0 rfl hc2) rfl) Try.underlying3 rfl) ?_
  refine W_v rfl rfl (V_mul rfl (e2 rfl (et rfl)) (et rfl) (by omega) (by omega)) ?_
  refine W_v rfl rfl (V_add rfl (e5 rfl (et rfl)) (et rfl) (by omega) (by omega)) ?_
  refine W_v rfl rfl (V_asg rfl (et rfl)) ?_
  refine W_v rfl rfl (V_asg rfl rfl) ?_
  refine W_end (gen_Q fun A15 hA15 => ?_)
  have hsz15 := szq hA15
  have hdf15 := dfE hA15 hdf9
  have l2_15 := lookE hA15 2 (es rfl (et rfl))
  have l3_15 := lookE hA15 3 (et rfl)
  clear hA15 hsz9 hdf9 l1_9 l4_9 l8_9
  have hS16 : St w NoX [] w5 := hS5.sel [] (by decide) rfl
  refine then_n (hK14 _ _ ?_)
  clear hK14
  refine wp_ret ?_
  refine ret_in (results_2 Try.results63 (rv_tmp l2_15) (rv_tmp l3_15)) hdf15 ?_
  have hw := (wd_ok (show cfE C N Z K Q = 0 by omega)).1
  have he : cfE C N Z K Q = 0 := by omega
  rw [he, hw]
  exact ⟨rfl, hS16.fin0⟩

set_option maxHeartbeats 4000000 in
theorem qsp_c {C : Int} {N : Int} {Z : Int} {K : Int} {Q : Int} {i : Int} {w : World}   :
  Calls Try.prog 66 #[.agg #[.int .i64 C, .int .i64 N, .int .i64 Z, .int .i64 K, .int .i64 Q], .int .i64 i] w fun e w' => e = .returned (.tuple #[.int .i64 (spA C N Z K Q i), .int .i64 (spB C N Z K Q i), .int .i64 (spE C N Z K Q i)]) ∧ St w NoX [] w' := by
 refine calls_in 42 Try.func66 rfl rfl (by simp) (fun A0 hsz0 hdf0 hargs => ?_)
 have l0_0 := hargs 0 (.agg #[.int .i64 C, .int .i64 N, .int .i64 Z, .int .i64 K, .int .i64 Q]) rfl
 have l1_0 := hargs 1 (.int .i64 i) rfl
 clear hargs; replace hsz0 : SzN A0 42 := ⟨hsz0⟩
 have hS := St.nil w
 refine wp_seq_k fun K1 hK1 => ?_
 refine region_in ?_
 refine W_boxS (zs := #[.int .i64 (C), .int .i64 (N), .int .i64 (Z), .int .i64 (K), .int .i64 (Q)]) hS rfl rfl rfl l0_0 (by rfl) (fun g2 w2 c2 hc2 hS2 => ?_)
 replace hS2 : St w NoX [c2] w2 := hS2
 refine W_v rfl rfl (V_asg rfl rfl) ?_
 refine W_v rfl rfl (V_asg rfl rfl) ?_
 refine W_v rfl rfl (V_asg rfl rfl) ?_
 refine W_end (gen_Q fun A3 hA3 => ?_)
 have hsz3 := szq hA3
 have hdf3 := dfE hA3 hdf0
 have l1_3 := ek4 hA3 1 rfl l1_0
 have l2_3 := lookE hA3 2 (e3 rfl (et rfl))
 clear hA3 hsz0 hdf0 l0_0 l1_0
 refine then_n (hK1 _ _ ?_)
 clear hK1
 refine wp_seq_k fun K4 hK4 => ?_
 refine region_in ?_
 refine W_r rfl rfl (VR_ldA rfl l2_3 (hS2.obj 0 rfl hc2) Try.underlying23 rfl (by kernel_rfl)) ?_
 refine W_call rfl rfl rfl Try.func54 (by kernel_rfl) rfl (args1 (et rfl)) (qcfg_c (C := C) (N := N) (Z := Z) (K := K) (Q := Q)  ) ?_
 rintro _ w5 ⟨rfl, hP5⟩
 refine ⟨_, rfl, ?_⟩
 have hS5 := hS2.join hP5
 replace hS5 : St w NoX [c2] w5 := hS5
 refine W_v rfl rfl (V_asg rfl (et rfl)) ?_
 refine W_end (gen_Q fun A6 hA6 => ?_)
 have hsz6 := szq hA6
 have hdf6 := dfE hA6 hdf3
 have l1_6 := ek3 hA6 1 rfl l1_3
 have l2_6 := ek3 hA6 2 rfl l2_3
 have l7_6 := lookE hA6 7 (et rfl)
 clear hA6 hsz3 hdf3 l1_3 l2_3
 refine then_n (hK4 _ _ ?_)
 clear hK4
 refine wp_seq_k fun K7 hK7 => ?_
 refine wp_seq_k fun K8 hK8 => ?_
 refine region_in ?_
 refine W_v rfl rfl (V_mov rfl l7_6) ?_
 refine W_v rfl rfl (V_eql rfl (et rfl) rfl) ?_
 refine W_split rfl rfl (V_mov rfl (et rfl)) (fun c9 => ?_) (fun c9 => ?_)
 ·have hr := cf_rng (show cfE C N Z K Q = 0 by omega)
  have hm := mul_rng hr.2.1 hr.1
  refine W_v rfl (wanted_t rfl rfl (et rfl) (ez rfl)) (V_mov rfl (e3 rfl l1_6)) ?_
  refine W_v rfl (wanted_t rfl rfl (es rfl (et rfl)) (ez rfl)) (V_fa (off' := 1) rfl (e4 rfl l2_6) Try.underlying23 rfl (by decide +kernel) rfl) ?_
  refine W_r rfl (wanted_t rfl rfl (e2 rfl (et rfl)) (ez rfl)) (VR_ldC rfl (et rfl) (cell_box (v := .int .i64 (N)) (hS5.obj 0 rfl hc2) rfl) Try.underlying3 rfl) ?_
  refine W_v rfl (wanted_t rfl rfl (e3 rfl (et rfl)) (ez rfl)) (V_sb rfl (et rfl) rfl (by omega) (by omega)) ?_
  refine W_call rfl (wanted_t rfl rfl (e4 rfl (et rfl)) (ez rfl)) rfl Try.func83 (by kernel_rfl) rfl (args3 (e3 rfl (et rfl)) rfl (et rfl)) (qin_c (n := i) (a := (-1)) (b := (N - 1))  ) ?_
  rintro _ w10 ⟨rfl, hP10⟩
  refine ⟨_, rfl, ?_⟩
  have hS10 := hS5.join hP10
  replace hS10 : St w NoX [c2] w10 := hS10
  refine W_v rfl (wanted_t rfl rfl (e5 rfl (et rfl)) (ez rfl)) (V_notd rfl (et rfl)) ?_
  refine W_v rfl rfl (V_pickT rfl (e6 rfl (et rfl)) (et rfl)) ?_
  refine W_end (gen_Q fun A11 hA11 => ?_)
  have hsz11 := szq hA11
  have hdf11 := dfE hA11 hdf6
  have l1_11 := ek10 hA11 1 rfl l1_6
  have l2_11 := ek10 hA11 2 rfl l2_6
  have l7_11 := ek10 hA11 7 rfl l7_6
  have l20_11 := lookE hA11 20 (et rfl)
  clear hA11 hsz6 hdf6 l1_6 l2_6 l7_6
  refine then_n (hK8 _ _ ?_)
  clear hK8
  refine cond_dec l20_11 (fun c12 => ?_) (fun c12 => ?_)
  ·refine region_in ?_
   refine W_v rfl rfl (V_asg rfl rfl) ?_
   refine W_end (gen_Q fun A13 hA13 => ?_)
   have hsz13 := szq hA13
   have hdf13 := dfE hA13 hdf11
   have l1_13 := lookE hA13 1 (es rfl l1_11)
   have l2_13 := lookE hA13 2 (es rfl l2_11)
   have l7_13 := lookE hA13 7 (et rfl)
   clear hA13 hsz11 hdf11 l1_11 l2_11 l7_11 l20_11
   refine then_n (hK7 _ _ ?_)
   clear hK7
   refine wp_seq_k fun K14 hK14 => ?_
   refine wp_seq_k fun K15 hK15 => ?_
   refine region_in ?_
   refine W_v rfl rfl (V_mov rfl l7_13) ?_
   refine W_v rfl rfl (V_neq rfl (et rfl) rfl) ?_
   refine W_end (gen_Q fun A16 hA16 => ?_)
   have hsz16 := szq hA16
   have hdf16 := dfE hA16 hdf13
   have l1_16 := ek2 hA16 1 rfl l1_13
   have l2_16 := ek2 hA16 2 rfl l2_13
   have l7_16 := ek2 hA16 7 rfl l7_13
   have l22_16 := lookE hA16 22 (et rfl)
   clear hA16 hsz13 hdf13 l1_13 l2_13 l7_13
   refine then_n (hK15 _ _ ?_)
   clear hK15
   refine cond_sure l22_16 (by decide) ?_
   refine wp_seq_k fun K17 hK17 => ?_
   refine region_in ?_
   refine W_v rfl rfl (V_mov rfl l7_16) ?_
   refine W_v rfl rfl (V_asg rfl rfl) ?_
   refine W_v rfl rfl (V_asg rfl rfl) ?_
   refine W_v rfl rfl (V_asg rfl (e2 rfl (et rfl))) ?_
   refine W_end (gen_Q fun A18 hA18 => ?_)
   have hsz18 := szq hA18
   have hdf18 := dfE hA18 hdf16
   have l4_18 := lookE hA18 4 (e2 rfl (et rfl))
   have l5_18 := lookE hA18 5 (es rfl (et rfl))
   have l6_18 := lookE hA18 6 (et rfl)
   clear hA18 hsz16 hdf16 l1_16 l2_16 l7_16 l22_16
   have hS19 : St w NoX [] w10 := hS10.sel [] (by decide) rfl
   refine then_n (hK17 _ _ ?_)
   clear hK17
   refine wp_ret ?_
   refine then_ret ?_
   refine ret_in (results_3 Try.results66 (rv_tmp l4_18) (rv_tmp l5_18) (rv_tmp l6_18)) hdf18 ?_
   have he : spE C N Z K Q i = 7 := sp_e2 (show cfE C N Z K Q = 0 by omega) (by omega)
   have hb := sp_bad (C := C) (N := N) (Z := Z) (K := K) (Q := Q) (i := i) (by omega)
   rw [hb.1, hb.2, he]
   exact ⟨rfl, hS19.fin0⟩
  ·refine wp_skip ?_
   refine then_n (hK7 _ _ ?_)
   clear hK7
   refine wp_seq_k fun K20 hK20 => ?_
   refine wp_seq_k fun K21 hK21 => ?_
   refine region_in ?_
   refine W_v rfl rfl (V_mov rfl l7_11) ?_
   refine W_v rfl rfl (V_neq rfl (et rfl) rfl) ?_
   refine W_end (gen_Q fun A22 hA22 => ?_)
   have hsz22 := szq hA22
   have hdf22 := dfE hA22 hdf11
   have l1_22 := ek2 hA22 1 rfl l1_11
   have l2_22 := ek2 hA22 2 rfl l2_11
   have l7_22 := ek2 hA22 7 rfl l7_11
   have l22_22 := lookE hA22 22 (et rfl)
   clear hA22 hsz11 hdf11 l1_11 l2_11 l7_11 l20_11
   refine then_n (hK21 _ _ ?_)
   clear hK21
   refine cond_not l22_22 (by first | (simp [c9]; done) | exact decide_eq_true (by omega) | exact decide_eq_false (by omega)) ?_
   refine wp_skip ?_
   refine then_n (hK20 _ _ ?_)
   clear hK20
   refine wp_seq_k fun K23 hK23 => ?_
   refine wp_seq_k fun K24 hK24 => ?_
   refine region_in ?_
   refine W_v rfl rfl (V_mov rfl l1_22) ?_
   refine W_v rfl rfl (V_lss rfl (et rfl) rfl) ?_
   refine W_end (gen_Q fun A25 hA25 => ?_)
   have hsz25 := szq hA25
   have hdf25 := dfE hA25 hdf22
   have l1_25 := ek2 hA25 1 rfl l1_22
   have l2_25 := ek2 hA25 2 rfl l2_22
   have l25_25 := lookE hA25 25 (et rfl)
   clear hA25 hsz22 hdf22 l1_22 l2_22 l7_22 l22_22
   refine then_n (hK24 _ _ ?_)
   clear hK24
   refine cond_dec l25_25 (fun c26 => ?_) (fun c26 => ?_)
   ·refine wp_seq_k fun K27 hK27 => ?_
    refine region_monoS 6 6 [] (by kernel_rfl) (by kernel_rfl) ?_
    refine D_v rfl rfl (V_fa (off' := 2) rfl l2_25 Try.underlying23 rfl (by decide +kernel) rfl) rfl rfl ?_
    refine D_r rfl rfl (by kernel_rfl) (fun sx hx hF => (VR_ldC rfl (et rfl) (cell_box (v := .int .i64 (Z)) ((hS10.grow hx).obj 0 rfl hc2) rfl) Try.underlying3 rfl)) rfl rfl ?_
    refine D_v rfl rfl (V_add rfl rfl (et rfl) (by omega) (by omega)) rfl rfl ?_
    refine D_v rfl rfl (V_asg rfl rfl) rfl rfl ?_
    refine D_v rfl rfl (V_asg rfl (es rfl (et rfl))) rfl rfl ?_
    refine D_v rfl rfl (V_asg rfl rfl) rfl rfl ?_
    refine ZS_none hS10 (Nat.le_refl _) (Nat.le_refl _) (fun s28 hJ28 hL28 hF28 => ?_)
    have hS28 := hJ28.st; clear hF28 hJ28 hL28
    generalize s28.1 = w28 at *
    replace hS28 : St w NoX [c2] w28 := hS28
    refine gen_Q (fun A29 hA29 => ?_)
    have hsz29 := szq hA29
    have hdf29 := dfE hA29 hdf25
    have l4_29 := lookE hA29 4 (e2 rfl (et rfl))
    have l5_29 := lookE hA29 5 (es rfl (et rfl))
    have l6_29 := lookE hA29 6 (et rfl)
    clear hA29 hsz25 hdf25 l1_25 l2_25 l25_25
    have hS30 : St w NoX [] w28 := hS28.sel [] (by decide) rfl
    refine then_n (hK27 _ _ ?_)
    clear hK27
    refine wp_ret ?_
    refine then_ret ?_
    refine ret_in (results_3 Try.results66 (rv_tmp l4_29) (rv_tmp l5_29) (rv_tmp l6_29)) hdf29 ?_
    have he : spE C N Z K Q i = 0 := sp_e0 (by omega) (by omega)
    have hb := sp_young he (by omega)
    rw [hb.1, hb.2, he]
    exact ⟨rfl, hS30.fin0⟩
   ·have hmi := mul_rng0 (N := i) (C := C) ⟨by omega, by omega⟩ hr.1
    refine wp_skip ?_
    refine then_n (hK23 _ _ ?_)
    clear hK23
    refine wp_seq_k fun K31 hK31 => ?_
    refine region_in ?_
    refine W_v rfl rfl (V_fa (off' := 2) rfl l2_25 Try.underlying23 rfl (by decide +kernel) rfl) ?_
    refine W_r rfl rfl (VR_ldC rfl (et rfl) (cell_box (v := .int .i64 (Z)) (hS10.obj 0 rfl hc2) rfl) Try.underlying3 rfl) ?_
    refine W_v rfl rfl (V_add rfl rfl (et rfl) (by omega) (by omega)) ?_
    refine W_v rfl rfl (V_mov rfl (e3 rfl l1_25)) ?_
    refine W_v rfl rfl (V_fa (off' := 0) rfl (e4 rfl l2_25) Try.underlying23 rfl (by decide +kernel) rfl) ?_
    refine W_r rfl rfl (VR_ldC rfl (et rfl) (cell_box (v := .int .i64 (C)) (hS10.obj 0 rfl hc2) rfl) Try.underlying3 rfl) ?_
    refine W_v rfl rfl (V_mul rfl (e2 rfl (et rfl)) (et rfl) (by omega) (by omega)) ?_
    refine W_v rfl rfl (V_add rfl (e4 rfl (et rfl)) (et rfl) (by omega) (by omega)) ?_
    refine W_v rfl rfl (V_asg rfl (et rfl)) ?_
    refine W_end (gen_Q fun A32 hA32 => ?_)
    have hsz32 := szq hA32
    have hdf32 := dfE hA32 hdf25
    have l2_32 := ek9 hA32 2 rfl l2_25
    have l8_32 := lookE hA32 8 (et rfl)
    clear hA32 hsz25 hdf25 l1_25 l2_25 l25_25
    refine then_n (hK31 _ _ ?_)
    clear hK31
    refine wp_seq_k fun K33 hK33 => ?_
    refine region_monoS 8 8 [] (by kernel_rfl) (by kernel_rfl) ?_
    refine D_v rfl rfl (V_mov rfl l8_32) rfl rfl ?_
    refine D_v rfl rfl (V_mov rfl (es rfl l8_32)) rfl rfl ?_
    refine D_v rfl rfl (V_fa (off' := 0) rfl (e2 rfl l2_32) Try.underlying23 rfl (by decide +kernel) rfl) rfl rfl ?_
    refine D_r rfl rfl (by kernel_rfl) (fun sx hx hF => (VR_ldC rfl (et rfl) (cell_box (v := .int .i64 (C)) ((hS10.grow hx).obj 0 rfl hc2) rfl) Try.underlying3 rfl)) rfl rfl ?_
    refine D_v rfl rfl (V_add rfl (e2 rfl (et rfl)) (et rfl) (by omega) (by omega)) rfl rfl ?_
    refine D_v rfl rfl (V_asg rfl (e4 rfl (et rfl))) rfl rfl ?_
    refine D_v rfl rfl (V_asg rfl (es rfl (et rfl))) rfl rfl ?_
    refine D_v rfl rfl (V_asg rfl rfl) rfl rfl ?_
    refine ZS_none hS10 (Nat.le_refl _) (Nat.le_refl _) (fun s34 hJ34 hL34 hF34 => ?_)
    have hS34 := hJ34.st; clear hF34 hJ34 hL34
    generalize s34.1 = w34 at *
    replace hS34 : St w NoX [c2] w34 := hS34
    refine gen_Q (fun A35 hA35 => ?_)
    have hsz35 := szq hA35
    have hdf35 := dfE hA35 hdf32
    have l4_35 := lookE hA35 4 (e2 rfl (et rfl))
    have l5_35 := lookE hA35 5 (es rfl (et rfl))
    have l6_35 := lookE hA35 6 (et rfl)
    clear hA35 hsz32 hdf32 l2_32 l8_32
    have hS36 : St w NoX [] w34 := hS34.sel [] (by decide) rfl
    refine then_n (hK33 _ _ ?_)
    clear hK33
    refine wp_ret ?_
    refine ret_in (results_3 Try.results66 (rv_tmp l4_35) (rv_tmp l5_35) (rv_tmp l6_35)) hdf35 ?_
    have he : spE C N Z K Q i = 0 := sp_e0 (by omega) (by omega)
    have hb := sp_car he (by omega)
    rw [hb.1, hb.2, he]
    exact ⟨rfl, hS36.fin0⟩
 ·refine W_off rfl (wanted_f rfl rfl (et rfl) (ez rfl) rfl) ?_
  refine W_off rfl (wanted_f rfl rfl (es rfl (et rfl)) (ez rfl) rfl) ?_
  refine W_off rfl (wanted_f rfl rfl (e2 rfl (et rfl)) (ez rfl) rfl) ?_
  refine W_off rfl (wanted_f rfl rfl (e3 rfl (et rfl)) (ez rfl) rfl) ?_
  refine W_off rfl (wanted_f rfl rfl (e4 rfl (et rfl)) (ez rfl) rfl) ?_
  refine W_off rfl (wanted_f rfl rfl (e5 rfl (et rfl)) (ez rfl) rfl) ?_
  refine W_v rfl rfl (V_pickF rfl (e6 rfl (et rfl)) rfl) ?_
  refine W_end (gen_Q fun A37 hA37 => ?_)
  have hsz37 := szq hA37
  have hdf37 := dfE hA37 hdf6
  have l1_37 := ek10 hA37 1 rfl l1_6
  have l2_37 := ek10 hA37 2 rfl l2_6
  have l7_37 := ek10 hA37 7 rfl l7_6
  have l20_37 := lookE hA37 20 (et rfl)
  clear hA37 hsz6 hdf6 l1_6 l2_6 l7_6
  refine then_n (hK8 _ _ ?_)
  clear hK8
  refine cond_f l20_37 ?_
  refine wp_skip ?_
  refine then_n (hK7 _ _ ?_)
  clear hK7
  refine wp_seq_k fun K38 hK38 => ?_
  refine wp_seq_k fun K39 hK39 => ?_
  refine region_in ?_
  refine W_v rfl rfl (V_mov rfl l7_37) ?_
  refine W_v rfl rfl (V_neq rfl (et rfl) rfl) ?_
  refine W_end (gen_Q fun A40 hA40 => ?_)
  have hsz40 := szq hA40
  have hdf40 := dfE hA40 hdf37
  have l1_40 := ek2 hA40 1 rfl l1_37
  have l2_40 := ek2 hA40 2 rfl l2_37
  have l7_40 := ek2 hA40 7 rfl l7_37
  have l22_40 := lookE hA40 22 (et rfl)
  clear hA40 hsz37 hdf37 l1_37 l2_37 l7_37 l20_37
  refine then_n (hK39 _ _ ?_)
  clear hK39
  refine cond_sure l22_40 (by first | (simp [c9]; done) | exact decide_eq_true (by omega) | exact decide_eq_false (by omega)) ?_
  refine wp_seq_k fun K41 hK41 => ?_
  refine region_in ?_
  refine W_v rfl rfl (V_mov rfl l7_40) ?_
  refine W_v rfl rfl (V_asg rfl rfl) ?_
  refine W_v rfl rfl (V_asg rfl rfl) ?_
  refine W_v rfl rfl (V_asg rfl (e2 rfl (et rfl))) ?_
  refine W_end (gen_Q fun A42 hA42 => ?_)
  have hsz42 := szq hA42
  have hdf42 := dfE hA42 hdf40
  have l4_42 := lookE hA42 4 (e2 rfl (et rfl))
  have l5_42 := lookE hA42 5 (es rfl (et rfl))
  have l6_42 := lookE hA42 6 (et rfl)
  clear hA42 hsz40 hdf40 l1_40 l2_40 l7_40 l22_40
  have hS43 : St w NoX [] w5 := hS5.sel [] (by decide) rfl
  refine then_n (hK41 _ _ ?_)
  clear hK41
  refine wp_ret ?_
  refine then_ret ?_
  refine ret_in (results_3 Try.results66 (rv_tmp l4_42) (rv_tmp l5_42) (rv_tmp l6_42)) hdf42 ?_
  have he : spE C N Z K Q i = (cfE C N Z K Q) := sp_e1 (by omega)
  have hb := sp_bad (C := C) (N := N) (Z := Z) (K := K) (Q := Q) (i := i) (by omega)
  rw [hb.1, hb.2, he]
  exact ⟨rfl, hS43.fin0⟩

set_option maxHeartbeats 4000000 in
theorem kpl_c {C : Int} {N : Int} {Z : Int} {K : Int} {Q : Int} {a : Int} {w : World}   :
  Calls Try.prog 73 #[.agg #[.int .i64 C, .int .i64 N, .int .i64 Z, .int .i64 K, .int .i64 Q], .int .i64 a] w fun e w' => e = .returned (.tuple #[.int .i64 (caN C N Z K Q a), .int .i64 (caO C N Z K Q a), .int .i64 (caE C N Z K Q a)]) ∧ St w NoX [] w' := by
 refine calls_in 46 Try.func73 rfl rfl (by simp) (fun A0 hsz0 hdf0 hargs => ?_)
 have l0_0 := hargs 0 (.agg #[.int .i64 C, .int .i64 N, .int .i64 Z, .int .i64 K, .int .i64 Q]) rfl
 have l1_0 := hargs 1 (.int .i64 a) rfl
 clear hargs; replace hsz0 : SzN A0 46 := ⟨hsz0⟩
 have hS := St.nil w
 refine wp_seq_k fun K1 hK1 => ?_
 refine region_in ?_
 refine W_boxS (zs := #[.int .i64 (C), .int .i64 (N), .int .i64 (Z), .int .i64 (K), .int .i64 (Q)]) hS rfl rfl rfl l0_0 (by rfl) (fun g2 w2 c2 hc2 hS2 => ?_)
 replace hS2 : St w NoX [c2] w2 := hS2
 refine W_v rfl rfl (V_asg rfl rfl) ?_
 refine W_v rfl rfl (V_asg rfl rfl) ?_
 refine W_v rfl rfl (V_asg rfl rfl) ?_
 refine W_end (gen_Q fun A3 hA3 => ?_)
 have hsz3 := szq hA3
 have hdf3 := dfE hA3 hdf0
 have l1_3 := ek4 hA3 1 rfl l1_0
 have l2_3 := lookE hA3 2 (e3 rfl (et rfl))
 clear hA3 hsz0 hdf0 l0_0 l1_0
 refine then_n (hK1 _ _ ?_)
 clear hK1
 refine wp_seq_k fun K4 hK4 => ?_
 refine wp_seq_k fun K5 hK5 => ?_
 refine region_in ?_
 refine W_r rfl rfl (VR_ldA rfl l2_3 (hS2.obj 0 rfl hc2) Try.underlying23 rfl (by kernel_rfl)) ?_
 refine W_call rfl rfl rfl Try.func99 (by kernel_rfl) rfl (args1 (et rfl)) (kwd_c (C := C) (N := N) (Z := Z) (K := K) (Q := Q)  ) ?_
 rintro _ w6 ⟨rfl, hP6⟩
 refine ⟨_, rfl, ?_⟩
 have hS6 := hS2.join hP6
 replace hS6 : St w NoX [c2] w6 := hS6
 refine W_v rfl rfl (V_mov rfl (et rfl)) ?_
 refine W_v rfl rfl (V_ext (v := .int .i64 ((wdN C N Z K Q))) rfl (et rfl) rfl) ?_
 refine W_v rfl rfl (V_ext (v := .int .i64 ((cfE C N Z K Q))) rfl (es rfl (et rfl)) rfl) ?_
 refine W_v rfl rfl (V_asg rfl (es rfl (et rfl))) ?_
 refine W_v rfl rfl (V_asg rfl (es rfl (et rfl))) ?_
 refine W_end (gen_Q fun A7 hA7 => ?_)
 have hsz7 := szq hA7
 have hdf7 := dfE hA7 hdf3
 have l1_7 := ek7 hA7 1 rfl l1_3
 have l2_7 := ek7 hA7 2 rfl l2_3
 have l7_7 := lookE hA7 7 (es rfl (et rfl))
 have l8_7 := lookE hA7 8 (et rfl)
 clear hA7 hsz3 hdf3 l1_3 l2_3
 refine then_n (hK5 _ _ ?_)
 clear hK5
 refine wp_block ?_
 refine wp_seq_k fun K8 hK8 => ?_
 refine region_in ?_
 refine W_v rfl rfl (V_mov rfl l8_7) ?_
 refine W_v rfl rfl (V_neq rfl (et rfl) rfl) ?_
 refine W_v rfl rfl (V_asg rfl (et rfl)) ?_
 refine W_end (gen_Q fun A9 hA9 => ?_)
 have hsz9 := szq hA9
 have hdf9 := dfE hA9 hdf7
 have l1_9 := ek3 hA9 1 rfl l1_7
 have l2_9 := ek3 hA9 2 rfl l2_7
 have l7_9 := ek3 hA9 7 rfl l7_7
 have l8_9 := ek3 hA9 8 rfl l8_7
 have l14_9 := lookE hA9 14 (et rfl)
 clear hA9 hsz7 hdf7 l1_7 l2_7 l7_7 l8_7
 refine then_n (hK8 _ _ ?_)
 clear hK8
 refine cond_dec l14_9 (fun c10 => ?_) (fun c10 => ?_)
 ·refine wp_seq_k fun K11 hK11 => ?_
  refine region_in ?_
  refine W_v rfl rfl (V_mov rfl l8_9) ?_
  refine W_v rfl rfl (V_asg rfl rfl) ?_
  refine W_v rfl rfl (V_asg rfl rfl) ?_
  refine W_v rfl rfl (V_asg rfl (e2 rfl (et rfl))) ?_
  refine W_end (gen_Q fun A12 hA12 => ?_)
  have hsz12 := szq hA12
  have hdf12 := dfE hA12 hdf9
  have l4_12 := lookE hA12 4 (e2 rfl (et rfl))
  have l5_12 := lookE hA12 5 (es rfl (et rfl))
  have l6_12 := lookE hA12 6 (et rfl)
  clear hA12 hsz9 hdf9 l1_9 l2_9 l7_9 l8_9 l14_9
  have hS13 : St w NoX [] w6 := hS6.sel [] (by decide) rfl
  refine then_n (hK11 _ _ ?_)
  clear hK11
  refine wp_ret ?_
  refine inb_ret ?_
  refine then_ret ?_
  refine ret_in (results_3 Try.results73 (rv_tmp l4_12) (rv_tmp l5_12) (rv_tmp l6_12)) hdf12 ?_
  have he : caE C N Z K Q a = (cfE C N Z K Q) := ca_e1 (by omega)
  have hb := ca_bad (C := C) (N := N) (Z := Z) (K := K) (Q := Q) (a := a) (by omega)
  rw [hb.1, hb.2, he]
  exact ⟨rfl, hS13.fin0⟩
 ·have hw := wd_ok (show cfE C N Z K Q = 0 by omega)
  have hr := cf_rng (show cfE C N Z K Q = 0 by omega)
  refine wp_seq_k fun K14 hK14 => ?_
  refine region_in ?_
  refine W_v rfl rfl (V_mov rfl l1_9) ?_
  refine W_v rfl rfl (V_lss rfl (et rfl) rfl) ?_
  refine W_split rfl rfl (V_mov rfl (et rfl)) (fun c15 => ?_) (fun c15 => ?_)
  ·refine W_off rfl (wanted_f rfl rfl (et rfl) (ez rfl) rfl) ?_
   refine W_off rfl (wanted_f rfl rfl (es rfl (et rfl)) (ez rfl) rfl) ?_
   refine W_off rfl (wanted_f rfl rfl (e2 rfl (et rfl)) (ez rfl) rfl) ?_
   refine W_v rfl rfl (V_pickT rfl (e3 rfl (et rfl)) rfl) ?_
   refine W_v rfl rfl (V_asg rfl (et rfl)) ?_
   refine W_end (gen_Q fun A16 hA16 => ?_)
   have hsz16 := szq hA16
   have hdf16 := dfE hA16 hdf9
   have l1_16 := ek8 hA16 1 rfl l1_9
   have l2_16 := ek8 hA16 2 rfl l2_9
   have l18_16 := lookE hA16 18 (et rfl)
   clear hA16 hsz9 hdf9 l1_9 l2_9 l7_9 l8_9 l14_9
   refine then_n (hK14 _ _ ?_)
   clear hK14
   refine cond_t l18_16 ?_
   refine wp_seq_k fun K17 hK17 => ?_
   refine region_in ?_
   refine W_v rfl rfl (V_asg rfl rfl) ?_
   refine W_v rfl rfl (V_asg rfl rfl) ?_
   refine W_v rfl rfl (V_asg rfl rfl) ?_
   refine W_end (gen_Q fun A18 hA18 => ?_)
   have hsz18 := szq hA18
   have hdf18 := dfE hA18 hdf16
   have l4_18 := lookE hA18 4 (e2 rfl (et rfl))
   have l5_18 := lookE hA18 5 (es rfl (et rfl))
   have l6_18 := lookE hA18 6 (et rfl)
   clear hA18 hsz16 hdf16 l1_16 l2_16 l18_16
   have hS19 : St w NoX [] w6 := hS6.sel [] (by decide) rfl
   refine then_n (hK17 _ _ ?_)
   clear hK17
   refine wp_ret ?_
   refine inb_ret ?_
   refine then_ret ?_
   refine ret_in (results_3 Try.results73 (rv_tmp l4_18) (rv_tmp l5_18) (rv_tmp l6_18)) hdf18 ?_
   have he : caE C N Z K Q a = 7 := ca_e2 (show cfE C N Z K Q = 0 by omega) (by omega)
   have hb := ca_bad (C := C) (N := N) (Z := Z) (K := K) (Q := Q) (a := a) (by omega)
   rw [hb.1, hb.2, he]
   exact ⟨rfl, hS19.fin0⟩
  ·refine W_v rfl (wanted_t rfl rfl (et rfl) (ez rfl)) (V_mov rfl (e3 rfl l1_9)) ?_
   refine W_v rfl (wanted_t rfl rfl (es rfl (et rfl)) (ez rfl)) (V_mov rfl (e4 rfl l7_9)) ?_
   refine W_v rfl (wanted_t rfl rfl (e2 rfl (et rfl)) (ez rfl)) (V_geq rfl (es rfl (et rfl)) (et rfl)) ?_
   refine W_v rfl rfl (V_pickF rfl (e3 rfl (et rfl)) (et rfl)) ?_
   refine W_v rfl rfl (V_asg rfl (et rfl)) ?_
   refine W_end (gen_Q fun A20 hA20 => ?_)
   have hsz20 := szq hA20
   have hdf20 := dfE hA20 hdf9
   have l1_20 := ek8 hA20 1 rfl l1_9
   have l2_20 := ek8 hA20 2 rfl l2_9
   have l18_20 := lookE hA20 18 (et rfl)
   clear hA20 hsz9 hdf9 l1_9 l2_9 l7_9 l8_9 l14_9
   refine then_n (hK14 _ _ ?_)
   clear hK14
   refine cond_dec l18_20 (fun c21 => ?_) (fun c21 => ?_)
   ·refine wp_seq_k fun K22 hK22 => ?_
    refine region_in ?_
    refine W_v rfl rfl (V_asg rfl rfl) ?_
    refine W_v rfl rfl (V_asg rfl rfl) ?_
    refine W_v rfl rfl (V_asg rfl rfl) ?_
    refine W_end (gen_Q fun A23 hA23 => ?_)
    have hsz23 := szq hA23
    have hdf23 := dfE hA23 hdf20
    have l4_23 := lookE hA23 4 (e2 rfl (et rfl))
    have l5_23 := lookE hA23 5 (es rfl (et rfl))
    have l6_23 := lookE hA23 6 (et rfl)
    clear hA23 hsz20 hdf20 l1_20 l2_20 l18_20
    have hS24 : St w NoX [] w6 := hS6.sel [] (by decide) rfl
    refine then_n (hK22 _ _ ?_)
    clear hK22
    refine wp_ret ?_
    refine inb_ret ?_
    refine then_ret ?_
    refine ret_in (results_3 Try.results73 (rv_tmp l4_23) (rv_tmp l5_23) (rv_tmp l6_23)) hdf23 ?_
    have he : caE C N Z K Q a = 7 := ca_e2 (show cfE C N Z K Q = 0 by omega) (by omega)
    have hb := ca_bad (C := C) (N := N) (Z := Z) (K := K) (Q := Q) (a := a) (by omega)
    rw [hb.1, hb.2, he]
    exact ⟨rfl, hS24.fin0⟩
   ·refine wp_seq_k fun K25 hK25 => ?_
    refine region_in ?_
    refine W_v rfl rfl (V_mov rfl l1_20) ?_
    refine W_v rfl rfl (V_fa (off' := 2) rfl (es rfl l2_20) Try.underlying23 rfl (by decide +kernel) rfl) ?_
    refine W_r rfl rfl (VR_ldC rfl (et rfl) (cell_box (v := .int .i64 (Z)) (hS6.obj 0 rfl hc2) rfl) Try.underlying3 rfl) ?_
    refine W_v rfl rfl (V_leq rfl (e2 rfl (et rfl)) (et rfl)) ?_
    refine W_v rfl rfl (V_asg rfl (et rfl)) ?_
    refine W_end (gen_Q fun A26 hA26 => ?_)
    have hsz26 := szq hA26
    have hdf26 := dfE hA26 hdf20
    have l1_26 := ek5 hA26 1 rfl l1_20
    have l2_26 := ek5 hA26 2 rfl l2_20
    have l26_26 := lookE hA26 26 (et rfl)
    clear hA26 hsz20 hdf20 l1_20 l2_20 l18_20
    refine then_n (hK25 _ _ ?_)
    clear hK25
    refine cond_dec l26_26 (fun c27 => ?_) (fun c27 => ?_)
    ·refine wp_seq_k fun K28 hK28 => ?_
     refine region_in ?_
     refine W_v rfl rfl (V_mov rfl l1_26) ?_
     refine W_v rfl rfl (V_sb rfl (et rfl) rfl (by omega) (by omega)) ?_
     refine W_v rfl rfl (V_asg rfl rfl) ?_
     refine W_v rfl rfl (V_asg rfl (es rfl (et rfl))) ?_
     refine W_v rfl rfl (V_asg rfl rfl) ?_
     refine W_end (gen_Q fun A29 hA29 => ?_)
     have hsz29 := szq hA29
     have hdf29 := dfE hA29 hdf26
     have l4_29 := lookE hA29 4 (e2 rfl (et rfl))
     have l5_29 := lookE hA29 5 (es rfl (et rfl))
     have l6_29 := lookE hA29 6 (et rfl)
     clear hA29 hsz26 hdf26 l1_26 l2_26 l26_26
     have hS30 : St w NoX [] w6 := hS6.sel [] (by decide) rfl
     refine then_n (hK28 _ _ ?_)
     clear hK28
     refine wp_ret ?_
     refine inb_ret ?_
     refine then_ret ?_
     refine ret_in (results_3 Try.results73 (rv_tmp l4_29) (rv_tmp l5_29) (rv_tmp l6_29)) hdf29 ?_
     have he : caE C N Z K Q a = 0 := ca_e0 (by omega) (by omega)
     have hb := ca_young he (by omega)
     rw [hb.1, hb.2, he]
     exact ⟨rfl, hS30.fin0⟩
    ·refine wp_skip ?_
     refine inb_n ?_
     refine then_n (hK4 _ _ ?_)
     clear hK4
     refine wp_seq_k fun K31 hK31 => ?_
     refine region_in ?_
     refine W_v rfl rfl (V_mov rfl l1_26) ?_
     refine W_v rfl rfl (V_fa (off' := 2) rfl (es rfl l2_26) Try.underlying23 rfl (by decide +kernel) rfl) ?_
     refine W_r rfl rfl (VR_ldC rfl (et rfl) (cell_box (v := .int .i64 (Z)) (hS6.obj 0 rfl hc2) rfl) Try.underlying3 rfl) ?_
     refine W_v rfl rfl (V_add rfl rfl (et rfl) (by omega) (by omega)) ?_
     refine W_v rfl rfl (V_sb rfl (e3 rfl (et rfl)) (et rfl) (by omega) (by omega)) ?_
     refine W_v rfl rfl (V_asg rfl (et rfl)) ?_
     refine W_end (gen_Q fun A32 hA32 => ?_)
     have hsz32 := szq hA32
     have hdf32 := dfE hA32 hdf26
     have l1_32 := lookE hA32 1 (et rfl)
     have l2_32 := ek6 hA32 2 rfl l2_26
     clear hA32 hsz26 hdf26 l1_26 l2_26 l26_26
     refine then_n (hK31 _ _ ?_)
     clear hK31
     refine wp_seq_k fun K33 hK33 => ?_
     refine region_monoS 11 11 [] (by kernel_rfl) (by kernel_rfl) ?_
     refine D_v rfl rfl (V_mov rfl l1_32) rfl rfl ?_
     refine D_v rfl rfl (V_fa (off' := 0) rfl (es rfl l2_32) Try.underlying23 rfl (by decide +kernel) rfl) rfl rfl ?_
     refine D_r rfl rfl (by kernel_rfl) (fun sx hx hF => (VR_ldC rfl (et rfl) (cell_box (v := .int .i64 (C)) ((hS6.grow hx).obj 0 rfl hc2) rfl) Try.underlying3 rfl)) rfl rfl ?_
     refine D_v rfl rfl (V_quo rfl (e2 rfl (et rfl)) (et rfl) (by omega) (by omega) (wrap_div (by omega) (by omega) (by omega))) rfl rfl ?_
     refine D_v rfl rfl (V_mov rfl (e4 rfl l1_32)) rfl rfl ?_
     refine D_v rfl rfl (V_fa (off' := 0) rfl (e5 rfl l2_32) Try.underlying23 rfl (by decide +kernel) rfl) rfl rfl ?_
     refine D_r rfl rfl (by kernel_rfl) (fun sx hx hF => (VR_ldC rfl (et rfl) (cell_box (v := .int .i64 (C)) ((hS6.grow hx).obj 0 rfl hc2) rfl) Try.underlying3 rfl)) rfl rfl ?_
     refine D_v rfl rfl (V_rem rfl (e2 rfl (et rfl)) (et rfl) (by omega) (by omega) (wrap_mod (by omega) (by omega))) rfl rfl ?_
     refine D_v rfl rfl (V_asg rfl (e4 rfl (et rfl))) rfl rfl ?_
     refine D_v rfl rfl (V_asg rfl (es rfl (et rfl))) rfl rfl ?_
     refine D_v rfl rfl (V_asg rfl rfl) rfl rfl ?_
     refine ZS_none hS6 (Nat.le_refl _) (Nat.le_refl _) (fun s34 hJ34 hL34 hF34 => ?_)
     have hS34 := hJ34.st; clear hF34 hJ34 hL34
     generalize s34.1 = w34 at *
     replace hS34 : St w NoX [c2] w34 := hS34
     refine gen_Q (fun A35 hA35 => ?_)
     have hsz35 := szq hA35
     have hdf35 := dfE hA35 hdf32
     have l4_35 := lookE hA35 4 (e2 rfl (et rfl))
     have l5_35 := lookE hA35 5 (es rfl (et rfl))
     have l6_35 := lookE hA35 6 (et rfl)
     clear hA35 hsz32 hdf32 l1_32 l2_32
     have hS36 : St w NoX [] w34 := hS34.sel [] (by decide) rfl
     refine then_n (hK33 _ _ ?_)
     clear hK33
     refine wp_ret ?_
     refine ret_in (results_3 Try.results73 (rv_tmp l4_35) (rv_tmp l5_35) (rv_tmp l6_35)) hdf35 ?_
     have he : caE C N Z K Q a = 0 := ca_e0 (by omega) (by omega)
     have hb := ca_car he (by omega)
     rw [hb.1, hb.2, he]
     exact ⟨rfl, hS36.fin0⟩

set_option maxHeartbeats 4000000 in
theorem kca_c {C : Int} {N : Int} {Z : Int} {K : Int} {Q : Int} {a : Int} {w : World}   :
  Calls Try.prog 43 #[.agg #[.int .i64 C, .int .i64 N, .int .i64 Z, .int .i64 K, .int .i64 Q], .int .i64 a] w fun e w' => e = .returned (.tuple #[.int .i64 (caN C N Z K Q a), .int .i64 (caE C N Z K Q a)]) ∧ St w NoX [] w' := by
 refine calls_in 15 Try.func43 rfl rfl (by simp) (fun A0 hsz0 hdf0 hargs => ?_)
 have l0_0 := hargs 0 (.agg #[.int .i64 C, .int .i64 N, .int .i64 Z, .int .i64 K, .int .i64 Q]) rfl
 have l1_0 := hargs 1 (.int .i64 a) rfl
 clear hargs; replace hsz0 : SzN A0 15 := ⟨hsz0⟩
 have hS := St.nil w
 refine wp_seq_k fun K1 hK1 => ?_
 refine region_in ?_
 refine W_boxS (zs := #[.int .i64 (C), .int .i64 (N), .int .i64 (Z), .int .i64 (K), .int .i64 (Q)]) hS rfl rfl rfl l0_0 (by rfl) (fun g2 w2 c2 hc2 hS2 => ?_)
 replace hS2 : St w NoX [c2] w2 := hS2
 refine W_v rfl rfl (V_asg rfl rfl) ?_
 refine W_v rfl rfl (V_asg rfl rfl) ?_
 refine W_end (gen_Q fun A3 hA3 => ?_)
 have hsz3 := szq hA3
 have hdf3 := dfE hA3 hdf0
 have l1_3 := ek3 hA3 1 rfl l1_0
 have l2_3 := lookE hA3 2 (e2 rfl (et rfl))
 clear hA3 hsz0 hdf0 l0_0 l1_0
 refine then_n (hK1 _ _ ?_)
 clear hK1
 refine wp_seq_k fun K4 hK4 => ?_
 refine region_in ?_
 refine W_r rfl rfl (VR_ldA rfl l2_3 (hS2.obj 0 rfl hc2) Try.underlying23 rfl (by kernel_rfl)) ?_
 refine W_v rfl rfl (V_mov rfl (es rfl l1_3)) ?_
 refine W_call rfl rfl rfl Try.func73 (by kernel_rfl) rfl (args2 (es rfl (et rfl)) (et rfl)) (kpl_c (C := C) (N := N) (Z := Z) (K := K) (Q := Q) (a := a)  ) ?_
 rintro _ w5 ⟨rfl, hP5⟩
 refine ⟨_, rfl, ?_⟩
 have hS5 := hS2.join hP5
 replace hS5 : St w NoX [c2] w5 := hS5
 refine W_v rfl rfl (V_mov rfl (et rfl)) ?_
 refine W_v rfl rfl (V_ext (v := .int .i64 ((caN C N Z K Q a))) rfl (et rfl) rfl) ?_
 refine W_v rfl rfl (V_ext (v := .int .i64 ((caO C N Z K Q a))) rfl (es rfl (et rfl)) rfl) ?_
 refine W_v rfl rfl (V_ext (v := .int .i64 ((caE C N Z K Q a))) rfl (e2 rfl (et rfl)) rfl) ?_
 refine W_v rfl rfl (V_asg rfl (e2 rfl (et rfl))) ?_
 refine W_v rfl rfl (V_asg rfl (es rfl (et rfl))) ?_
 refine W_end (gen_Q fun A6 hA6 => ?_)
 have hsz6 := szq hA6
 have hdf6 := dfE hA6 hdf3
 have l4_6 := lookE hA6 4 (es rfl (et rfl))
 have l5_6 := lookE hA6 5 (et rfl)
 clear hA6 hsz3 hdf3 l1_3 l2_3
 have hS7 : St w NoX [] w5 := hS5.sel [] (by decide) rfl
 refine then_n (hK4 _ _ ?_)
 clear hK4
 refine wp_seq_k fun K8 hK8 => ?_
 refine region_in ?_
 refine W_v rfl rfl (V_mov rfl l4_6) ?_
 refine W_v rfl rfl (V_mov rfl (es rfl l5_6)) ?_
 refine W_v rfl rfl (V_asg rfl (es rfl (et rfl))) ?_
 refine W_v rfl rfl (V_asg rfl (es rfl (et rfl))) ?_
 refine W_end (gen_Q fun A9 hA9 => ?_)
 have hsz9 := szq hA9
 have hdf9 := dfE hA9 hdf6
 have l4_9 := lookE hA9 4 (es rfl (et rfl))
 have l5_9 := lookE hA9 5 (et rfl)
 clear hA9 hsz6 hdf6 l4_6 l5_6
 refine then_n (hK8 _ _ ?_)
 clear hK8
 refine wp_ret ?_
 refine ret_in (results_2 Try.results43 (rv_tmp l4_9) (rv_tmp l5_9)) hdf9 ?_
 exact ⟨rfl, hS7.fin0⟩

set_option maxHeartbeats 4000000 in
theorem qpl_c {C : Int} {N : Int} {Z : Int} {K : Int} {Q : Int} {a : Int} {w : World}   :
  Calls Try.prog 60 #[.agg #[.int .i64 C, .int .i64 N, .int .i64 Z, .int .i64 K, .int .i64 Q], .int .i64 a] w fun e w' => e = .returned (.tuple #[.int .i64 (caN C N Z K Q a), .int .i64 (caO C N Z K Q a), .int .i64 (caE C N Z K Q a)]) ∧ St w NoX [] w' := by
 refine calls_in 55 Try.func60 rfl rfl (by simp) (fun A0 hsz0 hdf0 hargs => ?_)
 have l0_0 := hargs 0 (.agg #[.int .i64 C, .int .i64 N, .int .i64 Z, .int .i64 K, .int .i64 Q]) rfl
 have l1_0 := hargs 1 (.int .i64 a) rfl
 clear hargs; replace hsz0 : SzN A0 55 := ⟨hsz0⟩
 have hS := St.nil w
 refine wp_seq_k fun K1 hK1 => ?_
 refine region_in ?_
 refine W_boxS (zs := #[.int .i64 (C), .int .i64 (N), .int .i64 (Z), .int .i64 (K), .int .i64 (Q)]) hS rfl rfl rfl l0_0 (by rfl) (fun g2 w2 c2 hc2 hS2 => ?_)
 replace hS2 : St w NoX [c2] w2 := hS2
 refine W_v rfl rfl (V_asg rfl rfl) ?_
 refine W_v rfl rfl (V_asg rfl rfl) ?_
 refine W_v rfl rfl (V_asg rfl rfl) ?_
 refine W_end (gen_Q fun A3 hA3 => ?_)
 have hsz3 := szq hA3
 have hdf3 := dfE hA3 hdf0
 have l1_3 := ek4 hA3 1 rfl l1_0
 have l2_3 := lookE hA3 2 (e3 rfl (et rfl))
 clear hA3 hsz0 hdf0 l0_0 l1_0
 refine then_n (hK1 _ _ ?_)
 clear hK1
 refine wp_seq_k fun K4 hK4 => ?_
 refine region_in ?_
 refine W_r rfl rfl (VR_ldA rfl l2_3 (hS2.obj 0 rfl hc2) Try.underlying23 rfl (by kernel_rfl)) ?_
 refine W_call rfl rfl rfl Try.func63 (by kernel_rfl) rfl (args1 (et rfl)) (qwd_c (C := C) (N := N) (Z := Z) (K := K) (Q := Q)  ) ?_
 rintro _ w5 ⟨rfl, hP5⟩
 refine ⟨_, rfl, ?_⟩
 have hS5 := hS2.join hP5
 replace hS5 : St w NoX [c2] w5 := hS5
 refine W_v rfl rfl (V_mov rfl (et rfl)) ?_
 refine W_v rfl rfl (V_ext (v := .int .i64 ((wdN C N Z K Q))) rfl (et rfl) rfl) ?_
 refine W_v rfl rfl (V_ext (v := .int .i64 ((cfE C N Z K Q))) rfl (es rfl (et rfl)) rfl) ?_
 refine W_v rfl rfl (V_asg rfl (es rfl (et rfl))) ?_
 refine W_v rfl rfl (V_asg rfl (es rfl (et rfl))) ?_
 refine W_end (gen_Q fun A6 hA6 => ?_)
 have hsz6 := szq hA6
 have hdf6 := dfE hA6 hdf3
 have l1_6 := ek7 hA6 1 rfl l1_3
 have l2_6 := ek7 hA6 2 rfl l2_3
 have l7_6 := lookE hA6 7 (es rfl (et rfl))
 have l8_6 := lookE hA6 8 (et rfl)
 clear hA6 hsz3 hdf3 l1_3 l2_3
 refine then_n (hK4 _ _ ?_)
 clear hK4
 refine wp_seq_k fun K7 hK7 => ?_
 refine wp_seq_k fun K8 hK8 => ?_
 refine region_in ?_
 refine W_v rfl rfl (V_mov rfl l8_6) ?_
 refine W_v rfl rfl (V_eql rfl (et rfl) rfl) ?_
 refine W_split rfl rfl (V_mov rfl (et rfl)) (fun c9 => ?_) (fun c9 => ?_)
 ·have hw := wd_ok (show cfE C N Z K Q = 0 by omega)
  have hr := cf_rng (show cfE C N Z K Q = 0 by omega)
  refine W_v rfl (wanted_t rfl rfl (et rfl) (ez rfl)) (V_mov rfl (e3 rfl l1_6)) ?_
  refine W_v rfl (wanted_t rfl rfl (es rfl (et rfl)) (ez rfl)) (V_mov rfl (e4 rfl l7_6)) ?_
  refine W_v rfl (wanted_t rfl rfl (e2 rfl (et rfl)) (ez rfl)) (V_sb rfl (et rfl) rfl (by omega) (by omega)) ?_
  refine W_call rfl (wanted_t rfl rfl (e3 rfl (et rfl)) (ez rfl)) rfl Try.func83 (by kernel_rfl) rfl (args3 (e2 rfl (et rfl)) rfl (et rfl)) (qin_c (n := a) (a := 1) (b := ((wdN C N Z K Q) - 1))  ) ?_
  rintro _ w10 ⟨rfl, hP10⟩
  refine ⟨_, rfl, ?_⟩
  have hS10 := hS5.join hP10
  replace hS10 : St w NoX [c2] w10 := hS10
  refine W_v rfl (wanted_t rfl rfl (e4 rfl (et rfl)) (ez rfl)) (V_notd rfl (et rfl)) ?_
  refine W_v rfl rfl (V_pickT rfl (e5 rfl (et rfl)) (et rfl)) ?_
  refine W_end (gen_Q fun A11 hA11 => ?_)
  have hsz11 := szq hA11
  have hdf11 := dfE hA11 hdf6
  have l1_11 := ek9 hA11 1 rfl l1_6
  have l2_11 := ek9 hA11 2 rfl l2_6
  have l8_11 := ek9 hA11 8 rfl l8_6
  have l26_11 := lookE hA11 26 (et rfl)
  clear hA11 hsz6 hdf6 l1_6 l2_6 l7_6 l8_6
  refine then_n (hK8 _ _ ?_)
  clear hK8
  refine cond_dec l26_11 (fun c12 => ?_) (fun c12 => ?_)
  ·refine region_in ?_
   refine W_v rfl rfl (V_asg rfl rfl) ?_
   refine W_end (gen_Q fun A13 hA13 => ?_)
   have hsz13 := szq hA13
   have hdf13 := dfE hA13 hdf11
   have l1_13 := lookE hA13 1 (es rfl l1_11)
   have l2_13 := lookE hA13 2 (es rfl l2_11)
   have l8_13 := lookE hA13 8 (et rfl)
   clear hA13 hsz11 hdf11 l1_11 l2_11 l8_11 l26_11
   refine then_n (hK7 _ _ ?_)
   clear hK7
   refine wp_seq_k fun K14 hK14 => ?_
   refine wp_seq_k fun K15 hK15 => ?_
   refine region_in ?_
   refine W_v rfl rfl (V_mov rfl l8_13) ?_
   refine W_v rfl rfl (V_neq rfl (et rfl) rfl) ?_
   refine W_end (gen_Q fun A16 hA16 => ?_)
   have hsz16 := szq hA16
   have hdf16 := dfE hA16 hdf13
   have l1_16 := ek2 hA16 1 rfl l1_13
   have l2_16 := ek2 hA16 2 rfl l2_13
   have l8_16 := ek2 hA16 8 rfl l8_13
   have l28_16 := lookE hA16 28 (et rfl)
   clear hA16 hsz13 hdf13 l1_13 l2_13 l8_13
   refine then_n (hK15 _ _ ?_)
   clear hK15
   refine cond_sure l28_16 (by decide) ?_
   refine wp_seq_k fun K17 hK17 => ?_
   refine region_in ?_
   refine W_v rfl rfl (V_mov rfl l8_16) ?_
   refine W_v rfl rfl (V_asg rfl rfl) ?_
   refine W_v rfl rfl (V_asg rfl rfl) ?_
   refine W_v rfl rfl (V_asg rfl (e2 rfl (et rfl))) ?_
   refine W_end (gen_Q fun A18 hA18 => ?_)
   have hsz18 := szq hA18
   have hdf18 := dfE hA18 hdf16
   have l4_18 := lookE hA18 4 (e2 rfl (et rfl))
   have l5_18 := lookE hA18 5 (es rfl (et rfl))
   have l6_18 := lookE hA18 6 (et rfl)
   clear hA18 hsz16 hdf16 l1_16 l2_16 l8_16 l28_16
   have hS19 : St w NoX [] w10 := hS10.sel [] (by decide) rfl
   refine then_n (hK17 _ _ ?_)
   clear hK17
   refine wp_ret ?_
   refine then_ret ?_
   refine ret_in (results_3 Try.results60 (rv_tmp l4_18) (rv_tmp l5_18) (rv_tmp l6_18)) hdf18 ?_
   have he : caE C N Z K Q a = 7 := ca_e2 (show cfE C N Z K Q = 0 by omega) (by omega)
   have hb := ca_bad (C := C) (N := N) (Z := Z) (K := K) (Q := Q) (a := a) (by omega)
   rw [hb.1, hb.2, he]
   exact ⟨rfl, hS19.fin0⟩
  ·have hw0 : cfE C N Z K Q = 0 := by omega
   have ha : caE C N Z K Q a = 0 := ca_e0 (by omega) (by omega)
   have hca := ca_rng ha
   refine wp_skip ?_
   refine then_n (hK7 _ _ ?_)
   clear hK7
   refine wp_seq_k fun K20 hK20 => ?_
   refine wp_seq_k fun K21 hK21 => ?_
   refine region_in ?_
   refine W_v rfl rfl (V_mov rfl l8_11) ?_
   refine W_v rfl rfl (V_neq rfl (et rfl) rfl) ?_
   refine W_end (gen_Q fun A22 hA22 => ?_)
   have hsz22 := szq hA22
   have hdf22 := dfE hA22 hdf11
   have l1_22 := ek2 hA22 1 rfl l1_11
   have l2_22 := ek2 hA22 2 rfl l2_11
   have l8_22 := ek2 hA22 8 rfl l8_11
   have l28_22 := lookE hA22 28 (et rfl)
   clear hA22 hsz11 hdf11 l1_11 l2_11 l8_11 l26_11
   refine then_n (hK21 _ _ ?_)
   clear hK21
   refine cond_not l28_22 (by first | (simp [c9]; done) | exact decide_eq_true (by omega) | exact decide_eq_false (by omega)) ?_
   refine wp_skip ?_
   refine then_n (hK20 _ _ ?_)
   clear hK20
   refine wp_seq_k fun K23 hK23 => ?_
   refine wp_seq_k fun K24 hK24 => ?_
   refine region_in ?_
   refine W_v rfl rfl (V_asg rfl rfl) ?_
   refine W_end (gen_Q fun A25 hA25 => ?_)
   have hsz25 := szq hA25
   have hdf25 := dfE hA25 hdf22
   have l1_25 := lookE hA25 1 (es rfl l1_22)
   have l2_25 := lookE hA25 2 (es rfl l2_22)
   have l9_25 := lookE hA25 9 (et rfl)
   clear hA25 hsz22 hdf22 l1_22 l2_22 l8_22 l28_22
   refine then_n (hK24 _ _ ?_)
   clear hK24
   refine wp_block ?_
   -- loop 7
   refine loopX (fun mz A' w' => SzN A' 55 ∧ A'.defers = [] ∧ (∃ (k : Nat), (mz = (N + 1).toNat - k) ∧ ((k : Int) - 1 ≤ caN C N Z K Q a) ∧ (EV A' (.tmp 9) = .int .i64 ((k : Int) - 1)) ∧ (EV A' (.tmp 1) = EV A25 (.tmp 1)) ∧ (EV A' (.tmp 2) = EV A25 (.tmp 2)) ∧ (St w NoX [bx g2 23 #[.int .i64 (C), .int .i64 (N), .int .i64 (Z), .int .i64 (K), .int .i64 (Q)]] w'))) ((N + 1).toNat - 0) ⟨hsz25, hdf25, 0, rfl, (by omega), ((l9_25).trans (by first | rfl | (simp; done) | (congr 1; omega))), rfl, rfl, (by subst hc2; exact hS10)⟩ ?_
   clear hS10 hc2
   rintro n26 A26 w26 ⟨hsz26, hdf26, k, hm26, hlow, l9_26, u1_26, u2_26, hS26⟩
   have l1_26 := u1_26.trans l1_25
   have l2_26 := u2_26.trans l2_25
   obtain ⟨c2_26, hc2_26, hS26⟩ := gen1 hS26
   refine wp_seq_k fun K27 hK27 => ?_
   refine wp_seq_k fun K28 hK28 => ?_
   refine region_in ?_
   refine W_v rfl rfl (V_mov rfl l9_26) ?_
   refine W_v rfl rfl (V_fa (off' := 1) rfl (es rfl l2_26) Try.underlying23 rfl (by decide +kernel) rfl) ?_
   refine W_r rfl rfl (VR_ldC rfl (et rfl) (cell_box (v := .int .i64 (N)) (hS26.obj 0 rfl hc2_26) rfl) Try.underlying3 rfl) ?_
   refine W_v rfl rfl (V_lss rfl (e2 rfl (et rfl)) (et rfl)) ?_
   refine W_end (gen_Q fun A29 hA29 => ?_)
   have hsz29 := szq hA29
   have hdf29 := dfE hA29 hdf26
   have l1_29 := ek4 hA29 1 rfl l1_26
   have l2_29 := ek4 hA29 2 rfl l2_26
   have l9_29 := ek4 hA29 9 rfl l9_26
   have l33_29 := lookE hA29 33 (et rfl)
   clear hA29 hsz26 hdf26 l9_26 l1_26 l2_26
   refine then_n (hK28 _ _ ?_)
   clear hK28
   refine cond_dec l33_29 (fun c30 => ?_) (fun c30 => ?_)
   ·have hsb := sp_bd hw0 ((k : Int) - 1)
    refine wp_skip ?_
    refine then_n (hK27 _ _ ?_)
    clear hK27
    refine wp_seq_k fun K31 hK31 => ?_
    refine wp_block ?_
    refine wp_seq_k fun K32 hK32 => ?_
    refine region_in ?_
    refine W_r rfl rfl (VR_ldA rfl l2_29 (hS26.obj 0 rfl hc2_26) Try.underlying23 rfl (by kernel_rfl)) ?_
    refine W_v rfl rfl (V_mov rfl (es rfl l9_29)) ?_
    refine W_call rfl rfl rfl Try.func66 (by kernel_rfl) rfl (args2 (es rfl (et rfl)) (et rfl)) (qsp_c (C := C) (N := N) (Z := Z) (K := K) (Q := Q) (i := ((k : Int) - 1))  ) ?_
    rintro _ w33 ⟨rfl, hP33⟩
    refine ⟨_, rfl, ?_⟩
    have hS33 := hS26.join hP33
    replace hS33 : St w NoX [c2_26] w33 := hS33
    refine W_v rfl rfl (V_mov rfl (et rfl)) ?_
    refine W_v rfl rfl (V_ext (v := .int .i64 ((spA C N Z K Q ((k : Int) - 1)))) rfl (et rfl) rfl) ?_
    refine W_v rfl rfl (V_ext (v := .int .i64 ((spB C N Z K Q ((k : Int) - 1)))) rfl (es rfl (et rfl)) rfl) ?_
    refine W_v rfl rfl (V_ext (v := .int .i64 ((spE C N Z K Q ((k : Int) - 1)))) rfl (e2 rfl (et rfl)) rfl) ?_
    refine W_v rfl rfl (V_asg rfl (e2 rfl (et rfl))) ?_
    refine W_v rfl rfl (V_asg rfl (e2 rfl (et rfl))) ?_
    refine W_v rfl rfl (V_asg rfl (e2 rfl (et rfl))) ?_
    refine W_end (gen_Q fun A34 hA34 => ?_)
    have hsz34 := szq hA34
    have hdf34 := dfE hA34 hdf29
    have l1_34 := ek10 hA34 1 rfl l1_29
    have l2_34 := ek10 hA34 2 rfl l2_29
    have l9_34 := ek10 hA34 9 rfl l9_29
    have l10_34 := lookE hA34 10 (e2 rfl (et rfl))
    have l11_34 := lookE hA34 11 (es rfl (et rfl))
    clear hA34 hsz29 hdf29 l1_29 l2_29 l9_29 l33_29
    refine then_n (hK32 _ _ ?_)
    clear hK32
    refine wp_seq_k fun K35 hK35 => ?_
    refine region_in ?_
    refine W_v rfl rfl (V_mov rfl l1_34) ?_
    refine W_v rfl rfl (V_mov rfl (es rfl l10_34)) ?_
    refine W_v rfl rfl (V_geq rfl (es rfl (et rfl)) (et rfl)) ?_
    refine W_split rfl rfl (V_mov rfl (et rfl)) (fun c36 => ?_) (fun c36 => ?_)
    ·refine W_v rfl (wanted_t rfl rfl (et rfl) (ez rfl)) (V_mov rfl (e4 rfl l1_34)) ?_
     refine W_v rfl (wanted_t rfl rfl (es rfl (et rfl)) (ez rfl)) (V_mov rfl (e5 rfl l11_34)) ?_
     refine W_v rfl (wanted_t rfl rfl (e2 rfl (et rfl)) (ez rfl)) (V_lss rfl (es rfl (et rfl)) (et rfl)) ?_
     refine W_v rfl rfl (V_pickT rfl (e3 rfl (et rfl)) (et rfl)) ?_
     refine W_end (gen_Q fun A37 hA37 => ?_)
     have hsz37 := szq hA37
     have hdf37 := dfE hA37 hdf34
     have l1_37 := ek8 hA37 1 rfl l1_34
     have l2_37 := ek8 hA37 2 rfl l2_34
     have l9_37 := ek8 hA37 9 rfl l9_34
     have l10_37 := ek8 hA37 10 rfl l10_34
     have l47_37 := lookE hA37 47 (e3 rfl (et rfl))
     have l48_37 := lookE hA37 48 (e2 rfl (et rfl))
     have l49_37 := lookE hA37 49 (es rfl (et rfl))
     have l50_37 := lookE hA37 50 (et rfl)
     clear hA37 hsz34 hdf34 l1_34 l2_34 l9_34 l10_34 l11_34
     refine then_n (hK35 _ _ ?_)
     clear hK35
     refine cond_dec l50_37 (fun c38 => ?_) (fun c38 => ?_)
     ·refine wp_seq_k fun K39 hK39 => ?_
      refine region_in ?_
      refine W_v rfl rfl (V_mov rfl l9_37) ?_
      refine W_v rfl rfl (V_mov rfl (es rfl l1_37)) ?_
      refine W_v rfl rfl (V_mov rfl (e2 rfl l10_37)) ?_
      refine W_v rfl rfl (V_sb rfl (es rfl (et rfl)) (et rfl) (by omega) (by omega)) ?_
      refine W_v rfl rfl (V_asg rfl (e3 rfl (et rfl))) ?_
      refine W_v rfl rfl (V_asg rfl (es rfl (et rfl))) ?_
      refine W_v rfl rfl (V_asg rfl rfl) ?_
      refine W_end (gen_Q fun A40 hA40 => ?_)
      have hsz40 := szq hA40
      have hdf40 := dfE hA40 hdf37
      have l4_40 := lookE hA40 4 (e2 rfl (et rfl))
      have l5_40 := lookE hA40 5 (es rfl (et rfl))
      have l6_40 := lookE hA40 6 (et rfl)
      clear hA40 hsz37 hdf37 l1_37 l2_37 l9_37 l10_37 l47_37 l48_37 l49_37 l50_37
      have hS41 : St w NoX [] w33 := hS33.sel [] (by decide) rfl
      refine then_n (hK39 _ _ ?_)
      clear hK39
      refine wp_ret ?_
      refine inb_ret ?_
      refine then_ret ?_
      refine then_ret ?_
      refine inb_ret ?_
      refine then_ret ?_
      refine ret_in (results_3 Try.results60 (rv_tmp l4_40) (rv_tmp l5_40) (rv_tmp l6_40)) hdf40 ?_
      have hs := sp_ca ha (i := ((k : Int) - 1)) (by omega)
      have e := hs.2.1 (by omega)
      have ho := ca_off ha e
      rw [e, ho, ha]
      exact ⟨rfl, hS41.fin0⟩
     ·refine wp_skip ?_
      refine inb_n ?_
      refine then_n (hK31 _ _ ?_)
      clear hK31
      refine region_in ?_
      refine W_v rfl rfl (V_mov rfl l9_37) ?_
      refine W_v rfl rfl (V_add rfl (et rfl) rfl (by omega) (by omega)) ?_
      refine W_v rfl rfl (V_asg rfl (et rfl)) ?_
      refine W_end (gen_Q fun A42 hA42 => ?_)
      have hsz42 := szq hA42
      have hdf42 := dfE hA42 hdf37
      have l1_42 := ek3 hA42 1 rfl l1_37
      have l2_42 := ek3 hA42 2 rfl l2_37
      have l9_42 := lookE hA42 9 (et rfl)
      have l47_42 := ek3 hA42 47 rfl l47_37
      have l48_42 := ek3 hA42 48 rfl l48_37
      have l49_42 := ek3 hA42 49 rfl l49_37
      clear hA42 hsz37 hdf37 l1_37 l2_37 l9_37 l10_37 l47_37 l48_37 l49_37 l50_37
      refine then_n ⟨(N + 1).toNat - (k + 1), by simp only [hm26]; omega, hsz42, hdf42, (k + 1), rfl, (by have q := (sp_ca ha (i := ((k : Int) - 1)) (by omega)).2; omega), ((l9_42).trans (by first | rfl | (simp; done) | (congr 1; omega))), ((l1_42).trans l1_25.symm), ((l2_42).trans l2_25.symm), (by subst hc2_26; exact hS33)⟩
    ·refine W_off rfl (wanted_f rfl rfl (et rfl) (ez rfl) rfl) ?_
     refine W_off rfl (wanted_f rfl rfl (es rfl (et rfl)) (ez rfl) rfl) ?_
     refine W_off rfl (wanted_f rfl rfl (e2 rfl (et rfl)) (ez rfl) rfl) ?_
     refine W_v rfl rfl (V_pickF rfl (e3 rfl (et rfl)) rfl) ?_
     refine W_end (gen_Q fun A43 hA43 => ?_)
     have hsz43 := szq hA43
     have hdf43 := dfE hA43 hdf34
     have l1_43 := ek8 hA43 1 rfl l1_34
     have l2_43 := ek8 hA43 2 rfl l2_34
     have l9_43 := ek8 hA43 9 rfl l9_34
     have l10_43 := ek8 hA43 10 rfl l10_34
     have l47_43 := lookE hA43 47 (e3 rfl (et rfl))
     have l48_43 := lookE hA43 48 (e2 rfl (et rfl))
     have l49_43 := lookE hA43 49 (es rfl (et rfl))
     have l50_43 := lookE hA43 50 (et rfl)
     clear hA43 hsz34 hdf34 l1_34 l2_34 l9_34 l10_34 l11_34
     refine then_n (hK35 _ _ ?_)
     clear hK35
     refine cond_f l50_43 ?_
     refine wp_skip ?_
     refine inb_n ?_
     refine then_n (hK31 _ _ ?_)
     clear hK31
     refine region_in ?_
     refine W_v rfl rfl (V_mov rfl l9_43) ?_
     refine W_v rfl rfl (V_add rfl (et rfl) rfl (by omega) (by omega)) ?_
     refine W_v rfl rfl (V_asg rfl (et rfl)) ?_
     refine W_end (gen_Q fun A44 hA44 => ?_)
     have hsz44 := szq hA44
     have hdf44 := dfE hA44 hdf43
     have l1_44 := ek3 hA44 1 rfl l1_43
     have l2_44 := ek3 hA44 2 rfl l2_43
     have l9_44 := lookE hA44 9 (et rfl)
     have l47_44 := ek3 hA44 47 rfl l47_43
     have l48_44 := ek3 hA44 48 rfl l48_43
     have l49_44 := ek3 hA44 49 rfl l49_43
     clear hA44 hsz43 hdf43 l1_43 l2_43 l9_43 l10_43 l47_43 l48_43 l49_43 l50_43
     refine then_n ⟨(N + 1).toNat - (k + 1), by simp only [hm26]; omega, hsz44, hdf44, (k + 1), rfl, (by have q := (sp_ca ha (i := ((k : Int) - 1)) (by omega)).2; omega), ((l9_44).trans (by first | rfl | (simp; done) | (congr 1; omega))), ((l1_44).trans l1_25.symm), ((l2_44).trans l2_25.symm), (by subst hc2_26; exact hS33)⟩
   ·refine wp_exit ?_
    refine then_exit ?_
    refine then_exit ?_
    refine inb_hit ?_
    refine then_n (hK23 _ _ ?_)
    clear hK23
    refine wp_seq_k fun K45 hK45 => ?_
    refine region_in ?_
    refine W_v rfl rfl (V_asg rfl rfl) ?_
    refine W_v rfl rfl (V_asg rfl rfl) ?_
    refine W_v rfl rfl (V_asg rfl rfl) ?_
    refine W_end (gen_Q fun A46 hA46 => ?_)
    have hsz46 := szq hA46
    have hdf46 := dfE hA46 hdf29
    have l4_46 := lookE hA46 4 (e2 rfl (et rfl))
    have l5_46 := lookE hA46 5 (es rfl (et rfl))
    have l6_46 := lookE hA46 6 (et rfl)
    clear hA46 hsz29 hdf29 l1_29 l2_29 l9_29 l33_29
    have hS47 : St w NoX [] w26 := hS26.sel [] (by decide) rfl
    refine then_n (hK45 _ _ ?_)
    clear hK45
    refine wp_ret ?_
    refine ret_in (results_3 Try.results60 (rv_tmp l4_46) (rv_tmp l5_46) (rv_tmp l6_46)) hdf46 ?_
    have q := ca_rng ha
    omega
 ·refine W_off rfl (wanted_f rfl rfl (et rfl) (ez rfl) rfl) ?_
  refine W_off rfl (wanted_f rfl rfl (es rfl (et rfl)) (ez rfl) rfl) ?_
  refine W_off rfl (wanted_f rfl rfl (e2 rfl (et rfl)) (ez rfl) rfl) ?_
  refine W_off rfl (wanted_f rfl rfl (e3 rfl (et rfl)) (ez rfl) rfl) ?_
  refine W_off rfl (wanted_f rfl rfl (e4 rfl (et rfl)) (ez rfl) rfl) ?_
  refine W_v rfl rfl (V_pickF rfl (e5 rfl (et rfl)) rfl) ?_
  refine W_end (gen_Q fun A48 hA48 => ?_)
  have hsz48 := szq hA48
  have hdf48 := dfE hA48 hdf6
  have l1_48 := ek9 hA48 1 rfl l1_6
  have l2_48 := ek9 hA48 2 rfl l2_6
  have l8_48 := ek9 hA48 8 rfl l8_6
  have l26_48 := lookE hA48 26 (et rfl)
  clear hA48 hsz6 hdf6 l1_6 l2_6 l7_6 l8_6
  refine then_n (hK8 _ _ ?_)
  clear hK8
  refine cond_f l26_48 ?_
  refine wp_skip ?_
  refine then_n (hK7 _ _ ?_)
  clear hK7
  refine wp_seq_k fun K49 hK49 => ?_
  refine wp_seq_k fun K50 hK50 => ?_
  refine region_in ?_
  refine W_v rfl rfl (V_mov rfl l8_48) ?_
  refine W_v rfl rfl (V_neq rfl (et rfl) rfl) ?_
  refine W_end (gen_Q fun A51 hA51 => ?_)
  have hsz51 := szq hA51
  have hdf51 := dfE hA51 hdf48
  have l1_51 := ek2 hA51 1 rfl l1_48
  have l2_51 := ek2 hA51 2 rfl l2_48
  have l8_51 := ek2 hA51 8 rfl l8_48
  have l28_51 := lookE hA51 28 (et rfl)
  clear hA51 hsz48 hdf48 l1_48 l2_48 l8_48 l26_48
  refine then_n (hK50 _ _ ?_)
  clear hK50
  refine cond_sure l28_51 (by first | (simp [c9]; done) | exact decide_eq_true (by omega) | exact decide_eq_false (by omega)) ?_
  refine wp_seq_k fun K52 hK52 => ?_
  refine region_in ?_
  refine W_v rfl rfl (V_mov rfl l8_51) ?_
  refine W_v rfl rfl (V_asg rfl rfl) ?_
  refine W_v rfl rfl (V_asg rfl rfl) ?_
  refine W_v rfl rfl (V_asg rfl (e2 rfl (et rfl))) ?_
  refine W_end (gen_Q fun A53 hA53 => ?_)
  have hsz53 := szq hA53
  have hdf53 := dfE hA53 hdf51
  have l4_53 := lookE hA53 4 (e2 rfl (et rfl))
  have l5_53 := lookE hA53 5 (es rfl (et rfl))
  have l6_53 := lookE hA53 6 (et rfl)
  clear hA53 hsz51 hdf51 l1_51 l2_51 l8_51 l28_51
  have hS54 : St w NoX [] w5 := hS5.sel [] (by decide) rfl
  refine then_n (hK52 _ _ ?_)
  clear hK52
  refine wp_ret ?_
  refine then_ret ?_
  refine ret_in (results_3 Try.results60 (rv_tmp l4_53) (rv_tmp l5_53) (rv_tmp l6_53)) hdf53 ?_
  have he : caE C N Z K Q a = (cfE C N Z K Q) := ca_e1 (by omega)
  have hb := ca_bad (C := C) (N := N) (Z := Z) (K := K) (Q := Q) (a := a) (by omega)
  rw [hb.1, hb.2, he]
  exact ⟨rfl, hS54.fin0⟩

set_option maxHeartbeats 4000000 in
theorem qca_c {C : Int} {N : Int} {Z : Int} {K : Int} {Q : Int} {a : Int} {w : World}   :
  Calls Try.prog 24 #[.agg #[.int .i64 C, .int .i64 N, .int .i64 Z, .int .i64 K, .int .i64 Q], .int .i64 a] w fun e w' => e = .returned (.tuple #[.int .i64 (caN C N Z K Q a), .int .i64 (caE C N Z K Q a)]) ∧ St w NoX [] w' := by
 refine calls_in 18 Try.func24 rfl rfl (by simp) (fun A0 hsz0 hdf0 hargs => ?_)
 have l0_0 := hargs 0 (.agg #[.int .i64 C, .int .i64 N, .int .i64 Z, .int .i64 K, .int .i64 Q]) rfl
 have l1_0 := hargs 1 (.int .i64 a) rfl
 clear hargs; replace hsz0 : SzN A0 18 := ⟨hsz0⟩
 have hS := St.nil w
 refine wp_seq_k fun K1 hK1 => ?_
 refine region_in ?_
 refine W_boxS (zs := #[.int .i64 (C), .int .i64 (N), .int .i64 (Z), .int .i64 (K), .int .i64 (Q)]) hS rfl rfl rfl l0_0 (by rfl) (fun g2 w2 c2 hc2 hS2 => ?_)
 replace hS2 : St w NoX [c2] w2 := hS2
 refine W_v rfl rfl (V_asg rfl rfl) ?_
 refine W_v rfl rfl (V_asg rfl rfl) ?_
 refine W_end (gen_Q fun A3 hA3 => ?_)
 have hsz3 := szq hA3
 have hdf3 := dfE hA3 hdf0
 have l1_3 := ek3 hA3 1 rfl l1_0
 have l2_3 := lookE hA3 2 (e2 rfl (et rfl))
 clear hA3 hsz0 hdf0 l0_0 l1_0
 refine then_n (hK1 _ _ ?_)
 clear hK1
 refine wp_seq_k fun K4 hK4 => ?_
 refine region_in ?_
 refine W_r rfl rfl (VR_ldA rfl l2_3 (hS2.obj 0 rfl hc2) Try.underlying23 rfl (by kernel_rfl)) ?_
 refine W_v rfl rfl (V_mov rfl (es rfl l1_3)) ?_
 refine W_call rfl rfl rfl Try.func60 (by kernel_rfl) rfl (args2 (es rfl (et rfl)) (et rfl)) (qpl_c (C := C) (N := N) (Z := Z) (K := K) (Q := Q) (a := a)  ) ?_
 rintro _ w5 ⟨rfl, hP5⟩
 refine ⟨_, rfl, ?_⟩
 have hS5 := hS2.join hP5
 replace hS5 : St w NoX [c2] w5 := hS5
 refine W_v rfl rfl (V_mov rfl (et rfl)) ?_
 refine W_v rfl rfl (V_ext (v := .int .i64 ((caN C N Z K Q a))) rfl (et rfl) rfl) ?_
 refine W_v rfl rfl (V_ext (v := .int .i64 ((caO C N Z K Q a))) rfl (es rfl (et rfl)) rfl) ?_
 refine W_v rfl rfl (V_ext (v := .int .i64 ((caE C N Z K Q a))) rfl (e2 rfl (et rfl)) rfl) ?_
 refine W_v rfl rfl (V_asg rfl (e2 rfl (et rfl))) ?_
 refine W_v rfl rfl (V_asg rfl (e2 rfl (et rfl))) ?_
 refine W_v rfl rfl (V_asg rfl (e2 rfl (et rfl))) ?_
 refine W_end (gen_Q fun A6 hA6 => ?_)
 have hsz6 := szq hA6
 have hdf6 := dfE hA6 hdf3
 have l6_6 := lookE hA6 6 (e2 rfl (et rfl))
 have l8_6 := lookE hA6 8 (et rfl)
 clear hA6 hsz3 hdf3 l1_3 l2_3
 have hS7 : St w NoX [] w5 := hS5.sel [] (by decide) rfl
 refine then_n (hK4 _ _ ?_)
 clear hK4
 refine wp_seq_k fun K8 hK8 => ?_
 refine region_in ?_
 refine W_v rfl rfl (V_mov rfl l6_6) ?_
 refine W_v rfl rfl (V_mov rfl (es rfl l8_6)) ?_
 refine W_v rfl rfl (V_asg rfl (es rfl (et rfl))) ?_
 refine W_v rfl rfl (V_asg rfl (es rfl (et rfl))) ?_
 refine W_end (gen_Q fun A9 hA9 => ?_)
 have hsz9 := szq hA9
 have hdf9 := dfE hA9 hdf6
 have l4_9 := lookE hA9 4 (es rfl (et rfl))
 have l5_9 := lookE hA9 5 (et rfl)
 clear hA9 hsz6 hdf6 l6_6 l8_6
 refine then_n (hK8 _ _ ?_)
 clear hK8
 refine wp_ret ?_
 refine ret_in (results_2 Try.results24 (rv_tmp l4_9) (rv_tmp l5_9)) hdf9 ?_
 exact ⟨rfl, hS7.fin0⟩

end Go.Proofs.Yteppjefmlibmoaa