import Derived.Test.YteppjefmlibmoaaProg
import Derived.Test.YteppjefmlibmoaaRl8
import Derived.Test.YteppjefmlibmoaaPl8j
namespace Go.Proofs.Yteppjefmlibmoaa
open Go.RowKit Go.Own Go.Own.R Go.Own.S Go.Own.E


set_option maxHeartbeats 4000000 in
theorem lwds_c {C : Int} {N : Int} {Z : Int} {K : Int} {Q : Int} {w : World}   :
  Calls Try.prog 28 #[.agg #[.int .i64 C, .int .i64 N, .int .i64 Z, .int .i64 K, .int .i64 Q]] w fun e w' => e = .returned (.int .i64 (if cfE C N Z K Q = 0 then Z + N * C else 0)) ∧ St w NoX [] w' := by
 refine calls_in 14 Try.func28 rfl rfl (by simp) (fun A0 Y0 hdf0 hargs => ?_)
 have l0_0 := hargs 0 (.agg #[.int .i64 C, .int .i64 N, .int .i64 Z, .int .i64 K, .int .i64 Q]) rfl
 clear hargs; replace Y0 : SzN A0 14 := ⟨Y0⟩
 have hS := St.nil w
 refine wp_seq_k fun K1 H1 => ?_
 refine region_in ?_
 refine W_boxS (zs := #[.int .i64 (C), .int .i64 (N), .int .i64 (Z), .int .i64 (K), .int .i64 (Q)]) hS rfl rfl rfl l0_0 (by rfl) (fun g2 w2 c2 hc2 S2 => ?_)
 replace S2 : St w NoX [c2] w2 := S2
 refine W_v rfl rfl (V_asg rfl rfl) ?_
 refine W_end (gen_Q fun A3 E3 => ?_)
 have Y3 := szq E3
 have F3 := fsE E3 (cq1 (ck (FS.n hdf0) rfl rfl) rfl)
 clear E3 Y0 hdf0 l0_0
 refine tk H1 ?_
 refine wp_seq_k fun K4 H4 => ?_
 refine region_in ?_
 refine W_r rfl rfl (VR_ldA rfl (fg0 F3) (S2.obj 0 rfl hc2) Try.underlying23 rfl (by kernel_rfl)) ?_
 refine W_call rfl rfl rfl Try.func63 (by kernel_rfl) rfl (args1 (et rfl)) (qwd_c (C := C) (N := N) (Z := Z) (K := K) (Q := Q)  ) ?_
 rintro _ w5 ⟨rfl, hP5⟩
 refine ⟨_, rfl, ?_⟩
 have S5 := S2.join hP5
 replace S5 : St w NoX [c2] w5 := S5
 refine W_v rfl rfl (V_mov rfl (et rfl)) ?_
 refine W_v rfl rfl (V_ext (v := .int .i64 ((wdN C N Z K Q))) rfl (et rfl) rfl) ?_
 refine W_v rfl rfl (V_ext (v := .int .i64 ((cfE C N Z K Q))) rfl (es rfl (et rfl)) rfl) ?_
 refine W_v rfl rfl (V_asg rfl (es rfl (et rfl))) ?_
 refine W_v rfl rfl (V_asg rfl (es rfl (et rfl))) ?_
 refine W_end (gen_Q fun A6 E6 => ?_)
 have Y6 := szq E6
 have F6 := fsE E6 (ck (ck (cq5 F3 rfl) rfl rfl) rfl rfl)
 clear E6 Y3 F3
 have S7 : St w NoX [] w5 := S5.sel [] (by decide) rfl
 refine tk H4 ?_
 refine wp_seq_k fun K8 H8 => ?_
 refine wp_seq_k fun K9 H9 => ?_
 refine region_in ?_
 refine W_v rfl rfl (V_mov rfl (fg0 F6)) ?_
 refine W_v rfl rfl (V_neq rfl (et rfl) rfl) ?_
 refine W_end (gen_Q fun A10 E10 => ?_)
 have Y10 := szq E10
 have F10 := fsE E10 (ck (cq1 F6 rfl) rfl rfl)
 clear E10 Y6 F6
 refine tk H9 ?_
 refine cond_dec (fg0 F10) (fun c11 => ?_) (fun c11 => ?_)
 ·refine wp_seq_k fun K12 H12 => ?_
  refine region_in ?_
  refine W_v rfl rfl (V_asg rfl rfl) ?_
  refine W_end (gen_Q fun A13 E13 => ?_)
  have Y13 := szq E13
  have F13 := fsE E13 (ck F10 rfl rfl)
  clear E13 Y10 F10
  refine tk H12 ?_
  refine wp_ret ?_
  refine then_ret ?_
  refine ret_in (results_1 Try.results28 (rv_tmp (fg0 F13))) F13.d ?_
  rw [if_neg (show ¬ cfE C N Z K Q = 0 by omega)]
  exact ⟨rfl, S7.fin0⟩
 have hw := wd_ok (show cfE C N Z K Q = 0 by omega)
 refine wp_skip ?_
 refine tk H8 ?_
 refine wp_seq_k fun K14 H14 => ?_
 refine region_in ?_
 refine W_v rfl rfl (V_mov rfl (fg2 F10)) ?_
 refine W_v rfl rfl (V_sb rfl (et rfl) rfl (by omega) (by omega)) ?_
 refine W_v rfl rfl (V_asg rfl (et rfl)) ?_
 refine W_end (gen_Q fun A15 E15 => ?_)
 have Y15 := szq E15
 have F15 := fsE E15 (ck (cq2 F10 rfl) rfl rfl)
 clear E15 Y10 F10
 refine tk H14 ?_
 refine wp_ret ?_
 refine ret_in (results_1 Try.results28 (rv_tmp (fg0 F15))) F15.d ?_
 rw [if_pos (show cfE C N Z K Q = 0 by omega), show Z + N * C = ((wdN C N Z K Q) - 1) by omega]
 exact ⟨rfl, S7.fin0⟩

end Go.Proofs.Yteppjefmlibmoaa