import Derived.Test.YtpgkfndbfocibaaPl29h
import Derived.Test.YtpgkfndbfocibaaProg
import Derived.Test.YtpgkfndbfocibaaMs14
/-! what Judge says -/
namespace Go.Own.Ml
open Go Go.Own Go.Own.R Go.Own.G Go.Own.Gr
def ckA : Nat → List OpC → List AnC → Int × Int
  | k, c :: r, a :: s => if anE c a ≠ 0 then ((k : Int), anE c a) else ckA (k + 1) r s
  | _, _, _ => (0, 0)
def rfJ (ans : List AnC) (k : Nat) : Bool := decide ((ans.getD k (AnC.mk 0 false 0)).e = 5)
def fbJ (ans : List AnC) : Nat → List (GA × AnC) → Int × Int
  | _, [] => (0, 0)
  | k, m :: r => if ans.getD k (AnC.mk 0 false 0) ≠ m.2 then ((k : Int), 4) else fbJ ans (k + 1) r
def reK : Nat → List (GA × AnC) → List Int
  | _, [] => []
  | k, m :: r => if m.2.e = 5 then (k : Int) :: reK (k + 1) r else reK (k + 1) r
def reJ (pre : List ME) : List Int := (pre.filter fun x : ME => decide (x.2.1.e = 5)).map (·.1)
def moJ (n K : Int) (l : List OpC) (ans : List AnC) : List (GA × AnC) := mom n (rfJ ans) 0 (g00 K) l
def jdF (cf n K : Int) (l : List OpC) (ans : List AnC) : Int × Int :=
  if (scE cf l).2 ≠ 0 then scE cf l else if ans.length ≠ l.length then (-1, 6) else if (ckA 0 l ans).2 ≠ 0 then ckA 0 l ans else fbJ ans 0 (moJ n K l ans)
def jdL (cf n K : Int) (l : List OpC) (ans : List AnC) : List Int := if (jdF cf n K l ans).2 ≠ 0 then [] else reK 0 (moJ n K l ans)
section
variable {cf n K : Int} {l : List OpC} {ans : List AnC} {k : Nat} {y : OpC} {z : AnC} {G0 : GV} {pre : List ME} {x : ME}
theorem ja_bad (h : ckA 0 l ans = ckA k (l.drop k) (ans.drop k)) (hy : l[k]? = some y) (hz : ans[k]? = some z) (h2 : anE y z ≠ 0) : ckA 0 l ans = ((k : Int), anE y z) := by
  rw [h, dropA hy, dropA hz, ckA, if_pos h2]
theorem ja_step (h : ckA 0 l ans = ckA k (l.drop k) (ans.drop k)) (hy : l[k]? = some y) (hz : ans[k]? = some z) (h2 : ¬ anE y z ≠ 0) : ckA 0 l ans = ckA (k + 1) (l.drop (k + 1)) (ans.drop (k + 1)) := by
  rw [h, dropA hy, dropA hz, ckA, if_neg h2]
theorem ja_end (h : ckA 0 l ans = ckA k (l.drop k) (ans.drop k)) (hk : l.length ≤ k) : ckA 0 l ans = (0, 0) := by
  rw [h, List.drop_eq_nil_of_le hk]; rfl
theorem jd_sc (h : (scE cf l).2 ≠ 0) : jdF cf n K l ans = scE cf l := if_pos h
theorem jd_len (h : scE cf l = (0, 0)) (h2 : ans.length ≠ l.length) : jdF cf n K l ans = (-1, 6) := by unfold jdF; rw [h, if_neg (by decide), if_pos h2]
theorem jd_ck {a e : Int} (h : scE cf l = (0, 0)) (h2 : ans.length = l.length) (h3 : ckA 0 l ans = (a, e)) (h4 : e ≠ 0) : jdF cf n K l ans = (a, e) := by
  unfold jdF; rw [h, if_neg (by decide), if_neg (fun q => q h2), h3, if_pos h4]
theorem jd_fb (h : scE cf l = (0, 0)) (h2 : ans.length = l.length) (h3 : ckA 0 l ans = (0, 0)) : jdF cf n K l ans = fbJ ans 0 (moJ n K l ans) := by
  unfold jdF; rw [h, if_neg (by decide), if_neg (fun q => q h2), h3, if_neg (by decide)]
theorem reJ_app : reJ (pre ++ [x]) = reJ pre ++ (if x.2.1.e = 5 then [x.1] else []) := by
  unfold reJ; rw [List.filter_append, List.map_append]
  congr 1
  by_cases h : x.2.1.e = 5 <;> simp [h]
theorem reJ_5 (h : x.2.1.e = 5) : reJ (pre ++ [x]) = reJ pre ++ [x.1] := by rw [reJ_app, if_pos h]
theorem reJ_0 (h : ¬ x.2.1.e = 5) : reJ (pre ++ [x]) = reJ pre := by rw [reJ_app, if_neg h, List.append_nil]
theorem reJ_len (pre : List ME) : (reJ pre).length ≤ pre.length := by unfold reJ; rw [List.length_map]; exact List.length_filter_le _ _
theorem reJ_K : ∀ (pre : List ME) (k : Nat), (∀ (i : Nat) (x : ME), pre[i]? = some x → x.1 = ((k + i : Nat) : Int)) → reJ pre = reK k (pre.map fun x : ME => (gab x.2.2, x.2.1))
  | [], _, _ => rfl
  | x :: r, k, h => by
    have h0 := h 0 x rfl
    have ih := reJ_K r (k + 1) fun i y hy => by have := h (i + 1) y (by simpa using hy); rw [this]; congr 1; omega
    have e : reJ (x :: r) = (if x.2.1.e = 5 then [x.1] else []) ++ reJ r := by
      unfold reJ; by_cases q : x.2.1.e = 5 <;> simp [q]
    rw [e, ih, List.map_cons, reK]
    simp only
    by_cases q : x.2.1.e = 5
    · rw [if_pos q, if_pos q, h0]; rfl
    · rw [if_neg q, if_neg q]; rfl
theorem jd_nx (hg : gab G0 = g00 K) (hT : Tr n (rfJ ans) G0 l (pre ++ [x])) (hz : fbJ ans 0 (moJ n K l ans) = fbJ ans pre.length ((moJ n K l ans).drop pre.length)) (hy : ans[pre.length]? = some z) (h : z = x.2.1) :
    fbJ ans 0 (moJ n K l ans) = fbJ ans (pre ++ [x]).length ((moJ n K l ans).drop (pre ++ [x]).length) := by
  have h1 := hT.at
  rw [hg] at h1
  have h2 : (moJ n K l ans)[pre.length]? = some (gab x.2.2, x.2.1) := h1.1
  rw [List.length_append, List.length_singleton, hz, dropA h2, fbJ, if_neg]
  simp only [List.getD_eq_getElem?_getD, hy, Option.getD_some, h, ne_eq, not_true_eq_false, not_false_eq_true]
theorem jd_bad (hg : gab G0 = g00 K) (hT : Tr n (rfJ ans) G0 l (pre ++ [x])) (hz : fbJ ans 0 (moJ n K l ans) = fbJ ans pre.length ((moJ n K l ans).drop pre.length)) (hy : ans[pre.length]? = some z) (h : ¬ z = x.2.1) :
    fbJ ans 0 (moJ n K l ans) = (x.1, 4) := by
  have h1 := hT.at
  rw [hg] at h1
  have h2 : (moJ n K l ans)[pre.length]? = some (gab x.2.2, x.2.1) := h1.1
  rw [h1.2, hz, dropA h2, fbJ, if_pos]
  simp only [List.getD_eq_getElem?_getD, hy, Option.getD_some]; exact h
theorem jd_done (hg : gab G0 = g00 K) (hT : Tr n (rfJ ans) G0 l pre) (hl : l.length ≤ pre.length) (hs : scE cf l = (0, 0)) (h2 : ans.length = l.length) (h3 : ckA 0 l ans = (0, 0))
    (hz : fbJ ans 0 (moJ n K l ans) = fbJ ans pre.length ((moJ n K l ans).drop pre.length)) : jdF cf n K l ans = (0, 0) ∧ reJ pre = jdL cf n K l ans := by
  have hM : pre.map (fun x : ME => (gab x.2.2, x.2.1)) = moJ n K l ans := by rw [hT.done hl, hg]; rfl
  have h0 : jdF cf n K l ans = (0, 0) := by
    rw [jd_fb hs h2 h3, hz, List.drop_eq_nil_of_le (by rw [← hM, List.length_map]; exact Nat.le_refl _)]; rfl
  refine ⟨h0, ?_⟩
  unfold jdL
  rw [h0, if_neg (by decide), ← hM]
  exact reJ_K pre 0 fun i x hx => by rw [hT.ix i x hx]; congr 1; omega
end
end Go.Own.Ml
namespace Go.Own.Ml
open Go Go.Own Go.Own.R Go.Own.G Go.Own.Gr
section
variable {cf n K : Int} {g : GA} {c : OpC}
end
end Go.Own.Ml
namespace Go.Own
open Go Go.RowKit
end Go.Own

namespace Go.Proofs.Ytpgkfndbfocibaa
open Go.RowKit Go.Own Go.Own.R Go.Own.G Go.Own.Gr Go.Own.Ml


set_option maxHeartbeats 4000000 in
theorem kjd_c {C : Int} {N : Int} {Z : Int} {K : Int} {Q : Int} {lv : Value} {os : List OpC} {av : Value} {ans : List AnC} {w : World} (h_lv : Ro w NoX (rl 7 opC lv os)) (h_av : Ro w NoX (rl 3 anC av ans)) (hvr : ∀ x ∈ ans, 0 ≤ x.v ∧ x.v ≤ 18446744073709551615) :
  Calls Try.prog 19 #[.agg #[.int .i64 C, .int .i64 N, .int .i64 Z, .int .i64 K, .int .i64 Q], lv, av] w fun e w' => (e = .returned (.tuple #[.slice none 0 0, .int .i64 (jdF (cfE C N Z K Q) (lgN C N Z K Q) K os ans).1, .int .i64 (jdF (cfE C N Z K Q) (lgN C N Z K Q) K os ans).2]) ∧ ((jdF (cfE C N Z K Q) (lgN C N Z K Q) K os ans).2 ≠ 0) ∧ St w NoX [] w') ∨ (∃ rw, e = .returned (.tuple #[rw, .int .i64 0, .int .i64 0]) ∧ ((jdF (cfE C N Z K Q) (lgN C N Z K Q) K os ans) = (0, 0)) ∧ St w NoX [io .i64 rw (jdL (cfE C N Z K Q) (lgN C N Z K Q) K os ans)] w') := by
 refine calls_inR 72 Try.func19 V V (by simp) (fun A0 Y0 hdf0 hargs => ?_)
 have l0_0 := hargs 0 (.agg #[.int .i64 C, .int .i64 N, .int .i64 Z, .int .i64 K, .int .i64 Q]) V
 have l1_0 := hargs 1 (lv) V
 have l2_0 := hargs 2 (av) V
 clear hargs; replace Y0 : SzN A0 72 := ⟨Y0⟩
 have hS := St.nil w
 have bh_lv := SlN.le (sl_SlN h_lv.at)
 have bh_av := SlN.le (sl_SlN h_av.at)
 refine R_seq (fun K1 H1 => ?_)
 refine R_region (by kernel_rfl) ?_
 refine W_boxS (zs := #[.int .i64 (C), .int .i64 (N), .int .i64 (Z), .int .i64 (K), .int .i64 (Q)]) hS V V V l0_0 (by rfl) (fun g2 w2 c2 hc2 S2 => ?_)
 replace S2 : St w NoX [c2] w2 := S2
 refine W_boxS (zs := #[av]) S2 V V V (es V l2_0) (SlN_cells (sl_SlN h_av.at)) (fun g3 w3 c3 hc3 S3 => ?_)
 replace S3 : St w NoX [c3, c2] w3 := S3
 refine W_allocS (z := .slice none 0 0) (zs := #[.slice none 0 0]) S3 V V V (by kernel_rfl) (by rfl) (fun g4 w4 c4 hc4 S4 => ?_)
 replace S4 : St w NoX [c4, c3, c2] w4 := S4
 refine W_allocS (z := .int .i64 0) (zs := #[.int .i64 0]) S4 V V V (by kernel_rfl) (by rfl) (fun g5 w5 c5 hc5 S5 => ?_)
 replace S5 : St w NoX [c5, c4, c3, c2] w5 := S5
 refine W_allocS (z := .int .i64 0) (zs := #[.int .i64 0]) S5 V V V (by kernel_rfl) (by rfl) (fun g6 w6 c6 hc6 S6 => ?_)
 replace S6 : St w NoX [c6, c5, c4, c3, c2] w6 := S6
 refine W_end (Qo_normal ?_)
 refine gen_Q (fun A7 E7 => ?_)
 have Y7 := szq E7
 have F7 := (fsE E7 (ck (ck (ck (ck (ck (FS.n hdf0) V V) V V) V V) V V) V V)).c (lookE E7 1 (es5 V l1_0))
 clear E7 Y0 hdf0 l0_0 l1_0 l2_0
 refine tk H1 ?_
 refine R_seq (fun K8 H8 => ?_)
 refine R_region (by kernel_rfl) ?_
 refine W_r V V (VR_ldA V (fg5 F7) (S6.obj 4 V hc2) Try.underlying23 V (by kernel_rfl)) ?_
 refine W_v V V (V_mov V (es V (fg0 F7))) ?_
 refine W_call V V V Try.func32 (by kernel_rfl) V (args2 (es V (et V)) (et V)) (kbg_c (C := C) (N := N) (Z := Z) (K := K) (Q := Q) (S6.roC h_lv) ) ?_
 rintro _ w9 (⟨rfl, hz_9, hP9⟩ | ⟨gs_9, hv_9, H_9, qv_9, q_9, rfl, hz_9, hg_9, hP9⟩)
 ·refine ⟨_, rfl, ?_⟩
  have S9 := S6.join hP9
  replace S9 : St w NoX [c6, c5, c4, c3, c2] w9 := S9
  refine W_v V V (V_mov V (et V)) ?_
  refine W_v V V (V_ext (v := .pointer none) V (et V) V) ?_
  refine W_v V V (V_ext (v := .int .i64 ((scE (cfE C N Z K Q) os).1)) V (es V (et V)) V) ?_
  refine W_v V V (V_ext (v := .int .i64 ((scE (cfE C N Z K Q) os).2)) V (es2 V (et V)) V) ?_
  refine W_v V V (V_asg V (es2 V (et V))) ?_
  refine xsC (zs' := #[.int .i64 ((scE (cfE C N Z K Q) os).1)]) 1 S9 V hc5 V V V (es8 V (fg2 F7)) (es2 V (et V)) (by rfl) (fun w10 c10 hc10 S10 => ?_)
  replace S10 : St w NoX [c6, c10, c4, c3, c2] w10 := S10
  refine xsC (zs' := #[.int .i64 ((scE (cfE C N Z K Q) os).2)]) 0 S10 V hc6 V V V (es8 V (fg1 F7)) (es V (et V)) (by rfl) (fun w11 c11 hc11 S11 => ?_)
  replace S11 : St w NoX [c11, c10, c4, c3, c2] w11 := S11
  refine W_end (Qo_normal ?_)
  refine gen_Q (fun A12 E12 => ?_)
  have Y12 := szq E12
  have F12 := fsE E12 (ck (cq7 F7 V) V V)
  clear E12 Y7 F7
  have S13 : St w NoX [c11, c10, c4, c3] w11 := S11.sel [0, 1, 2, 3] (by decide) V
  refine tk H8 ?_
  refine R_seq (fun K14 H14 => ?_)
  refine R_block ?_
  refine R_seq (fun K15 H15 => ?_)
  refine R_region (by kernel_rfl) ?_
  refine W_r V V (xlC (v := .int .i64 ((scE (cfE C N Z K Q) os).2)) V (fg2 F12) (S13.obj 0 V hc11) Try.underlying28) ?_
  refine W_v V V (V_neq V (et V) V) ?_
  refine W_v V V (V_asg V (et V)) (W_end (Qo_normal ?_))
  refine gen_Q (fun A16 E16 => ?_)
  have Y16 := szq E16
  have F16 := fsE E16 (ck (cq2 F12 V) V V)
  clear E16 Y12 F12
  refine tk H15 ?_
  refine R_cond_sure (fg0 F16) (by rw [decide_eq_true_eq]; exact hz_9) ?_
  refine R_seq (fun K17 H17 => ?_)
  refine join_R (R := fun A' w' => SzN A' 72 ∧ A'.defers = [] ∧ EV A' (.tmp 6) = EV A16 (.tmp 6) ∧ EV A' (.tmp 7) = EV A16 (.tmp 7) ∧ EV A' (.tmp 8) = EV A16 (.tmp 8) ∧ St w NoX [bx g6 28 #[.int .i64 ((scE (cfE C N Z K Q) os).2)], bx g5 3 #[.int .i64 ((scE (cfE C N Z K Q) os).1)], bx g4 25 #[.slice none 0 0]] w') ?_ ?_
  ·refine R_any (by kernel_rfl) (by kernel_rfl) 5 V (fun w118 hx118 => ?_)
   have S118 := S13.grow hx118
   refine AX_3 (i := 0) (j := 1) (m := 2) (by kernel_rfl) V V V ?_ ?_ ?_
   ·refine W_r V V (xlC (v := .int .i64 ((scE (cfE C N Z K Q) os).1)) V (fg4 F16) (S118.obj 1 V hc10) Try.underlying3) ?_
    refine W_end (kq _ ?_)
    refine AX_cast (l2 := #[true, false, false, false, false]) ?_ (by kernel_rfl)
    refine AX_2 (i := 1) (j := 2) (by kernel_rfl) V V ?_ ?_
    ·refine W_r V V (xlC (v := .int .i64 ((scE (cfE C N Z K Q) os).2)) V (es V (fg3 F16)) (S118.obj 0 V hc11) Try.underlying28) ?_
     refine W_end (kq _ ?_)
     refine AX_cast (l2 := #[true, true, false, false, false]) ?_ (by kernel_rfl)
     refine AX_1 (i := 2) (by kernel_rfl) V ?_
     refine xsC (zs' := #[.slice none 0 0]) 2 S118 V hc4 V V V (es2 V (fg5 F16)) V (by rfl) (fun w119 c119 hc119 S119 => ?_)
     replace S119 : St w NoX [c11, c10, c119, c3] w119 := S119
     refine W_end (kq _ ?_)
     refine AX_cast (l2 := #[true, true, true, false, false]) ?_ (by kernel_rfl)
     refine AX_1 (i := 3) (by kernel_rfl) V ?_
     refine xsC (zs' := #[.int .i64 ((scE (cfE C N Z K Q) os).1)]) 1 S119 V hc10 V V V (es2 V (fg4 F16)) (es V (et V)) (by rfl) (fun w120 c120 hc120 S120 => ?_)
     replace S120 : St w NoX [c11, c120, c119, c3] w120 := S120
     refine W_end (kq _ ?_)
     refine AX_cast (l2 := #[true, true, true, true, false]) ?_ (by kernel_rfl)
     refine AX_1 (i := 4) (by kernel_rfl) V ?_
     refine xsC (zs' := #[.int .i64 ((scE (cfE C N Z K Q) os).2)]) 0 S120 V hc11 V V V (es2 V (fg3 F16)) (et V) (by rfl) (fun w121 c121 hc121 S121 => ?_)
     replace S121 : St w NoX [c121, c120, c119, c3] w121 := S121
     refine W_end (kq _ ?_)
     refine AX_cast (l2 := #[true, true, true, true, true]) ?_ (by kernel_rfl)
     refine AX_end (by kernel_rfl) ?_
     refine Qo_normal ?_
     have S122 : St w NoX [c121, c120, c119] w121 := S121.sel [0, 1, 2] (by decide) V
     exact ⟨inferInstance, (by simp only [df_put]; exact F16.d), ((es2 V (fg5 F16)).trans (fg5 F16).symm), ((es2 V (fg4 F16)).trans (fg4 F16).symm), ((es2 V (fg3 F16)).trans (fg3 F16).symm), (by subst hc121 hc120 hc119; exact S122)⟩
    refine xsC (zs' := #[.slice none 0 0]) 2 S118 V hc4 V V V (es V (fg5 F16)) V (by rfl) (fun w123 c123 hc123 S123 => ?_)
    replace S123 : St w NoX [c11, c10, c123, c3] w123 := S123
    refine W_end (kq _ ?_)
    refine AX_cast (l2 := #[true, false, true, false, false]) ?_ (by kernel_rfl)
    refine AX_2 (i := 1) (j := 3) (by kernel_rfl) V V ?_ ?_
    ·refine W_r V V (xlC (v := .int .i64 ((scE (cfE C N Z K Q) os).2)) V (es V (fg3 F16)) (S123.obj 0 V hc11) Try.underlying28) ?_
     refine W_end (kq _ ?_)
     refine AX_cast (l2 := #[true, true, true, false, false]) ?_ (by kernel_rfl)
     refine AX_1 (i := 3) (by kernel_rfl) V ?_
     refine xsC (zs' := #[.int .i64 ((scE (cfE C N Z K Q) os).1)]) 1 S123 V hc10 V V V (es2 V (fg4 F16)) (es V (et V)) (by rfl) (fun w124 c124 hc124 S124 => ?_)
     replace S124 : St w NoX [c11, c124, c123, c3] w124 := S124
     refine W_end (kq _ ?_)
     refine AX_cast (l2 := #[true, true, true, true, false]) ?_ (by kernel_rfl)
     refine AX_1 (i := 4) (by kernel_rfl) V ?_
     refine xsC (zs' := #[.int .i64 ((scE (cfE C N Z K Q) os).2)]) 0 S124 V hc11 V V V (es2 V (fg3 F16)) (et V) (by rfl) (fun w125 c125 hc125 S125 => ?_)
     replace S125 : St w NoX [c125, c124, c123, c3] w125 := S125
     refine W_end (kq _ ?_)
     refine AX_cast (l2 := #[true, true, true, true, true]) ?_ (by kernel_rfl)
     refine AX_end (by kernel_rfl) ?_
     refine Qo_normal ?_
     have S126 : St w NoX [c125, c124, c123] w125 := S125.sel [0, 1, 2] (by decide) V
     exact ⟨inferInstance, (by simp only [df_put]; exact F16.d), ((es2 V (fg5 F16)).trans (fg5 F16).symm), ((es2 V (fg4 F16)).trans (fg4 F16).symm), ((es2 V (fg3 F16)).trans (fg3 F16).symm), (by subst hc125 hc124 hc123; exact S126)⟩
    refine xsC (zs' := #[.int .i64 ((scE (cfE C N Z K Q) os).1)]) 1 S123 V hc10 V V V (es V (fg4 F16)) (et V) (by rfl) (fun w127 c127 hc127 S127 => ?_)
    replace S127 : St w NoX [c11, c127, c123, c3] w127 := S127
    refine W_end (kq _ ?_)
    refine AX_cast (l2 := #[true, false, true, true, false]) ?_ (by kernel_rfl)
    refine AX_1 (i := 1) (by kernel_rfl) V ?_
    refine W_r V V (xlC (v := .int .i64 ((scE (cfE C N Z K Q) os).2)) V (es V (fg3 F16)) (S127.obj 0 V hc11) Try.underlying28) ?_
    refine W_end (kq _ ?_)
    refine AX_cast (l2 := #[true, true, true, true, false]) ?_ (by kernel_rfl)
    refine AX_1 (i := 4) (by kernel_rfl) V ?_
    refine xsC (zs' := #[.int .i64 ((scE (cfE C N Z K Q) os).2)]) 0 S127 V hc11 V V V (es2 V (fg3 F16)) (et V) (by rfl) (fun w128 c128 hc128 S128 => ?_)
    replace S128 : St w NoX [c128, c127, c123, c3] w128 := S128
    refine W_end (kq _ ?_)
    refine AX_cast (l2 := #[true, true, true, true, true]) ?_ (by kernel_rfl)
    refine AX_end (by kernel_rfl) ?_
    refine Qo_normal ?_
    have S129 : St w NoX [c128, c127, c123] w128 := S128.sel [0, 1, 2] (by decide) V
    exact ⟨inferInstance, (by simp only [df_put]; exact F16.d), ((es2 V (fg5 F16)).trans (fg5 F16).symm), ((es2 V (fg4 F16)).trans (fg4 F16).symm), ((es2 V (fg3 F16)).trans (fg3 F16).symm), (by subst hc128 hc127 hc123; exact S129)⟩
   ·refine W_r V V (xlC (v := .int .i64 ((scE (cfE C N Z K Q) os).2)) V (fg3 F16) (S118.obj 0 V hc11) Try.underlying28) ?_
    refine W_end (kq _ ?_)
    refine AX_cast (l2 := #[false, true, false, false, false]) ?_ (by kernel_rfl)
    refine AX_2 (i := 0) (j := 2) (by kernel_rfl) V V ?_ ?_
    ·refine W_r V V (xlC (v := .int .i64 ((scE (cfE C N Z K Q) os).1)) V (es V (fg4 F16)) (S118.obj 1 V hc10) Try.underlying3) ?_
     refine W_end (kq _ ?_)
     refine AX_cast (l2 := #[true, true, false, false, false]) ?_ (by kernel_rfl)
     refine AX_1 (i := 2) (by kernel_rfl) V ?_
     refine xsC (zs' := #[.slice none 0 0]) 2 S118 V hc4 V V V (es2 V (fg5 F16)) V (by rfl) (fun w130 c130 hc130 S130 => ?_)
     replace S130 : St w NoX [c11, c10, c130, c3] w130 := S130
     refine W_end (kq _ ?_)
     refine AX_cast (l2 := #[true, true, true, false, false]) ?_ (by kernel_rfl)
     refine AX_1 (i := 3) (by kernel_rfl) V ?_
     refine xsC (zs' := #[.int .i64 ((scE (cfE C N Z K Q) os).1)]) 1 S130 V hc10 V V V (es2 V (fg4 F16)) (et V) (by rfl) (fun w131 c131 hc131 S131 => ?_)
     replace S131 : St w NoX [c11, c131, c130, c3] w131 := S131
     refine W_end (kq _ ?_)
     refine AX_cast (l2 := #[true, true, true, true, false]) ?_ (by kernel_rfl)
     refine AX_1 (i := 4) (by kernel_rfl) V ?_
     refine xsC (zs' := #[.int .i64 ((scE (cfE C N Z K Q) os).2)]) 0 S131 V hc11 V V V (es2 V (fg3 F16)) (es V (et V)) (by rfl) (fun w132 c132 hc132 S132 => ?_)
     replace S132 : St w NoX [c132, c131, c130, c3] w132 := S132
     refine W_end (kq _ ?_)
     refine AX_cast (l2 := #[true, true, true, true, true]) ?_ (by kernel_rfl)
     refine AX_end (by kernel_rfl) ?_
     refine Qo_normal ?_
     have S133 : St w NoX [c132, c131, c130] w132 := S132.sel [0, 1, 2] (by decide) V
     exact ⟨inferInstance, (by simp only [df_put]; exact F16.d), ((es2 V (fg5 F16)).trans (fg5 F16).symm), ((es2 V (fg4 F16)).trans (fg4 F16).symm), ((es2 V (fg3 F16)).trans (fg3 F16).symm), (by subst hc132 hc131 hc130; exact S133)⟩
    refine xsC (zs' := #[.slice none 0 0]) 2 S118 V hc4 V V V (es V (fg5 F16)) V (by rfl) (fun w134 c134 hc134 S134 => ?_)
    replace S134 : St w NoX [c11, c10, c134, c3] w134 := S134
    refine W_end (kq _ ?_)
    refine AX_cast (l2 := #[false, true, true, false, false]) ?_ (by kernel_rfl)
    refine AX_1 (i := 0) (by kernel_rfl) V ?_
    refine W_r V V (xlC (v := .int .i64 ((scE (cfE C N Z K Q) os).1)) V (es V (fg4 F16)) (S134.obj 1 V hc10) Try.underlying3) ?_
    refine W_end (kq _ ?_)
    refine AX_cast (l2 := #[true, true, true, false, false]) ?_ (by kernel_rfl)
    refine AX_1 (i := 3) (by kernel_rfl) V ?_
    refine xsC (zs' := #[.int .i64 ((scE (cfE C N Z K Q) os).1)]) 1 S134 V hc10 V V V (es2 V (fg4 F16)) (et V) (by rfl) (fun w135 c135 hc135 S135 => ?_)
    replace S135 : St w NoX [c11, c135, c134, c3] w135 := S135
    refine W_end (kq _ ?_)
    refine AX_cast (l2 := #[true, true, true, true, false]) ?_ (by kernel_rfl)
    refine AX_1 (i := 4) (by kernel_rfl) V ?_
    refine xsC (zs' := #[.int .i64 ((scE (cfE C N Z K Q) os).2)]) 0 S135 V hc11 V V V (es2 V (fg3 F16)) (es V (et V)) (by rfl) (fun w136 c136 hc136 S136 => ?_)
    replace S136 : St w NoX [c136, c135, c134, c3] w136 := S136
    refine W_end (kq _ ?_)
    refine AX_cast (l2 := #[true, true, true, true, true]) ?_ (by kernel_rfl)
    refine AX_end (by kernel_rfl) ?_
    refine Qo_normal ?_
    have S137 : St w NoX [c136, c135, c134] w136 := S136.sel [0, 1, 2] (by decide) V
    exact ⟨inferInstance, (by simp only [df_put]; exact F16.d), ((es2 V (fg5 F16)).trans (fg5 F16).symm), ((es2 V (fg4 F16)).trans (fg4 F16).symm), ((es2 V (fg3 F16)).trans (fg3 F16).symm), (by subst hc136 hc135 hc134; exact S137)⟩
   refine xsC (zs' := #[.slice none 0 0]) 2 S118 V hc4 V V V (fg5 F16) V (by rfl) (fun w138 c138 hc138 S138 => ?_)
   replace S138 : St w NoX [c11, c10, c138, c3] w138 := S138
   refine W_end (kq _ ?_)
   refine AX_cast (l2 := #[false, false, true, false, false]) ?_ (by kernel_rfl)
   refine AX_2 (i := 0) (j := 1) (by kernel_rfl) V V ?_ ?_
   ·refine W_r V V (xlC (v := .int .i64 ((scE (cfE C N Z K Q) os).1)) V (fg4 F16) (S138.obj 1 V hc10) Try.underlying3) ?_
    refine W_end (kq _ ?_)
    refine AX_cast (l2 := #[true, false, true, false, false]) ?_ (by kernel_rfl)
    refine AX_2 (i := 1) (j := 3) (by kernel_rfl) V V ?_ ?_
    ·refine W_r V V (xlC (v := .int .i64 ((scE (cfE C N Z K Q) os).2)) V (es V (fg3 F16)) (S138.obj 0 V hc11) Try.underlying28) ?_
     refine W_end (kq _ ?_)
     refine AX_cast (l2 := #[true, true, true, false, false]) ?_ (by kernel_rfl)
     refine AX_1 (i := 3) (by kernel_rfl) V ?_
     refine xsC (zs' := #[.int .i64 ((scE (cfE C N Z K Q) os).1)]) 1 S138 V hc10 V V V (es2 V (fg4 F16)) (es V (et V)) (by rfl) (fun w139 c139 hc139 S139 => ?_)
     replace S139 : St w NoX [c11, c139, c138, c3] w139 := S139
     refine W_end (kq _ ?_)
     refine AX_cast (l2 := #[true, true, true, true, false]) ?_ (by kernel_rfl)
     refine AX_1 (i := 4) (by kernel_rfl) V ?_
     refine xsC (zs' := #[.int .i64 ((scE (cfE C N Z K Q) os).2)]) 0 S139 V hc11 V V V (es2 V (fg3 F16)) (et V) (by rfl) (fun w140 c140 hc140 S140 => ?_)
     replace S140 : St w NoX [c140, c139, c138, c3] w140 := S140
     refine W_end (kq _ ?_)
     refine AX_cast (l2 := #[true, true, true, true, true]) ?_ (by kernel_rfl)
     refine AX_end (by kernel_rfl) ?_
     refine Qo_normal ?_
     have S141 : St w NoX [c140, c139, c138] w140 := S140.sel [0, 1, 2] (by decide) V
     exact ⟨inferInstance, (by simp only [df_put]; exact F16.d), ((es2 V (fg5 F16)).trans (fg5 F16).symm), ((es2 V (fg4 F16)).trans (fg4 F16).symm), ((es2 V (fg3 F16)).trans (fg3 F16).symm), (by subst hc140 hc139 hc138; exact S141)⟩
    refine xsC (zs' := #[.int .i64 ((scE (cfE C N Z K Q) os).1)]) 1 S138 V hc10 V V V (es V (fg4 F16)) (et V) (by rfl) (fun w142 c142 hc142 S142 => ?_)
    replace S142 : St w NoX [c11, c142, c138, c3] w142 := S142
    refine W_end (kq _ ?_)
    refine AX_cast (l2 := #[true, false, true, true, false]) ?_ (by kernel_rfl)
    refine AX_1 (i := 1) (by kernel_rfl) V ?_
    refine W_r V V (xlC (v := .int .i64 ((scE (cfE C N Z K Q) os).2)) V (es V (fg3 F16)) (S142.obj 0 V hc11) Try.underlying28) ?_
    refine W_end (kq _ ?_)
    refine AX_cast (l2 := #[true, true, true, true, false]) ?_ (by kernel_rfl)
    refine AX_1 (i := 4) (by kernel_rfl) V ?_
    refine xsC (zs' := #[.int .i64 ((scE (cfE C N Z K Q) os).2)]) 0 S142 V hc11 V V V (es2 V (fg3 F16)) (et V) (by rfl) (fun w143 c143 hc143 S143 => ?_)
    replace S143 : St w NoX [c143, c142, c138, c3] w143 := S143
    refine W_end (kq _ ?_)
    refine AX_cast (l2 := #[true, true, true, true, true]) ?_ (by kernel_rfl)
    refine AX_end (by kernel_rfl) ?_
    refine Qo_normal ?_
    have S144 : St w NoX [c143, c142, c138] w143 := S143.sel [0, 1, 2] (by decide) V
    exact ⟨inferInstance, (by simp only [df_put]; exact F16.d), ((es2 V (fg5 F16)).trans (fg5 F16).symm), ((es2 V (fg4 F16)).trans (fg4 F16).symm), ((es2 V (fg3 F16)).trans (fg3 F16).symm), (by subst hc143 hc142 hc138; exact S144)⟩
   refine W_r V V (xlC (v := .int .i64 ((scE (cfE C N Z K Q) os).2)) V (fg3 F16) (S138.obj 0 V hc11) Try.underlying28) ?_
   refine W_end (kq _ ?_)
   refine AX_cast (l2 := #[false, true, true, false, false]) ?_ (by kernel_rfl)
   refine AX_1 (i := 0) (by kernel_rfl) V ?_
   refine W_r V V (xlC (v := .int .i64 ((scE (cfE C N Z K Q) os).1)) V (es V (fg4 F16)) (S138.obj 1 V hc10) Try.underlying3) ?_
   refine W_end (kq _ ?_)
   refine AX_cast (l2 := #[true, true, true, false, false]) ?_ (by kernel_rfl)
   refine AX_1 (i := 3) (by kernel_rfl) V ?_
   refine xsC (zs' := #[.int .i64 ((scE (cfE C N Z K Q) os).1)]) 1 S138 V hc10 V V V (es2 V (fg4 F16)) (et V) (by rfl) (fun w145 c145 hc145 S145 => ?_)
   replace S145 : St w NoX [c11, c145, c138, c3] w145 := S145
   refine W_end (kq _ ?_)
   refine AX_cast (l2 := #[true, true, true, true, false]) ?_ (by kernel_rfl)
   refine AX_1 (i := 4) (by kernel_rfl) V ?_
   refine xsC (zs' := #[.int .i64 ((scE (cfE C N Z K Q) os).2)]) 0 S145 V hc11 V V V (es2 V (fg3 F16)) (es V (et V)) (by rfl) (fun w146 c146 hc146 S146 => ?_)
   replace S146 : St w NoX [c146, c145, c138, c3] w146 := S146
   refine W_end (kq _ ?_)
   refine AX_cast (l2 := #[true, true, true, true, true]) ?_ (by kernel_rfl)
   refine AX_end (by kernel_rfl) ?_
   refine Qo_normal ?_
   have S147 : St w NoX [c146, c145, c138] w146 := S146.sel [0, 1, 2] (by decide) V
   exact ⟨inferInstance, (by simp only [df_put]; exact F16.d), ((es2 V (fg5 F16)).trans (fg5 F16).symm), ((es2 V (fg4 F16)).trans (fg4 F16).symm), ((es2 V (fg3 F16)).trans (fg3 F16).symm), (by subst hc146 hc145 hc138; exact S147)⟩
  rintro A148 w148 ⟨Y148, hdf148, u6_148, u7_148, u8_148, S148⟩
  have l6_148 := u6_148.trans (fg5 F16)
  have l7_148 := u7_148.trans (fg4 F16)
  have l8_148 := u8_148.trans (fg3 F16)
  clear Y16 F16 S13
  obtain ⟨c20_148, c19_148, c18_148, hc20_148, hc19_148, hc18_148, S148⟩ := gen3 S148
  refine tk H17 ?_
  refine R_ret ?_
  refine inb_ret (then_ret ?_)
  refine ret_inR0 (results_3 Try.results19 (rv_cellC l6_148 (cell_box (S148.obj 2 V hc18_148) V) Try.underlying25 V) (rv_cellC l7_148 (cell_box (S148.obj 1 V hc19_148) V) Try.underlying3 V) (rv_cellC l8_148 (cell_box (S148.obj 0 V hc20_148) V) Try.underlying28 V)) hdf148 ?_
  have h : (jdF (cfE C N Z K Q) (lgN C N Z K Q) K os ans) = ((scE (cfE C N Z K Q) os).1, (scE (cfE C N Z K Q) os).2) := jd_sc hz_9
  rw [h]
  exact .inl ⟨rfl, hz_9, S148.fin0⟩
 refine ⟨_, rfl, ?_⟩
 obtain ⟨cB_9, cK_9, hcB_9, hcK_9, hP9⟩ := gen2 hP9
 have S9 := S6.join hP9
 replace S9 : St w NoX [cB_9, cK_9, c6, c5, c4, c3, c2] w9 := S9
 obtain ⟨hcf, hl2, hops, hsz⟩ := sc_inv (cf := (cfE C N Z K Q)) (l := os) (by rw [hz_9])
 have hsm0 : SM (gab ((hv_9, H_9), (qv_9, q_9))).1 := by rw [hg_9]; exact SM_nil
 have hgK : gab ((hv_9, H_9), (qv_9, q_9)) = g00 K := hg_9
 refine W_v V V (V_mov V (et V)) ?_
 refine W_v V V (V_ext (v := .pointer (some ⟨gs_9, 0, none⟩)) V (et V) V) ?_
 refine W_v V V (V_ext (v := .int .i64 0) V (es V (et V)) V) ?_
 refine W_v V V (V_ext (v := .int .i64 0) V (es2 V (et V)) V) ?_
 refine W_v V V (V_asg V (es2 V (et V))) ?_
 refine xsC (zs' := #[.int .i64 0]) 3 S9 V hc5 V V V (es8 V (fg2 F7)) (es2 V (et V)) (by rfl) (fun w149 c149 hc149 S149 => ?_)
 replace S149 : St w NoX [cB_9, cK_9, c6, c149, c4, c3, c2] w149 := S149
 refine xsC (zs' := #[.int .i64 0]) 2 S149 V hc6 V V V (es8 V (fg1 F7)) (es V (et V)) (by rfl) (fun w150 c150 hc150 S150 => ?_)
 replace S150 : St w NoX [cB_9, cK_9, c150, c149, c4, c3, c2] w150 := S150
 refine W_end (Qo_normal ?_)
 refine gen_Q (fun A151 E151 => ?_)
 have Y151 := szq E151
 have F151 := fsE E151 (ck (cq7 F7 V) V V)
 clear E151 Y7 F7
 have S152 : St w NoX [cB_9, cK_9, c150, c149, c4, c3] w150 := S150.sel [0, 1, 2, 3, 4, 5] (by decide) V
 refine tk H8 ?_
 refine R_seq (fun K153 H153 => ?_)
 refine R_block ?_
 refine R_seq (fun K154 H154 => ?_)
 refine R_region (by kernel_rfl) ?_
 refine W_r V V (xlC (v := .int .i64 0) V (fg2 F151) (S152.obj 2 V hc150) Try.underlying28) ?_
 refine W_v V V (V_neq V (et V) V) ?_
 refine W_v V V (V_asg V (et V)) (W_end (Qo_normal ?_))
 refine gen_Q (fun A155 E155 => ?_)
 have Y155 := szq E155
 have F155 := fsE E155 (ck (cq2 F151 V) V V)
 clear E155 Y151 F151
 refine tk H154 ?_
 refine R_cond_not (fg0 F155) (by decide) ?_
 refine R_seq (fun K156 H156 => ?_)
 refine R_region (by kernel_rfl) ?_
 refine W_r V V (xlC (v := av) V (fg6 F155) (S152.obj 5 V hc3) Try.underlying37) ?_
 refine W_v V V (V_lenS V (et V) (sl_SlN h_av.at) Try.underlying37) ?_
 refine W_v V V (V_mov V (es2 V (fg2 F155))) ?_
 refine W_v V V (V_lenS V (et V) (sl_SlN h_lv.at) Try.underlying24) ?_
 refine W_v V V (V_neq V (es2 V (et V)) (et V)) ?_
 refine W_v V V (V_asg V (et V)) (W_end (Qo_normal ?_))
 refine gen_Q (fun A157 E157 => ?_)
 have Y157 := szq E157
 have F157 := fsE E157 (ck (cq5 F155 V) V V)
 clear E157 Y155 F155
 refine tk H156 ?_
 refine R_cond_dec (fg0 F157) (fun c158 => ?_) (fun c158 => ?_)
 ·refine R_seq (fun K159 H159 => ?_)
  refine R_region (by kernel_rfl) ?_
  refine xsC (zs' := #[.slice none 0 0]) 4 S152 V hc4 V V V (fg6 F157) V (by rfl) (fun w160 c160 hc160 S160 => ?_)
  replace S160 : St w NoX [cB_9, cK_9, c150, c149, c160, c3] w160 := S160
  refine xsC (zs' := #[.int .i64 (-1)]) 3 S160 V hc149 V V V (fg5 F157) V (by rfl) (fun w161 c161 hc161 S161 => ?_)
  replace S161 : St w NoX [cB_9, cK_9, c150, c161, c160, c3] w161 := S161
  refine xsC (zs' := #[.int .i64 6]) 2 S161 V hc150 V V V (fg4 F157) V (by rfl) (fun w162 c162 hc162 S162 => ?_)
  replace S162 : St w NoX [cB_9, cK_9, c162, c161, c160, c3] w162 := S162
  refine W_end (Qo_normal (tk H159 ?_))
  refine R_ret ?_
  refine inb_ret (then_ret ?_)
  refine ret_inR0 (results_3 Try.results19 (rv_cellC (fg6 F157) (cell_box (S162.obj 4 V hc160) V) Try.underlying25 V) (rv_cellC (fg5 F157) (cell_box (S162.obj 3 V hc161) V) Try.underlying3 V) (rv_cellC (fg4 F157) (cell_box (S162.obj 2 V hc162) V) Try.underlying28 V)) F157.d ?_
  have h : (jdF (cfE C N Z K Q) (lgN C N Z K Q) K os ans) = ((-1), 6) := jd_len hsz (by omega)
  rw [h]
  exact .inl ⟨rfl, by decide, S162.fin0⟩
 refine R_skip (inb_n (tk H153 ?_))
 refine R_seq (fun K163 H163 => ?_)
 refine R_seq (fun K164 H164 => ?_)
 refine R_region (by kernel_rfl) ?_
 refine W_v V V (V_mov V (fg3 F157)) ?_
 refine W_v V V (V_lenS V (et V) (sl_SlN h_lv.at) Try.underlying24) ?_
 refine W_v V V (V_mov V V) (W_end (Qo_normal ?_))
 refine gen_Q (fun A165 E165 => ?_)
 have Y165 := szq E165
 have F165 := fsE E165 (ck (ck (ck F157 V V) V V) V V)
 clear E165 Y157 F157
 refine tk H164 (R_block ?_)
 -- loop 7
 refine R_loop (fun mz A' w' => SzN A' 72 ∧ A'.defers = [] ∧ (∃ (k : Nat), (mz = os.length - k) ∧ (k ≤ os.length) ∧ (ckA 0 os ans = ckA k (os.drop k) (ans.drop k)) ∧ (EV A' (.tmp 35) = .int .i64 (k : Int)) ∧ (EV A' (.tmp 1) = EV A165 (.tmp 1)) ∧ (EV A' (.tmp 5) = EV A165 (.tmp 5)) ∧ (EV A' (.tmp 6) = EV A165 (.tmp 6)) ∧ (EV A' (.tmp 7) = EV A165 (.tmp 7)) ∧ (EV A' (.tmp 8) = EV A165 (.tmp 8)) ∧ (EV A' (.tmp 9) = EV A165 (.tmp 9)) ∧ (EV A' (.tmp 33) = EV A165 (.tmp 33)) ∧ (EV A' (.tmp 34) = EV A165 (.tmp 34)) ∧ (St w NoX [bx gs_9 75 #[hv_9, qv_9, .int .i64 ((lgN C N Z K Q))], gls [((hv_9, H_9), (qv_9, q_9))], bx g6 28 #[.int .i64 0], bx g5 3 #[.int .i64 0], bx g4 25 #[.slice none 0 0], bx g3 37 #[av]] w'))) (os.length - 0) ⟨Y165, F165.d, 0, rfl, (by omega), rfl, (((fg0 F165)).trans (by first | rfl | (simp; done) | (congr 1; omega))), rfl, rfl, rfl, rfl, rfl, rfl, rfl, rfl, (by subst hcB_9 hcK_9 hc150 hc149 hc4 hc3; exact S152)⟩ ?_
 clear S152 hcB_9 hcK_9 hc150 hc149 hc4 hc3
 rintro n166 A166 w166 ⟨Y166, hdf166, k, hm166, hk, hja, l35_166, u1_166, u5_166, u6_166, u7_166, u8_166, u9_166, u33_166, u34_166, S166⟩
 have l1_166 := u1_166.trans (fg6 F165)
 have l5_166 := u5_166.trans (fg10 F165)
 have l6_166 := u6_166.trans (fg9 F165)
 have l7_166 := u7_166.trans (fg8 F165)
 have l8_166 := u8_166.trans (fg7 F165)
 have l9_166 := u9_166.trans (fg5 F165)
 have l33_166 := u33_166.trans (fg2 F165)
 have l34_166 := u34_166.trans (fg1 F165)
 obtain ⟨cB_166, cK_166, c150_166, c149_166, c4_166, c3_166, hcB_166, hcK_166, hc150_166, hc149_166, hc4_166, hc3_166, S166⟩ := gen6 S166
 refine R_seq (fun K167 H167 => ?_)
 refine R_region (by kernel_rfl) ?_
 refine W_v V V (V_lss V l35_166 l34_166) ?_
 refine W_end (Qo_normal ?_)
 refine gen_Q (fun A168 E168 => ?_)
 have Y168 := szq E168
 have F168 := (((((((((fsE E168 (ck (FS.n hdf166) V V)).c (lookE E168 1 (es V l1_166))).c (lookE E168 5 (es V l5_166))).c (lookE E168 6 (es V l6_166))).c (lookE E168 7 (es V l7_166))).c (lookE E168 8 (es V l8_166))).c (lookE E168 9 (es V l9_166))).c (lookE E168 33 (es V l33_166))).c (lookE E168 34 (es V l34_166))).c (lookE E168 35 (es V l35_166))
 clear E168 Y166 hdf166 l35_166 l1_166 l5_166 l6_166 l7_166 l8_166 l9_166 l33_166 l34_166
 refine tk H167 ?_
 refine R_seq (fun K169 H169 => ?_)
 refine R_cond_dec (fg9 F168) (fun c170 => ?_) (fun c170 => ?_)
 ·refine R_skip (tk H169 ?_)
  refine R_seq (fun K171 H171 => ?_)
  refine R_block ?_
  refine R_seq (fun K172 H172 => ?_)
  refine R_region (by kernel_rfl) ?_
  refine W_v V V (V_mov V (fg0 F168)) ?_
  have k173 : k < os.length := by first | omega | (simp only [List.length_cons, List.length_nil]; omega) | (simp only [List.length_set]; omega) | decide
  obtain ⟨y173, hy173⟩ := get_some (xs := os) (k := k) k173
  obtain ⟨B173, O173, C173, hv173⟩ := (SlN.blk (sl_SlN h_lv.at) (by first | omega | (simp only [List.length_cons, List.length_nil]; omega) | (simp only [List.length_set]; omega) | decide))
  refine W_v V V (V_ixS (off := O173 + k * 7) 7 (k) V (es V (fg2 F168)) (es V (fg0 F168)) hv173 (by omega) k173 Try.underlying24 (by kernel_rfl) V) ?_
  refine W_r V V (VR_ldR (ys := opC y173) V (et V) (SlN.row opC_len (sl_SlN (S166.ro h_lv)) hv173 hy173 V) Try.underlying42 V (by kernel_rfl)) ?_
  refine W_allocS (z := .agg #[.int .i64 0, .int .i64 0, .int .i64 0, .int .i64 0, .int .i64 0, .int .i64 0, .int .u64 0]) (zs := #[.int .i64 0, .int .i64 0, .int .i64 0, .int .i64 0, .int .i64 0, .int .i64 0, .int .u64 0]) S166 V V V (by kernel_rfl) (by rfl) (fun g174 w174 c174 hc174 S174 => ?_)
  replace S174 : St w NoX [c174, cB_166, cK_166, c150_166, c149_166, c4_166, c3_166] w174 := S174
  refine W_v V V (V_asg V (es3 V (et V))) ?_
  refine xsA 0 S174 V hc174 V V V (es V (et V)) (es2 V (et V)) (fun w175 c175 hc175 S175 => ?_)
  replace S175 : St w NoX [c175, cB_166, cK_166, c150_166, c149_166, c4_166, c3_166] w175 := S175
  refine W_end (Qo_normal ?_)
  refine gen_Q (fun A176 E176 => ?_)
  have Y176 := szq E176
  have F176 := fsE E176 (ck (ck (cq3 F168 V) V V) V V)
  clear E176 Y168 F168
  refine tk H172 ?_
  refine R_seq (fun K177 H177 => ?_)
  have k178 : k < ans.length := by first | omega | (simp only [List.length_cons, List.length_nil]; omega) | (simp only [List.length_set]; omega) | decide
  obtain ⟨y178, hy178⟩ := get_some (xs := ans) (k := k) k178
  have hvr178 := hvr y178 (List.mem_of_getElem? hy178)
  refine R_monoS (by kernel_rfl) 7 7 [none, none, none, none, none, some (SPv [] (fun _ => fun u l' => u = .int .i64 (anE (⟨y173.kd, y173.a, y173.b, y173.f, y173.p, y173.q, y173.u⟩ : OpC) (⟨y178.e, y178.t, y178.v⟩ : AnC)) ∧ l' = []) 5)] (by kernel_rfl) (by kernel_rfl) ?_
  refine D_r V V (by kernel_rfl) (fun sx hx hF => (VR_ldA V (fg1 F176) ((S175.grow hx).obj 0 V hc175) Try.underlying42 V (by kernel_rfl))) V V ?_
  refine D_r V V (by kernel_rfl) (fun sx hx hF => (VR_ldC V (es V (fg9 F176)) (cell_box (v := av) ((S175.grow hx).obj 6 V hc3_166) V) Try.underlying37 V)) V V ?_
  refine D_v V V (V_mov V (es2 V (fg0 F176))) V V ?_
  obtain ⟨B178, O178, C178, hv178⟩ := (SlN.blk (sl_SlN h_av.at) (by first | omega | (simp only [List.length_cons, List.length_nil]; omega) | (simp only [List.length_set]; omega) | decide))
  refine D_v V V (V_ixS (off := O178 + k * 3) 3 (k) V (es V (et V)) (et V) hv178 (by omega) k178 Try.underlying37 (by kernel_rfl) V) V V ?_
  refine D_r V V (by kernel_rfl) (fun sx hx hF => (VR_ldR (ys := anC y178) V (et V) (SlN.row anC_len (sl_SlN ((S175.grow hx).ro h_av)) hv178 hy178 V) Try.underlying44 V (by kernel_rfl))) V V ?_
  refine D_call (ts := []) (vs := []) (C0 := fun _ => fun u l' => u = .int .i64 (anE (⟨y173.kd, y173.a, y173.b, y173.f, y173.p, y173.q, y173.u⟩ : OpC) (⟨y178.e, y178.t, y178.v⟩ : AnC)) ∧ l' = []) (C := fun u l' => u = .int .i64 (anE (⟨y173.kd, y173.a, y173.b, y173.f, y173.p, y173.q, y173.u⟩ : OpC) (⟨y178.e, y178.t, y178.v⟩ : AnC)) ∧ l' = []) V V V Try.func33 (by kernel_rfl) V (args2 (es4 V (et V)) (et V)) V V V V (fun sx hx hF => ?_) (fun u179 l179 hu179 => ?_)
  ·refine (kan_c (kd := y173.kd) (a := y173.a) (b := y173.b) (f := y173.f) (p := y173.p) (q := y173.q) (uu := y173.u) (er := y178.e) (ti := y178.t) (v := y178.v)  (by first | with_reducible assumption | omega)).mono ?_
   rintro _ _ ⟨rfl, hz⟩
   exact ⟨_, rfl, _, ⟨rfl, rfl⟩, hz⟩
  obtain ⟨rfl, hl179⟩ := hu179
  refine D_v V V (V_asg V (et V)) V V ?_
  refine ZS_none S175 (Nat.le_refl _) (Nat.le_refl _) (fun s180 hJ180 hL180 hF180 => ?_)
  obtain ⟨ll179, ws179, we179, ⟨hq179, hl179r⟩, hm179, k179, e179⟩ := L.all_get hF180; cases hq179; subst hl179r
  replace hJ180 := hJ180.add hL180 (i := 5) V hm179 k179 e179
  have S180 := hJ180.st; clear hF180 hJ180 hL180
  generalize s180.1 = w180 at *
  replace S180 : St w NoX [c175, cB_166, cK_166, c150_166, c149_166, c4_166, c3_166] w180 := S180
  refine gen_Q (fun A181 E181 => ?_)
  have Y181 := szq E181
  have F181 := fsE E181 (ck (cq6 F176 V) V V)
  clear E181 Y176 F176
  have S182 : St w NoX [cB_166, cK_166, c150_166, c149_166, c4_166, c3_166] w180 := S180.sel [1, 2, 3, 4, 5, 6] (by decide) V
  refine tk H177 ?_
  refine R_seq (fun K183 H183 => ?_)
  refine R_region (by kernel_rfl) ?_
  refine W_v V V (V_mov V (fg0 F181)) ?_
  refine W_v V V (V_neq V (et V) V) ?_
  refine W_end (Qo_normal ?_)
  refine gen_Q (fun A184 E184 => ?_)
  have Y184 := szq E184
  have F184 := fsE E184 (ck (cq1 F181 V) V V)
  clear E184 Y181 F181
  refine tk H183 ?_
  refine R_cond_dec (fg0 F184) (fun c185 => ?_) (fun c185 => ?_)
  ·refine R_seq (fun K186 H186 => ?_)
   refine R_region (by kernel_rfl) ?_
   refine W_v V V (V_mov V (fg2 F184)) (W_v V V (V_mov V (es V (fg1 F184))) ?_)
   refine xsC (zs' := #[.slice none 0 0]) 4 S182 V hc4_166 V V V (es2 V (fg10 F184)) V (by rfl) (fun w187 c187 hc187 S187 => ?_)
   replace S187 : St w NoX [cB_166, cK_166, c150_166, c149_166, c187, c3_166] w187 := S187
   refine xsC (zs' := #[.int .i64 ((k : Int))]) 3 S187 V hc149_166 V V V (es2 V (fg9 F184)) (es V (et V)) (by rfl) (fun w188 c188 hc188 S188 => ?_)
   replace S188 : St w NoX [cB_166, cK_166, c150_166, c188, c187, c3_166] w188 := S188
   refine xsC (zs' := #[.int .i64 ((anE (⟨y173.kd, y173.a, y173.b, y173.f, y173.p, y173.q, y173.u⟩ : OpC) (⟨y178.e, y178.t, y178.v⟩ : AnC)))]) 2 S188 V hc150_166 V V V (es2 V (fg8 F184)) (et V) (by rfl) (fun w189 c189 hc189 S189 => ?_)
   replace S189 : St w NoX [cB_166, cK_166, c189, c188, c187, c3_166] w189 := S189
   refine W_end (Qo_normal ?_)
   refine gen_Q (fun A190 E190 => ?_)
   have Y190 := szq E190
   have F190 := fsE E190 (cq2 F184 V)
   clear E190 Y184 F184
   have S191 : St w NoX [cB_166, cK_166, c189, c188, c187] w189 := S189.sel [0, 1, 2, 3, 4] (by decide) V
   refine tk H186 ?_
   refine R_ret ?_
   refine inb_ret (then_ret (then_ret (inb_ret (then_ret ?_))))
   refine ret_inR0 (results_3 Try.results19 (rv_cellC (fg10 F190) (cell_box (S191.obj 4 V hc187) V) Try.underlying25 V) (rv_cellC (fg9 F190) (cell_box (S191.obj 3 V hc188) V) Try.underlying3 V) (rv_cellC (fg8 F190) (cell_box (S191.obj 2 V hc189) V) Try.underlying28 V)) F190.d ?_
   have h : (jdF (cfE C N Z K Q) (lgN C N Z K Q) K os ans) = ((k : Int), (anE (⟨y173.kd, y173.a, y173.b, y173.f, y173.p, y173.q, y173.u⟩ : OpC) (⟨y178.e, y178.t, y178.v⟩ : AnC))) := jd_ck hsz (by omega) (ja_bad hja hy173 hy178 c185) c185
   rw [h]
   exact .inl ⟨rfl, c185, S191.fin0⟩
  refine R_skip (inb_n (tk H171 ?_))
  refine R_region (by kernel_rfl) ?_
  refine W_v V V (V_add V (fg4 F184) V (by omega) (by omega)) ?_
  refine W_v V V (V_mov V (et V)) (W_end (Qo_normal ?_))
  refine gen_Q (fun A192 E192 => ?_)
  have Y192 := szq E192
  have F192 := fsE E192 (ck (cq1 (fx4 F184) V) V V)
  clear E192 Y184 F184
  refine then_n ⟨os.length - (k + 1), by simp only [hm166]; omega, Y192, F192.d, (k + 1), rfl, (by omega), (ja_step hja hy173 hy178 c185), (((fg0 F192)).trans (by first | rfl | (simp; done) | (congr 1; omega))), (((fg12 F192)).trans (fg6 F165).symm), (((fg11 F192)).trans (fg10 F165).symm), (((fg10 F192)).trans (fg9 F165).symm), (((fg9 F192)).trans (fg8 F165).symm), (((fg8 F192)).trans (fg7 F165).symm), (((fg7 F192)).trans (fg5 F165).symm), (((fg6 F192)).trans (fg2 F165).symm), (((fg5 F192)).trans (fg1 F165).symm), (by subst hcB_166 hcK_166 hc150_166 hc149_166 hc4_166 hc3_166; exact S182)⟩
 refine R_exit ?_
 refine then_exit (then_exit ?_)
 refine inb_hit ?_
 refine tk H163 ?_
 refine R_seq (fun K193 H193 => ?_)
 refine R_seq (fun K194 H194 => ?_)
 refine R_region (by kernel_rfl) ?_
 refine W_v V V (V_mov V (fg3 F168)) (W_v V V (V_mov V (es V (fg8 F168))) ?_)
 refine W_v V V (V_mkf V (args0) (args1 (es2 V (fg7 F168)))) ?_
 refine W_call V V V Try.func34 (by kernel_rfl) V (args3 (es2 V (et V)) (es V (et V)) (et V)) (kmtJ_c (gs := gs_9) (gc := g3) (S166.roC h_lv) ) ?_
 rintro _ w195 ⟨g4_195, g3_195, g7_195, g5_195, rfl, hP195⟩
 refine ⟨_, rfl, ?_⟩
 obtain ⟨cb4_195, cb3_195, cb7_195, cb5_195, hcb4_195, hcb3_195, hcb7_195, hcb5_195, hP195⟩ := gen4 hP195
 have S195 := S166.join hP195
 replace S195 : St w NoX [cb4_195, cb3_195, cb7_195, cb5_195, cB_166, cK_166, c150_166, c149_166, c4_166, c3_166] w195 := S195
 refine W_end (Qo_normal ?_)
 refine gen_Q (fun A196 E196 => ?_)
 have Y196 := szq E196
 have F196 := fsE E196 (ck (cq3 F168 V) V V)
 clear E196 Y168 F168
 refine tk H194 (R_block ?_)
 have hjA := ja_end hja (by omega)
 obtain ⟨c197, hc197, S197⟩ := S195.pnil (s := 1)
 have S199 := S197.sel [0, 5, 6, 1, 2, 3, 4, 7, 8, 9, 10] (by decide) (l' := [c197, cB_166, cK_166, cb4_195, cb3_195, cb7_195, cb5_195, c150_166, c149_166, c4_166, c3_166]) V
 replace S199 : St w NoX [c197, cB_166, cK_166, cb4_195, cb3_195, cb7_195, cb5_195, c150_166, c149_166, c4_166, c3_166] w195 := S199
 obtain ⟨ct200, hct200, S200⟩ := genS (mT_shut (gs := gs_9) (T := 75) (n := (lgN C N Z K Q)) (G0 := ((hv_9, H_9), (qv_9, q_9))) (pre := []) (hcB_166) hcK_166 S199)
 replace S200 : St w NoX [c197, ct200, cb4_195, cb3_195, cb7_195, cb5_195, c150_166, c149_166, c4_166, c3_166] w195 := S200
 have S201 := S200.sel [0, 2, 3, 4, 5, 6, 7, 8, 9, 1] (by decide) (l' := [c197, cb4_195, cb3_195, cb7_195, cb5_195, c150_166, c149_166, c4_166, c3_166, ct200]) V
 replace S201 : St w NoX [c197, cb4_195, cb3_195, cb7_195, cb5_195, c150_166, c149_166, c4_166, c3_166, ct200] w195 := S201
 refine R_rangeT (α := ME) (fg0 F196) (fun args w => calls_enter Try.func61 V V args w) (kmoJ_it (gs := gs_9) (g3 := g3_195) (g4 := g4_195) (g5 := g5_195) (g7 := g7_195) (gc := g3) (G0 := ((hv_9, H_9), (qv_9, q_9))) (n := (lgN C N Z K Q)) (lv := lv) (os := os) (av := av) (ans := ans) (Rd := fun W => (bx g4_195 24 #[lv]).at W ∧ (rl 7 opC lv os).at W ∧ (bx g3_195 73 #[.pointer (some ⟨gs_9, 0, none⟩)]).at W ∧ (bx g7_195 76 #[.func (.func 30) #[.pointer (some ⟨gs_9, 0, none⟩)] #[]]).at W ∧ (bx g5_195 85 #[.func (.func 35) #[] #[.pointer (some ⟨g3, 0, none⟩)]]).at W ∧ (bx g3 37 #[av]).at W ∧ (rl 3 anC av ans).at W) (fun _ h => h) (hsm0) (lg_rng) (hops) (hl2) ((by omega))) (fun _ => rfl) (fun pre => pk (fun l => ∃ (rv : Value), (fbJ ans 0 (moJ (lgN C N Z K Q) K os ans) = fbJ ans pre.length ((moJ (lgN C N Z K Q) K os ans).drop pre.length)) ∧ l = [io .i64 rv (reJ pre), bx g4_195 24 #[lv], bx g3_195 73 #[.pointer (some ⟨gs_9, 0, none⟩)], bx g7_195 76 #[.func (.func 30) #[.pointer (some ⟨gs_9, 0, none⟩)] #[]], bx g5_195 85 #[.func (.func 35) #[] #[.pointer (some ⟨g3, 0, none⟩)]], bx g6 28 #[.int .i64 0], bx g5 3 #[.int .i64 0], bx g4 25 #[rv], bx g3 37 #[av]])) (fun cQ pre => pk (fun l => (cQ = .ret ∧ ∃ (rv : Value) (rL : List Int) (a : Int) (er : Int), (fbJ ans 0 (moJ (lgN C N Z K Q) K os ans) = (a, er)) ∧ (er ≠ 0) ∧ l = [io .i64 rv rL, bx g4_195 24 #[lv], bx g3_195 73 #[.pointer (some ⟨gs_9, 0, none⟩)], bx g7_195 76 #[.func (.func 30) #[.pointer (some ⟨gs_9, 0, none⟩)] #[]], bx g5_195 85 #[.func (.func 35) #[] #[.pointer (some ⟨g3, 0, none⟩)]], bx g6 28 #[.int .i64 (er)], bx g5 3 #[.int .i64 (a)], bx g4 25 #[.slice none 0 0], bx g3 37 #[av]]))) (St.pack (l := [io .i64 (.slice none 0 0) (reJ []), bx g4_195 24 #[lv], bx g3_195 73 #[.pointer (some ⟨gs_9, 0, none⟩)], bx g7_195 76 #[.func (.func 30) #[.pointer (some ⟨gs_9, 0, none⟩)] #[]], bx g5_195 85 #[.func (.func 35) #[] #[.pointer (some ⟨g3, 0, none⟩)]], bx g6 28 #[.int .i64 0], bx g5 3 #[.int .i64 0], bx g4 25 #[(.slice none 0 0)], bx g3 37 #[av]]) (fr := (mT gs_9 75 (lgN C N Z K Q) ((hv_9, H_9), (qv_9, q_9)) [] :: [])) (by have q0 : c197 = io .i64 (.slice none 0 0) (reJ []) := hc197; have q1 : cb4_195 = bx g4_195 24 #[lv] := hcb4_195; have q2 : cb3_195 = bx g3_195 73 #[.pointer (some ⟨gs_9, 0, none⟩)] := hcb3_195; have q3 : cb7_195 = bx g7_195 76 #[.func (.func 30) #[.pointer (some ⟨gs_9, 0, none⟩)] #[]] := hcb7_195; have q4 : cb5_195 = bx g5_195 85 #[.func (.func 35) #[] #[.pointer (some ⟨g3, 0, none⟩)]] := hcb5_195; have q5 : c150_166 = bx g6 28 #[.int .i64 0] := hc150_166; have q6 : c149_166 = bx g5 3 #[.int .i64 0] := hc149_166; have q7 : c4_166 = bx g4 25 #[(.slice none 0 0)] := hc4_166; have q8 : c3_166 = bx g3 37 #[av] := hc3_166; have q9 := hct200; subst q0 q1 q2 q3 q4 q5 q6 q7 q8 q9; exact S201) ⟨(.slice none 0 0), rfl, rfl⟩)
  (fun pre W l' hS => by obtain ⟨l, ⟨rv, hz, rfl⟩, hl⟩ := pk_at (hS.ch 0 V); exact ⟨(hl 1 _ V), hS.ro h_lv, (hl 2 _ V), (hl 3 _ V), (hl 4 _ V), (hl 8 _ V), hS.ro h_av⟩)
  (fun x a' cQ => ∃ g205 : Nat, SzN a' 72 ∧ a'.defers = [] ∧ EV a' (.tmp 5) = EV A196 (.tmp 5) ∧ EV a' (.tmp 6) = EV A196 (.tmp 6) ∧ EV a' (.tmp 7) = EV A196 (.tmp 7) ∧ EV a' (.tmp 8) = EV A196 (.tmp 8) ∧ EV a' (.tmp 13) = .int .i64 (x.1) ∧ EV a' (.tmp 14) = .pointer (some ⟨g205, 0, none⟩) ∧ cQ = pk (·= [bx g205 44 #[.int .i64 (x.2.1.e), .bool (x.2.1.t), .int .u64 (x.2.1.v)]])) ?_ ?_ ?_ ?_
 ·intro la198 pre x wa198 fr K hSa198 hK
  simp only [Ml.encM]
  rw [rnd2]
  obtain ⟨A202, E202⟩ : ∃ A, A = (PT (PT { tmps := A196.tmps, defers := [] } 55 (.int .i64 x.1)) 56 (.agg #[.int .i64 x.2.1.e, .bool x.2.1.t, .int .u64 x.2.1.v])) := ⟨_, rfl⟩
  rw [← E202]
  have Y202 := szq E202
  have hdf202 : A202.defers = [] := by rw [E202]; rfl
  have l5_202 := lookE E202 5 (es2 V (rnd_l (fg8 F196)))
  have l6_202 := lookE E202 6 (es2 V (rnd_l (fg7 F196)))
  have l7_202 := lookE E202 7 (es2 V (rnd_l (fg6 F196)))
  have l8_202 := lookE E202 8 (es2 V (rnd_l (fg5 F196)))
  have l55_202 := lookE E202 55 (es V (et V))
  have l56_202 := lookE E202 56 (et V)
  clear E202
  obtain ⟨cI, hcI, hSa198⟩ := gen1 hSa198
  refine R_seq (fun K203 H203 => ?_)
  refine R_region (by kernel_rfl) ?_
  refine W_v V V (V_asg V l55_202) (W_end (Qo_normal ?_))
  refine gen_Q (fun A204 E204 => ?_)
  have Y204 := szq E204
  have F204 := (((((fsE E204 (ck (FS.n hdf202) V V)).c (lookE E204 5 (es V l5_202))).c (lookE E204 6 (es V l6_202))).c (lookE E204 7 (es V l7_202))).c (lookE E204 8 (es V l8_202))).c (lookE E204 56 (es V l56_202))
  clear E204 Y202 hdf202 l5_202 l6_202 l7_202 l8_202 l55_202 l56_202
  refine tk H203 ?_
  refine R_region (by kernel_rfl) ?_
  refine W_allocS (z := .agg #[.int .i64 0, .bool false, .int .u64 0]) (zs := #[.int .i64 0, .bool false, .int .u64 0]) hSa198 V V V (by kernel_rfl) (by rfl) (fun g205 w205 c205 hc205 S205 => ?_)
  replace S205 : St w NoX (c205 :: cI :: fr) w205 := S205
  refine xsA 0 S205 V hc205 V V V (et V) (es V (fg0 F204)) (fun w206 c206 hc206 S206 => ?_)
  replace S206 : St w NoX (c206 :: cI :: fr) w206 := S206
  refine W_end (Qo_normal ?_)
  refine gen_Q (fun A207 E207 => ?_)
  have Y207 := szq E207
  have F207 := fsE E207 (ck F204 V V)
  clear E207 Y204 F204
  refine then_n ?_
  refine hK _ _ _ ⟨g205, Y207, F207.d, ((fg5 F207).trans (fg8 F196).symm), ((fg4 F207).trans (fg7 F196).symm), ((fg3 F207).trans (fg6 F196).symm), ((fg2 F207).trans (fg5 F196).symm), (fg6 F207), (fg0 F207), rfl⟩ ?_
  subst hc206 hcI; exact S206.asg1
 ·rintro lb208 pre x A208 w208 cQ fr hAx hlr S208 hVd
  obtain ⟨g205, Y208, hdf208, u5_208, u6_208, u7_208, u8_208, l13_208, l14_208, rfl⟩ := hAx
  have l5_208 := u5_208.trans (fg8 F196)
  have l6_208 := u6_208.trans (fg7 F196)
  have l7_208 := u7_208.trans (fg6 F196)
  have l8_208 := u8_208.trans (fg5 F196)
  obtain ⟨_, _, ⟨rv, hz, rfl⟩, rfl, S208⟩ := S208.body2
  replace S208 : St w NoX ((io .i64 rv (reJ pre)) :: (bx g4_195 24 #[lv]) :: (bx g3_195 73 #[.pointer (some ⟨gs_9, 0, none⟩)]) :: (bx g7_195 76 #[.func (.func 30) #[.pointer (some ⟨gs_9, 0, none⟩)] #[]]) :: (bx g5_195 85 #[.func (.func 35) #[] #[.pointer (some ⟨g3, 0, none⟩)]]) :: (bx g6 28 #[.int .i64 0]) :: (bx g5 3 #[.int .i64 0]) :: (bx g4 25 #[rv]) :: (bx g3 37 #[av]) :: (bx g205 44 #[.int .i64 (x.2.1.e), .bool (x.2.1.t), .int .u64 (x.2.1.v)]) :: (mT gs_9 75 (lgN C N Z K Q) ((hv_9, H_9), (qv_9, q_9)) (pre ++ [x])) :: fr) w208 := S208
  obtain ⟨c197_209, cb4_209, cb3_209, cb7_209, cb5_209, c150_209, c149_209, c4_209, c3_209, c206_209, ct_209, hc197_209, hcb4_209, hcb3_209, hcb7_209, hcb5_209, hc150_209, hc149_209, hc4_209, hc3_209, hc206_209, hct_209, S208⟩ := gen11 S208
  have S210 : St w NoX (c197_209 :: ct_209 :: cb4_209 :: cb3_209 :: cb7_209 :: cb5_209 :: c150_209 :: c149_209 :: c4_209 :: c3_209 :: c206_209 :: fr) w208 := St.selR (l := [c197_209, cb4_209, cb3_209, cb7_209, cb5_209, c150_209, c149_209, c4_209, c3_209, c206_209, ct_209]) (l' := [c197_209, ct_209, cb4_209, cb3_209, cb7_209, cb5_209, c150_209, c149_209, c4_209, c3_209, c206_209]) (fr := fr) S208 [0, 10, 1, 2, 3, 4, 5, 6, 7, 8, 9] (by decide) (by rfl) V
  obtain ⟨cb211, ck211, hcb211, hck211, S211⟩ := mT_open (hct_209 ▸ S210)
  rw [lastG_app] at hcb211
  replace S211 : St w NoX (c197_209 :: cb211 :: ck211 :: cb4_209 :: cb3_209 :: cb7_209 :: cb5_209 :: c150_209 :: c149_209 :: c4_209 :: c3_209 :: c206_209 :: fr) w208 := S211
  have hpl : pre.length + 1 ≤ os.length := by have := hVd.len; simpa using this
  have hx1 := (Tr.at hVd).2
  have hrj := reJ_len pre
  refine R_block ?_
  refine R_seq (fun K212 H212 => ?_)
  refine R_seq (fun K213 H213 => ?_)
  refine R_monoS (by kernel_rfl) 6 6 [] (by kernel_rfl) (by kernel_rfl) ?_
  refine D_r V V (by kernel_rfl) (fun sx hx hF => (VR_ldC V l5_208 (cell_box (v := av) ((S211.grow hx).obj 10 V hc3_209) V) Try.underlying37 V)) V V ?_
  refine D_v V V (V_mov V (es V l13_208)) V V ?_
  have k214 : pre.length < ans.length := by first | omega | (simp only [List.length_cons, List.length_nil]; omega) | (simp only [List.length_set]; omega) | decide
  obtain ⟨y214, hy214⟩ := get_some (xs := ans) (k := pre.length) k214
  have hvr214 := hvr y214 (List.mem_of_getElem? hy214)
  obtain ⟨B214, O214, C214, hv214⟩ := (SlN.blk (sl_SlN h_av.at) (by first | omega | (simp only [List.length_cons, List.length_nil]; omega) | (simp only [List.length_set]; omega) | decide))
  refine D_v V V (V_ixS (off := O214 + pre.length * 3) 3 (pre.length) V (es V (et V)) (et V) hv214 (by omega) k214 Try.underlying37 (by kernel_rfl) V) V V ?_
  refine D_r V V (by kernel_rfl) (fun sx hx hF => (VR_ldR (ys := anC y214) V (et V) (SlN.row anC_len (sl_SlN ((S211.grow hx).ro h_av)) hv214 hy214 V) Try.underlying44 V (by kernel_rfl))) V V ?_
  refine D_r V V (by kernel_rfl) (fun sx hx hF => (VR_ldA V (es4 V l14_208) ((S211.grow hx).obj 11 V hc206_209) Try.underlying44 V (by kernel_rfl))) V V ?_
  refine D_v V V (V_neStA V (es V (et V)) (et V) (by kernel_rfl)) V V ?_
  refine ZS_none S211 (Nat.le_refl _) (Nat.le_refl _) (fun s215 hJ215 hL215 hF215 => ?_)
  have S215 := hJ215.st; clear hF215 hJ215 hL215
  generalize s215.1 = w215 at *
  replace S215 : St w NoX (c197_209 :: cb211 :: ck211 :: cb4_209 :: cb3_209 :: cb7_209 :: cb5_209 :: c150_209 :: c149_209 :: c4_209 :: c3_209 :: c206_209 :: fr) w215 := S215
  refine gen_Q (fun A216 E216 => ?_)
  have Y216 := szq E216
  have F216 := (((((fsE E216 (ck (cq5 (FS.n hdf208) V) V V)).c (lookE E216 6 (es6 V l6_208))).c (lookE E216 7 (es6 V l7_208))).c (lookE E216 8 (es6 V l8_208))).c (lookE E216 13 (es6 V l13_208))).c (lookE E216 14 (es6 V l14_208))
  clear E216 Y208 hdf208 l5_208 l6_208 l7_208 l8_208 l13_208 l14_208
  refine tk H213 ?_
  refine R_cond_dec (fg5 F216) (fun c217 => ?_) (fun c217 => ?_)
  ·refine R_seq (fun K218 H218 => ?_)
   refine R_region (by kernel_rfl) ?_
   refine W_v V V (V_mov V (fg1 F216)) ?_
   refine xsC (zs' := #[.slice none 0 0]) 9 S215 V hc4_209 V V V (es V (fg4 F216)) V (by rfl) (fun w219 c219 hc219 S219 => ?_)
   replace S219 : St w NoX (c197_209 :: cb211 :: ck211 :: cb4_209 :: cb3_209 :: cb7_209 :: cb5_209 :: c150_209 :: c149_209 :: c219 :: c3_209 :: c206_209 :: fr) w219 := S219
   refine xsC (zs' := #[.int .i64 (x.1)]) 8 S219 V hc149_209 V V V (es V (fg3 F216)) (et V) (by rfl) (fun w220 c220 hc220 S220 => ?_)
   replace S220 : St w NoX (c197_209 :: cb211 :: ck211 :: cb4_209 :: cb3_209 :: cb7_209 :: cb5_209 :: c150_209 :: c220 :: c219 :: c3_209 :: c206_209 :: fr) w220 := S220
   refine xsC (zs' := #[.int .i64 4]) 7 S220 V hc150_209 V V V (es V (fg2 F216)) V (by rfl) (fun w221 c221 hc221 S221 => ?_)
   replace S221 : St w NoX (c197_209 :: cb211 :: ck211 :: cb4_209 :: cb3_209 :: cb7_209 :: cb5_209 :: c221 :: c220 :: c219 :: c3_209 :: c206_209 :: fr) w221 := S221
   refine W_end (Qo_normal ?_)
   refine gen_Q (fun A222 E222 => ?_)
   have Y222 := szq E222
   have F222 := fsE E222 (cq1 F216 V)
   clear E222 Y216 F216
   have S224 := S221.del 11
   replace S224 : St w NoX (c197_209 :: cb211 :: ck211 :: cb4_209 :: cb3_209 :: cb7_209 :: cb5_209 :: c221 :: c220 :: c219 :: c3_209 :: fr) w221 := S224
   refine tk H218 ?_
   refine R_ret ?_
   refine then_ret (inb_ret ?_)
   obtain ⟨ct225, hct225, S225⟩ := genS (mT_shut (gs := gs_9) (T := 75) (n := (lgN C N Z K Q)) (G0 := ((hv_9, H_9), (qv_9, q_9))) (pre := (pre ++ [x])) (hcb211.trans (by rw [lastG_app])) hck211 S224)
   replace S225 : St w NoX (c197_209 :: ct225 :: cb4_209 :: cb3_209 :: cb7_209 :: cb5_209 :: c221 :: c220 :: c219 :: c3_209 :: fr) w221 := S225
   have S226 : St w NoX (c197_209 :: cb4_209 :: cb3_209 :: cb7_209 :: cb5_209 :: c221 :: c220 :: c219 :: c3_209 :: ct225 :: fr) w221 := St.selR (l := [c197_209, ct225, cb4_209, cb3_209, cb7_209, cb5_209, c221, c220, c219, c3_209]) (l' := [c197_209, cb4_209, cb3_209, cb7_209, cb5_209, c221, c220, c219, c3_209, ct225]) (fr := fr) S225 [0, 2, 3, 4, 5, 6, 7, 8, 9, 1] (by decide) (by rfl) V
   exact (St.pack (l := [io .i64 rv (reJ pre), bx g4_195 24 #[lv], bx g3_195 73 #[.pointer (some ⟨gs_9, 0, none⟩)], bx g7_195 76 #[.func (.func 30) #[.pointer (some ⟨gs_9, 0, none⟩)] #[]], bx g5_195 85 #[.func (.func 35) #[] #[.pointer (some ⟨g3, 0, none⟩)]], bx g6 28 #[.int .i64 (4)], bx g5 3 #[.int .i64 (x.1)], bx g4 25 #[.slice none 0 0], bx g3 37 #[av]]) (fr := (mT gs_9 75 (lgN C N Z K Q) ((hv_9, H_9), (qv_9, q_9)) (pre ++ [x]) :: fr)) (by have q0 : c197_209 = io .i64 rv (reJ pre) := hc197_209; have q1 : cb4_209 = bx g4_195 24 #[lv] := hcb4_209; have q2 : cb3_209 = bx g3_195 73 #[.pointer (some ⟨gs_9, 0, none⟩)] := hcb3_209; have q3 : cb7_209 = bx g7_195 76 #[.func (.func 30) #[.pointer (some ⟨gs_9, 0, none⟩)] #[]] := hcb7_209; have q4 : cb5_209 = bx g5_195 85 #[.func (.func 35) #[] #[.pointer (some ⟨g3, 0, none⟩)]] := hcb5_209; have q5 : c221 = bx g6 28 #[.int .i64 (4)] := hc221; have q6 : c220 = bx g5 3 #[.int .i64 (x.1)] := hc220; have q7 : c219 = bx g4 25 #[.slice none 0 0] := hc219; have q8 : c3_209 = bx g3 37 #[av] := hc3_209; have q9 := hct225; subst q0 q1 q2 q3 q4 q5 q6 q7 q8 q9; exact S226) (⟨rfl, rv, (reJ pre), x.1, 4, (jd_bad hgK hVd hz hy214 (fun q => c217 (anIff.1 q))), (by decide), rfl⟩))
  refine R_skip (tk H212 ?_)
  refine R_seq (fun K227 H227 => ?_)
  refine R_region (by kernel_rfl) ?_
  refine W_v V V (V_fa (off' := 0) V (fg0 F216) Try.underlying44 V (by decide +kernel) V) ?_
  refine W_r V V (xlC (v := .int .i64 (x.2.1.e)) V (et V) (S215.obj 11 V hc206_209) Try.underlying28) ?_
  refine W_v V V (V_eql V (et V) V) ?_
  refine W_end (Qo_normal ?_)
  refine gen_Q (fun A228 E228 => ?_)
  have Y228 := szq E228
  have F228 := fsE E228 (ck (cq2 F216 V) V V)
  clear E228 Y216 F216
  have S230 := S215.del 11
  replace S230 : St w NoX (c197_209 :: cb211 :: ck211 :: cb4_209 :: cb3_209 :: cb7_209 :: cb5_209 :: c150_209 :: c149_209 :: c4_209 :: c3_209 :: fr) w215 := S230
  refine tk H227 ?_
  refine R_cond_dec (fg0 F228) (fun c231 => ?_) (fun c231 => ?_)
  ·refine R_region (by kernel_rfl) ?_
   refine W_r V V (xlC (v := rv) V (fg5 F228) (S230.obj 9 V hc4_209) Try.underlying25) ?_
   refine W_v V V (V_mov V (es V (fg2 F228))) ?_
   have hll232 : [x.1].length = 1 := rfl
   refine xsL (vs := [.int .i64 (x.1)]) (xs := ([x.1].map (Value.int .i64))) 1 S230 V V V (parts1 (et V)) Try.underlying25 (fun g232 w232 c232 hc232 S232 => ?_)
   replace hc232 : c232 = io .i64 (.slice (some ⟨g232, 0, none⟩) 1 1) [x.1] := hc232
   replace S232 : St w NoX (c232 :: c197_209 :: cb211 :: ck211 :: cb4_209 :: cb3_209 :: cb7_209 :: cb5_209 :: c150_209 :: c149_209 :: c4_209 :: c3_209 :: fr) w232 := S232
   refine W_appS 1 1 S232 V hc197_209 V V V (es2 V (et V)) (et V) Try.underlying25 Try.underlying25 (z := .int .i64 0) (bytes := 8) (by kernel_rfl) V (by decide) (ow_at (S232.chq 0 V hc232)) ones_i (by first | omega | (simp; done) | (simp; omega)) (by first | omega | (simp; done) | (simp; omega)) (fun v233 w233 c233 hc233 S233 => ?_)
   replace hc233 : c233 = io .i64 v233 ((reJ pre) ++ [x.1]) := hc233.trans (app_eq (by first | (simp; done) | (rw [List.take_of_length_le (l := List.drop _ _) (by rw [List.length_drop]; exact Nat.le_refl _)])))
   replace S233 : St w NoX (c232 :: c233 :: cb211 :: ck211 :: cb4_209 :: cb3_209 :: cb7_209 :: cb5_209 :: c150_209 :: c149_209 :: c4_209 :: c3_209 :: fr) w233 := S233
   refine xsC (zs' := #[v233]) 10 S233 V hc4_209 V V V (es4 V (fg5 F228)) (et V) (SlN_one (ow_at (S233.chq 1 V hc233))) (fun w234 c234 hc234 S234 => ?_)
   replace S234 : St w NoX (c232 :: c233 :: cb211 :: ck211 :: cb4_209 :: cb3_209 :: cb7_209 :: cb5_209 :: c150_209 :: c149_209 :: c234 :: c3_209 :: fr) w234 := S234
   refine W_end (Qo_normal ?_)
   refine gen_Q (fun A235 E235 => ?_)
   have Y235 := szq E235
   have F235 := fsE E235 (cq4 F228 V)
   clear E235 Y228 F228
   have S237 := S234.del 0
   replace S237 : St w NoX (c233 :: cb211 :: ck211 :: cb4_209 :: cb3_209 :: cb7_209 :: cb5_209 :: c150_209 :: c149_209 :: c234 :: c3_209 :: fr) w234 := S237
   refine inb_n ?_
   obtain ⟨ct238, hct238, S238⟩ := genS (mT_shut (gs := gs_9) (T := 75) (n := (lgN C N Z K Q)) (G0 := ((hv_9, H_9), (qv_9, q_9))) (pre := (pre ++ [x])) (hcb211.trans (by rw [lastG_app])) hck211 S237)
   replace S238 : St w NoX (c233 :: ct238 :: cb4_209 :: cb3_209 :: cb7_209 :: cb5_209 :: c150_209 :: c149_209 :: c234 :: c3_209 :: fr) w234 := S238
   have S239 : St w NoX (c233 :: cb4_209 :: cb3_209 :: cb7_209 :: cb5_209 :: c150_209 :: c149_209 :: c234 :: c3_209 :: ct238 :: fr) w234 := St.selR (l := [c233, ct238, cb4_209, cb3_209, cb7_209, cb5_209, c150_209, c149_209, c234, c3_209]) (l' := [c233, cb4_209, cb3_209, cb7_209, cb5_209, c150_209, c149_209, c234, c3_209, ct238]) (fr := fr) S238 [0, 2, 3, 4, 5, 6, 7, 8, 9, 1] (by decide) (by rfl) V
   exact (St.pack (l := [io .i64 v233 (reJ (pre ++ [x])), bx g4_195 24 #[lv], bx g3_195 73 #[.pointer (some ⟨gs_9, 0, none⟩)], bx g7_195 76 #[.func (.func 30) #[.pointer (some ⟨gs_9, 0, none⟩)] #[]], bx g5_195 85 #[.func (.func 35) #[] #[.pointer (some ⟨g3, 0, none⟩)]], bx g6 28 #[.int .i64 0], bx g5 3 #[.int .i64 0], bx g4 25 #[v233], bx g3 37 #[av]]) (fr := (mT gs_9 75 (lgN C N Z K Q) ((hv_9, H_9), (qv_9, q_9)) (pre ++ [x]) :: fr)) (by have q0 : c233 = io .i64 v233 (reJ (pre ++ [x])) := hc233.trans ((congrArg (io .i64 _) (reJ_5 c231).symm)); have q1 : cb4_209 = bx g4_195 24 #[lv] := hcb4_209; have q2 : cb3_209 = bx g3_195 73 #[.pointer (some ⟨gs_9, 0, none⟩)] := hcb3_209; have q3 : cb7_209 = bx g7_195 76 #[.func (.func 30) #[.pointer (some ⟨gs_9, 0, none⟩)] #[]] := hcb7_209; have q4 : cb5_209 = bx g5_195 85 #[.func (.func 35) #[] #[.pointer (some ⟨g3, 0, none⟩)]] := hcb5_209; have q5 : c150_209 = bx g6 28 #[.int .i64 0] := hc150_209; have q6 : c149_209 = bx g5 3 #[.int .i64 0] := hc149_209; have q7 : c234 = bx g4 25 #[v233] := hc234; have q8 : c3_209 = bx g3 37 #[av] := hc3_209; have q9 := hct238; subst q0 q1 q2 q3 q4 q5 q6 q7 q8 q9; exact S239) (⟨v233, (jd_nx hgK hVd hz hy214 (anIff.2 (by simpa using c217))), rfl⟩))
  refine R_skip (inb_n ?_)
  obtain ⟨ct240, hct240, S240⟩ := genS (mT_shut (gs := gs_9) (T := 75) (n := (lgN C N Z K Q)) (G0 := ((hv_9, H_9), (qv_9, q_9))) (pre := (pre ++ [x])) (hcb211.trans (by rw [lastG_app])) hck211 S230)
  replace S240 : St w NoX (c197_209 :: ct240 :: cb4_209 :: cb3_209 :: cb7_209 :: cb5_209 :: c150_209 :: c149_209 :: c4_209 :: c3_209 :: fr) w215 := S240
  have S241 : St w NoX (c197_209 :: cb4_209 :: cb3_209 :: cb7_209 :: cb5_209 :: c150_209 :: c149_209 :: c4_209 :: c3_209 :: ct240 :: fr) w215 := St.selR (l := [c197_209, ct240, cb4_209, cb3_209, cb7_209, cb5_209, c150_209, c149_209, c4_209, c3_209]) (l' := [c197_209, cb4_209, cb3_209, cb7_209, cb5_209, c150_209, c149_209, c4_209, c3_209, ct240]) (fr := fr) S240 [0, 2, 3, 4, 5, 6, 7, 8, 9, 1] (by decide) (by rfl) V
  exact (St.pack (l := [io .i64 rv (reJ (pre ++ [x])), bx g4_195 24 #[lv], bx g3_195 73 #[.pointer (some ⟨gs_9, 0, none⟩)], bx g7_195 76 #[.func (.func 30) #[.pointer (some ⟨gs_9, 0, none⟩)] #[]], bx g5_195 85 #[.func (.func 35) #[] #[.pointer (some ⟨g3, 0, none⟩)]], bx g6 28 #[.int .i64 0], bx g5 3 #[.int .i64 0], bx g4 25 #[rv], bx g3 37 #[av]]) (fr := (mT gs_9 75 (lgN C N Z K Q) ((hv_9, H_9), (qv_9, q_9)) (pre ++ [x]) :: fr)) (by have q0 : c197_209 = io .i64 rv (reJ (pre ++ [x])) := hc197_209.trans ((congrArg (io .i64 _) (reJ_0 c231).symm)); have q1 : cb4_209 = bx g4_195 24 #[lv] := hcb4_209; have q2 : cb3_209 = bx g3_195 73 #[.pointer (some ⟨gs_9, 0, none⟩)] := hcb3_209; have q3 : cb7_209 = bx g7_195 76 #[.func (.func 30) #[.pointer (some ⟨gs_9, 0, none⟩)] #[]] := hcb7_209; have q4 : cb5_209 = bx g5_195 85 #[.func (.func 35) #[] #[.pointer (some ⟨g3, 0, none⟩)]] := hcb5_209; have q5 : c150_209 = bx g6 28 #[.int .i64 0] := hc150_209; have q6 : c149_209 = bx g5 3 #[.int .i64 0] := hc149_209; have q7 : c4_209 = bx g4 25 #[rv] := hc4_209; have q8 : c3_209 = bx g3 37 #[av] := hc3_209; have q9 := hct240; subst q0 q1 q2 q3 q4 q5 q6 q7 q8 q9; exact S241) (⟨rv, (jd_nx hgK hVd hz hy214 (anIff.2 (by simpa using c217))), rfl⟩))
 ·intro D242 xs242 w242 hxs242 S242
  obtain ⟨_, ⟨rv, hz, rfl⟩, S242⟩ := S242.unpack
  replace S242 : St w NoX ((io .i64 rv (reJ xs242)) :: (bx g4_195 24 #[lv]) :: (bx g3_195 73 #[.pointer (some ⟨gs_9, 0, none⟩)]) :: (bx g7_195 76 #[.func (.func 30) #[.pointer (some ⟨gs_9, 0, none⟩)] #[]]) :: (bx g5_195 85 #[.func (.func 35) #[] #[.pointer (some ⟨g3, 0, none⟩)]]) :: (bx g6 28 #[.int .i64 0]) :: (bx g5 3 #[.int .i64 0]) :: (bx g4 25 #[rv]) :: (bx g3 37 #[av]) :: (ob D242 (.deferred (some []))) :: (mT gs_9 75 (lgN C N Z K Q) ((hv_9, H_9), (qv_9, q_9)) xs242) :: []) w242 := S242
  obtain ⟨c197_242, cb4_242, cb3_242, cb7_242, cb5_242, c150_242, c149_242, c4_242, c3_242, cD242, ct_242, hc197_242, hcb4_242, hcb3_242, hcb7_242, hcb5_242, hc150_242, hc149_242, hc4_242, hc3_242, hcD242, hct_242, S242⟩ := gen11 S242
  have S243 := S242.sel [0, 10, 1, 2, 3, 4, 5, 6, 7, 8, 9] (by decide) (l' := [c197_242, ct_242, cb4_242, cb3_242, cb7_242, cb5_242, c150_242, c149_242, c4_242, c3_242, cD242]) V
  replace S243 : St w NoX [c197_242, ct_242, cb4_242, cb3_242, cb7_242, cb5_242, c150_242, c149_242, c4_242, c3_242, cD242] w242 := S243
  obtain ⟨cb244, ck244, hcb244, hck244, S244⟩ := mT_open (hct_242 ▸ S243)
  replace S244 : St w NoX [c197_242, cb244, ck244, cb4_242, cb3_242, cb7_242, cb5_242, c150_242, c149_242, c4_242, c3_242, cD242] w242 := S244
  refine gen_Q (fun A242 E242 => ?_)
  have Y242 := szq E242
  have hdf242 : A242.defers = [{ target := .collected D242, args := #[] }] := by rw [E242, df_mk, F196.d] <;> rfl
  have l6_242 := lookE E242 6 (mk_l (fg7 F196))
  have l7_242 := lookE E242 7 (mk_l (fg6 F196))
  have l8_242 := lookE E242 8 (mk_l (fg5 F196))
  clear E242
  refine inb_n (tk H193 ?_)
  refine R_seq (fun K245 H245 => ?_)
  refine R_region (by kernel_rfl) ?_
  refine W_r V V (xlC (v := rv) V l6_242 (S244.obj 9 V hc4_242) Try.underlying25) ?_
  refine xsC (zs' := #[rv]) 9 S244 V hc4_242 V V V (es V l6_242) (et V) (SlN_one (ow_at (S244.chq 0 V hc197_242))) (fun w246 c246 hc246 S246 => ?_)
  replace S246 : St w NoX [c197_242, cb244, ck244, cb4_242, cb3_242, cb7_242, cb5_242, c150_242, c149_242, c246, c3_242, cD242] w246 := S246
  refine xsC (zs' := #[.int .i64 0]) 8 S246 V hc149_242 V V V (es V l7_242) V (by rfl) (fun w247 c247 hc247 S247 => ?_)
  replace S247 : St w NoX [c197_242, cb244, ck244, cb4_242, cb3_242, cb7_242, cb5_242, c150_242, c247, c246, c3_242, cD242] w247 := S247
  refine xsC (zs' := #[.int .i64 0]) 7 S247 V hc150_242 V V V (es V l8_242) V (by rfl) (fun w248 c248 hc248 S248 => ?_)
  replace S248 : St w NoX [c197_242, cb244, ck244, cb4_242, cb3_242, cb7_242, cb5_242, c248, c247, c246, c3_242, cD242] w248 := S248
  refine W_end (Qo_normal ?_)
  refine gen_Q (fun A249 E249 => ?_)
  have Y249 := szq E249
  have F249 := (((fsE E249 (cq1 (FS.n hdf242) V)).c (lookE E249 6 (es V l6_242))).c (lookE E249 7 (es V l7_242))).c (lookE E249 8 (es V l8_242))
  clear E249 Y242 hdf242 l6_242 l7_242 l8_242
  have S250 : St w NoX [c197_242, cb244, ck244, c248, c247, c246, c3_242, cD242] w248 := S248.sel [0, 1, 2, 7, 8, 9, 10, 11] (by decide) V
  refine tk H245 ?_
  refine R_ret ?_
  have hD251 := S250.obj 7 V hcD242
  have S251 := S250.put (o' := .deferred none) 7 V hcD242
  obtain ⟨w251, hw251⟩ : ∃ w', w' = w248.putObj D242 (.deferred none) := ⟨_, rfl⟩
  rw [← hw251] at S251
  replace S251 : St w NoX [c197_242, cb244, ck244, c248, c247, c246, c3_242, (ob D242 (.deferred none))] w251 := S251
  refine ret_inR1' (D := D242) (w1 := w251) hw251 (results_3 Try.results19 (rv_cellC (fg2 F249) (cell_box (S251.obj 5 V hc246) V) Try.underlying25 V) (rv_cellC (fg1 F249) (cell_box (S251.obj 4 V hc247) V) Try.underlying3 V) (rv_cellC (fg0 F249) (cell_box (S251.obj 3 V hc248) V) Try.underlying28 V)) F249.d hD251 ?_
  have hd := jd_done hgK hxs242.1 hxs242.2 hsz (by omega) hjA hz
  exact .inr ⟨_, rfl, hd.1, (S251.fin1 0 V (hc197_242.trans (congrArg (io .i64 _) hd.2)))⟩
 intro D252 cQ pre w252 hpre S252
 obtain ⟨_, hx, S252⟩ := S252.unpack
 rcases hx with ⟨rfl, rv, rL, a, er, hx, hne, rfl⟩
 replace S252 : St w NoX ((io .i64 rv rL) :: (bx g4_195 24 #[lv]) :: (bx g3_195 73 #[.pointer (some ⟨gs_9, 0, none⟩)]) :: (bx g7_195 76 #[.func (.func 30) #[.pointer (some ⟨gs_9, 0, none⟩)] #[]]) :: (bx g5_195 85 #[.func (.func 35) #[] #[.pointer (some ⟨g3, 0, none⟩)]]) :: (bx g6 28 #[.int .i64 (er)]) :: (bx g5 3 #[.int .i64 (a)]) :: (bx g4 25 #[.slice none 0 0]) :: (bx g3 37 #[av]) :: (ob D252 (.deferred (some []))) :: (mT gs_9 75 (lgN C N Z K Q) ((hv_9, H_9), (qv_9, q_9)) pre) :: []) w252 := S252
 obtain ⟨c197_252, cb4_252, cb3_252, cb7_252, cb5_252, c150_252, c149_252, c4_252, c3_252, cD252, ct_252, hc197_252, hcb4_252, hcb3_252, hcb7_252, hcb5_252, hc150_252, hc149_252, hc4_252, hc3_252, hcD252, hct_252, S252⟩ := gen11 S252
 have S253 := S252.sel [0, 10, 1, 2, 3, 4, 5, 6, 7, 8, 9] (by decide) (l' := [c197_252, ct_252, cb4_252, cb3_252, cb7_252, cb5_252, c150_252, c149_252, c4_252, c3_252, cD252]) V
 replace S253 : St w NoX [c197_252, ct_252, cb4_252, cb3_252, cb7_252, cb5_252, c150_252, c149_252, c4_252, c3_252, cD252] w252 := S253
 obtain ⟨cb254, ck254, hcb254, hck254, S254⟩ := mT_open (hct_252 ▸ S253)
 replace S254 : St w NoX [c197_252, cb254, ck254, cb4_252, cb3_252, cb7_252, cb5_252, c150_252, c149_252, c4_252, c3_252, cD252] w252 := S254
 refine gen_w (fun A252 E252 => ?_)
 have Y252 := szq E252
 have hdf252 : A252.defers = [{ target := .collected D252, args := #[] }] := by rw [E252, df_mk, F196.d] <;> rfl
 have l6_252 := lookE E252 6 (mk_l (fg7 F196))
 have l7_252 := lookE E252 7 (mk_l (fg6 F196))
 have l8_252 := lookE E252 8 (mk_l (fg5 F196))
 clear E252
 refine R_ret ?_
 refine inb_ret (then_ret ?_)
 have hD255 := S254.obj 11 V hcD252
 have S255 := S254.put (o' := .deferred none) 11 V hcD252
 obtain ⟨w255, hw255⟩ : ∃ w', w' = w252.putObj D252 (.deferred none) := ⟨_, rfl⟩
 rw [← hw255] at S255
 replace S255 : St w NoX [c197_252, cb254, ck254, cb4_252, cb3_252, cb7_252, cb5_252, c150_252, c149_252, c4_252, c3_252, (ob D252 (.deferred none))] w255 := S255
 refine ret_inR1' (D := D252) (w1 := w255) hw255 (results_3 Try.results19 (rv_cellC l6_252 (cell_box (S255.obj 9 V hc4_252) V) Try.underlying25 V) (rv_cellC l7_252 (cell_box (S255.obj 8 V hc149_252) V) Try.underlying3 V) (rv_cellC l8_252 (cell_box (S255.obj 7 V hc150_252) V) Try.underlying28 V)) hdf252 hD255 ?_
 have h : (jdF (cfE C N Z K Q) (lgN C N Z K Q) K os ans) = (a, er) := (jd_fb hsz (by omega) hjA).trans hx
 rw [h]
 exact .inl ⟨rfl, hne, S255.fin0⟩

set_option maxHeartbeats 4000000 in
theorem kjd_u {C : Int} {N : Int} {Z : Int} {K : Int} {Q : Int} {lv : Value} {os : List OpC} {av : Value} {ans : List AnC} {w : World} (h_lv : Ro w NoX (rl 7 opC lv os)) (h_av : Ro w NoX (rl 3 anC av ans)) (hvr : ∀ x ∈ ans, 0 ≤ x.v ∧ x.v ≤ 18446744073709551615) :
  Calls Try.prog 19 #[.agg #[.int .i64 C, .int .i64 N, .int .i64 Z, .int .i64 K, .int .i64 Q], lv, av] w fun e w' => ∃ rw, e = .returned (.tuple #[rw, .int .i64 (jdF (cfE C N Z K Q) (lgN C N Z K Q) K os ans).1, .int .i64 (jdF (cfE C N Z K Q) (lgN C N Z K Q) K os ans).2]) ∧ St w NoX [io .i64 rw (jdL (cfE C N Z K Q) (lgN C N Z K Q) K os ans)] w' := by
 refine (kjd_c h_lv h_av hvr).mono ?_
 rintro e w' (⟨rfl, hz, h⟩ | ⟨rw, rfl, hz, h⟩)
 ·obtain ⟨c, hc, h2⟩ := h.pnil (s := 1)
  have e : (jdL (cfE C N Z K Q) (lgN C N Z K Q) K os ans) = [] := by unfold jdL; rw [if_pos hz]
  refine ⟨_, rfl, ?_⟩
  rw [e]; subst hc; exact h2
 exact ⟨rw, by rw [hz], h⟩

end Go.Proofs.Ytpgkfndbfocibaa
namespace Go.Proofs.Ytpgkfndbfocibaa
open Go.RowKit Go.Own Go.Own.R Go.Own.G Go.Own.Gr Go.Own.Ml


end Go.Proofs.Ytpgkfndbfocibaa