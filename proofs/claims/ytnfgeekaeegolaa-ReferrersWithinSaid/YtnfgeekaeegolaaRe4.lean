import Derived.Test.YtnfgeekaeegolaaSepY
import Derived.Lib.AppendZerosOnto
import Derived.Test.YtnfgeekaeegolaaProg
import Derived.Test.YtnfgeekaeegolaaRe2
import Derived.Test.YtnfgeekaeegolaaPl9h
/-! append of n zeros to nil: what slices.Grow does -/
namespace Go.Own
open Go Go.RowKit
section
variable {P : Program} {ops : Array Oper} {l : List Oper} {o : Oper} {A : Act} {Q : Exit → Act → World → Prop} {w w0 : World} {X : Nat → Prop} {cs : List HP} {d : Tmp} {x y : Operand}
theorem W_growZ {t tn e : TypeId} {i : TypeInfo} {z : Value} {kn : IntKind} {zs : List Value} (n : Nat) (hS : St w0 X cs w) (hd : o.dst = some d) (hw : Region.wanted o (yielded ops A.tmps) = true)
    (ho : o.op = .call { callee := .builtin .append, args := #[x, y], argTypes := #[t, tn] }) (hx : EV A x = .slice none 0 0) (hy : EV A y = .int .i64 (n : Int)) (ht : P.underlying t = some (.slice e)) (htn : P.underlying tn = some (.int kn))
    (hi : P.info? e = some i) (hz : i.zero = some z) (hzc : z.cells = zs.toArray) (hsz : zs.length = i.size) (hs0 : 0 < i.size) (hb : i.bytes ≤ 64) (h0 : 0 < n) (hn : n ≤ 10000)
    (h : ∀ v w' c, c = ow i.size n v (List.replicate n zs).flatten → St w0 X (c :: cs) w' → WX P ops Q l (PT A d v) w') : WX P ops Q (o :: l) A w := by
  obtain ⟨G, hG⟩ : ∃ G, G = grownCap w (0 + n) 0 e := ⟨_, rfl⟩
  have hnb : n * i.bytes ≤ n * 64 := Nat.mul_le_mul_left _ hb
  have hrun := Lib.run_append_grow_zeros (P := P) w t tn o.type e i z .i64 kn ht htn hi hz none 0 0 [] (run_firstCells_none w.drew i.size 0 0 0) n h0 hs0 (by omega) (by omega) (by omega)
    (growslice_fits (by omega) (by rw [Nat.zero_add]; omega))
  have hge := grownCap_ge w (0 + n) 0 e
  have hcm := grownCap_le_maxLen w (0 + n) 0 e (by unfold maxLen; omega)
  rw [← hG] at hrun hge hcm
  rw [Nat.zero_add] at hrun
  have hz2 : (Builtin.zeroCells z.cells n).toList = (List.replicate n zs).flatten := by rw [hzc]; exact zeroCells_rep (by omega) n
  have hfl : ((List.replicate n zs).flatten).length = n * i.size := by rw [List.length_flatten, List.map_replicate, List.sum_replicate_nat, hsz]
  refine W_val (w' := _) hd hw ?_ (h (.slice (some ⟨w.heap.size, 0, none⟩) n G) _ _ rfl (hS.push (w' := w.drew.alloc (.cells (([] : List Value).toArray ++ Builtin.zeroCells z.cells n ++ Builtin.zeroCells z.cells (G - n)) e)) ⟨rfl, rfl, rfl, by simp, fun k hk => (Ext.alloc w.drew _).block k hk⟩ (f := fun q => q = w.heap.size)
    (ow_made (f := fun q => q = w.heap.size) (n := w.heap.size) (heap_alloc_new w.drew _) rfl (by omega) hcm ?_ hfl ?_) fun b hb => ?_))
  · unfold execOp
    simp only [ho, resolve, invoke, builtin, Sem.run_bind, Sem.run_pure, Result.andThen_ok, List.map_toArray, List.map_cons, List.map_nil, hx, hy, hrun]
  · simp only [Array.size_append, size_zeroCells, hzc, List.size_toArray, List.length_nil, hsz, Nat.zero_add, ← Nat.add_mul]
    rw [show n + (G - n) = G by omega]; exact Nat.le_refl _
  · intro j u hj
    have hlt := (List.getElem?_eq_some_iff.1 hj).1
    rw [Array.getElem?_append_left (by simp [size_zeroCells, hzc, hsz]; rw [hfl] at hlt; exact hlt)]
    rw [← Array.getElem?_toList, Array.toList_append, hz2]; simpa using hj
  · subst hb; exact ⟨Nat.le_refl _, by simp⟩
theorem W_growR {t tn e : TypeId} {z : Value} {kn : IntKind} {zs : List Value} {s bytes : Nat} {q : Int} (n : Nat) (hS : St w0 X cs w) (hd : o.dst = some d) (hw : Region.wanted o (yielded ops A.tmps) = true)
    (ho : o.op = .call { callee := .builtin .append, args := #[x, y], argTypes := #[t, tn] }) (hx : EV A x = .slice none 0 0) (hy : EV A y = .int .i64 q) (hq : q = (n : Int)) (ht : P.underlying t = some (.slice e)) (htn : P.underlying tn = some (.int kn))
    (hi : (P.info? e).map (fun i => (i.zero, i.size, i.bytes)) = some (some z, s, bytes)) (hzc : z.cells = zs.toArray) (hsz : zs.length = s) (hs0 : 0 < s) (hb : bytes ≤ 64) (h0 : 0 < n) (hn : n ≤ 10000)
    (h : ∀ v w' c, c = ow s n v (List.replicate n zs).flatten → St w0 X (c :: cs) w' → WX P ops Q l (PT A d v) w') : WX P ops Q (o :: l) A w := by
  cases hf : P.info? e with
  | none => rw [hf] at hi; cases hi
  | some i =>
    rw [hf] at hi
    simp only [Option.map_some, Option.some.injEq, Prod.mk.injEq] at hi
    obtain ⟨h1, h2, h3⟩ := hi
    subst h2 h3
    exact W_growZ n hS hd hw ho hx (hq ▸ hy) ht htn hf h1 hzc hsz hs0 hb h0 hn h
theorem V_capNil {t e : TypeId} (ho : o.op = .call { callee := .builtin .cap, args := #[x], argTypes := #[t] }) (hx : EV A x = .slice none 0 0) (ht : P.underlying t = some (.slice e)) : Val P A o (.int .i64 0) := fun w => by
  unfold execOp; simp [ho, hx, resolve, invoke, builtin, Builtin.cap_, goInt, run_underlying ht]
end
theorem ro_rep {α : Type} {fn : α → List Value} {s n : Nat} {v : Value} {z : α} (hs : ∀ a, (fn a).length = s) : ow s n v (List.replicate n (fn z)).flatten = ro s fn v (List.replicate n z) := by
  unfold ro
  rw [List.length_replicate, List.flatMap_def, List.map_replicate]
end Go.Own

namespace Go.Proofs.Ytnfgeekaeegolaa
open Go.RowKit Go.Own Go.Own.R Go.Own.S Go.Own.F Go.Own.G


end Go.Proofs.Ytnfgeekaeegolaa
namespace Go.Proofs.Ytnfgeekaeegolaa
open Go.RowKit Go.Own Go.Own.R Go.Own.S Go.Own.F Go.Own.G


set_option maxHeartbeats 4000000 in
theorem kgr_c {n : Int} {w : World}  (hn : 0 ≤ n ∧ n ≤ 10000) :
    Calls Try.prog 63 #[.slice none 0 0, .int .i64 n] w fun e w' => ∃ v, e = .returned (v) ∧ St w NoX [ro 2 rcC (v) ([] : List (Int × Int))] w' := by
  refine calls_in 27 Try.func63 rfl rfl (by simp) (fun A0 hsz0 hdf0 hargs => ?_)
  have l0_0 := hargs 0 (.slice none 0 0) rfl
  have l1_0 := hargs 1 (.int .i64 n) rfl
  clear hargs; replace hsz0 : SzN A0 27 := ⟨hsz0⟩
  have hS := St.nil w
  refine wp_seq_k (fun K1 hK1 => ?_)
  refine region_in ?_
  refine W_v rfl rfl (V_asg rfl rfl) ?_
  refine W_end ?_
  refine gen_Q (fun A2 hA2 => ?_)
  have hsz2 := szq hA2
  have hdf2 : A2.defers = [] := by rw [hA2]; simp only [df_put]; exact hdf0
  have l0_2 := lookE hA2 0 (es rfl l0_0)
  have l1_2 := lookE hA2 1 (es rfl l1_0)
  clear hA2 hsz0 hdf0 l0_0 l1_0
  refine then_n (hK1 _ _ ?_)
  clear hK1
  refine wp_seq_k (fun K3 hK3 => ?_)
  refine wp_seq_k (fun K4 hK4 => ?_)
  refine region_in ?_
  refine W_v rfl rfl (V_mov rfl l1_2) ?_
  refine W_v rfl rfl (V_lss rfl (et rfl) rfl) ?_
  refine W_end ?_
  refine gen_Q (fun A5 hA5 => ?_)
  have hsz5 := szq hA5
  have hdf5 : A5.defers = [] := by rw [hA5]; simp only [df_put]; exact hdf2
  have l0_5 := lookE hA5 0 (es rfl (es rfl l0_2))
  have l1_5 := lookE hA5 1 (es rfl (es rfl l1_2))
  have l6_5 := lookE hA5 6 (et rfl)
  clear hA5 hsz2 hdf2 l0_2 l1_2
  refine then_n (hK4 _ _ ?_)
  clear hK4
  refine cond_not l6_5 (by rw [decide_eq_false_iff_not]; omega) ?_
  refine wp_skip ?_
  refine then_n (hK3 _ _ ?_)
  clear hK3
  refine wp_seq_k (fun K6 hK6 => ?_)
  refine wp_seq_k (fun K7 hK7 => ?_)
  refine region_in ?_
  refine W_v rfl rfl (V_mov rfl l1_5) ?_
  refine W_v rfl rfl (V_mov rfl (es rfl l0_5)) ?_
  refine W_v rfl rfl (V_capNil rfl (et rfl) Try.underlying28) ?_
  refine W_v rfl rfl (V_mov rfl (e2 rfl (es rfl l0_5))) ?_
  refine W_v rfl rfl (V_len rfl (et rfl) rfl Try.underlying28) ?_
  refine W_v rfl rfl (V_sb rfl (e2 rfl (et rfl)) (et rfl) (by omega) (by omega)) ?_
  refine W_v rfl rfl (V_sb rfl (e5 rfl (et rfl)) (et rfl) (by omega) (by omega)) ?_
  refine W_v rfl rfl (V_asg rfl (et rfl)) ?_
  refine W_end ?_
  refine gen_Q (fun A8 hA8 => ?_)
  have hsz8 := szq hA8
  have hdf8 : A8.defers = [] := by rw [hA8]; simp only [df_put]; exact hdf5
  have l0_8 := lookE hA8 0 (e7 rfl (es rfl l0_5))
  have l1_8 := lookE hA8 1 (et rfl)
  clear hA8 hsz5 hdf5 l0_5 l1_5 l6_5
  refine then_n (hK7 _ _ ?_)
  clear hK7
  refine wp_seq_k (fun K9 hK9 => ?_)
  refine region_in ?_
  refine W_v rfl rfl (V_mov rfl l1_8) ?_
  refine W_v rfl rfl (V_gtr rfl (et rfl) rfl) ?_
  refine W_end ?_
  refine gen_Q (fun A10 hA10 => ?_)
  have hsz10 := szq hA10
  have hdf10 : A10.defers = [] := by rw [hA10]; simp only [df_put]; exact hdf8
  have l0_10 := lookE hA10 0 (es rfl (es rfl l0_8))
  have l1_10 := lookE hA10 1 (es rfl (es rfl l1_8))
  have l16_10 := lookE hA10 16 (et rfl)
  clear hA10 hsz8 hdf8 l0_8 l1_8
  refine then_n (hK9 _ _ ?_)
  clear hK9
  refine cond_dec l16_10 (fun c11 => ?_) (fun c11 => ?_)
  · skip
    refine region_in ?_
    refine W_v rfl rfl (V_mov rfl l0_10) ?_
    refine W_v rfl rfl (V_mov rfl (es rfl l0_10)) ?_
    refine W_v rfl rfl (V_capNil rfl (et rfl) Try.underlying28) ?_
    refine W_v rfl rfl (V_subS 2 (0) (0) rfl (e2 rfl (et rfl)) (.inl ⟨rfl, rfl⟩) (.inr ⟨_, _, rfl, (et rfl), by omega⟩) Try.underlying28 (by kernel_rfl) (SlN_nil (w := w)) (by omega) (by omega)) ?_
    refine W_v rfl rfl (V_mov rfl (e3 rfl (es rfl l1_10))) ?_
    refine W_growR (z := .agg (rcC (0, 0)).toArray) (zs := rcC (0, 0)) (s := 2) (bytes := 16) (((n - (0 - 0))).toNat) hS rfl rfl rfl (es rfl (et rfl)) (et rfl) (by omega) Try.underlying28 Try.underlying3 (by kernel_rfl) rfl rfl (by decide) (by decide) (by omega) (by omega) (fun v13 w13 c13 hc13 hS13 => ?_)
    replace hc13 : c13 = ro 2 rcC v13 (List.replicate (((n - (0 - 0))).toNat) ((0, 0) : Int × Int)) := hc13.trans (ro_rep rcC_len)
    replace hS13 : St w NoX [c13] w13 := hS13
    refine W_v rfl rfl (V_mov rfl (e5 rfl (es rfl l0_10))) ?_
    refine W_v rfl rfl (V_len rfl (et rfl) rfl Try.underlying28) ?_
    have k14 : 0 ≤ 0 := by omega
    have m14 : 0 ≤ (List.replicate (((n - (0 - 0))).toNat) ((0, 0) : Int × Int)).length := by omega
    obtain ⟨c14, hc14, hS14⟩ := hS13.sub 0 rfl hc13 (0) (0) k14 m14
    replace hc14 : c14 = ro 2 rcC (subS 2 v13 0 0) ((List.replicate (((n - (0 - 0))).toNat) ((0, 0) : Int × Int)).take 0) := hc14.trans (part_eqR rcC_len k14 m14 (by first | (simp; done) | exact List.take_of_length_le (by rw [List.length_drop]; omega)))
    replace hS14 : St w NoX [c14] w13 := hS14
    refine W_v rfl rfl (V_subS 2 (0) (0) rfl (e2 rfl (et rfl)) (.inl ⟨rfl, rfl⟩) (.inr ⟨_, _, rfl, (et rfl), by omega⟩) Try.underlying28 (by kernel_rfl) (ow_at (hS13.chq 0 rfl hc13)) k14 m14) ?_
    refine W_v rfl rfl (V_asg rfl (et rfl)) ?_
    refine W_end ?_
    refine gen_Q (fun A15 hA15 => ?_)
    have hsz15 := szq hA15
    have hdf15 : A15.defers = [] := by rw [hA15]; simp only [df_put]; exact hdf10
    have l0_15 := lookE hA15 0 (et rfl)
    clear hA15 hsz10 hdf10 l0_10 l1_10 l16_10
    refine then_n (hK6 _ _ ?_)
    clear hK6
    refine wp_seq_k (fun K16 hK16 => ?_)
    refine region_in ?_
    refine W_v rfl rfl (V_mov rfl l0_15) ?_
    refine W_v rfl rfl (V_asg rfl (et rfl)) ?_
    refine W_end ?_
    refine gen_Q (fun A17 hA17 => ?_)
    have hsz17 := szq hA17
    have hdf17 : A17.defers = [] := by rw [hA17]; simp only [df_put]; exact hdf15
    have l4_17 := lookE hA17 4 (et rfl)
    clear hA17 hsz15 hdf15 l0_15
    refine then_n (hK16 _ _ ?_)
    clear hK16
    refine wp_ret ?_
    refine ret_in (results_1 Try.results63 (rv_tmp l4_17)) hdf17 ?_
    -- leaf T
    exact ⟨_, rfl, (hS14.fin1 0 rfl (hc14.trans (congrArg (ro 2 rcC _) (by simp))))⟩
  · skip
    refine wp_skip ?_
    refine then_n (hK6 _ _ ?_)
    clear hK6
    refine wp_seq_k (fun K18 hK18 => ?_)
    refine region_in ?_
    refine W_v rfl rfl (V_mov rfl l0_10) ?_
    refine W_v rfl rfl (V_asg rfl (et rfl)) ?_
    refine W_end ?_
    refine gen_Q (fun A19 hA19 => ?_)
    have hsz19 := szq hA19
    have hdf19 : A19.defers = [] := by rw [hA19]; simp only [df_put]; exact hdf10
    have l4_19 := lookE hA19 4 (et rfl)
    clear hA19 hsz10 hdf10 l0_10 l1_10 l16_10
    refine then_n (hK18 _ _ ?_)
    clear hK18
    refine wp_ret ?_
    refine ret_in (results_1 Try.results63 (rv_tmp l4_19)) hdf19 ?_
    -- leaf F
    obtain ⟨c20, hc20, hS20⟩ := hS.pnil (s := 2)
    exact ⟨_, rfl, (hS20.fin1 0 rfl (hc20))⟩

end Go.Proofs.Ytnfgeekaeegolaa