import Derived.Test.YtnfgeekaeegolaaSepY
import Derived.Lib.AppendZerosOnto
/-! append of n zeros to nil: what slices.Grow does -/
namespace Go.Own
open Go Go.RowKit
section
variable {P : Program} {ops : Array Oper} {l : List Oper} {o : Oper} {A : Act} {Q : Exit → Act → World → Prop} {w w0 : World} {X : Nat → Prop} {cs : List HP} {d : Tmp} {x y : Operand}
theorem W_growZ {t tn e : TypeId} {i : TypeInfo} {z : Value} {kn : IntKind} {zs : List Value} (n : Nat) (hS : St w0 X cs w) (hd : o.dst = some d) (hw : Region.wanted o (yielded ops A.tmps) = true)
    (ho : o.op = .call { callee := .builtin .append, args := #[x, y], argTypes := #[t, tn] }) (hx : EV A x = .slice none 0 0) (hy : EV A y = .int .i64 (n : Int)) (ht : P.underlying t = some (.slice e)) (htn : P.underlying tn = some (.int kn))
    (hi : P.info? e = some i) (hz : i.zero = some z) (hzc : z.cells = zs.toArray) (hsz : zs.length = i.size) (hs0 : 0 < i.size) (hb : i.bytes ≤ 64) (h0 : 0 < n) (hn : n ≤ 10000)
    (h : ∀ v w' c, c = ow i.size n v (List.replicate n zs).flatten → St w0 X (c :: cs) w' → WX P ops Q l (PT A d v) w') : WX P ops Q (o :: l) A w := by
  obtain ⟨G, hG⟩ : ∃ G, G = grownCap w (0 + n) 0 e := ⟨_, rfl⟩
  have hnb : n * i.bytes ≤ n * 64 := Nat.mul_le_mul_left _ hb
  have hrun := Lib.run_append_grow_zeros (P := P) w t tn o.type e i z .i64 kn ht htn hi hz none 0 0 [] (run_firstCells_none w.drew i.size 0 0 0) n h0 hs0 (by omega) (by omega) (by omega)
    (growslice_fits (by omega) (by rw [Nat.zero_add]; omega))
  have hge := grownCap_ge w (0 + n) 0 e
  have hcm := grownCap_le_maxLen w (0 + n) 0 e (by unfold maxLen; omega)
  rw [← hG] at hrun hge hcm
  rw [Nat.zero_add] at hrun
  have hz2 : (Builtin.zeroCells z.cells n).toList = (List.replicate n zs).flatten := by rw [hzc]; exact zeroCells_rep (by omega) n
  have hfl : ((List.replicate n zs).flatten).length = n * i.size := by rw [List.length_flatten, List.map_replicate, List.sum_replicate_nat, hsz]
  refine W_val (w' := _) hd hw ?_ (h (.slice (some ⟨w.heap.size, 0, none⟩) n G) _ _ rfl (hS.push (w' := w.drew.alloc (.cells (([] : List Value).toArray ++ Builtin.zeroCells z.cells n ++ Builtin.zeroCells z.cells (G - n)) e)) ⟨rfl, rfl, rfl, by simp, fun k hk => (Ext.alloc w.drew _).block k hk⟩ (f := fun q => q = w.heap.size)
    (ow_made (f := fun q => q = w.heap.size) (n := w.heap.size) (heap_alloc_new w.drew _) rfl (by omega) hcm ?_ hfl ?_) fun b hb => ?_))
  · unfold execOp
    simp only [ho, resolve, invoke, builtin, Sem.run_bind, Sem.run_pure, Result.andThen_ok, List.map_toArray, List.map_cons, List.map_nil, hx, hy, hrun]
  · simp only [Array.size_append, size_zeroCells, hzc, List.size_toArray, List.length_nil, hsz, Nat.zero_add, ← Nat.add_mul]
    rw [show n + (G - n) = G by omega]; exact Nat.le_refl _
  · intro j u hj
    have hlt := (List.getElem?_eq_some_iff.1 hj).1
    rw [Array.getElem?_append_left (by simp [size_zeroCells, hzc, hsz]; rw [hfl] at hlt; exact hlt)]
    rw [← Array.getElem?_toList, Array.toList_append, hz2]; simpa using hj
  · subst hb; exact ⟨Nat.le_refl _, by simp⟩
theorem W_growR {t tn e : TypeId} {z : Value} {kn : IntKind} {zs : List Value} {s bytes : Nat} {q : Int} (n : Nat) (hS : St w0 X cs w) (hd : o.dst = some d) (hw : Region.wanted o (yielded ops A.tmps) = true)
    (ho : o.op = .call { callee := .builtin .append, args := #[x, y], argTypes := #[t, tn] }) (hx : EV A x = .slice none 0 0) (hy : EV A y = .int .i64 q) (hq : q = (n : Int)) (ht : P.underlying t = some (.slice e)) (htn : P.underlying tn = some (.int kn))
    (hi : (P.info? e).map (fun i => (i.zero, i.size, i.bytes)) = some (some z, s, bytes)) (hzc : z.cells = zs.toArray) (hsz : zs.length = s) (hs0 : 0 < s) (hb : bytes ≤ 64) (h0 : 0 < n) (hn : n ≤ 10000)
    (h : ∀ v w' c, c = ow s n v (List.replicate n zs).flatten → St w0 X (c :: cs) w' → WX P ops Q l (PT A d v) w') : WX P ops Q (o :: l) A w := by
  cases hf : P.info? e with
  | none => rw [hf] at hi; cases hi
  | some i =>
    rw [hf] at hi
    simp only [Option.map_some, Option.some.injEq, Prod.mk.injEq] at hi
    obtain ⟨h1, h2, h3⟩ := hi
    subst h2 h3
    exact W_growZ n hS hd hw ho hx (hq ▸ hy) ht htn hf h1 hzc hsz hs0 hb h0 hn h
theorem V_capNil {t e : TypeId} (ho : o.op = .call { callee := .builtin .cap, args := #[x], argTypes := #[t] }) (hx : EV A x = .slice none 0 0) (ht : P.underlying t = some (.slice e)) : Val P A o (.int .i64 0) := fun w => by
  unfold execOp; simp [ho, hx, resolve, invoke, builtin, Builtin.cap_, goInt, run_underlying ht]
end
theorem ro_rep {α : Type} {fn : α → List Value} {s n : Nat} {v : Value} {z : α} (hs : ∀ a, (fn a).length = s) : ow s n v (List.replicate n (fn z)).flatten = ro s fn v (List.replicate n z) := by
  unfold ro
  rw [List.length_replicate, List.flatMap_def, List.map_replicate]
end Go.Own
