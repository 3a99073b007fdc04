import Derived.Test.YtnfgeekaeegolaaSepQ
import Derived.Test.YtnfgeekaeegolaaSepH
/-! own slices of rows: a row is stored, a part is cleared -/
namespace Go.Own
open Go Go.RowKit
theorem ow_rowS {w : World} {g off cap n k s : Nat} {cur : Array Value} {T : TypeId} {xs ys : List Value} {f : Nat → Prop} (hg : w.heap[g]? = some (.cells cur T (0, 0))) (hf : f g) (hl : xs.length = n * s) (hn : n ≤ cap) (hm : cap ≤ maxLen) (hs : off + cap * s ≤ cur.size)
    (hx : ∀ (j : Nat) (x : Value), xs[j]? = some x → cur[off + j]? = some x) (hk : k + ys.length ≤ n * s) :
    (ow s n (.slice (some ⟨g, off, none⟩) n cap) (xs.take k ++ ys ++ xs.drop (k + ys.length))).p (w.setRow g (cur.toList.take (off + k) ++ ys ++ cur.toList.drop (off + k + ys.length)).toArray) f := by
  have hcs : n * s ≤ cap * s := Nat.mul_le_mul_right s hn
  have hlen : (cur.toList.take (off + k) ++ ys ++ cur.toList.drop (off + k + ys.length)).length = cur.size := by
    simp only [List.length_append, List.length_take, List.length_drop, Array.length_toList]; omega
  refine ⟨by simp only [List.length_append, List.length_take, List.length_drop]; omega, .inr ⟨g, off, cap, _, T, rfl, hf, setRow_heap w g cur _ T _ hg, hn, hm, by rw [List.size_toArray, hlen]; exact hs, fun j x hj => ?_⟩⟩
  rw [List.getElem?_toArray]
  have hkk : (xs.take k).length = k := by rw [List.length_take]; omega
  have hoo : (cur.toList.take (off + k)).length = off + k := by rw [List.length_take, Array.length_toList]; omega
  rw [List.append_assoc] at hj ⊢
  by_cases h : j < k
  · rw [List.getElem?_append_left (by omega), List.getElem?_take, if_pos h] at hj
    rw [List.getElem?_append_left (by omega), List.getElem?_take, if_pos (by omega), Array.getElem?_toList]
    exact hx j x hj
  · rw [List.getElem?_append_right (by omega), hkk] at hj
    rw [List.getElem?_append_right (by omega), hoo, show off + j - (off + k) = j - k by omega]
    by_cases h2 : j - k < ys.length
    · rw [List.getElem?_append_left h2] at hj ⊢; exact hj
    · rw [List.getElem?_append_right (by omega), List.getElem?_drop] at hj ⊢
      rw [Array.getElem?_toList, show off + k + ys.length + (j - k - ys.length) = off + j by omega]
      rw [show k + ys.length + (j - k - ys.length) = j by omega] at hj
      exact hx j x hj
section
variable {P : Program} {ops : Array Oper} {l : List Oper} {o : Oper} {A : Act} {Q : Exit → Act → World → Prop} {w0 w : World} {X : Nat → Prop} {cs : List HP} {c : HP} {d : Tmp} {n s : Nat} {v v1 : Value} {xs ys : List Value} {x y : Operand} {T dT el : TypeId}
theorem W_stR {B O C j off : Nat} (i : Nat) (hS : St w0 X cs w) (hi : cs[i]? = some c) (hc : c = ow s n v1 xs) (hv : v1 = .slice (some ⟨B, O, none⟩) n C) (hd : o.dst = none) (hw : Region.wanted o (yielded ops A.tmps) = true) (ho : o.op = .store T x y)
    (hx : EV A x = .pointer (some ⟨B, off, none⟩)) (hy : EV A y = .agg ys.toArray) (h1 : ∀ u ∈ ys, u.oneCell' = true) (hys : ys.length = s) (hoff : O + j * s = off) (hj : j < n) (hif : (P.info? T).map (·.size) = some s)
    (h : ∀ w' c', c' = ow s n v1 (xs.take (j * s) ++ ys ++ xs.drop (j * s + s)) → St w0 X (cs.set i c') w' → WX P ops Q l A w') : WX P ops Q (o :: l) A w := by
  subst hc hv hoff
  obtain ⟨f, q1, q2, q3⟩ := hS.upd i hi
  have hjs : j * s + s ≤ n * s := by rw [← Nat.succ_mul]; exact Nat.mul_le_mul_right s hj
  obtain ⟨g0, ⟨a, e, hn0, ha⟩ | ⟨g, O', cap, cur, T', e, g1, g2, g3, g4, g5, g6⟩⟩ := q1
  · omega
  · cases e
    have hcs : n * s ≤ C * s := Nat.mul_le_mul_right s g3
    have hst := run_storeCells_at P B (O + j * s) T' ys 0 cur w g2 (by simp; omega) h1
    simp only [Nat.add_zero] at hst
    have hrow := ow_rowS (k := j * s) (ys := ys) g2 g1 g0 g3 g4 g5 g6 (by omega)
    rw [hys] at hrow hst
    refine W_nov hd hw ?_ (h _ _ rfl (q3 _ _ f ((ExtX.tch (tch_row g2)).mono fun b e => by subst e; exact g1) hrow fun b hb => .inl hb))
    cases hq : P.info? T with
    | none => simp [hq] at hif
    | some inf =>
      have hsz : inf.size = s := by simpa [hq] using hif
      unfold execOp
      simp [ho, hx, hy, Instr.storeAt, Instr.sureAddr, storeVar, sizeOf, typeInfo, hq, hsz, hys, Value.cells, hst]
theorem zeroCells_rep {zs : List Value} (hz : 0 < zs.length) : ∀ n : Nat, (Builtin.zeroCells zs.toArray n).toList = (List.replicate n zs).flatten := by
  intro n
  apply List.ext_getElem?
  intro i
  have hl : (Builtin.zeroCells zs.toArray n).toList.length = n * zs.length := by simp [Builtin.zeroCells]
  have hl2 : ((List.replicate n zs).flatten).length = n * zs.length := by simp [List.length_flatten]
  by_cases hi : i < n * zs.length
  · have hmod := Nat.mod_lt i hz
    have h1 : (Builtin.zeroCells zs.toArray n).toList[i]? = some (zs[i % zs.length]'hmod) := by
      simp [Builtin.zeroCells, hi]
      rw [List.getElem?_eq_getElem hmod]; rfl
    rw [h1]
    clear h1 hl hl2
    symm
    induction n generalizing i with
    | zero => omega
    | succ n ih =>
      rw [List.replicate_succ, List.flatten_cons]
      by_cases q : i < zs.length
      · rw [List.getElem?_append_left q, List.getElem?_eq_getElem q]
        simp [Nat.mod_eq_of_lt q]
      · rw [List.getElem?_append_right (by omega)]
        have hm2 : (i - zs.length) % zs.length = i % zs.length := by
          rw [← Nat.mod_eq_sub_mod (by omega)]
        have := ih (i - zs.length) (by rw [Nat.add_mul] at hi; omega) (Nat.mod_lt _ hz)
        rw [this]; simp [hm2]
  · rw [List.getElem?_eq_none (by omega), List.getElem?_eq_none (by omega)]
theorem W_clearR {z : Value} {zs : List Value} (i : Nat) (lo : Nat) (hS : St w0 X cs w) (hin : cs[i]? = some c) (hc : c = ow s n v xs) (hlo : lo ≤ n) (hd : o.dst = none) (hw : Region.wanted o (yielded ops A.tmps) = true)
    (ho : o.op = .call { callee := .builtin .clear, args := #[x], argTypes := #[dT] }) (hx : EV A x = subS s v lo n) (ht : P.underlying dT = some (.slice el)) (hz : (P.info? el).map (·.zero) = some (some z)) (hz1 : z.cells = zs.toArray) (hzs : zs.length = s) (hs0 : 0 < s) (hz2 : ∀ u ∈ zs, u.oneCell' = true)
    (h : ∀ w' c', c' = ow s n v (xs.take (lo * s) ++ (List.replicate (n - lo) zs).flatten) → St w0 X (cs.set i c') w' → WX P ops Q l A w') : WX P ops Q (o :: l) A w := by
  subst hc
  obtain ⟨f, q1, q2, q3⟩ := hS.upd i hin
  have hzv : ∀ w, (zeroValue el).run P w = .ok z w := fun w => by
    cases hq : P.info? el with
    | none => simp [hq] at hz
    | some inf =>
      simp only [hq, Option.map_some, Option.some.injEq] at hz
      simp [zeroValue, typeInfo, hq, hz]
  obtain ⟨g0, ⟨a, rfl, e, ha⟩ | ⟨g, off, cap, cur, T, rfl, g1, g2, g3, g4, g5, g6⟩⟩ := q1
  · subst e
    obtain rfl : lo = 0 := by omega
    have e1 : xs = [] := List.eq_nil_of_length_eq_zero (by simpa using g0)
    subst e1
    refine W_vno (v := .tuple #[]) hd hw ?_ (h w _ rfl (q3 w _ f (ExtX.rfl' _ _) ⟨by simp, .inl ⟨a, rfl, rfl, ha⟩⟩ fun b hb => .inl hb))
    have hs : subS s (.slice a 0 0) 0 0 = .slice a 0 0 := by simp [subS]
    unfold execOp
    rw [hs] at hx
    cases a <;> simp [ho, resolve, invoke, builtin, hx, Builtin.clear_, run_underlying ht]
  · rcases Nat.eq_zero_or_pos (n - lo) with e | hpos
    · obtain rfl : lo = n := by omega
      have e1 : xs.take (lo * s) ++ (List.replicate (lo - lo) zs).flatten = xs := by rw [List.take_of_length_le (by omega)]; simp
      refine W_vno (v := .tuple #[]) hd hw ?_ (h w _ rfl (q3 w _ f (ExtX.rfl' _ _) (by rw [e1]; exact ⟨g0, .inr ⟨g, off, cap, cur, T, rfl, g1, g2, g3, g4, g5, g6⟩⟩) fun b hb => .inl hb))
      unfold execOp
      simp only [subS, e] at hx
      split at hx <;> simp [ho, resolve, invoke, builtin, hx, Builtin.clear_, run_underlying ht]
    · have hs : subS s (.slice (some ⟨g, off, none⟩) n cap) lo n = .slice (some ⟨g, off + lo * s, none⟩) (n - lo) (cap - lo) := by
        have ha : ∀ q, (⟨g, off, none⟩ : Addr).add q = ⟨g, off + q, none⟩ := Addr.add_mid g off
        simp only [subS]
        rw [if_neg (by omega)]
        simp [ha]
      rw [hs] at hx
      have hzc : (Builtin.zeroCells z.cells (n - lo)).toList = (List.replicate (n - lo) zs).flatten := by rw [hz1]; exact zeroCells_rep (by omega) _
      have hfl : ((List.replicate (n - lo) zs).flatten).length = (n - lo) * s := by simp [List.length_flatten, hzs]
      have hns : lo * s + (n - lo) * s = n * s := by rw [← Nat.add_mul]; congr 1; omega
      have hcs : n * s ≤ cap * s := Nat.mul_le_mul_right s g3
      have hone : ∀ u ∈ (List.replicate (n - lo) zs).flatten, u.oneCell' = true := by
        intro u hu
        obtain ⟨y, hy, hu⟩ := List.mem_flatten.1 hu
        rw [List.eq_of_mem_replicate hy] at hu; exact hz2 u hu
      have hst := run_storeCells_at P g (off + lo * s) T ((List.replicate (n - lo) zs).flatten) 0 cur w g2 (by rw [hfl]; omega) hone
      have hrow := ow_rowS (k := lo * s) (ys := (List.replicate (n - lo) zs).flatten) g2 g1 g0 g3 g4 g5 g6 (by rw [hfl]; omega)
      have hdr : xs.drop (lo * s + ((List.replicate (n - lo) zs).flatten).length) = [] := List.drop_of_length_le (by rw [hfl]; omega)
      rw [hdr, List.append_nil] at hrow
      refine W_vno (v := .tuple #[]) hd hw ?_ (h _ _ rfl (q3 _ _ f ((ExtX.tch (tch_row g2)).mono fun b e => by subst e; exact g1) hrow fun b hb => .inl hb))
      obtain ⟨m, hm⟩ : ∃ m, n - lo = m + 1 := ⟨n - lo - 1, by omega⟩
      rw [hm] at hst hzc hx ⊢
      simp only [Nat.add_zero] at hst
      unfold execOp
      simp [ho, resolve, invoke, builtin, hx, Builtin.clear_, run_underlying ht, hzv, hzc, hst]
end
end Go.Own
