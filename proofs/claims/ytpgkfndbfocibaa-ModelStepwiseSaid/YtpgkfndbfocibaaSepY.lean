import Derived.Test.YtpgkfndbfocibaaSepQ
import Derived.Test.YtpgkfndbfocibaaSepH
/-! own slices of rows: a row is stored, a part is cleared -/
namespace Go.Own
open Go Go.RowKit
theorem ow_rowS {w : World} {g off cap n k s : Nat} {cur : Array Value} {T : TypeId} {xs ys : List Value} {f : Nat → Prop} (hg : w.heap[g]? = some (.cells cur T (0, 0))) (hf : f g) (hl : xs.length = n * s) (hn : n ≤ cap) (hm : cap ≤ maxLen) (hs : off + cap * s ≤ cur.size)
    (hx : ∀ (j : Nat) (x : Value), xs[j]? = some x → cur[off + j]? = some x) (hk : k + ys.length ≤ n * s) :
    (ow s n (.slice (some ⟨g, off, none⟩) n cap) (xs.take k ++ ys ++ xs.drop (k + ys.length))).p (w.setRow g (cur.toList.take (off + k) ++ ys ++ cur.toList.drop (off + k + ys.length)).toArray) f := by
  have hcs : n * s ≤ cap * s := Nat.mul_le_mul_right s hn
  have hlen : (cur.toList.take (off + k) ++ ys ++ cur.toList.drop (off + k + ys.length)).length = cur.size := by
    simp only [List.length_append, List.length_take, List.length_drop, Array.length_toList]; omega
  refine ⟨by simp only [List.length_append, List.length_take, List.length_drop]; omega, .inr ⟨g, off, cap, _, T, rfl, hf, setRow_heap w g cur _ T _ hg, hn, hm, by rw [List.size_toArray, hlen]; exact hs, fun j x hj => ?_⟩⟩
  rw [List.getElem?_toArray]
  have hkk : (xs.take k).length = k := by rw [List.length_take]; omega
  have hoo : (cur.toList.take (off + k)).length = off + k := by rw [List.length_take, Array.length_toList]; omega
  rw [List.append_assoc] at hj ⊢
  by_cases h : j < k
  · rw [List.getElem?_append_left (by omega), List.getElem?_take, if_pos h] at hj
    rw [List.getElem?_append_left (by omega), List.getElem?_take, if_pos (by omega), Array.getElem?_toList]
    exact hx j x hj
  · rw [List.getElem?_append_right (by omega), hkk] at hj
    rw [List.getElem?_append_right (by omega), hoo, show off + j - (off + k) = j - k by omega]
    by_cases h2 : j - k < ys.length
    · rw [List.getElem?_append_left h2] at hj ⊢; exact hj
    · rw [List.getElem?_append_right (by omega), List.getElem?_drop] at hj ⊢
      rw [Array.getElem?_toList, show off + k + ys.length + (j - k - ys.length) = off + j by omega]
      rw [show k + ys.length + (j - k - ys.length) = j by omega] at hj
      exact hx j x hj
section
variable {P : Program} {ops : Array Oper} {l : List Oper} {o : Oper} {A : Act} {Q : Exit → Act → World → Prop} {w0 w : World} {X : Nat → Prop} {cs : List HP} {c : HP} {d : Tmp} {n s : Nat} {v v1 : Value} {xs ys : List Value} {x y : Operand} {T dT el : TypeId}
theorem W_stR {B O C j off : Nat} (i : Nat) (hS : St w0 X cs w) (hi : cs[i]? = some c) (hc : c = ow s n v1 xs) (hv : v1 = .slice (some ⟨B, O, none⟩) n C) (hd : o.dst = none) (hw : Region.wanted o (yielded ops A.tmps) = true) (ho : o.op = .store T x y)
    (hx : EV A x = .pointer (some ⟨B, off, none⟩)) (hy : EV A y = .agg ys.toArray) (h1 : ∀ u ∈ ys, u.oneCell' = true) (hys : ys.length = s) (hoff : O + j * s = off) (hj : j < n) (hif : (P.info? T).map (·.size) = some s)
    (h : ∀ w' c', c' = ow s n v1 (xs.take (j * s) ++ ys ++ xs.drop (j * s + s)) → St w0 X (cs.set i c') w' → WX P ops Q l A w') : WX P ops Q (o :: l) A w := by
  subst hc hv hoff
  obtain ⟨f, q1, q2, q3⟩ := hS.upd i hi
  have hjs : j * s + s ≤ n * s := by rw [← Nat.succ_mul]; exact Nat.mul_le_mul_right s hj
  obtain ⟨g0, ⟨a, e, hn0, ha⟩ | ⟨g, O', cap, cur, T', e, g1, g2, g3, g4, g5, g6⟩⟩ := q1
  · omega
  · cases e
    have hcs : n * s ≤ C * s := Nat.mul_le_mul_right s g3
    have hst := run_storeCells_at P B (O + j * s) T' ys 0 cur w g2 (by simp; omega) h1
    simp only [Nat.add_zero] at hst
    have hrow := ow_rowS (k := j * s) (ys := ys) g2 g1 g0 g3 g4 g5 g6 (by omega)
    rw [hys] at hrow hst
    refine W_nov hd hw ?_ (h _ _ rfl (q3 _ _ f ((ExtX.tch (tch_row g2)).mono fun b e => by subst e; exact g1) hrow fun b hb => .inl hb))
    cases hq : P.info? T with
    | none => simp [hq] at hif
    | some inf =>
      have hsz : inf.size = s := by simpa [hq] using hif
      unfold execOp
      simp [ho, hx, hy, Instr.storeAt, Instr.sureAddr, storeVar, sizeOf, typeInfo, hq, hsz, hys, Value.cells, hst]
end
end Go.Own
