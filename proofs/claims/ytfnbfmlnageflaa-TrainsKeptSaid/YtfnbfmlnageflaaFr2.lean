import Derived.Test.YtfnbfmlnageflaaFr
import Derived.Test.YtfnbfmlnageflaaPl11b
import Derived.Test.YtfnbfmlnageflaaGen3
import Derived.Deep.SlicePairs
namespace Go.Own
open Go Go.RowKit Go.WideShapes Go.ChangeShapes
section
variable {H : Type} {enc : TypeId × Value → H} {P : Program}
theorem open_acts {W : World} {t e te n : Nat} {f0 f1 f2 : Field} {v : Value} {x : DataW H × List MemPlace} {r : Reach} {base : Nat} (ht : P.underlying t = some (.slice e)) (hs : P.underlying e = some (.struct #[f0, f1, f2])) (hc : P.cellsOf e = 3)
    (ho : f0.offset = 0 ∧ f1.offset = 1 ∧ f2.offset = 2) (h0 : f0.type = te) (h1 : f1.type = te) (h2 : f2.type = te) (hte : P.underlying te = some (.int .u8)) (hce : P.cellsOf te = 1)
    (hok : Cell.okWide P W r base t v) (h : DataW.trod enc P W 0 (fun _ => true) true n t [v] = some x) :
    ∃ xs : List (Int × Int × Int), RowV W 3 v (xs.map tri) ∧ ∀ a ∈ xs, (0 ≤ a.1 ∧ a.1 ≤ 255) ∧ (0 ≤ a.2.1 ∧ a.2.1 ≤ 255) ∧ (0 ≤ a.2.2 ∧ a.2.2 ≤ 255) := by
  rcases Go.Deep.open_slice ht h with ⟨hv, _⟩ | ⟨a, len, cap, m, n', D, Pl, hv, _, hl, hm, hmm, _, hel⟩
  · simp only [List.cons.injEq, and_true] at hv
    subst hv
    exact ⟨[], RowV.nil W 3, by simp⟩
  · simp only [List.cons.injEq, and_true] at hv
    subst hv
    have hsp := has_spot ht hok
    simp only [if_true] at hmm
    have each : ∀ i, i < len → ∃ q : Int × Int × Int, W.rangeAt a.block (a.off + i * 3) (tri q) ∧ (0 ≤ q.1 ∧ q.1 ≤ 255) ∧ (0 ≤ q.2.1 ∧ q.2.1 ≤ 255) ∧ (0 ≤ q.2.2 ∧ q.2.2 ≤ 255) := by
      intro i hi
      obtain ⟨cs, g1, g2⟩ := hel i (by omega)
      rw [hc] at g1
      obtain ⟨_, hlen, hcell⟩ := World.cells?_some g1
      obtain ⟨ys, k, _, _, _, hyl, hf⟩ := DataW.trod_struct hs g2
      match cs, hlen with
      | [c0, c1, c2], _ =>
        have e0 := hf 0 f0 rfl
        have e1 := hf 1 f1 rfl
        have e2 := hf 2 f2 rfl
        have hy : ys.length = 3 := hyl
        rw [List.getElem?_eq_getElem (by omega)] at e0 e1 e2
        simp [ho.1, ho.2.1, ho.2.2, h0, h1, h2, hce] at e0 e1 e2
        obtain ⟨z0, q0, _, w0⟩ := DataW.trod_int hte e0
        obtain ⟨z1, q1, _, w1⟩ := DataW.trod_int hte e1
        obtain ⟨z2, q2, _, w2⟩ := DataW.trod_int hte e2
        simp only [List.cons.injEq, and_true] at q0 q1 q2
        subst q0 q1 q2
        refine ⟨(z0, z1, z2), fun j u hj => ?_, ⟨u8_lo w0, u8_hi w0⟩, ⟨u8_lo w1, u8_hi w1⟩, ⟨u8_lo w2, u8_hi w2⟩⟩
        have hj3 : j < 3 := (List.getElem?_eq_some_iff.1 hj).1
        have := hcell j hj3
        obtain ⟨bb, oo, ss⟩ := a
        simp only at hsp
        subst hsp
        have ha : ∀ p q, ((⟨bb, p, none⟩ : Addr).add q) = ⟨bb, p + q, none⟩ := Addr.add_mid bb
        rw [ha, ha] at this
        rw [this]
        exact hj
    obtain ⟨Q, hQ⟩ := Go.Deep.choose_lt each
    refine ⟨(List.range len).map Q, ⟨some a, cap, by simp, by simp; unfold maxLen at hm; omega, fun h => (by cases h), fun b hb => ?_⟩, fun q hq => ?_⟩
    · cases hb
      refine ⟨hsp, fun k xs hk => ?_⟩
      rw [List.map_map, List.getElem?_map, Option.map_eq_some_iff] at hk
      obtain ⟨i, hi, rfl⟩ := hk
      have hi2 : i = k ∧ k < len := by
        have := (List.getElem?_eq_some_iff.1 hi)
        obtain ⟨h1, h2⟩ := this
        simp at h1 h2
        exact ⟨h2.symm, h1⟩
      obtain ⟨rfl, hk⟩ := hi2
      exact (hQ i hk).1
    · rw [List.mem_map] at hq
      obtain ⟨i, hi, rfl⟩ := hq
      exact (hQ i (List.mem_range.1 hi)).2
end
end Go.Own
