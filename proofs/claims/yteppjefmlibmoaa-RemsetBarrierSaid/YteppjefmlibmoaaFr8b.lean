import Derived.Test.YteppjefmlibmoaaFr8
/-! slices of two u16 -/
namespace Go.Own
open Go Go.RowKit Go.WideShapes Go.ChangeShapes
section
variable {H : Type} {enc : TypeId × Value → H} {P : Program}
theorem open_rowuu (fn : Int × Int → List Value) (hfn : ∀ q, fn q = [.int .u16 q.1, .int .u16 q.2]) {W : World} {t e te tf n : Nat} {f0 f1 : Field} {v : Value} {x : DataW H × List MemPlace} {r : Reach} {base : Nat} (ht : P.underlying t = some (.slice e)) (hs : P.underlying e = some (.struct #[f0, f1])) (hc : P.cellsOf e = 2)
    (ho : f0.offset = 0 ∧ f1.offset = 1) (h0 : f0.type = te) (h1 : f1.type = tf) (hte : P.underlying te = some (.int .u16)) (htf : P.underlying tf = some (.int .u16)) (hce : P.cellsOf te = 1) (hcf : P.cellsOf tf = 1)
    (hok : Cell.okWide P W r base t v) (h : DataW.trod enc P W 0 (fun _ => true) true n t [v] = some x) :
    ∃ xs : List (Int × Int), Ro W NoX (rl 2 fn v xs) ∧ ∀ y ∈ xs, (0 ≤ y.1 ∧ y.1 ≤ 65535) ∧ (0 ≤ y.2 ∧ y.2 ≤ 65535) := by
  have hlen2 : ∀ q, (fn q).length = 2 := fun q => by rw [hfn]; rfl
  rcases Go.Deep.open_slice ht h with ⟨hv, _⟩ | ⟨a, len, cap, m, n', D, Pl, hv, _, hl, hm, hmm, _, hel⟩
  · simp only [List.cons.injEq, and_true] at hv
    subst hv
    exact ⟨[], ro_nil, by simp⟩
  · simp only [List.cons.injEq, and_true] at hv
    subst hv
    have hsp := has_spot ht hok
    simp only [if_true] at hmm
    have each : ∀ i, i < len → ∃ q : Int × Int, W.rangeAt a.block (a.off + i * 2) (fn q) ∧ (0 ≤ q.1 ∧ q.1 ≤ 65535) ∧ (0 ≤ q.2 ∧ q.2 ≤ 65535) := by
      intro i hi
      obtain ⟨cs, g1, g2⟩ := hel i (by omega)
      rw [hc] at g1
      obtain ⟨_, hlen, hcell⟩ := World.cells?_some g1
      obtain ⟨ys, k, _, _, _, hyl, hf⟩ := DataW.trod_struct hs g2
      match cs, hlen with
      | [c0, c1], _ =>
        have e0 := hf 0 f0 rfl
        have e1 := hf 1 f1 rfl
        have hy : ys.length = 2 := hyl
        rw [List.getElem?_eq_getElem (by omega)] at e0 e1
        simp [ho.1, ho.2, h0, h1, hce, hcf] at e0 e1
        obtain ⟨z0, q0, _, w0⟩ := DataW.trod_int hte e0
        obtain ⟨z1, q1, _, w1⟩ := DataW.trod_int htf e1
        simp only [List.cons.injEq, and_true] at q0 q1
        subst q0 q1
        refine ⟨(z0, z1), fun j u hj => ?_, by simp [Lit.wf, IntKind.min, IntKind.max, IntKind.signed, IntKind.bits] at w0 w1; simp only; omega⟩
        rw [hfn] at hj
        have hj3 : j < 2 := (List.getElem?_eq_some_iff.1 hj).1
        have := hcell j hj3
        obtain ⟨bb, oo, ss⟩ := a
        simp only at hsp
        subst hsp
        have ha : ∀ p q, ((⟨bb, p, none⟩ : Addr).add q) = ⟨bb, p + q, none⟩ := Addr.add_mid bb
        rw [ha, ha] at this
        rw [this]
        exact hj
    obtain ⟨Q, hQ⟩ := Go.Deep.choose_lt each
    have hlen : ((List.range len).map Q).length = len := by simp
    refine ⟨(List.range len).map Q, ?_, fun y hy => by obtain ⟨i, hi, rfl⟩ := List.mem_map.1 hy; exact (hQ i (List.mem_range.1 hi)).2⟩
    refine SlN.ro ⟨some a, cap, by rw [hlen], by rw [hlen]; exact hl, by unfold maxLen at hm; omega, by rw [flat_len hlen2], fun h => (by cases h), fun b hb => ?_⟩
    cases hb
    refine ⟨fun _ => hsp, fun j u hj => ?_⟩
    have hjl : j < ((List.range len).map Q).length * 2 := by rw [← flat_len hlen2]; exact (List.getElem?_eq_some_iff.1 hj).1
    rw [hlen] at hjl
    have hi : j / 2 < len := by omega
    have hu : (fn (Q (j / 2)))[j % 2]? = some u := by
      have hg := flat_get hlen2 ((List.range len).map Q) (j / 2) (j % 2) (Q (j / 2))
      have hm2 : j % 2 < (fn (Q (j / 2))).length := by rw [hlen2]; omega
      have := hg _ (by simp [hi]) (List.getElem?_eq_getElem hm2)
      rw [show j / 2 * 2 + j % 2 = j by omega, hj] at this
      rw [List.getElem?_eq_getElem hm2, Option.some.inj this]
    have := (hQ (j / 2) hi).1 (j % 2) u hu
    rw [show a.off + j = a.off + j / 2 * 2 + j % 2 by omega]
    exact this
end
end Go.Own
