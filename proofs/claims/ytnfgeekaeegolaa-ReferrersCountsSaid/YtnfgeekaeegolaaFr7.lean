import Derived.Test.YtnfgeekaeegolaaFr4
/-! arguments: a struct of one slice of ints -/
namespace Go.Own
open Go Go.RowKit Go.WideShapes Go.ChangeShapes
section
variable {H : Type} {enc : TypeId × Value → H} {P : Program}
theorem open_set1 {W : World} {t ts te n : Nat} {f0 : Field} {v : Value} {x : DataW H × List MemPlace} {base : Nat} (ht : P.underlying t = some (.struct #[f0])) (hc : P.cellsOf t = 1) (ho : f0.offset = 0)
    (h0 : f0.type = ts) (hs : P.underlying ts = some (.slice te)) (hcs : P.cellsOf ts = 1) (he : P.underlying te = some (.int .i64)) (hce : P.cellsOf te = 1) (hct : P.cellTypes P.depth t = some [ts])
    (hok : Value.okWide P W .any base t v) (h : DataW.trod enc P W 0 (fun _ => true) true n t v.cells.toList = some x) : ∃ lv lo, v = .agg #[lv] ∧ Ints W lv lo := by
  unfold Value.okWide at hok
  simp only [ht] at hok
  obtain ⟨cs, rfl, hsz, tys, hty, _, hcell⟩ := hok
  rw [hct] at hty
  cases hty
  rw [hc] at hsz
  obtain ⟨lv, rfl⟩ : ∃ lv, cs = #[lv] := by
    obtain ⟨l⟩ := cs
    match l, hsz with
    | [a], _ => exact ⟨a, rfl⟩
  obtain ⟨u0, hu0, hk0⟩ := hcell 0 lv rfl
  simp at hu0
  subst hu0
  obtain ⟨ys, k, _, _, _, hyl, hf⟩ := DataW.trod_struct ht h
  have e0 := hf 0 f0 rfl
  have hy : ys.length = 1 := hyl
  rw [List.getElem?_eq_getElem (by omega)] at e0
  simp [ho, h0, hcs, Value.cells] at e0
  obtain ⟨lo, hlo, _⟩ := open_slI hs he hce hk0 e0
  exact ⟨lv, lo, rfl, hlo⟩
end
end Go.Own
