import Derived.Test.YtodbfgfbkgpooaaDoorFr
import Derived.Test.YtodbfgfbkgpooaaDoorSepR
import Derived.Lib.LaidTab
/-! the row's step where the row lists a package variable that is a pair of ints -/
namespace Go.Own
open Go Go.RowKit Go.WideShapes Go.ChangeShapes
theorem laid_pair {P : Program} {W : World} {name : String} {g t te : Nat} {a b : Int} {f0 f1 : Field} {rest : List (String × DataW Unit)} (hg : P.globalNamed name = some g) (hty : (P.globals[g]?).map (·.type) = some t)
    (ht : P.underlying t = some (.struct #[f0, f1])) (hc : P.cellsOf t = 2) (ho : f0.offset = 0 ∧ f1.offset = 1) (h0 : f0.type = te) (h1 : f1.type = te) (hte : P.underlying te = some (.int .i64)) (hce : P.cellsOf te = 1)
    (h : laidMet P ((name, .agg [.lit (.int .i64 a), .lit (.int .i64 b)]) :: rest) W) : ∃ T, Ro W NoX (bx g T #[.int .i64 a, .int .i64 b]) := by
  obtain ⟨ps, ⟨g', t', cs, fuel, p, q, hg', ht', hvar, hd, hq, hps⟩, _, hall⟩ := h
  obtain rfl := Option.some.inj (hg.symm.trans hg')
  obtain rfl := Option.some.inj (hty.symm.trans ht')
  obtain ⟨y0, y1, m, hx, hl, e0, e1⟩ := trod_struct2 ht hd
  rw [hc] at hl
  obtain ⟨cs⟩ := cs
  match cs, hl with
  | [c0, c1], _ =>
    rw [ho.1, h0, hce] at e0
    rw [ho.2, h1, hce] at e1
    simp at e0 e1
    obtain ⟨z0, q0, g0, _⟩ := DataW.trod_int hte e0
    obtain ⟨z1, q1, g1, _⟩ := DataW.trod_int hte e1
    simp only [List.cons.injEq, and_true] at q0 q1
    subst q0 q1
    have hx1 := congrArg Prod.fst hx
    simp only [g0, g1, DataW.agg.injEq, List.cons.injEq, DataW.lit.injEq, Lit.int.injEq, true_and, and_true] at hx1
    obtain ⟨rfl, rfl⟩ := hx1
    have hm : MemPlace.cell g 0 ∈ ps := by rw [hps]; simp [MemPlace.row]
    obtain ⟨⟨c, T, hh⟩, _⟩ := hall g 0 hm
    have hv : W.heap[g]? = some (.cells #[.int .i64 a, .int .i64 b] T (0, 0)) := by
      unfold World.var? at hvar
      rw [hg] at hvar
      simp only [Option.bind_some, hh, Option.some.injEq] at hvar
      rw [hh, hvar]
    refine ⟨T, fun b => b = g, ⟨rfl, hv⟩, fun b hb => ?_⟩
    subst hb
    exact ⟨(Array.getElem?_eq_some_iff.1 hv).1, fun h => h⟩
theorem ints_ro {w : World} {k : IntKind} {v : Value} {zs : List Int} (h : IntsK w k v zs) : Ro w NoX (il k v zs) := by
  have h' : SlN w 1 v (zs.map (Value.int k)).length (zs.map (Value.int k)) := h
  rw [List.length_map] at h'
  exact h'.ro
end Go.Own
