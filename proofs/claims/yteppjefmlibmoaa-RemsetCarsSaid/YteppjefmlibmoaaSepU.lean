import Derived.Test.YteppjefmlibmoaaSepV
/-! slices of pairs of slices -/
namespace Go.Own
open Go Go.RowKit
abbrev Ob := (Value × List Int) × (Value × List Int)
def obC (o : Ob) : List Value := [o.1.1, o.2.1]
def ab (o : Ob) : List Int × List Int := (o.1.2, o.2.2)
/-- all are read. -/
def nst (L : List Ob) : HP where
  p w f := ∀ o ∈ L, (il .i64 o.1.1 o.1.2).p w f ∧ (il .u64 o.2.1 o.2.2).p w f
  loc := fun h h1 h2 o ho => ⟨(il .i64 o.1.1 o.1.2).loc (h o ho).1 h1 h2, (il .u64 o.2.1 o.2.2).loc (h o ho).2 h1 h2⟩
section
variable {w0 w : World} {X : Nat → Prop} {l : List HP} {L : List Ob} {k : Nat} {y : Ob}
theorem sl_mono {s n : Nat} {v : Value} {xs : List Value} {f g : Nat → Prop} (h : (sl s n v xs).p w f) (hfg : ∀ b, f b → g b) : (sl s n v xs).p w g := by
  obtain ⟨a, cap, h0, h1, h2, h3, h4, h5⟩ := h
  exact ⟨a, cap, h0, h1, h2, h3, h4, fun b e => ⟨(h5 b e).1, fun j x hj => ⟨hfg _ ((h5 b e).2 j x hj).1, ((h5 b e).2 j x hj).2⟩⟩⟩
theorem owl_rd {k : IntKind} {M : List (Value × List Int)} {f : Nat → Prop} {i : Nat} {z : Value × List Int} (hz : M[i]? = some z) (h : (owl k M).p w f) : (il k z.1 z.2).p w f := by
  obtain ⟨fs, q1, q2, _⟩ := h
  exact sl_mono (ow_sl (q1 i z hz)) fun b hb => (q2 i b hb).2
end
end Go.Own
namespace Go.Own
open Go Go.RowKit
end Go.Own
