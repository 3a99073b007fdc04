import Derived.Test.YtpgkfndbfocibaaGreatFr4
import Derived.Test.YtpgkfndbfocibaaGreatSep8
import Derived.Test.YtpgkfndbfocibaaGreatFr15
import Derived.Test.YtpgkfndbfocibaaGreatPl29c
import Derived.Test.YtpgkfndbfocibaaGreatPl29d
/-! arguments: a struct of one slice of ints -/
namespace Go.Own
open Go Go.RowKit Go.WideShapes Go.ChangeShapes
section
variable {H : Type} {enc : TypeId × Value → H} {P : Program}
end
end Go.Own

/-! arguments of layer 9: the range of a word; slices of counts -/
namespace Go.Own
open Go Go.RowKit Go.WideShapes Go.ChangeShapes
section
variable {P : Program}
end
end Go.Own

/-! remembered sets as one chunk: the sets' rows and what they hold; all sets with their numbers -/
namespace Go.Own
open Go Go.RowKit
section
variable {w0 w : World} {X : Nat → Prop} {l : List HP} {U V : List SL} {v nv : Value} {Y : List (List Int)} {a b c : HP} {ns : List Int}
end
end Go.Own
namespace Go.Own
open Go Go.RowKit
section
variable {w0 w : World} {X : Nat → Prop} {l : List HP} {U : List SL} {v nv : Value}
end
end Go.Own

/-! arguments of layer 8: remembered sets, configs, cases -/
namespace Go.Own
open Go Go.RowKit Go.WideShapes Go.ChangeShapes
section
variable {H : Type} {enc : TypeId × Value → H} {P : Program}
/-- a config. -/
theorem open_cfg {W : World} {t te : Nat} {fs : Array Field} {v : Value} {base : Nat} (ht : P.underlying t = some (.struct fs)) (hc : P.cellsOf t = 5) (hct : P.cellTypes P.depth t = some [te, te, te, te, te]) (hte : P.underlying te = some (.int .i64))
    (hok : Value.okWide P W .any base t v) : ∃ a b c d e, v = .agg #[.int .i64 a, .int .i64 b, .int .i64 c, .int .i64 d, .int .i64 e] := by
  unfold Value.okWide at hok
  simp only [ht] at hok
  obtain ⟨cs, rfl, hsz, tys, hty, _, hcell⟩ := hok
  rw [hct] at hty
  cases hty
  rw [hc] at hsz
  obtain ⟨x, y, z, u, r, rfl⟩ : ∃ x y z u r, cs = #[x, y, z, u, r] := by
    obtain ⟨l⟩ := cs
    match l, hsz with
    | [a, b, c, d, e], _ => exact ⟨a, b, c, d, e, rfl⟩
  obtain ⟨u0, hu0, hk0⟩ := hcell 0 x rfl
  obtain ⟨u1, hu1, hk1⟩ := hcell 1 y rfl
  obtain ⟨u2, hu2, hk2⟩ := hcell 2 z rfl
  obtain ⟨u3, hu3, hk3⟩ := hcell 3 u rfl
  obtain ⟨u4, hu4, hk4⟩ := hcell 4 r rfl
  simp at hu0 hu1 hu2 hu3 hu4
  subst hu0 hu1 hu2 hu3 hu4
  obtain ⟨a, rfl, _⟩ := ok_int hte hk0
  obtain ⟨b, rfl, _⟩ := ok_int hte hk1
  obtain ⟨c, rfl, _⟩ := ok_int hte hk2
  obtain ⟨d, rfl, _⟩ := ok_int hte hk3
  obtain ⟨e, rfl, _⟩ := ok_int hte hk4
  exact ⟨a, b, c, d, e, rfl⟩
end
end Go.Own

/-! the rows' opening: operations -/
namespace Go.Own
open Go Go.RowKit Go.ChangeShapes Go.WideShapes Go.ChangeAt Go.Own.Ml
variable {H : Type} {enc : TypeId × Value → H} {P : Program}
instance : Inhabited OpC := ⟨⟨0, 0, 0, 0, 0, 0, 0⟩⟩
instance : Inhabited AnC := ⟨⟨0, false, 0⟩⟩
end Go.Own
namespace Go.Own
open Go Go.RowKit Go.ChangeShapes Go.WideShapes Go.ChangeAt Go.Own.Ml
variable {P : Program}
theorem open_st7 {W : World} {t te tu : Nat} {f0 f1 f2 f3 f4 f5 f6 : Field} {v : Value} {base : Nat} (ht : P.underlying t = some (.struct #[f0, f1, f2, f3, f4, f5, f6])) (hc : P.cellsOf t = 7) (hct : P.cellTypes P.depth t = some [te, te, te, te, te, te, tu]) (hte : P.underlying te = some (.int .i64)) (htu : P.underlying tu = some (.int .u64))
    (hok : Value.okWide P W .any base t v) : ∃ a b c d e f g, v = .agg #[.int .i64 a, .int .i64 b, .int .i64 c, .int .i64 d, .int .i64 e, .int .i64 f, .int .u64 g] := by
  unfold Value.okWide at hok
  simp only [ht] at hok
  obtain ⟨cs, rfl, hsz, tys, hty, _, hcell⟩ := hok
  rw [hct] at hty
  cases hty
  rw [hc] at hsz
  obtain ⟨x0, x1, x2, x3, x4, x5, x6, rfl⟩ : ∃ x0 x1 x2 x3 x4 x5 x6, cs = #[x0, x1, x2, x3, x4, x5, x6] := by
    obtain ⟨l⟩ := cs
    match l, hsz with
    | [a, b, c, d, e, f, g], _ => exact ⟨a, b, c, d, e, f, g, rfl⟩
  obtain ⟨u0, hu0, hk0⟩ := hcell 0 x0 rfl
  obtain ⟨u1, hu1, hk1⟩ := hcell 1 x1 rfl
  obtain ⟨u2, hu2, hk2⟩ := hcell 2 x2 rfl
  obtain ⟨u3, hu3, hk3⟩ := hcell 3 x3 rfl
  obtain ⟨u4, hu4, hk4⟩ := hcell 4 x4 rfl
  obtain ⟨u5, hu5, hk5⟩ := hcell 5 x5 rfl
  obtain ⟨u6, hu6, hk6⟩ := hcell 6 x6 rfl
  simp at hu0 hu1 hu2 hu3 hu4 hu5 hu6
  subst hu0 hu1 hu2 hu3 hu4 hu5 hu6
  obtain ⟨a, rfl, _⟩ := ok_int hte hk0
  obtain ⟨b, rfl, _⟩ := ok_int hte hk1
  obtain ⟨c, rfl, _⟩ := ok_int hte hk2
  obtain ⟨d, rfl, _⟩ := ok_int hte hk3
  obtain ⟨e, rfl, _⟩ := ok_int hte hk4
  obtain ⟨f, rfl, _⟩ := ok_int hte hk5
  obtain ⟨g, rfl, _⟩ := ok_int htu hk6
  exact ⟨a, b, c, d, e, f, g, rfl⟩
end Go.Own
namespace Go.Own
open Go Go.RowKit Go.ChangeShapes Go.WideShapes Go.ChangeAt Go.Own.Ml
variable {H : Type} {enc : TypeId × Value → H} {P : Program}
end Go.Own
