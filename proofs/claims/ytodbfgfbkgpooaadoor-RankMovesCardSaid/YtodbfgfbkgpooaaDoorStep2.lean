import Derived.Test.YtodbfgfbkgpooaaDoorStep
namespace Go.Own
open Go Go.RowKit
section
variable {P : Program} {ops : Array Oper} {w0 : World} {e k : Nat} {Q : Exit → Act → World → Prop} {a : Act} {F : Nat → World → Prop}
theorem Zed_eff {o : Oper} {l : List Oper} (he : ops[e]? = some o) (hk : ops.toList.drop k = l) (h : ∀ w, Ext w0 w → (∀ k, F k w) → wpList P ops (Qo Q) (o :: l) a w) : Zed P ops (fun w' => Ext w0 w') e k Q a F := by
  intro w hE hF
  rw [he, hk]
  exact h w hE hF
end
end Go.Own
