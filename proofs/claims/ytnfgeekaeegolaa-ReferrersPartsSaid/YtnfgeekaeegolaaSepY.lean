import Derived.Test.YtnfgeekaeegolaaSepQ
import Derived.Test.YtnfgeekaeegolaaSepH
/-! own slices of rows: a row is stored, a part is cleared -/
namespace Go.Own
open Go Go.RowKit
section
variable {P : Program} {ops : Array Oper} {l : List Oper} {o : Oper} {A : Act} {Q : Exit → Act → World → Prop} {w0 w : World} {X : Nat → Prop} {cs : List HP} {c : HP} {d : Tmp} {n s : Nat} {v v1 : Value} {xs ys : List Value} {x y : Operand} {T dT el : TypeId}
theorem zeroCells_rep {zs : List Value} (hz : 0 < zs.length) : ∀ n : Nat, (Builtin.zeroCells zs.toArray n).toList = (List.replicate n zs).flatten := by
  intro n
  apply List.ext_getElem?
  intro i
  have hl : (Builtin.zeroCells zs.toArray n).toList.length = n * zs.length := by simp [Builtin.zeroCells]
  have hl2 : ((List.replicate n zs).flatten).length = n * zs.length := by simp [List.length_flatten]
  by_cases hi : i < n * zs.length
  · have hmod := Nat.mod_lt i hz
    have h1 : (Builtin.zeroCells zs.toArray n).toList[i]? = some (zs[i % zs.length]'hmod) := by
      simp [Builtin.zeroCells, hi]
      rw [List.getElem?_eq_getElem hmod]; rfl
    rw [h1]
    clear h1 hl hl2
    symm
    induction n generalizing i with
    | zero => omega
    | succ n ih =>
      rw [List.replicate_succ, List.flatten_cons]
      by_cases q : i < zs.length
      · rw [List.getElem?_append_left q, List.getElem?_eq_getElem q]
        simp [Nat.mod_eq_of_lt q]
      · rw [List.getElem?_append_right (by omega)]
        have hm2 : (i - zs.length) % zs.length = i % zs.length := by
          rw [← Nat.mod_eq_sub_mod (by omega)]
        have := ih (i - zs.length) (by rw [Nat.add_mul] at hi; omega) (Nat.mod_lt _ hz)
        rw [this]; simp [hm2]
  · rw [List.getElem?_eq_none (by omega), List.getElem?_eq_none (by omega)]
end
end Go.Own
