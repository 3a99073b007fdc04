import Derived.Test.YtnfgeekaeegolaaSepU
import Derived.Test.YtnfgeekaeegolaaSepQ
/-! graphs as own memory -/
namespace Go.Own
open Go Go.RowKit
section
variable {w0 w : World} {X : Nat → Prop} {cs : List HP} {c d e g q a b a' g' q' : HP} {i j k m n : Nat}
end
section
variable {w0 w : World} {X : Nat → Prop}
end
section
variable {P : Program} {ops : Array Oper} {l' : List Oper} {o : Oper} {A : Act} {Q : Exit → Act → World → Prop} {w0 w : World} {X : Nat → Prop} {l : List HP} {cP cQ cR : HP} {O : List Ob} {kk f B Of C off : Nat} {y : Ob} {z : Int} {hv : Value} {T : TypeId} {x u : Operand}
end
section
variable {P : Program} {ops : Array Oper} {Q : Exit → Act → World → Prop} {n : Nat} {L : Array Bool} {A : Act} {w : World} {Z : Nat → Array Bool → Act → World → Prop}
end
end Go.Own

/-! sets of ints as maps to true; a sort of what may be nil -/
namespace Go.Own
open Go Go.Sort
def sM (L : List Int) : List (Int × Value) := L.map fun q => (q, .bool true)
/-- a set of ints of the call's own. -/
abbrev ms (v : Value) (L : List Int) : HP := mo .i64 v (sM L)
section
variable {P : Program} {ops : Array Oper} {l : List Oper} {o : Oper} {A : Act} {Q : Exit → Act → World → Prop} {w w0 : World} {X : Nat → Prop} {cs : List HP} {c : HP} {d : Tmp} {x y z : Operand}
end
/-- a sort over a slice of the call's own, nil if there is nothing. -/
theorem sort_St3 {P : Program} {f : FuncId} {w : World} {Y : Nat → Prop} {v : Value} {zs us : List Int} (hS : St w Y [io .i64 v zs] w) (hv : zs = [] → v = .slice none 0 0) (hu : us.length = zs.length)
    (h : ∀ g off cap, Holds (Value.int .i64) w g off zs.toArray → g < w.heap.size → Calls P f #[.slice (some ⟨g, off, none⟩) zs.length cap] w fun e w' => e = .returned (.tuple #[]) ∧ ∃ n os, w' = grow (putRow (Value.int .i64) (Sort.ahead w n) g off us.toArray) os)
    (hn : ∀ (p : Option Addr) (cap : Nat) (w : World), Calls P f #[.slice p 0 cap] w fun e w' => e = .returned (.tuple #[]) ∧ w' = w) :
    Calls P f #[v] w fun e w' => e = .returned (.tuple #[]) ∧ St w Y [io .i64 v us] w' := by
  by_cases h0 : zs = []
  · have hv' := hv h0
    have hu0 : us = [] := List.eq_nil_of_length_eq_zero (by rw [hu, h0]; rfl)
    rw [hv']
    refine (hn none 0 w).mono fun e w' ⟨he, hw⟩ => ⟨he, ?_⟩
    rw [hw, hu0, ← hv', ← h0]; exact hS
  · exact sort_St hS (List.length_pos_iff.2 h0) hu h
end Go.Own
