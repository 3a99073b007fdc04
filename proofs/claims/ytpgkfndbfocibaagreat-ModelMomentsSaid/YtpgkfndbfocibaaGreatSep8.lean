import Derived.Test.YtpgkfndbfocibaaGreatSepB
import Derived.Maps.RangeRun
import Derived.Test.YtpgkfndbfocibaaGreatSepO
import Derived.Test.YtpgkfndbfocibaaGreatSepE
import Derived.Test.YtpgkfndbfocibaaGreatSepZ
namespace Go.Own
open Go
section
variable {w0 w : World} {X : Nat → Prop} {l cs : List HP} {k : IntKind} {m : List (Int × Value)} {c : HP} {v : Value} {g : Nat}
end
section
variable {P : Program} {ops : Array Oper} {l : List Oper} {o : Oper} {A : Act} {Q : Exit → Act → World → Prop} {w w0 : World} {X : Nat → Prop} {cs : List HP} {c : HP} {d : Tmp} {x y z : Operand}
end
end Go.Own

namespace Go.Own
open Go
section
variable {P : Program} {ops : Array Oper} {l : List Oper} {o : Oper} {A : Act} {Q : Exit → Act → World → Prop} {w w0 : World} {X : Nat → Prop} {cs : List HP} {c : HP} {d : Tmp} {x y z : Operand}
end
section
variable {P : Program} {ops : Array Oper} {l : List Oper} {o : Oper} {A : Act} {Q : Exit → Act → World → Prop} {w w0 : World} {X : Nat → Prop} {cs : List HP} {c : HP} {d : Tmp} {x y z : Operand}
end
abbrev KE := Int × (Value × List Int)
section
variable {w0 w : World} {X : Nat → Prop} {l : List HP} {c a : HP} {K : List KE} {q : Int} {u : Value} {zs : List Int}
end
section
variable {P : Program} {ops : Array Oper} {l : List Oper} {o : Oper} {A : Act} {Q : Exit → Act → World → Prop} {w w0 : World} {X : Nat → Prop} {cs : List HP} {c : HP} {d : Tmp} {x y z : Operand}
end
section
variable {P : Program} {ops : Array Oper} {w0 : World} {Φ : Nat → Option L.SPd} {e : Nat} {Z : Act → (Nat → L.SW → Prop) → Prop} {l : List Oper} {o : Oper} {i : Nat} {A A' : Act} {F : Nat → L.SW → Prop} {d : Tmp} {v : Value} {x y : Operand}
end
end Go.Own

namespace Go.Own
open Go Go.RowKit
abbrev SL := Value × List Int
def nsi (L : List SL) : HP where
 p w f := ∀ y ∈ L, (il .i64 y.1 y.2).p w f
 loc := fun h h1 h2 y hy => (il .i64 y.1 y.2).loc (h y hy) h1 h2
section
variable {w0 w : World} {X : Nat → Prop} {l : List HP} {L M : List SL} {k : Nat} {y : SL}
theorem nsi_at1 (h : (nsi L).at w) (hy : L[k]? = some y) : (il .i64 y.1 y.2).at w := let ⟨f, h1⟩ := h; ⟨f, h1 y (List.mem_of_getElem? hy)⟩
end
section
variable {P : Program} {ops : Array Oper} {l' : List Oper} {o : Oper} {A : Act} {Q : Exit → Act → World → Prop} {w0 w : World} {X : Nat → Prop} {l : List HP} {cN cP cR : HP} {L : List SL} {j B Of C off : Nat} {zs : List Int} {hv v : Value} {T : TypeId} {x u : Operand}
end
section
variable {P : Program} {A : Act} {o : Oper} {x y : Operand} {w : World}
theorem V_quo {t t' : TypeId} {k : IntKind} {a b : Int} (ho : o.op = .binOp .quo t x y t') (hx : EV A x = .int k a) (hy : EV A y = .int k b) (h0 : 0 ≤ a) (hb : 0 < b) (hr : k.wrap (a / b) = a / b) : Val P A o (.int k (a / b)) := fun w => by
 unfold execOp
 have hne : b ≠ 0 := by omega
 simp [ho, hx, hy, eqGuard_at_int, binOp, Op.intDiv, hne]
 rw [Int.tdiv_eq_ediv_of_nonneg h0]
 exact hr
theorem wrap_div {a b : Int} (h0 : 0 ≤ a) (h1 : a ≤ 9223372036854775807) (hb : 0 < b) : IntKind.i64.wrap (a / b) = a / b := by
 have h2 := Int.ediv_nonneg h0 (show 0 ≤ b by omega)
 have h3 : a / b ≤ a := Int.ediv_le_self b h0
 exact wrap_i64 (by omega) (by omega)
variable {ops : Array Oper} {l : List Oper} {Q : Exit → Act → World → Prop} {w0 : World} {X : Nat → Prop} {cs : List HP} {d : Tmp}
end
section
variable {P : Program} {w : World}
variable {ops : Array Oper} {l : List Oper} {o : Oper} {A : Act} {Q : Exit → Act → World → Prop} {w0 : World} {X : Nat → Prop} {cs : List HP} {c : HP} {d : Tmp} {x y z : Operand}
end
section
variable {P : Program} {Q : Exit → Act → World → Prop} {c : Code} {A : Act} {w : World} {r : Option Nat}
structure LW (P : Program) (c : Code) (Q : Exit → Act → World → Prop) (A : Act) (w : World) : Prop where
 out : ∀ (b : Frame) (k : List Item) (cs : List Frame), ∃ e a' w', Q e a' w' ∧ Arrives P (lone (b.at A (.code c :: .inLoop c :: k)) cs w) b k cs e a' w'
theorem loopL (h : LW P c Q A w) : (Code.loop c).wp P Q A w := by
 intro b k cs
 obtain ⟨e, a', w', hq, harr⟩ := h.out b k cs
 exact ⟨e, a', w', hq, .of_steps (.one step_loop) harr⟩
theorem LW_step (h : c.wp P (Exit.then (fun A' w' => LW P c Q A' w') Q) A w) : LW P c Q A w := ⟨by
 intro b k cs
 obtain ⟨e, a₁, w₁, hq, harr⟩ := h b (.inLoop c :: k) cs
 cases e with
 | normal =>
  obtain ⟨e₂, a₂, w₂, hq₂, harr₂⟩ := LW.out hq b k cs
  exact ⟨e₂, a₂, w₂, hq₂, .of_steps (Steps.trans harr (.one step_inLoop)) harr₂⟩
 | exit id => exact ⟨_, a₁, w₁, hq, .pass (x := .inLoop c) rfl (fun _ _ => .inl (by simp)) harr⟩
 | goto l => exact ⟨_, a₁, w₁, hq, .pass (x := .inLoop c) rfl (fun _ _ => .inl (by simp)) harr⟩
 | ret => exact ⟨_, a₁, w₁, hq, .pass (x := .inLoop c) rfl (fun _ _ => .inl (by simp)) harr⟩
 | panic ch => exact ⟨_, a₁, w₁, hq, .pass (x := .inLoop c) rfl (fun _ _ => .inl (by simp)) harr⟩
 | outgrown => exact ⟨_, a₁, w₁, hq, .pass (x := .inLoop c) rfl (fun _ _ => .inl (by simp)) harr⟩⟩
end
end Go.Own
