import Derived.Test.YteppjefmlibmoaaSepG
/-! maps keyed by integers: the map's value v, its entries in the order they came -/
namespace Go.Own
open Go
def encM (k : IntKind) (m : List (Int × Value)) : List (Value × Value) := m.map fun p => (.int k p.1, p.2)
def mget (m : List (Int × Value)) (x : Int) : Option Value := (m.find? fun p => p.1 == x).map (·.2)
def mset (m : List (Int × Value)) (x : Int) (v : Value) : List (Int × Value) := if (mget m x).isSome then m.map (fun p => if p.1 = x then (x, v) else p) else m ++ [(x, v)]
/-- a map of the call's own (nil: no entry). -/
def mo (k : IntKind) (v : Value) (m : List (Int × Value)) : HP where
  p := fun w f => (v = .map none ∧ m = []) ∨ ∃ g es clock, v = .map (some g) ∧ f g ∧ w.heap[g]? = some (.map es clock) ∧ es.toList.map (fun e => (e.key, e.val)) = encM k m ∧ (es.toList.map fun e : MapEntry => e.born).Nodup ∧ ∀ e ∈ es.toList, e.born < clock
  loc := fun h _ hb => h.elim (fun h => .inl h) fun ⟨g, es, clock, h1, h2, h3, h4⟩ => .inr ⟨g, es, clock, h1, h2, (hb g h2).trans h3, h4⟩
section
variable {P : Program} {ops : Array Oper} {l : List Oper} {o : Oper} {A : Act} {Q : Exit → Act → World → Prop} {w w0 : World} {X : Nat → Prop} {cs : List HP} {c : HP} {d : Tmp} {x y z : Operand}
theorem run_getObj_m {P : Program} {w : World} {r : Nat} {es : Array MapEntry} {clock : Nat} (hb : w.heap[r]? = some (.map es clock)) : (getObj r).run P w = .ok (.map es clock) w := by
  simp [getObj, Sem.run, hb]
theorem run_setObj_m {P : Program} {w : World} {r : Nat} {es : Array MapEntry} {clock : Nat} (o : Obj) (hb : w.heap[r]? = some (.map es clock)) : (setObj r o).run P w = .ok () (w.putObj r o) := by
  simp [setObj, Sem.run, hb, World.putObj]
theorem V_eqNilS {wS : World} {t t' e : TypeId} {s n : Nat} {v : Value} {xs : List Value} (ho : o.op = .binOp .eql t x y t') (hx : EV A x = v) (hy : EV A y = .slice none 0 0) (h : SlN wS s v n xs) (hn : 0 < n) (ht : P.underlying t = some (.slice e)) : Val P A o (.bool false) := fun w => by
  obtain ⟨B, O, C, rfl⟩ := h.blk hn
  have hq : (Op.equal t (.slice (some ⟨B, O, none⟩) n C) (.slice none 0 0)).run P w = .ok false w := by
    show (Op.equal t _ _).run P w = _
    unfold Op.equal Op.maxDepth Op.equalIn
    simp [run_underlying ht w]
  unfold execOp
  simp [ho, hx, hy, eqGuard, binOp, hq]
end
/-! maps from ints to ints -/
def iM (m : List (Int × Int)) : List (Int × Value) := m.map fun p => (p.1, .int .i64 p.2)
def lkN (m : List (Int × Int)) (q : Int) : Int := ((m.find? fun p => p.1 == q).map (·.2)).getD 0
def lkB (m : List (Int × Int)) (q : Int) : Bool := (m.find? fun p => p.1 == q).isSome
/-- a map from ints to ints of the call's own. -/
abbrev mi (v : Value) (m : List (Int × Int)) : HP := mo .i64 v (iM m)
section
variable {P : Program} {ops : Array Oper} {l : List Oper} {o : Oper} {A : Act} {Q : Exit → Act → World → Prop} {w w0 : World} {X : Nat → Prop} {cs : List HP} {c : HP} {d : Tmp} {x y z : Operand}
end
end Go.Own
