import Derived.Test.YtdilbnmaihmgnaaSepG
import Derived.Laws.StructEq
/-! equality of structs of integers; what a table has -/
namespace Go.Own
open Go Go.RowKit
section
variable {P : Program} {w : World}
def stI (P : Program) (t n : Nat) : Bool := (match P.underlying t with
  | some (.struct fs) => fs.size == n && (List.range n).all fun j => match fs[j]? with
    | some f => f.name != "_" && f.offset == j && (match P.underlying f.type with | some (.int _) => true | _ => false)
    | none => false
  | _ => false) && !P.stoodInHeld t && !P.eqGuardType P.depth t
variable {A : Act} {o : Oper} {x y : Operand} {t t' : TypeId} {k0 k1 k2 : IntKind} {a0 a1 a2 b0 b1 b2 : Int}
end
section
variable {α : Type} {P : Program} {A : Act} {o : Oper} {x p : Operand} {t e n s : Nat} {kd : IntKind} {z : Int}
end
/-! order by order: what looks at no memory comes first; the ends are joined -/
section
variable {P : Program} {ops : Array Oper} {Q : Exit → Act → World → Prop} {fuel : Nat} {listed : Array Bool} {A : Act} {w : World} {o : Oper} {d : Tmp} {v : Value}
theorem AX_first {i : Nat} (hr : (Region.ready .any ops listed).contains i = true) (hf : Region.free .any ops listed i = true) (hs : Region.noSelect ops = true) (ho : ops[i]? = some o) (hd : o.dst = some d) (hw : Region.wanted o (yielded ops A.tmps) = true) (hx : Val P A o v)
    (h : AX P ops (Qo Q) fuel (listed.setIfInBounds i true) (PT A d v) w) : AX P ops (Qo Q) (fuel + 1) listed A w := by
  refine ⟨wpAny_first ho (Region.noSelect_spec hs) (fun c a w h => h.elim) fuel listed A w (fun j oj hj hne hun hno => Region.free_spec ho hf j oj hj hne hun hno) (by simpa using hr) (.inl ⟨hw, fun w => ex_ev (hx w)⟩) ?_⟩
  have := h.out
  rw [hd]; exact this
theorem region_anyQ {id : Nat} {l : List Oper} (hm : P.follows .mixedOrders = true) (n : Nat) (hn : l.toArray.size = n) (h : ∀ w', Ext w w' → AX P l.toArray (Qo Q) n (Array.replicate n false) A w') : (Code.region id l.toArray true).wp P Q A w :=
  wp_mono (Q := Qo Q) (region_any hm n hn h) fun x a w hx => by cases x <;> first | exact hx | exact hx.elim
theorem join_wp {c : Code} {R : Act → World → Prop} (h : c.wp P (fun x A w => match x with | .normal => R A w | _ => False) A w) (k : ∀ A w, R A w → Q .normal A w) : c.wp P Q A w :=
  wp_mono h fun x a w hx => by cases x <;> first | exact k _ _ hx | exact hx.elim
theorem AX_4 {i j m q : Nat} {o p r s : Oper} (hr : Region.ready .any ops listed = [i, j, m, q]) (ho : ops[i]? = some o) (hp : ops[j]? = some p) (hq : ops[m]? = some r) (hs : ops[q]? = some s) (h1 : WX P ops (KQ (AX P ops Q fuel (listed.setIfInBounds i true)) Q) [o] A w)
    (h2 : WX P ops (KQ (AX P ops Q fuel (listed.setIfInBounds j true)) Q) [p] A w) (h3 : WX P ops (KQ (AX P ops Q fuel (listed.setIfInBounds m true)) Q) [r] A w) (h4 : WX P ops (KQ (AX P ops Q fuel (listed.setIfInBounds q true)) Q) [s] A w) : AX P ops Q (fuel + 1) listed A w := by
  refine ⟨fun h0 => (by rw [h0] at hr; cases hr), fun k hk => ?_⟩
  rw [hr] at hk
  obtain rfl | rfl | rfl | rfl : k = i ∨ k = j ∨ k = m ∨ k = q := by simpa using hk
  · exact wpOp_mono (fun a w h => h.out) (op_any ho h1)
  · exact wpOp_mono (fun a w h => h.out) (op_any hp h2)
  · exact wpOp_mono (fun a w h => h.out) (op_any hq h3)
  · exact wpOp_mono (fun a w h => h.out) (op_any hs h4)
end
theorem St.left {w0 w : World} {X : Nat → Prop} {a b : List HP} (h : St w0 X (a ++ b) w) : St w0 X a w := by
  obtain ⟨fs, h1, h2, h3⟩ := h.sat
  refine ⟨h.ext, fun i b' => i < a.length ∧ fs i b', fun i c hc => ?_, fun i b' hb => ⟨hb.1, (h2 i b' hb.2).2⟩, fun i j b' hi hj => h3 i j b' hi.2 hj.2⟩
  have hi := (List.getElem?_eq_some_iff.1 hc).1
  have := h1 i c (by rw [List.getElem?_append_left hi]; exact hc)
  have e : fs i = fun b' => i < a.length ∧ fs i b' := by funext b'; simp [hi]
  exact (congrArg (c.p w) e).mp this
end Go.Own
