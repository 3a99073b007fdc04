import Derived.Test.YtpgkfndbfocibaaGreatSepG
import Derived.Laws.StructEq
namespace Go.Own
open Go Go.RowKit
section
variable {P : Program} {w : World}
variable {A : Act} {o : Oper} {x y : Operand} {t t' : TypeId} {k0 k1 k2 : IntKind} {a0 a1 a2 b0 b1 b2 : Int}
end
section
variable {α : Type} {P : Program} {A : Act} {o : Oper} {x p : Operand} {t e n s : Nat} {kd : IntKind} {z : Int}
theorem V_ixvT {f : α → Value} {xs : List α} {y : α} {de : TypeDesc} (k : Nat) (ho : o.op = .index t x p) (hx : EV A x = .agg ((xs.map f).toArray)) (hp : EV A p = .int kd z) (hz : z = (k : Int)) (hu : P.underlying t = some (.array n e)) (hn : xs.length = n) (hy : xs[k]? = some y)
  (hd : P.underlying e = some de) (ha : (match de with | .struct _ | .array _ _ => true | _ => false) = false) (hi : (P.info? e).map (·.size) = some 1) : Val P A o (f y) := fun w => by
 cases hq : P.info? e with
 | none => simp [hq] at hi
 | some inf =>
  have hs : inf.size = 1 := by simpa [hq] using hi
  have hk : k < n := by rw [← hn]; exact (List.getElem?_eq_some_iff.1 hy).1
  have hagg : (isAgg e).run P w = .ok false w := by
   unfold isAgg
   rw [Sem.run_bind, run_underlying hd w]
   cases de <;> simp_all
  have hpart : (part e ((xs.map f).toArray) k).run P w = .ok (f y) w := by simp [part, hagg, hy]
  subst hz
  unfold execOp
  simp [ho, hx, hp, Instr.index, asIntOf, run_underlying hu, sizeOf, typeInfo, hq, hs, hk, hpart]
theorem V_ixvR {fn : α → List Value} {xs : List α} {y : α} {de : TypeDesc} (hs : ∀ a, (fn a).length = s) (k : Nat) (ho : o.op = .index t x p) (hx : EV A x = .agg ((xs.flatMap fn).toArray)) (hp : EV A p = .int kd z) (hz : z = (k : Int)) (hu : P.underlying t = some (.array n e)) (hn : xs.length = n) (hy : xs[k]? = some y)
  (hd : P.underlying e = some de) (ha : (match de with | .struct _ | .array _ _ => true | _ => false) = true) (hi : (P.info? e).map (·.size) = some s) : Val P A o (.agg (fn y).toArray) := fun w => by
 cases hq : P.info? e with
 | none => simp [hq] at hi
 | some inf =>
  have hsz : inf.size = s := by simpa [hq] using hi
  have hk : k < n := by rw [← hn]; exact (List.getElem?_eq_some_iff.1 hy).1
  have hagg : (isAgg e).run P w = .ok true w := by
   unfold isAgg
   rw [Sem.run_bind, run_underlying hd w]
   cases de <;> simp_all
  have hcells : ((xs.flatMap fn).toArray).extract (k * s) (k * s + s) = (fn y).toArray := by
   apply Array.ext'
   rw [Array.toList_extract, List.toList_toArray, List.extract_eq_take_drop, show k * s + s - k * s = 1 * s by omega, flat_drop hs, flat_take hs]
   have hlt : k < xs.length := by omega
   rw [List.drop_eq_getElem_cons hlt]
   have : xs[k] = y := (List.getElem?_eq_some_iff.1 hy).2
   simp [this]
  have hpart : (part e ((xs.flatMap fn).toArray) (k * s)).run P w = .ok (.agg (fn y).toArray) w := by
   simp only [part, Sem.run_bind, hagg, Result.andThen_ok, if_true]
   simp only [sizeOf, typeInfo, Sem.run_bind, run_program, Result.andThen_ok, hq, Sem.run_pure, hsz, hcells]
  subst hz
  unfold execOp
  simp [ho, hx, hp, Instr.index, asIntOf, run_underlying hu, sizeOf, typeInfo, hq, hsz, hk, hpart]
end
section
variable {P : Program} {ops : Array Oper} {Q : Exit → Act → World → Prop} {fuel : Nat} {listed : Array Bool} {A : Act} {w : World} {o : Oper} {d : Tmp} {v : Value}
theorem region_anyQ {id : Nat} {l : List Oper} (hm : P.follows .mixedOrders = true) (n : Nat) (hn : l.toArray.size = n) (h : ∀ w', Ext w w' → AX P l.toArray (Qo Q) n (Array.replicate n false) A w') : (Code.region id l.toArray true).wp P Q A w :=
 wp_mono (Q := Qo Q) (region_any hm n hn h) fun x a w hx => by cases x <;> first | exact hx | exact hx.elim
end
theorem St.left {w0 w : World} {X : Nat → Prop} {a b : List HP} (h : St w0 X (a ++ b) w) : St w0 X a w := by
 obtain ⟨fs, h1, h2, h3⟩ := h.sat
 refine ⟨h.ext, fun i b' => i < a.length ∧ fs i b', fun i c hc => ?_, fun i b' hb => ⟨hb.1, (h2 i b' hb.2).2⟩, fun i j b' hi hj => h3 i j b' hi.2 hj.2⟩
 have hi := (List.getElem?_eq_some_iff.1 hc).1
 have := h1 i c (by rw [List.getElem?_append_left hi]; exact hc)
 have e : fs i = fun b' => i < a.length ∧ fs i b' := by funext b'; simp [hi]
 exact (congrArg (c.p w) e).mp this
end Go.Own
