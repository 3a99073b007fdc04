import Derived.Test.YtpgkfndbfocibaaGreatSepO
namespace Go.Own
open Go Go.RowKit
section
variable {P : Program} {A : Act} {o : Oper} {x y : Operand}
def nilB (v : Value) : Bool := match v with | .slice a _ _ => a.isNone | _ => false
theorem V_eqNilB {wS : World} {t t' e : TypeId} {s n : Nat} {v : Value} {xs : List Value} (ho : o.op = .binOp .eql t x y t') (hx : EV A x = v) (hy : EV A y = .slice none 0 0) (h : SlN wS s v n xs) (ht : P.underlying t = some (.slice e)) : Val P A o (.bool (nilB v)) := fun w => by
 obtain ⟨a, cap, rfl, _⟩ := h
 have hq : (Op.equal t (.slice a n cap) (.slice none 0 0)).run P w = .ok (nilB (.slice a n cap)) w := by
  unfold Op.equal Op.maxDepth Op.equalIn
  cases a <;> simp [run_underlying ht w, nilB]
 unfold execOp
 simp [ho, hx, hy, eqGuard, binOp, hq]
theorem nilB_len {w : World} {s n : Nat} {v : Value} {xs : List Value} (h : SlN w s v n xs) (hb : nilB v = true) : n = 0 := by
 obtain ⟨a, cap, rfl, _, _, _, h4, _⟩ := h
 cases a with
 | none => exact h4 rfl
 | some b => simp [nilB] at hb
theorem V_eqPN {t t' e : TypeId} {a : Addr} (ho : o.op = .binOp .eql t x y t') (hx : EV A x = .pointer (some a)) (hy : EV A y = .pointer none) (ht : P.underlying t = some (.pointer e)) : Val P A o (.bool false) := fun w => by
 have hq : (Op.equal t (.pointer (some a)) (.pointer none)).run P w = .ok false w := by
  unfold Op.equal Op.maxDepth Op.equalIn
  simp [run_underlying ht w]
 unfold execOp
 simp [ho, hx, hy, eqGuard, binOp, hq]
theorem V_eqNN {t t' e : TypeId} (ho : o.op = .binOp .eql t x y t') (hx : EV A x = .pointer none) (hy : EV A y = .pointer none) (ht : P.underlying t = some (.pointer e)) : Val P A o (.bool true) := fun w => by
 have hq : (Op.equal t (.pointer none) (.pointer none)).run P w = .ok true w := by
  unfold Op.equal Op.maxDepth Op.equalIn
  simp [run_underlying ht w]
 unfold execOp
 simp [ho, hx, hy, eqGuard, binOp, hq]
end
end Go.Own

namespace Go.Own
open Go Go.RowKit
abbrev Ob := (Value × List Int) × (Value × List Int)
def obC (o : Ob) : List Value := [o.1.1, o.2.1]
theorem obC_len : ∀ a : Ob, (obC a).length = 2 := fun _ => rfl
def ab (o : Ob) : List Int × List Int := (o.1.2, o.2.2)
def nst (L : List Ob) : HP where
 p w f := ∀ o ∈ L, (il .i64 o.1.1 o.1.2).p w f ∧ (il .u64 o.2.1 o.2.2).p w f
 loc := fun h h1 h2 o ho => ⟨(il .i64 o.1.1 o.1.2).loc (h o ho).1 h1 h2, (il .u64 o.2.1 o.2.2).loc (h o ho).2 h1 h2⟩
section
variable {w0 w : World} {X : Nat → Prop} {l : List HP} {L : List Ob} {k : Nat} {y : Ob}
theorem nst_ro1 (h : Ro w0 X (nst L)) (hy : L[k]? = some y) : Ro w0 X (il .i64 y.1.1 y.1.2) := let ⟨f, h1, h2⟩ := h; ⟨f, (h1 y (List.mem_of_getElem? hy)).1, h2⟩
theorem nst_ro2 (h : Ro w0 X (nst L)) (hy : L[k]? = some y) : Ro w0 X (il .u64 y.2.1 y.2.2) := let ⟨f, h1, h2⟩ := h; ⟨f, (h1 y (List.mem_of_getElem? hy)).2, h2⟩
theorem nst_at1 (h : (nst L).at w) (hy : L[k]? = some y) : (il .i64 y.1.1 y.1.2).at w := let ⟨f, h1⟩ := h; ⟨f, (h1 y (List.mem_of_getElem? hy)).1⟩
theorem nst_at2 (h : (nst L).at w) (hy : L[k]? = some y) : (il .u64 y.2.1 y.2.2).at w := let ⟨f, h1⟩ := h; ⟨f, (h1 y (List.mem_of_getElem? hy)).2⟩
theorem sl_mono {s n : Nat} {v : Value} {xs : List Value} {f g : Nat → Prop} (h : (sl s n v xs).p w f) (hfg : ∀ b, f b → g b) : (sl s n v xs).p w g := by
 obtain ⟨a, cap, h0, h1, h2, h3, h4, h5⟩ := h
 exact ⟨a, cap, h0, h1, h2, h3, h4, fun b e => ⟨(h5 b e).1, fun j x hj => ⟨hfg _ ((h5 b e).2 j x hj).1, ((h5 b e).2 j x hj).2⟩⟩⟩
theorem owl_rd {k : IntKind} {M : List (Value × List Int)} {f : Nat → Prop} {i : Nat} {z : Value × List Int} (hz : M[i]? = some z) (h : (owl k M).p w f) : (il k z.1 z.2).p w f := by
 obtain ⟨fs, q1, q2, _⟩ := h
 exact sl_mono (ow_sl (q1 i z hz)) fun b hb => (q2 i b hb).2
theorem mapE {α β : Type} {g : α → β} {xs : List α} {k : Nat} {y : α} (h : xs[k]? = some y) : (xs.map g)[k]? = some (g y) := by rw [List.getElem?_map, h]; rfl
theorem nst_of (h1 : Ro w0 X (owl .i64 (L.map (·.1)))) (h2 : Ro w0 X (owl .u64 (L.map (·.2)))) : Ro w0 X (nst L) := by
 obtain ⟨f, p1, p2⟩ := h1
 obtain ⟨g, q1, q2⟩ := h2
 refine ⟨fun b => f b ∨ g b, fun o ho => ?_, fun b hb => hb.elim (p2 b) (q2 b)⟩
 obtain ⟨k, hk⟩ := List.mem_iff_getElem?.1 ho
 exact ⟨sl_mono (owl_rd (mapE hk) p1) fun b => .inl, sl_mono (owl_rd (mapE hk) q1) fun b => .inr⟩
theorem nst_push {pv qv : Value} {ps qs : List Int} {O : List Ob} (h : St w0 X (io .i64 pv ps :: owl .i64 (O.map (·.1)) :: io .u64 qv qs :: owl .u64 (O.map (·.2)) :: l) w) :
  St w0 X (owl .i64 ((O ++ [((pv, ps), (qv, qs))]).map (·.1)) :: owl .u64 ((O ++ [((pv, ps), (qv, qs))]).map (·.2)) :: l) w := by
 have h1 := owl_push h
 have h2 : St w0 X ([io .u64 qv qs, owl .u64 (O.map fun o : Ob => o.2), owl .i64 ((O.map fun o : Ob => o.1) ++ [(pv, ps)])] ++ l) w := St.selR (l := [owl .i64 ((O.map fun o : Ob => o.1) ++ [(pv, ps)]), io .u64 qv qs, owl .u64 (O.map fun o : Ob => o.2)]) (fr := l) h1 [1, 2, 0] (by decide) (by rfl) rfl
 have h3 := owl_push h2
 have h4 : St w0 X ([owl .i64 ((O.map fun o : Ob => o.1) ++ [(pv, ps)]), owl .u64 ((O.map fun o : Ob => o.2) ++ [(qv, qs)])] ++ l) w := St.selR (l := [owl .u64 ((O.map fun o : Ob => o.2) ++ [(qv, qs)]), owl .i64 ((O.map fun o : Ob => o.1) ++ [(pv, ps)])]) (fr := l) h3 [1, 0] (by decide) (by rfl) rfl
 simpa using h4
theorem nst_nils (h : St w0 X l w) : St w0 X (owl .i64 (([] : List Ob).map (·.1)) :: owl .u64 (([] : List Ob).map (·.2)) :: l) w := owl_nils 0 (owl_nils 0 h)
theorem set_obC {O : List Ob} {k : Nat} {y y' : Ob} (hy : O[k]? = some y) (h1 : y'.1.1 = y.1.1) (h2 : y'.2.1 = y.2.1) {v : Value} : ro 2 obC v O = ro 2 obC v (O.set k y') := by
 have e : ∀ (O : List Ob) (k : Nat), O[k]? = some y → O.flatMap obC = (O.set k y').flatMap obC := by
  intro O
  induction O with
  | nil => intro k h; simp at h
  | cons a O ih =>
   intro k h
   cases k with
   | zero =>
    simp at h; subst h
    simp [obC, h1, h2]
   | succ k => simp only [List.set_cons_succ, List.flatMap_cons]; rw [← ih k (by simpa using h)]
 unfold ro
 rw [← e O k hy, List.length_set]
end
end Go.Own
namespace Go.Own
open Go Go.RowKit
theorem V_min {P : Program} {A : Act} {o : Oper} {x y : Operand} {k : IntKind} {a b : Int} {ts : Array TypeId} (ho : o.op = .call { callee := .builtin .min, args := #[x, y], argTypes := ts }) (hx : EV A x = .int k a) (hy : EV A y = .int k b) : Val P A o (.int k (if b < a then b else a)) := fun w => by
 unfold execOp; simp [ho, hx, hy, resolve, invoke, builtin, Builtin.min_, Builtin.min2]
end Go.Own
