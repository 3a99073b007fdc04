import Derived.Test.YteppjefmlibmoaaSepG
import Derived.Laws.StructEq
/-! equality of structs of integers; what a table has -/
namespace Go.Own
open Go Go.RowKit
section
variable {P : Program} {w : World}
theorem run_part_int {t : TypeId} {k : IntKind} {cs : Array Value} {i : Nat} {v : Value} (ht : P.underlying t = some (.int k)) (h : cs[i]? = some v) : (part t cs i).run P w = .ok v w := by
  have hagg : (isAgg t).run P w = .ok false w := by unfold isAgg; rw [Sem.run_bind, run_underlying ht w]; rfl
  simp [part, hagg, h]
theorem eqFields_ints (d : Nat) (xs ys : Array Value) : ∀ (fs : List Field) (i : Nat) (l : List (IntKind × Int × Int)), (∀ (j : Nat) (f : Field), fs[j]? = some f → f.name ≠ "_" ∧ f.offset = i + j ∧ ∃ k, P.underlying f.type = some (.int k)) →
    (∀ (j : Nat) (p : IntKind × Int × Int), l[j]? = some p → xs[i + j]? = some (.int p.1 p.2.1) ∧ ys[i + j]? = some (.int p.1 p.2.2)) → fs.length = l.length → (Op.eqFields (d + 1) xs ys fs).run P w = .ok (l.all fun p => p.2.1 == p.2.2) w
  | [], i, l, _, _, hl => by
    have : l = [] := List.eq_nil_of_length_eq_zero hl.symm
    subst this; rfl
  | f :: fs, i, [], _, _, hl => by simp at hl
  | f :: fs, i, p :: l, hf, hp, hl => by
    obtain ⟨h1, h2, k, h3⟩ := hf 0 f rfl
    obtain ⟨q1, q2⟩ := hp 0 p rfl
    simp only [Nat.add_zero] at h2 q1 q2
    unfold Op.eqFields
    rw [if_pos h1, h2]
    simp only [Sem.run_bind, run_part_int h3 q1, run_part_int h3 q2, Result.andThen_ok, run_equalIn_int w d f.type p.1 k p.2.1 p.2.2 h3]
    have ih := eqFields_ints d xs ys fs (i + 1) l (fun j f' h => by have := hf (j + 1) f' (by simpa using h); rwa [show i + (j + 1) = i + 1 + j by omega] at this)
      (fun j p' h => by have := hp (j + 1) p' (by simpa using h); rwa [show i + (j + 1) = i + 1 + j by omega] at this) (by simpa using hl)
    by_cases h : p.2.1 = p.2.2
    · simp [h, ih]
    · simp [h]
def stI (P : Program) (t n : Nat) : Bool := (match P.underlying t with
  | some (.struct fs) => fs.size == n && (List.range n).all fun j => match fs[j]? with
    | some f => f.name != "_" && f.offset == j && (match P.underlying f.type with | some (.int _) => true | _ => false)
    | none => false
  | _ => false) && !P.stoodInHeld t && !P.eqGuardType P.depth t
theorem run_eqSt {t n : Nat} {xs ys : Array Value} (h : stI P t n = true) (l : List (IntKind × Int × Int)) (hl : l.length = n) (hp : ∀ (j : Nat) (p : IntKind × Int × Int), l[j]? = some p → xs[j]? = some (.int p.1 p.2.1) ∧ ys[j]? = some (.int p.1 p.2.2)) :
    (Op.equalIn 10000 t (.agg xs) (.agg ys)).run P w = .ok (l.all fun p => p.2.1 == p.2.2) w ∧ P.eqGuardType P.depth t = false := by
  unfold stI at h
  simp only [Bool.and_eq_true, Bool.not_eq_true'] at h
  obtain ⟨⟨h1, h2⟩, h3⟩ := h
  refine ⟨?_, h3⟩
  split at h1
  · rename_i fs hu
    have hfs : P.fieldsOf t = fs := by unfold Program.fieldsOf; rw [hu]
    rw [run_equalIn_struct w 9999 t xs ys (by rw [hfs]; exact hu) h2, hfs]
    simp only [Bool.and_eq_true, beq_iff_eq, List.all_eq_true, List.mem_range] at h1
    refine eqFields_ints 9998 xs ys fs.toList 0 l (fun j f hf => ?_) (fun j p h => by simpa using hp j p h) (by simp [h1.1, hl])
    have hlt := (List.getElem?_eq_some_iff.1 hf).1
    have := h1.2 j (by simp at hlt; omega)
    have hf' : fs[j]? = some f := by simpa using hf
    rw [hf'] at this
    simp only [Bool.and_eq_true, bne_iff_ne, beq_iff_eq] at this
    obtain ⟨⟨a, b⟩, c⟩ := this
    refine ⟨a, by omega, ?_⟩
    split at c
    · exact ⟨_, by assumption⟩
    · cases c
  · cases h1
variable {A : Act} {o : Oper} {x y : Operand} {t t' : TypeId} {k0 k1 k2 : IntKind} {a0 a1 a2 b0 b1 b2 : Int}
end
section
variable {α : Type} {P : Program} {A : Act} {o : Oper} {x p : Operand} {t e n s : Nat} {kd : IntKind} {z : Int}
end
/-! order by order: what looks at no memory comes first; the ends are joined -/
section
variable {P : Program} {ops : Array Oper} {Q : Exit → Act → World → Prop} {fuel : Nat} {listed : Array Bool} {A : Act} {w : World} {o : Oper} {d : Tmp} {v : Value}
theorem AX_first {i : Nat} (hr : (Region.ready .any ops listed).contains i = true) (hf : Region.free .any ops listed i = true) (hs : Region.noSelect ops = true) (ho : ops[i]? = some o) (hd : o.dst = some d) (hw : Region.wanted o (yielded ops A.tmps) = true) (hx : Val P A o v)
    (h : AX P ops (Qo Q) fuel (listed.setIfInBounds i true) (PT A d v) w) : AX P ops (Qo Q) (fuel + 1) listed A w := by
  refine ⟨wpAny_first ho (Region.noSelect_spec hs) (fun c a w h => h.elim) fuel listed A w (fun j oj hj hne hun hno => Region.free_spec ho hf j oj hj hne hun hno) (by simpa using hr) (.inl ⟨hw, fun w => ex_ev (hx w)⟩) ?_⟩
  have := h.out
  rw [hd]; exact this
theorem join_R {r : Option Nat} {c : Code} {R : Act → World → Prop} (h : wpR r P c (fun x A w => match x with | .normal => R A w | _ => False) A w) (k : ∀ A w, R A w → Q .normal A w) : wpR r P c Q A w :=
  wpIn_mono h fun x a w hx => by cases x <;> first | exact k _ _ hx | exact hx.elim
end
theorem St.left {w0 w : World} {X : Nat → Prop} {a b : List HP} (h : St w0 X (a ++ b) w) : St w0 X a w := by
  obtain ⟨fs, h1, h2, h3⟩ := h.sat
  refine ⟨h.ext, fun i b' => i < a.length ∧ fs i b', fun i c hc => ?_, fun i b' hb => ⟨hb.1, (h2 i b' hb.2).2⟩, fun i j b' hi hj => h3 i j b' hi.2 hj.2⟩
  have hi := (List.getElem?_eq_some_iff.1 hc).1
  have := h1 i c (by rw [List.getElem?_append_left hi]; exact hc)
  have e : fs i = fun b' => i < a.length ∧ fs i b' := by funext b'; simp [hi]
  exact (congrArg (c.p w) e).mp this
end Go.Own
