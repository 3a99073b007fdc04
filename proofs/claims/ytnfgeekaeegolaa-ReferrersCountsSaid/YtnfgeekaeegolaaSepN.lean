import Derived.Test.YtnfgeekaeegolaaSepB
import Derived.Maps.RangeRun
/-! maps as they lie: opened to their entries; a range over one; an entry that is there is written -/
namespace Go.Own
open Go
/-- the entries of a map that lie so. -/
structure MapOk (k : IntKind) (es : Array MapEntry) (clock : Nat) (m : List (Int × Value)) : Prop where
  enc : es.toList.map (fun e => (e.key, e.val)) = encM k m
  nd : (es.toList.map fun e : MapEntry => e.born).Nodup
  lt : ∀ e ∈ es.toList, e.born < clock
section
variable {w0 w : World} {X : Nat → Prop} {l cs : List HP} {k : IntKind} {m : List (Int × Value)} {c : HP} {v : Value} {g : Nat}
end
/-- what is left to a range. -/
def Lf (k : IntKind) (es : Array MapEntry) (seen : Array Nat) (L : List (Int × Value)) : Prop := (leftOf es seen).toList.map (fun e => (e.key, e.val)) = encM k L
/-- an iterator over a map that lies at g, with what is left, and the entry that came last. -/
def mitP (k : IntKind) (r g : Nat) (es : Array MapEntry) (clock : Nat) (cur : Option (Int × Value)) (L : List (Int × Value)) (w : World) (f : Nat → Prop) : Prop :=
  ∃ seen : Array Nat, f r ∧ w.heap[r]? = some (.mapIter (some g) clock seen clock) ∧ Lf k es seen L ∧ ∀ q u, cur = some (q, u) → ∃ (s : Array Nat) (e : MapEntry), seen = s.push e.born ∧ e ∈ es.toList ∧ e.key = .int k q ∧ e.val = u
def mit (k : IntKind) (r g : Nat) (es : Array MapEntry) (clock : Nat) (cur : Option (Int × Value)) (L : List (Int × Value)) : HP where
  p := mitP k r g es clock cur L
  loc := fun ⟨seen, h1, h2, h3⟩ _ hb => ⟨seen, h1, (hb r h1).trans h2, h3⟩
theorem mem_enc {k : IntKind} {m : List (Int × Value)} : ∀ {es : List MapEntry}, es.map (fun e => (e.key, e.val)) = encM k m → ∀ {i : Nat} {e : MapEntry}, es[i]? = some e → ∃ q u, m[i]? = some (q, u) ∧ e.key = .int k q ∧ e.val = u := by
  intro es h i e he
  have := congrArg (fun l => l[i]?) h
  simp only [List.getElem?_map, he, encM, Option.map_some] at this
  cases hm : m[i]? with
  | none => rw [hm] at this; cases this
  | some p =>
    rw [hm] at this
    simp only [Option.map_some, Option.some.injEq, Prod.mk.injEq] at this
    exact ⟨p.1, p.2, rfl, this.1, this.2⟩
theorem map_erase {α β : Type} (f : α → β) : ∀ (l : List α) (i : Nat), (l.eraseIdx i).map f = (l.map f).eraseIdx i
  | [], i => rfl
  | a :: l, 0 => rfl
  | a :: l, i + 1 => by simp [map_erase f l i]
theorem leftOf_push {es : Array MapEntry} {seen : Array Nat} (hn : (es.toList.map fun e : MapEntry => e.born).Nodup) {e : MapEntry} {i : Nat} (he : (leftOf es seen).toList[i]? = some e) : (leftOf es (seen.push e.born)).toList = (leftOf es seen).toList.eraseIdx i := by
  unfold leftOf at *
  simp only [Array.toList_filter] at *
  have h1 : es.toList.filter (fun x => !(seen.push e.born).contains x.born) = (es.toList.filter fun x => !seen.contains x.born).filter fun x => x.born != e.born := by
    rw [List.filter_filter]
    refine List.filter_congr fun x _ => ?_
    rw [Array.contains_push]
    cases h : (x.born == e.born) <;> simp [bne, h]
  rw [h1]
  have hn2 : ((es.toList.filter fun x => !seen.contains x.born).map (·.born)).Nodup := hn.sublist ((List.filter_sublist).map _)
  generalize es.toList.filter (fun x => !seen.contains x.born) = L at he hn2
  clear h1 hn
  induction L generalizing i with
  | nil => simp at he
  | cons a L ih =>
    simp only [List.map_cons, List.nodup_cons] at hn2
    cases i with
    | zero =>
      simp at he; subst he
      rw [List.eraseIdx_cons_zero, List.filter_cons]
      simp only [bne_self_eq_false, Bool.false_eq_true, if_false]
      refine List.filter_eq_self.2 fun x hx => ?_
      have : x.born ≠ a.born := fun e => hn2.1 (by rw [← e]; exact List.mem_map.2 ⟨x, hx, rfl⟩)
      simpa using this
    | succ i =>
      have he' : L[i]? = some e := by simpa using he
      have hne : a.born ≠ e.born := fun q => hn2.1 (by rw [q]; exact List.mem_map.2 ⟨e, List.mem_of_getElem? he', rfl⟩)
      rw [List.eraseIdx_cons_succ, List.filter_cons, ← ih he' hn2.2]
      simp [hne]
section
variable {P : Program} {ops : Array Oper} {l : List Oper} {o : Oper} {A : Act} {Q : Exit → Act → World → Prop} {w w0 : World} {X : Nat → Prop} {cs : List HP} {c : HP} {d : Tmp} {x y z : Operand}
theorem setBlock_put {w : World} {r : Nat} {o : Obj} : ChangeMaps.setBlock w r o = w.putObj r o := rfl
end
end Go.Own
