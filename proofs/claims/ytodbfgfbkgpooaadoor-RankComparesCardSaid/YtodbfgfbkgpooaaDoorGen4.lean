import Derived.Test.YtodbfgfbkgpooaaDoorGen3
namespace Go.Own
open Go Go.RowKit

/-- an array of n cells, one for each element. -/
def stA (P : Program) (T n : Nat) : Bool :=
  (match P.underlying T with
    | some (.array _ e) => (match P.info? e with | some ie => decide (ie.size = 1) | none => false)
    | _ => false) && (match P.info? T with | some i => (match i.zero with | some z => decide (z.cells.size = n) | none => false) | none => false)
theorem V_bldA {P : Program} {A : Act} {o : Oper} {T n : Nat} {parts : Array (Nat × Operand)} {ps : List (Nat × Value)} {z : Value} {cs : Array Value} (ho : o.op = .build T parts) (hp : (parts.map fun (i, x) => (i, EV A x)).toList = ps)
    (hT : stA P T n = true) (hone : ps.all (fun p => decide (p.1 < n) && p.2.oneCell') = true) (hz : (P.info? T).map (·.zero) = some (some z)) (hcs : ps.foldl (fun cs p => cs.setIfInBounds p.1 p.2) z.cells = cs) : Val P A o (.agg cs) := by
  refine V_bld ho hp ?_
  cases hq : P.info? T with
  | none => simp [hq] at hz
  | some i =>
    have hz' : i.zero = some z := by simpa [hq] using hz
    unfold stA at hT
    cases hu : P.underlying T with
    | none => simp [hu] at hT
    | some de =>
      cases de with
      | array m e =>
        simp only [hu, hq, hz', Bool.and_eq_true] at hT
        cases he : P.info? e with
        | none => simp [he] at hT
        | some ie =>
          simp only [he, decide_eq_true_eq] at hT
          obtain ⟨h1, h2⟩ := hT
          unfold Program.built
          simp only [hq, hu, hz', he, h1]
          subst hcs
          exact fill_fold n _ (fun i hi => by simp) ps _ h2 hone
      | _ => simp [hu] at hT
/-! stores through a slice: who shares the memory is unknown -/
theorem fre_idx {w : World} {B : Nat} {E : TypeId} {v : Value} {zs : List Int} (h : FreI w B E v zs) (k : Nat) (hk : k < zs.length) :
    ∃ b off cap cs, v = .slice (some ⟨b, off, none⟩) zs.length cap ∧ B ≤ b ∧ w.heap[b]? = some (.cells cs E (0, 0)) ∧ (decide (off + k < cs.size)) = true := by
  obtain ⟨b, off, cap, y, hv, hy, hc⟩ := at_ints h.1 k hk
  obtain ⟨h1, cs, h2⟩ := h.2 _ _ _ hv
  refine ⟨b, off, cap, cs, hv, h1, h2, ?_⟩
  rw [cell_of_row w b (off + k) cs E (0, 0) h2] at hc
  exact decide_eq_true (Array.getElem?_eq_some_iff.1 hc).1
theorem fre_set {w w' : World} {B g off : Nat} {E : TypeId} {v : Value} {zs : List Int} {cs : Array Value} {x : Int} (h : FreI w B E v zs) (t : Tch g w w') (hg : w.heap[g]? = some (.cells cs E (0, 0)))
    (hg' : w'.heap[g]? = some (.cells (cs.setIfInBounds off (.int .i64 x)) E (0, 0))) : ∃ zs', FreI w' B E v zs' := by
  by_cases hb : ∃ b n cap, v = .slice (some b) n cap ∧ b.block = g
  · obtain ⟨b, n, cap, rfl, rfl⟩ := hb
    obtain ⟨⟨a, cap', he, g1, g2, g3, g4, g5⟩, h2⟩ := h
    cases he
    obtain ⟨hs, hc⟩ := g5 b rfl
    refine ⟨(List.range zs.length).map fun j => if b.off + j = off then x else zs.getD j 0, ⟨some b, cap, by simp, ?_, g2, by simp, (fun h => by cases h), fun b' hb' => ?_⟩, fun b' n' cap' hv => ?_⟩
    · simpa using g1
    · cases hb'
      refine ⟨hs, fun j y hj => ?_⟩
      rw [List.map_map, List.getElem?_map, Option.map_eq_some_iff] at hj
      obtain ⟨i, hi, rfl⟩ := hj
      obtain ⟨hi1, hi2⟩ := List.getElem?_eq_some_iff.1 hi
      simp at hi1 hi2
      subst hi2
      have hold := hc j (.int .i64 zs[j]) (by rw [List.getElem?_map, List.getElem?_eq_getElem hi1]; rfl)
      rw [cell_of_row w b.block (b.off + j) cs E (0, 0) hg] at hold
      rw [cell_of_row w' b.block (b.off + j) _ E (0, 0) hg', Array.getElem?_setIfInBounds]
      by_cases he : off = b.off + j
      · subst he
        have := (Array.getElem?_eq_some_iff.1 hold).1
        simp [this]
      · rw [if_neg he, hold]
        have : ¬ b.off + j = off := fun h => he h.symm
        simp [this, hi1]
    · cases hv
      exact ⟨(h2 _ _ _ rfl).1, _, hg'⟩
  · refine ⟨zs, ?_⟩
    have hne : ∀ b n cap, v = .slice (some b) n cap → b.block ≠ g := fun b n cap hv e => hb ⟨b, n, cap, hv, e⟩
    obtain ⟨h1, h2⟩ := h
    refine ⟨?_, fun b n cap hv => ?_⟩
    · obtain ⟨a, cap, rfl, g1, g2, g3, g4, g5⟩ := h1
      refine ⟨a, cap, rfl, g1, g2, g3, g4, fun b hb' => ⟨(g5 b hb').1, fun j y hj => ?_⟩⟩
      subst hb'
      have := (g5 b rfl).2 j y hj
      unfold World.cell? at this ⊢
      rw [t.block b.block (hne b _ _ rfl)]; exact this
    · obtain ⟨q1, c, q2⟩ := h2 b n cap hv
      exact ⟨q1, c, (t.block _ (hne b n cap hv)).trans q2⟩
theorem fre_all {w w' : World} {B g off : Nat} {E : TypeId} {l : List Value} {cs : Array Value} {x : Int} (h : ∀ v ∈ l, ∃ zs, FreI w B E v zs) (t : Tch g w w') (hg : w.heap[g]? = some (.cells cs E (0, 0)))
    (hg' : w'.heap[g]? = some (.cells (cs.setIfInBounds off (.int .i64 x)) E (0, 0))) : ∀ v ∈ l, ∃ zs, FreI w' B E v zs := fun v hv => by
  obtain ⟨zs, hz⟩ := h v hv
  exact fre_set hz t hg hg'
theorem box_tchT {w w' : World} {g b : Nat} {T E : TypeId} {cs cs' : Array Value} {fr fr' : Nat × Nat} (h : w.heap[b]? = some (.cells cs T fr)) (t : Tch g w w') (hg : w.heap[g]? = some (.cells cs' E fr')) (hT : (T == E) = false) :
    w'.heap[b]? = some (.cells cs T fr) := by
  refine box_tch h t fun e => ?_
  subst e
  rw [hg] at h
  cases h
  simp at hT
theorem fre_len {w : World} {B n : Nat} {E : TypeId} {v : Value} {zs : List Int} {a : Option Addr} {c : Nat} (h : FreI w B E v zs) (hv : v = .slice a n c) : zs.length = n := by
  obtain ⟨a', c', h'⟩ := h.1.form
  rw [hv] at h'
  cases h'
  rfl
theorem all4 {p : Value → Prop} {a b c d : Value} (h1 : p a) (h2 : p b) (h3 : p c) (h4 : p d) : ∀ v ∈ [a, b, c, d], p v := by
  intro v hv
  simp only [List.mem_cons, List.not_mem_nil, or_false] at hv
  rcases hv with rfl | rfl | rfl | rfl <;> assumption
theorem get4 {l : List Value} {i n : Nat} (h : l.length = n) (hi : i < n) : ∃ v, (l.toArray)[i]? = some v ∧ v ∈ l := ⟨l[i], by simp, List.getElem_mem _⟩
theorem ints_le {w : World} {v : Value} {zs : List Int} (h : Ints w v zs) : zs.length ≤ 9223372036854775807 := by
  obtain ⟨a, cap, he, h1, h2, _⟩ := h
  simp at h1; omega
end Go.Own
