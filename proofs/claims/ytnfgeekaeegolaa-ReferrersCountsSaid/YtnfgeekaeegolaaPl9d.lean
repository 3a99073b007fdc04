import Derived.Test.YtnfgeekaeegolaaPl9c
import Derived.Test.YtnfgeekaeegolaaSepK
/-! what the program's maps hold -/
namespace Go.Own.F
open Go Go.Own Go.Own.R Go.Own.S
theorem kget_set {α : Type} {m : List (Int × α)} {q t : Int} {u : α} : kget (kset m q u) t = if t = q then some u else kget m t := by
  unfold kset
  have hfi : ∀ {m : List (Int × α)}, ¬ kix m q < m.length → kget m q = none := fun {m} h => by
    cases e : kget m q with
    | none => rfl
    | some y => exact absurd (kget_ix e).1 h
  split
  · rename_i hl
    unfold kix at *
    induction m with
    | nil => simp at hl
    | cons p m ih =>
      rw [List.findIdx_cons] at hl ⊢
      by_cases e : p.1 = q
      · have e' : (p.1 == q) = true := by simpa using e
        rw [e'] at hl ⊢
        simp only [cond_true, List.set_cons_zero]
        unfold kget
        by_cases h2 : t = q
        · subst h2; simp [List.find?_cons]
        · have h3 : (q == t) = false := by simpa using fun e => h2 e.symm
          have h4 : (p.1 == t) = false := by rw [e]; exact h3
          rw [if_neg h2, List.find?_cons, List.find?_cons]
          simp only [h3, h4]
      · have e' : (p.1 == q) = false := by simpa using e
        rw [e'] at hl ⊢
        simp only [cond_false, List.set_cons_succ, List.length_cons] at hl ⊢
        have := ih (by omega)
        unfold kget at *
        rw [List.find?_cons, List.find?_cons]
        by_cases h5 : p.1 = t
        · have h6 : (p.1 == t) = true := by simpa using h5
          simp only [h6]
          rw [if_neg (fun h => e (h5.trans h))]
        · have h6 : (p.1 == t) = false := by simpa using h5
          simp only [h6]; exact this
  · rename_i hl
    have h0 := hfi hl
    unfold kget at *
    rw [List.find?_append]
    by_cases h2 : t = q
    · subst h2
      have : m.find? (fun p => p.1 == t) = none := by
        cases e : m.find? (fun p => p.1 == t) with
        | none => rfl
        | some y => rw [e] at h0; cases h0
      rw [this, if_pos rfl]; simp [List.find?_cons]
    · have h3 : (q == t) = false := by simpa using fun e => h2 e.symm
      rw [if_neg h2]; simp [List.find?_cons, h3]
theorem keys_set {α : Type} {m : List (Int × α)} {q : Int} {u : α} (h : (m.map (·.1)).Nodup) : ((kset m q u).map (·.1)).Nodup := by
  unfold kset
  split
  · rename_i hl
    have hk : (m[kix m q]'hl).1 = q := by
      obtain ⟨y, hy⟩ : ∃ y, kget m q = some y := by
        cases e : kget m q with
        | none => exact absurd hl (kget_none e)
        | some y => exact ⟨y, rfl⟩
      have h2 := (kget_ix hy).2
      rw [List.getElem?_eq_getElem hl] at h2
      rw [Option.some.inj h2]
    have : (m.set (kix m q) (q, u)).map (·.1) = m.map (·.1) := by
      rw [List.map_set]
      apply List.ext_getElem?
      intro i
      by_cases e : kix m q = i
      · subst e; rw [List.getElem?_set_self (by simpa using hl)]
        rw [List.getElem?_map, List.getElem?_eq_getElem hl, Option.map_some, hk]
      · rw [List.getElem?_set_ne e]
    rw [this]; exact h
  · rename_i hl
    rw [List.map_append]
    refine List.nodup_append.2 ⟨h, by simp, fun a ha b hb e => ?_⟩
    simp at hb
    obtain ⟨p, hp, rfl⟩ := List.mem_map.1 ha
    exact hl (List.findIdx_lt_length.2 ⟨p, hp, by simp [e, hb]⟩)
theorem kget_mem {α : Type} {m : List (Int × α)} (h : (m.map (·.1)).Nodup) {p : Int × α} (hp : p ∈ m) : kget m p.1 = some p.2 := by
  unfold kget
  induction m with
  | nil => cases hp
  | cons x m ih =>
    rw [List.map_cons, List.nodup_cons] at h
    rcases List.mem_cons.1 hp with rfl | hp
    · simp [List.find?_cons]
    · have : (x.1 == p.1) = false := by
        have : x.1 ≠ p.1 := fun e => h.1 (by rw [e]; exact List.mem_map.2 ⟨p, hp, rfl⟩)
        simpa using this
      rw [List.find?_cons, this]; exact ih h.2 hp
theorem mem_kget {α : Type} {m : List (Int × α)} {q : Int} {y : α} (h : kget m q = some y) : (q, y) ∈ m := List.mem_of_getElem? (kget_ix h).2
/-- the map of the holders, by targets. -/
structure HM (ws l : List Int) (K : List KE) : Prop where
  nd : (K.map (·.1)).Nodup
  sl : ∀ q, q ≠ 0 → (lkP K q).2 = hoF ws l q
  ne : ∀ p ∈ K, p.1 ≠ 0 ∧ p.2.2 ≠ []
theorem HM_nil (ws : List Int) : HM ws [] [] := ⟨by simp, fun _ _ => rfl, fun _ h => by cases h⟩
theorem HM_out {ws l : List Int} {K : List KE} {k : Nat} {a y : Int} (h : HM ws (l.take k) K) (hy : l[k]? = some a) (hw : wA ws a = y) (h0 : y = 0) : HM ws (l.take (k + 1)) K :=
  ⟨h.nd, fun q hq => by rw [h.sl q hq, hoF_out hy (by omega)], h.ne⟩
theorem HM_in {ws l : List Int} {K : List KE} {k : Nat} {a y : Int} {u : Value} (h : HM ws (l.take k) K) (hy : l[k]? = some a) (hw : wA ws a = y) (h0 : y ≠ 0) : HM ws (l.take (k + 1)) (kset K y (u, (lkP K y).2 ++ [a])) := by
  refine ⟨keys_set h.nd, fun q hq => ?_, fun p hp => ?_⟩
  · unfold lkP at *
    rw [kget_set]
    by_cases e : q = y
    · subst e; rw [if_pos rfl, ← hoF_in hy hw, ← h.sl q hq]; rfl
    · rw [if_neg e, ← hoF_out hy (by omega)]; exact h.sl q hq
  · have := kget_mem (keys_set h.nd) hp
    rw [kget_set] at this
    by_cases e : p.1 = y
    · rw [if_pos e] at this
      have e2 := Option.some.inj this
      rw [← e2]
      exact ⟨by omega, by simp⟩
    · rw [if_neg e] at this
      exact h.ne _ (mem_kget this)
theorem er_len {α : Type} {L : List α} {j : Nat} {p : α} (h : L[j]? = some p) : (L.eraseIdx j).length + 1 = L.length := by
  have hj := (List.getElem?_eq_some_iff.1 h).1
  rw [List.length_eraseIdx, if_pos hj]; omega
theorem er_perm {α : Type} : ∀ {L : List α} {j : Nat} {p : α}, L[j]? = some p → (p :: L.eraseIdx j).Perm L
  | [], j, p, h => by simp at h
  | a :: L, 0, p, h => by simp at h; subst h; rw [List.eraseIdx_cons_zero]
  | a :: L, j + 1, p, h => by
    have h' : L[j]? = some p := by simpa using h
    rw [List.eraseIdx_cons_succ]
    exact (List.Perm.swap a p _).trans ((er_perm h').cons a)
/-- one more of what is left is done. -/
theorem pm_step {α β : Type} {f : α → β} {D ks : List β} {L : List α} {j : Nat} {p : α} (h : (D ++ L.map f).Perm ks) (hj : L[j]? = some p) : ((D ++ [f p]) ++ (L.eraseIdx j).map f).Perm ks := by
  rw [List.append_assoc]
  exact (((er_perm hj).map f).append_left D).trans h
theorem pm_done {α β : Type} {f : α → β} {D ks : List β} {L : List α} (h : (D ++ L.map f).Perm ks) (hL : L = []) : D.Perm ks := by subst hL; simpa using h
theorem vd_len {α : Type} {D ks : List α} (h : ∃ t, (D ++ t).Perm ks) : D.length ≤ ks.length := by
  obtain ⟨t, h⟩ := h
  have := h.length_eq
  rw [List.length_append] at this; omega
theorem sortL_pm {l m : List Int} (h : l.Perm m) : sortL l = sortL m := by
  refine List.Perm.eq_of_pairwise (le := fun x y => x ≤ y) (fun a b _ _ h1 h2 => by omega) (sortL_asc l) (sortL_asc m) ?_
  unfold sortL
  exact ((List.mergeSort_perm _ _).trans h).trans (List.mergeSort_perm _ _).symm
end Go.Own.F
