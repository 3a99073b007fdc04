import Derived.Test.YtnfgeekaeegolaaPl9d
/-! the counts: as the program lists them, and as the reference adds them up -/
namespace Go.Own.F
open Go Go.Own Go.Own.R Go.Own.S
theorem cnF_all (ws : List Int) : ∀ l : List Int, Asc (cnF ws l) ∧ Pos (cnF ws l) ∧ ∀ t, nOf (cnF ws l) t = if t = 0 then 0 else ((hoF ws l t).length : Int) := by
  have key : ∀ (l : List Int) (m : List (Int × Int)), Asc m → Pos m → Asc (l.foldl (fun m a => if wA ws a = 0 then m else plF m (wA ws a) 1) m) ∧ Pos (l.foldl (fun m a => if wA ws a = 0 then m else plF m (wA ws a) 1) m) ∧
      ∀ t, nOf (l.foldl (fun m a => if wA ws a = 0 then m else plF m (wA ws a) 1) m) t = nOf m t + if t = 0 then 0 else ((hoF ws l t).length : Int) := by
    intro l
    induction l with
    | nil => intro m h1 h2; exact ⟨h1, h2, fun t => by simp [hoF]⟩
    | cons a l ih =>
      intro m h1 h2
      rw [List.foldl_cons]
      by_cases h0 : wA ws a = 0
      · rw [if_pos h0]
        obtain ⟨q1, q2, q3⟩ := ih m h1 h2
        refine ⟨q1, q2, fun t => ?_⟩
        rw [q3 t]
        by_cases ht : t = 0
        · simp [ht]
        · rw [if_neg ht, if_neg ht]
          have : hoF ws (a :: l) t = hoF ws l t := by unfold hoF; rw [List.filter_cons]; simp [show ¬ wA ws a = t by omega]
          rw [this]
      · rw [if_neg h0]
        obtain ⟨q1, q2, q3⟩ := ih (plF m (wA ws a) 1) (plF_asc h1) (plF_pos h2 (by omega))
        refine ⟨q1, q2, fun t => ?_⟩
        rw [q3 t, plF_n h1]
        by_cases ht : t = 0
        · subst ht; simp [show ¬ (0 : Int) = wA ws a from fun e => h0 e.symm]
        · rw [if_neg ht, if_neg ht]
          unfold hoF
          rw [List.filter_cons]
          by_cases hw : wA ws a = t
          · simp [hw]; omega
          · simp [hw, show ¬ t = wA ws a from fun e => hw e.symm]
  intro l
  obtain ⟨h1, h2, h3⟩ := key l [] List.Pairwise.nil (fun x hx => by cases hx)
  exact ⟨h1, h2, fun t => by have := h3 t; simpa [nOf, cnF] using this⟩
/-- what the program lists from a map of counts. -/
def lsM (m : List (Int × Int)) : List (Int × Int) := (sortL (m.map (·.1))).map fun q => (q, lkN m q)
def cnM (D : List KE) : List (Int × Int) := D.map fun p => (p.1, (p.2.2.length : Int))
theorem sortL_mem' {l : List Int} {x : Int} : x ∈ sortL l ↔ x ∈ l := by unfold sortL; exact (List.mergeSort_perm _ _).mem_iff
theorem sortL_lt' {l : List Int} (h : l.Nodup) : (sortL l).Pairwise (· < ·) := by
  have h1 := sortL_asc l
  have h2 : (sortL l).Nodup := by unfold sortL; exact (List.mergeSort_perm _ _).nodup_iff.2 h
  have := h1.and h2
  exact this.imp fun ⟨a, b⟩ => by omega
theorem lsM_asc {m : List (Int × Int)} (h : (m.map (·.1)).Nodup) : Asc (lsM m) := by
  unfold Asc lsM
  rw [List.pairwise_map]
  exact sortL_lt' h
theorem lkN_get (m : List (Int × Int)) (q : Int) : lkN m q = (kget m q).getD 0 := rfl
theorem lkN_out {m : List (Int × Int)} {q : Int} (h : q ∉ m.map (·.1)) : lkN m q = 0 := by
  rw [lkN_get]
  cases e : kget m q with
  | none => rfl
  | some y => exact absurd (List.mem_map.2 ⟨(q, y), mem_kget e, rfl⟩) h
theorem lsM_n (m : List (Int × Int)) (h : (m.map (·.1)).Nodup) (t : Int) : nOf (lsM m) t = lkN m t := by
  by_cases ht : t ∈ m.map (·.1)
  · have : (t, lkN m t) ∈ lsM m := by unfold lsM; exact List.mem_map.2 ⟨t, sortL_mem'.2 ht, rfl⟩
    exact nOf_mem (lsM_asc h) this
  · rw [lkN_out ht]
    unfold nOf
    cases e : (lsM m).find? fun x => x.1 == t with
    | none => rfl
    | some y =>
      have h1 := List.find?_some e
      have h2 := List.mem_of_find?_eq_some e
      unfold lsM at h2
      obtain ⟨q, hq, rfl⟩ := List.mem_map.1 h2
      have : q = t := by simpa using h1
      exact absurd (this ▸ sortL_mem'.1 hq) ht
theorem cnM_kmap (D : List KE) : cnM D = kmap (fun y : Value × List Int => (y.2.length : Int)) D := rfl
theorem cnM_keys (D : List KE) : (cnM D).map (·.1) = D.map (·.1) := by unfold cnM; rw [List.map_map]; rfl
theorem kget_perm {α : Type} {D K : List (Int × α)} (h : D.Perm K) (hn : (K.map (·.1)).Nodup) (q : Int) : kget D q = kget K q := by
  have hd : (D.map (·.1)).Nodup := (h.map (·.1)).nodup_iff.2 hn
  cases e : kget K q with
  | some y => exact kget_mem hd (p := (q, y)) (h.mem_iff.2 (mem_kget e))
  | none =>
    cases e2 : kget D q with
    | none => rfl
    | some y => have := kget_mem hn (p := (q, y)) (h.mem_iff.1 (mem_kget e2)); rw [e] at this; cases this
theorem hm_len {ws l : List Int} {K : List KE} (h : HM ws l K) (t : Int) : ((lkP K t).2.length : Int) = if t = 0 then 0 else ((hoF ws l t).length : Int) := by
  by_cases ht : t = 0
  · rw [if_pos ht]
    unfold lkP
    cases e : kget K t with
    | none => rfl
    | some y => exact absurd ht (h.ne _ (mem_kget e)).1
  · rw [if_neg ht, h.sl t ht]
theorem lsM_cnF {ws l : List Int} {K D : List KE} (h : HM ws l K) (hp : D.Perm K) : lsM (cnM D) = cnF ws l := by
  have hn : ((cnM D).map (·.1)).Nodup := by rw [cnM_keys]; exact (hp.map (·.1)).nodup_iff.2 h.nd
  obtain ⟨c1, c2, c3⟩ := cnF_all ws l
  have hlk : ∀ t, lkN (cnM D) t = ((lkP K t).2.length : Int) := fun t => by
    rw [lkN_get, cnM_kmap, kget_map, kget_perm hp h.nd]
    unfold lkP
    cases kget K t <;> rfl
  refine asc_nOf (lsM_asc hn) c1 (fun x hx => ?_) c2 fun t => ?_
  · unfold lsM at hx
    obtain ⟨q, hq, rfl⟩ := List.mem_map.1 hx
    have hq' := sortL_mem'.1 hq
    rw [cnM_keys] at hq'
    obtain ⟨p, hp', rfl⟩ := List.mem_map.1 hq'
    have hpK := hp.mem_iff.1 hp'
    have h1 := kget_mem h.nd hpK
    have h2 := (h.ne p hpK).2
    simp only [hlk]
    unfold lkP; rw [h1]
    have := List.length_pos_iff.2 h2
    simp only [Option.getD_some]; omega
  · rw [lsM_n _ hn, hlk, c3, hm_len h]
theorem coT_eq (ws c : List Int) : coT ws c = cnF ws (slT ws c) := by
  unfold coT
  by_cases h : slE ws c ≠ 0
  · rw [if_pos h, slT_err h]; rfl
  · rw [if_neg h, (slE_zero (by omega)).1]
theorem cn_new {K D L : List KE} {j : Nat} {q : Int} {y : Value × List Int} (h : (K.map (·.1)).Nodup) (hp : (D ++ L).Perm K) (hj : L[j]? = some (q, y)) : lkB (cnM D) q = false := by
  have hn : ((D ++ L).map (·.1)).Nodup := (hp.map (·.1)).nodup_iff.2 h
  rw [List.map_append] at hn
  have hd := (List.nodup_append.1 hn).2.2
  unfold lkB
  cases e : (cnM D).find? fun p => p.1 == q with
  | none => rfl
  | some p =>
    have h1 := List.find?_some e
    have h2 := List.mem_of_find?_eq_some e
    have h3 : p.1 = q := by simpa using h1
    have h4 : q ∈ D.map (·.1) := by rw [← cnM_keys, ← h3]; exact List.mem_map.2 ⟨p, h2, rfl⟩
    exact absurd rfl (hd q h4 q (List.mem_map.2 ⟨(q, y), List.mem_of_getElem? hj, rfl⟩))
theorem cnM_snoc (D : List KE) (p : KE) : cnM (D ++ [p]) = cnM D ++ [(p.1, (p.2.2.length : Int))] := by unfold cnM; rw [List.map_append]; rfl
theorem nd_sub : ∀ {N l : List Int}, N.Nodup → (∀ x ∈ N, x ∈ l) → N.length ≤ l.length := by
  intro N
  induction N with
  | nil => intro l _ _; simp
  | cons x N ih =>
    intro l h1 h2
    rw [List.nodup_cons] at h1
    have hx := h2 x (List.mem_cons_self ..)
    have := ih (l := l.erase x) h1.2 fun y hy => (List.mem_erase_of_ne (fun e => h1.1 (by rw [← e]; exact hy))).2 (h2 y (List.mem_cons_of_mem _ hy))
    have h3 := List.length_erase_of_mem hx
    have := List.length_pos_of_mem hx
    simp only [List.length_cons]; omega
theorem hm_klen {ws l : List Int} {K : List KE} (h : HM ws l K) : K.length ≤ l.length := by
  have h1 : (K.map (·.1)).length ≤ (l.map (wA ws)).length := by
    refine nd_sub h.nd fun q hq => ?_
    obtain ⟨p, hp, rfl⟩ := List.mem_map.1 hq
    have hne := h.ne p hp
    have h2 := h.sl p.1 hne.1
    unfold lkP at h2; rw [kget_mem h.nd hp] at h2
    have h3 : hoF ws l p.1 ≠ [] := by rw [← h2]; exact hne.2
    obtain ⟨a, ha⟩ := List.exists_mem_of_ne_nil _ h3
    unfold hoF at ha
    obtain ⟨ha1, ha2⟩ := List.mem_filter.1 ha
    exact List.mem_map.2 ⟨a, ha1, by simpa using ha2⟩
  simpa using h1
theorem pm_stepK {α : Type} {D K L : List α} {j : Nat} {p : α} (h : (D ++ L).Perm K) (hj : L[j]? = some p) : ((D ++ [p]) ++ L.eraseIdx j).Perm K := by
  rw [List.append_assoc]; exact ((er_perm hj).append_left D).trans h
theorem pm_doneK {α : Type} {D K L : List α} (h : (D ++ L).Perm K) (hL : L = []) : D.Perm K := by subst hL; simpa using h
theorem cn_len {ws c : List Int} {D K L : List KE} (hm : HM ws (slT ws c) K) (h : (D ++ L).Perm K) (hL : L = []) : (cnM D).length ≤ 1000000 := by
  have h1 := (pm_doneK h hL).length_eq
  have h2 := hm_klen hm
  have h3 := slT_len ws c
  unfold cnM; rw [List.length_map]; omega
theorem perm_mem {α : Type} {D L K : List α} {j : Nat} {p : α} (hp : (D ++ L).Perm K) (hj : L[j]? = some p) : p ∈ K := hp.mem_iff.1 (List.mem_append.2 (.inr (List.mem_of_getElem? hj)))
theorem lsM_take {m : List (Int × Int)} {k : Nat} {y : Int} (hy : (sortL (m.map (·.1)))[k]? = some y) : ((sortL (m.map (·.1))).take k).map (fun q => (q, lkN m q)) ++ [(y, lkN m y)] = ((sortL (m.map (·.1))).take (k + 1)).map (fun q => (q, lkN m q)) := by
  rw [take_add9 hy, List.map_append]; rfl
end Go.Own.F
