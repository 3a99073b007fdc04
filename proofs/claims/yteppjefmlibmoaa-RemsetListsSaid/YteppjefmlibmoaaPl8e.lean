import Derived.Test.YteppjefmlibmoaaPl8d
import Derived.Test.YteppjefmlibmoaaPl19b
import Derived.Test.YteppjefmlibmoaaPl7f
/-! comparisons, counts, lists of all sets; what From and Purge give -/
namespace Go.Own.E
open Go Go.Own Go.Own.R Go.Own.S
theorem al_get {U : List SL} {nv : Value} {ns : List Int} {k : Nat} {y : SL} (h : (U ++ [(nv, ns)])[k]? = some y) : (csF U ++ [ns])[k]? = some y.2 := by
  have : csF U ++ [ns] = csF (U ++ [(nv, ns)]) := by rw [csF_app]; rfl
  rw [this]; exact csF_at h
theorem al_len (U : List SL) (nv : Value) (ns : List Int) : (U ++ [(nv, ns)]).length = U.length + 1 := by simp
/-! Same -/
def smQ (p q : List Int) : Bool := decide ((ckS p).2 = 0 ∧ (ckS q).2 = 0 ∧ lsT p = lsT q)
def smB (L M : List (List Int)) : Bool := decide (L.length = M.length ∧ ∀ i, i < L.length → smQ (L.getD i []) (M.getD i []) = true)
theorem gD_at {L : List (List Int)} {k : Nat} {y : List Int} (h : L[k]? = some y) : L.getD k [] = y := by rw [List.getD_eq_getElem?_getD, h]; rfl
/-! Count -/
def ctGo : Int → List (List Int) → Int × Int
  | n, [] => (n, 0)
  | n, c :: r => if (ckS c).2 ≠ 0 then (0, (ckS c).2) else ctGo (n + lnN c) r
def ctP (L : List (List Int)) : Int × Int := ctGo 0 L
theorem lnN_bd (c : List Int) : 0 ≤ lnN c ∧ lnN c ≤ 1600 := by
  unfold lnN
  by_cases h : (ckS c).2 ≠ 0
  · rw [if_pos h]; omega
  · rw [if_neg h]
    have g := ck_iff.1 (show (ckS c).2 = 0 by omega)
    have := adr_le g.rng g.dst
    omega
theorem drop_at8 {α : Type} {l : List α} {k : Nat} {y : α} (h : l[k]? = some y) : l.drop k = y :: l.drop (k + 1) := by
  obtain ⟨hk, rfl⟩ := List.getElem?_eq_some_iff.1 h
  exact (List.getElem_cons_drop ..).symm
theorem ct_hit {L : List (List Int)} {k : Nat} {n : Int} {c : List Int} (hz : ctP L = ctGo n (L.drop k)) (hy : L[k]? = some c) (h : (ckS c).2 ≠ 0) : ctP L = (0, (ckS c).2) := by rw [hz, drop_at8 hy, ctGo, if_pos h]
theorem ct_step {L : List (List Int)} {k : Nat} {n : Int} {c : List Int} (hz : ctP L = ctGo n (L.drop k)) (hy : L[k]? = some c) (h : ¬ (ckS c).2 ≠ 0) : ctP L = ctGo (n + lnN c) (L.drop (k + 1)) := by rw [hz, drop_at8 hy, ctGo, if_neg h]
theorem ct_end {L : List (List Int)} {k : Nat} {n : Int} (hz : ctP L = ctGo n (L.drop k)) (h : L.length ≤ k) : ctP L = (n, 0) := by rw [hz, List.drop_eq_nil_of_le h]; rfl
/-! Into -/
def itE (X : List (List Int)) (i : Int) : Int := if i < 0 ∨ (X.length : Int) ≤ i then 7 else (ckS (X.getD i.toNat [])).2
def itT (X : List (List Int)) (i : Int) : List Int := if i < 0 ∨ (X.length : Int) ≤ i then [] else lsT (X.getD i.toNat [])
theorem it_bad {X : List (List Int)} {i : Int} (h : i < 0 ∨ (X.length : Int) ≤ i) : itE X i = 7 ∧ itT X i = [] := by unfold itE itT; rw [if_pos h, if_pos h]; exact ⟨rfl, rfl⟩
theorem it_ok {X : List (List Int)} {i : Int} {k : Nat} {c : List Int} (h : ¬ (i < 0 ∨ (X.length : Int) ≤ i)) (hk : k = i.toNat) (hy : X[k]? = some c) : itE X i = (ckS c).2 ∧ itT X i = lsT c := by
  subst hk; unfold itE itT; rw [if_neg h, if_neg h, gD_at hy]; exact ⟨rfl, rfl⟩
/-! a number put into an ascending list -/
def wtT (l : List Int) (n : Int) : List Int := if n ∈ l then l else l.filter (fun x => decide (x < n)) ++ [n] ++ l.filter (fun x => decide (n < x))
theorem lt_stepW {l : List Int} {k : Nat} {n y : Int} (hz : ∀ i, i < k → ∀ x, l[i]? = some x → x < n) (hy : l[k]? = some y) (h : y < n) : ∀ i, i < k + 1 → ∀ x, l[i]? = some x → x < n := fun i hi x hx => by
  by_cases q : i = k
  · subst q; rw [hy] at hx; cases hx; exact h
  · exact hz i (by omega) x hx
theorem wt_in {l : List Int} {k : Nat} {n y : Int} (hy : l[k]? = some y) (h : y = n) : wtT l n = l := by unfold wtT; rw [if_pos (by subst h; exact List.mem_of_getElem? hy)]
theorem wt_split {l : List Int} {k : Nat} {n : Int} (hs : l.Pairwise (· < ·)) (hz : ∀ i, i < k → ∀ x, l[i]? = some x → x < n) (hk : k ≤ l.length) (h : ∀ y, l[k]? = some y → n < y) : l.take k ++ [n] ++ l.drop k = wtT l n := by
  have h1 : ∀ x ∈ l.take k, x < n := fun x hx => by
    obtain ⟨i, hi⟩ := List.mem_iff_getElem?.1 hx
    have hl := (List.getElem?_eq_some_iff.1 hi).1
    rw [List.length_take] at hl
    rw [List.getElem?_take, if_pos (by omega)] at hi
    exact hz i (by omega) x hi
  have h2 : ∀ x ∈ l.drop k, n < x := fun x hx => by
    obtain ⟨i, hi⟩ := List.mem_iff_getElem?.1 hx
    have hl := (List.getElem?_eq_some_iff.1 hi).1
    rw [List.length_drop] at hl
    rw [List.getElem?_drop] at hi
    have hy := List.getElem?_eq_getElem (l := l) (i := k) (by omega)
    have := h _ hy
    by_cases q : i = 0
    · subst q; rw [Nat.add_zero, hy] at hi; cases hi; exact this
    · obtain ⟨hj, rfl⟩ := List.getElem?_eq_some_iff.1 hi
      have := List.pairwise_iff_getElem.1 hs k (k + i) (by omega) hj (by omega)
      omega
  have hn : n ∉ l := fun q => by
    rw [← List.take_append_drop k l] at q
    rcases List.mem_append.1 q with q | q
    · have := h1 n q; omega
    · have := h2 n q; omega
  unfold wtT
  rw [if_neg hn]
  have e1 : l.filter (fun x => decide (x < n)) = l.take k := by
    conv => lhs; rw [← List.take_append_drop k l]
    rw [List.filter_append, List.filter_eq_self.2 (fun x hx => by have := h1 x hx; simpa using this), List.filter_eq_nil_iff.2 (fun x hx => by have := h2 x hx; simp; omega), List.append_nil]
  have e2 : l.filter (fun x => decide (n < x)) = l.drop k := by
    conv => lhs; rw [← List.take_append_drop k l]
    rw [List.filter_append, List.filter_eq_nil_iff.2 (fun x hx => by have := h1 x hx; simp; omega), List.filter_eq_self.2 (fun x hx => by have := h2 x hx; simpa using this), List.nil_append]
  rw [e1, e2]
theorem wt_tg {D : List Int} {n : Int} (hn : 1 ≤ n ∧ n ≤ 1600) : wtT (tgK D 1600) n = tgK (D ++ [n]) 1600 := by
  have hu : ∀ {l m : List Int}, l.Pairwise (· < ·) → m.Pairwise (· < ·) → (∀ x, x ∈ l ↔ x ∈ m) → l = m := fun h1 h2 h => by
    exact List.Perm.eq_of_pairwise (fun a b _ _ h3 h4 => by omega) h1 h2 ((List.perm_ext_iff_of_nodup (h1.imp fun h => by omega) (h2.imp fun h => by omega)).2 h)
  have hs := tgK_asc D 1600
  refine hu ?_ (tgK_asc _ _) fun x => ?_
  · unfold wtT
    split
    · exact hs
    · rw [List.append_assoc]
      refine List.pairwise_append.2 ⟨hs.filter _, List.pairwise_append.2 ⟨List.pairwise_singleton _ _, hs.filter _, fun a ha b hb => ?_⟩, fun a ha b hb => ?_⟩
      · simp at ha hb; omega
      · simp at ha hb; omega
  · unfold wtT
    split
    · rename_i hm
      simp only [tgK_mem] at hm ⊢
      constructor
      · rintro ⟨a, b, c⟩; exact ⟨a, b, List.mem_append.2 (.inl c)⟩
      · rintro ⟨a, b, c⟩
        rcases List.mem_append.1 c with q | q
        · exact ⟨a, b, q⟩
        · simp at q; subst q; exact hm
    · rename_i hm
      simp only [List.mem_append, List.mem_filter, tgK_mem, List.mem_singleton, decide_eq_true_eq]
      constructor
      · rintro ((⟨⟨a, b, c⟩, d⟩ | rfl) | ⟨⟨a, b, c⟩, d⟩)
        · exact ⟨a, b, .inl c⟩
        · exact ⟨hn.1, by omega, .inr rfl⟩
        · exact ⟨a, b, .inl c⟩
      · rintro ⟨a, b, c | c⟩
        · rcases Int.lt_trichotomy x n with q | q | q
          · exact .inl (.inl ⟨⟨a, b, c⟩, q⟩)
          · exact .inl (.inr q)
          · exact .inr ⟨⟨a, b, c⟩, q⟩
        · exact .inl (.inr c)
/-! From -/
def frE (C N Z K Q : Int) (X : List (List Int)) (ns : List Int) (i : Int) : Int := if (rmP C N Z K Q X ns).2 ≠ 0 then (rmP C N Z K Q X ns).2 else if i < 0 ∨ N ≤ i then 7 else 0
def frD (C N Z K Q : Int) (L : List (List Int)) (i : Int) : List Int := L.flatMap fun c => rgT c (spA C N Z K Q i) (spB C N Z K Q i)
def frT (C N Z K Q : Int) (X : List (List Int)) (ns : List Int) (i : Int) : List Int := if frE C N Z K Q X ns i ≠ 0 then [] else tgK (frD C N Z K Q (X ++ [ns]) i) 1600
section
variable {C N Z K Q i : Int} {X : List (List Int)} {ns : List Int}
theorem fr_e1 (h : (rmP C N Z K Q X ns).2 ≠ 0) : frE C N Z K Q X ns i = (rmP C N Z K Q X ns).2 := by unfold frE; rw [if_pos h]
theorem fr_e2 (h : (rmP C N Z K Q X ns).2 = 0) (h2 : i < 0 ∨ N ≤ i) : frE C N Z K Q X ns i = 7 := by unfold frE; rw [if_neg (by omega), if_pos h2]
theorem fr_e0 (h : (rmP C N Z K Q X ns).2 = 0) (h2 : ¬ (i < 0 ∨ N ≤ i)) : frE C N Z K Q X ns i = 0 := by unfold frE; rw [if_neg (by omega), if_neg h2]
theorem fr_0 (h : frE C N Z K Q X ns i = 0) : (rmP C N Z K Q X ns).2 = 0 ∧ 0 ≤ i ∧ i < N := by
  unfold frE at h; split at h
  · omega
  · split at h
    · cases h
    · omega
theorem frT_bad (h : frE C N Z K Q X ns i ≠ 0) : frT C N Z K Q X ns i = [] := by unfold frT; rw [if_pos h]
theorem frT_ok (h : frE C N Z K Q X ns i = 0) : frT C N Z K Q X ns i = tgK (frD C N Z K Q (X ++ [ns]) i) 1600 := by unfold frT; rw [if_neg (by omega)]
theorem frD_step {L : List (List Int)} {k : Nat} {c : List Int} (hy : L[k]? = some c) : frD C N Z K Q (L.take k) i ++ rgT c (spA C N Z K Q i) (spB C N Z K Q i) = frD C N Z K Q (L.take (k + 1)) i := by
  obtain ⟨hk, rfl⟩ := List.getElem?_eq_some_iff.1 hy
  unfold frD
  rw [List.take_add_one, List.getElem?_eq_getElem hk, List.flatMap_append]; simp
theorem rgT_rng {c : List Int} {f t : Int} : ∀ x ∈ rgT c f t, 1 ≤ x ∧ x ≤ 1600 := fun x hx => by
  unfold rgT fl lsT at hx
  have hx := (List.mem_filter.1 hx).1
  split at hx
  · cases hx
  · exact tgK_rng x hx
theorem rgT_len (c : List Int) (f t : Int) : (rgT c f t).length ≤ 1600 := by
  unfold rgT
  exact Nat.le_trans (fl_len _ _) (Go.Own.S.lsT_len c)
theorem frD_len (L : List (List Int)) : (frD C N Z K Q L i).length ≤ 1600 * L.length := by
  unfold frD
  induction L with
  | nil => simp
  | cons c L ih =>
    rw [List.flatMap_cons, List.length_append, List.length_cons]
    have := rgT_len c (spA C N Z K Q i) (spB C N Z K Q i)
    omega
theorem frD_rng {L : List (List Int)} : ∀ x ∈ frD C N Z K Q L i, 1 ≤ x ∧ x ≤ 1600 := fun x hx => by
  unfold frD at hx
  obtain ⟨c, _, hc⟩ := List.mem_flatMap.1 hx
  exact rgT_rng x hc
theorem cmp_tg {D : List Int} (h : ∀ x ∈ D, 1 ≤ x ∧ x ≤ 1600) : Lib.compact (sortL D) = tgK D 1600 := by
  refine List.Perm.eq_of_pairwise (fun a b _ _ h3 h4 => by omega) (cmp_asc D) (tgK_asc D 1600) ((List.perm_ext_iff_of_nodup ((cmp_asc D).imp fun h => by omega) ((tgK_asc D 1600).imp fun h => by omega)).2 fun x => ?_)
  rw [cmp_mem, tgK_mem]
  exact ⟨fun q => ⟨(h x q).1, by have := (h x q).2; omega, q⟩, fun q => q.2.2⟩
end
end Go.Own.E
