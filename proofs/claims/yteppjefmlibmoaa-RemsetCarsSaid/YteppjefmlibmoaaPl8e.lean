import Derived.Test.YteppjefmlibmoaaPl8d
import Derived.Test.YteppjefmlibmoaaPl19b
import Derived.Test.YteppjefmlibmoaaPl7f
/-! comparisons, counts, lists of all sets; what From and Purge give -/
namespace Go.Own.E
open Go Go.Own Go.Own.R Go.Own.S
/-! Same -/
def smQ (p q : List Int) : Bool := decide ((ckS p).2 = 0 ∧ (ckS q).2 = 0 ∧ lsT p = lsT q)
def smB (L M : List (List Int)) : Bool := decide (L.length = M.length ∧ ∀ i, i < L.length → smQ (L.getD i []) (M.getD i []) = true)
theorem smQ_T {p q : List Int} (h : (ckS p).2 = 0 ∧ (ckS q).2 = 0 ∧ lsT p = lsT q) : smQ p q = true := by unfold smQ; exact decide_eq_true h
theorem smQ_F {p q : List Int} (h : ¬ ((ckS p).2 = 0 ∧ (ckS q).2 = 0 ∧ lsT p = lsT q)) : ¬ smQ p q = true := by unfold smQ; rw [decide_eq_true_eq]; exact h
theorem smB_len {L M : List (List Int)} (h : L.length ≠ M.length) : smB L M = false := by unfold smB; exact decide_eq_false fun q => h q.1
theorem smB_no {L M : List (List Int)} {k : Nat} (hk : k < L.length) (h : ¬ smQ (L.getD k []) (M.getD k []) = true) : smB L M = false := by unfold smB; exact decide_eq_false fun q => h (q.2 k hk)
theorem smB_ok {L M : List (List Int)} {k : Nat} (h : L.length = M.length) (hk : L.length ≤ k) (hz : ∀ i, i < k → smQ (L.getD i []) (M.getD i []) = true) : smB L M = true := by unfold smB; exact decide_eq_true ⟨h, fun i hi => hz i (by omega)⟩
theorem sm_step {L M : List (List Int)} {k : Nat} (hz : ∀ i, i < k → smQ (L.getD i []) (M.getD i []) = true) (h : smQ (L.getD k []) (M.getD k []) = true) : ∀ i, i < k + 1 → smQ (L.getD i []) (M.getD i []) = true := fun i hi => by
  by_cases q : i = k
  · subst q; exact h
  · exact hz i (by omega)
theorem gD_at {L : List (List Int)} {k : Nat} {y : List Int} (h : L[k]? = some y) : L.getD k [] = y := by rw [List.getD_eq_getElem?_getD, h]; rfl
/-! Count -/
def ctGo : Int → List (List Int) → Int × Int
  | n, [] => (n, 0)
  | n, c :: r => if (ckS c).2 ≠ 0 then (0, (ckS c).2) else ctGo (n + lnN c) r
def ctP (L : List (List Int)) : Int × Int := ctGo 0 L
theorem lnN_bd (c : List Int) : 0 ≤ lnN c ∧ lnN c ≤ 1600 := by
  unfold lnN
  by_cases h : (ckS c).2 ≠ 0
  · rw [if_pos h]; omega
  · rw [if_neg h]
    have g := ck_iff.1 (show (ckS c).2 = 0 by omega)
    have := adr_le g.rng g.dst
    omega
theorem drop_at8 {α : Type} {l : List α} {k : Nat} {y : α} (h : l[k]? = some y) : l.drop k = y :: l.drop (k + 1) := by
  obtain ⟨hk, rfl⟩ := List.getElem?_eq_some_iff.1 h
  exact (List.getElem_cons_drop ..).symm
theorem ct_hit {L : List (List Int)} {k : Nat} {n : Int} {c : List Int} (hz : ctP L = ctGo n (L.drop k)) (hy : L[k]? = some c) (h : (ckS c).2 ≠ 0) : ctP L = (0, (ckS c).2) := by rw [hz, drop_at8 hy, ctGo, if_pos h]
theorem ct_step {L : List (List Int)} {k : Nat} {n : Int} {c : List Int} (hz : ctP L = ctGo n (L.drop k)) (hy : L[k]? = some c) (h : ¬ (ckS c).2 ≠ 0) : ctP L = ctGo (n + lnN c) (L.drop (k + 1)) := by rw [hz, drop_at8 hy, ctGo, if_neg h]
theorem ct_end {L : List (List Int)} {k : Nat} {n : Int} (hz : ctP L = ctGo n (L.drop k)) (h : L.length ≤ k) : ctP L = (n, 0) := by rw [hz, List.drop_eq_nil_of_le h]; rfl
/-! Into -/
def itE (X : List (List Int)) (i : Int) : Int := if i < 0 ∨ (X.length : Int) ≤ i then 7 else (ckS (X.getD i.toNat [])).2
def itT (X : List (List Int)) (i : Int) : List Int := if i < 0 ∨ (X.length : Int) ≤ i then [] else lsT (X.getD i.toNat [])
theorem it_bad {X : List (List Int)} {i : Int} (h : i < 0 ∨ (X.length : Int) ≤ i) : itE X i = 7 ∧ itT X i = [] := by unfold itE itT; rw [if_pos h, if_pos h]; exact ⟨rfl, rfl⟩
theorem it_ok {X : List (List Int)} {i : Int} {k : Nat} {c : List Int} (h : ¬ (i < 0 ∨ (X.length : Int) ≤ i)) (hk : k = i.toNat) (hy : X[k]? = some c) : itE X i = (ckS c).2 ∧ itT X i = lsT c := by
  subst hk; unfold itE itT; rw [if_neg h, if_neg h, gD_at hy]; exact ⟨rfl, rfl⟩
/-! a number put into an ascending list -/
def wtT (l : List Int) (n : Int) : List Int := if n ∈ l then l else l.filter (fun x => decide (x < n)) ++ [n] ++ l.filter (fun x => decide (n < x))
/-! From -/
def frE (C N Z K Q : Int) (X : List (List Int)) (ns : List Int) (i : Int) : Int := if (rmP C N Z K Q X ns).2 ≠ 0 then (rmP C N Z K Q X ns).2 else if i < 0 ∨ N ≤ i then 7 else 0
def frD (C N Z K Q : Int) (L : List (List Int)) (i : Int) : List Int := L.flatMap fun c => rgT c (spA C N Z K Q i) (spB C N Z K Q i)
def frT (C N Z K Q : Int) (X : List (List Int)) (ns : List Int) (i : Int) : List Int := if frE C N Z K Q X ns i ≠ 0 then [] else tgK (frD C N Z K Q (X ++ [ns]) i) 1600
section
variable {C N Z K Q i : Int} {X : List (List Int)} {ns : List Int}
theorem fr_e1 (h : (rmP C N Z K Q X ns).2 ≠ 0) : frE C N Z K Q X ns i = (rmP C N Z K Q X ns).2 := by unfold frE; rw [if_pos h]
theorem fr_e2 (h : (rmP C N Z K Q X ns).2 = 0) (h2 : i < 0 ∨ N ≤ i) : frE C N Z K Q X ns i = 7 := by unfold frE; rw [if_neg (by omega), if_pos h2]
theorem fr_e0 (h : (rmP C N Z K Q X ns).2 = 0) (h2 : ¬ (i < 0 ∨ N ≤ i)) : frE C N Z K Q X ns i = 0 := by unfold frE; rw [if_neg (by omega), if_neg h2]
theorem fr_0 (h : frE C N Z K Q X ns i = 0) : (rmP C N Z K Q X ns).2 = 0 ∧ 0 ≤ i ∧ i < N := by
  unfold frE at h; split at h
  · omega
  · split at h
    · cases h
    · omega
theorem frT_bad (h : frE C N Z K Q X ns i ≠ 0) : frT C N Z K Q X ns i = [] := by unfold frT; rw [if_pos h]
theorem frT_ok (h : frE C N Z K Q X ns i = 0) : frT C N Z K Q X ns i = tgK (frD C N Z K Q (X ++ [ns]) i) 1600 := by unfold frT; rw [if_neg (by omega)]
theorem frD_step {L : List (List Int)} {k : Nat} {c : List Int} (hy : L[k]? = some c) : frD C N Z K Q (L.take k) i ++ rgT c (spA C N Z K Q i) (spB C N Z K Q i) = frD C N Z K Q (L.take (k + 1)) i := by
  obtain ⟨hk, rfl⟩ := List.getElem?_eq_some_iff.1 hy
  unfold frD
  rw [List.take_add_one, List.getElem?_eq_getElem hk, List.flatMap_append]; simp
theorem rgT_rng {c : List Int} {f t : Int} : ∀ x ∈ rgT c f t, 1 ≤ x ∧ x ≤ 1600 := fun x hx => by
  unfold rgT fl lsT at hx
  have hx := (List.mem_filter.1 hx).1
  split at hx
  · cases hx
  · exact tgK_rng x hx
theorem rgT_len (c : List Int) (f t : Int) : (rgT c f t).length ≤ 1600 := by
  unfold rgT
  exact Nat.le_trans (fl_len _ _) (Go.Own.S.lsT_len c)
theorem frD_len (L : List (List Int)) : (frD C N Z K Q L i).length ≤ 1600 * L.length := by
  unfold frD
  induction L with
  | nil => simp
  | cons c L ih =>
    rw [List.flatMap_cons, List.length_append, List.length_cons]
    have := rgT_len c (spA C N Z K Q i) (spB C N Z K Q i)
    omega
theorem frD_rng {L : List (List Int)} : ∀ x ∈ frD C N Z K Q L i, 1 ≤ x ∧ x ≤ 1600 := fun x hx => by
  unfold frD at hx
  obtain ⟨c, _, hc⟩ := List.mem_flatMap.1 hx
  exact rgT_rng x hc
theorem cmp_tg {D : List Int} (h : ∀ x ∈ D, 1 ≤ x ∧ x ≤ 1600) : Lib.compact (sortL D) = tgK D 1600 := by
  refine List.Perm.eq_of_pairwise (fun a b _ _ h3 h4 => by omega) (cmp_asc D) (tgK_asc D 1600) ((List.perm_ext_iff_of_nodup ((cmp_asc D).imp fun h => by omega) ((tgK_asc D 1600).imp fun h => by omega)).2 fun x => ?_)
  rw [cmp_mem, tgK_mem]
  exact ⟨fun q => ⟨(h x q).1, by have := (h x q).2; omega, q⟩, fun q => q.2.2⟩
end
end Go.Own.E
