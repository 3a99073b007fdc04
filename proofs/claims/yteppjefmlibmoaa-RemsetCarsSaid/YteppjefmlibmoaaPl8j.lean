import Derived.Test.YteppjefmlibmoaaPl8h
/-! remembered sets as one list, the nursery's last: what a change does to it -/
namespace Go.Own.E
open Go Go.Own Go.Own.R Go.Own.S
variable {C N Z K Q : Int} {X : List (List Int)} {ns c d : List Int} {L M : List (List Int)} {a slot p : Int} {add : Bool}
theorem ck_gd (g : Gd c) : (ckS c).2 = 0 := ck_iff.2 g
theorem lnN_gd (g : Gd c) : lnN c = (adr c : Nat) := by unfold lnN; rw [if_neg (by have := ck_gd g; omega)]
theorem wr_iff {i : Int} : wrE C N Z K Q c i = 0 ↔ Gd c ∧ ∀ a, 0 < a → a ∈ c → caE C N Z K Q a = 0 ∧ 0 ≤ caN C N Z K Q a ∧ caN C N Z K Q a ≠ i := by
  constructor
  · intro h
    obtain ⟨h1, h2⟩ := wr_0 h
    exact ⟨ck_iff.1 h1, fun a ha hm => h2 a ((ls_mem h1).2 ⟨ha, hm⟩)⟩
  · rintro ⟨g, h⟩
    refine wr_ok (ck_gd g) fun a ha => bdA_F ?_
    obtain ⟨q1, q2⟩ := (ls_mem (ck_gd g)).1 ha
    have := h a q1 q2
    omega
def nI (N : Int) (j : Nat) : Int := if (j : Int) < N then j else -1
def VL (C N Z K Q : Int) (L : List (List Int)) : Prop := cfE C N Z K Q = 0 ∧ (L.length : Int) = N + 1 ∧ ∀ j c, L[j]? = some c → wrE C N Z K Q c (nI N j) = 0
theorem ap_at {j : Nat} (h : (X ++ [ns])[j]? = some c) : (j < X.length ∧ X[j]? = some c) ∨ (j = X.length ∧ c = ns) := by
  by_cases q : j < X.length
  · rw [List.getElem?_append_left q] at h; exact .inl ⟨q, h⟩
  · rw [List.getElem?_append_right (by omega)] at h
    have hj : j - X.length = 0 := by
      have := (List.getElem?_eq_some_iff.1 h).1; simp at this; omega
    rw [hj] at h; exact .inr ⟨by omega, (Option.some.inj h).symm⟩
theorem VL_iff : (rmP C N Z K Q X ns).2 = 0 ↔ VL C N Z K Q (X ++ [ns]) := by
  rw [rm_iff]
  constructor
  · rintro ⟨h1, h2, h3⟩
    refine ⟨h1, by simp; omega, fun j c hj => ?_⟩
    rcases ap_at hj with ⟨q, hq⟩ | ⟨q, rfl⟩
    · have := h3 _ (List.mem_of_getElem? (alC_at (ns := ns) hq))
      unfold nI; rw [if_pos (by omega)]; exact this
    · have := h3 _ (List.mem_of_getElem? (alC_end (ns := c) q))
      unfold nI; rw [if_neg (by omega)]; exact this
  · rintro ⟨h1, h2, h3⟩
    have hl : (X.length : Int) = N := by simp at h2; omega
    refine ⟨h1, hl, fun y hy => ?_⟩
    rcases alC_mem hy with ⟨e1, e2⟩ | ⟨e1, e2, e3⟩
    · have := h3 X.length ns (by rw [List.getElem?_append_right (Nat.le_refl _), Nat.sub_self]; rfl)
      unfold nI at this; rw [if_neg (by omega)] at this; rw [e1, e2]; exact this
    · have hk := (List.getElem?_eq_some_iff.1 e3).1
      have := h3 y.1.toNat y.2 (by rw [List.getElem?_append_left hk]; exact e3)
      unfold nI at this; rw [if_pos (by omega)] at this
      rw [show y.1 = ((y.1.toNat : Nat) : Int) by omega]; exact this
theorem VL.gd (h : VL C N Z K Q L) {j : Nat} (hy : L[j]? = some c) : Gd c := (wr_iff.1 (h.2.2 j c hy)).1
theorem VL.gD (h : VL C N Z K Q L) {j : Nat} (hj : j < L.length) : L[j]? = some (L.getD j []) := by rw [List.getD_eq_getElem?_getD, List.getElem?_eq_getElem hj]; rfl
def jx (N p : Int) : Nat := if p < 0 then N.toNat else p.toNat
def cgA (N p slot : Int) (add : Bool) (L : List (List Int)) : List (List Int) := if p = -2 then L else L.set (jx N p) (stF add (L.getD (jx N p) []) slot)
theorem sm_ext (hL : VL C N Z K Q L) (hM : VL C N Z K Q M) (h : ∀ j, j < L.length → ∀ y, 0 < y → (y ∈ L.getD j [] ↔ y ∈ M.getD j [])) : smB L M = true := by
  have hl : L.length = M.length := by have := hL.2.1; have := hM.2.1; omega
  refine smB_ok (k := L.length) hl (Nat.le_refl _) fun j hj => ?_
  have g1 := hL.gd (hL.gD hj)
  have g2 := hM.gd (hM.gD (j := j) (by omega))
  refine smQ_T ⟨ck_gd g1, ck_gd g2, ?_⟩
  unfold lsT; rw [if_neg (by have := ck_gd g1; omega), if_neg (by have := ck_gd g2; omega)]
  exact tgK_congr (h j hj)
theorem ct_sum : ∀ {L : List (List Int)} {n : Int}, (∀ c ∈ L, (ckS c).2 = 0) → ctGo n L = (n + (L.map lnN).sum, 0)
  | [], n, _ => by simp [ctGo]
  | c :: r, n, h => by
    rw [ctGo, if_neg (by have := h c (List.mem_cons_self ..); omega), ct_sum fun d hd => h d (List.mem_cons_of_mem _ hd)]
    simp only [List.map_cons, List.sum_cons]; rw [Int.add_assoc]
theorem VL.ct (h : VL C N Z K Q L) : ctP L = ((L.map lnN).sum, 0) := by
  unfold ctP
  rw [ct_sum fun c hc => ?_, Int.zero_add]
  obtain ⟨j, hj⟩ := List.mem_iff_getElem?.1 hc
  exact ck_gd (h.gd hj)
end Go.Own.E

/-! has; the laws Others and Back -/
namespace Go.Own.E
open Go Go.Own Go.Own.R Go.Own.S
variable {C N Z K Q : Int} {X : List (List Int)} {ns c d : List Int} {L M : List (List Int)} {a b slot p : Int} {add : Bool} {k : Nat}
def hasB (X : List (List Int)) (ns : List Int) (a : Int) : Bool := (X ++ [ns]).any fun c => hsB c a
theorem ap_end (h : k = X.length) : (X ++ [ns])[k]? = some ns := by subst h; rw [List.getElem?_append_right (Nat.le_refl _), Nat.sub_self]; rfl
theorem ap_row (h : X[k]? = some c) : (X ++ [ns])[k]? = some c := by rw [List.getElem?_append_left (List.getElem?_eq_some_iff.1 h).1]; exact h
theorem sum_bd : ∀ L : List (List Int), 0 ≤ (L.map lnN).sum ∧ (L.map lnN).sum ≤ 1600 * (L.length : Int)
  | [] => by simp
  | c :: r => by
    have h1 := sum_bd r
    have h2 := lnN_bd c
    simp only [List.map_cons, List.sum_cons, List.length_cons]; push_cast; omega
theorem VL.cb (h : VL C N Z K Q L) : 0 ≤ (ctP L).1 ∧ (ctP L).1 ≤ 40000 := by
  rw [h.ct]
  have h1 := sum_bd L
  have h2 := cf_rng h.1
  have h3 := h.2.1
  constructor
  · exact h1.1
  · have := h1.2; simp only; omega
def jS (U : List SL) (i : Int) : Nat := if i < 0 then U.length else i.toNat
def pl2 (C N Z K Q : Int) (slot p : Int) : Prop := p = -2 ∨ ((-1 ≤ p ∧ p < N) ∧ caN C N Z K Q slot ≠ p)
theorem pl2.r (h : pl2 C N Z K Q slot p) : p = -2 ∨ (-1 ≤ p ∧ p < N) := by unfold pl2 at h; omega
theorem VL.len (h : VL C N Z K Q (X ++ [ns])) : (X.length : Int) = N := by have := h.2.1; simp at this; omega
theorem rm_of (h : VL C N Z K Q (X ++ [ns])) : (rmP C N Z K Q X ns).2 = 0 := VL_iff.2 h
end Go.Own.E
