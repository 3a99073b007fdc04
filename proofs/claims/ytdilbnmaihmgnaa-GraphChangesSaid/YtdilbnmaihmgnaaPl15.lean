import Derived.Test.YtdilbnmaihmgnaaPlG
import Derived.Test.YtdilbnmaihmgnaaPl19b
namespace Go.Own.Gr
open Go Go.Own Go.Own.R Go.Own.G
abbrev Ab := List Int × List Int
/-- how many parts an object has, as the program adds them up (modulo 2^64). -/
def sz2 (o : Ab) : Int := IntKind.i64.wrap ((o.1.length : Int) + (o.2.length : Int))
def noB (n : Nat) (i : Int) : Bool := decide (i < 0 ∨ (n : Int) < i)
def cgGo (n : Nat) : List Ab → Nat → Int × Int
  | [], _ => (0, 0)
  | o :: r, i => if 31 < sz2 o then ((i : Int) + 1, 3) else if o.1.any (noB n) then ((i : Int) + 1, 6) else cgGo n r (i + 1)
def ckG (O : List Ab) (rs : List Int) : Int × Int :=
  if rs.length < 1 ∨ 8 < rs.length then (0, 7) else if 400 < O.length then (0, 3) else
  if (cgGo O.length O 0).2 ≠ 0 then cgGo O.length O 0 else if rs.any (noB O.length) then (0, 6) else (0, 0)
theorem ckG_rng {O : List Ab} {rs : List Int} (h : (rs.length : Int) < 1 ∨ 8 < (rs.length : Int)) : ckG O rs = (0, 7) := by unfold ckG; rw [if_pos (by omega)]
theorem ckG_long {O : List Ab} {rs : List Int} (h : ¬ ((rs.length : Int) < 1 ∨ 8 < (rs.length : Int))) (h2 : 400 < (O.length : Int)) : ckG O rs = (0, 3) := by unfold ckG; rw [if_neg (by omega), if_pos (by omega)]
theorem drop_at15 {α : Type} {l : List α} {k : Nat} {y : α} (hy : l[k]? = some y) : l.drop k = y :: l.drop (k + 1) := by
  obtain ⟨hk, rfl⟩ := List.getElem?_eq_some_iff.1 hy
  exact List.drop_eq_getElem_cons hk
/-- how the check stands at object k. -/
def cgAt (O : List Ab) (k : Nat) : Prop := cgGo O.length O 0 = cgGo O.length (O.drop k) k
theorem cg_step {O : List Ab} {k : Nat} {y : Ab} (hz : cgAt O k) (hy : O[k]? = some y) (h1 : ¬ 31 < sz2 y) (h2 : y.1.any (noB O.length) = false) : cgAt O (k + 1) := by
  unfold cgAt at hz ⊢
  rw [hz, drop_at15 hy, cgGo, if_neg h1, h2]; rfl
theorem cg_done {O : List Ab} {k : Nat} (hz : cgAt O k) (hk : O.length ≤ k) : cgGo O.length O 0 = (0, 0) := by
  unfold cgAt at hz; rw [hz, List.drop_eq_nil_of_le hk]; rfl
theorem ckG_obj {O : List Ab} {rs : List Int} {k : Nat} {y : Ab} (h : ¬ ((rs.length : Int) < 1 ∨ 8 < (rs.length : Int))) (h2 : ¬ 400 < (O.length : Int)) (hz : cgAt O k) (hy : O[k]? = some y) :
    (31 < sz2 y → ckG O rs = ((k : Int) + 1, 3)) ∧ (¬ 31 < sz2 y → y.1.any (noB O.length) = true → ckG O rs = ((k : Int) + 1, 6)) := by
  unfold cgAt at hz
  constructor
  · intro q
    have e : cgGo O.length O 0 = ((k : Int) + 1, 3) := by rw [hz, drop_at15 hy, cgGo, if_pos q]
    unfold ckG; rw [if_neg (by omega), if_neg (by omega), e]; simp
  · intro q r
    have e : cgGo O.length O 0 = ((k : Int) + 1, 6) := by rw [hz, drop_at15 hy, cgGo, if_neg q, if_pos r]
    unfold ckG; rw [if_neg (by omega), if_neg (by omega), e]; simp
theorem ckG_end {O : List Ab} {rs : List Int} {k : Nat} (h : ¬ ((rs.length : Int) < 1 ∨ 8 < (rs.length : Int))) (h2 : ¬ 400 < (O.length : Int)) (hz : cgAt O k) (hk : O.length ≤ k) : ckG O rs = if rs.any (noB O.length) = true then (0, 6) else (0, 0) := by
  unfold ckG; rw [if_neg (by omega), if_neg (by omega), cg_done hz hk]; simp
theorem cgGo_none (n : Nat) : ∀ (r : List Ab) (i : Nat), ((cgGo n r i).2 = 0 ↔ ∀ o ∈ r, sz2 o ≤ 31 ∧ ∀ p ∈ o.1, 0 ≤ p ∧ p ≤ n)
  | [], i => by simp [cgGo]
  | o :: r, i => by
    unfold cgGo
    by_cases h1 : 31 < sz2 o
    · rw [if_pos h1]
      refine ⟨fun q => (by cases q), fun q => ?_⟩
      have := (q o (by simp)).1; omega
    · rw [if_neg h1]
      by_cases h2 : o.1.any (noB n) = true
      · rw [if_pos h2]
        refine ⟨fun q => (by cases q), fun q => ?_⟩
        obtain ⟨p, hp, hn⟩ := List.any_eq_true.1 h2
        have := (q o (by simp)).2 p hp
        unfold noB at hn; simp at hn; omega
      · rw [if_neg h2, cgGo_none n r (i + 1)]
        constructor
        · intro q x hx
          rcases List.mem_cons.1 hx with rfl | hx
          · refine ⟨by omega, fun p hp => ?_⟩
            have h3 : noB n p = false := by
              cases e : noB n p
              · rfl
              · exact absurd (List.any_eq_true.2 ⟨p, hp, e⟩) h2
            unfold noB at h3; simp at h3; omega
          · exact q x hx
        · exact fun q x hx => q x (List.mem_cons_of_mem _ hx)
/-- good graphs. -/
structure GG (O : List Ab) (rs : List Int) : Prop where
  r1 : 1 ≤ rs.length
  r8 : rs.length ≤ 8
  o4 : O.length ≤ 400
  obj : ∀ o ∈ O, sz2 o ≤ 31 ∧ ∀ p ∈ o.1, 0 ≤ p ∧ p ≤ (O.length : Int)
  reg : ∀ p ∈ rs, 0 ≤ p ∧ p ≤ (O.length : Int)
theorem any_no {n : Nat} {l : List Int} : l.any (noB n) = true ↔ ¬ ∀ p ∈ l, 0 ≤ p ∧ p ≤ (n : Int) := by
  rw [List.any_eq_true]
  constructor
  · rintro ⟨p, hp, hn⟩ h
    have := h p hp
    unfold noB at hn; simp at hn; omega
  · intro h
    apply Classical.byContradiction
    intro q
    refine h fun p hp => ?_
    apply Classical.byContradiction
    intro r
    exact q ⟨p, hp, by unfold noB; simp; omega⟩
theorem ckG_iff {O : List Ab} {rs : List Int} : (ckG O rs).2 = 0 ↔ GG O rs := by
  unfold ckG
  by_cases h1 : rs.length < 1 ∨ 8 < rs.length
  · rw [if_pos h1]; exact ⟨fun q => (by cases q), fun q => by have := q.r1; have := q.r8; omega⟩
  · rw [if_neg h1]
    by_cases h2 : 400 < O.length
    · rw [if_pos h2]; exact ⟨fun q => (by cases q), fun q => by have := q.o4; omega⟩
    · rw [if_neg h2]
      by_cases h3 : (cgGo O.length O 0).2 ≠ 0
      · rw [if_pos h3]; exact ⟨fun q => absurd q h3, fun q => absurd ((cgGo_none _ _ _).2 q.obj) h3⟩
      · rw [if_neg h3]
        by_cases h4 : rs.any (noB O.length) = true
        · rw [if_pos h4]; exact ⟨fun q => (by cases q), fun q => absurd q.reg (any_no.1 h4)⟩
        · rw [if_neg h4]
          refine ⟨fun _ => ⟨by omega, by omega, by omega, (cgGo_none _ _ _).1 (by simpa using h3), ?_⟩, fun _ => rfl⟩
          apply Classical.byContradiction
          intro q; exact h4 (any_no.2 q)
/-! registers asked -/
def inR (n : Nat) (a : Int) : Bool := decide (0 ≤ a ∧ a < n)
def ckd (O : List Ab) (rs ns : List Int) : Int := if (ckG O rs).2 ≠ 0 then (ckG O rs).2 else if ns.all (inR rs.length) then 0 else 10
theorem ckd_ck {O : List Ab} {rs ns : List Int} (h : (ckG O rs).2 ≠ 0) : ckd O rs ns = (ckG O rs).2 := by unfold ckd; rw [if_pos h]
theorem ckd_bad {O : List Ab} {rs ns : List Int} {j : Nat} {y : Int} (h : ¬ (ckG O rs).2 ≠ 0) (hy : ns[j]? = some y) (hb : y < 0 ∨ (rs.length : Int) ≤ y) : ckd O rs ns = 10 := by
  unfold ckd; rw [if_neg h, if_neg]
  intro ha
  have := List.all_eq_true.1 ha y (List.mem_of_getElem? hy)
  simp [inR] at this; omega
theorem ckd_ok {O : List Ab} {rs ns : List Int} {j : Nat} (h : ¬ (ckG O rs).2 ≠ 0) (hj : ∀ i, i < j → ∀ x, ns[i]? = some x → 0 ≤ x ∧ x < (rs.length : Int)) (hl : ns.length ≤ j) : ckd O rs ns = 0 := by
  unfold ckd; rw [if_neg h, if_pos]
  rw [List.all_eq_true]; intro x hx
  obtain ⟨i, hi, rfl⟩ := List.mem_iff_getElem.1 hx
  have := hj i (by omega) _ (List.getElem?_eq_getElem hi)
  simp [inR]; omega
theorem rg_step {rs ns : List Int} {j : Nat} {y : Int} (h : ∀ i, i < j → ∀ x, ns[i]? = some x → 0 ≤ x ∧ x < (rs.length : Int)) (hy : ns[j]? = some y) (hr : 0 ≤ y ∧ y < (rs.length : Int)) : ∀ i, i < j + 1 → ∀ x, ns[i]? = some x → 0 ≤ x ∧ x < (rs.length : Int) := by
  intro i hi x hx
  by_cases e : i = j
  · subst e; rw [hy] at hx; cases hx; exact hr
  · exact h i (by omega) x hx
theorem ckd_0 {O : List Ab} {rs ns : List Int} : ckd O rs ns = 0 ↔ GG O rs ∧ ∀ x ∈ ns, 0 ≤ x ∧ x < (rs.length : Int) := by
  unfold ckd
  by_cases h : (ckG O rs).2 ≠ 0
  · rw [if_pos h]; exact ⟨fun q => absurd q h, fun q => absurd (ckG_iff.2 q.1) h⟩
  · rw [if_neg h]
    have hg := ckG_iff.1 (by simpa using h)
    by_cases q : ns.all (inR rs.length) = true
    · rw [if_pos q]
      refine ⟨fun _ => ⟨hg, fun x hx => ?_⟩, fun _ => rfl⟩
      have := List.all_eq_true.1 q x hx
      simpa [inR] using this
    · rw [if_neg q]
      refine ⟨fun r => (by cases r), fun r => absurd ?_ q⟩
      rw [List.all_eq_true]; intro x hx
      have := r.2 x hx
      simp [inR]; omega
/-! what changes -/
def rg (rs : List Int) (a : Int) : Int := rs.getD a.toNat 0
/-- the object of a register. -/
def ob (O : List Ab) (rs : List Int) (a : Int) : Ab := O.getD (rg rs a - 1).toNat ([], [])
def alE (O : List Ab) (rs : List Int) (a p r : Int) : Int := if ckd O rs [a] ≠ 0 then ckd O rs [a] else if p < 0 ∨ r < 0 then 10 else if 31 < p ∨ 31 - p < r then 11 else if O.length = 400 then 5 else 0
def alO (O : List Ab) (rs : List Int) (a p r : Int) : List Ab := if alE O rs a p r ≠ 0 then [] else O ++ [(List.replicate p.toNat 0, List.replicate r.toNat 0)]
def alR (O : List Ab) (rs : List Int) (a p r : Int) : List Int := if alE O rs a p r ≠ 0 then [] else rs.set a.toNat ((O.length : Int) + 1)
/-- is there a pointer, a raw word? -/
def ptE (O : List Ab) (rs ns : List Int) (a f : Int) : Int := if ckd O rs ns ≠ 0 then ckd O rs ns else if rg rs a = 0 ∨ f < 0 ∨ ((ob O rs a).1.length : Int) ≤ f then 10 else 0
def rwE (O : List Ab) (rs ns : List Int) (a f : Int) : Int := if ckd O rs ns ≠ 0 then ckd O rs ns else if rg rs a = 0 ∨ f < 0 ∨ ((ob O rs a).2.length : Int) ≤ f then 10 else 0
def ldO (O : List Ab) (rs : List Int) (a b f : Int) : List Ab := if ptE O rs [a, b] b f ≠ 0 then [] else O
def ldR (O : List Ab) (rs : List Int) (a b f : Int) : List Int := if ptE O rs [a, b] b f ≠ 0 then [] else rs.set a.toNat ((ob O rs b).1.getD f.toNat 0)
def soO (O : List Ab) (rs : List Int) (a f b : Int) : List Ab := if ptE O rs [a, b] a f ≠ 0 then [] else O.set (rg rs a - 1).toNat ((ob O rs a).1.set f.toNat (rg rs b), (ob O rs a).2)
def soR (O : List Ab) (rs : List Int) (a f b : Int) : List Int := if ptE O rs [a, b] a f ≠ 0 then [] else rs
def rdV (O : List Ab) (rs : List Int) (a f : Int) : Int := if rwE O rs [a] a f ≠ 0 then 0 else (ob O rs a).2.getD f.toNat 0
def wrO (O : List Ab) (rs : List Int) (a f x : Int) : List Ab := if rwE O rs [a] a f ≠ 0 then [] else O.set (rg rs a - 1).toNat ((ob O rs a).1, (ob O rs a).2.set f.toNat x)
def wrR (O : List Ab) (rs : List Int) (a f : Int) : List Int := if rwE O rs [a] a f ≠ 0 then [] else rs
def kpO (O : List Ab) (rs ns : List Int) : List Ab := if ckd O rs ns ≠ 0 then [] else O
def mvR (O : List Ab) (rs : List Int) (a b : Int) : List Int := if ckd O rs [a, b] ≠ 0 then [] else rs.set a.toNat (rg rs b)
def clR (O : List Ab) (rs : List Int) (a : Int) : List Int := if ckd O rs [a] ≠ 0 then [] else rs.set a.toNat 0
def alB (O : List Ab) (rs : List Int) (a b : Int) : Bool := decide (ckd O rs [a, b] = 0 ∧ rg rs a = rg rs b)
def shE (O : List Ab) (rs : List Int) (a : Int) : Int := if ckd O rs [a] ≠ 0 then ckd O rs [a] else if rg rs a = 0 then 10 else 0
def shP (O : List Ab) (rs : List Int) (a : Int) : Int := if shE O rs a ≠ 0 then 0 else ((ob O rs a).1.length : Int)
def shR (O : List Ab) (rs : List Int) (a : Int) : Int := if shE O rs a ≠ 0 then 0 else ((ob O rs a).2.length : Int)
end Go.Own.Gr
