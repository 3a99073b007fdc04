import Derived.Test.YtpgkfndbfocibaaGreatPl15c
import Derived.Test.YtpgkfndbfocibaaGreatSepU
namespace Go.Own.Gr
open Go Go.Own Go.Own.R Go.Own.G
theorem rg_at {rs : List Int} {a y : Int} (hy : rs[a.toNat]? = some y) : rg rs a = y := by unfold rg; rw [List.getD_eq_getElem?_getD, hy]; rfl
theorem ob_at {O : List Ob} {rs : List Int} {a : Int} {y : Ob} (hy : O[(rg rs a - 1).toNat]? = some y) : ob (O.map ab) rs a = ab y := by
 unfold ob; rw [List.getD_eq_getElem?_getD, mapE hy]; rfl
end Go.Own.Gr
namespace Go.Own.Gr
open Go Go.Own Go.Own.R Go.Own.G
theorem rw_ck {O : List Ab} {rs : List Int} {a f : Int} (h : ckd O rs [a] ≠ 0) : rwE O rs [a] a f = ckd O rs [a] ∧ rdV O rs a f = 0 := by
 have e : rwE O rs [a] a f = ckd O rs [a] := by unfold rwE; rw [if_pos h]
 refine ⟨e, ?_⟩; unfold rdV; rw [if_pos (by rw [e]; exact h)]
theorem rw_no {O : List Ab} {rs : List Int} {a f : Int} (h : ckd O rs [a] = 0) (hz : rg rs a = 0 ∨ f < 0 ∨ ((ob O rs a).2.length : Int) ≤ f) : rwE O rs [a] a f = 10 ∧ rdV O rs a f = 0 := by
 have e : rwE O rs [a] a f = 10 := by unfold rwE; rw [if_neg (by simpa using h), if_pos hz]
 refine ⟨e, ?_⟩; unfold rdV; rw [if_pos (by rw [e]; decide)]
theorem rw_ok {O : List Ab} {rs : List Int} {a f x : Int} {o : Ab} (h : ckd O rs [a] = 0) (hz : ¬ (rg rs a = 0 ∨ f < 0 ∨ ((ob O rs a).2.length : Int) ≤ f)) (hob : ob O rs a = o) (hx : o.2[f.toNat]? = some x) : rwE O rs [a] a f = 0 ∧ rdV O rs a f = x := by
 have e : rwE O rs [a] a f = 0 := by unfold rwE; rw [if_neg (by simpa using h), if_neg hz]
 refine ⟨e, ?_⟩; unfold rdV; rw [if_neg (by rw [e]; decide), hob, List.getD_eq_getElem?_getD, hx]; rfl
theorem sh_ck {O : List Ab} {rs : List Int} {a : Int} (h : ckd O rs [a] ≠ 0) : shE O rs a = ckd O rs [a] ∧ shP O rs a = 0 ∧ shR O rs a = 0 := by
 have e : shE O rs a = ckd O rs [a] := by unfold shE; rw [if_pos h]
 refine ⟨e, ?_, ?_⟩
 ·unfold shP; rw [if_pos (by rw [e]; exact h)]
 ·unfold shR; rw [if_pos (by rw [e]; exact h)]
theorem sh_no {O : List Ab} {rs : List Int} {a : Int} (h : ckd O rs [a] = 0) (hz : rg rs a = 0) : shE O rs a = 10 ∧ shP O rs a = 0 ∧ shR O rs a = 0 := by
 have e : shE O rs a = 10 := by unfold shE; rw [if_neg (by simpa using h), if_pos hz]
 refine ⟨e, ?_, ?_⟩
 ·unfold shP; rw [if_pos (by rw [e]; decide)]
 ·unfold shR; rw [if_pos (by rw [e]; decide)]
theorem sh_ok {O : List Ab} {rs : List Int} {a : Int} {o : Ab} (h : ckd O rs [a] = 0) (hz : ¬ rg rs a = 0) (hob : ob O rs a = o) : shE O rs a = 0 ∧ shP O rs a = (o.1.length : Int) ∧ shR O rs a = (o.2.length : Int) := by
 have e : shE O rs a = 0 := by unfold shE; rw [if_neg (by simpa using h), if_neg hz]
 refine ⟨e, ?_, ?_⟩
 ·unfold shP; rw [if_neg (by rw [e]; decide), hob]
 ·unfold shR; rw [if_neg (by rw [e]; decide), hob]
theorem al_ok {O : List Ab} {rs : List Int} {a b y z : Int} (h : ckd O rs [a, b] = 0) (hy : rs[a.toNat]? = some y) (hz : rs[b.toNat]? = some z) : alB O rs a b = decide (y = z) := by
 unfold alB; rw [rg_at hy, rg_at hz]; simp [h]
theorem al_err {O : List Ab} {rs : List Int} {a b : Int} (h : ¬ ckd O rs [a, b] = 0) : alB O rs a b = false := by unfold alB; simp [h]
theorem as_step {O : List Ab} {rs ns : List Int} {j : Nat} {y e : Int} (he : e = if (ckG O rs).2 ≠ 0 then (ckG O rs).2 else if (ns.take j).all (inR rs.length) then 0 else 10) (h0 : e = 0) (hy : ns[j]? = some y) (e' : Int) (h1 : (y < 0 ∨ (rs.length : Int) ≤ y) → e' = 10) (h2 : ¬ (y < 0 ∨ (rs.length : Int) ≤ y) → e' = 0) :
  e' = if (ckG O rs).2 ≠ 0 then (ckG O rs).2 else if (ns.take (j + 1)).all (inR rs.length) then 0 else 10 := by
 have hc : (ckG O rs).2 = 0 := by
  apply Classical.byContradiction; intro h; rw [if_pos h] at he; omega
 rw [if_neg (by simpa using hc)] at he ⊢
 rw [take_snoc' ns j y hy, List.all_append]
 have ha : (ns.take j).all (inR rs.length) = true := by
  apply Classical.byContradiction; intro h; rw [if_neg h] at he; omega
 rw [ha]
 by_cases hb : y < 0 ∨ (rs.length : Int) ≤ y
 ·rw [h1 hb]
  have : inR rs.length y = false := by simp [inR]; omega
  simp [this]
 ·rw [h2 hb]
  have : inR rs.length y = true := by simp [inR]; omega
  simp [this]
theorem as_init (O : List Ab) (rs ns : List Int) : (ckG O rs).2 = if (ckG O rs).2 ≠ 0 then (ckG O rs).2 else if (ns.take 0).all (inR rs.length) then 0 else 10 := by
 by_cases h : (ckG O rs).2 = 0 <;> simp [h]
theorem as_done {O : List Ab} {rs ns : List Int} {j : Nat} {e : Int} (he : e = if (ckG O rs).2 ≠ 0 then (ckG O rs).2 else if (ns.take j).all (inR rs.length) then 0 else 10) (h : ¬ e = 0 ∨ ns.length ≤ j) : e = ckd O rs ns := by
 unfold ckd
 by_cases hc : (ckG O rs).2 = 0
 ·rw [if_neg (by simpa using hc)] at he ⊢
  rcases h with h | h
  ·have : ¬ (ns.take j).all (inR rs.length) = true := fun q => by rw [if_pos q] at he; exact h he
   rw [if_neg this] at he
   rw [if_neg, he]
   intro q
   exact this (List.all_eq_true.2 fun x hx => List.all_eq_true.1 q x (List.mem_of_mem_take hx))
  ·rw [List.take_of_length_le h] at he; exact he
 ·rw [if_pos hc] at he ⊢; exact he
theorem any_at {n : Nat} {l : List Int} {k : Nat} {y : Int} (hy : l[k]? = some y) (h : ¬ (0 ≤ y ∧ y ≤ (n : Int))) : l.any (noB n) = true := any_no.2 fun q => h (q y (List.mem_of_getElem? hy))
theorem any_none {n : Nat} {l : List Int} {k : Nat} (h : ∀ i, i < k → ∀ x, l[i]? = some x → 0 ≤ x ∧ x ≤ (n : Int)) (hk : l.length ≤ k) : l.any (noB n) = false := by
 cases e : l.any (noB n)
 ·rfl
 ·refine absurd ?_ (any_no.1 e)
  intro p hp
  obtain ⟨i, hi, rfl⟩ := List.mem_iff_getElem.1 hp
  exact h i (by omega) _ (List.getElem?_eq_getElem hi)
theorem rn_step {n : Nat} {l : List Int} {k : Nat} {y : Int} (h : ∀ i, i < k → ∀ x, l[i]? = some x → 0 ≤ x ∧ x ≤ (n : Int)) (hy : l[k]? = some y) (hr : 0 ≤ y ∧ y ≤ (n : Int)) : ∀ i, i < k + 1 → ∀ x, l[i]? = some x → 0 ≤ x ∧ x ≤ (n : Int) := by
 intro i hi x hx
 by_cases e : i = k
 ·subst e; rw [hy] at hx; cases hx; exact hr
 ·exact h i (by omega) x hx
end Go.Own.Gr
