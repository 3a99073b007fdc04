import Derived.Test.YtnfgeekaeegolaaSp11
import Derived.Test.YtnfgeekaeegolaaPl9f
import Derived.Test.YtnfgeekaeegolaaSepU
import Derived.Test.YtnfgeekaeegolaaSepY
/-! the library's IndexFunc and DeleteFunc over any elements -/
namespace Go.Own.G
open Go Go.Own
variable {α : Type}
def idxFG (p : α → Bool) (l : List α) : Int := match l.findIdx? p with | some i => (i : Int) | none => -1
theorem idxF_noG {p : α → Bool} {l : List α} (h : ∀ i, i < l.length → ∀ x, l[i]? = some x → p x = false) : idxFG p l = -1 := by
  have : l.findIdx? p = none := by
    rw [List.findIdx?_eq_none_iff]; intro x hx
    obtain ⟨i, hi, rfl⟩ := List.mem_iff_getElem.1 hx
    exact h i hi _ (List.getElem?_eq_getElem hi)
  unfold idxFG; rw [this]
theorem idxF_atG {p : α → Bool} {l : List α} {k : Nat} {y : α} (hn : ∀ i, i < k → ∀ x, l[i]? = some x → p x = false) (hy : l[k]? = some y) (h : p y = true) : idxFG p l = k := by
  obtain ⟨hk, rfl⟩ := List.getElem?_eq_some_iff.1 hy
  have : l.findIdx? p = some k := by
    rw [List.findIdx?_eq_some_iff_getElem]
    refine ⟨hk, h, fun j hj => ?_⟩
    have := hn j hj _ (List.getElem?_eq_getElem (by omega)); simp [this]
  unfold idxFG; rw [this]
theorem no_stepG {p : α → Bool} {l : List α} {k : Nat} {y : α} (hn : ∀ i, i < k → ∀ x, l[i]? = some x → p x = false) (hy : l[k]? = some y) (h : p y = false) : ∀ i, i < k + 1 → ∀ x, l[i]? = some x → p x = false := by
  intro i hi x hx
  by_cases e : i = k
  · subst e; rw [hy] at hx; cases hx; exact h
  · exact hn i (by omega) x hx
theorem idxF_specG {p : α → Bool} {l : List α} (h : ¬ idxFG p l = -1) : ∃ (k : Nat) (y : α), idxFG p l = (k : Int) ∧ l[k]? = some y ∧ p y = true ∧ ∀ i, i < k → ∀ x, l[i]? = some x → p x = false := by
  unfold idxFG at h ⊢
  cases e : l.findIdx? p with
  | none => rw [e] at h; exact absurd rfl h
  | some k =>
    rw [List.findIdx?_eq_some_iff_getElem] at e
    obtain ⟨hk, h1, h2⟩ := e
    refine ⟨k, l[k], rfl, List.getElem?_eq_getElem hk, h1, fun i hi x hx => ?_⟩
    obtain ⟨hi2, rfl⟩ := List.getElem?_eq_some_iff.1 hx
    simpa using h2 i hi
def flG (p : α → Bool) (l : List α) : List α := l.filter fun x => !p x
theorem fl_noG {p : α → Bool} {l : List α} (h : idxFG p l = -1) : l = flG p l := by
  unfold flG; symm; rw [List.filter_eq_self]
  intro x hx
  unfold idxFG at h
  cases e : l.findIdx? p with
  | none => rw [List.findIdx?_eq_none_iff] at e; simp [e x hx]
  | some k => rw [e] at h; simp at h <;> omega
theorem fl_allG {p : α → Bool} {l : List α} (h : ∀ x ∈ l, p x = false) : flG p l = l := by unfold flG; rw [List.filter_eq_self]; intro x hx; simp [h x hx]
def dfDG (p : α → Bool) (l gar : List α) (j : Nat) : List α := flG p (l.take j) ++ gar ++ l.drop j
theorem fl_snocG {p : α → Bool} {l : List α} {j : Nat} {y : α} (hy : l[j]? = some y) : flG p (l.take (j + 1)) = flG p (l.take j) ++ (if p y then [] else [y]) := by
  unfold flG; rw [take_snoc' l j y hy, List.filter_append]
  by_cases h : p y = true <;> simp [h]
theorem df_initG {p : α → Bool} {l : List α} {k : Nat} {y : α} (hy : l[k]? = some y) (hp : p y = true) (hn : ∀ i, i < k → ∀ x, l[i]? = some x → p x = false) : l = dfDG p l [y] (k + 1) ∧ (flG p (l.take (k + 1))).length = k := by
  have h1 : flG p (l.take k) = l.take k := fl_allG fun x hx => by
    obtain ⟨i, hi, rfl⟩ := List.mem_iff_getElem.1 hx
    rw [List.length_take] at hi
    exact hn i (by omega) _ (by rw [List.getElem_take]; exact List.getElem?_eq_getElem (by omega))
  have hk := (List.getElem?_eq_some_iff.1 hy).1
  have h2 : flG p (l.take (k + 1)) = l.take k := by rw [fl_snocG hy, h1, if_pos hp, List.append_nil]
  refine ⟨?_, by rw [h2, List.length_take]; omega⟩
  unfold dfDG
  rw [h2, ← take_snoc' l k y hy, List.take_append_drop]
theorem dfD_lenG {p : α → Bool} {l gar : List α} {j : Nat} (hj : j ≤ l.length) (h : (flG p (l.take j)).length + gar.length = j) : (dfDG p l gar j).length = l.length := by
  unfold dfDG; rw [List.length_append, List.length_append, List.length_drop]; omega
theorem df_getG {p : α → Bool} {l gar : List α} {j : Nat} {y : α} (h : (flG p (l.take j)).length + gar.length = j) (hy : (dfDG p l gar j)[j]? = some y) : l[j]? = some y := by
  unfold dfDG at hy
  rw [List.getElem?_append_right (by rw [List.length_append]; omega), List.length_append, h, List.getElem?_drop] at hy
  simpa using hy
theorem df_keepG {p : α → Bool} {l gar : List α} {j : Nat} {y : α} (h : (flG p (l.take j)).length + gar.length = j) (hy : l[j]? = some y) (hp : p y = false) :
    (dfDG p l gar j).set (flG p (l.take j)).length y = dfDG p l (gar ++ [y]).tail (j + 1) ∧ (flG p (l.take (j + 1))).length = (flG p (l.take j)).length + 1 ∧ (flG p (l.take (j + 1))).length + (gar ++ [y]).tail.length = j + 1 := by
  have hk := (List.getElem?_eq_some_iff.1 hy).1
  have e := (List.getElem?_eq_some_iff.1 hy).2
  have hf : flG p (l.take (j + 1)) = flG p (l.take j) ++ [y] := by rw [fl_snocG hy]; simp [hp]
  have hd : l.drop j = y :: l.drop (j + 1) := by rw [List.drop_eq_getElem_cons hk, e]
  refine ⟨?_, by rw [hf]; simp, by rw [hf]; cases gar <;> simp at h ⊢ <;> omega⟩
  unfold dfDG
  rw [hf, hd, List.append_assoc, List.set_append_right _ _ (Nat.le_refl _), Nat.sub_self]
  cases gar with
  | nil => simp
  | cons g gs => simp
theorem df_dropG {p : α → Bool} {l gar : List α} {j : Nat} {y : α} (h : (flG p (l.take j)).length + gar.length = j) (hy : l[j]? = some y) (hp : p y = true) :
    dfDG p l gar j = dfDG p l (gar ++ [y]) (j + 1) ∧ (flG p (l.take (j + 1))).length = (flG p (l.take j)).length ∧ (flG p (l.take (j + 1))).length + (gar ++ [y]).length = j + 1 := by
  have hk := (List.getElem?_eq_some_iff.1 hy).1
  have e := (List.getElem?_eq_some_iff.1 hy).2
  have hf : flG p (l.take (j + 1)) = flG p (l.take j) := by rw [fl_snocG hy]; simp [hp]
  have hd : l.drop j = y :: l.drop (j + 1) := by rw [List.drop_eq_getElem_cons hk, e]
  refine ⟨?_, by rw [hf], by rw [hf]; simp; omega⟩
  unfold dfDG; rw [hf, hd]; simp
theorem df_endG {p : α → Bool} {l gar : List α} {j n : Nat} {zs : List α} (hj : l.length ≤ j) (hn : n = (flG p (l.take j)).length) : ((dfDG p l gar j).take n ++ zs).take n = flG p l := by
  subst hn
  unfold dfDG
  rw [List.take_of_length_le hj, List.append_assoc, List.take_left' rfl, List.take_left' rfl]
end Go.Own.G

/-! slices of slices of counts, as arguments -/
namespace Go.Own.F
open Go Go.Own Go.Own.R Go.Own.S
abbrev RS := Value × List (Int × Int)
def nsr (us : List RS) : HP where
  p w f := ∀ y ∈ us, (rl 2 rcC y.1 y.2).p w f
  loc := fun h h1 h2 y hy => (rl 2 rcC y.1 y.2).loc (h y hy) h1 h2
theorem ro_set {α : Type} {fn : α → List Value} {s : Nat} {v : Value} {xs : List α} {j : Nat} {y : α} (hs : ∀ a, (fn a).length = s) (hj : j < xs.length) :
    ow s xs.length v ((xs.flatMap fn).take (j * s) ++ fn y ++ (xs.flatMap fn).drop (j * s + s)) = ro s fn v (xs.set j y) := by
  unfold ro
  rw [List.length_set, List.set_eq_take_append_cons_drop, if_pos hj, List.flatMap_append, List.flatMap_cons, ← flat_take hs, ← flat_drop hs, Nat.succ_mul, List.append_assoc]
theorem ro_clr {α : Type} {fn : α → List Value} {s : Nat} {v : Value} {xs : List α} {lo : Nat} {z : α} (hs : ∀ a, (fn a).length = s) (hl : lo ≤ xs.length) :
    ow s xs.length v ((xs.flatMap fn).take (lo * s) ++ (List.replicate (xs.length - lo) (fn z)).flatten) = ro s fn v (xs.take lo ++ List.replicate (xs.length - lo) z) := by
  unfold ro
  rw [List.length_append, List.length_take, List.length_replicate, List.flatMap_append, ← flat_take hs]
  have e1 : min lo xs.length + (xs.length - lo) = xs.length := by omega
  have e2 : (List.replicate (xs.length - lo) z).flatMap fn = (List.replicate (xs.length - lo) (fn z)).flatten := by
    rw [List.flatMap_def, List.map_replicate]
  rw [e1, e2]
theorem part_eqR {α : Type} {fn : α → List Value} {s : Nat} {v : Value} {xs zs : List α} {lo hh : Nat} (hs : ∀ a, (fn a).length = s) (h1 : lo ≤ hh) (h2 : hh ≤ xs.length) (e : (xs.drop lo).take (hh - lo) = zs) :
    ow s (hh - lo) v (((xs.flatMap fn).drop (lo * s)).take ((hh - lo) * s)) = ro s fn v zs := by
  subst e
  have : ((xs.drop lo).take (hh - lo)).length = hh - lo := by simp; omega
  unfold ro
  rw [this, flat_drop hs, flat_take hs]
theorem nsr_ro {w : World} {X : Nat → Prop} {us : List RS} {k : Nat} {y : RS} (h : Ro w X (nsr us)) (hy : us[k]? = some y) : Ro w X (rl 2 rcC y.1 y.2) := let ⟨f, h1, h2⟩ := h; ⟨f, h1 y (List.mem_of_getElem? hy), h2⟩
theorem nsr_one {w : World} {X : Nat → Prop} {v : Value} {l : List (Int × Int)} (h : Ro w X (rl 2 rcC v l)) : Ro w X (nsr [(v, l)]) := let ⟨f, h1, h2⟩ := h; ⟨f, fun y hy => by simp at hy; subst hy; exact h1, h2⟩
theorem nsr_two {w : World} {X : Nat → Prop} {v u : Value} {l m : List (Int × Int)} (h : Ro w X (rl 2 rcC v l)) (h' : Ro w X (rl 2 rcC u m)) : Ro w X (nsr [(v, l), (u, m)]) := by
  obtain ⟨f, p1, p2⟩ := h
  obtain ⟨g, q1, q2⟩ := h'
  refine ⟨fun b => f b ∨ g b, fun y hy => ?_, fun b hb => hb.elim (p2 b) (q2 b)⟩
  simp only [List.mem_cons, List.not_mem_nil, or_false] at hy
  rcases hy with rfl | rfl
  · exact sl_mono p1 fun b => .inl
  · exact sl_mono q1 fun b => .inr
end Go.Own.F
