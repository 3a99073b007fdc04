import Derived.Test.YtdilbnmaihmgnaaPl15k
/-! what comes from registers in so many steps -/
namespace Go.Own.Gr
open Go Go.Own Go.Own.R Go.Own.G
structure NrA (O : List Ab) (rs N : List Int) : Prop where
  sound : ∀ x ∈ N, Lv O rs x
  nd : N.Nodup
def RgI (l N : List Int) (k : Nat) : Prop := ∀ i, i < k → ∀ p, l[i]? = some p → p = 0 ∨ p ∈ N
def ClI (O : List Ab) (N : List Int) (m : Nat) : Prop := ∀ i, i < m → ∀ x, N[i]? = some x → ∀ p ∈ pt O x, p = 0 ∨ p ∈ N
theorem nd_len {N : List Int} {n : Nat} (h : N.Nodup) (hr : ∀ x ∈ N, 1 ≤ x ∧ x ≤ (n : Int)) : N.length ≤ n := by
  have hs : (sortL N).Pairwise (· < ·) := by
    have h1 := sortL_asc N
    have h2 : (sortL N).Nodup := (List.mergeSort_perm N _).nodup_iff.2 h
    exact (h1.and h2).imp fun ⟨a, b⟩ => by omega
  have e : sortL N = tgK N n := asc_unique hs (tgK_asc _ _) fun a => by
    rw [sortL_mem, tgK_mem]
    exact ⟨fun q => by have := hr a q; exact ⟨this.1, this.2, q⟩, fun q => q.2.2⟩
  have hl : (sortL N).length = N.length := (List.mergeSort_perm _ _).length_eq
  rw [← hl, e]; exact tgK_len _ _
theorem NrA.len {O : List Ab} {rs N : List Int} (h : NrA O rs N) (hg : GG O rs) : N.length ≤ O.length := nd_len h.nd fun x hx => (h.sound x hx).rng hg
theorem NrA.nil (O : List Ab) (rs : List Int) : NrA O rs [] := ⟨fun _ h => (by cases h), List.nodup_nil⟩
theorem NrA.push {O : List Ab} {rs N : List Int} {x : Int} (h : NrA O rs N) (hx : Lv O rs x) (hn : ¬ x ∈ N) : NrA O rs (N ++ [x]) :=
  ⟨fun y hy => by
    rcases List.mem_append.1 hy with q | q
    · exact h.sound y q
    · rw [List.mem_singleton] at q; subst q; exact hx,
   List.nodup_append.2 ⟨h.nd, by simp, fun a ha b hb => by rw [List.mem_singleton] at hb; subst hb; rintro rfl; exact hn ha⟩⟩
theorem RgI.zero (l N : List Int) : RgI l N 0 := fun _ h => by omega
theorem RgI.mono {l N : List Int} {k : Nat} {x : Int} (h : RgI l N k) : RgI l (N ++ [x]) k := fun i hi p hp => (h i hi p hp).imp id fun q => List.mem_append_left _ q
theorem RgI.step {l N : List Int} {k : Nat} {p : Int} (h : RgI l N k) (hp : l[k]? = some p) (hz : p = 0 ∨ p ∈ N) : RgI l N (k + 1) := by
  intro i hi q hq
  by_cases e : i = k
  · subst e; rw [hp] at hq; cases hq; exact hz
  · exact h i (by omega) q hq
theorem RgI.push {l N : List Int} {k : Nat} {p : Int} (h : RgI l N k) (hp : l[k]? = some p) : RgI l (N ++ [p]) (k + 1) := (h.mono (x := p)).step hp (.inr (by simp))
theorem ClI.zero (O : List Ab) (N : List Int) : ClI O N 0 := fun _ h => by omega
theorem ClI.mono {O : List Ab} {N : List Int} {m : Nat} {x : Int} (h : ClI O N m) (hm : m ≤ N.length) : ClI O (N ++ [x]) m := fun i hi y hy p hp => by
  rw [List.getElem?_append_left (by omega)] at hy
  exact (h i hi y hy p hp).imp id fun q => List.mem_append_left _ q
theorem ClI.step {O : List Ab} {N l : List Int} {m q : Nat} {x : Int} (h : ClI O N m) (hx : N[m]? = some x) (hp : pt O x = l) (hl : RgI l N q) (hq : l.length ≤ q) : ClI O N (m + 1) := by
  intro i hi y hy p hpp
  by_cases e : i = m
  · subst e
    rw [hx] at hy; cases hy
    rw [hp] at hpp
    obtain ⟨j, hj, rfl⟩ := List.mem_iff_getElem.1 hpp
    exact hl j (by omega) _ (List.getElem?_eq_getElem hj)
  · exact h i (by omega) y hy p hpp
theorem NrA.done {O : List Ab} {rs N : List Int} {k : Nat} (h : NrA O rs N) (hg : GG O rs) (hr : RgI rs N k) (hk : rs.length ≤ k) (hc : ClI O N N.length ∨ O.length = 0) : ∀ x, x ∈ N ↔ Lv O rs x := by
  intro x
  refine ⟨h.sound x, fun hx => ?_⟩
  rcases hc with hc | hc
  · induction hx with
    | @reg i hi h0 =>
      obtain ⟨j, hj, rfl⟩ := List.mem_iff_getElem.1 hi
      exact (hr j (by omega) _ (List.getElem?_eq_getElem hj)).resolve_left h0
    | @ptr i j _ hj h0 ih =>
      obtain ⟨m, hm, rfl⟩ := List.mem_iff_getElem.1 ih
      exact (hc m hm _ (List.getElem?_eq_getElem hm) j hj).resolve_left h0
  · have := hx.rng hg; omega
theorem NrA.lens {O : List Ab} {rs N : List Int} (h : NrA O rs N) (hg : GG O rs) (hd : ∀ x, x ∈ N ↔ Lv O rs x) : N.length = (lvT O rs).length := by
  have h2 : (lvT O rs).Nodup := by
    rw [lvT_k (ckG_iff.2 hg)]
    exact (lvL_asc O rs).imp fun q => by omega
  exact ((List.perm_ext_iff_of_nodup h.nd h2).2 fun x => by rw [hd, lvT_mem hg]).length_eq
theorem lvT_up {O : List Ab} {rs : List Int} (hg : GG O rs) {k : Nat} {x y : Int} (h0 : 0 < k) (hx : (lvT O rs)[k]? = some x) (hy : (lvT O rs)[k - 1]? = some y) : y < x := by
  rw [lvT_k (ckG_iff.2 hg)] at hx hy
  have := List.pairwise_iff_getElem.1 (lvL_asc O rs) (k - 1) k (List.getElem?_eq_some_iff.1 hy).1 (List.getElem?_eq_some_iff.1 hx).1 (by omega)
  rw [(List.getElem?_eq_some_iff.1 hy).2, (List.getElem?_eq_some_iff.1 hx).2] at this
  exact this
end Go.Own.Gr
