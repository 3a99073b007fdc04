import Derived.Test.YtpgkfndbfocibaaGreatPl15f
namespace Go.Own.Gr
open Go Go.Own Go.Own.R Go.Own.G
theorem ckd_nil (O : List Ab) (rs : List Int) : ckd O rs [] = (ckG O rs).2 := by unfold ckd; by_cases h : (ckG O rs).2 = 0 <;> simp [h]
theorem lvT_e {O : List Ab} {rs : List Int} (h : ¬ (ckG O rs).2 = 0) : lvT O rs = [] := by unfold lvT; rw [if_pos h]
theorem lvT_k {O : List Ab} {rs : List Int} (h : (ckG O rs).2 = 0) : lvT O rs = lvL O rs := by unfold lvT; rw [if_neg (by simpa using h)]
theorem wdN_e {O : List Ab} {rs : List Int} (h : ¬ (ckG O rs).2 = 0) : wdN O rs = 0 := by unfold wdN; rw [if_pos h]
theorem wdN_k {O : List Ab} {rs : List Int} (h : (ckG O rs).2 = 0) : wdN O rs = ((lvL O rs).map (wd1 O)).sum := by unfold wdN; rw [if_neg (by simpa using h)]
theorem wdN_T (O : List Ab) (rs : List Int) : wdN O rs = ((lvT O rs).map (wd1 O)).sum := by
 by_cases h : (ckG O rs).2 = 0
 ·rw [wdN_k h, lvT_k h]
 ·rw [wdN_e h, lvT_e h]; rfl
theorem rcL_rng {O : List Ab} {rs p : List Int} {x : Int} (hg : GG O rs) (h : p ++ [x] <+: rcL O rs) : 1 ≤ x ∧ x ≤ (O.length : Int) :=
 ((rcL_wl hg).met x (h.subset (by simp))).rng hg
theorem lvT_rng {O : List Ab} {rs : List Int} {x : Int} (h : x ∈ lvT O rs) : 1 ≤ x ∧ x ≤ (O.length : Int) := by
 by_cases hc : (ckG O rs).2 = 0
 ·rw [lvT_k hc, lvL_mem (ckG_iff.1 hc)] at h; exact h.rng (ckG_iff.1 hc)
 ·rw [lvT_e hc] at h; cases h
theorem lvT_len (O : List Ab) (rs : List Int) : (lvT O rs).length ≤ O.length ∧ (lvT O rs).length ≤ 400 := by
 by_cases hc : (ckG O rs).2 = 0
 ·rw [lvT_k hc]
  have := tgK_len (dfs O (rs.length + wt O []) rs []) O.length
  have h4 := (ckG_iff.1 hc).o4
  unfold lvL; omega
 ·rw [lvT_e hc]; simp
theorem wd1_at {O : List Ob} {x : Int} {y : Ob} (hy : O[(x - 1).toNat]? = some y) : wd1 (O.map ab) x = 1 + (y.1.2.length : Int) + (y.2.2.length : Int) := by
 unfold wd1; rw [List.getD_eq_getElem?_getD, mapE hy]
 simp only [Option.getD_some, ab]; omega
theorem wd_snoc {O : List Ob} {p : List Int} {x : Int} {y : Ob} (hy : O[(x - 1).toNat]? = some y) : ((p ++ [x]).map (wd1 (O.map ab))).sum = (p.map (wd1 (O.map ab))).sum + (1 + (y.1.2.length : Int) + (y.2.2.length : Int)) := by
 rw [List.map_append, List.sum_append, List.map_singleton, List.sum_singleton, wd1_at hy]
def WB (O : List Ab) (p : List Int) : Prop := 0 ≤ (p.map (wd1 O)).sum ∧ (p.map (wd1 O)).sum ≤ (p.length : Int) * 2097153
theorem WB.snoc {O : List Ob} {p : List Int} {x : Int} {y : Ob} (h : WB (O.map ab) p) (hy : O[(x - 1).toNat]? = some y) (hs : SM (O.map ab)) : WB (O.map ab) (p ++ [x]) := by
 have := hs.at hy
 unfold WB at h ⊢
 rw [wd_snoc hy, List.length_append, List.length_singleton]
 omega
theorem WB.bd {O : List Ab} {p : List Int} (h : WB O p) (hl : p.length ≤ 400) : 0 ≤ (p.map (wd1 O)).sum ∧ (p.map (wd1 O)).sum ≤ 838861200 := by
 obtain ⟨h1, h2⟩ := h
 refine ⟨h1, Int.le_trans h2 ?_⟩
 omega
theorem tk_snoc {l : List Int} {k : Nat} {x : Int} (h : l[k]? = some x) : l.take (k + 1) = l.take k ++ [x] := take_snoc' l k x h
def MB (n : Nat) (B : List Bool) (M : List Int) : Prop := B.length = n + 1 ∧ ∀ i, i ≤ n → B[i]? = some (decide ((i : Int) ∈ M))
theorem MB.init (n m : Nat) (hm : m = n + 1) : MB n (List.replicate m false) [] := ⟨by simp [hm], fun i hi => by rw [List.getElem?_replicate]; simp; omega⟩
theorem MB.at {n : Nat} {B : List Bool} {M : List Int} {q : Int} {b : Bool} (h : MB n B M) (h0 : 0 ≤ q) (hb : B[q.toNat]? = some b) : b = decide (q ∈ M) := by
 have hl := (List.getElem?_eq_some_iff.1 hb).1
 have := h.2 q.toNat (by have := h.1; omega)
 rw [hb] at this
 rw [Option.some.inj this, Int.toNat_of_nonneg h0]
theorem MB.set {n : Nat} {B : List Bool} {M : List Int} {q : Int} (h : MB n B M) (h0 : 0 ≤ q) : MB n (B.set q.toNat true) (M ++ [q]) := by
 refine ⟨by rw [List.length_set]; exact h.1, fun i hi => ?_⟩
 by_cases e : i = q.toNat
 ·subst e
  rw [List.getElem?_set_self (by have := h.1; omega), Int.toNat_of_nonneg h0]; simp
 ·rw [List.getElem?_set_ne (Ne.symm e), h.2 i hi]
  have : ¬ (i : Int) = q := by omega
  simp [this]
theorem hd_split {T : List Int} {n : Int} (h : T[0]? = some n) : T = n :: T.drop 1 := by
 cases T with
 | nil => cases h
 | cons a T => simp at h; simp [h]
structure RfAt (O : List Ab) (rs T M : List Int) : Prop where
 wl : Wl O rs M T
 bd : T.length + wt O M ≤ rs.length + wt O []
theorem RfAt.init (O : List Ab) (rs : List Int) : RfAt O rs rs [] := ⟨Wl.init O rs, Nat.le_refl _⟩
theorem RfAt.skip {O : List Ab} {rs T M : List Int} {n : Int} (h : RfAt O rs T M) (hn : T[0]? = some n) (hm : n = 0 ∨ n ∈ M) : RfAt O rs (T.drop 1) M := by
 have hs := hd_split hn
 refine ⟨h.wl.skip (fun x hx => ?_) (fun x hx => List.mem_of_mem_drop hx) hm, ?_⟩
 ·rw [hs] at hx; simpa using hx
 ·have := h.bd; rw [List.length_drop]; omega
theorem RfAt.rng {O : List Ab} {rs T M : List Int} {n : Int} (hg : GG O rs) (h : RfAt O rs T M) (hn : T[0]? = some n) (h0 : ¬ n = 0) : 1 ≤ n ∧ n ≤ (O.length : Int) := (h.wl.todo n (List.mem_of_getElem? hn) h0).rng hg
theorem RfAt.mark {O : List Ab} {rs T M : List Int} {n : Int} (hg : GG O rs) (h : RfAt O rs T M) (hn : T[0]? = some n) (h0 : ¬ n = 0) (hm : ¬ n ∈ M) : RfAt O rs (T.drop 1 ++ pt O n) (M ++ [n]) := by
 have hs := hd_split hn
 have hl := (List.getElem?_eq_some_iff.1 hn).1
 have hw := wt_mark (h.rng hg hn h0) hm
 refine ⟨h.wl.mark (List.mem_of_getElem? hn) (fun x hx => ?_) (fun x hx => List.mem_of_mem_drop hx) h0 hm fun x => List.mem_append, ?_⟩
 ·rw [hs] at hx; simpa using hx
 ·have := h.bd; rw [List.length_append, List.length_drop]; omega
theorem RfAt.done {O : List Ab} {rs T M : List Int} (h : RfAt O rs T M) (h0 : T.length = 0) : Wl O rs M [] := by
 have : T = [] := List.eq_nil_of_length_eq_zero h0
 subst this; exact h.wl
end Go.Own.Gr
