import Derived.Test.YtpgkfndbfocibaaGreatPl15e
namespace Go.Own.Gr
open Go Go.Own Go.Own.R Go.Own.G
def rcG (O : List Ab) : Nat → List Int → List Int → List Int
 | 0, _, M => M
 | f + 1, T, M => match T.getLast? with
  | none => M
  | some n => if n = 0 ∨ n ∈ M then rcG O f T.dropLast M else rcG O f (T.dropLast ++ pt O n) (M ++ [n])
def rcL (O : List Ab) (rs : List Int) : List Int := rcG O (rs.length + wt O []) rs []
theorem rcG_nil {O : List Ab} (f : Nat) (M : List Int) : rcG O f [] M = M := by cases f <;> rfl
theorem rcG_pre {O : List Ab} : ∀ (f : Nat) (T M : List Int), M <+: rcG O f T M
 | 0, _, M => List.prefix_refl _
 | f + 1, T, M => by
  unfold rcG
  cases T.getLast? with
  | none => exact List.prefix_refl _
  | some n =>
   simp only
   split
   ·exact rcG_pre f _ _
   ·exact (List.prefix_append _ _).trans (rcG_pre f _ _)
theorem last_at {T : List Int} {n : Int} (hn : T[T.length - 1]? = some n) : T.getLast? = some n := by rw [List.getLast?_eq_getElem?]; exact hn
theorem last_split {T : List Int} {n : Int} (hn : T[T.length - 1]? = some n) : T = T.take (T.length - 1) ++ [n] := by
 have hl := (List.getElem?_eq_some_iff.1 hn).1
 have h := take_snoc' T (T.length - 1) n hn
 rw [List.take_of_length_le (by omega)] at h
 exact h
structure RcAt (O : List Ab) (rs T M : List Int) : Prop where
 wl : Wl O rs M T
 run : ∃ f, rcL O rs = rcG O f T M ∧ T.length + wt O M ≤ f
 bd : T.length + wt O M ≤ rs.length + wt O []
theorem RcAt.init (O : List Ab) (rs : List Int) : RcAt O rs rs [] := ⟨Wl.init O rs, ⟨_, rfl, Nat.le_refl _⟩, Nat.le_refl _⟩
theorem RcAt.skip {O : List Ab} {rs T M : List Int} {n : Int} (h : RcAt O rs T M) (hn : T[T.length - 1]? = some n) (hm : n = 0 ∨ n ∈ M) : RcAt O rs (T.take (T.length - 1)) M := by
 have hs := last_split hn
 have hl := (List.getElem?_eq_some_iff.1 hn).1
 refine ⟨h.wl.skip (fun x hx => ?_) (fun x hx => List.mem_of_mem_take hx) hm, ?_, ?_⟩
 ·rw [hs] at hx
  rcases List.mem_append.1 hx with q | q
  ·exact .inr q
  ·exact .inl (by simpa using q)
 ·obtain ⟨f, hf, hb⟩ := h.run
  cases f with
  | zero => omega
  | succ f =>
   refine ⟨f, ?_, by rw [List.length_take]; omega⟩
   rw [hf, rcG, last_at hn]; simp only
   rw [if_pos hm, List.dropLast_eq_take]
 ·have := h.bd; rw [List.length_take]; omega
theorem RcAt.rng {O : List Ab} {rs T M : List Int} {n : Int} (hg : GG O rs) (h : RcAt O rs T M) (hn : T[T.length - 1]? = some n) (hm : ¬ (n = 0 ∨ n ∈ M)) : 1 ≤ n ∧ n ≤ (O.length : Int) :=
 (h.wl.todo n (List.mem_of_getElem? hn) fun e => hm (.inl e)).rng hg
theorem RcAt.mark {O : List Ab} {rs T M : List Int} {n : Int} (hg : GG O rs) (h : RcAt O rs T M) (hn : T[T.length - 1]? = some n) (hm : ¬ (n = 0 ∨ n ∈ M)) : RcAt O rs (T.take (T.length - 1) ++ pt O n) (M ++ [n]) := by
 have hs := last_split hn
 have hl := (List.getElem?_eq_some_iff.1 hn).1
 have hr := h.rng hg hn hm
 have hw := wt_mark hr (fun q => hm (.inr q))
 refine ⟨h.wl.mark (List.mem_of_getElem? hn) (fun x hx => ?_) (fun x hx => List.mem_of_mem_take hx) (fun q => hm (.inl q)) (fun q => hm (.inr q)) fun x => List.mem_append, ?_, ?_⟩
 ·rw [hs] at hx
  rcases List.mem_append.1 hx with q | q
  ·exact .inr q
  ·exact .inl (by simpa using q)
 ·obtain ⟨f, hf, hb⟩ := h.run
  cases f with
  | zero => omega
  | succ f =>
   refine ⟨f, ?_, by rw [List.length_append, List.length_take]; omega⟩
   rw [hf, rcG, last_at hn]; simp only
   rw [if_neg hm, List.dropLast_eq_take]
 ·have := h.bd; rw [List.length_append, List.length_take]; omega
theorem RcAt.pre {O : List Ab} {rs T M : List Int} {n : Int} (hg : GG O rs) (h : RcAt O rs T M) (hn : T[T.length - 1]? = some n) (hm : ¬ (n = 0 ∨ n ∈ M)) : M ++ [n] <+: rcL O rs := by
 obtain ⟨f, hf, _⟩ := (h.mark hg hn hm).run
 rw [hf]; exact rcG_pre _ _ _
theorem RcAt.done {O : List Ab} {rs T M : List Int} (h : RcAt O rs T M) (h0 : T.length = 0) : M = rcL O rs ∧ Wl O rs M [] := by
 have : T = [] := List.eq_nil_of_length_eq_zero h0
 subst this
 obtain ⟨f, hf, _⟩ := h.run
 exact ⟨by rw [hf, rcG_nil], h.wl⟩
theorem rcG_wl {O : List Ab} {rs : List Int} (hg : GG O rs) : ∀ (f : Nat) (T M : List Int), RcAt O rs T M → T.length + wt O M ≤ f → Wl O rs (rcL O rs) []
 | 0, T, M, h, hf => by
  have hd := h.done (by omega)
  rw [← hd.1]; exact hd.2
 | f + 1, T, M, h, hf => by
  by_cases h0 : T.length = 0
  ·have hd := h.done h0
   rw [← hd.1]; exact hd.2
  ·have hn : T[T.length - 1]? = some T[T.length - 1] := List.getElem?_eq_getElem (by omega)
   by_cases hm : T[T.length - 1] = 0 ∨ T[T.length - 1] ∈ M
   ·exact rcG_wl hg f _ _ (h.skip hn hm) (by rw [List.length_take]; omega)
   ·have hw := wt_mark (h.rng hg hn hm) (fun q => hm (.inr q))
    exact rcG_wl hg f _ _ (h.mark hg hn hm) (by rw [List.length_append, List.length_take]; omega)
theorem rcL_wl {O : List Ab} {rs : List Int} (hg : GG O rs) : Wl O rs (rcL O rs) [] := rcG_wl hg _ _ _ (RcAt.init O rs) (Nat.le_refl _)
theorem rcL_sort {O : List Ab} {rs : List Int} (hg : GG O rs) : sortL (rcL O rs) = lvL O rs := (lvL_eq hg (rcL_wl hg)).1
theorem rcL_sum {O : List Ab} {rs : List Int} (hg : GG O rs) : ((rcL O rs).map (wd1 O)).sum = ((lvL O rs).map (wd1 O)).sum := wd_perm hg (rcL_wl hg)
theorem pt_at {O : List Ob} {n : Int} {y : Ob} (hy : O[(n - 1).toNat]? = some y) : pt (O.map ab) n = y.1.2 := by
 unfold pt; rw [List.getD_eq_getElem?_getD, mapE hy]; rfl
theorem sum_le {B : Nat} : ∀ (n : Nat) (f : Nat → Nat), (∀ k, k < n → f k ≤ B) → ((List.range n).map f).sum ≤ n * B
 | 0, f, _ => by simp
 | n + 1, f, h => by
  rw [List.range_succ, List.map_append, List.sum_append, Nat.add_mul]
  have := sum_le n f fun k hk => h k (by omega)
  have := h n (by omega)
  simp; omega
theorem wt_le {O : List Ab} {M : List Int} (hs : SM O) (h4 : O.length ≤ 400) : wt O M ≤ 419430800 := by
 unfold wt
 refine Nat.le_trans (sum_le (B := 1048577) O.length _ fun k hk => ?_) (by omega)
 split
 ·omega
 ·have : pt O ((k : Int) + 1) = O[k].1 := by
   unfold pt; rw [List.getD_eq_getElem?_getD, show ((k : Int) + 1 - 1).toNat = k by omega, List.getElem?_eq_getElem hk]; rfl
  rw [this]
  have := (hs _ (List.getElem_mem hk)).1
  omega
theorem rcL_len {O : List Ab} {rs : List Int} (hg : GG O rs) : (rcL O rs).length ≤ O.length := by
 have h := rcL_wl hg
 have hp : ((lvL O rs)).length = (rcL O rs).length := by rw [← rcL_sort hg]; exact (List.mergeSort_perm _ _).length_eq
 rw [← hp]; exact tgK_len _ _
end Go.Own.Gr
