import Derived.Test.YtdilbnmaihmgnaaPl15
namespace Go.Own.Gr
open Go Go.Own Go.Own.R Go.Own.G
/-! what is live -/
def pt (O : List Ab) (i : Int) : List Int := (O.getD (i - 1).toNat ([], [])).1
inductive Lv (O : List Ab) (rs : List Int) : Int → Prop
  | reg {i : Int} (h : i ∈ rs) (h0 : i ≠ 0) : Lv O rs i
  | ptr {i j : Int} (h : Lv O rs i) (hj : j ∈ pt O i) (h0 : j ≠ 0) : Lv O rs j
theorem pt_mem {O : List Ab} {i : Int} (h : 1 ≤ i ∧ i ≤ (O.length : Int)) : ∃ o, O[(i - 1).toNat]? = some o ∧ o ∈ O ∧ pt O i = o.1 := by
  have hl : (i - 1).toNat < O.length := by omega
  refine ⟨O[(i - 1).toNat], List.getElem?_eq_getElem hl, List.getElem_mem hl, ?_⟩
  unfold pt; rw [List.getD_eq_getElem?_getD, List.getElem?_eq_getElem hl]; rfl
theorem pt_rng {O : List Ab} {rs : List Int} (hg : GG O rs) {i j : Int} (h : 1 ≤ i ∧ i ≤ (O.length : Int)) (hj : j ∈ pt O i) : 0 ≤ j ∧ j ≤ (O.length : Int) := by
  obtain ⟨o, _, ho, e⟩ := pt_mem h
  rw [e] at hj
  exact (hg.obj o ho).2 j hj
theorem Lv.rng {O : List Ab} {rs : List Int} (hg : GG O rs) {i : Int} (h : Lv O rs i) : 1 ≤ i ∧ i ≤ (O.length : Int) := by
  induction h with
  | reg h h0 => have := hg.reg _ h; omega
  | ptr _ hj h0 ih => have := pt_rng hg ih hj; omega
/-- a work list: what was met, what is to do. -/
structure Wl (O : List Ab) (rs M T : List Int) : Prop where
  met : ∀ x ∈ M, Lv O rs x
  todo : ∀ x ∈ T, x ≠ 0 → Lv O rs x
  regs : ∀ x ∈ rs, x = 0 ∨ x ∈ M ∨ x ∈ T
  ptrs : ∀ x ∈ M, ∀ j ∈ pt O x, j = 0 ∨ j ∈ M ∨ j ∈ T
  nd : M.Nodup
theorem Wl.init (O : List Ab) (rs : List Int) : Wl O rs [] rs := ⟨fun _ h => (by cases h), fun x h h0 => .reg h h0, fun x h => .inr (.inr h), fun _ h => (by cases h), List.nodup_nil⟩
theorem Wl.skip {O : List Ab} {rs M T T' : List Int} {n : Int} (h : Wl O rs M T) (h1 : ∀ x ∈ T, x = n ∨ x ∈ T') (h2 : ∀ x ∈ T', x ∈ T) (hn : n = 0 ∨ n ∈ M) : Wl O rs M T' := by
  have key : ∀ x, (x = 0 ∨ x ∈ M ∨ x ∈ T) → (x = 0 ∨ x ∈ M ∨ x ∈ T') := by
    rintro x (q | q | q)
    · exact .inl q
    · exact .inr (.inl q)
    · rcases h1 x q with rfl | q
      · rcases hn with q | q
        · exact .inl q
        · exact .inr (.inl q)
      · exact .inr (.inr q)
  exact ⟨h.met, fun x hx h0 => h.todo x (h2 x hx) h0, fun x hx => key x (h.regs x hx), fun x hx j hj => key j (h.ptrs x hx j hj), h.nd⟩
theorem Wl.mark {O : List Ab} {rs M T T' T'' : List Int} {n : Int} (h : Wl O rs M T) (hT : n ∈ T) (h1 : ∀ x ∈ T, x = n ∨ x ∈ T') (h2 : ∀ x ∈ T', x ∈ T) (h0 : n ≠ 0) (hn : n ∉ M) (h3 : ∀ x, x ∈ T'' ↔ x ∈ T' ∨ x ∈ pt O n) : Wl O rs (M ++ [n]) T'' := by
  have hl := h.todo n hT h0
  have key : ∀ x, (x = 0 ∨ x ∈ M ∨ x ∈ T) → (x = 0 ∨ x ∈ M ++ [n] ∨ x ∈ T'') := by
    rintro x (q | q | q)
    · exact .inl q
    · exact .inr (.inl (List.mem_append_left _ q))
    · rcases h1 x q with rfl | q
      · exact .inr (.inl (by simp))
      · exact .inr (.inr ((h3 x).2 (.inl q)))
  refine ⟨fun x hx => ?_, fun x hx hx0 => ?_, fun x hx => key x (h.regs x hx), fun x hx j hj => ?_, ?_⟩
  · rcases List.mem_append.1 hx with q | q
    · exact h.met x q
    · rw [List.mem_singleton] at q; subst q; exact hl
  · rcases (h3 x).1 hx with q | q
    · exact h.todo x (h2 x q) hx0
    · exact .ptr hl q hx0
  · rcases List.mem_append.1 hx with q | q
    · exact key j (h.ptrs x q j hj)
    · rw [List.mem_singleton] at q; subst q
      exact .inr (.inr ((h3 j).2 (.inr hj)))
  · exact List.nodup_append.2 ⟨h.nd, by simp, fun a ha b hb => by rw [List.mem_singleton] at hb; subst hb; rintro rfl; exact hn ha⟩
theorem Wl.done {O : List Ab} {rs M : List Int} (h : Wl O rs M []) : ∀ x, x ∈ M ↔ Lv O rs x := by
  intro x
  refine ⟨h.met x, fun q => ?_⟩
  induction q with
  | reg hx h0 => exact ((h.regs _ hx).resolve_left h0).resolve_right (by simp)
  | ptr _ hj h0 ih => exact ((h.ptrs _ ih _ hj).resolve_left h0).resolve_right (by simp)
/-- what is left to be pushed. -/
def wt (O : List Ab) (M : List Int) : Nat := ((List.range O.length).map fun (k : Nat) => if ((k : Int) + 1) ∈ M then 0 else (pt O ((k : Int) + 1)).length + 1).sum
theorem sum_upd : ∀ (n : Nat) (f g : Nat → Nat) (k : Nat), k < n → (∀ j, j ≠ k → f j = g j) → ((List.range n).map f).sum + g k = ((List.range n).map g).sum + f k
  | 0, f, g, k, h, _ => by omega
  | n + 1, f, g, k, h, he => by
    rw [List.range_succ, List.map_append, List.map_append, List.sum_append, List.sum_append]
    simp only [List.map_cons, List.map_nil, List.sum_cons, List.sum_nil, Nat.add_zero]
    by_cases q : k = n
    · subst q
      have : (List.range k).map f = (List.range k).map g := List.map_congr_left fun j hj => he j (by have := List.mem_range.1 hj; omega)
      rw [this]; omega
    · have ih := sum_upd n f g k (by omega) he
      have := he n (fun r => q r.symm)
      omega
theorem wt_mark {O : List Ab} {M : List Int} {n : Int} (h : 1 ≤ n ∧ n ≤ (O.length : Int)) (hn : n ∉ M) : wt O (M ++ [n]) + (pt O n).length + 1 = wt O M := by
  have e : (((n - 1).toNat : Nat) : Int) + 1 = n := by omega
  have := sum_upd O.length (fun k => if ((k : Int) + 1) ∈ M ++ [n] then 0 else (pt O ((k : Int) + 1)).length + 1) (fun k => if ((k : Int) + 1) ∈ M then 0 else (pt O ((k : Int) + 1)).length + 1) (n - 1).toNat (by omega) fun j hj => by
    have : ((j : Int) + 1) ≠ n := by omega
    simp [this]
  simp only [e] at this
  unfold wt
  simp [hn] at this
  simp at this ⊢
  omega
/-- the same by program: fuel, to do, met. -/
def dfs (O : List Ab) : Nat → List Int → List Int → List Int
  | 0, _, M => M
  | _ + 1, [], M => M
  | f + 1, n :: T, M => if n = 0 ∨ n ∈ M then dfs O f T M else dfs O f (pt O n ++ T) (M ++ [n])
theorem dfs_ok {O : List Ab} {rs : List Int} (hg : GG O rs) : ∀ (f : Nat) (T M : List Int), Wl O rs M T → T.length + wt O M ≤ f → (∀ x, x ∈ dfs O f T M ↔ Lv O rs x)
  | 0, T, M, h, hf => by
    have : T = [] := List.eq_nil_of_length_eq_zero (by omega)
    subst this; exact h.done
  | f + 1, [], M, h, _ => h.done
  | f + 1, n :: T, M, h, hf => by
    rw [List.length_cons] at hf
    unfold dfs
    by_cases q : n = 0 ∨ n ∈ M
    · rw [if_pos q]
      exact dfs_ok hg f T M (h.skip (fun x hx => by simpa using hx) (fun x hx => List.mem_cons_of_mem _ hx) q) (by omega)
    · rw [if_neg q]
      have h0 : n ≠ 0 := fun r => q (.inl r)
      have hn : n ∉ M := fun r => q (.inr r)
      have hr := (h.todo n (by simp) h0).rng hg
      have hw := wt_mark hr hn
      refine dfs_ok hg f _ _ (h.mark (by simp) (fun x hx => by simpa using hx) (fun x hx => List.mem_cons_of_mem _ hx) h0 hn fun x => by rw [List.mem_append]; exact or_comm) ?_
      rw [List.length_append]; omega
def lvL (O : List Ab) (rs : List Int) : List Int := tgK (dfs O (rs.length + wt O []) rs []) O.length
theorem lvL_mem {O : List Ab} {rs : List Int} (hg : GG O rs) {x : Int} : x ∈ lvL O rs ↔ Lv O rs x := by
  unfold lvL
  rw [tgK_mem, dfs_ok hg _ _ _ (Wl.init O rs) (Nat.le_refl _)]
  exact ⟨fun h => h.2.2, fun h => by have := h.rng hg; exact ⟨this.1, this.2, h⟩⟩
theorem lvL_asc (O : List Ab) (rs : List Int) : (lvL O rs).Pairwise (· < ·) := tgK_asc _ _
theorem lvL_eq {O : List Ab} {rs M : List Int} (hg : GG O rs) (h : Wl O rs M []) : sortL M = lvL O rs ∧ tgK M O.length = lvL O rs := by
  have hs : (sortL M).Pairwise (· < ·) := by
    have h1 := sortL_asc M
    have h2 : (sortL M).Nodup := (List.mergeSort_perm M _).nodup_iff.2 h.nd
    exact (h1.and h2).imp fun ⟨a, b⟩ => by omega
  refine ⟨asc_unique hs (lvL_asc O rs) fun a => ?_, asc_unique (tgK_asc _ _) (lvL_asc O rs) fun a => ?_⟩
  · rw [sortL_mem, h.done, lvL_mem hg]
  · rw [tgK_mem, h.done, lvL_mem hg]
    exact ⟨fun q => q.2.2, fun q => by have := q.rng hg; exact ⟨this.1, this.2, q⟩⟩
def lvT (O : List Ab) (rs : List Int) : List Int := if (ckG O rs).2 ≠ 0 then [] else lvL O rs
def wd1 (O : List Ab) (i : Int) : Int := 1 + (((O.getD (i - 1).toNat ([], [])).1.length + (O.getD (i - 1).toNat ([], [])).2.length : Nat) : Int)
def wdN (O : List Ab) (rs : List Int) : Int := if (ckG O rs).2 ≠ 0 then 0 else ((lvL O rs).map (wd1 O)).sum
theorem perm_sum {l m : List Int} (h : l.Perm m) : l.sum = m.sum := by
  induction h with
  | nil => rfl
  | cons x _ ih => rw [List.sum_cons, List.sum_cons, ih]
  | swap x y l => simp only [List.sum_cons]; omega
  | trans _ _ h1 h2 => exact h1.trans h2
theorem wd_perm {O : List Ab} {rs M : List Int} (hg : GG O rs) (h : Wl O rs M []) : (M.map (wd1 O)).sum = ((lvL O rs).map (wd1 O)).sum := by
  rw [← (lvL_eq hg h).1]
  have hp : (sortL M).Perm M := List.mergeSort_perm _ _
  exact (perm_sum (hp.map (wd1 O))).symm
end Go.Own.Gr
