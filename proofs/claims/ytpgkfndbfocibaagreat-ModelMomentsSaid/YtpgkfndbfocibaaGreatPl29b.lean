import Derived.Test.YtpgkfndbfocibaaGreatPl29
namespace Go.Own.Ml
open Go Go.Own
variable {l : List UInt8} {b : UInt8} {k i n : Nat}
def wE (l : List UInt8) (i : Nat) : Nat := i + ((l.drop i).takeWhile (fun c => decide (c ≠ 32))).length
theorem tw_at : ∀ {m : List UInt8} {n : Nat}, (∀ j, j < n → ∀ c, m[j]? = some c → c ≠ 32) → n ≤ m.length → (m.length ≤ n ∨ m[n]? = some 32) → (m.takeWhile (fun c => decide (c ≠ 32))).length = n
 | [], n, _, h, _ => by simp at h; subst h; rfl
 | c :: r, 0, _, _, h => by
  rcases h with h | h
  ·simp at h
  ·simp at h; subst h; rfl
 | c :: r, n + 1, hz, hn, h => by
  have hc : c ≠ 32 := hz 0 (by omega) c rfl
  rw [List.takeWhile_cons, if_pos (by simpa using hc), List.length_cons]
  congr 1
  refine tw_at (fun j hj d hd => hz (j + 1) (by omega) d (by simpa using hd)) (by simpa using hn) ?_
  rcases h with h | h
  ·left; simpa using h
  ·right; simpa using h
theorem wE_at (hz : ∀ j, j < n → ∀ c, l[i + j]? = some c → c ≠ 32) (hn : i + n ≤ l.length) (h : l.length ≤ i + n ∨ l[i + n]? = some 32) : wE l i = i + n := by
 unfold wE
 rw [tw_at (n := n) (fun j hj c hc => hz j hj c (by rw [List.getElem?_drop] at hc; exact hc)) (by rw [List.length_drop]; omega)]
 rcases h with h | h
 ·left; rw [List.length_drop]; omega
 ·right; rw [List.getElem?_drop]; exact h
def splGo (l : List UInt8) : Nat → Nat → List (List UInt8 × Bool) → List (List UInt8 × Bool)
 | 0, _, acc => acc
 | f + 1, pos, acc => if wE l pos = l.length then acc ++ [((l.take (wE l pos)).drop pos, false)] else splGo l f (wE l pos + 1) (acc ++ [((l.take (wE l pos)).drop pos, false)])
theorem spl_pre : ∀ {f pos : Nat} {acc : List (List UInt8 × Bool)}, acc <+: splGo l f pos acc
 | 0, _, _ => List.prefix_rfl
 | f + 1, pos, acc => by
  rw [splGo]; split
  ·exact List.prefix_append _ _
  ·exact (List.prefix_append _ _).trans spl_pre
theorem spl_mem {f pos : Nat} {acc : List (List UInt8 × Bool)} : ((l.take (wE l pos)).drop pos, false) ∈ splGo l (f + 1) pos acc := by
 rw [splGo]; split
 ·exact List.mem_append.2 (.inr (List.mem_singleton.2 rfl))
 ·exact spl_pre.subset (List.mem_append.2 (.inr (List.mem_singleton.2 rfl)))
theorem nq_drop (hq : ∀ b ∈ l, b ≠ 34) : (l.drop k).getD 0 0 ≠ 34 := by
 rw [List.getD_eq_getElem?_getD, List.getElem?_drop]
 cases e : l[k + 0]? with
 | none => decide
 | some b => exact hq b (List.mem_of_getElem? e)
theorem nz_stepW {y : UInt8} (hz : ∀ j, j < n → ∀ c, l[i + j]? = some c → c ≠ 32) (hy : l[i + n]? = some y) (h : ¬ (y.toNat : Int) = 32) : ∀ j, j < n + 1 → ∀ c, l[i + j]? = some c → c ≠ 32 := fun j hj c hc => by
 by_cases q : j = n
 ·subst q; rw [hy] at hc; cases hc; intro e; subst e; exact h rfl
 ·exact hz j (by omega) c hc
theorem spl_bar {f pos : Nat} {acc R : List (List UInt8 × Bool)} {e : Nat} (hS : splGo l (f + 1) pos acc = R) (hR : R.all (fun w => barB w.1) = true) (he : wE l pos = e) : barB ((l.take e).drop pos) = true := by
 subst he
 exact List.all_eq_true.1 hR _ (hS ▸ spl_mem)
theorem spl_end {f pos : Nat} {acc R : List (List UInt8 × Bool)} {e : Nat} (hS : splGo l (f + 1) pos acc = R) (he : wE l pos = e) (hl : e = l.length) : acc ++ [((l.take e).drop pos, false)] = R := by
 subst he; rw [← hS, splGo, if_pos hl]
theorem spl_next {f pos : Nat} {acc R : List (List UInt8 × Bool)} {e : Nat} (hS : splGo l (f + 1) pos acc = R) (he : wE l pos = e) (hl : e ≠ l.length) : splGo l f (e + 1) (acc ++ [((l.take e).drop pos, false)]) = R := by
 subst he; rw [← hS, splGo, if_neg hl]
theorem spl_len {f pos : Nat} {acc R : List (List UInt8 × Bool)} {m : Nat} (hS : splGo l f pos acc = R) (hl : R.length ≤ m) : acc.length ≤ m := by
 have := (spl_pre (l := l) (f := f) (pos := pos) (acc := acc)).length_le
 rw [hS] at this; omega
end Go.Own.Ml
