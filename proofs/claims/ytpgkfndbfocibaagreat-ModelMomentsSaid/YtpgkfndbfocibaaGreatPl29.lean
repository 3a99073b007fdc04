import Derived.Test.YtpgkfndbfocibaaGreatSepT
namespace Go.Own.Ml
open Go Go.Own
def okB (b : UInt8) : Prop := 32 < b.toNat ∧ b.toNat ≤ 126 ∧ b.toNat ≠ 34 ∧ b.toNat ≠ 92
instance (b : UInt8) : Decidable (okB b) := by unfold okB; infer_instance
def barB (l : List UInt8) : Bool := decide (0 < l.length ∧ ∀ b ∈ l, okB b)
variable {l : List UInt8} {b : UInt8} {k : Nat}
theorem bar_no (hy : l[k]? = some b) (h : ¬ okB b) : barB l = false := by
 unfold barB; exact decide_eq_false fun q => h (q.2 b (List.mem_of_getElem? hy))
theorem bar_end (hz : ∀ i, i < k → ∀ b, l[i]? = some b → okB b) (hk : l.length ≤ k) : barB l = decide ((l.length : Int) > 0) := by
 unfold barB
 refine decide_eq_decide.2 ⟨fun q => by omega, fun q => ⟨by omega, fun b hb => ?_⟩⟩
 obtain ⟨i, hi⟩ := List.mem_iff_getElem?.1 hb
 exact hz i (by have := (List.getElem?_eq_some_iff.1 hi).1; omega) b hi
theorem bar_step (hz : ∀ i, i < k → ∀ b, l[i]? = some b → okB b) (hy : l[k]? = some b) (h : okB b) : ∀ i, i < k + 1 → ∀ b, l[i]? = some b → okB b := fun i hi x hx => by
 by_cases q : i = k
 ·subst q; rw [hy] at hx; cases hx; exact h
 ·exact hz i (by omega) x hx
def strC (y : List UInt8) : List Value := [stv y]
theorem strC_len : ∀ a : List UInt8, (strC a).length = 1 := fun _ => rfl
theorem strC_one : ∀ y : List UInt8, ∀ u ∈ strC y, u.oneCell' = true := by intro y u hu; simp only [strC, List.mem_singleton] at hu; subst hu; rfl
def sbC (y : List UInt8 × Bool) : List Value := [stv y.1, .bool y.2]
theorem sbC_len : ∀ a : List UInt8 × Bool, (sbC a).length = 2 := fun _ => rfl
theorem sbC_one : ∀ y : List UInt8 × Bool, ∀ u ∈ sbC y, u.oneCell' = true := by intro y u hu; simp only [sbC, List.mem_cons, List.not_mem_nil, or_false] at hu; rcases hu with rfl | rfl <;> rfl
def stK (l : List UInt8) : Nat → Nat
 | 0 => 0
 | k + 1 => if l.getD k 0 = 10 then k + 1 else stK l k
def lnK (l : List UInt8) : Nat → List (List UInt8)
 | 0 => []
 | k + 1 => if l.getD k 0 = 10 then lnK l k ++ [(l.take k).drop (stK l k)] else lnK l k
theorem gD8 (h : l[k]? = some b) : l.getD k 0 = b := by rw [List.getD_eq_getElem?_getD, h]; rfl
theorem u8_eq {c : Nat} (hc : c < 256) (h : (b.toNat : Int) = (c : Int)) : b = UInt8.ofNat c := by
 apply UInt8.toNat_inj.1; rw [UInt8.toNat_ofNat']; omega
theorem ln_T (hy : l[k]? = some b) (h : (b.toNat : Int) = 10) : lnK l k ++ [(l.take k).drop (stK l k)] = lnK l (k + 1) ∧ stK l (k + 1) = k + 1 := by
 have e : l.getD k 0 = 10 := by rw [gD8 hy]; exact u8_eq (c := 10) (by decide) h
 simp only [lnK, stK]; rw [if_pos e, if_pos e]; exact ⟨rfl, rfl⟩
theorem ln_F (hy : l[k]? = some b) (h : ¬ (b.toNat : Int) = 10) : lnK l k = lnK l (k + 1) ∧ stK l (k + 1) = stK l k := by
 have e : ¬ l.getD k 0 = 10 := by rw [gD8 hy]; intro q; subst q; exact h rfl
 simp only [lnK, stK]; rw [if_neg e, if_neg e]; exact ⟨rfl, rfl⟩
theorem st_le : ∀ k, stK l k ≤ k
 | 0 => Nat.le_refl _
 | k + 1 => by simp only [stK]; split; omega; have := st_le k; omega
theorem lnK_len : ∀ k, (lnK l k).length ≤ k
 | 0 => by simp [lnK]
 | k + 1 => by simp only [lnK]; have := lnK_len k; split <;> simp <;> omega
theorem dg_at {lo hi : Nat} (h1 : l.length = 1) (h2 : lo ≤ (l.getD 0 0).toNat ∧ (l.getD 0 0).toNat ≤ hi) (hy : l[k]? = some b) : k = 0 ∧ lo ≤ b.toNat ∧ b.toNat ≤ hi ∧ (b.toNat : Int) = ((l.getD 0 0).toNat : Int) := by
 have hk := (List.getElem?_eq_some_iff.1 hy).1
 have e : k = 0 := by omega
 subst e
 rw [gD8 hy] at h2 ⊢
 exact ⟨rfl, h2.1, h2.2, rfl⟩
def wrdA (k : Int) : List UInt8 := if k = 1 then [97, 108, 108, 111, 99] else if k = 2 then [108, 111, 97, 100] else if k = 3 then [115, 116, 111, 114, 101] else if k = 4 then [114, 101, 97, 100] else if k = 5 then [119, 114, 105, 116, 101] else if k = 6 then [109, 111, 118, 101] else if k = 7 then [99, 108, 101, 97, 114] else if k = 8 then [115, 97, 109, 101] else if k = 9 then [110, 105, 108] else if k = 10 then [115, 105, 122, 101] else if k = 11 then [99, 111, 108, 108, 101, 99, 116] else []
def wrdB (k : Int) : List UInt8 := if k = 1 then [97, 112, 114] else if k = 2 then [97, 98, 102] else if k = 3 then [97, 102, 98] else if k = 4 then [97, 102] else if k = 5 then [97, 102, 118] else if k = 6 then [97, 98] else if k = 7 then [97] else if k = 8 then [97, 98] else if k = 9 then [97] else if k = 10 then [97] else if k = 11 then [] else []
end Go.Own.Ml
