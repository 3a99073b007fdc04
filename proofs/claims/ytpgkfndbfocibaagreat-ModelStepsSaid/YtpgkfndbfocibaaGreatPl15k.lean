import Derived.Test.YtpgkfndbfocibaaGreatPl15j
import Derived.Test.YtpgkfndbfocibaaGreatSepZ
/-! what is stored is loaded; what is dead stays dead -/
namespace Go.Own.Gr
open Go Go.Own Go.Own.R Go.Own.G
theorem GG.set {O : List Ab} {rs : List Int} (hg : GG O rs) {i : Nat} {o : Ab} (h1 : sz2 o ≤ 31) (h2 : ∀ p ∈ o.1, 0 ≤ p ∧ p ≤ (O.length : Int)) : GG (O.set i o) rs :=
  ⟨hg.r1, hg.r8, by rw [List.length_set]; exact hg.o4, fun x hx => by
    rw [List.length_set]
    rcases List.mem_or_eq_of_mem_set hx with q | rfl
    · exact hg.obj x q
    · exact ⟨h1, h2⟩, by rw [List.length_set]; exact hg.reg⟩
theorem GG.regs {O : List Ab} {rs : List Int} (hg : GG O rs) {i : Nat} {v : Int} (h : 0 ≤ v ∧ v ≤ (O.length : Int)) : GG O (rs.set i v) :=
  ⟨by rw [List.length_set]; exact hg.r1, by rw [List.length_set]; exact hg.r8, hg.o4, hg.obj, fun p hp => by
    rcases List.mem_or_eq_of_mem_set hp with q | rfl
    · exact hg.reg p q
    · exact h⟩
/-- registers that hold live objects. -/
theorem Lv.regs {O : List Ab} {rs : List Int} {i : Nat} {v : Int} (hv : v = 0 ∨ Lv O rs v) : ∀ x, Lv O (rs.set i v) x → Lv O rs x := by
  intro x h
  induction h with
  | reg h h0 =>
    rcases List.mem_or_eq_of_mem_set h with q | rfl
    · exact .reg q h0
    · exact hv.resolve_left h0
  | ptr _ hj h0 ih => exact .ptr ih hj h0
end Go.Own.Gr
