import Derived.Test.YtodbfgfbkgpooaaDoorRf1
namespace Go.Proofs.YtodbfgfbkgpooaaDoor
open Go.RowKit Go.Own

theorem sameT_refl (lo yo : List Int) : sameT lo yo lo yo = true := by unfold sameT eqI; simp

theorem Far_any (a1 a2 : Option Addr) (m1 m2 n1 n2 : Nat) (w : World) :
    Calls Tryd.prog 11 #[.agg #[.slice a1 m1 n1, .slice a2 m2 n2]] w fun e w' => e = .returned (.bool (decide (30 < m1 ∨ 30 < m2))) ∧ Ext w w' := by
  by_cases h1 : 30 < m1
  · have hs : decide (30 < m1 ∨ 30 < m2) = true := by simp [h1]
    rw [hs]; clear hs
    have h1' : decide ((30 : Int) < (m1 : Int)) = true := by simp; omega
    go_enter Tryd.func11, Tryd.ntmps11
    go_wp2_with fail
    go_ret
    exact ⟨rfl, Ext.alloc _ _⟩
  · have h1' : decide ((30 : Int) < (m1 : Int)) = false := by simp; omega
    by_cases h2 : 30 < m2
    · have hs : decide (30 < m1 ∨ 30 < m2) = true := by simp [h2]
      rw [hs]; clear hs
      have h2' : decide ((30 : Int) < (m2 : Int)) = true := by simp; omega
      go_enter Tryd.func11, Tryd.ntmps11
      go_wp2_with fail
      go_ret
      exact ⟨rfl, Ext.alloc _ _⟩
    · have hs : decide (30 < m1 ∨ 30 < m2) = false := by simp; omega
      rw [hs]; clear hs
      have h2' : decide ((30 : Int) < (m2 : Int)) = false := by simp; omega
      go_enter Tryd.func11, Tryd.ntmps11
      go_wp2_with fail
      go_ret
      exact ⟨rfl, Ext.alloc _ _⟩
end Go.Proofs.YtodbfgfbkgpooaaDoor
