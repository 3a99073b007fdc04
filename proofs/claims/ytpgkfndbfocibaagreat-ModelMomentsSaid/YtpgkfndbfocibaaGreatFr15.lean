import Derived.Test.YtpgkfndbfocibaaGreatFr4
import Derived.Test.YtpgkfndbfocibaaGreatSepU
import Derived.SizedLaws
namespace Go.Own
open Go Go.RowKit Go.WideShapes Go.ChangeShapes
section
variable {H : Type} {enc : TypeId × Value → H} {P : Program}
theorem add_zero' (a : Addr) : a.add 0 = a := by unfold Addr.add; simp
theorem spot_of_cell {W : World} {a : Addr} {v : Value} (h : W.cell? a = some v) : a.spot = none := by
 unfold World.cell? at h
 split at h
 ·split at h
  ·cases h
  ·rename_i h0
   cases hs : a.spot with
   | none => rfl
   | some x => rw [hs] at h0; exact absurd rfl h0
 ·cases h
theorem open_slW {W : World} {t e n : Nat} {k : IntKind} {v : Value} {x : DataW H × List MemPlace} (ht : P.underlying t = some (.slice e)) (he : P.underlying e = some (.int k)) (hc : P.cellsOf e = 1)
  (h : DataW.trod enc P W 0 (fun _ => true) true n t [v] = some x) : ∃ zs : List Int, IntsK W k v zs ∧ (∀ z ∈ zs, (Lit.int k z).wf = true) ∧ ∀ R, (∀ m ∈ x.1.weights P t, m ≤ R) → zs.length * P.bytesOf e ≤ R := by
 rcases open_ints ht he hc h with ⟨h1, _⟩ | ⟨a, len, cap, zs, h1, _, hl, hm, hz, hx, hcell, hwf⟩
 ·simp only [List.cons.injEq, and_true] at h1
  subst h1
  exact ⟨[], SlN.nil W 1, by simp, fun R _ => by simp⟩
 ·simp only [List.cons.injEq, and_true] at h1
  subst h1
  simp only [if_true] at hz
  have hsp : 0 < cap → a.spot = none := fun h0 => by
   have := spot_of_cell (hcell 0 (by omega))
   rwa [add_zero'] at this
  refine ⟨zs.take len, ?_, fun z hz' => hwf z (List.mem_of_mem_take hz'), fun R hR => ?_⟩
  ·have hlen : (zs.take len).length = len := by rw [List.length_take]; omega
   unfold IntsK Sl
   simp only [List.length_map, hlen]
   refine ⟨some a, cap, rfl, hl, by unfold maxLen at hm; omega, by simp; omega, (fun h => by cases h), fun b hb => ?_⟩
   cases hb
   refine ⟨hsp, fun j y hj => ?_⟩
   rw [List.getElem?_map, Option.map_eq_some_iff] at hj
   obtain ⟨z, hj, rfl⟩ := hj
   rw [List.getElem?_take] at hj
   split at hj
   ·have hjz := (List.getElem?_eq_some_iff.1 hj).1
    have := hcell j hjz
    rw [show ({ block := a.block, off := a.off + j, spot := none } : Addr) = a.add j from ?_]
    ·rw [this]; simp [List.getD_eq_getElem?_getD, hj]
    ·have hs := hsp (by omega)
     obtain ⟨b, o, s⟩ := a
     simp only at hs
     subst hs
     unfold Addr.add; split
     ·rename_i h0; subst h0; simp
     ·rfl
   ·cases hj
  ·have := hR _ (by rw [hx]; unfold DataW.weights; rw [ht]; exact List.mem_cons_self)
   simp only [lits, List.length_map] at this
   refine Nat.le_trans (Nat.mul_le_mul_right _ ?_) this
   omega
end
end Go.Own
namespace Go.Own
open Go Go.RowKit Go.WideShapes Go.ChangeShapes
section
variable {P : Program}
end
end Go.Own
