import Derived.Test.YteppjefmlibmoaaSep8b
import Derived.Test.YteppjefmlibmoaaSepS
/-! a sort, a compact of what may be empty -/
namespace Go.Own
open Go Go.RowKit Go.Sort
theorem sort_St4 {P : Program} {f : FuncId} {w : World} {Y : Nat → Prop} {v : Value} {zs us : List Int} (hS : St w Y [io .i64 v zs] w) (hu : us.length = zs.length)
    (h : ∀ g off cap, Holds (Value.int .i64) w g off zs.toArray → g < w.heap.size → Calls P f #[.slice (some ⟨g, off, none⟩) zs.length cap] w fun e w' => e = .returned (.tuple #[]) ∧ ∃ n os, w' = grow (putRow (Value.int .i64) (Sort.ahead w n) g off us.toArray) os)
    (hn : ∀ (p : Option Addr) (cap : Nat) (w : World), Calls P f #[.slice p 0 cap] w fun e w' => e = .returned (.tuple #[]) ∧ w' = w) :
    Calls P f #[v] w fun e w' => e = .returned (.tuple #[]) ∧ St w Y [io .i64 v us] w' := by
  by_cases h0 : zs = []
  · subst h0
    obtain rfl : us = [] := List.eq_nil_of_length_eq_zero (by rw [hu]; rfl)
    obtain ⟨a, cap, hv⟩ := (ow_at (hS.ch 0 rfl)).form
    subst hv
    exact (hn a cap w).mono fun e w' ⟨he, hw⟩ => ⟨he, by rw [hw]; exact hS⟩
  · exact sort_St hS (List.length_pos_iff.2 h0) hu h
theorem compact_St4 {P : Program} {f : FuncId} {w : World} {Y : Nat → Prop} {v : Value} {zs us : List Int} (hS : St w Y [io .i64 v zs] w) (hu : us.length ≤ zs.length)
    (h : ∀ g off cap, Holds (Value.int .i64) w g off zs.toArray → zs.length ≤ cap → Calls P f #[.slice (some ⟨g, off, none⟩) zs.length cap] w fun e w' => e = .returned (.slice (some ⟨g, off, none⟩) us.length cap) ∧ ∃ q, w' = putRow (Value.int .i64) (Sort.ahead w q) g off (us ++ List.replicate (zs.length - us.length) 0).toArray)
    (hn : ∀ (a : Option Addr) (cap : Nat) (w : World), Calls P f #[.slice a 0 cap] w fun e w' => e = .returned (.slice a 0 cap) ∧ w' = w) :
    Calls P f #[v] w fun e w' => ∃ v', e = .returned v' ∧ St w Y [io .i64 v' us] w' := by
  by_cases h0 : zs = []
  · subst h0
    obtain rfl : us = [] := List.eq_nil_of_length_eq_zero (by simpa using hu)
    obtain ⟨a, cap, hv⟩ := (ow_at (hS.ch 0 rfl)).form
    subst hv
    exact (hn a cap w).mono fun e w' ⟨he, hw⟩ => ⟨_, he, by rw [hw]; exact hS⟩
  · exact compact_St hS (List.length_pos_iff.2 h0) hu h
end Go.Own
