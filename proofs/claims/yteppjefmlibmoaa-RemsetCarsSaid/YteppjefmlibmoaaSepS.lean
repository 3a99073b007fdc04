import Derived.Test.YteppjefmlibmoaaSepM
import Derived.Sort.Grow
/-! what the library's sort and compact do to a slice of the call's own -/
namespace Go.Own
open Go Go.Sort
theorem ow_holds {w : World} {f : Nat → Prop} {v : Value} {zs : List Int} (h : (io .i64 v zs).p w f) (h0 : 0 < zs.length) :
    ∃ g off cap, v = .slice (some ⟨g, off, none⟩) zs.length cap ∧ zs.length ≤ cap ∧ Holds (Value.int .i64) w g off zs.toArray ∧ g < w.heap.size := by
  obtain ⟨_, ⟨a, _, hn, _⟩ | ⟨g, off, cap, cur, T, hv, hf, hg, hc, hm, hs, hcell⟩⟩ := h
  · omega
  · refine ⟨g, off, cap, hv, hc, fun j hj => ?_, (Array.getElem?_eq_some_iff.1 hg).1⟩
    have hj' : j < zs.length := by simpa using hj
    have := hcell j (.int .i64 zs[j]) (by simp [hj'])
    refine ⟨?_, blk_frozen ⟨_, hg⟩ _⟩
    rw [cell_of_row w g (off + j) cur T (0, 0) hg, this]
    simp [hj']
theorem row_St {w w' : World} {Y : Nat → Prop} {v : Value} {zs us : List Int} {g off cap n m : Nat} {os : Array Obj} (hS : St w Y [io .i64 v zs] w) (hv : v = .slice (some ⟨g, off, none⟩) zs.length cap) (h0 : 0 < zs.length)
    (hu : us.length = zs.length) (hm : m ≤ us.length) (hw : w' = grow (putRow (Value.int .i64) (Sort.ahead w n) g off us.toArray) os) :
    St w Y [io .i64 (.slice (some ⟨g, off, none⟩) (us.take m).length cap) (us.take m)] w' := by
  obtain ⟨f, q1, q2, q3⟩ := hS.upd 0 rfl
  obtain ⟨_, ⟨a, _, hn, _⟩ | ⟨g', off', cap', cur, T, hv', hf, hg, hc, hml, hs, hcell⟩⟩ := q1
  · omega
  rw [hv] at hv'
  simp only [Value.slice.injEq, Option.some.injEq, Addr.mk.injEq, and_true, true_and] at hv'
  obtain ⟨⟨rfl, rfl⟩, rfl⟩ := hv'
  have hgs : g < w.heap.size := (Array.getElem?_eq_some_iff.1 hg).1
  have hw' : w' = { w with drawn := w.drawn + n, heap := (w.heap.modify g (onCells (putCells (Value.int .i64) off us.toArray))) ++ os } := hw
  have hg' : w'.heap[g]? = some (.cells (putCells (Value.int .i64) off us.toArray cur) T (0, 0)) := by
    rw [hw']
    show (w.heap.modify g _ ++ os)[g]? = _
    rw [Array.getElem?_append_left (by simpa using hgs), Array.getElem?_modify, hg]
    simp [onCells]
  refine q3 w' _ f ⟨?_, ?_, ?_, ?_, fun b hb hx => ?_⟩ ⟨?_, .inr ⟨g, off, cap, putCells (Value.int .i64) off us.toArray cur, T, rfl, hf, hg', ?_, hml, ?_, fun j x hj => ?_⟩⟩ fun b hb => .inl hb
  · rw [hw']
  · rw [hw']
  · rw [hw']
  · rw [hw']; simp
  · have hne : g ≠ b := fun e => hx (by rw [← e]; exact hf)
    rw [hw']
    show (w.heap.modify g _ ++ os)[b]? = _
    rw [Array.getElem?_append_left (by simpa using hb), Array.getElem?_modify, if_neg hne]
  · simp
  · rw [List.length_take]; omega
  · simpa [putCells] using hs
  · rw [List.getElem?_map, Option.map_eq_some_iff] at hj
    obtain ⟨z, hz, rfl⟩ := hj
    rw [List.getElem?_take] at hz
    split at hz
    · obtain ⟨hk, rfl⟩ := List.getElem?_eq_some_iff.1 hz
      have hsz : off + j < cur.size := by omega
      simp only [putCells, Array.getElem?_mapIdx, Array.getElem?_eq_getElem hsz, Option.map_some]
      rw [if_pos ⟨by omega, by simpa using hk⟩, Nat.add_sub_cancel_left]
      simp [hk]
    · cases hz
/-- a sort over a slice of the call's own. -/
theorem sort_St {P : Program} {f : FuncId} {w : World} {Y : Nat → Prop} {v : Value} {zs us : List Int} (hS : St w Y [io .i64 v zs] w) (h0 : 0 < zs.length) (hu : us.length = zs.length)
    (h : ∀ g off cap, Holds (Value.int .i64) w g off zs.toArray → g < w.heap.size → Calls P f #[.slice (some ⟨g, off, none⟩) zs.length cap] w fun e w' => e = .returned (.tuple #[]) ∧ ∃ n os, w' = grow (putRow (Value.int .i64) (Sort.ahead w n) g off us.toArray) os) :
    Calls P f #[v] w fun e w' => e = .returned (.tuple #[]) ∧ St w Y [io .i64 v us] w' := by
  obtain ⟨fq, q1, _⟩ := hS.upd 0 rfl
  obtain ⟨g, off, cap, hv, _, hH, hg⟩ := ow_holds q1 h0
  subst hv
  refine (h g off cap hH hg).mono fun e w' ⟨he, n, os, hw⟩ => ⟨he, ?_⟩
  have := row_St (m := us.length) hS rfl h0 hu (Nat.le_refl _) hw
  rw [List.take_length, hu] at this
  exact this
theorem compact_St {P : Program} {f : FuncId} {w : World} {Y : Nat → Prop} {v : Value} {zs us : List Int} (hS : St w Y [io .i64 v zs] w) (h0 : 0 < zs.length) (hu : us.length ≤ zs.length)
    (h : ∀ g off cap, Holds (Value.int .i64) w g off zs.toArray → zs.length ≤ cap → Calls P f #[.slice (some ⟨g, off, none⟩) zs.length cap] w fun e w' => e = .returned (.slice (some ⟨g, off, none⟩) us.length cap) ∧ ∃ q, w' = putRow (Value.int .i64) (Sort.ahead w q) g off (us ++ List.replicate (zs.length - us.length) 0).toArray) :
    Calls P f #[v] w fun e w' => ∃ v', e = .returned v' ∧ St w Y [io .i64 v' us] w' := by
  obtain ⟨fq, q1, _⟩ := hS.upd 0 rfl
  obtain ⟨g, off, cap, hv, hc, hH, hg⟩ := ow_holds q1 h0
  subst hv
  refine (h g off cap hH hc).mono fun e w' ⟨he, n, hw⟩ => ⟨_, he, ?_⟩
  have := row_St (us := us ++ List.replicate (zs.length - us.length) 0) (m := us.length) (os := #[]) hS rfl h0 (by rw [List.length_append, List.length_replicate]; omega) (by rw [List.length_append]; omega) (hw.trans (grow_empty _).symm)
  rw [List.take_left' rfl] at this
  exact this
end Go.Own
