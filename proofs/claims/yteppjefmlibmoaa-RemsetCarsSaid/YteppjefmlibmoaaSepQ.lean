import Derived.Test.YteppjefmlibmoaaSepS
import Derived.Test.YteppjefmlibmoaaSepP
namespace Go.Own
open Go Go.Sort
def capS (v : Value) : Nat := match v with | .slice _ _ cap => cap | _ => 0
theorem capS_sub (v : Value) (n : Nat) : capS (subS 1 v 0 n) = capS v := by cases v <;> simp [subS, capS]
theorem SlN.capS {w : World} {s n : Nat} {v : Value} {xs : List Value} (h : SlN w s v n xs) : n ≤ capS v := by
  obtain ⟨a, cap, rfl, h1, _⟩ := h; exact h1
theorem row_St2 {w w' : World} {Y : Nat → Prop} {v : Value} {zs us : List Int} {g off cap n m : Nat} {os : Array Obj} (hS : St w Y [io .i64 v zs] w) (hv : v = .slice (some ⟨g, off, none⟩) zs.length cap) (h0 : 0 < cap)
    (hu : us.length = zs.length) (hm : m ≤ us.length) (hw : w' = grow (putRow (Value.int .i64) (Sort.ahead w n) g off us.toArray) os) :
    St w Y [io .i64 (.slice (some ⟨g, off, none⟩) (us.take m).length cap) (us.take m)] w' := by
  obtain ⟨f, q1, q2, q3⟩ := hS.upd 0 rfl
  obtain ⟨_, ⟨a, hv', hn, _⟩ | ⟨g', off', cap', cur, T, hv', hf, hg, hc, hml, hs, hcell⟩⟩ := q1
  · rw [hv] at hv'; simp only [Value.slice.injEq] at hv'; omega
  rw [hv] at hv'
  simp only [Value.slice.injEq, Option.some.injEq, Addr.mk.injEq, and_true, true_and] at hv'
  obtain ⟨⟨rfl, rfl⟩, rfl⟩ := hv'
  have hgs : g < w.heap.size := (Array.getElem?_eq_some_iff.1 hg).1
  have hw' : w' = { w with drawn := w.drawn + n, heap := (w.heap.modify g (onCells (putCells (Value.int .i64) off us.toArray))) ++ os } := hw
  have hg' : w'.heap[g]? = some (.cells (putCells (Value.int .i64) off us.toArray cur) T (0, 0)) := by
    rw [hw']
    show (w.heap.modify g _ ++ os)[g]? = _
    rw [Array.getElem?_append_left (by simpa using hgs), Array.getElem?_modify, hg]
    simp [onCells]
  refine q3 w' _ f ⟨?_, ?_, ?_, ?_, fun b hb hx => ?_⟩ ⟨?_, .inr ⟨g, off, cap, putCells (Value.int .i64) off us.toArray cur, T, rfl, hf, hg', ?_, hml, ?_, fun j x hj => ?_⟩⟩ fun b hb => .inl hb
  · rw [hw']
  · rw [hw']
  · rw [hw']
  · rw [hw']; simp
  · have hne : g ≠ b := fun e => hx (by rw [← e]; exact hf)
    rw [hw']
    show (w.heap.modify g _ ++ os)[b]? = _
    rw [Array.getElem?_append_left (by simpa using hb), Array.getElem?_modify, if_neg hne]
  · simp
  · rw [List.length_take]; omega
  · simpa [putCells] using hs
  · rw [List.getElem?_map, Option.map_eq_some_iff] at hj
    obtain ⟨z, hz, rfl⟩ := hj
    rw [List.getElem?_take] at hz
    split at hz
    · obtain ⟨hk, rfl⟩ := List.getElem?_eq_some_iff.1 hz
      have hsz : off + j < cur.size := by omega
      simp only [putCells, Array.getElem?_mapIdx, Array.getElem?_eq_getElem hsz, Option.map_some]
      rw [if_pos ⟨by omega, by simpa using hk⟩, Nat.add_sub_cancel_left]
      simp [hk]
    · cases hz
/-- a sort, of an empty slice too (it has room). -/
theorem sort_St2 {P : Program} {f : FuncId} {w : World} {Y : Nat → Prop} {v : Value} {zs us : List Int} (hS : St w Y [io .i64 v zs] w) (h0 : 0 < capS v) (hu : us.length = zs.length)
    (h : ∀ g off cap, Holds (Value.int .i64) w g off zs.toArray → g < w.heap.size → Calls P f #[.slice (some ⟨g, off, none⟩) zs.length cap] w fun e w' => e = .returned (.tuple #[]) ∧ ∃ n os, w' = grow (putRow (Value.int .i64) (Sort.ahead w n) g off us.toArray) os) :
    Calls P f #[v] w fun e w' => e = .returned (.tuple #[]) ∧ St w Y [io .i64 v us] w' := by
  rcases Nat.eq_zero_or_pos zs.length with e | hp
  · obtain ⟨fq, q1, _⟩ := hS.upd 0 rfl
    obtain ⟨_, ⟨a, hv, _, _⟩ | ⟨g, off, cap, cur, T, hv, hf, hg, hc, hm, hs, hcell⟩⟩ := q1
    · subst hv; exact absurd h0 (by simp [capS])
    · have hz : zs = [] := List.eq_nil_of_length_eq_zero e
      subst hv
      refine (h g off cap (fun j hj => by rw [hz] at hj; simp at hj) (Array.getElem?_eq_some_iff.1 hg).1).mono fun e w' ⟨he, n, os, hw⟩ => ⟨he, ?_⟩
      have := row_St2 (m := us.length) hS rfl h0 hu (Nat.le_refl _) hw
      rw [List.take_length, hu] at this
      exact this
  · exact sort_St hS hp hu h
theorem clr_eq {lo : Nat} {v : Value} {zs : List Int} (h : lo ≤ zs.length) : ow 1 zs.length v ((zs.map (Value.int .i64)).take lo ++ List.replicate (zs.length - lo) (Value.int .i64 0)) = io .i64 v (zs.take lo ++ List.replicate (zs.length - lo) 0) := by
  have hl : (zs.take lo ++ List.replicate (zs.length - lo) (0 : Int)).length = zs.length := by rw [List.length_append, List.length_take, List.length_replicate]; omega
  unfold io
  rw [hl, List.map_append, List.map_take, List.map_replicate]
end Go.Own
