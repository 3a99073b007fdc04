import Derived.Test.YtdilbnmaihmgnaaMono
import Derived.WalkKit
import Derived.WalkSpells
import Derived.Laws.AppendOwnNone
namespace Go.Own
open Go Go.RowKit

/-- v reads as a slice of n elements of s cells each, the cells xs. -/
def SlN (w : World) (s : Nat) (v : Value) (n : Nat) (xs : List Value) : Prop :=
  ∃ a cap, v = .slice a n cap ∧ n ≤ cap ∧ cap ≤ 9223372036854775807 ∧ xs.length = n * s ∧ (a = none → n = 0) ∧
    ∀ b, a = some b → (0 < cap → b.spot = none) ∧ ∀ (j : Nat) (x : Value), xs[j]? = some x → w.cell? ⟨b.block, b.off + j, none⟩ = some x

theorem SlN.ext {w w' : World} {s n : Nat} {v : Value} {xs : List Value} (h : SlN w s v n xs) (he : Ext w w') : SlN w' s v n xs := by
  obtain ⟨a, cap, rfl, h1, h2, h3, h4, h5⟩ := h
  refine ⟨a, cap, rfl, h1, h2, h3, h4, fun b hb => ⟨(h5 b hb).1, fun j x hj => ?_⟩⟩
  have hc := (h5 b hb).2 j x hj
  rw [he.cell (World.block_lt_of_cell? _ _ hc)]
  exact hc

/-- One-cell elements. -/
def Sl (w : World) (v : Value) (xs : List Value) : Prop := SlN w 1 v xs.length xs

def Ints (w : World) (v : Value) (zs : List Int) : Prop := Sl w v (zs.map (Value.int .i64))

theorem Ints.ext {w w' : World} {v : Value} {zs : List Int} (h : Ints w v zs) (he : Ext w w') : Ints w' v zs := SlN.ext h he
theorem Sl.ext {w w' : World} {v : Value} {zs : List Value} (h : Sl w v zs) (he : Ext w w') : Sl w' v zs := SlN.ext h he

theorem SlN.nil (w : World) (s : Nat) : SlN w s (.slice none 0 0) 0 [] := ⟨none, 0, rfl, by simp, by simp, by simp, fun _ => rfl, fun b hb => by cases hb⟩
theorem Ints.nil (w : World) : Ints w (.slice none 0 0) [] := SlN.nil w 1

theorem SlN.of_own {w : World} {base : Nat} {e : TypeId} {s n : Nat} {v : Value} {xs : List Value} (h : w.ownsRow base e s v n xs) : SlN w s v n xs := by
  obtain ⟨h1, h2⟩ := h
  rcases h2 with ⟨rfl, rfl⟩ | ⟨g, cap, cur, rfl, _, hg, hn, hc, hs, hx⟩
  · exact ⟨none, 0, rfl, by simp, by simp, h1, fun _ => rfl, fun b hb => by cases hb⟩
  · refine ⟨_, cap, rfl, hn, by unfold maxLen at hc; omega, h1, (fun h => by cases h), fun b hb => ?_⟩
    cases hb
    refine ⟨fun _ => rfl, fun j x hj => ?_⟩
    rw [← hx, List.getElem?_take] at hj
    split at hj
    · rw [Nat.zero_add, cell_of_row w g j cur e (0, 0) hg]; simpa using hj
    · cases hj

/-- the cells of the words of what is appended. -/
theorem SlN.adds {w : World} {s n : Nat} {b : Addr} {cap : Nat} {xs : List Value} (h : SlN w s (.slice (some b) n cap) n xs) : ∀ j u, xs[j]? = some u → w.cell? (b.add j) = some u := by
  obtain ⟨a, cap', he, h1, h2, h3, h4, h5⟩ := h
  cases he
  obtain ⟨hs, hc⟩ := h5 b rfl
  intro j u hj
  have := hc j u hj
  have hs := hs (by
    have hlt := (List.getElem?_eq_some_iff.1 hj).1
    rw [h3] at hlt
    rcases Nat.eq_zero_or_pos cap with h0 | h0
    · have hn : n = 0 := by omega
      rw [hn, Nat.zero_mul] at hlt; omega
    · exact h0)
  obtain ⟨bb, off, spot⟩ := b
  simp only at hs this
  subst hs
  unfold Addr.add
  split
  · rename_i h0; subst h0; simpa using this
  · exact this

section
variable {P : Program}

end

/-- fresh memory: v is a slice of n ints of type e in blocks from B on that nobody else has. -/
def OwnI (w : World) (B : Nat) (e : TypeId) (v : Value) (zs : List Int) : Prop := w.ownsRow B e 1 v zs.length (zs.map (Value.int .i64))

theorem own_base {w : World} {B B' : Nat} {e : TypeId} {s n : Nat} {v : Value} {xs : List Value} (h : w.ownsRow B e s v n xs) (hb : B' ≤ B) : w.ownsRow B' e s v n xs := by
  obtain ⟨h1, h2⟩ := h
  refine ⟨h1, ?_⟩
  rcases h2 with h2 | ⟨g, cap, cur, a, b, c⟩
  · exact .inl h2
  · exact .inr ⟨g, cap, cur, a, Nat.le_trans hb b, c⟩

theorem own_ext {w w' : World} {B : Nat} {e : TypeId} {s n : Nat} {v : Value} {xs : List Value} (h : w.ownsRow B e s v n xs) (he : Ext w w') : w'.ownsRow B e s v n xs :=
  h.kept (row := none) ⟨he.os, he.tape, he.output, he.size, fun k hk _ => he.block k hk⟩ (by cases hv : v.ownBlock <;> simp)

theorem OwnI.base {w : World} {B B' : Nat} {e : TypeId} {v : Value} {zs : List Int} (h : OwnI w B e v zs) (hb : B' ≤ B) : OwnI w B' e v zs := own_base h hb
theorem OwnI.ext {w w' : World} {B : Nat} {e : TypeId} {v : Value} {zs : List Int} (h : OwnI w B e v zs) (he : Ext w w') : OwnI w' B e v zs := own_ext h he
theorem OwnI.ints {w : World} {B : Nat} {e : TypeId} {v : Value} {zs : List Int} (h : OwnI w B e v zs) : Ints w v zs := by
  have := SlN.of_own h
  unfold Ints Sl; rw [List.length_map]; exact this

end Go.Own
