import Derived.Test.YteppjefmlibmoaaPl7e
namespace Go.Own.S
open Go Go.Own Go.Own.R
theorem tgK_congr {c d : List Int} {k : Nat} (h : ∀ y, 0 < y → (y ∈ c ↔ y ∈ d)) : tgK c k = tgK d k := by
  refine asc_unique (tgK_asc c k) (tgK_asc d k) fun a => ?_
  rw [tgK_mem, tgK_mem]
  exact ⟨fun q => ⟨q.1, q.2.1, (h a (by omega)).1 q.2.2⟩, fun q => ⟨q.1, q.2.1, (h a (by omega)).2 q.2.2⟩⟩
/-! Good -/
def Sz (c : List Int) : Prop := usd c = adr c ∧ (c.length = 8 ∨ 3 * c.length < 8 * adr c)
/-! Purge -/
theorem pg1_pos {f t x : Int} (h : 0 < pg1 f t x) : pg1 f t x = x ∧ ¬ (f ≤ x ∧ x < t) := by
  unfold pg1 at h ⊢
  split at h
  · omega
  · rename_i q; rw [if_neg q]; exact ⟨rfl, by omega⟩
theorem pg1_nz {f t x : Int} (h : ¬ x = 0) : ¬ pg1 f t x = 0 := by unfold pg1; split <;> omega
theorem pg_cnt (f t : Int) : ∀ c : List Int, adr (c.map (pg1 f t)) + c.countP (pgB f t) = adr c ∧ usd (c.map (pg1 f t)) = usd c
  | [] => ⟨rfl, rfl⟩
  | x :: c => by
    obtain ⟨h1, h2⟩ := pg_cnt f t c
    unfold adr at h1
    unfold usd at h2
    unfold adr usd
    simp only [List.map_cons, List.countP_cons]
    by_cases q : 0 < x ∧ f ≤ x ∧ x < t
    · have e1 : pg1 f t x = -1 := if_pos q
      have e2 : pgB f t x = true := decide_eq_true q
      have e3 : decide (x ≠ 0) = true := by simp; omega
      have e4 : decide (0 < x) = true := by simp; omega
      rw [e1, e2, e3, e4]
      simp at h1 h2 ⊢; omega
    · have e1 : pg1 f t x = x := if_neg q
      have e2 : pgB f t x = false := decide_eq_false q
      rw [e1, e2]
      simp at h1 h2 ⊢; omega
theorem pg_good {c : List Int} (h : Gd c) (f t : Int) : Gd (c.map (pg1 f t)) ∧ (∀ y, 0 < y → (y ∈ c.map (pg1 f t) ↔ y ∈ c ∧ ¬ (f ≤ y ∧ y < t))) := by
  have hg : ∀ {i : Nat} {y : Int}, (c.map (pg1 f t))[i]? = some y → 0 < y → c[i]? = some y := by
    intro i y hi hy
    rw [List.getElem?_map] at hi
    cases e : c[i]? with
    | none => rw [e] at hi; cases hi
    | some x =>
      rw [e] at hi
      have : pg1 f t x = y := Option.some.inj hi
      subst this
      rw [(pg1_pos hy).1]
  have hcl : ∀ z k, ¬ cl c z k = 0 → ¬ cl (c.map (pg1 f t)) z k = 0 := by
    intro z k q
    unfold cl at q ⊢
    rw [List.length_map]
    rw [List.getD_eq_getElem?_getD] at q ⊢
    rw [List.getElem?_map]
    cases e : c[ps c.length z k]? with
    | none => rw [e] at q; exact absurd rfl q
    | some x => rw [e] at q; exact pg1_nz q
  refine ⟨⟨⟨fun y hy => ?_, fun i j x hi hj h0 => h.dst i j x (hg hi h0) (hg hj h0) h0, fun i x hi h0 => ?_⟩, by rw [List.length_map]; exact h.p2, by rw [List.length_map, (pg_cnt f t c).2]; exact h.full⟩, fun y hy => ⟨fun q => ?_, fun q => ?_⟩⟩
  · obtain ⟨x, hx, rfl⟩ := List.mem_map.1 hy
    have := h.rng x hx
    unfold pg1; split <;> omega
  · obtain ⟨j, hj, h1, h2⟩ := h.pth i x (hg hi h0) h0
    exact ⟨j, by rw [List.length_map]; exact hj, by rw [List.length_map]; exact h1, fun k hk => hcl _ _ (h2 k hk)⟩
  · obtain ⟨x, hx, rfl⟩ := List.mem_map.1 q
    have := pg1_pos hy
    rw [this.1]; exact ⟨hx, this.2⟩
  · exact List.mem_map.2 ⟨y, q.1, by unfold pg1; rw [if_neg (by omega)]⟩
/-- no address is left, and as many cells. -/
structure Zr (n : Nat) (x : List Int) : Prop where
  gd : Gd x
  no : adr x = 0
  len : x.length = n
def rvK (l : List Int) (i : Nat) : List Int := List.replicate (l.length - i) 0 ++ (l.take i).reverse
theorem lsT_len (c : List Int) : (lsT c).length ≤ 1600 := by
  unfold lsT; split
  · simp
  · exact tgK_len c 1600
/-! Sets -/
def acC (r : Int × Bool) : List Value := [.int .u16 r.1, .bool r.2]
structure SR (x : List Int) (b : List Bool) (n : Int) : Prop where
  gd : Gd x
  len : b.length = 61
  mem : ∀ a : Nat, 1 ≤ a → a ≤ 60 → b[a]? = some (decide ((a : Int) ∈ x))
  top : ∀ y ∈ x, y ≤ 60
  num : n = ((adr x : Nat) : Int)
end Go.Own.S
