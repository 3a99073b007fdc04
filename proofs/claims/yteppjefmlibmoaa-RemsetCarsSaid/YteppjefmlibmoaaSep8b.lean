import Derived.Test.YteppjefmlibmoaaSep8
/-! remembered sets as one chunk: the sets' rows and what they hold; all sets with their numbers -/
namespace Go.Own
open Go Go.RowKit
def csF (U : List SL) : List (List Int) := U.map (·.2)
theorem csF_len (U : List SL) : (csF U).length = U.length := List.length_map ..
theorem csF_at {U : List SL} {k : Nat} {y : SL} (h : U[k]? = some y) : (csF U)[k]? = some y.2 := by unfold csF; rw [List.getElem?_map, h]; rfl
theorem csF_set (U : List SL) (k : Nat) (y : SL) : csF (U.set k y) = (csF U).set k y.2 := by unfold csF; rw [List.map_set]
theorem csF_app (U V : List SL) : csF (U ++ V) = csF U ++ csF V := List.map_append ..
theorem csF_nils (n : Nat) : csF (List.replicate n nilp) = List.replicate n [] := by unfold csF; rw [List.map_replicate]; rfl
/-- sets that are read. -/
def rmR (v : Value) (Y : List (List Int)) : HP where
  p w f := ∃ U : List SL, csF U = Y ∧ (rl 1 fstC v U).p w f ∧ (nsi U).p w f
  loc := fun ⟨U, h0, h1, h2⟩ a b => ⟨U, h0, HP.loc _ h1 a b, HP.loc _ h2 a b⟩
/-- sets of the call's own. -/
def rmO (v : Value) (Y : List (List Int)) : HP where
  p w f := ∃ (U : List SL) (f1 f2 : Nat → Prop), csF U = Y ∧ (ro 1 fstC v U).p w f1 ∧ (owl .i64 U).p w f2 ∧ (∀ b, f1 b → f b) ∧ (∀ b, f2 b → f b) ∧ ∀ b, f1 b → ¬ f2 b
  loc := fun ⟨U, f1, f2, h0, h1, h2, h3, h4, h5⟩ a b => ⟨U, f1, f2, h0, HP.loc _ h1 (fun q hq => a q (h3 q hq)) (fun q hq => b q (h3 q hq)), HP.loc _ h2 (fun q hq => a q (h4 q hq)) (fun q hq => b q (h4 q hq)), h3, h4, h5⟩
section
variable {w0 w : World} {X : Nat → Prop} {l : List HP} {U V : List SL} {v nv : Value} {Y : List (List Int)} {a b c : HP} {ns : List Int}
theorem nsi_mono {f g : Nat → Prop} (h : (nsi U).p w f) (hfg : ∀ b, f b → g b) : (nsi U).p w g := fun y hy => sl_mono (h y hy) hfg
theorem rmR_open (h : Ro w0 X (rmR v Y)) : ∃ U, csF U = Y ∧ Ro w0 X (rl 1 fstC v U) ∧ Ro w0 X (nsi U) := by
  obtain ⟨f, ⟨U, h0, h1, h2⟩, h3⟩ := h
  exact ⟨U, h0, ⟨f, h1, h3⟩, ⟨f, h2, h3⟩⟩
theorem rmR_of (h1 : Ro w0 X (rl 1 fstC v U)) (h2 : Ro w0 X (nsi U)) : Ro w0 X (rmR v (csF U)) := by
  obtain ⟨f, p1, p2⟩ := h1
  obtain ⟨g, q1, q2⟩ := h2
  exact ⟨fun b => f b ∨ g b, ⟨U, rfl, sl_mono p1 fun b => .inl, nsi_mono q1 fun b => .inr⟩, fun b hb => hb.elim (p2 b) (q2 b)⟩
theorem rmR_nil : Ro w0 X (rmR (.slice none 0 0) []) := ⟨fun _ => False, ⟨[], rfl, sl_nil, fun y hy => by cases hy⟩, fun _ h => h.elim⟩
theorem rmO_rd {f : Nat → Prop} (h : (rmO v Y).p w f) : (rmR v Y).p w f := by
  obtain ⟨U, f1, f2, h0, h1, h2, h3, h4, h5⟩ := h
  refine ⟨U, h0, sl_mono (ow_sl h1) h3, fun y hy => ?_⟩
  obtain ⟨k, hk⟩ := List.mem_iff_getElem?.1 hy
  exact sl_mono (owl_rd hk h2) h4
theorem Ro.rm (h : Ro w0 X (rmO v Y)) : Ro w0 X (rmR v Y) := let ⟨f, h1, h2⟩ := h; ⟨f, rmO_rd h1, h2⟩
/-- a chunk in front that is some one of many. -/
theorem St.ex {α : Type} {D : α → HP} (h : St w0 X (c :: l) w) (hc : ∀ f : Nat → Prop, c.p w f → ∃ a, (D a).p w f) : ∃ a, St w0 X (D a :: l) w := by
  obtain ⟨he, fs, h1, h2, h3⟩ := h
  obtain ⟨a, ha⟩ := hc _ (h1 0 c rfl)
  refine ⟨a, he, fs, fun i d hd => ?_, fun i b hb => by have := h2 i b hb; simpa using this, h3⟩
  cases i with
  | zero => simp at hd; subst hd; exact ha
  | succ i => exact h1 (i + 1) d (by simpa using hd)
def rmU (v : Value) (U : List SL) : HP where
  p w f := ∃ f1 f2 : Nat → Prop, (ro 1 fstC v U).p w f1 ∧ (owl .i64 U).p w f2 ∧ (∀ b, f1 b → f b) ∧ (∀ b, f2 b → f b) ∧ ∀ b, f1 b → ¬ f2 b
  loc := fun ⟨f1, f2, h1, h2, h3, h4, h5⟩ a b => ⟨f1, f2, HP.loc _ h1 (fun q hq => a q (h3 q hq)) (fun q hq => b q (h3 q hq)), HP.loc _ h2 (fun q hq => a q (h4 q hq)) (fun q hq => b q (h4 q hq)), h3, h4, h5⟩
def rmUY (v : Value) (Y : List (List Int)) (U : List SL) : HP where
  p w f := csF U = Y ∧ (rmU v U).p w f
  loc := fun ⟨h0, h1⟩ a b => ⟨h0, HP.loc _ h1 a b⟩
theorem St.rmOpen (h : St w0 X (c :: l) w) (hc : c = rmO v Y) : ∃ U a b, csF U = Y ∧ a = Go.Own.ro 1 fstC v U ∧ b = owl .i64 U ∧ St w0 X (a :: b :: l) w := by
  subst hc
  obtain ⟨U, h1⟩ := h.ex (D := rmUY v Y) fun f ⟨U, f1, f2, h0, q⟩ => ⟨U, h0, f1, f2, q⟩
  have h0 : csF U = Y := let ⟨_, q⟩ := h1.ch 0 rfl; q.1
  refine ⟨U, _, _, h0, rfl, rfl, h1.split (fun f ⟨_, f1, f2, q1, q2, q3, q4, q5⟩ => ⟨f1, f2, q1, q2, q3, q4, q5⟩)⟩
theorem St.rmClose (h : St w0 X (a :: b :: l) w) (ha : a = Go.Own.ro 1 fstC v U) (hb : b = owl .i64 U) : ∃ c, c = rmO v (csF U) ∧ St w0 X (c :: l) w := by
  subst ha hb
  exact ⟨_, rfl, h.two fun f g h1 h2 h3 => ⟨fun b => f b ∨ g b, ⟨U, f, g, rfl, h1, h2, fun b => .inl, fun b => .inr, h3⟩, fun b hb => hb⟩⟩
theorem St.rmNil (h : St w0 X l w) : ∃ c, c = rmO (.slice none 0 0) [] ∧ St w0 X (c :: l) w :=
  ⟨_, rfl, h.emp ⟨[], fun _ => False, fun _ => False, rfl, ow_nil, ⟨fun _ _ => False, fun i y hy => by simp at hy, fun _ _ h => h.elim, fun _ _ _ h => h.elim⟩, fun _ h => h, fun _ h => h, fun _ h => h.elim⟩⟩
theorem rmO_one (h : (rmO v Y).at w) : v.oneCell' = true := let ⟨_, q⟩ := h; let ⟨_, f1, _, _, q1, _⟩ := q; SlN_one (ow_at ⟨f1, q1⟩)
theorem rmR_one (h : (rmR v Y).at w) : v.oneCell' = true := let ⟨f, q⟩ := h; let ⟨_, _, q1, _⟩ := q; SlN_one (sl_SlN ⟨f, q1⟩)
theorem rmR_SlN (h : (rmR v Y).at w) : ∃ xs, SlN w 1 v Y.length xs := let ⟨f, q⟩ := h; let ⟨U, h0, q1, _⟩ := q; ⟨_, by rw [← h0, csF_len]; exact sl_SlN ⟨f, q1⟩⟩
/-! all sets: those of the cars, the nursery's last -/
def aI (U : List SL) (k : Nat) : Int := if k < U.length then (k : Int) else -1
def aS (U : List SL) (nv : Value) (ns : List Int) (k : Nat) : SL := (U ++ [(nv, ns)]).getD k nilp
def encA (U : List SL) (nv : Value) (ns : List Int) (k : Nat) : Array Value := #[.int .i64 (aI U k), .agg #[(aS U nv ns k).1]]
theorem aI_at {U : List SL} {k : Nat} (h : k < U.length) : aI U k = (k : Int) := by unfold aI; rw [if_pos h]
theorem aI_end {U : List SL} {k : Nat} (h : ¬ k < U.length) : aI U k = -1 := by unfold aI; rw [if_neg h]
theorem aS_at {U : List SL} {k : Nat} {y : SL} (h : U[k]? = some y) : aS U nv ns k = y := by
  unfold aS
  have hk := (List.getElem?_eq_some_iff.1 h).1
  rw [List.getD_eq_getElem?_getD, List.getElem?_append_left hk, h]; rfl
theorem aS_end {U : List SL} {k : Nat} (h : k = U.length) : aS U nv ns k = (nv, ns) := by
  subst h; unfold aS
  rw [List.getD_eq_getElem?_getD, List.getElem?_append_right (Nat.le_refl _), Nat.sub_self]; rfl
theorem encA_at {U : List SL} {k : Nat} {y : SL} (h : U[k]? = some y) : encA U nv ns k = #[.int .i64 (k : Int), .agg #[y.1]] := by
  unfold encA; rw [aI_at (List.getElem?_eq_some_iff.1 h).1, aS_at h]
theorem encA_end {U : List SL} {k : Nat} (h : k = U.length) : encA U nv ns k = #[.int .i64 (-1), .agg #[nv]] := by
  unfold encA; rw [aI_end (by omega), aS_end h]
theorem nsi_all (h1 : Ro w0 X (nsi U)) (h2 : Ro w0 X (il .i64 nv ns)) (k : Nat) : Ro w0 X (il .i64 (aS U nv ns k).1 (aS U nv ns k).2) := by
  by_cases q : k < U.length + 1
  · have h3 := nsi_app h1 (nsi_one h2)
    refine nsi_ro1 (k := k) h3 ?_
    unfold aS
    rw [List.getD_eq_getElem?_getD, List.getElem?_eq_getElem (by simpa using q)]; rfl
  · have : aS U nv ns k = nilp := by
      unfold aS
      rw [List.getD_eq_getElem?_getD, List.getElem?_eq_none (by simp; omega)]; rfl
    rw [this]; exact ro_nil
theorem rng_vd {n x : Nat} {pre : List Nat} (h : pre ++ [x] <+: List.range n) : x < n ∧ pre = List.range x := by
  have hl := h.length_le
  rw [List.length_append, List.length_range, List.length_singleton] at hl
  have h2 := List.prefix_iff_eq_take.1 h
  rw [List.take_range, List.length_append, List.length_singleton, Nat.min_eq_left (by omega), List.range_succ] at h2
  obtain ⟨e1, e2⟩ := List.append_inj' h2 rfl
  simp at e2
  subst e2
  exact ⟨by omega, e1⟩
theorem rng_pre {n k : Nat} (h : k < n) : List.range k ++ [k] <+: List.range n := by
  rw [← List.range_succ]
  refine List.prefix_iff_eq_take.2 ?_
  rw [List.take_range, List.length_range, Nat.min_eq_left (by omega)]
theorem rng_snoc (k : Nat) : List.range k ++ [k] = List.range (k + 1) := List.range_succ.symm
end
end Go.Own
namespace Go.Own
open Go Go.RowKit
section
variable {w0 w : World} {X : Nat → Prop} {l : List HP} {U : List SL} {v nv : Value}
theorem csF_aS {ns : List Int} {k : Nat} : (aS U nv ns k).2 = (csF U ++ [ns]).getD k [] := by
  unfold aS
  rw [List.getD_eq_getElem?_getD, List.getD_eq_getElem?_getD]
  have : csF U ++ [ns] = csF (U ++ [(nv, ns)]) := by rw [csF_app]; rfl
  rw [this]; unfold csF
  rw [List.getElem?_map]
  cases (U ++ [(nv, ns)])[k]? <;> rfl
end
end Go.Own
