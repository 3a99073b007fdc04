import Derived.Test.YtodbfgfbkgpooaaDoorGen2
import Derived.Deep.MidRow
namespace Go.Own
open Go Go.RowKit

/-! a slice whose elements are structs of s cells -/
def RowV (w : World) (s : Nat) (v : Value) (xss : List (List Value)) : Prop :=
  ∃ a cap, v = .slice a xss.length cap ∧ xss.length ≤ 9223372036854775807 ∧ (a = none → xss = []) ∧
    ∀ b, a = some b → b.spot = none ∧ ∀ (k : Nat) (xs : List Value), xss[k]? = some xs → w.rangeAt b.block (b.off + k * s) xs
theorem rangeAt_ext {w w' : World} {b o : Nat} {cs : List Value} (he : Ext w w') (h : w.rangeAt b o cs) : w'.rangeAt b o cs := fun j v hv => by
  rw [he.cell (World.block_lt_of_cell? _ _ (h j v hv))]; exact h j v hv
theorem RowV.ext {w w' : World} {s : Nat} {v : Value} {xss : List (List Value)} (h : RowV w s v xss) (he : Ext w w') : RowV w' s v xss := by
  obtain ⟨a, cap, rfl, h1, h2, h3⟩ := h
  exact ⟨a, cap, rfl, h1, h2, fun b hb => ⟨(h3 b hb).1, fun k xs hk => rangeAt_ext he ((h3 b hb).2 k xs hk)⟩⟩
theorem RowV.form {w : World} {s : Nat} {v : Value} {xss : List (List Value)} (h : RowV w s v xss) : ∃ a cap, v = .slice a xss.length cap := by
  obtain ⟨a, cap, h, _⟩ := h; exact ⟨a, cap, h⟩
theorem RowV.nil (w : World) (s : Nat) : RowV w s (.slice none 0 0) [] := ⟨none, 0, rfl, by simp, fun _ => rfl, fun b hb => by cases hb⟩
theorem at_row {w : World} {s : Nat} {v : Value} {xss : List (List Value)} (h : RowV w s v xss) (k : Nat) (hk : k < xss.length) :
    ∃ b off cap xs, v = .slice (some ⟨b, off, none⟩) xss.length cap ∧ xss[k]? = some xs ∧ w.rangeAt b (off + k * s) xs := by
  obtain ⟨a, cap, he, h1, h2, h3⟩ := h
  cases a with
  | none => rw [h2 rfl] at hk; simp at hk
  | some b =>
    obtain ⟨bb, off, spot⟩ := b
    obtain ⟨hs, hc⟩ := h3 _ rfl
    simp only at hs hc
    subst hs
    have hx := List.getElem?_eq_getElem hk
    exact ⟨bb, off, cap, xss[k], he, hx, hc k _ hx⟩
theorem at_rowM {α : Type} {w : World} {s : Nat} {v : Value} {xs : List α} {f : α → List Value} (h : RowV w s v (xs.map f)) (k : Nat) (hk : k < xs.length) :
    ∃ b off cap y, v = .slice (some ⟨b, off, none⟩) xs.length cap ∧ xs[k]? = some y ∧ w.rangeAt b (off + k * s) (f y) := by
  obtain ⟨b, off, cap, ys, h1, h2, h3⟩ := at_row h k (by rw [List.length_map]; exact hk)
  rw [List.getElem?_map, Option.map_eq_some_iff] at h2
  obtain ⟨y, hy, rfl⟩ := h2
  exact ⟨b, off, cap, y, by rw [h1, List.length_map], hy, h3⟩
theorem V_lenR {P : Program} {A : Act} {o : Oper} {x : Operand} {v : Value} {t e : TypeId} {w0 : World} {α : Type} {s : Nat} {f : α → List Value} {xs : List α} (ho : o.op = .call { callee := .builtin .len, args := #[x], argTypes := #[t] }) (hx : EV A x = v) (h : RowV w0 s v (xs.map f)) (ht : P.underlying t = some (.slice e)) : Val P A o (.int .i64 (xs.length : Int)) := by
  obtain ⟨a, c, hv⟩ := h.form
  rw [List.length_map] at hv
  exact V_len ho hx hv ht
theorem V_idxR {P : Program} {A : Act} {o : Oper} {x p : Operand} {t e : TypeId} {v : Value} {b off n cap : Nat} {z : Int} (s k : Nat) (ho : o.op = .indexAddr t x p) (hx : EV A x = v) (hp : EV A p = .int .i64 z) (hv : v = .slice (some ⟨b, off, none⟩) n cap) (hz : z = (k : Int)) (hk : k < n)
    (ht : P.underlying t = some (.slice e)) (hi : (P.info? e).map (·.size) = some s) : Val P A o (.pointer (some ⟨b, off + k * s, none⟩)) := fun w => by
  cases hq : P.info? e with
  | none => simp [hq] at hi
  | some inf =>
    have hs : inf.size = s := by simpa [hq] using hi
    subst hz hv
    unfold execOp
    simp [ho, hx, hp, Instr.indexAt, asIntOf, run_underlying ht, sizeOf, typeInfo, hq, hs, hk, Addr.add]
    all_goals (intro h; rcases h with h | h <;> simp_all)
theorem VR_ldM {P : Program} {A : Act} {o : Oper} {x : Operand} {T b off : Nat} {cs : List Value} {w : World} {d : TypeDesc} (ho : o.op = .load T x) (hx : EV A x = .pointer (some ⟨b, off, none⟩)) (hc : w.rangeAt b off cs)
    (hu : P.underlying T = some d) (hd : d.isRow = true) (hi : (P.info? T).map (·.size) = some cs.length) : ValW P A o w (.agg cs.toArray) := by
  unfold ValW execOp
  simp only [ho, hx, Sem.run_bind, run_loadAt_mid w b off T cs d hc hu hd hi, Result.andThen_ok, Sem.run_pure]
theorem V_max {P : Program} {A : Act} {o : Oper} {x y : Operand} {k : IntKind} {a b : Int} {ts : Array TypeId} (ho : o.op = .call { callee := .builtin .max, args := #[x, y], argTypes := ts }) (hx : EV A x = .int k a) (hy : EV A y = .int k b) : Val P A o (.int k (if b > a then b else a)) := fun w => by
  unfold execOp; simp [ho, hx, hy, resolve, invoke, builtin, Builtin.max_, Builtin.max2]
end Go.Own
