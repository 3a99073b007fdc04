import Derived.Test.YtoandfgkkmfobaaMono
import Derived.WalkKit
import Derived.WalkSpells
import Derived.Laws.AppendOwnNone
namespace Go.Own
open Go Go.RowKit

theorem hid {p : Prop} (h : p) : Hid p := h

/-- v reads as a slice of n elements of s cells each, the cells xs. -/
def SlN (w : World) (s : Nat) (v : Value) (n : Nat) (xs : List Value) : Prop :=
  ∃ a cap, v = .slice a n cap ∧ n ≤ cap ∧ cap ≤ 9223372036854775807 ∧ xs.length = n * s ∧ (a = none → n = 0) ∧
    ∀ b, a = some b → b.spot = none ∧ ∀ (j : Nat) (x : Value), xs[j]? = some x → w.cell? ⟨b.block, b.off + j, none⟩ = some x

theorem SlN.ext {w w' : World} {s n : Nat} {v : Value} {xs : List Value} (h : SlN w s v n xs) (he : Ext w w') : SlN w' s v n xs := by
  obtain ⟨a, cap, rfl, h1, h2, h3, h4, h5⟩ := h
  refine ⟨a, cap, rfl, h1, h2, h3, h4, fun b hb => ⟨(h5 b hb).1, fun j x hj => ?_⟩⟩
  have hc := (h5 b hb).2 j x hj
  rw [he.cell (World.block_lt_of_cell? _ _ hc)]
  exact hc

/-- One-cell elements. -/
def Sl (w : World) (v : Value) (xs : List Value) : Prop := SlN w 1 v xs.length xs

def Ints (w : World) (v : Value) (zs : List Int) : Prop := Sl w v (zs.map (Value.int .i64))

theorem Ints.ext {w w' : World} {v : Value} {zs : List Int} (h : Ints w v zs) (he : Ext w w') : Ints w' v zs := SlN.ext h he
theorem Sl.ext {w w' : World} {v : Value} {zs : List Value} (h : Sl w v zs) (he : Ext w w') : Sl w' v zs := SlN.ext h he

theorem SlN.nil (w : World) (s : Nat) : SlN w s (.slice none 0 0) 0 [] := ⟨none, 0, rfl, by simp, by simp, by simp, fun _ => rfl, fun b hb => by cases hb⟩
theorem Ints.nil (w : World) : Ints w (.slice none 0 0) [] := SlN.nil w 1

theorem SlN.of_own {w : World} {base : Nat} {e : TypeId} {s n : Nat} {v : Value} {xs : List Value} (h : w.ownsRow base e s v n xs) : SlN w s v n xs := by
  obtain ⟨h1, h2⟩ := h
  rcases h2 with ⟨rfl, rfl⟩ | ⟨g, cap, cur, rfl, _, hg, hn, hc, hs, hx⟩
  · exact ⟨none, 0, rfl, by simp, by simp, h1, fun _ => rfl, fun b hb => by cases hb⟩
  · refine ⟨_, cap, rfl, hn, by unfold maxLen at hc; omega, h1, (fun h => by cases h), fun b hb => ?_⟩
    cases hb
    refine ⟨rfl, fun j x hj => ?_⟩
    rw [← hx, List.getElem?_take] at hj
    split at hj
    · rw [Nat.zero_add, cell_of_row w g j cur e (0, 0) hg]; simpa using hj
    · cases hj

/-- the cells of the words of what is appended. -/
theorem SlN.adds {w : World} {s n : Nat} {b : Addr} {cap : Nat} {xs : List Value} (h : SlN w s (.slice (some b) n cap) n xs) : ∀ j u, xs[j]? = some u → w.cell? (b.add j) = some u := by
  obtain ⟨a, cap', he, h1, h2, h3, h4, h5⟩ := h
  cases he
  obtain ⟨hs, hc⟩ := h5 b rfl
  intro j u hj
  have := hc j u hj
  obtain ⟨bb, off, spot⟩ := b
  simp only at hs this
  subst hs
  unfold Addr.add
  split
  · rename_i h0; subst h0; simpa using this
  · exact this

section
variable {P : Program}

theorem run_append_ext (w : World) (base : Nat) (t t2 ty e e2 : TypeId) (i : TypeInfo) (z : Value) (size bytes : Nat) (ht : P.underlying t = some (.slice e)) (ht2 : P.underlying t2 = some (.slice e2)) (hi : P.info? e = some i) (hz : i.zero = some z)
    (hsize : i.size = size) (hby : i.bytes = bytes) (hzs : z.cells.size = size) (hsz : 0 < size)
    (v : Value) (n : Nat) (xs : List Value) (hown : w.ownsRow base e size v n xs)
    (y : Value) (m : Nat) (news : List Value) (hy : SlN w size y m news) (h1 : ∀ u ∈ news, u.oneCell' = true)
    (hbytes : (n + m) * bytes ≤ 140737488355328) (h63 : n + m ≤ 9223372036854775807) (hbase : base ≤ w.heap.size) :
    ∃ v' w', (Builtin.append_ #[t, t2] ty #[v, y]).run P w = .ok v' w' ∧ w'.ownsRow base e size v' (n + m) (xs ++ news) ∧ w.grownBy w' v.ownBlock ∧
      (v' = .slice none 0 0 ↔ v = .slice none 0 0 ∧ m = 0) := by
  obtain ⟨va, vn, vc, rfl⟩ : ∃ a l c, v = .slice a l c := by
    rcases hown.2 with ⟨rfl, _⟩ | ⟨g, cap, cur, rfl, _⟩ <;> exact ⟨_, _, _, rfl⟩
  have key : (Builtin.append_ #[t, t2] ty #[.slice va vn vc, y]).run P w = (Builtin.append_ #[t, t] ty #[.slice va vn vc, y]).run P w := by
    simp [Builtin.append_, run_underlying ht, run_underlying ht2]
  rw [key]
  have hy' := hy
  obtain ⟨a, cap, rfl, g1, g2, g3, g4, g5⟩ := hy
  cases a with
  | none =>
    obtain rfl := g4 rfl
    have hn : news = [] := List.eq_nil_of_length_eq_zero (by simpa using g3)
    subst hn
    refine ⟨.slice va vn vc, w, ?_, by simpa using hown, ⟨rfl, rfl, rfl, Nat.le_refl _, fun _ _ _ => rfl⟩, by simp⟩
    obtain ⟨q1, q2⟩ := hown
    rcases q2 with ⟨q2, q3⟩ | ⟨g, cap, cur, q2, _, hg, hn, hc, hs, hx⟩
    · cases q2; simp [Builtin.append_, run_underlying ht, sizeOf, typeInfo, hi, Builtin.lenOf, Builtin.firstCells]
    · cases q2; simp [Builtin.append_, run_underlying ht, sizeOf, typeInfo, hi, Builtin.lenOf, Builtin.firstCells, hn, storeCells]
  | some b => exact run_append_own w base t ty e i z size bytes ht hi hz hsize hby hzs hsz _ n xs hown b m cap news g3 hy'.adds h1 (by unfold maxLen; omega) hbytes hbase

/-- an operation without a guard whose run is known. -/
theorem wpList_val {ops : Array Oper} {rest : List Oper} {o : Oper} {a : Act} {Q : Exit → Act → World → Prop} {w w' : World} {v : Value} (hg : o.guard = none)
    (hrun : (execOp a.eval o).run P w = .ok (.value v) w') (h : wpList P ops Q rest (a.put o.dst v) w') : wpList P ops Q (o :: rest) a w :=
  wpList_plain hg fun K hK => by unfold Oper.wp; rw [hrun]; exact hK _ _ h

theorem wpList_append_ext {ops : Array Oper} {rest : List Oper} {o : Oper} {a : Act} {Q : Exit → Act → World → Prop} {w : World} (hgd : o.guard = none) (s x : Operand) (t t2 : TypeId)
    (ho : o.op = .call { callee := .builtin .append, args := #[s, x], argTypes := #[t, t2] })
    (base : Nat) (e e2 : TypeId) (i : TypeInfo) (z : Value) (size bytes : Nat) (ht : P.underlying t = some (.slice e)) (ht2 : P.underlying t2 = some (.slice e2)) (hi : P.info? e = some i) (hz : i.zero = some z)
    (hsize : i.size = size) (hby : i.bytes = bytes) (hzs : z.cells.size = size) (hsz : 0 < size)
    (n : Nat) (xs : List Value) (hown : w.ownsRow base e size (a.eval s) n xs)
    (m : Nat) (news : List Value) (hy : SlN w size (a.eval x) m news) (h1 : ∀ u ∈ news, u.oneCell' = true)
    (hbytes : (n + m) * bytes ≤ 140737488355328) (h63 : n + m ≤ 9223372036854775807) (hbase : base ≤ w.heap.size)
    (h : ∀ v' w', w'.ownsRow base e size v' (n + m) (xs ++ news) → w.grownBy w' (a.eval s).ownBlock → (v' = .slice none 0 0 ↔ a.eval s = .slice none 0 0 ∧ m = 0) → wpList P ops Q rest (a.put o.dst v') w') : wpList P ops Q (o :: rest) a w := by
  obtain ⟨v', w', hr, h2, h3, h4⟩ := run_append_ext w base t t2 o.type e e2 i z size bytes ht ht2 hi hz hsize hby hzs hsz _ n xs hown _ m news hy h1 hbytes h63 hbase
  refine wpList_val hgd (v := v') (w' := w') ?_ (h v' w' h2 h3 h4)
  unfold execOp
  simp only [ho, resolve, invoke, builtin, Sem.run_bind, Sem.run_pure, Result.andThen_ok, List.map_toArray, List.map_cons, List.map_nil, hr]

end

/-- fresh memory: v is a slice of n ints of type e in blocks from B on that nobody else has. -/
def OwnI (w : World) (B : Nat) (e : TypeId) (v : Value) (zs : List Int) : Prop := w.ownsRow B e 1 v zs.length (zs.map (Value.int .i64))

theorem own_base {w : World} {B B' : Nat} {e : TypeId} {s n : Nat} {v : Value} {xs : List Value} (h : w.ownsRow B e s v n xs) (hb : B' ≤ B) : w.ownsRow B' e s v n xs := by
  obtain ⟨h1, h2⟩ := h
  refine ⟨h1, ?_⟩
  rcases h2 with h2 | ⟨g, cap, cur, a, b, c⟩
  · exact .inl h2
  · exact .inr ⟨g, cap, cur, a, Nat.le_trans hb b, c⟩

theorem own_ext {w w' : World} {B : Nat} {e : TypeId} {s n : Nat} {v : Value} {xs : List Value} (h : w.ownsRow B e s v n xs) (he : Ext w w') : w'.ownsRow B e s v n xs :=
  h.kept (row := none) ⟨he.os, he.tape, he.output, he.size, fun k hk _ => he.block k hk⟩ (by cases hv : v.ownBlock <;> simp)

theorem OwnI.base {w : World} {B B' : Nat} {e : TypeId} {v : Value} {zs : List Int} (h : OwnI w B e v zs) (hb : B' ≤ B) : OwnI w B' e v zs := own_base h hb
theorem OwnI.ext {w w' : World} {B : Nat} {e : TypeId} {v : Value} {zs : List Int} (h : OwnI w B e v zs) (he : Ext w w') : OwnI w' B e v zs := own_ext h he
theorem OwnI.ints {w : World} {B : Nat} {e : TypeId} {v : Value} {zs : List Int} (h : OwnI w B e v zs) : Ints w v zs := by
  have := SlN.of_own h
  unfold Ints Sl; rw [List.length_map]; exact this

theorem bcell {W w1 : World} (hb : Ext W w1) : (∀ b o, b < W.heap.size → w1.cell? ⟨b, o, none⟩ = W.cell? ⟨b, o, none⟩) ∧ (∀ b o, b < W.heap.size → w1.frozen? ⟨b, o, none⟩ = W.frozen? ⟨b, o, none⟩) :=
  ⟨fun b o h => hb.cell (p := ⟨b, o, none⟩) h, fun b o h => hb.frozen (p := ⟨b, o, none⟩) h⟩

theorem retI {k : IntKind} {a b : Int} (h : a = b) : Ending.returned (.int k a) = .returned (.int k b) := by rw [h]
theorem retB {a b : Bool} (h : a = b) : Ending.returned (.bool a) = .returned (.bool b) := by rw [h]

end Go.Own
