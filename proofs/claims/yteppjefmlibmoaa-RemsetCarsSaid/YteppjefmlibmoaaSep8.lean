import Derived.Test.YteppjefmlibmoaaSepU
import Derived.Test.YteppjefmlibmoaaSepQ
import Derived.Maps.RangeRun
import Derived.Test.YteppjefmlibmoaaSepO
import Derived.Test.YteppjefmlibmoaaSepE
/-! graphs as own memory -/
namespace Go.Own
open Go Go.RowKit
section
variable {w0 w : World} {X : Nat → Prop} {cs : List HP} {c d e g q a b a' g' q' : HP} {i j k m n : Nat}
end
section
variable {w0 w : World} {X : Nat → Prop}
theorem gen11 {a0 a1 a2 a3 a4 a5 a6 a7 a8 a9 a10 : HP} {l : List HP} (h : St w0 X (a0 :: a1 :: a2 :: a3 :: a4 :: a5 :: a6 :: a7 :: a8 :: a9 :: a10 :: l) w) : ∃ c0 c1 c2 c3 c4 c5 c6 c7 c8 c9 c10, c0 = a0 ∧ c1 = a1 ∧ c2 = a2 ∧ c3 = a3 ∧ c4 = a4 ∧ c5 = a5 ∧ c6 = a6 ∧ c7 = a7 ∧ c8 = a8 ∧ c9 = a9 ∧ c10 = a10 ∧ St w0 X (c0 :: c1 :: c2 :: c3 :: c4 :: c5 :: c6 :: c7 :: c8 :: c9 :: c10 :: l) w := ⟨_, _, _, _, _, _, _, _, _, _, _, rfl, rfl, rfl, rfl, rfl, rfl, rfl, rfl, rfl, rfl, rfl, h⟩
end
section
variable {P : Program} {ops : Array Oper} {l' : List Oper} {o : Oper} {A : Act} {Q : Exit → Act → World → Prop} {w0 w : World} {X : Nat → Prop} {l : List HP} {cP cQ cR : HP} {O : List Ob} {kk f B Of C off : Nat} {y : Ob} {z : Int} {hv : Value} {T : TypeId} {x u : Operand}
end
section
variable {P : Program} {ops : Array Oper} {Q : Exit → Act → World → Prop} {n : Nat} {L : Array Bool} {A : Act} {w : World} {Z : Nat → Array Bool → Act → World → Prop}
end
end Go.Own

/-! sets of ints as maps to true; a sort of what may be nil -/
namespace Go.Own
open Go Go.Sort
def sM (L : List Int) : List (Int × Value) := L.map fun q => (q, .bool true)
/-- a set of ints of the call's own. -/
abbrev ms (v : Value) (L : List Int) : HP := mo .i64 v (sM L)
section
variable {P : Program} {ops : Array Oper} {l : List Oper} {o : Oper} {A : Act} {Q : Exit → Act → World → Prop} {w w0 : World} {X : Nat → Prop} {cs : List HP} {c : HP} {d : Tmp} {x y z : Operand}
end
end Go.Own

/-! maps as they lie: opened to their entries; a range over one; an entry that is there is written -/
namespace Go.Own
open Go
/-- the entries of a map that lie so. -/
structure MapOk (k : IntKind) (es : Array MapEntry) (clock : Nat) (m : List (Int × Value)) : Prop where
  enc : es.toList.map (fun e => (e.key, e.val)) = encM k m
  nd : (es.toList.map fun e : MapEntry => e.born).Nodup
  lt : ∀ e ∈ es.toList, e.born < clock
section
variable {w0 w : World} {X : Nat → Prop} {l cs : List HP} {k : IntKind} {m : List (Int × Value)} {c : HP} {v : Value} {g : Nat}
end
/-- what is left to a range. -/
def Lf (k : IntKind) (es : Array MapEntry) (seen : Array Nat) (L : List (Int × Value)) : Prop := (leftOf es seen).toList.map (fun e => (e.key, e.val)) = encM k L
/-- an iterator over a map that lies at g, with what is left, and the entry that came last. -/
def mitP (k : IntKind) (r g : Nat) (es : Array MapEntry) (clock : Nat) (cur : Option (Int × Value)) (L : List (Int × Value)) (w : World) (f : Nat → Prop) : Prop :=
  ∃ seen : Array Nat, f r ∧ w.heap[r]? = some (.mapIter (some g) clock seen clock) ∧ Lf k es seen L ∧ ∀ q u, cur = some (q, u) → ∃ (s : Array Nat) (e : MapEntry), seen = s.push e.born ∧ e ∈ es.toList ∧ e.key = .int k q ∧ e.val = u
def mit (k : IntKind) (r g : Nat) (es : Array MapEntry) (clock : Nat) (cur : Option (Int × Value)) (L : List (Int × Value)) : HP where
  p := mitP k r g es clock cur L
  loc := fun ⟨seen, h1, h2, h3⟩ _ hb => ⟨seen, h1, (hb r h1).trans h2, h3⟩
section
variable {P : Program} {ops : Array Oper} {l : List Oper} {o : Oper} {A : Act} {Q : Exit → Act → World → Prop} {w w0 : World} {X : Nat → Prop} {cs : List HP} {c : HP} {d : Tmp} {x y z : Operand}
end
end Go.Own

/-! maps that are read, ranged over and written: nil or not; an entry that is there is written anew; a map of slices -/
namespace Go.Own
open Go
def kix {α : Type} (m : List (Int × α)) (q : Int) : Nat := m.findIdx fun p => p.1 == q
/-- m[q] = u. -/
def kset {α : Type} (m : List (Int × α)) (q : Int) (u : α) : List (Int × α) := if kix m q < m.length then m.set (kix m q) (q, u) else m ++ [(q, u)]
def kmap {α β : Type} (f : α → β) (m : List (Int × α)) : List (Int × β) := m.map fun p => (p.1, f p.2)
def kget {α : Type} (m : List (Int × α)) (q : Int) : Option α := (m.find? fun p => p.1 == q).map (·.2)
section
variable {P : Program} {ops : Array Oper} {l : List Oper} {o : Oper} {A : Act} {Q : Exit → Act → World → Prop} {w w0 : World} {X : Nat → Prop} {cs : List HP} {c : HP} {d : Tmp} {x y z : Operand}
end
/-! a range over a map, nil or not -/
/-- a map as it lies. -/
def mop (k : IntKind) (v : Value) (es : Array MapEntry) (clock : Nat) (m : List (Int × Value)) : HP where
  p := fun w f => (v = .map none ∧ m = [] ∧ es = #[]) ∨ ∃ g, v = .map (some g) ∧ f g ∧ w.heap[g]? = some (.map es clock) ∧ MapOk k es clock m
  loc := fun h _ hb => h.elim (fun h => .inl h) fun ⟨g, h1, h2, h3, h4⟩ => .inr ⟨g, h1, h2, (hb g h2).trans h3, h4⟩
theorem mop_of {k : IntKind} {v : Value} {m : List (Int × Value)} {w : World} {f : Nat → Prop} (h : (mo k v m).p w f) : ∃ es clock, (mop k v es clock m).p w f := by
  rcases h with h | ⟨g, es, clock, h1, h2, h3, h4, h5, h6⟩
  · exact ⟨#[], 0, .inl ⟨h.1, h.2, rfl⟩⟩
  · exact ⟨es, clock, .inr ⟨g, h1, h2, h3, h4, h5, h6⟩⟩
theorem St.mop {k : IntKind} {v : Value} {m : List (Int × Value)} {w0 w : World} {X : Nat → Prop} {cs : List HP} {c : HP} (i : Nat) (h : St w0 X cs w) (hi : cs[i]? = some c) (hc : c = mo k v m) : ∃ es clock, St w0 X (cs.set i (Go.Own.mop k v es clock m)) w := by
  subst hc
  obtain ⟨f, q1, q2, q3⟩ := h.upd i hi
  obtain ⟨es, clock, h3⟩ := mop_of q1
  exact ⟨es, clock, q3 w _ f (ExtX.rfl' _ _) h3 fun b hb => .inl hb⟩
def mivP (k : IntKind) (r : Nat) (v : Value) (es : Array MapEntry) (clock : Nat) (cur : Option (Int × Value)) (L : List (Int × Value)) (w : World) (f : Nat → Prop) : Prop :=
  f r ∧ ((v = .map none ∧ L = [] ∧ cur = none ∧ w.heap[r]? = some (.mapIter none 0 #[] 0)) ∨ ∃ (g : Nat) (seen : Array Nat), v = .map (some g) ∧ w.heap[r]? = some (.mapIter (some g) clock seen clock) ∧ Lf k es seen L ∧
    ∀ q u, cur = some (q, u) → ∃ (s : Array Nat) (e : MapEntry), seen = s.push e.born ∧ e ∈ es.toList ∧ e.key = .int k q ∧ e.val = u)
/-- an iterator over the map v. -/
def miv (k : IntKind) (r : Nat) (v : Value) (es : Array MapEntry) (clock : Nat) (cur : Option (Int × Value)) (L : List (Int × Value)) : HP where
  p := mivP k r v es clock cur L
  loc := fun ⟨h1, h2⟩ _ hb => ⟨h1, h2.elim (fun ⟨a, b, c, e⟩ => .inl ⟨a, b, c, (hb r h1).trans e⟩) fun ⟨g, seen, a, b, c⟩ => .inr ⟨g, seen, a, (hb r h1).trans b, c⟩⟩
section
variable {P : Program} {ops : Array Oper} {l : List Oper} {o : Oper} {A : Act} {Q : Exit → Act → World → Prop} {w w0 : World} {X : Nat → Prop} {cs : List HP} {c : HP} {d : Tmp} {x y z : Operand}
end
/-! a map of slices of ints: the entries and, beside them, the slices -/
abbrev KE := Int × (Value × List Int)
def lkP (K : List KE) (q : Int) : Value × List Int := (kget K q).getD nilp
def kclr (K : List KE) (q : Int) : List KE := if kix K q < K.length then K.set (kix K q) (q, nilp) else K
def mkO (v : Value) (K : List KE) : HP := mo .i64 v (kmap (fun y : Value × List Int => y.1) K)
def mkC (K : List KE) : HP := owl .i64 (K.map (·.2))
section
variable {w0 w : World} {X : Nat → Prop} {l : List HP} {c a : HP} {K : List KE} {q : Int} {u : Value} {zs : List Int}
end
section
variable {P : Program} {ops : Array Oper} {l : List Oper} {o : Oper} {A : Act} {Q : Exit → Act → World → Prop} {w w0 : World} {X : Nat → Prop} {cs : List HP} {c : HP} {d : Tmp} {x y z : Operand}
end
section
variable {P : Program} {ops : Array Oper} {w0 : World} {Φ : Nat → Option L.SPd} {e : Nat} {Z : Act → (Nat → L.SW → Prop) → Prop} {l : List Oper} {o : Oper} {i : Nat} {A A' : Act} {F : Nat → L.SW → Prop} {d : Tmp} {v : Value} {x y : Operand}
end
end Go.Own

/-! slices of single slices: read, or own; a map whose keys are structs of two ints -/
namespace Go.Own
open Go Go.RowKit
abbrev SL := Value × List Int
/-- all are read. -/
def nsi (L : List SL) : HP where
  p w f := ∀ y ∈ L, (il .i64 y.1 y.2).p w f
  loc := fun h h1 h2 y hy => (il .i64 y.1 y.2).loc (h y hy) h1 h2
section
variable {w0 w : World} {X : Nat → Prop} {l : List HP} {L M : List SL} {k : Nat} {y : SL}
theorem nsi_ro1 (h : Ro w0 X (nsi L)) (hy : L[k]? = some y) : Ro w0 X (il .i64 y.1 y.2) := let ⟨f, h1, h2⟩ := h; ⟨f, h1 y (List.mem_of_getElem? hy), h2⟩
theorem nsi_at1 (h : (nsi L).at w) (hy : L[k]? = some y) : (il .i64 y.1 y.2).at w := let ⟨f, h1⟩ := h; ⟨f, h1 y (List.mem_of_getElem? hy)⟩
theorem nsi_app (h1 : Ro w0 X (nsi L)) (h2 : Ro w0 X (nsi M)) : Ro w0 X (nsi (L ++ M)) := by
  obtain ⟨f, p1, p2⟩ := h1
  obtain ⟨g, q1, q2⟩ := h2
  refine ⟨fun b => f b ∨ g b, fun y hy => ?_, fun b hb => hb.elim (p2 b) (q2 b)⟩
  rcases List.mem_append.1 hy with h | h
  · exact sl_mono (p1 y h) fun b => .inl
  · exact sl_mono (q1 y h) fun b => .inr
theorem nsi_one {v : Value} {xs : List Int} (h : Ro w0 X (il .i64 v xs)) : Ro w0 X (nsi [(v, xs)]) := let ⟨f, h1, h2⟩ := h; ⟨f, fun y hy => by simp at hy; subst hy; exact h1, h2⟩
theorem fst_set {L : List SL} {j : Nat} {y : SL} (hj : j < L.length) : (L.flatMap fstC).take (j * 1) ++ [y.1] ++ (L.flatMap fstC).drop (j * 1 + 1) = (L.set j y).flatMap fstC := flat_set9 (fn := fstC) fstC_len L j y hj
theorem fst_map (L : List SL) : L.flatMap fstC = L.map (·.1) := by
  induction L with
  | nil => rfl
  | cons y L ih => rw [List.flatMap_cons, ih]; rfl
end
section
variable {P : Program} {ops : Array Oper} {l' : List Oper} {o : Oper} {A : Act} {Q : Exit → Act → World → Prop} {w0 w : World} {X : Nat → Prop} {l : List HP} {cN cP cR : HP} {L : List SL} {j B Of C off : Nat} {zs : List Int} {hv v : Value} {T : TypeId} {x u : Operand}
/-- a row is stored: it takes over what it holds. -/
theorem W_stS1 (hS : St w0 X (cN :: cP :: cR :: l) w) (hN : cN = io .i64 v zs) (hP : cP = owl .i64 L) (hR : cR = ro 1 fstC hv L) (hv' : hv = .slice (some ⟨B, Of, none⟩) L.length C)
    (hd : o.dst = none) (hw : Region.wanted o (yielded ops A.tmps) = true) (ho : o.op = .store T x u) (hx : EV A x = .pointer (some ⟨B, off, none⟩)) (hz : EV A u = .agg #[v]) (h1 : v.oneCell' = true) (hoff : Of + j * 1 = off) (hj : j < L.length) (hif : (P.info? T).map (·.size) = some 1)
    (h : ∀ w' a c, a = owl .i64 (L.set j (v, zs)) → c = ro 1 fstC hv (L.set j (v, zs)) → St w0 X (a :: c :: l) w' → WX P ops Q l' A w') : WX P ops Q (o :: l') A w := by
  subst hN hP hR
  have h2 := owl_set (i := j) hj hS
  refine W_stR (s := 1) (n := L.length) (v1 := hv) (xs := L.flatMap fstC) (ys := [v]) (j := j) 1 h2 rfl rfl hv' hd hw ho hx hz (by simpa using h1) rfl hoff hj hif (fun w' c' hc' hS' => ?_)
  refine h w' _ _ rfl (hc'.trans ?_) hS'
  unfold ro
  rw [List.length_set, ← fst_set (y := (v, zs)) hj]
/-- .. its one slice alone. -/
theorem W_stS2 (hS : St w0 X (cN :: cP :: cR :: l) w) (hN : cN = io .i64 v zs) (hP : cP = owl .i64 L) (hR : cR = ro 1 fstC hv L) (hv' : hv = .slice (some ⟨B, Of, none⟩) L.length C)
    (hd : o.dst = none) (hw : Region.wanted o (yielded ops A.tmps) = true) (ho : o.op = .store T x u) (hx : EV A x = .pointer (some ⟨B, off, none⟩)) (hz : EV A u = v) (h1 : v.oneCell' = true) (hoff : Of + j * 1 = off) (hj : j < L.length) (hif : (P.info? T).map (·.size) = some 1)
    (h : ∀ w' a c, a = owl .i64 (L.set j (v, zs)) → c = ro 1 fstC hv (L.set j (v, zs)) → St w0 X (a :: c :: l) w' → WX P ops Q l' A w') : WX P ops Q (o :: l') A w := by
  subst hN hP hR
  have h2 := owl_set (i := j) hj hS
  refine W_stE (s := 1) (j := j) (n := L.length) (v1 := hv) (xs := L.flatMap fstC) 1 h2 rfl rfl hv' hd hw ho hx hz h1 (by omega) (by rw [fst_map, List.length_map]; exact hj) hif (fun w' c' hc' hS' => ?_)
  refine h w' _ _ rfl (hc'.trans ?_) hS'
  unfold ro
  rw [List.length_set, fst_map, fst_map, List.map_set]
end
section
variable {P : Program} {A : Act} {o : Oper} {x y : Operand} {w : World}
theorem V_quo {t t' : TypeId} {k : IntKind} {a b : Int} (ho : o.op = .binOp .quo t x y t') (hx : EV A x = .int k a) (hy : EV A y = .int k b) (h0 : 0 ≤ a) (hb : 0 < b) (hr : k.wrap (a / b) = a / b) : Val P A o (.int k (a / b)) := fun w => by
  unfold execOp
  have hne : b ≠ 0 := by omega
  simp [ho, hx, hy, eqGuard_at_int, binOp, Op.intDiv, hne]
  rw [Int.tdiv_eq_ediv_of_nonneg h0]
  exact hr
theorem wrap_div {a b : Int} (h0 : 0 ≤ a) (h1 : a ≤ 9223372036854775807) (hb : 0 < b) : IntKind.i64.wrap (a / b) = a / b := by
  have h2 := Int.ediv_nonneg h0 (show 0 ≤ b by omega)
  have h3 : a / b ≤ a := Int.ediv_le_self b h0
  exact wrap_i64 (by omega) (by omega)
/-- a slice of rows is made: each is zero. -/
theorem lay_mkR {t el : TypeId} {z z1 : Value} {bytes : Nat} {q q2 : Int} (m : Nat) (ho : o.op = .makeSlice t x y) (hx : EV A x = .int .i64 q) (hy : EV A y = .int .i64 q2) (hq : q = (m : Int) ∧ q2 = (m : Int))
    (ht : P.underlying t = some (.slice el)) (hi : (P.info? el).map (fun i => (i.zero, i.size, i.bytes)) = some (some z, 1, bytes)) (hb : bytes ≤ 24 ∧ m ≤ 1000000) (hz1 : z.cells = #[z1]) :
    ∃ u w', (execOp (EV A) o).run P w = .ok (.value u) w' ∧ ∃ l', (∃ v, u = v ∧ ∃ c, c = ow 1 m v (List.replicate m z1) ∧ l' = [c]) ∧ St w NoX l' w' := by
  cases hq' : P.info? el with
  | none => simp [hq'] at hi
  | some inf =>
    simp only [hq', Option.map_some, Option.some.injEq, Prod.mk.injEq] at hi
    obtain ⟨rfl, rfl⟩ := hq
    obtain ⟨w', hr, hown, hg⟩ := run_makeSlice_full (P := P) w w.heap.size t el inf z 1 ht hq' hi.1 hi.2.1 .i64 .i64 m (by omega) (by rw [hi.2.2]; have := Nat.mul_le_mul hb.1 hb.2; omega) (by unfold maxLen; omega) (Nat.le_refl _)
    refine ⟨.slice (some ⟨w.heap.size, 0, none⟩) m m, w', ?_, _, ⟨_, rfl, _, rfl, rfl⟩, (St.nil w).push (f := (· = w.heap.size)) ⟨hg.os, hg.tape, hg.output, hg.size, fun k hk => hg.block k hk (by simp)⟩ ?_ fun b e => ?_⟩
    · unfold execOp; simp [ho, hx, hy, hr]
    · obtain ⟨h0, ⟨h1, _⟩ | ⟨g, cap, cur, h1, h2, h3, h4, h5, h6, h7⟩⟩ := hown
      · cases h1
      · cases h1
        refine ow_made (f := fun q => q = w.heap.size) (xs := List.replicate m z1) (n := w.heap.size) h3 rfl (Nat.le_refl _) h5 (by rw [h6]; exact Nat.le_refl _) (by simp) fun j u hj => ?_
        have hlt := (List.getElem?_eq_some_iff.1 hj).1
        simp at hlt
        have e1 : (madeCells z.cells (m * 1)).toList[j]? = some z1 := by
          unfold madeCells; simp [hz1, hlt, Nat.mod_one]
        rw [List.getElem?_replicate, if_pos hlt] at hj
        cases hj
        rw [← h7, List.getElem?_take] at e1
        split at e1
        · simpa using e1
        · cases e1
    · subst e
      obtain ⟨h0, ⟨h1, _⟩ | ⟨g, cap, cur, h1, h2, h3, _⟩⟩ := hown
      · cases h1
      · cases h1; exact ⟨Nat.le_refl _, lt_size h3⟩
theorem fst_nils {m : Nat} {v : Value} : ow 1 m v (List.replicate m (Value.slice none 0 0)) = ro 1 fstC v (List.replicate m nilp) := by
  unfold ro; rw [fst_map, List.map_replicate, List.length_replicate]; rfl
variable {ops : Array Oper} {l : List Oper} {Q : Exit → Act → World → Prop} {w0 : World} {X : Nat → Prop} {cs : List HP} {d : Tmp}
theorem lay_mkSS {t el : TypeId} {z : Value} {bytes : Nat} {q q2 : Int} (m : Nat) (ho : o.op = .makeSlice t x y) (hx : EV A x = .int .i64 q) (hy : EV A y = .int .i64 q2) (hq : q = (m : Int) ∧ q2 = (m : Int))
    (ht : P.underlying t = some (.slice el)) (hi : (P.info? el).map (fun i => (i.zero, i.size, i.bytes)) = some (some z, 1, bytes)) (hb : bytes ≤ 24 ∧ m ≤ 1000000) (hz1 : z.cells = #[.slice none 0 0]) :
    ∃ u w', (execOp (EV A) o).run P w = .ok (.value u) w' ∧ ∃ l', (∃ v, u = v ∧ ∃ b, b = owl .i64 (List.replicate m nilp) ∧ ∃ c, c = ro 1 fstC v (List.replicate m nilp) ∧ l' = [b, c]) ∧ St w NoX l' w' := by
  obtain ⟨u, w', hr, l', ⟨g, rfl, c, hc, rfl⟩, hk⟩ := lay_mkR (P := P) (A := A) (w := w) m ho hx hy hq ht hi hb hz1
  exact ⟨u, w', hr, _, ⟨u, rfl, _, rfl, c, hc.trans fst_nils, rfl⟩, owl_nils m hk⟩
end
/-! a struct is built of values of one cell each, some of them structs -/
theorem getD_one (v : Value) : (#[v] : Array Value).getD 0 undef = v := rfl
theorem cells_agg (cs : Array Value) : (Value.agg cs).cells = cs := rfl
theorem fill_foldC (n : Nat) (place : Nat → Option (Nat × Nat)) (hpl : ∀ i, i < n → place i = some (i, 1)) : ∀ (ps : List (Nat × Value)) (cells : Array Value), cells.size = n →
    ps.all (fun p => decide (p.1 < n) && decide (p.2.cells.size = 1)) = true → Instr.fill place cells ps = some (ps.foldl (fun cs p => cs.setIfInBounds p.1 (p.2.cells.getD 0 undef)) cells)
  | [], cells, _, _ => rfl
  | (i, v) :: ps, cells, hs, h => by
    simp only [List.all_cons, Bool.and_eq_true, decide_eq_true_eq] at h
    obtain ⟨⟨h1, h2⟩, h3⟩ := h
    obtain ⟨u, hv⟩ : ∃ u, v.cells = #[u] := by
      generalize v.cells = q at h2
      obtain ⟨l⟩ := q
      match l, h2 with
      | [a], _ => exact ⟨a, rfl⟩
    simp only [Instr.fill, hpl i h1, hv, List.size_toArray, List.length_cons, List.length_nil]
    rw [if_neg (by simp; omega)]
    simp only [List.foldl_cons]
    rw [← fill_foldC n place hpl ps _ (by simpa using hs) (by simpa using h3)]
    simp [hv]
theorem V_bldC {P : Program} {A : Act} {o : Oper} {T n : Nat} {parts : Array (Nat × Operand)} {ps : List (Nat × Value)} {z : Value} {cs : Array Value} (ho : o.op = .build T parts) (hp : (parts.map fun (i, x) => (i, EV A x)).toList = ps)
    (hT : stN P T n = true) (hone : ps.all (fun p => decide (p.1 < n) && decide (p.2.cells.size = 1)) = true) (hz : (P.info? T).map (·.zero) = some (some z)) (hcs : ps.foldl (fun cs p => cs.setIfInBounds p.1 (p.2.cells.getD 0 undef)) z.cells = cs) : Val P A o (.agg cs) := by
  refine V_bld ho hp ?_
  cases hq : P.info? T with
  | none => simp [hq] at hz
  | some i =>
    have hz' : i.zero = some z := by simpa [hq] using hz
    unfold stN at hT
    cases hu : P.underlying T with
    | none => simp [hu] at hT
    | some de =>
      cases de with
      | struct fs =>
        simp only [hu, hq, hz', Bool.and_eq_true] at hT
        cases hm : fs.toList.mapM (fun f => (P.info? f.type).map fun i => (f.offset, i.size)) with
        | none => simp [hm] at hT
        | some pl =>
          simp only [hm, decide_eq_true_eq] at hT
          obtain ⟨h1, h2⟩ := hT
          unfold Program.built
          simp only [hq, hu, hz', hm]
          subst hcs h1
          exact fill_foldC n _ (fun i hi => by simp [hi]) ps _ h2 hone
      | _ => simp [hu] at hT
def cel (v : Value) (i : Nat) : Value := match v with | .agg cs => cs.getD i undef | _ => undef
/-! a map whose keys are structs of two ints, its values ints -/
def pkV (p : Int × Int) : Value := .agg #[.int .i64 p.1, .int .i64 p.2]
abbrev WE := (Int × Int) × Int
def wix (m : List WE) (q : Int × Int) : Nat := m.findIdx fun p => p.1 == q
def wset (m : List WE) (q : Int × Int) (u : Int) : List WE := if wix m q < m.length then m.set (wix m q) (q, u) else m ++ [(q, u)]
def wget (m : List WE) (q : Int × Int) : Int := ((m.find? fun p => p.1 == q).map (·.2)).getD 0
def encW (m : List WE) : List (Value × Value) := m.map fun p => (pkV p.1, .int .i64 p.2)
def mw (v : Value) (m : List WE) : HP where
  p := fun w f => ∃ g es clock, v = .map (some g) ∧ f g ∧ w.heap[g]? = some (.map es clock) ∧ es.toList.map (fun e => (e.key, e.val)) = encW m
  loc := fun ⟨g, es, clock, h1, h2, h3, h4⟩ _ hb => ⟨g, es, clock, h1, h2, (hb g h2).trans h3, h4⟩
section
variable {P : Program} {w : World}
theorem run_eqK {t : TypeId} (h : stI P t 2 = true) (p q : Int × Int) : (Op.equal t (pkV p) (pkV q)).run P w = .ok (decide (p = q)) w := by
  obtain ⟨h1, _⟩ := run_eqSt (w := w) (xs := #[.int .i64 p.1, .int .i64 p.2]) (ys := #[.int .i64 q.1, .int .i64 q.2]) h [(.i64, p.1, q.1), (.i64, p.2, q.2)] rfl (fun j p hp => by match j, hp with | 0, hp => cases hp; exact ⟨rfl, rfl⟩ | 1, hp => cases hp; exact ⟨rfl, rfl⟩)
  show (Op.equalIn 10000 t (pkV p) (pkV q)).run P w = _
  unfold pkV
  rw [h1]
  congr 1
  obtain ⟨a, b⟩ := p
  obtain ⟨c, d⟩ := q
  by_cases e1 : a = c <;> by_cases e2 : b = d <;> simp [List.all, e1, e2]
theorem stI_fs {t : TypeId} (h : stI P t 2 = true) : ∃ f0 f1 : Field, P.underlying t = some (.struct #[f0, f1]) ∧ f0.name ≠ "_" ∧ f1.name ≠ "_" ∧ f0.offset = 0 ∧ f1.offset = 1 ∧ (∃ k, P.underlying f0.type = some (.int k)) ∧ ∃ k, P.underlying f1.type = some (.int k) := by
  unfold stI at h
  simp only [Bool.and_eq_true, Bool.not_eq_true'] at h
  obtain ⟨⟨h1, h2⟩, h3⟩ := h
  split at h1
  · rename_i fs hu
    simp only [Bool.and_eq_true, beq_iff_eq, List.all_eq_true, List.mem_range] at h1
    obtain ⟨hs, ha⟩ := h1
    have g : ∀ j, (hj : j < 2) → ∃ f, fs[j]? = some f ∧ f.name ≠ "_" ∧ f.offset = j ∧ ∃ k, P.underlying f.type = some (.int k) := fun j hj => by
      have := ha j hj
      have hf := Array.getElem?_eq_getElem (xs := fs) (i := j) (by omega)
      rw [hf] at this
      simp only [Bool.and_eq_true, bne_iff_ne, beq_iff_eq] at this
      obtain ⟨⟨a, b⟩, c⟩ := this
      refine ⟨_, hf, a, b, ?_⟩
      split at c
      · exact ⟨_, by assumption⟩
      · cases c
    obtain ⟨f0, a0, a1, a2, a3⟩ := g 0 (by omega)
    obtain ⟨f1, b0, b1, b2, b3⟩ := g 1 (by omega)
    refine ⟨f0, f1, ?_, a1, b1, a2, b2, a3, b3⟩
    rw [hu]
    congr 2
    apply Array.ext_getElem?
    intro i
    match i with
    | 0 => rw [a0]; rfl
    | 1 => rw [b0]; rfl
    | i + 2 => rw [Array.getElem?_eq_none (by omega), Array.getElem?_eq_none (by simp)]
  · cases h1
theorem checkKey_W {t : TypeId} (h : stI P t 2 = true) (em : Bool) (q : Int × Int) : (Instr.checkKey em 10000 t (pkV q)).run P w = .ok () w := by
  obtain ⟨f0, f1, hu, n0, n1, o0, o1, ⟨k0, t0⟩, ⟨k1, t1⟩⟩ := stI_fs h
  have e0 : (Instr.checkKey em 9999 f0.type (.int .i64 q.1)).run P w = .ok () w := by
    show (Instr.checkKey em (9998 + 1) f0.type (.int .i64 q.1)).run P w = .ok () w
    unfold Instr.checkKey
    rw [Sem.run_bind, run_underlying t0 w]; rfl
  have e1 : (Instr.checkKey em 9999 f1.type (.int .i64 q.2)).run P w = .ok () w := by
    show (Instr.checkKey em (9998 + 1) f1.type (.int .i64 q.2)).run P w = .ok () w
    unfold Instr.checkKey
    rw [Sem.run_bind, run_underlying t1 w]; rfl
  show (Instr.checkKey em (9999 + 1) t (pkV q)).run P w = .ok () w
  unfold Instr.checkKey pkV
  simp only [Sem.run_bind, run_underlying hu, Result.andThen_ok]
  rw [← Array.forIn_toList]
  simp [n0, n1, run_part_int t0 (show (#[Value.int .i64 q.1, .int .i64 q.2])[f0.offset]? = some _ by rw [o0]; rfl), run_part_int t1 (show (#[Value.int .i64 q.1, .int .i64 q.2])[f1.offset]? = some _ by rw [o1]; rfl), e0, e1]
theorem findA_W {t : TypeId} (h : stI P t 2 = true) (q : Int × Int) : ∀ (es : List MapEntry) (m : List WE) (i : Nat), es.map (fun e => (e.key, e.val)) = encW m →
    (Instr.findAsking t (pkV q) es i).run P w = .ok ((m.find? fun p => p.1 == q).map fun p => (i + wix m q, .int .i64 p.2)) w
  | [], m, i, hm => by
    have : m = [] := by unfold encW at hm; simpa using hm.symm
    subst this; simp [Instr.findAsking]
  | e :: es, [], i, hm => by simp [encW] at hm
  | e :: es, p :: m, i, hm => by
    simp only [encW, List.map_cons, List.cons.injEq, Prod.mk.injEq] at hm
    obtain ⟨⟨h1, h2⟩, h3⟩ := hm
    unfold Instr.findAsking
    rw [Sem.run_bind, h1, run_eqK h]
    simp only [Result.andThen_ok]
    by_cases e : q = p.1
    · subst e
      simp [List.find?_cons, wix, List.findIdx_cons, h2]
    · have e' : (p.1 == q) = false := by simpa using Ne.symm e
      have ih := findA_W h q es m (i + 1) h3
      simp only [e, decide_false, Bool.false_eq_true, if_false, ih, List.find?_cons, e', wix, List.findIdx_cons, cond_false]
      congr 2
      funext p
      rw [show i + 1 + List.findIdx (fun p => p.1 == q) m = i + (List.findIdx (fun p => p.1 == q) m + 1) by omega]
theorem findK_W {t : TypeId} (h : stI P t 2 = true) (q : Int × Int) {es : List MapEntry} {m : List WE} (hm : es.map (fun e => (e.key, e.val)) = encW m) :
    (Instr.findKey t (pkV q) es).run P w = .ok ((m.find? fun p => p.1 == q).map fun p => (wix m q, .int .i64 p.2)) w := by
  have ha := findA_W (w := w) h q es m 0 hm
  simp only [Nat.zero_add] at ha
  rw [← ha]
  obtain ⟨f0, f1, hu, _⟩ := stI_fs h
  cases es with
  | nil => simp [Instr.findKey, run_underlying hu, Instr.findNow, Instr.findAsking]
  | cons e es => simp [Instr.findKey, run_underlying hu, Instr.findNow, Instr.sameNow]
theorem keyStays_W (q : Int × Int) : Instr.keyThatStays (pkV q) (pkV q) = (pure (pkV q) : Sem Value) := by
  have : Instr.sameBits 10000 (pkV q) (pkV q) = true := by
    show Instr.sameBits (9999 + 1) (pkV q) (pkV q) = true
    unfold pkV Instr.sameBits
    simp [Instr.sameBits]
  unfold Instr.keyThatStays
  rw [if_pos this]
theorem enc_modW {q : Int × Int} {u : Int} : ∀ {es : List MapEntry} {m : List WE} {n : Nat}, es.map (fun e => (e.key, e.val)) = encW m →
    (es.modify n fun e => { e with key := pkV q, val := .int .i64 u }).map (fun e => (e.key, e.val)) = encW (m.set n (q, u)) := by
  intro es
  induction es with
  | nil => intro m n h; cases m with
    | nil => simp [encW]
    | cons p m => simp [encW] at h
  | cons e es ih =>
    intro m n h
    cases m with
    | nil => simp [encW] at h
    | cons p m =>
      simp only [encW, List.map_cons, List.cons.injEq] at h
      cases n with
      | zero => simp only [List.modify_zero_cons, List.map_cons, List.set_cons_zero, encW]; rw [h.2]
      | succ n =>
        have h1 := ih (n := n) h.2
        simp only [List.modify_succ_cons, List.map_cons, List.set_cons_succ, encW]
        rw [h1, h.1]; rfl
variable {ops : Array Oper} {l : List Oper} {o : Oper} {A : Act} {Q : Exit → Act → World → Prop} {w0 : World} {X : Nat → Prop} {cs : List HP} {c : HP} {d : Tmp} {x y z : Operand}
theorem W_mkMapW {t : TypeId} (hS : St w0 X cs w) (hd : o.dst = some d) (hw : Region.wanted o (yielded ops A.tmps) = true) (ho : o.op = .makeMap t none)
    (h : ∀ g w' c, c = mw (.map (some g)) [] → St w0 X (c :: cs) w' → WX P ops Q l (PT A d (.map (some g))) w') : WX P ops Q (o :: l) A w := by
  refine W_val (w' := w.alloc (.map #[] 0)) hd hw ?_ (h w.heap.size _ _ rfl (hS.push (Ext.alloc _ _) (f := (· = w.heap.size)) ⟨_, #[], 0, rfl, rfl, heap_alloc_new _ _, rfl⟩ fun b e => ?_))
  · unfold execOp; simp [ho, Instr.makeMap]
  · subst e; exact ⟨Nat.le_refl _, lt_size (heap_alloc_new w _)⟩
theorem VR_lookW {t kt et : TypeId} {mv : Value} {m : List WE} {q : Int × Int} (ho : o.op = .lookup t x y false) (hx : EV A x = mv) (hy : EV A y = pkV q) (hm : (mw mv m).at w)
    (ht : P.underlying t = some (.map kt et)) (hk : stI P kt 2 = true) (hz : (P.info? et).map (·.zero) = some (some (.int .i64 0))) : ValW P A o w (.int .i64 (wget m q)) := by
  have hzr : (zeroValue et).run P w = .ok (.int .i64 0) w := by
    cases hi : P.info? et with
    | none => simp [hi] at hz
    | some i => have hz' : i.zero = some (.int .i64 0) := by simpa [hi] using hz
                simp [zeroValue, typeInfo, hi, hz']
  unfold ValW execOp
  obtain ⟨f, g, es, clock, h1, h2, h3, h4⟩ := hm
  subst h1
  have hf := findK_W (w := w) hk q h4
  unfold wget
  cases hq : m.find? fun p => p.1 == q with
  | none => rw [hq] at hf; simp [ho, hx, hy, Instr.lookup, run_underlying ht w, checkKey_W hk, hf, hzr, run_getObj_m h3]
  | some r => rw [hq] at hf; simp [ho, hx, hy, Instr.lookup, run_underlying ht w, checkKey_W hk, hf, run_getObj_m h3]
theorem W_mapSetW {t kt et : TypeId} {mv : Value} {m : List WE} {q : Int × Int} {u : Int} {g : Nat} (i : Nat) (hS : St w0 X cs w) (hi : cs[i]? = some c) (hc : c = mw mv m) (hv : mv = .map (some g)) (hd : o.dst = none) (hw : Region.wanted o (yielded ops A.tmps) = true)
    (ho : o.op = .mapUpdate t x y z) (hx : EV A x = mv) (hy : EV A y = pkV q) (hu : EV A z = .int .i64 u) (ht : P.underlying t = some (.map kt et)) (hk : stI P kt 2 = true)
    (h : ∀ w' c', c' = mw mv (wset m q u) → St w0 X (cs.set i c') w' → WX P ops Q l A w') : WX P ops Q (o :: l) A w := by
  subst hc
  obtain ⟨f, q1, q2, q3⟩ := hS.upd i hi
  obtain ⟨g', es, clock, h1, h2, h3, h4⟩ := q1
  rw [hv] at h1
  simp only [Value.map.injEq, Option.some.injEq] at h1
  subst h1
  have hf := findK_W (w := w) hk q h4
  cases hq : m.find? fun p => p.1 == q with
  | none =>
    have hni : ¬ wix m q < m.length := fun hl => by
      obtain ⟨p, hp, hpq⟩ := List.findIdx_lt_length.1 hl
      exact absurd hpq (by simpa using List.find?_eq_none.1 hq p hp)
    rw [hq] at hf
    refine W_nov (w' := w.putObj g (.map (es.push { key := pkV q, val := .int .i64 u, born := clock }) (clock + 1))) hd hw ?_ (h _ _ rfl (q3 _ _ f (⟨rfl, rfl, rfl, by simp, fun k _ hk => World.putObj_heap_other fun e => hk (by rw [e]; exact h2)⟩) ⟨g, _, _, hv, h2, World.putObj_heap_same (q2 _ h2), ?_⟩ fun b hb => .inl hb))
    · unfold execOp
      simp [ho, hx, hy, hu, hv, Instr.mapUpdate, run_underlying ht w, checkKey_W hk, hf, run_getObj_m h3, run_setObj_m _ h3]
    · unfold wset
      rw [if_neg hni, Array.toList_push, List.map_append, h4]
      simp [encW]
  | some r =>
    have hlt : wix m q < m.length := List.findIdx_lt_length.2 ⟨r, List.mem_of_find?_eq_some hq, by have := List.find?_some hq; simpa using this⟩
    rw [hq] at hf
    have hke : ((es[wix m q]?).map fun e => e.key).getD (pkV q) = pkV q := by
      have e1 : (es.toList.map fun e => (e.key, e.val))[wix m q]? = (encW m)[wix m q]? := by rw [h4]
      have e2 := List.getElem?_eq_getElem hlt
      have e3 : m[wix m q].1 = q := by
        have e4 := List.findIdx_getElem (w := hlt)
        simp only [beq_iff_eq] at e4
        exact e4
      unfold encW at e1
      rw [List.getElem?_map, List.getElem?_map, e2, Array.getElem?_toList] at e1
      cases he : es[wix m q]? with
      | none => rfl
      | some e =>
        rw [he] at e1
        simp only [Option.map_some, Option.some.injEq, Prod.mk.injEq] at e1
        show e.key = pkV q
        rw [e1.1, e3]
    refine W_nov (w' := w.putObj g (.map (es.modify (wix m q) fun e => { e with key := pkV q, val := .int .i64 u }) clock)) hd hw ?_ (h _ _ rfl (q3 _ _ f (⟨rfl, rfl, rfl, by simp, fun k _ hk => World.putObj_heap_other fun e => hk (by rw [e]; exact h2)⟩) ⟨g, _, _, hv, h2, World.putObj_heap_same (q2 _ h2), ?_⟩ fun b hb => .inl hb))
    · unfold execOp
      simp [ho, hx, hy, hu, hv, Instr.mapUpdate, run_underlying ht w, checkKey_W hk, hf, run_getObj_m h3, hke, keyStays_W, run_setObj_m _ h3]
    · unfold wset
      rw [if_pos hlt, Array.toList_modify]
      exact enc_modW h4
end
/-! a loop, round by round -/
section
variable {P : Program} {Q : Exit → Act → World → Prop} {c : Code} {A : Act} {w : World} {r : Option Nat}
structure LW (P : Program) (c : Code) (Q : Exit → Act → World → Prop) (A : Act) (w : World) : Prop where
  out : ∀ (b : Frame) (k : List Item) (cs : List Frame), ∃ e a' w', Q e a' w' ∧ Arrives P (lone (b.at A (.code c :: .inLoop c :: k)) cs w) b k cs e a' w'
theorem loopL (h : LW P c Q A w) : (Code.loop c).wp P Q A w := by
  intro b k cs
  obtain ⟨e, a', w', hq, harr⟩ := h.out b k cs
  exact ⟨e, a', w', hq, .of_steps (.one step_loop) harr⟩
theorem LW_step (h : c.wp P (Exit.then (fun A' w' => LW P c Q A' w') Q) A w) : LW P c Q A w := ⟨by
  intro b k cs
  obtain ⟨e, a₁, w₁, hq, harr⟩ := h b (.inLoop c :: k) cs
  cases e with
  | normal =>
    obtain ⟨e₂, a₂, w₂, hq₂, harr₂⟩ := LW.out hq b k cs
    exact ⟨e₂, a₂, w₂, hq₂, .of_steps (Steps.trans harr (.one step_inLoop)) harr₂⟩
  | exit id => exact ⟨_, a₁, w₁, hq, .pass (x := .inLoop c) rfl (fun _ _ => .inl (by simp)) harr⟩
  | goto l => exact ⟨_, a₁, w₁, hq, .pass (x := .inLoop c) rfl (fun _ _ => .inl (by simp)) harr⟩
  | ret => exact ⟨_, a₁, w₁, hq, .pass (x := .inLoop c) rfl (fun _ _ => .inl (by simp)) harr⟩
  | panic ch => exact ⟨_, a₁, w₁, hq, .pass (x := .inLoop c) rfl (fun _ _ => .inl (by simp)) harr⟩
  | outgrown => exact ⟨_, a₁, w₁, hq, .pass (x := .inLoop c) rfl (fun _ _ => .inl (by simp)) harr⟩⟩
end
end Go.Own
