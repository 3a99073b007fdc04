import Derived.Test.YtnfgeekaeegolaaSepB
import Derived.Maps.RangeRun
import Derived.Test.YtnfgeekaeegolaaSepO
import Derived.Test.YtnfgeekaeegolaaPl9c
/-! maps as they lie: opened to their entries; a range over one; an entry that is there is written -/
namespace Go.Own
open Go
/-- the entries of a map that lie so. -/
structure MapOk (k : IntKind) (es : Array MapEntry) (clock : Nat) (m : List (Int × Value)) : Prop where
  enc : es.toList.map (fun e => (e.key, e.val)) = encM k m
  nd : (es.toList.map fun e : MapEntry => e.born).Nodup
  lt : ∀ e ∈ es.toList, e.born < clock
section
variable {w0 w : World} {X : Nat → Prop} {l cs : List HP} {k : IntKind} {m : List (Int × Value)} {c : HP} {v : Value} {g : Nat}
end
/-- what is left to a range. -/
def Lf (k : IntKind) (es : Array MapEntry) (seen : Array Nat) (L : List (Int × Value)) : Prop := (leftOf es seen).toList.map (fun e => (e.key, e.val)) = encM k L
/-- an iterator over a map that lies at g, with what is left, and the entry that came last. -/
def mitP (k : IntKind) (r g : Nat) (es : Array MapEntry) (clock : Nat) (cur : Option (Int × Value)) (L : List (Int × Value)) (w : World) (f : Nat → Prop) : Prop :=
  ∃ seen : Array Nat, f r ∧ w.heap[r]? = some (.mapIter (some g) clock seen clock) ∧ Lf k es seen L ∧ ∀ q u, cur = some (q, u) → ∃ (s : Array Nat) (e : MapEntry), seen = s.push e.born ∧ e ∈ es.toList ∧ e.key = .int k q ∧ e.val = u
def mit (k : IntKind) (r g : Nat) (es : Array MapEntry) (clock : Nat) (cur : Option (Int × Value)) (L : List (Int × Value)) : HP where
  p := mitP k r g es clock cur L
  loc := fun ⟨seen, h1, h2, h3⟩ _ hb => ⟨seen, h1, (hb r h1).trans h2, h3⟩
theorem mem_enc {k : IntKind} {m : List (Int × Value)} : ∀ {es : List MapEntry}, es.map (fun e => (e.key, e.val)) = encM k m → ∀ {i : Nat} {e : MapEntry}, es[i]? = some e → ∃ q u, m[i]? = some (q, u) ∧ e.key = .int k q ∧ e.val = u := by
  intro es h i e he
  have := congrArg (fun l => l[i]?) h
  simp only [List.getElem?_map, he, encM, Option.map_some] at this
  cases hm : m[i]? with
  | none => rw [hm] at this; cases this
  | some p =>
    rw [hm] at this
    simp only [Option.map_some, Option.some.injEq, Prod.mk.injEq] at this
    exact ⟨p.1, p.2, rfl, this.1, this.2⟩
theorem map_erase {α β : Type} (f : α → β) : ∀ (l : List α) (i : Nat), (l.eraseIdx i).map f = (l.map f).eraseIdx i
  | [], i => rfl
  | a :: l, 0 => rfl
  | a :: l, i + 1 => by simp [map_erase f l i]
theorem leftOf_push {es : Array MapEntry} {seen : Array Nat} (hn : (es.toList.map fun e : MapEntry => e.born).Nodup) {e : MapEntry} {i : Nat} (he : (leftOf es seen).toList[i]? = some e) : (leftOf es (seen.push e.born)).toList = (leftOf es seen).toList.eraseIdx i := by
  unfold leftOf at *
  simp only [Array.toList_filter] at *
  have h1 : es.toList.filter (fun x => !(seen.push e.born).contains x.born) = (es.toList.filter fun x => !seen.contains x.born).filter fun x => x.born != e.born := by
    rw [List.filter_filter]
    refine List.filter_congr fun x _ => ?_
    rw [Array.contains_push]
    cases h : (x.born == e.born) <;> simp [bne, h]
  rw [h1]
  have hn2 : ((es.toList.filter fun x => !seen.contains x.born).map (·.born)).Nodup := hn.sublist ((List.filter_sublist).map _)
  generalize es.toList.filter (fun x => !seen.contains x.born) = L at he hn2
  clear h1 hn
  induction L generalizing i with
  | nil => simp at he
  | cons a L ih =>
    simp only [List.map_cons, List.nodup_cons] at hn2
    cases i with
    | zero =>
      simp at he; subst he
      rw [List.eraseIdx_cons_zero, List.filter_cons]
      simp only [bne_self_eq_false, Bool.false_eq_true, if_false]
      refine List.filter_eq_self.2 fun x hx => ?_
      have : x.born ≠ a.born := fun e => hn2.1 (by rw [← e]; exact List.mem_map.2 ⟨x, hx, rfl⟩)
      simpa using this
    | succ i =>
      have he' : L[i]? = some e := by simpa using he
      have hne : a.born ≠ e.born := fun q => hn2.1 (by rw [q]; exact List.mem_map.2 ⟨e, List.mem_of_getElem? he', rfl⟩)
      rw [List.eraseIdx_cons_succ, List.filter_cons, ← ih he' hn2.2]
      simp [hne]
section
variable {P : Program} {ops : Array Oper} {l : List Oper} {o : Oper} {A : Act} {Q : Exit → Act → World → Prop} {w w0 : World} {X : Nat → Prop} {cs : List HP} {c : HP} {d : Tmp} {x y z : Operand}
theorem setBlock_put {w : World} {r : Nat} {o : Obj} : ChangeMaps.setBlock w r o = w.putObj r o := rfl
end
end Go.Own

/-! maps that are read, ranged over and written: nil or not; an entry that is there is written anew; a map of slices -/
namespace Go.Own
open Go
def kix {α : Type} (m : List (Int × α)) (q : Int) : Nat := m.findIdx fun p => p.1 == q
/-- m[q] = u. -/
def kset {α : Type} (m : List (Int × α)) (q : Int) (u : α) : List (Int × α) := if kix m q < m.length then m.set (kix m q) (q, u) else m ++ [(q, u)]
def kmap {α β : Type} (f : α → β) (m : List (Int × α)) : List (Int × β) := m.map fun p => (p.1, f p.2)
theorem kix_map {α β : Type} (f : α → β) (m : List (Int × α)) (q : Int) : kix (kmap f m) q = kix m q := by
  unfold kix kmap; rw [List.findIdx_map]; rfl
theorem kset_map {α β : Type} (f : α → β) (m : List (Int × α)) (q : Int) (u : α) : kmap f (kset m q u) = kset (kmap f m) q (f u) := by
  unfold kset; rw [kix_map]
  unfold kmap; rw [List.length_map]
  split
  · rw [List.map_set]
  · rw [List.map_append]; rfl
def kget {α : Type} (m : List (Int × α)) (q : Int) : Option α := (m.find? fun p => p.1 == q).map (·.2)
theorem kget_map {α β : Type} (f : α → β) (m : List (Int × α)) (q : Int) : kget (kmap f m) q = (kget m q).map f := by
  unfold kget kmap
  induction m with
  | nil => rfl
  | cons p m ih => by_cases h : p.1 = q <;> simp [List.find?_cons, h] at ih ⊢ <;> exact ih
theorem mget_kget (m : List (Int × Value)) (q : Int) : mget m q = kget m q := rfl
theorem kget_ix {α : Type} {m : List (Int × α)} {q : Int} {y : α} (h : kget m q = some y) : kix m q < m.length ∧ m[kix m q]? = some (q, y) := by
  unfold kget kix at *
  induction m with
  | nil => cases h
  | cons p m ih =>
    rw [List.findIdx_cons]
    by_cases e : p.1 = q
    · subst e
      simp [List.find?_cons] at h
      simp only [beq_self_eq_true, cond_true, List.length_cons]
      refine ⟨by omega, ?_⟩
      rw [← h]; rfl
    · have e' : (p.1 == q) = false := by simpa using e
      rw [List.find?_cons, e'] at h
      obtain ⟨h1, h2⟩ := ih h
      rw [e']
      simp only [cond_false, List.length_cons]
      exact ⟨by omega, by simpa using h2⟩
theorem kget_none {α : Type} {m : List (Int × α)} {q : Int} (h : kget m q = none) : ¬ kix m q < m.length := by
  unfold kget kix at *
  intro hl
  have := List.findIdx_lt_length.1 hl
  obtain ⟨x, hx, hq⟩ := this
  cases hf : m.find? fun p => p.1 == q with
  | none => exact absurd hq (by simpa using List.find?_eq_none.1 hf x hx)
  | some y => rw [hf] at h; cases h
theorem enc_modify {k : IntKind} {q : Int} {u : Value} : ∀ {es : List MapEntry} {m : List (Int × Value)} {n : Nat}, es.map (fun e => (e.key, e.val)) = encM k m →
    (es.modify n fun e => { e with key := .int k q, val := u }).map (fun e => (e.key, e.val)) = encM k (m.set n (q, u)) ∧ (es.modify n fun e => { e with key := .int k q, val := u }).map (fun e : MapEntry => e.born) = es.map fun e : MapEntry => e.born := by
  intro es
  induction es with
  | nil => intro m n h; cases m with
    | nil => simp [encM]
    | cons p m => simp [encM] at h
  | cons e es ih =>
    intro m n h
    cases m with
    | nil => simp [encM] at h
    | cons p m =>
      simp only [encM, List.map_cons, List.cons.injEq] at h
      cases n with
      | zero => simp only [List.modify_zero_cons, List.map_cons, List.set_cons_zero, encM]; exact ⟨by rw [h.2], trivial⟩
      | succ n =>
        obtain ⟨h1, h2⟩ := ih (n := n) h.2
        simp only [List.modify_succ_cons, List.map_cons, List.set_cons_succ, encM]
        exact ⟨by rw [h1, h.1]; rfl, by rw [h2]⟩
section
variable {P : Program} {ops : Array Oper} {l : List Oper} {o : Oper} {A : Act} {Q : Exit → Act → World → Prop} {w w0 : World} {X : Nat → Prop} {cs : List HP} {c : HP} {d : Tmp} {x y z : Operand}
theorem sameKey (k : IntKind) (q : Int) : Instr.keyThatStays (.int k q) (.int k q) = (pure (.int k q) : Sem Value) := by
  unfold Instr.keyThatStays Instr.sameBits; simp
/-- m[q] = u, whatever is there. -/
theorem W_mapSet {t kt et : TypeId} {k k' : IntKind} {mv u : Value} {m : List (Int × Value)} {q : Int} {g : Nat} (i : Nat) (hS : St w0 X cs w) (hi : cs[i]? = some c) (hc : c = mo k mv m) (hv : mv = .map (some g)) (hd : o.dst = none) (hw : Region.wanted o (yielded ops A.tmps) = true)
    (ho : o.op = .mapUpdate t x y z) (hx : EV A x = mv) (hy : EV A y = .int k q) (hu : EV A z = u) (ht : P.underlying t = some (.map kt et)) (hk : P.underlying kt = some (.int k'))
    (h : ∀ w' c', c' = mo k mv (kset m q u) → St w0 X (cs.set i c') w' → WX P ops Q l A w') : WX P ops Q (o :: l) A w := by
  cases hn : mget m q with
  | none =>
    refine W_mapNew i hS hi hc hv hd hw ho hx hy hu ht hk hn fun w' c' hc' => h w' c' (hc'.trans ?_)
    unfold kset; rw [if_neg (kget_none hn)]
  | some u0 =>
    subst hc
    obtain ⟨hlt, hat⟩ := kget_ix hn
    obtain ⟨f, q1, q2, q3⟩ := hS.upd i hi
    rcases q1 with ⟨h1, _⟩ | ⟨g', es, clock, h1, h2, h3, h4, h5, h6⟩
    · rw [hv] at h1; cases h1
    · rw [hv] at h1
      simp only [Value.map.injEq, Option.some.injEq] at h1
      subst h1
      obtain ⟨r, g1, g2, g3⟩ := findNow_enc ⟨k', rfl⟩ q es.toList m 0 h4
      cases r with
      | none => rw [hn] at g2; cases g2
      | some r =>
        obtain ⟨j, u1⟩ := r
        obtain ⟨n, hj, e, he, hek, hall, p, hp, hpq⟩ := g3 j u1 rfl
        have hjn : j = n := by omega
        subst hjn
        have hix : kix m q = j := by
          unfold kix
          refine (List.findIdx_eq (List.getElem?_eq_some_iff.1 hp).1).2 ⟨?_, fun n' hn' => ?_⟩
          · rw [(List.getElem?_eq_some_iff.1 hp).2]; simpa using hpq
          · have hl' : n' < m.length := by have := (List.getElem?_eq_some_iff.1 hp).1; omega
            have := hall n' hn' _ (List.getElem?_eq_getElem hl')
            simpa using this
        have hke : ((es[j]?).map fun e => e.key).getD (Value.int k q) = .int k q := by
          have : es[j]? = some e := by rw [← Array.getElem?_toList]; exact he
          rw [this]; exact hek
        obtain ⟨m1, m2⟩ := enc_modify (k := k) (q := q) (u := u) (n := j) h4
        have hks : kset m q u = m.set j (q, u) := by unfold kset; rw [if_pos hlt, hix]
        refine W_nov (w' := w.putObj g (.map (es.modify j fun e => { e with key := .int k q, val := u }) clock)) hd hw ?_ (h _ _ rfl (q3 _ _ f (⟨rfl, rfl, rfl, by simp, fun k _ hk => World.putObj_heap_other fun e => hk (by rw [e]; exact h2)⟩) (.inr ⟨g, _, _, hv, h2, World.putObj_heap_same (q2 _ h2), ?_⟩) fun b hb => .inl hb))
        · unfold execOp
          simp [ho, hx, hy, hu, hv, Instr.mapUpdate, run_underlying ht w, checkKey_int _ _ _ hk, Instr.findKey, run_underlying hk w, g1, run_getObj_m h3, hke, sameKey, run_setObj_m _ h3]
        · rw [hks, Array.toList_modify]
          refine ⟨m1, by rw [m2]; exact h5, fun e he => ?_⟩
          have : e.born ∈ (es.toList.modify j fun e => { e with key := .int k q, val := u }).map fun e : MapEntry => e.born := List.mem_map.2 ⟨e, he, rfl⟩
          rw [m2] at this
          obtain ⟨e', he', hb⟩ := List.mem_map.1 this
          rw [← hb]; exact h6 e' he'
/-- m[q] alone. -/
theorem VR_look0 {t kt et : TypeId} {k k' : IntKind} {mv : Value} {m : List (Int × Value)} {q : Int} {zr : Value} (ho : o.op = .lookup t x y false) (hx : EV A x = mv) (hy : EV A y = .int k q) (hm : (mo k mv m).at w)
    (ht : P.underlying t = some (.map kt et)) (hk : P.underlying kt = some (.int k')) (hz : (P.info? et).map (·.zero) = some (some zr)) :
    ValW P A o w ((mget m q).getD zr) := by
  have hzr : (zeroValue et).run P w = .ok zr w := by
    cases hi : P.info? et with
    | none => simp [hi] at hz
    | some i => have hz' : i.zero = some zr := by simpa [hi] using hz
                simp [zeroValue, typeInfo, hi, hz']
  unfold ValW execOp
  obtain ⟨f, h | ⟨g, es, clock, h1, h2, h3, h4, _⟩⟩ := hm
  · obtain ⟨rfl, rfl⟩ := h
    simp [ho, hx, hy, Instr.lookup, run_underlying ht w, checkKey_int _ _ _ hk, Instr.findKey, run_underlying hk w, Instr.findNow, hzr, mget]
  · subst h1
    obtain ⟨r, g1, g2, _⟩ := findNow_enc ⟨k', rfl⟩ q es.toList m 0 h4
    cases r with
    | none => simp [ho, hx, hy, Instr.lookup, run_underlying ht w, checkKey_int _ _ _ hk, Instr.findKey, run_underlying hk w, g1, hzr, ← g2, run_getObj_m h3]
    | some r => simp [ho, hx, hy, Instr.lookup, run_underlying ht w, checkKey_int _ _ _ hk, Instr.findKey, run_underlying hk w, g1, ← g2, run_getObj_m h3]
end
/-! a range over a map, nil or not -/
/-- a map as it lies. -/
def mop (k : IntKind) (v : Value) (es : Array MapEntry) (clock : Nat) (m : List (Int × Value)) : HP where
  p := fun w f => (v = .map none ∧ m = [] ∧ es = #[]) ∨ ∃ g, v = .map (some g) ∧ f g ∧ w.heap[g]? = some (.map es clock) ∧ MapOk k es clock m
  loc := fun h _ hb => h.elim (fun h => .inl h) fun ⟨g, h1, h2, h3, h4⟩ => .inr ⟨g, h1, h2, (hb g h2).trans h3, h4⟩
theorem mop_of {k : IntKind} {v : Value} {m : List (Int × Value)} {w : World} {f : Nat → Prop} (h : (mo k v m).p w f) : ∃ es clock, (mop k v es clock m).p w f := by
  rcases h with h | ⟨g, es, clock, h1, h2, h3, h4, h5, h6⟩
  · exact ⟨#[], 0, .inl ⟨h.1, h.2, rfl⟩⟩
  · exact ⟨es, clock, .inr ⟨g, h1, h2, h3, h4, h5, h6⟩⟩
theorem Ro_mop {k : IntKind} {v : Value} {m : List (Int × Value)} {w : World} {X : Nat → Prop} (h : Ro w X (mo k v m)) : ∃ es clock, Ro w X (mop k v es clock m) := by
  obtain ⟨f, h1, h2⟩ := h
  obtain ⟨es, clock, h3⟩ := mop_of h1
  exact ⟨es, clock, f, h3, h2⟩
theorem St.mop {k : IntKind} {v : Value} {m : List (Int × Value)} {w0 w : World} {X : Nat → Prop} {cs : List HP} {c : HP} (i : Nat) (h : St w0 X cs w) (hi : cs[i]? = some c) (hc : c = mo k v m) : ∃ es clock, St w0 X (cs.set i (Go.Own.mop k v es clock m)) w := by
  subst hc
  obtain ⟨f, q1, q2, q3⟩ := h.upd i hi
  obtain ⟨es, clock, h3⟩ := mop_of q1
  exact ⟨es, clock, q3 w _ f (ExtX.rfl' _ _) h3 fun b hb => .inl hb⟩
theorem mop_cells {k : IntKind} {v : Value} {m : List (Int × Value)} {w : World} {es : Array MapEntry} {clock : Nat} (h : (mop k v es clock m).at w) : v.cells = #[v] := by
  obtain ⟨f, ⟨rfl, _⟩ | ⟨g, rfl, _⟩⟩ := h <;> rfl
def mivP (k : IntKind) (r : Nat) (v : Value) (es : Array MapEntry) (clock : Nat) (cur : Option (Int × Value)) (L : List (Int × Value)) (w : World) (f : Nat → Prop) : Prop :=
  f r ∧ ((v = .map none ∧ L = [] ∧ cur = none ∧ w.heap[r]? = some (.mapIter none 0 #[] 0)) ∨ ∃ (g : Nat) (seen : Array Nat), v = .map (some g) ∧ w.heap[r]? = some (.mapIter (some g) clock seen clock) ∧ Lf k es seen L ∧
    ∀ q u, cur = some (q, u) → ∃ (s : Array Nat) (e : MapEntry), seen = s.push e.born ∧ e ∈ es.toList ∧ e.key = .int k q ∧ e.val = u)
/-- an iterator over the map v. -/
def miv (k : IntKind) (r : Nat) (v : Value) (es : Array MapEntry) (clock : Nat) (cur : Option (Int × Value)) (L : List (Int × Value)) : HP where
  p := mivP k r v es clock cur L
  loc := fun ⟨h1, h2⟩ _ hb => ⟨h1, h2.elim (fun ⟨a, b, c, e⟩ => .inl ⟨a, b, c, (hb r h1).trans e⟩) fun ⟨g, seen, a, b, c⟩ => .inr ⟨g, seen, a, (hb r h1).trans b, c⟩⟩
section
variable {P : Program} {ops : Array Oper} {l : List Oper} {o : Oper} {A : Act} {Q : Exit → Act → World → Prop} {w w0 : World} {X : Nat → Prop} {cs : List HP} {c : HP} {d : Tmp} {x y z : Operand}
theorem W_rangeV {t kt et : Nat} {k : IntKind} {v : Value} {es : Array MapEntry} {clock : Nat} {m : List (Int × Value)} (hS : St w0 X cs w) (hm : (mop k v es clock m).at w) (hd : o.dst = some d) (hw : Region.wanted o (yielded ops A.tmps) = true)
    (ho : o.op = .range t x) (hx : EV A x = v) (ht : P.underlying t = some (.map kt et))
    (h : ∀ r w' c, c = miv k r v es clock none m → St w0 X (c :: cs) w' → WX P ops Q l (PT A d (.pointer (some ⟨r, 0, none⟩))) w') : WX P ops Q (o :: l) A w := by
  obtain ⟨f, ⟨rfl, rfl, rfl⟩ | ⟨g, rfl, h2, h3, h4⟩⟩ := hm
  · refine W_val (w' := w.alloc (.mapIter none 0 #[] 0)) hd hw ?_ (h w.heap.size _ _ rfl (hS.push (Ext.alloc _ _) (f := (· = w.heap.size)) (show mivP _ _ _ _ _ _ _ _ _ from ⟨rfl, .inl ⟨rfl, rfl, rfl, heap_alloc_new _ _⟩⟩) fun b e => ?_))
    · unfold execOp; simp [ho, hx, run_range_nilMap w t kt et ht]
    · subst e; exact ⟨Nat.le_refl _, lt_size (heap_alloc_new w _)⟩
  · refine W_val (w' := w.alloc (.mapIter (some g) clock #[] clock)) hd hw ?_ (h w.heap.size _ _ rfl (hS.push (Ext.alloc _ _) (f := (· = w.heap.size)) (show mivP _ _ _ _ _ _ _ _ _ from ⟨rfl, .inr ⟨g, #[], rfl, heap_alloc_new _ _, ?_, fun q u e => by cases e⟩⟩) fun b e => ?_))
    · unfold execOp; simp [ho, hx, run_range_map w t kt et g es clock ht h3]
    · unfold Lf leftOf
      rw [Array.toList_filter, List.filter_eq_self.2 fun x _ => by simp]; exact h4.enc
    · subst e; exact ⟨Nat.le_refl _, lt_size (heap_alloc_new w _)⟩
theorem W_nextV {r : Nat} {k : IntKind} {v : Value} {es : Array MapEntry} {clock : Nat} {m L : List (Int × Value)} {cur : Option (Int × Value)} (i : Nat) (hS : St w0 X cs w) (hi : cs[i]? = some c) (hc : c = miv k r v es clock cur L) (hm : (mop k v es clock m).at w)
    (hd : o.dst = some d) (hw : Region.wanted o (yielded ops A.tmps) = true) (ho : o.op = .next x false) (hx : EV A x = .pointer (some ⟨r, 0, none⟩))
    (h0 : L = [] → WX P ops Q l (PT A d (.tuple #[.bool false])) w)
    (h1 : ∀ j q u w' c', L[j]? = some (q, u) → c' = miv k r v es clock (some (q, u)) (L.eraseIdx j) → St w0 X (cs.set i c') w' → WX P ops Q l (PT A d (.tuple #[.bool true, .int k q, u])) w') : WX P ops Q (o :: l) A w := by
  subst hc
  obtain ⟨f, pp, p2, p3⟩ := hS.upd i hi
  obtain ⟨q0, ⟨hv, hL, _, hr⟩ | ⟨g, seen, hv, q1, q2, _⟩⟩ : mivP k r v es clock cur L w f := pp
  · refine W_val (w' := w) hd hw ?_ (h0 hL)
    unfold execOp; simp [ho, hx, Instr.next, getObj, Sem.run, hr]
  · obtain ⟨f', ⟨hv', _⟩ | ⟨g', hv', _, hb, hmk⟩⟩ := hm
    · rw [hv] at hv'; cases hv'
    rw [hv] at hv'
    simp only [Value.map.injEq, Option.some.injEq] at hv'
    subst hv'
    rcases run_next_at (P := P) w o.type r g clock clock seen es clock q1 hb hmk.lt (Nat.le_refl _) with ⟨hs, hr⟩ | ⟨e, he, w1, hw1, hr⟩
    · have hL : L = [] := by
        have : (leftOf es seen).toList = [] := List.eq_nil_of_length_eq_zero (by simpa using hs)
        unfold Lf at q2; rw [this] at q2
        simp [encM] at q2; exact q2
      refine W_val (w' := w) hd hw ?_ (h0 hL)
      unfold execOp; simp [ho, hx, hr]
    · obtain ⟨j, hj⟩ := List.mem_iff_getElem?.1 he
      obtain ⟨q, u, hq, hk, hu⟩ := mem_enc q2 hj
      have hle : Lf k es (seen.push e.born) (L.eraseIdx j) := by
        unfold Lf
        rw [leftOf_push hmk.nd hj, map_erase, q2]
        unfold encM; rw [map_erase]
      have hes : e ∈ es.toList := by
        unfold leftOf at he; rw [Array.toList_filter] at he; exact (List.mem_filter.1 he).1
      have hE : ExtX (· = r) w (w1.putObj r (.mapIter (some g) clock (seen.push e.born) clock)) := by
        rcases hw1 with rfl | rfl
        · exact ⟨rfl, rfl, rfl, by simp, fun b _ hb => World.putObj_heap_other fun e => hb e⟩
        · exact ⟨rfl, rfl, rfl, by simp, fun b _ hb => World.putObj_heap_other fun e => hb e⟩
      refine W_val (w' := w1.putObj r (.mapIter (some g) clock (seen.push e.born) clock)) hd hw ?_ (h1 j q u _ _ hq rfl (p3 _ _ f (hE.mono fun b e => by rw [e]; exact q0) (show mivP _ _ _ _ _ _ _ _ _ from ⟨q0, .inr ⟨g, seen.push e.born, hv, World.putObj_heap_same (by rcases hw1 with rfl | rfl <;> exact p2 _ q0), hle, fun q' u' e' => ?_⟩⟩) fun b hb => .inl hb))
      · unfold execOp; simp [ho, hx, hr, hk, hu, setBlock_put]
      · simp only [Option.some.injEq, Prod.mk.injEq] at e'
        obtain ⟨rfl, rfl⟩ := e'
        exact ⟨seen, e, rfl, hes, hk, hu⟩
theorem VR_entry {r : Nat} {k : IntKind} {v u : Value} {q : Int} {es : Array MapEntry} {clock : Nat} {m L : List (Int × Value)} (ho : o.op = .entry x) (hx : EV A x = .pointer (some ⟨r, 0, none⟩)) (hi : (miv k r v es clock (some (q, u)) L).at w) (hm : (mop k v es clock m).at w) :
    ValW P A o w (.tuple #[.int k q, u]) := by
  obtain ⟨f, hf⟩ := hi
  obtain ⟨q0, ⟨_, _, hcur, _⟩ | ⟨g, seen, hv, q1, q2, q3⟩⟩ : mivP k r v es clock (some (q, u)) L w f := hf
  · cases hcur
  · obtain ⟨f', ⟨hv', _⟩ | ⟨g', hv', _, hb, hmk⟩⟩ := hm
    · rw [hv] at hv'; cases hv'
    rw [hv] at hv'
    simp only [Value.map.injEq, Option.some.injEq] at hv'
    subst hv'
    obtain ⟨s, e, rfl, hes, hk, hu⟩ := q3 q u rfl
    unfold ValW execOp
    simp [ho, hx, run_entry_at w r g clock s es clock e q1 hb hes hmk.nd, hk, hu]
end
/-! a map of slices of ints: the entries and, beside them, the slices -/
abbrev KE := Int × (Value × List Int)
def lkP (K : List KE) (q : Int) : Value × List Int := (kget K q).getD nilp
def kclr (K : List KE) (q : Int) : List KE := if kix K q < K.length then K.set (kix K q) (q, nilp) else K
def mkO (v : Value) (K : List KE) : HP := mo .i64 v (kmap (fun y : Value × List Int => y.1) K)
def mkC (K : List KE) : HP := owl .i64 (K.map (·.2))
theorem kmap_get {α β : Type} {f : α → β} {m : List (Int × α)} {j : Nat} {q : Int} {u : β} (h : (kmap f m)[j]? = some (q, u)) : ∃ y, m[j]? = some (q, y) ∧ u = f y := by
  unfold kmap at h
  rw [List.getElem?_map] at h
  cases hm : m[j]? with
  | none => rw [hm] at h; cases h
  | some p =>
    rw [hm] at h
    simp only [Option.map_some, Option.some.injEq, Prod.mk.injEq] at h
    exact ⟨p.2, by rw [← h.1], h.2.symm⟩
theorem kmap_erase {α β : Type} (f : α → β) (m : List (Int × α)) (j : Nat) : (kmap f m).eraseIdx j = kmap f (m.eraseIdx j) := (map_erase _ m j).symm
theorem kmap_nil {α β : Type} {f : α → β} {m : List (Int × α)} (h : kmap f m = []) : m = [] := List.map_eq_nil_iff.1 h
section
variable {w0 w : World} {X : Nat → Prop} {l : List HP} {c a : HP} {K : List KE} {q : Int} {u : Value} {zs : List Int}
theorem St.mcNil (h : St w0 X l w) : ∃ c, c = mkC [] ∧ St w0 X (c :: l) w := ⟨_, rfl, owl_nils 0 h⟩
theorem St.kout (q : Int) (h : St w0 X (c :: l) w) (hc : c = mkC K) : ∃ a b, a = io .i64 (lkP K q).1 (lkP K q).2 ∧ b = mkC (kclr K q) ∧ St w0 X (a :: b :: l) w := by
  subst hc
  refine ⟨_, _, rfl, rfl, ?_⟩
  cases e : kget K q with
  | none =>
    have h1 : lkP K q = nilp := by unfold lkP; rw [e]; rfl
    have h2 : kclr K q = K := by unfold kclr; rw [if_neg (kget_none e)]
    rw [h1, h2]
    exact h.emp io_nil
  | some y =>
    obtain ⟨g1, g2⟩ := kget_ix e
    have h1 : lkP K q = y := by unfold lkP; rw [e]; rfl
    have h2 : (kclr K q).map (·.2) = (K.map (·.2)).set (kix K q) nilp := by unfold kclr; rw [if_pos g1, List.map_set]
    rw [h1]; unfold mkC; rw [h2]
    exact owl_out (y := y) (by rw [List.getElem?_map, g2]; rfl) h
theorem St.kin (q : Int) (h : St w0 X (a :: c :: l) w) (ha : a = io .i64 u zs) (hc : c = mkC (kclr K q)) : ∃ b, b = mkC (kset K q (u, zs)) ∧ St w0 X (b :: l) w := by
  subst ha hc
  refine ⟨_, rfl, ?_⟩
  by_cases g1 : kix K q < K.length
  · have h2 : (kset K q (u, zs)).map (·.2) = ((kclr K q).map (·.2)).set (kix K q) (u, zs) := by
      unfold kset kclr; rw [if_pos g1, if_pos g1, List.map_set, List.map_set, List.set_set]
    unfold mkC; rw [h2]
    exact owl_set (by unfold kclr; rw [if_pos g1]; simpa using g1) h
  · have h2 : (kset K q (u, zs)).map (·.2) = (kclr K q).map (·.2) ++ [(u, zs)] := by
      unfold kset kclr; rw [if_neg g1, if_neg g1, List.map_append]; rfl
    unfold mkC; rw [h2]
    exact owl_push h
theorem mkC_at {y : Value × List Int} (hy : ∃ q, (q, y) ∈ K) (h : (mkC K).at w) : (il .i64 y.1 y.2).at w := by
  obtain ⟨q, hq⟩ := hy
  obtain ⟨i, hi⟩ := List.mem_iff_getElem?.1 hq
  exact owl_at (i := i) (y := y) (by rw [List.getElem?_map, hi]; rfl) h
end
section
variable {P : Program} {ops : Array Oper} {l : List Oper} {o : Oper} {A : Act} {Q : Exit → Act → World → Prop} {w w0 : World} {X : Nat → Prop} {cs : List HP} {c : HP} {d : Tmp} {x y z : Operand}
theorem VR_lookK {t kt et : TypeId} {k' : IntKind} {mv : Value} {K : List KE} {q : Int} (ho : o.op = .lookup t x y false) (hx : EV A x = mv) (hy : EV A y = .int .i64 q) (hm : (mkO mv K).at w)
    (ht : P.underlying t = some (.map kt et)) (hk : P.underlying kt = some (.int k')) (hz : (P.info? et).map (·.zero) = some (some (.slice none 0 0))) :
    ValW P A o w (lkP K q).1 := by
  have h := VR_look0 ho hx hy hm ht hk hz
  rw [mget_kget, kget_map] at h
  have e : ((kget K q).map fun y : Value × List Int => y.1).getD (.slice none 0 0) = (lkP K q).1 := by
    unfold lkP; cases kget K q <;> rfl
  rw [e] at h; exact h
theorem VR_look0I {t kt et : TypeId} {k' : IntKind} {mv : Value} {m : List (Int × Int)} {q : Int} (ho : o.op = .lookup t x y false) (hx : EV A x = mv) (hy : EV A y = .int .i64 q) (hm : (mi mv m).at w)
    (ht : P.underlying t = some (.map kt et)) (hk : P.underlying kt = some (.int k')) (hz : (P.info? et).map (·.zero) = some (some (.int .i64 0))) :
    ValW P A o w (.int .i64 (lkN m q)) := by
  have h := VR_look0 ho hx hy hm ht hk hz
  rw [mget_iM] at h
  have e : ((m.find? fun p => p.1 == q).map fun p => Value.int .i64 p.2).getD (.int .i64 0) = .int .i64 (lkN m q) := by
    unfold lkN; cases m.find? fun p => p.1 == q <;> rfl
  rw [e] at h; exact h
theorem W_mapSetK {t kt et : TypeId} {k' : IntKind} {mv u : Value} {K : List KE} {q : Int} {g : Nat} (zs : List Int) (i : Nat) (hS : St w0 X cs w) (hi : cs[i]? = some c) (hc : c = mkO mv K) (hv : mv = .map (some g)) (hd : o.dst = none) (hw : Region.wanted o (yielded ops A.tmps) = true)
    (ho : o.op = .mapUpdate t x y z) (hx : EV A x = mv) (hy : EV A y = .int .i64 q) (hu : EV A z = u) (ht : P.underlying t = some (.map kt et)) (hk : P.underlying kt = some (.int k'))
    (h : ∀ w' c', c' = mkO mv (kset K q (u, zs)) → St w0 X (cs.set i c') w' → WX P ops Q l A w') : WX P ops Q (o :: l) A w :=
  W_mapSet i hS hi hc hv hd hw ho hx hy hu ht hk fun w' c' hc' => h w' c' (by rw [hc']; unfold mkO; rw [kset_map])
/-- next, over the map of f's values. -/
theorem W_nextK {α : Type} {f : α → Value} {r : Nat} {k : IntKind} {v : Value} {es : Array MapEntry} {clock : Nat} {M : List (Int × Value)} {L : List (Int × α)} {cur : Option (Int × Value)} (i : Nat) (hS : St w0 X cs w) (hi : cs[i]? = some c) (hc : c = miv k r v es clock cur (kmap f L)) (hm : (mop k v es clock M).at w)
    (hd : o.dst = some d) (hw : Region.wanted o (yielded ops A.tmps) = true) (ho : o.op = .next x false) (hx : EV A x = .pointer (some ⟨r, 0, none⟩))
    (h0 : L = [] → WX P ops Q l (PT A d (.tuple #[.bool false])) w)
    (h1 : ∀ j q y w' c', L[j]? = some (q, y) → c' = miv k r v es clock (some (q, f y)) (kmap f (L.eraseIdx j)) → St w0 X (cs.set i c') w' → WX P ops Q l (PT A d (.tuple #[.bool true, .int k q, f y])) w') : WX P ops Q (o :: l) A w :=
  W_nextV i hS hi hc hm hd hw ho hx (fun h => h0 (kmap_nil h)) fun j q u w' c' hj hc' hS' => by
    obtain ⟨y, hy, rfl⟩ := kmap_get hj
    exact h1 j q y w' c' hy (by rw [hc', kmap_erase]) hS'
end
section
variable {P : Program} {ops : Array Oper} {w0 : World} {Φ : Nat → Option L.SPd} {e : Nat} {Z : Act → (Nat → L.SW → Prop) → Prop} {l : List Oper} {o : Oper} {i : Nat} {A A' : Act} {F : Nat → L.SW → Prop} {d : Tmp} {v : Value} {x y : Operand}
/-- a call of a function that lies in the frame. -/
theorem D_callV {ts : List Tmp} {vs : List Value} {C0 : List Value → Value → List HP → Prop} {C : Value → List HP → Prop} {f : FuncId} {fn : Func} {xs : Array Operand} {c : Operand} {ats : Array TypeId} {args lb : Array Value} (hd : o.dst = some d) (hw : Region.wanted o (yielded ops A.tmps) = true)
    (ho : o.op = .call { callee := .value c, args := xs, argTypes := ats }) (hc : EV A c = .func (.func f) #[] lb) (hf : P.funcs[f]? = some fn)
    (hn : (fn.name == "runtime.NumGoroutine") = false) (hb : fn.body.isNone = false) (ha : xs.map (EV A) = args) (he : (i == e) = false) (hΦ : Φ i = some (SPv ts C0 i)) (hts : ts.map (fun t => EV A (.tmp t)) = vs) (hC : C0 vs = C)
    (hx : ∀ s : L.SW, Ext w0 s.1 → L.ancF ops i F s → Calls P f (args ++ lb) s.1 fun e w' => ∃ v, e = .returned v ∧ ∃ l', C v l' ∧ St s.1 NoX l' w')
    (h : ∀ u l', C u l' → DK P ops w0 Φ e Z l (i + 1) (PT A d u) (L.upd F i fun s => (SPc C i).p s u)) : DK P ops w0 Φ e Z (o :: l) i A F := by
  refine D_new hd hw he hΦ hts hC (fun s hs hF => ?_) h
  have hrun : (execOp (EV A) o).run P s.1 = .ok (.enter f (args ++ lb)) s.1 := by
    unfold execOp
    simp [ho, resolve, hc, ha, invoke, Deferred.ofValue, calls_enter hf hn hb]
  unfold wpU
  rw [ex_ev hrun]
  exact (hx s hs hF).mono fun e w' ⟨v, he, hl⟩ => by subst he; exact hl
end
end Go.Own

/-! what the program's maps hold -/
namespace Go.Own.F
open Go Go.Own Go.Own.R Go.Own.S
theorem kget_set {α : Type} {m : List (Int × α)} {q t : Int} {u : α} : kget (kset m q u) t = if t = q then some u else kget m t := by
  unfold kset
  have hfi : ∀ {m : List (Int × α)}, ¬ kix m q < m.length → kget m q = none := fun {m} h => by
    cases e : kget m q with
    | none => rfl
    | some y => exact absurd (kget_ix e).1 h
  split
  · rename_i hl
    unfold kix at *
    induction m with
    | nil => simp at hl
    | cons p m ih =>
      rw [List.findIdx_cons] at hl ⊢
      by_cases e : p.1 = q
      · have e' : (p.1 == q) = true := by simpa using e
        rw [e'] at hl ⊢
        simp only [cond_true, List.set_cons_zero]
        unfold kget
        by_cases h2 : t = q
        · subst h2; simp [List.find?_cons]
        · have h3 : (q == t) = false := by simpa using fun e => h2 e.symm
          have h4 : (p.1 == t) = false := by rw [e]; exact h3
          rw [if_neg h2, List.find?_cons, List.find?_cons]
          simp only [h3, h4]
      · have e' : (p.1 == q) = false := by simpa using e
        rw [e'] at hl ⊢
        simp only [cond_false, List.set_cons_succ, List.length_cons] at hl ⊢
        have := ih (by omega)
        unfold kget at *
        rw [List.find?_cons, List.find?_cons]
        by_cases h5 : p.1 = t
        · have h6 : (p.1 == t) = true := by simpa using h5
          simp only [h6]
          rw [if_neg (fun h => e (h5.trans h))]
        · have h6 : (p.1 == t) = false := by simpa using h5
          simp only [h6]; exact this
  · rename_i hl
    have h0 := hfi hl
    unfold kget at *
    rw [List.find?_append]
    by_cases h2 : t = q
    · subst h2
      have : m.find? (fun p => p.1 == t) = none := by
        cases e : m.find? (fun p => p.1 == t) with
        | none => rfl
        | some y => rw [e] at h0; cases h0
      rw [this, if_pos rfl]; simp [List.find?_cons]
    · have h3 : (q == t) = false := by simpa using fun e => h2 e.symm
      rw [if_neg h2]; simp [List.find?_cons, h3]
theorem keys_set {α : Type} {m : List (Int × α)} {q : Int} {u : α} (h : (m.map (·.1)).Nodup) : ((kset m q u).map (·.1)).Nodup := by
  unfold kset
  split
  · rename_i hl
    have hk : (m[kix m q]'hl).1 = q := by
      obtain ⟨y, hy⟩ : ∃ y, kget m q = some y := by
        cases e : kget m q with
        | none => exact absurd hl (kget_none e)
        | some y => exact ⟨y, rfl⟩
      have h2 := (kget_ix hy).2
      rw [List.getElem?_eq_getElem hl] at h2
      rw [Option.some.inj h2]
    have : (m.set (kix m q) (q, u)).map (·.1) = m.map (·.1) := by
      rw [List.map_set]
      apply List.ext_getElem?
      intro i
      by_cases e : kix m q = i
      · subst e; rw [List.getElem?_set_self (by simpa using hl)]
        rw [List.getElem?_map, List.getElem?_eq_getElem hl, Option.map_some, hk]
      · rw [List.getElem?_set_ne e]
    rw [this]; exact h
  · rename_i hl
    rw [List.map_append]
    refine List.nodup_append.2 ⟨h, by simp, fun a ha b hb e => ?_⟩
    simp at hb
    obtain ⟨p, hp, rfl⟩ := List.mem_map.1 ha
    exact hl (List.findIdx_lt_length.2 ⟨p, hp, by simp [e, hb]⟩)
theorem kget_mem {α : Type} {m : List (Int × α)} (h : (m.map (·.1)).Nodup) {p : Int × α} (hp : p ∈ m) : kget m p.1 = some p.2 := by
  unfold kget
  induction m with
  | nil => cases hp
  | cons x m ih =>
    rw [List.map_cons, List.nodup_cons] at h
    rcases List.mem_cons.1 hp with rfl | hp
    · simp [List.find?_cons]
    · have : (x.1 == p.1) = false := by
        have : x.1 ≠ p.1 := fun e => h.1 (by rw [e]; exact List.mem_map.2 ⟨p, hp, rfl⟩)
        simpa using this
      rw [List.find?_cons, this]; exact ih h.2 hp
theorem mem_kget {α : Type} {m : List (Int × α)} {q : Int} {y : α} (h : kget m q = some y) : (q, y) ∈ m := List.mem_of_getElem? (kget_ix h).2
/-- the map of the holders, by targets. -/
structure HM (ws l : List Int) (K : List KE) : Prop where
  nd : (K.map (·.1)).Nodup
  sl : ∀ q, q ≠ 0 → (lkP K q).2 = hoF ws l q
  ne : ∀ p ∈ K, p.1 ≠ 0 ∧ p.2.2 ≠ []
theorem HM_nil (ws : List Int) : HM ws [] [] := ⟨by simp, fun _ _ => rfl, fun _ h => by cases h⟩
theorem HM_out {ws l : List Int} {K : List KE} {k : Nat} {a y : Int} (h : HM ws (l.take k) K) (hy : l[k]? = some a) (hw : wA ws a = y) (h0 : y = 0) : HM ws (l.take (k + 1)) K :=
  ⟨h.nd, fun q hq => by rw [h.sl q hq, hoF_out hy (by omega)], h.ne⟩
theorem HM_in {ws l : List Int} {K : List KE} {k : Nat} {a y : Int} {u : Value} (h : HM ws (l.take k) K) (hy : l[k]? = some a) (hw : wA ws a = y) (h0 : y ≠ 0) : HM ws (l.take (k + 1)) (kset K y (u, (lkP K y).2 ++ [a])) := by
  refine ⟨keys_set h.nd, fun q hq => ?_, fun p hp => ?_⟩
  · unfold lkP at *
    rw [kget_set]
    by_cases e : q = y
    · subst e; rw [if_pos rfl, ← hoF_in hy hw, ← h.sl q hq]; rfl
    · rw [if_neg e, ← hoF_out hy (by omega)]; exact h.sl q hq
  · have := kget_mem (keys_set h.nd) hp
    rw [kget_set] at this
    by_cases e : p.1 = y
    · rw [if_pos e] at this
      have e2 := Option.some.inj this
      rw [← e2]
      exact ⟨by omega, by simp⟩
    · rw [if_neg e] at this
      exact h.ne _ (mem_kget this)
theorem er_len {α : Type} {L : List α} {j : Nat} {p : α} (h : L[j]? = some p) : (L.eraseIdx j).length + 1 = L.length := by
  have hj := (List.getElem?_eq_some_iff.1 h).1
  rw [List.length_eraseIdx, if_pos hj]; omega
theorem er_perm {α : Type} : ∀ {L : List α} {j : Nat} {p : α}, L[j]? = some p → (p :: L.eraseIdx j).Perm L
  | [], j, p, h => by simp at h
  | a :: L, 0, p, h => by simp at h; subst h; rw [List.eraseIdx_cons_zero]
  | a :: L, j + 1, p, h => by
    have h' : L[j]? = some p := by simpa using h
    rw [List.eraseIdx_cons_succ]
    exact (List.Perm.swap a p _).trans ((er_perm h').cons a)
/-- one more of what is left is done. -/
theorem pm_step {α β : Type} {f : α → β} {D ks : List β} {L : List α} {j : Nat} {p : α} (h : (D ++ L.map f).Perm ks) (hj : L[j]? = some p) : ((D ++ [f p]) ++ (L.eraseIdx j).map f).Perm ks := by
  rw [List.append_assoc]
  exact (((er_perm hj).map f).append_left D).trans h
theorem pm_done {α β : Type} {f : α → β} {D ks : List β} {L : List α} (h : (D ++ L.map f).Perm ks) (hL : L = []) : D.Perm ks := by subst hL; simpa using h
theorem vd_len {α : Type} {D ks : List α} (h : ∃ t, (D ++ t).Perm ks) : D.length ≤ ks.length := by
  obtain ⟨t, h⟩ := h
  have := h.length_eq
  rw [List.length_append] at this; omega
theorem sortL_pm {l m : List Int} (h : l.Perm m) : sortL l = sortL m := by
  refine List.Perm.eq_of_pairwise (le := fun x y => x ≤ y) (fun a b _ _ h1 h2 => by omega) (sortL_asc l) (sortL_asc m) ?_
  unfold sortL
  exact ((List.mergeSort_perm _ _).trans h).trans (List.mergeSort_perm _ _).symm
end Go.Own.F
