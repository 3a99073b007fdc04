import Derived.Test.YtpgkfndbfocibaaGreatSepG
namespace Go.Own
open Go
def encM (k : IntKind) (m : List (Int × Value)) : List (Value × Value) := m.map fun p => (.int k p.1, p.2)
def mget (m : List (Int × Value)) (x : Int) : Option Value := (m.find? fun p => p.1 == x).map (·.2)
def mo (k : IntKind) (v : Value) (m : List (Int × Value)) : HP where
 p := fun w f => (v = .map none ∧ m = []) ∨ ∃ g es clock, v = .map (some g) ∧ f g ∧ w.heap[g]? = some (.map es clock) ∧ es.toList.map (fun e => (e.key, e.val)) = encM k m ∧ (es.toList.map fun e : MapEntry => e.born).Nodup ∧ ∀ e ∈ es.toList, e.born < clock
 loc := fun h _ hb => h.elim (fun h => .inl h) fun ⟨g, es, clock, h1, h2, h3, h4⟩ => .inr ⟨g, es, clock, h1, h2, (hb g h2).trans h3, h4⟩
section
variable {P : Program} {ops : Array Oper} {l : List Oper} {o : Oper} {A : Act} {Q : Exit → Act → World → Prop} {w w0 : World} {X : Nat → Prop} {cs : List HP} {c : HP} {d : Tmp} {x y z : Operand}
theorem W_mkMapS {t : TypeId} (k : IntKind) (hS : St w0 X cs w) (hd : o.dst = some d) (hw : Region.wanted o (yielded ops A.tmps) = true) (ho : o.op = .makeMap t none)
  (h : ∀ g w' c, c = mo k (.map (some g)) [] → St w0 X (c :: cs) w' → WX P ops Q l (PT A d (.map (some g))) w') : WX P ops Q (o :: l) A w := by
 refine W_val (w' := w.alloc (.map #[] 0)) hd hw ?_ (h w.heap.size _ _ rfl (hS.push (Ext.alloc _ _) (f := (· = w.heap.size)) (.inr ⟨_, #[], 0, rfl, rfl, heap_alloc_new _ _, rfl, by simp, by simp⟩) fun b e => ?_))
 ·unfold execOp; simp [ho, Instr.makeMap]
 ·subst e; exact ⟨Nat.le_refl _, lt_size (heap_alloc_new w _)⟩
theorem run_getObj_m {P : Program} {w : World} {r : Nat} {es : Array MapEntry} {clock : Nat} (hb : w.heap[r]? = some (.map es clock)) : (getObj r).run P w = .ok (.map es clock) w := by
 simp [getObj, Sem.run, hb]
theorem run_setObj_m {P : Program} {w : World} {r : Nat} {es : Array MapEntry} {clock : Nat} (o : Obj) (hb : w.heap[r]? = some (.map es clock)) : (setObj r o).run P w = .ok () (w.putObj r o) := by
 simp [setObj, Sem.run, hb, World.putObj]
theorem findNow_enc {k : IntKind} {dt : TypeDesc} (hdt : ∃ k', dt = .int k') (q : Int) : ∀ (es : List MapEntry) (m : List (Int × Value)) (i : Nat), es.map (fun e => (e.key, e.val)) = encM k m →
  ∃ r, Instr.findNow dt (.int k q) es i = some r ∧ r.map (·.2) = mget m q ∧ ∀ j u, r = some (j, u) → ∃ n, j = i + n ∧ ∃ e : MapEntry, es[n]? = some e ∧ e.key = .int k q ∧ (∀ n', n' < n → ∀ p, m[n']? = some p → p.1 ≠ q) ∧ ∃ p, m[n]? = some p ∧ p.1 = q := by
 obtain ⟨k', rfl⟩ := hdt
 intro es
 induction es with
 | nil => intro m i h; cases m with
  | nil => exact ⟨none, rfl, rfl, fun j u e => by cases e⟩
  | cons p m => simp [encM] at h
 | cons e es ih =>
  intro m i h
  cases m with
  | nil => simp [encM] at h
  | cons p m =>
   simp only [encM, List.map_cons, List.cons.injEq, Prod.mk.injEq] at h
   obtain ⟨⟨h1, h2⟩, h3⟩ := h
   by_cases hq : q = p.1
   ·refine ⟨some (i, e.val), ?_, ?_, fun j u he => ?_⟩
    ·simp [Instr.findNow, h1, Instr.sameNow, hq]
    ·simp [mget, List.find?_cons, hq, h2]
    ·simp only [Option.some.injEq, Prod.mk.injEq] at he
     exact ⟨0, he.1.symm, e, rfl, by rw [h1, hq], fun n' hn' => by omega, p, rfl, hq.symm⟩
   ·obtain ⟨r, g1, g2, g3⟩ := ih m (i + 1) h3
    refine ⟨r, ?_, ?_, fun j u he => ?_⟩
    ·have hb : (q == p.1) = false := by simpa using hq
     simp [Instr.findNow, h1, Instr.sameNow, hb, g1]
    ·rw [g2]; simp [mget, List.find?_cons, Ne.symm hq]
    ·obtain ⟨n, hn, e', he', hk, hall, p', hp', hpq⟩ := g3 j u he
     refine ⟨n + 1, by omega, e', by simpa using he', hk, fun n' hn' p2 hp2 => ?_, p', by simpa using hp', hpq⟩
     cases n' with
     | zero => simp at hp2; subst hp2; exact Ne.symm hq
     | succ n' => exact hall n' (by omega) p2 (by simpa using hp2)
theorem checkKey_int {k : IntKind} {t : TypeId} {k' : IntKind} (b : Bool) (q : Int) (w : World) (ht : P.underlying t = some (.int k')) : (Instr.checkKey b 10000 t (.int k q)).run P w = .ok () w := by
 show (Instr.checkKey b (9999 + 1) t (.int k q)).run P w = .ok () w
 unfold Instr.checkKey
 rw [Sem.run_bind, run_underlying ht w]; rfl
theorem mo_push {k : IntKind} {es : Array MapEntry} {clock : Nat} {m : List (Int × Value)} {q : Int} {u : Value} (h4 : es.toList.map (fun e => (e.key, e.val)) = encM k m) (h5 : (es.toList.map fun e : MapEntry => e.born).Nodup) (h6 : ∀ e ∈ es.toList, e.born < clock) :
  (es.push { key := .int k q, val := u, born := clock }).toList.map (fun e => (e.key, e.val)) = encM k (m ++ [(q, u)]) ∧ ((es.push { key := .int k q, val := u, born := clock }).toList.map (·.born)).Nodup ∧ ∀ e ∈ (es.push { key := .int k q, val := u, born := clock }).toList, e.born < clock + 1 := by
 refine ⟨?_, ?_, fun e he => ?_⟩
 ·simp [encM] at h4 ⊢
  exact h4
 ·rw [Array.toList_push, List.map_append]
  refine List.nodup_append.2 ⟨h5, by simp, fun a ha b hb => ?_⟩
  obtain ⟨e, he, rfl⟩ := List.mem_map.1 ha
  have := h6 e he
  simp at hb
  omega
 ·rw [Array.toList_push] at he
  rcases List.mem_append.1 he with q | q
  ·have := h6 e q; omega
  ·simp at q; rw [q]; simp
theorem W_mapNew {t kt et : TypeId} {k k' : IntKind} {mv u : Value} {m : List (Int × Value)} {q : Int} {g : Nat} (i : Nat) (hS : St w0 X cs w) (hi : cs[i]? = some c) (hc : c = mo k mv m) (hv : mv = .map (some g)) (hd : o.dst = none) (hw : Region.wanted o (yielded ops A.tmps) = true)
  (ho : o.op = .mapUpdate t x y z) (hx : EV A x = mv) (hy : EV A y = .int k q) (hu : EV A z = u) (ht : P.underlying t = some (.map kt et)) (hk : P.underlying kt = some (.int k')) (hn : mget m q = none)
  (h : ∀ w' c', c' = mo k mv (m ++ [(q, u)]) → St w0 X (cs.set i c') w' → WX P ops Q l A w') : WX P ops Q (o :: l) A w := by
 subst hc
 obtain ⟨f, q1, q2, q3⟩ := hS.upd i hi
 rcases q1 with ⟨h1, _⟩ | ⟨g', es, clock, h1, h2, h3, h4, h5, h6⟩
 ·rw [hv] at h1; cases h1
 ·rw [hv] at h1
  simp only [Value.map.injEq, Option.some.injEq] at h1
  subst h1
  obtain ⟨r, g1, g2, _⟩ := findNow_enc ⟨k', rfl⟩ q es.toList m 0 h4
  have hr : r = none := by
   cases r with
   | none => rfl
   | some r => rw [hn] at g2; cases g2
  subst hr
  refine W_nov (w' := w.putObj g (.map (es.push { key := .int k q, val := u, born := clock }) (clock + 1))) hd hw ?_ (h _ _ rfl (q3 _ _ f (⟨rfl, rfl, rfl, by simp, fun k _ hk => World.putObj_heap_other fun e => hk (by rw [e]; exact h2)⟩) (.inr ⟨g, _, _, hv, h2, World.putObj_heap_same (q2 _ h2), ?_⟩) fun b hb => .inl hb))
  ·unfold execOp
   simp [ho, hx, hy, hu, hv, Instr.mapUpdate, run_underlying ht w, checkKey_int _ _ _ hk, Instr.findKey, run_underlying hk w, g1, run_getObj_m h3, run_setObj_m _ h3]
  ·exact mo_push h4 h5 h6
end
section
variable {P : Program} {ops : Array Oper} {l : List Oper} {o : Oper} {A : Act} {Q : Exit → Act → World → Prop} {w w0 : World} {X : Nat → Prop} {cs : List HP} {c : HP} {d : Tmp} {x y z : Operand}
end
end Go.Own
