import Derived.Test.YtoandfgkkmfobaaData
import Derived.BigQuiet
namespace Go.Own
open Go Go.RowKit

section
variable {P : Program} {ops : Array Oper} {w0 : World} {Φ : Nat → Option SP} {e : Nat} {Z : Act → (Nat → World → Prop) → Prop} {l : List Oper} {o : Oper} {i : Nat} {a a' : Act} {F : Nat → World → Prop}

theorem Chk_eff (he : i = e) (h : Chk P ops (fun w' => Ext w0 w') Φ e Z l (i + 1) a F) : Chk P ops (fun w' => Ext w0 w') Φ e Z (o :: l) i a F := by
  unfold Chk; rw [if_pos he]; exact h

theorem Chk_skip (he : (i == e) = false) (hw : Region.wanted o (yielded ops a.tmps) = false) (hp : a.put o.dst undef = a') (h : Chk P ops (fun w' => Ext w0 w') Φ e Z l (i + 1) a' F) : Chk P ops (fun w' => Ext w0 w') Φ e Z (o :: l) i a F := by
  unfold Chk; rw [if_neg (by simpa using he), if_neg (by rw [hw]; exact Bool.false_ne_true), hp]; exact h

theorem Chk_pure {x : Value} (he : (i == e) = false) (hw : Region.wanted o (yielded ops a.tmps) = true) (hΦ : Φ i = none)
    (hx : ∀ w, (early ops e i = true → Ext w0 w ∧ ancF ops i F w) → (execOp a.eval o).run P w = .ok (.value x) w)
    (hp : a.put o.dst x = a') (h : Chk P ops (fun w' => Ext w0 w') Φ e Z l (i + 1) a' F) : Chk P ops (fun w' => Ext w0 w') Φ e Z (o :: l) i a F := by
  unfold Chk; rw [if_neg (by simpa using he), if_pos hw]; simp only [hΦ]; exact ⟨x, hx, by rw [hp]; exact h⟩

/-- an operation that lays new memory. -/
theorem Chk_val {φ : SP} (he : (i == e) = false) (hw : Region.wanted o (yielded ops a.tmps) = true) (hΦ : Φ i = some φ)
    (hx : ∀ w, Ext w0 w → ancF ops i F w → ∃ v w', (execOp a.eval o).run P w = .ok (.value v) w' ∧ Ext w w' ∧ φ.p w' v)
    (h : ∀ u a', (∃ w, Ext w0 w ∧ φ.p w u) → a.put o.dst u = a' → Chk P ops (fun w' => Ext w0 w') Φ e Z l (i + 1) a' (upd F i fun w => φ.p w u)) : Chk P ops (fun w' => Ext w0 w') Φ e Z (o :: l) i a F := by
  unfold Chk; rw [if_neg (by simpa using he), if_pos hw]; simp only [hΦ]
  refine ⟨fun w hW hF => ?_, fun u hu => h u _ hu rfl⟩
  obtain ⟨v, w', hr, hE, hv⟩ := hx w hW hF
  unfold wpU; rw [hr]; exact ⟨Ext.tr hW hE, hE, hv⟩

/-- a call by its contract. -/
theorem Chk_call {φ : SP} {f : FuncId} {args : Array Value} (he : (i == e) = false) (hw : Region.wanted o (yielded ops a.tmps) = true) (hΦ : Φ i = some φ)
    (hr : ∀ w, (execOp a.eval o).run P w = .ok (.enter f args) w)
    (hx : ∀ w, Ext w0 w → ancF ops i F w → Calls P f args w fun e w' => ∃ v, e = .returned v ∧ Ext w w' ∧ φ.p w' v)
    (h : ∀ u a', (∃ w, Ext w0 w ∧ φ.p w u) → a.put o.dst u = a' → Chk P ops (fun w' => Ext w0 w') Φ e Z l (i + 1) a' (upd F i fun w => φ.p w u)) : Chk P ops (fun w' => Ext w0 w') Φ e Z (o :: l) i a F := by
  unfold Chk; rw [if_neg (by simpa using he), if_pos hw]; simp only [hΦ]
  refine ⟨fun w hW hF => ?_, fun u hu => h u _ hu rfl⟩
  unfold wpU; rw [hr w]
  refine (hx w hW hF).mono fun e w' ⟨v, he, hE, hv⟩ => ?_
  subst he
  exact ⟨Ext.tr hW hE, hE, hv⟩

theorem Chk_cons (h : Chk P ops (fun w' => Ext w0 w') Φ e Z (o :: l) i a F) : Chk P ops (fun w' => Ext w0 w') Φ e Z (o :: l) i a F := h
/-- arriving at a call. -/
theorem run_call {f : FuncId} {fn : Func} {xs : Array Operand} {ats : Array TypeId} {args : Array Value} (ho : o.op = .call { callee := .value (.func f), args := xs, argTypes := ats }) (hf : P.funcs[f]? = some fn)
    (hn : (fn.name == "runtime.NumGoroutine") = false) (hb : fn.body.isNone = false) (ha : xs.map a.eval = args) (w : World) : (execOp a.eval o).run P w = .ok (.enter f args) w := by
  obtain ⟨dst, op, ty, pos, after, guard⟩ := o
  simp only at ho
  subst ho
  rw [execOp_call_go, ha]
  have hn' : fn.name ≠ "runtime.NumGoroutine" := by simpa using hn
  have hb' : fn.body ≠ none := by intro h; rw [h] at hb; cases hb
  simp [callFunc, program, Sem.run, hf, hn', hb']

/-- a call by its contract, quickly. -/
theorem Chk_callf {φ : SP} {f : FuncId} {fn : Func} {xs : Array Operand} {ats : Array TypeId} {args : Array Value} (ho : o.op = .call { callee := .value (.func f), args := xs, argTypes := ats }) (hf : P.funcs[f]? = some fn)
    (hn : (fn.name == "runtime.NumGoroutine") = false) (hb : fn.body.isNone = false) (ha : xs.map a.eval = args) (he : (i == e) = false) (hw : Region.wanted o (yielded ops a.tmps) = true) (hΦ : Φ i = some φ)
    (hx : ∀ w, Ext w0 w → ancF ops i F w → Calls P f args w fun e w' => ∃ v, e = .returned v ∧ Ext w w' ∧ φ.p w' v)
    (h : ∀ u a', (∃ w, Ext w0 w ∧ φ.p w u) → a.put o.dst u = a' → Chk P ops (fun w' => Ext w0 w') Φ e Z l (i + 1) a' (upd F i fun w => φ.p w u)) : Chk P ops (fun w' => Ext w0 w') Φ e Z (o :: l) i a F :=
  Chk_call he hw hΦ (run_call ho hf hn hb ha) hx h

theorem run_bs1 {t el : TypeId} {inf : TypeInfo} {z : Value} {p0 : Operand} {v0 : Value} (ho : o.op = .buildSlice t 1 #[(0, p0)]) (ht : P.underlying t = some (.slice el)) (hi : P.info? el = some inf) (hz : inf.zero = some z) (hs : inf.size = 1) (hzc : z.cells = #[z])
    (h0 : a.eval p0 = v0) (c0 : v0.cells = #[v0]) (w : World) :
    (execOp a.eval o).run P w = .ok (.value (.slice (some ⟨w.heap.size, 0, none⟩) 1 1)) (w.alloc (.cells #[v0] el)) := by
  unfold execOp
  simp [ho, Instr.buildSlice, run_underlying ht, sizeOf, typeInfo, hi, hs, hz, hzc, zeroValue, Instr.fill, newRow, h0, c0]
  congr 2
  apply Array.ext'
  simp [Array.toList_setIfInBounds, Array.toList_range, List.range_succ]
theorem run_bs2 {t el : TypeId} {inf : TypeInfo} {z : Value} {p0 p1 : Operand} {v0 v1 : Value} (ho : o.op = .buildSlice t 2 #[(0, p0), (1, p1)]) (ht : P.underlying t = some (.slice el)) (hi : P.info? el = some inf) (hz : inf.zero = some z) (hs : inf.size = 1) (hzc : z.cells = #[z])
    (h0 : a.eval p0 = v0) (c0 : v0.cells = #[v0]) (h1 : a.eval p1 = v1) (c1 : v1.cells = #[v1]) (w : World) :
    (execOp a.eval o).run P w = .ok (.value (.slice (some ⟨w.heap.size, 0, none⟩) 2 2)) (w.alloc (.cells #[v0, v1] el)) := by
  unfold execOp
  simp [ho, Instr.buildSlice, run_underlying ht, sizeOf, typeInfo, hi, hs, hz, hzc, zeroValue, Instr.fill, newRow, h0, c0, h1, c1]
  congr 2
  apply Array.ext'
  simp [Array.toList_setIfInBounds, Array.toList_range, List.range_succ]
theorem run_bs3 {t el : TypeId} {inf : TypeInfo} {z : Value} {p0 p1 p2 : Operand} {v0 v1 v2 : Value} (ho : o.op = .buildSlice t 3 #[(0, p0), (1, p1), (2, p2)]) (ht : P.underlying t = some (.slice el)) (hi : P.info? el = some inf) (hz : inf.zero = some z) (hs : inf.size = 1) (hzc : z.cells = #[z])
    (h0 : a.eval p0 = v0) (c0 : v0.cells = #[v0]) (h1 : a.eval p1 = v1) (c1 : v1.cells = #[v1]) (h2 : a.eval p2 = v2) (c2 : v2.cells = #[v2]) (w : World) :
    (execOp a.eval o).run P w = .ok (.value (.slice (some ⟨w.heap.size, 0, none⟩) 3 3)) (w.alloc (.cells #[v0, v1, v2] el)) := by
  unfold execOp
  simp [ho, Instr.buildSlice, run_underlying ht, sizeOf, typeInfo, hi, hs, hz, hzc, zeroValue, Instr.fill, newRow, h0, c0, h1, c1, h2, c2]
  congr 2
  apply Array.ext'
  simp [Array.toList_setIfInBounds, Array.toList_range, List.range_succ]
/-- .. that looks at no memory. -/
theorem Chk_mv {x : Value} (he : (i == e) = false) (hw : Region.wanted o (yielded ops a.tmps) = true) (hΦ : Φ i = none)
    (hx : ∀ w, (execOp a.eval o).run P w = .ok (.value x) w)
    (hp : a.put o.dst x = a') (h : Chk P ops (fun w' => Ext w0 w') Φ e Z l (i + 1) a' F) : Chk P ops (fun w' => Ext w0 w') Φ e Z (o :: l) i a F :=
  Chk_pure he hw hΦ (fun w _ => hx w) hp h

/-- operations that look at no memory. -/
def kindMv : Op → Bool
  | .pick .. | .binOp .. | .unOp .. | .fieldAddr .. | .field .. | .extract .. | .nilCheck .. | .convert .. | .build .. | .index .. | .makeFunc .. => true
  | .call c => match c.callee with | .builtin .len => true | _ => false
  | _ => false
/-- .. or that read it. -/
def kindRd : Op → Bool
  | .load .. | .indexAddr .. => true
  | o => kindMv o

/-- a move. -/
theorem Chk_mov {x : Operand} (ho : o.op = .move x) (he : (i == e) = false) (hw : Region.wanted o (yielded ops a.tmps) = true) (hΦ : Φ i = none)
    (hp : a.put o.dst (a.eval x) = a') (h : Chk P ops (fun w' => Ext w0 w') Φ e Z l (i + 1) a' F) : Chk P ops (fun w' => Ext w0 w') Φ e Z (o :: l) i a F :=
  Chk_pure he hw hΦ (fun w _ => by unfold execOp; rw [ho]; rfl) hp h
theorem Chk_asg {x : Operand} (ho : o.op = .assign x) (he : (i == e) = false) (hw : Region.wanted o (yielded ops a.tmps) = true) (hΦ : Φ i = none)
    (hp : a.put o.dst (a.eval x) = a') (h : Chk P ops (fun w' => Ext w0 w') Φ e Z l (i + 1) a' F) : Chk P ops (fun w' => Ext w0 w') Φ e Z (o :: l) i a F :=
  Chk_pure he hw hΦ (fun w _ => by unfold execOp; rw [ho]; rfl) hp h

theorem Chk_mvk {x : Value} (_hk : kindMv o.op = true) (he : (i == e) = false) (hw : Region.wanted o (yielded ops a.tmps) = true) (hΦ : Φ i = none)
    (hx : ∀ w, (execOp a.eval o).run P w = .ok (.value x) w)
    (hp : a.put o.dst x = a') (h : Chk P ops (fun w' => Ext w0 w') Φ e Z l (i + 1) a' F) : Chk P ops (fun w' => Ext w0 w') Φ e Z (o :: l) i a F :=
  Chk_pure he hw hΦ (fun w _ => hx w) hp h

theorem Chk_rdk {x : Value} (_hk : kindRd o.op = true) (he : (i == e) = false) (hw : Region.wanted o (yielded ops a.tmps) = true) (hΦ : Φ i = none) (hE : early ops e i = true)
    (hx : ∀ w, Ext w0 w → ancF ops i F w → (execOp a.eval o).run P w = .ok (.value x) w)
    (hp : a.put o.dst x = a') (h : Chk P ops (fun w' => Ext w0 w') Φ e Z l (i + 1) a' F) : Chk P ops (fun w' => Ext w0 w') Φ e Z (o :: l) i a F :=
  Chk_pure he hw hΦ (fun w hh => hx w (hh hE).1 (hh hE).2) hp h

/-- .. that reads old memory. -/
theorem Chk_rd {x : Value} (he : (i == e) = false) (hw : Region.wanted o (yielded ops a.tmps) = true) (hΦ : Φ i = none) (hE : early ops e i = true)
    (hx : ∀ w, Ext w0 w → ancF ops i F w → (execOp a.eval o).run P w = .ok (.value x) w)
    (hp : a.put o.dst x = a') (h : Chk P ops (fun w' => Ext w0 w') Φ e Z l (i + 1) a' F) : Chk P ops (fun w' => Ext w0 w') Φ e Z (o :: l) i a F :=
  Chk_pure he hw hΦ (fun w hh => hx w (hh hE).1 (hh hE).2) hp h

theorem Chk_end (h : Z a F) : Chk P ops (fun w' => Ext w0 w') Φ e Z [] i a F := h

theorem ancF_get {i k : Nat} {f : World → Prop} {w : World} (h : ancF ops i (upd F k f) w) (hk : anc ops i k = true) : f w := (h k hk).2 rfl
theorem ancF_rest {i k : Nat} {f : World → Prop} {w : World} (h : ancF ops i (upd F k f) w) : ancF ops i F w := fun j hj => (h j hj).1
theorem all_get {k : Nat} {f : World → Prop} {w : World} (h : ∀ j, upd F k f j w) : f w := (h k).2 rfl
theorem all_rest {k : Nat} {f : World → Prop} {w : World} (h : ∀ j, upd F k f j w) : ∀ j, F j w := fun j => (h j).1
end

section
variable {P : Program} {ops : Array Oper} {w0 : World} {e k : Nat} {Q : Exit → Act → World → Prop} {a : Act} {F : Nat → World → Prop}
theorem Zed_none (he : ops.size ≤ e) (hk : ops.size ≤ k) (h : ∀ w, Ext w0 w → (∀ k, F k w) → Q .normal a w) : Zed P ops (fun w' => Ext w0 w') e k Q a F := by
  intro w hE hF
  rw [Array.getElem?_eq_none he, List.drop_eq_nil_of_le (by simpa using hk)]
  exact h w hE hF
end

/-- facts -/
def SP.ints (zs : List Int) : SP := ⟨fun w v => Ints w v zs, fun _ _ _ he h => Ints.ext h he⟩
def SP.sl (xs : List Value) : SP := ⟨fun w v => Sl w v xs, fun _ _ _ he h => Sl.ext h he⟩
def SP.own (w0 : World) (e : TypeId) (zs : List Int) : SP := ⟨fun w v => OwnI w w0.heap.size e v zs, fun _ _ _ he h => OwnI.ext h he⟩
def SP.is (x : Value) : SP := ⟨fun _ v => v = x, fun _ _ _ _ h => h⟩


theorem SlN.form {w : World} {s n : Nat} {v : Value} {xs : List Value} (h : SlN w s v n xs) : ∃ a cap, v = .slice a n cap := by
  obtain ⟨a, cap, rfl, _⟩ := h; exact ⟨a, cap, rfl⟩
theorem Ints.form {w : World} {v : Value} {zs : List Int} (h : Ints w v zs) : ∃ a cap, v = .slice a zs.length cap := by
  obtain ⟨a, cap, rfl, _⟩ := h; exact ⟨a, cap, by simp⟩

/-- a slice that an operation has just laid. -/
theorem SlN.alloc (w : World) (cs : Array Value) (e : TypeId) (s n cap : Nat) (h1 : n ≤ cap) (h2 : cap ≤ 9223372036854775807) (h3 : n * s ≤ cs.size) :
    SlN (w.alloc (.cells cs e)) s (.slice (some ⟨w.heap.size, 0, none⟩) n cap) n (cs.toList.take (n * s)) := by
  refine ⟨_, cap, rfl, h1, h2, by simp; omega, (fun h => by cases h), fun b hb => ?_⟩
  cases hb
  refine ⟨rfl, fun j x hj => ?_⟩
  rw [List.getElem?_take] at hj
  split at hj
  · rw [Nat.zero_add, World.cell?_alloc_new]; simpa using hj
  · cases hj

theorem Sl.alloc (w : World) (cs : List Value) (e : TypeId) (h2 : cs.length ≤ 9223372036854775807) : Sl (w.alloc (.cells cs.toArray e)) (.slice (some ⟨w.heap.size, 0, none⟩) cs.length cs.length) cs := by
  have := SlN.alloc w cs.toArray e 1 cs.length cs.length (Nat.le_refl _) h2 (by simp)
  simpa [Sl] using this

theorem Ext.alloc (w : World) (o : Obj) : Ext w (w.alloc o) := (Below.refl _ _).alloc (Nat.le_refl _) o

section
variable {P : Program}
/-- x[lo:hi] -/
theorem run_sub {w : World} {t e : TypeId} {i : TypeInfo} (s : Nat) (ht : P.underlying t = some (.slice e)) (hi : P.info? e = some i) (hs : i.size = s) {v : Value} {n : Nat} {xs : List Value} (hv : SlN w s v n xs)
    (lov hiv : Option Value) (lo hh : Nat) (hlo : lov = none ∧ lo = 0 ∨ lov = some (.int .i64 (lo : Int))) (hhi : hiv = none ∧ hh = n ∨ hiv = some (.int .i64 (hh : Int))) (h1 : lo ≤ hh) (h2 : hh ≤ n) :
    ∃ r, (Instr.sliceAt t v lov hiv none).run P w = .ok r w ∧ SlN w s r (hh - lo) ((xs.drop (lo * s)).take ((hh - lo) * s)) := by
  obtain ⟨a, cap, rfl, g1, g2, g3, g4, g5⟩ := hv
  have hrun : (Instr.sliceAt t (.slice a n cap) lov hiv none).run P w = .ok (.slice (if cap = lo then a else a.map (·.add (lo * s))) (hh - lo) (cap - lo)) w := by
    rcases hlo with ⟨rfl, rfl⟩ | rfl <;> rcases hhi with ⟨rfl, rfl⟩ | rfl <;>
      simp [Instr.sliceAt, Instr.slice, Instr.sliceBounds, Instr.sliceBound, run_underlying ht, sizeOf, typeInfo, hi, hs, asIntOf, h1, Nat.le_trans h2 g1] <;> omega
  refine ⟨_, hrun, _, cap - lo, rfl, by omega, by omega, ?_, ?_, ?_⟩
  · rw [List.length_take, List.length_drop, g3, ← Nat.sub_mul]
    exact Nat.min_eq_left (Nat.mul_le_mul_right _ (by omega))
  · intro h
    have : a = none := by
      split at h
      · exact h
      · simpa using h
    have := g4 this; omega
  · intro b hb
    have hadd : ∀ (c : Addr), c.spot = none → (c.add (lo * s)).block = c.block ∧ (c.add (lo * s)).off = c.off + lo * s ∧ (c.add (lo * s)).spot = none := by
      intro c hc; unfold Addr.add; split <;> simp_all
    by_cases hcl : cap = lo
    · rw [if_pos hcl] at hb
      refine ⟨(g5 b hb).1, fun j x hj => ?_⟩
      have : (hh - lo) * s = 0 := by rw [show hh - lo = 0 by omega]; simp
      rw [this] at hj; simp at hj
    · rw [if_neg hcl] at hb
      cases a with
      | none => simp at hb
      | some c =>
        simp at hb
        subst hb
        obtain ⟨q1, q2⟩ := g5 c rfl
        obtain ⟨p1, p2, p3⟩ := hadd c q1
        refine ⟨p3, fun j x hj => ?_⟩
        rw [p1, p2]
        rw [List.getElem?_take] at hj
        split at hj
        · rw [List.getElem?_drop] at hj
          have := q2 _ x hj
          rw [Nat.add_assoc]; exact this
        · cases hj

theorem run_sub_ints {w : World} {t e : TypeId} {i : TypeInfo} (ht : P.underlying t = some (.slice e)) (hi : P.info? e = some i) (hs : i.size = 1) {v : Value} {zs : List Int} (hv : Ints w v zs)
    (lov hiv : Option Value) (lo hh : Nat) (hlo : lov = none ∧ lo = 0 ∨ lov = some (.int .i64 (lo : Int))) (hhi : hiv = none ∧ hh = zs.length ∨ hiv = some (.int .i64 (hh : Int))) (h1 : lo ≤ hh) (h2 : hh ≤ zs.length) :
    ∃ r, (Instr.sliceAt t v lov hiv none).run P w = .ok r w ∧ Ints w r ((zs.drop lo).take (hh - lo)) := by
  obtain ⟨r, h3, h4⟩ := run_sub (P := P) 1 ht hi hs hv lov hiv lo hh hlo (by simpa using hhi) h1 (by simpa using h2)
  refine ⟨r, h3, ?_⟩
  unfold Ints Sl
  have hlen : ((zs.drop lo).take (hh - lo)).length = hh - lo := by simp; omega
  simp only [Nat.mul_one] at h4
  rw [List.length_map, hlen, List.map_take, List.map_drop]
  exact h4
end


section
variable {P : Program} {ops : Array Oper} {w0 : World} {Φ : Nat → Option SP} {e : Nat} {Z : Act → (Nat → World → Prop) → Prop} {l : List Oper} {o : Oper} {i : Nat} {a a' : Act} {F : Nat → World → Prop}

/-- x[lo:hi] of a slice of ints that was there. -/
theorem Chk_sub {ys : List Int} {t el : TypeId} {inf : TypeInfo} {x : Operand} {lov hiv : Option Operand} {zs : List Int} (he : (i == e) = false) (hw : Region.wanted o (yielded ops a.tmps) = true) (hΦ : Φ i = some (.ints ys))
    (ho : o.op = .slice t x lov hiv none) (ht : P.underlying t = some (.slice el)) (hi : P.info? el = some inf) (hs : inf.size = 1) (hv : Ints w0 (a.eval x) zs) (lo hh : Nat)
    (hlo : lov.map a.eval = none ∧ lo = 0 ∨ lov.map a.eval = some (.int .i64 (lo : Int))) (hhi : hiv.map a.eval = none ∧ hh = zs.length ∨ hiv.map a.eval = some (.int .i64 (hh : Int))) (h1 : lo ≤ hh) (h2 : hh ≤ zs.length)
    (hys : (zs.drop lo).take (hh - lo) = ys) (n : Nat) (hn : ys.length = n)
    (h : ∀ b c a', (∃ w, Ext w0 w ∧ Ints w (.slice b n c) ys) → a.put o.dst (.slice b n c) = a' → Chk P ops (fun w' => Ext w0 w') Φ e Z l (i + 1) a' (upd F i fun w => Ints w (.slice b n c) ys)) : Chk P ops (fun w' => Ext w0 w') Φ e Z (o :: l) i a F := by
  subst hn
  refine Chk_val he hw hΦ (fun w hE hF => ?_) (fun u a' hu hp => ?_)
  · obtain ⟨r, g1, g2⟩ := run_sub_ints (P := P) ht hi hs (hv.ext hE) _ _ lo hh hlo hhi h1 h2
    refine ⟨r, w, ?_, Ext.rfl' w, ?_⟩
    · unfold execOp
      simp only [ho, Option.map_none, Sem.run_bind, g1, Result.andThen_ok, Sem.run_pure]
    · rw [hys] at g2; exact g2
  · obtain ⟨w, hE, hu⟩ := hu
    obtain ⟨b, c, rfl⟩ := Ints.form hu
    exact h b c a' ⟨w, hE, hu⟩ hp

/-- a slice literal. -/
theorem Chk_lit {cs : List Value} {el : TypeId} (he : (i == e) = false) (hw : Region.wanted o (yielded ops a.tmps) = true) (hΦ : Φ i = some (.sl cs)) (hc : cs.length ≤ 9223372036854775807)
    (hx : ∀ w, (execOp a.eval o).run P w = .ok (.value (.slice (some ⟨w.heap.size, 0, none⟩) cs.length cs.length)) (w.alloc (.cells cs.toArray el)))
    (n : Nat) (hn : cs.length = n)
    (h : ∀ b c a', (∃ w, Ext w0 w ∧ Sl w (.slice b n c) cs) → a.put o.dst (.slice b n c) = a' → Chk P ops (fun w' => Ext w0 w') Φ e Z l (i + 1) a' (upd F i fun w => Sl w (.slice b n c) cs)) : Chk P ops (fun w' => Ext w0 w') Φ e Z (o :: l) i a F := by
  subst hn
  refine Chk_val he hw hΦ (fun w hE hF => ?_) (fun u a' hu hp => ?_)
  · exact ⟨_, _, hx w, Ext.alloc _ _, Sl.alloc w cs el hc⟩
  · obtain ⟨w, hE, hu⟩ := hu
    obtain ⟨b, c, rfl⟩ := SlN.form hu
    exact h b c a' ⟨w, hE, hu⟩ hp

theorem Chk_litI {zs : List Int} {el : TypeId} (he : (i == e) = false) (hw : Region.wanted o (yielded ops a.tmps) = true) (hΦ : Φ i = some (.ints zs)) (hc : zs.length ≤ 9223372036854775807)
    (hx : ∀ w, (execOp a.eval o).run P w = .ok (.value (.slice (some ⟨w.heap.size, 0, none⟩) zs.length zs.length)) (w.alloc (.cells (zs.map (Value.int .i64)).toArray el)))
    (n : Nat) (hn : zs.length = n)
    (h : ∀ b c a', (∃ w, Ext w0 w ∧ Ints w (.slice b n c) zs) → a.put o.dst (.slice b n c) = a' → Chk P ops (fun w' => Ext w0 w') Φ e Z l (i + 1) a' (upd F i fun w => Ints w (.slice b n c) zs)) : Chk P ops (fun w' => Ext w0 w') Φ e Z (o :: l) i a F := by
  subst hn
  refine Chk_val he hw hΦ (fun w hE hF => ?_) (fun u a' hu hp => ?_)
  · refine ⟨_, _, hx w, Ext.alloc _ _, ?_⟩
    have := Sl.alloc w (zs.map (Value.int .i64)) el (by simpa using hc)
    simp only [List.length_map] at this
    exact this
  · obtain ⟨w, hE, hu⟩ := hu
    obtain ⟨b, c, rfl⟩ := Ints.form hu
    exact h b c a' ⟨w, hE, hu⟩ hp
end


/-- the elements of a list of slices. -/
def Rows2 (w : World) (vs : List Value) (xss : List (List Int)) : Prop := vs.length = xss.length ∧ ∀ (i : Nat) (x : Value), vs[i]? = some x → Ints w x (xss.getD i [])
theorem Rows2.ext {w w' : World} {vs : List Value} {xss : List (List Int)} (h : Rows2 w vs xss) (he : Ext w w') : Rows2 w' vs xss := ⟨h.1, fun i x hi => (h.2 i x hi).ext he⟩
theorem Rows2.nil (w : World) : Rows2 w [] [] := ⟨rfl, fun i x h => by simp at h⟩
theorem Rows2.cons {w : World} {v : Value} {vs : List Value} {x : List Int} {xss : List (List Int)} (hv : Ints w v x) (h : Rows2 w vs xss) : Rows2 w (v :: vs) (x :: xss) := by
  refine ⟨by simp [h.1], fun i y hi => ?_⟩
  cases i with
  | zero => simp at hi; subst hi; simpa using hv
  | succ i => simp at hi ⊢; simpa using h.2 i y hi

def IntsS (w : World) (v : Value) (xss : List (List Int)) : Prop := ∃ vs, Sl w v vs ∧ Rows2 w vs xss
theorem IntsS.ext {w w' : World} {v : Value} {xss : List (List Int)} (h : IntsS w v xss) (he : Ext w w') : IntsS w' v xss := by
  obtain ⟨vs, h1, h2⟩ := h; exact ⟨vs, h1.ext he, h2.ext he⟩
theorem IntsS.form {w : World} {v : Value} {xss : List (List Int)} (h : IntsS w v xss) : ∃ a cap, v = .slice a xss.length cap := by
  obtain ⟨vs, h1, h2⟩ := h
  obtain ⟨a, c, rfl⟩ := SlN.form h1
  exact ⟨a, c, by rw [h2.1]⟩
def SP.rows (xss : List (List Int)) : SP := ⟨fun w v => IntsS w v xss, fun _ _ _ he h => h.ext he⟩

section
variable {P : Program} {ops : Array Oper} {w0 : World} {Φ : Nat → Option SP} {e : Nat} {Z : Act → (Nat → World → Prop) → Prop} {l : List Oper} {o : Oper} {i : Nat} {a a' : Act} {F : Nat → World → Prop}
theorem Chk_litR {cs : List Value} {xss : List (List Int)} {el : TypeId} (he : (i == e) = false) (hw : Region.wanted o (yielded ops a.tmps) = true) (hΦ : Φ i = some (.rows xss)) (hc : cs.length ≤ 9223372036854775807)
    (hr : ∀ w, Ext w0 w → ancF ops i F w → Rows2 w cs xss)
    (hx : ∀ w, (execOp a.eval o).run P w = .ok (.value (.slice (some ⟨w.heap.size, 0, none⟩) cs.length cs.length)) (w.alloc (.cells cs.toArray el)))
    (n : Nat) (hn : xss.length = n)
    (h : ∀ b c a', (∃ w, Ext w0 w ∧ IntsS w (.slice b n c) xss) → a.put o.dst (.slice b n c) = a' → Chk P ops (fun w' => Ext w0 w') Φ e Z l (i + 1) a' (upd F i fun w => IntsS w (.slice b n c) xss)) : Chk P ops (fun w' => Ext w0 w') Φ e Z (o :: l) i a F := by
  subst hn
  refine Chk_val he hw hΦ (fun w hE hF => ?_) (fun u a' hu hp => ?_)
  · exact ⟨_, _, hx w, Ext.alloc _ _, cs, Sl.alloc w cs el hc, (hr w hE hF).ext (Ext.alloc _ _)⟩
  · obtain ⟨w, hE, hu⟩ := hu
    obtain ⟨b, c, rfl⟩ := IntsS.form hu
    exact h b c a' ⟨w, hE, hu⟩ hp
end


section
variable {P : Program} {ops : Array Oper} {w0 : World} {Φ : Nat → Option SP} {e : Nat} {Z : Act → (Nat → World → Prop) → Prop} {l : List Oper} {o : Oper} {i : Nat} {a a' : Act} {F : Nat → World → Prop}
/-- a call whose value is known. -/
theorem Chk_callv {f : FuncId} {args : Array Value} (x : Value) (he : (i == e) = false) (hw : Region.wanted o (yielded ops a.tmps) = true) (hΦ : Φ i = some (.is x))
    (hr : ∀ w, (execOp a.eval o).run P w = .ok (.enter f args) w)
    (hx : ∀ w, Ext w0 w → ancF ops i F w → Calls P f args w fun e w' => e = .returned x ∧ Ext w w')
    (hp : a.put o.dst x = a')
    (h : Chk P ops (fun w' => Ext w0 w') Φ e Z l (i + 1) a' (upd F i fun _ => x = x)) : Chk P ops (fun w' => Ext w0 w') Φ e Z (o :: l) i a F := by
  refine Chk_call he hw hΦ hr (fun w hE hF => (hx w hE hF).mono fun e w' ⟨h1, h2⟩ => ⟨x, h1, h2, rfl⟩) fun u a'' hu hp' => ?_
  obtain ⟨w, _, hu⟩ := hu
  have hu : u = x := hu
  subst hu
  rw [← hp', hp]
  exact h
theorem Chk_callvf {f : FuncId} {fn : Func} {xs : Array Operand} {ats : Array TypeId} {args : Array Value} (x : Value) (ho : o.op = .call { callee := .value (.func f), args := xs, argTypes := ats }) (hf : P.funcs[f]? = some fn)
    (hn : (fn.name == "runtime.NumGoroutine") = false) (hb : fn.body.isNone = false) (ha : xs.map a.eval = args) (he : (i == e) = false) (hw : Region.wanted o (yielded ops a.tmps) = true) (hΦ : Φ i = some (.is x))
    (hx : ∀ w, Ext w0 w → ancF ops i F w → Calls P f args w fun e w' => e = .returned x ∧ Ext w w')
    (hp : a.put o.dst x = a')
    (h : Chk P ops (fun w' => Ext w0 w') Φ e Z l (i + 1) a' (upd F i fun _ => x = x)) : Chk P ops (fun w' => Ext w0 w') Φ e Z (o :: l) i a F :=
  Chk_callv x he hw hΦ (run_call ho hf hn hb ha) hx hp h
end

theorem Ints.at {w : World} {a : Option Addr} {n cap : Nat} {zs : List Int} {k : Nat} (h : Ints w (.slice a n cap) zs) (hk : k < zs.length) :
    ∃ b off x, a = some ⟨b, off, none⟩ ∧ zs[k]? = some x ∧ w.cell? ⟨b, off + k, none⟩ = some (.int .i64 x) := by
  obtain ⟨a', cap', he, h1, h2, h3, h4, h5⟩ := h
  cases he
  cases a with
  | none => exact absurd (h4 rfl) (by simp only [List.length_map]; omega)
  | some b =>
    obtain ⟨bb, off, spot⟩ := b
    obtain ⟨hs, hc⟩ := h5 _ rfl
    simp only at hs hc
    subst hs
    have hx := List.getElem?_eq_getElem hk
    exact ⟨bb, off, zs[k], rfl, hx, hc k _ (by rw [List.getElem?_map, hx]; rfl)⟩

theorem Ints.cap {w : World} {a : Option Addr} {n cap : Nat} {zs : List Int} (h : Ints w (.slice a n cap) zs) : n = zs.length ∧ n ≤ cap ∧ cap ≤ 9223372036854775807 := by
  obtain ⟨a', cap', he, h1, h2, _⟩ := h
  cases he
  simp only [List.length_map] at h1 ⊢
  exact ⟨trivial, h1, h2⟩


/-- a pointer to new memory that holds two slices of new memory. -/
def PairAt (w : World) (B T E : Nat) (v : Value) (lo yo : List Int) : Prop :=
  ∃ b lv yv, v = .pointer (some ⟨b, 0, none⟩) ∧ B ≤ b ∧ w.heap[b]? = some (.cells #[lv, yv] T (0, 0)) ∧ OwnI w B E lv lo ∧ OwnI w B E yv yo

theorem heap_ext {w w' : World} (h : Ext w w') {b : Nat} {o : Obj} (hb : w.heap[b]? = some o) : w'.heap[b]? = some o := by
  rw [h.block b (Array.getElem?_eq_some_iff.1 hb).1]; exact hb

theorem PairAt.ext {w w' : World} {B T E : Nat} {v : Value} {lo yo : List Int} (h : PairAt w B T E v lo yo) (he : Ext w w') : PairAt w' B T E v lo yo := by
  obtain ⟨b, lv, yv, rfl, h1, h2, h3, h4⟩ := h
  exact ⟨b, lv, yv, rfl, h1, heap_ext he h2, h3.ext he, h4.ext he⟩

def SP.pair (w0 : World) (T E : Nat) (lo yo : List Int) : SP := ⟨fun w v => PairAt w w0.heap.size T E v lo yo, fun _ _ _ he h => h.ext he⟩

theorem OwnI.form {w : World} {B : Nat} {e : TypeId} {v : Value} {zs : List Int} (h : OwnI w B e v zs) : ∃ a cap, v = .slice a zs.length cap := h.ints.form


/-- v is a slice of ints in memory of its own from block B on, that may be written. -/
def FreI (w : World) (B : Nat) (E : TypeId) (v : Value) (zs : List Int) : Prop :=
  Ints w v zs ∧ ∀ b n cap, v = .slice (some b) n cap → B ≤ b.block ∧ ∃ cs, w.heap[b.block]? = some (.cells cs E (0, 0))

theorem FreI.ext {w w' : World} {B : Nat} {E : TypeId} {v : Value} {zs : List Int} (h : FreI w B E v zs) (he : Ext w w') : FreI w' B E v zs :=
  ⟨h.1.ext he, fun b n cap hv => let ⟨h1, cs, h2⟩ := h.2 b n cap hv; ⟨h1, cs, heap_ext he h2⟩⟩
theorem FreI.base {w : World} {B B' : Nat} {E : TypeId} {v : Value} {zs : List Int} (h : FreI w B E v zs) (hb : B' ≤ B) : FreI w B' E v zs :=
  ⟨h.1, fun b n cap hv => let ⟨h1, h2⟩ := h.2 b n cap hv; ⟨Nat.le_trans hb h1, h2⟩⟩
theorem OwnI.fre {w : World} {B : Nat} {E : TypeId} {v : Value} {zs : List Int} (h : OwnI w B E v zs) : FreI w B E v zs := by
  refine ⟨h.ints, fun b n cap hv => ?_⟩
  rcases h.2 with ⟨rfl, _⟩ | ⟨g, cap', cur, rfl, hg, hh, _⟩
  · cases hv
  · cases hv; exact ⟨hg, cur, hh⟩
theorem FreI.nil (w : World) (B : Nat) (E : TypeId) : FreI w B E (.slice none 0 0) [] := ⟨Ints.nil w, fun b n cap h => by cases h⟩

theorem cell_setCell {w : World} {p : Addr} {x : Value} {b o : Nat} (h : b ≠ p.block) : (w.setCell p x).cell? ⟨b, o, none⟩ = w.cell? ⟨b, o, none⟩ :=
  World.cell?_setCell_other _ _ _ _ (fun e => h (by rw [e]))

theorem heap_setCell {w : World} {p : Addr} {x : Value} {b : Nat} (h : b ≠ p.block) : (w.setCell p x).heap[b]? = w.heap[b]? := Below.heap_setCell _ _ _ _ h

theorem FreI.set {w : World} {B : Nat} {E T : TypeId} {v : Value} {zs : List Int} {p : Addr} {x : Value} {cs : Array Value} {f : Nat × Nat} (h : FreI w B E v zs) (hp : w.heap[p.block]? = some (.cells cs T f)) (hT : (T == E) = false) :
    FreI (w.setCell p x) B E v zs := by
  have hne : ∀ b n cap, v = .slice (some b) n cap → b.block ≠ p.block := by
    intro b n cap hv e
    obtain ⟨_, c, hc⟩ := h.2 b n cap hv
    rw [e, hp] at hc
    cases hc
    simp at hT
  obtain ⟨h1, h2⟩ := h
  refine ⟨?_, fun b n cap hv => ?_⟩
  · obtain ⟨a, cap, rfl, g1, g2, g3, g4, g5⟩ := h1
    refine ⟨a, cap, rfl, g1, g2, g3, g4, fun b hb => ⟨(g5 b hb).1, fun j y hj => ?_⟩⟩
    subst hb
    rw [cell_setCell (hne b _ _ rfl)]
    exact (g5 b rfl).2 j y hj
  · obtain ⟨q1, c, q2⟩ := h2 b n cap hv
    exact ⟨q1, c, by rw [heap_setCell (hne b n cap hv)]; exact q2⟩

theorem FreI.form {w : World} {B : Nat} {e : TypeId} {v : Value} {zs : List Int} (h : FreI w B e v zs) : ∃ a cap, v = .slice a zs.length cap := h.1.form


def SP.fre (w0 : World) (e : TypeId) (zs : List Int) : SP := ⟨fun w v => FreI w w0.heap.size e v zs, fun _ _ _ he h => FreI.ext h he⟩

theorem Qo_normal {Q : Exit → Act → World → Prop} {a : Act} {w : World} (h : Q .normal a w) : Qo Q .normal a w := h

section
variable {P : Program} {ops : Array Oper} {w0 : World} {Φ : Nat → Option SP} {e : Nat} {Z : Act → (Nat → World → Prop) → Prop} {l : List Oper} {o : Oper} {i : Nat} {a a' : Act} {F : Nat → World → Prop}

theorem run_sub_block {w : World} {t el : TypeId} {i : TypeInfo} (ht : P.underlying t = some (.slice el)) (hi : P.info? el = some i) {a : Option Addr} {n cap : Nat}
    (lov hiv : Option Value) {r : Value} (h : (Instr.sliceAt t (.slice a n cap) lov hiv none).run P w = .ok r w) : ∀ b m c, r = .slice (some b) m c → ∃ b0, a = some b0 ∧ b0.block = b.block := by
  intro b m c hr
  subst hr
  simp only [Instr.sliceAt, Instr.slice, run_underlying ht, Sem.run_bind, Result.andThen_ok] at h
  generalize hsb : Sem.run P (Instr.sliceBounds true n cap lov hiv none) w = q at h
  cases q with
  | halt x w' => simp [Result.andThen] at h
  | ok v w' =>
    obtain ⟨l, hh, m'⟩ := v
    simp [sizeOf, typeInfo, hi] at h
    obtain ⟨⟨h1, _⟩, _⟩ := h
    split at h1
    · exact ⟨b, h1, rfl⟩
    · cases a with
      | none => simp at h1
      | some b0 =>
        simp at h1
        refine ⟨b0, rfl, ?_⟩
        rw [← h1]; unfold Addr.add; split <;> rfl

/-- x[lo:hi] of fresh ints. -/
theorem Chk_subF {ys : List Int} {t el : TypeId} {inf : TypeInfo} {x : Operand} {lov hiv : Option Operand} {zs : List Int} {wB : World} {E : TypeId} (he : (i == e) = false) (hw : Region.wanted o (yielded ops a.tmps) = true) (hΦ : Φ i = some (.fre wB E ys))
    (ho : o.op = .slice t x lov hiv none) (ht : P.underlying t = some (.slice el)) (hi : P.info? el = some inf) (hs : inf.size = 1) (hv : FreI w0 wB.heap.size E (a.eval x) zs) (lo hh : Nat)
    (hlo : lov.map a.eval = none ∧ lo = 0 ∨ lov.map a.eval = some (.int .i64 (lo : Int))) (hhi : hiv.map a.eval = none ∧ hh = zs.length ∨ hiv.map a.eval = some (.int .i64 (hh : Int))) (h1 : lo ≤ hh) (h2 : hh ≤ zs.length)
    (hys : (zs.drop lo).take (hh - lo) = ys) (n : Nat) (hn : ys.length = n)
    (h : ∀ b c a', (∃ w, Ext w0 w ∧ FreI w wB.heap.size E (.slice b n c) ys) → a.put o.dst (.slice b n c) = a' → Chk P ops (fun w' => Ext w0 w') Φ e Z l (i + 1) a' (upd F i fun w => FreI w wB.heap.size E (.slice b n c) ys)) : Chk P ops (fun w' => Ext w0 w') Φ e Z (o :: l) i a F := by
  subst hn
  refine Chk_val he hw hΦ (fun w hE hF => ?_) (fun u a' hu hp => ?_)
  · obtain ⟨r, g1, g2⟩ := run_sub_ints (P := P) ht hi hs (hv.1.ext hE) _ _ lo hh hlo hhi h1 h2
    refine ⟨r, w, ?_, Ext.rfl' w, ?_⟩
    · unfold execOp
      simp only [ho, Option.map_none, Sem.run_bind, g1, Result.andThen_ok, Sem.run_pure]
    · rw [hys] at g2
      refine ⟨g2, fun b n cap hr => ?_⟩
      have hv' := hv.ext hE
      obtain ⟨aa, cc, hform⟩ := hv.form
      rw [hform] at g1 hv'
      obtain ⟨b0, hb0, hbb⟩ := run_sub_block ht hi _ _ g1 b n cap hr
      subst hb0
      rw [← hbb]
      exact hv'.2 b0 _ _ rfl
  · obtain ⟨w, hE, hu⟩ := hu
    obtain ⟨b, c, rfl⟩ := FreI.form hu
    exact h b c a' ⟨w, hE, hu⟩ hp
end

/-- trains in fresh memory. -/
def TrF (w : World) (B : Nat) (E : TypeId) (v : Value) (lo yo : List Int) : Prop := ∃ u1 u2, v = .agg #[u1, u2] ∧ FreI w B E u1 lo ∧ FreI w B E u2 yo
theorem TrF.ext {w w' : World} {B : Nat} {E : TypeId} {v : Value} {lo yo : List Int} (h : TrF w B E v lo yo) (he : Ext w w') : TrF w' B E v lo yo := by
  obtain ⟨u1, u2, rfl, h1, h2⟩ := h; exact ⟨u1, u2, rfl, h1.ext he, h2.ext he⟩
theorem TrF.base {w : World} {B B' : Nat} {E : TypeId} {v : Value} {lo yo : List Int} (h : TrF w B E v lo yo) (hb : B' ≤ B) : TrF w B' E v lo yo := by
  obtain ⟨u1, u2, rfl, h1, h2⟩ := h; exact ⟨u1, u2, rfl, h1.base hb, h2.base hb⟩
theorem TrF.nil (w : World) (B : Nat) (E : TypeId) : TrF w B E (.agg #[.slice none 0 0, .slice none 0 0]) [] [] := ⟨_, _, rfl, FreI.nil _ _ _, FreI.nil _ _ _⟩


/-- block b is a row of cells of type T that may be written. -/
def IsBlk (w : World) (b : Nat) (T : TypeId) : Prop := ∃ cs, w.heap[b]? = some (.cells cs T (0, 0))
theorem IsBlk.ext {w w' : World} {b : Nat} {T : TypeId} (h : IsBlk w b T) (he : Ext w w') : IsBlk w' b T := by obtain ⟨cs, h⟩ := h; exact ⟨cs, heap_ext he h⟩
theorem IsBlk.set {w : World} {b : Nat} {T : TypeId} (h : IsBlk w b T) (p : Addr) (x : Value) : IsBlk (w.setCell p x) b T := by
  obtain ⟨cs, h⟩ := h
  by_cases hb : b = p.block
  · subst hb
    simp only [IsBlk, World.setCell, Array.getElem?_modify, if_true, h, Option.map_some]
    exact ⟨_, rfl⟩
  · exact ⟨cs, by rw [heap_setCell hb]; exact h⟩
theorem IsBlk.alloc (w : World) (cs : Array Value) (T : TypeId) : IsBlk (w.alloc (.cells cs T)) w.heap.size T := ⟨cs, heap_alloc_new _ _⟩
theorem FreI.setB {w : World} {B : Nat} {E T : TypeId} {v : Value} {zs : List Int} {b o : Nat} {x : Value} (h : FreI w B E v zs) (hp : IsBlk w b T) (hT : (T == E) = false) : FreI (w.setCell ⟨b, o, none⟩ x) B E v zs := by
  obtain ⟨cs, hp⟩ := hp
  exact h.set hp hT
theorem TrF.setB {w : World} {B : Nat} {E T : TypeId} {v : Value} {lo yo : List Int} {b o : Nat} {x : Value} (h : TrF w B E v lo yo) (hp : IsBlk w b T) (hT : (T == E) = false) : TrF (w.setCell ⟨b, o, none⟩ x) B E v lo yo := by
  obtain ⟨u1, u2, rfl, h1, h2⟩ := h
  exact ⟨u1, u2, rfl, h1.setB hp hT, h2.setB hp hT⟩
/-- a block of old memory whose cells are known. -/
theorem blk_cells {w : World} {b : Nat} {cs : Array Value} {T : TypeId} (h : w.heap[b]? = some (.cells cs T (0, 0))) : ∀ o, w.cell? ⟨b, o, none⟩ = cs[o]? := fun o => cell_of_row w b o cs T (0, 0) h
theorem blk_frozen {w : World} {b : Nat} {T : TypeId} (h : IsBlk w b T) (o : Nat) : w.frozen? ⟨b, o, none⟩ = false := by
  obtain ⟨cs, h⟩ := h; simp [World.frozen?, h]
end Go.Own
namespace Go.Own
open Go Go.RowKit
section
variable {P : Program} {ops : Array Oper} {w0 : World} {e k : Nat} {Q : Exit → Act → World → Prop} {a : Act} {F : Nat → World → Prop}
theorem Zed_eff {o : Oper} {l : List Oper} (he : ops[e]? = some o) (hk : ops.toList.drop k = l) (h : ∀ w, Ext w0 w → (∀ k, F k w) → wpList P ops (Qo Q) (o :: l) a w) : Zed P ops (fun w' => Ext w0 w') e k Q a F := by
  intro w hE hF
  rw [he, hk]
  exact h w hE hF
end
end Go.Own
namespace Go.Own
open Go Go.RowKit
/-- the second of two new blocks. -/
theorem res_new (w : World) (o : Obj) (cs : Array Value) (T : TypeId) : ((w.alloc o).alloc (.cells cs T)).heap[w.heap.size + 1]? = some (.cells cs T (0, 0)) := by
  have := heap_alloc_new (w.alloc o) (.cells cs T)
  simpa using this
/-- a row of two cells, as the walk wants it. -/
theorem blk2 {w : World} {b : Nat} {x y : Value} {T : TypeId} (h : w.heap[b]? = some (.cells #[x, y] T (0, 0))) :
    w.cell? ⟨b, 0, none⟩ = some x ∧ w.cell? ⟨b, 1, none⟩ = some y ∧ (∀ o, w.frozen? ⟨b, o, none⟩ = false) ∧ b < w.heap.size :=
  ⟨by rw [blk_cells h]; rfl, by rw [blk_cells h]; rfl, blk_frozen ⟨_, h⟩, (Array.getElem?_eq_some_iff.1 h).1⟩
/-- both cells of a row of two are written. -/
theorem set01 {w : World} {b : Nat} {x y p q : Value} {T : TypeId} (h : w.heap[b]? = some (.cells #[x, y] T (0, 0))) :
    ((w.setCell ⟨b, 0, none⟩ p).setCell ⟨b, 1, none⟩ q).heap[b]? = some (.cells #[p, q] T (0, 0)) := by
  simp only [World.setCell, Array.getElem?_modify, if_true, h, Option.map_some]
  rfl
theorem set0 {w : World} {b : Nat} {x y p : Value} {T : TypeId} (h : w.heap[b]? = some (.cells #[x, y] T (0, 0))) :
    (w.setCell ⟨b, 0, none⟩ p).heap[b]? = some (.cells #[p, y] T (0, 0)) := by
  simp only [World.setCell, Array.getElem?_modify, if_true, h, Option.map_some]
  rfl
theorem set1 {w : World} {b : Nat} {x y q : Value} {T : TypeId} (h : w.heap[b]? = some (.cells #[x, y] T (0, 0))) :
    (w.setCell ⟨b, 1, none⟩ q).heap[b]? = some (.cells #[x, q] T (0, 0)) := by
  simp only [World.setCell, Array.getElem?_modify, if_true, h, Option.map_some]
  rfl
end Go.Own
namespace Go.Own
open Go Go.RowKit
section
variable {P : Program}
/-- append(s, x...) of ints, s being memory of the call's own since the world w0. -/
theorem wpList_appI {ops : Array Oper} {rest : List Oper} {o : Oper} {a : Act} {Q : Exit → Act → World → Prop} {w0 w : World} (hgd : o.guard = none) (s x : Operand) (t t2 : TypeId)
    (ho : o.op = .call { callee := .builtin .append, args := #[s, x], argTypes := #[t, t2] })
    (e e2 : TypeId) (i : TypeInfo) (ht : P.underlying t = some (.slice e)) (ht2 : P.underlying t2 = some (.slice e2)) (hi : P.info? e = some i) (hz : i.zero = some (.int .i64 0)) (hs1 : i.size = 1) (hby : i.bytes = 8)
    (hE : Ext w0 w) (xs ys : List Int) (hown : OwnI w w0.heap.size e (a.eval s) xs) (hy : Ints w (a.eval x) ys) (hlen : xs.length + ys.length ≤ 1000000)
    (h : ∀ v' w', OwnI w' w0.heap.size e v' (xs ++ ys) → Ext w0 w' → wpList P ops Q rest (a.put o.dst v') w') : wpList P ops Q (o :: rest) a w := by
  refine wpList_append_ext hgd s x t t2 ho w0.heap.size e e2 i (.int .i64 0) 1 8 ht ht2 hi hz hs1 hby rfl (by decide) _ _ hown _ _ hy ?_ (by simp only [List.length_map]; omega) (by simp only [List.length_map]; omega) hE.size ?_
  · intro u hu; obtain ⟨x, _, rfl⟩ := List.mem_map.1 hu; rfl
  · intro v' w' hown' hgrow _
    refine h v' w' ?_ (hE.grown hgrow hE.size (fun j hj => (hown.lt j hj).1))
    unfold OwnI
    rw [List.map_append, List.length_append]
    simpa using hown'

/-- append([]int{}, y...) -/
theorem run_fresh {w : World} (B : Nat) (t t2 ty e e2 : TypeId) (i : TypeInfo) (ht : P.underlying t = some (.slice e)) (ht2 : P.underlying t2 = some (.slice e2)) (hi : P.info? e = some i) (hz : i.zero = some (.int .i64 0)) (hs1 : i.size = 1) (hby : i.bytes = 8)
    (g : Nat) (hg : w.heap[g]? = some (.cells #[] e (0, 0))) (hB : B ≤ g) {y : Value} {zs : List Int} (hy : Ints w y zs) (hlen : zs.length ≤ 1000000) :
    ∃ v' w', (Builtin.append_ #[t, t2] ty #[.slice (some ⟨g, 0, none⟩) 0 0, y]).run P w = .ok v' w' ∧ OwnI w' B e v' zs ∧ Ext w w' := by
  have key : (Builtin.append_ #[t, t2] ty #[.slice (some ⟨g, 0, none⟩) 0 0, y]).run P w = (Builtin.append_ #[t, t] ty #[.slice (some ⟨g, 0, none⟩) 0 0, y]).run P w := by
    simp [Builtin.append_, run_underlying ht, run_underlying ht2]
  rw [key]
  have hgs : g < w.heap.size := (Array.getElem?_eq_some_iff.1 hg).1
  obtain ⟨a, cap, rfl⟩ := hy.form
  by_cases h0 : zs.length = 0
  · have hz0 := List.eq_nil_of_length_eq_zero h0
    subst hz0
    refine ⟨.slice (some ⟨g, 0, none⟩) 0 0, w, ?_, ⟨by simp, .inr ⟨g, 0, #[], rfl, hB, hg, by simp, by simp, by simp, by simp⟩⟩, Ext.rfl' w⟩
    cases a with
    | none => simp [Builtin.append_, run_underlying ht, sizeOf, typeInfo, hi, Builtin.lenOf, Builtin.firstCells, storeCells]
    | some b => simp [Builtin.append_, run_underlying ht, sizeOf, typeInfo, hi, Builtin.lenOf, Builtin.firstCells, loadCells, loadCellsFrom, storeCells]
  · cases a with
    | none => 
      obtain ⟨_, _, _, hh, _⟩ := hy.at (k := 0) (by omega)
      cases hh
    | some b =>
      have hadds := SlN.adds (s := 1) (n := zs.length) (by simpa [Ints, Sl] using hy)
      have hr := run_append_grow (P := P) w t ty e i (.int .i64 0) ht hi hz ⟨g, 0, none⟩ 0 0 [] (by simp) (by simp) b zs.length cap (zs.map (Value.int .i64)) (by simp [hs1]) hadds (by omega) (by omega) (growslice_fits (by omega) (by rw [hby]; omega))
      refine ⟨_, _, hr, ?_, ?_⟩
      · have hge := grownCap_ge w (0 + zs.length) 0 e
        have hcm : grownCap w (0 + zs.length) 0 e ≤ maxLen := grownCap_le_maxLen w (0 + zs.length) 0 e (by unfold maxLen; omega)
        refine ⟨by simp, .inr ⟨w.heap.size, grownCap w (0 + zs.length) 0 e, _, by rw [Nat.zero_add], by omega, heap_alloc_new w.drew _, by rw [Nat.zero_add] at hge ⊢; exact hge, hcm, ?_, ?_⟩⟩
        · simp [size_zeroCells, Value.cells]
          simp at hge
          omega
        · simp
      · exact ⟨rfl, rfl, rfl, by simp, fun k hk => Below.heap_alloc w.drew _ k hk⟩

def SP.emp (w0 : World) (e : TypeId) : SP := ⟨fun w v => ∃ g, v = .slice (some ⟨g, 0, none⟩) 0 0 ∧ w0.heap.size ≤ g ∧ w.heap[g]? = some (.cells #[] e (0, 0)),
  fun _ _ _ he ⟨g, h1, h2, h3⟩ => ⟨g, h1, h2, heap_ext he h3⟩⟩

variable {ops : Array Oper} {w0 : World} {Φ : Nat → Option SP} {e : Nat} {Z : Act → (Nat → World → Prop) → Prop} {l : List Oper} {o : Oper} {i : Nat} {a a' : Act} {F : Nat → World → Prop}

/-- []int{} -/
theorem Chk_emp {wB : World} {el : TypeId} (he : (i == e) = false) (hw : Region.wanted o (yielded ops a.tmps) = true) (hΦ : Φ i = some (.emp wB el)) (hB : wB.heap.size ≤ w0.heap.size)
    (hx : ∀ w, (execOp a.eval o).run P w = .ok (.value (.slice (some ⟨w.heap.size, 0, none⟩) 0 0)) (w.alloc (.cells #[] el)))
    (h : ∀ g a', a.put o.dst (.slice (some ⟨g, 0, none⟩) 0 0) = a' → Chk P ops (fun w' => Ext w0 w') Φ e Z l (i + 1) a' (upd F i fun w => ∃ g', Value.slice (some ⟨g, 0, none⟩) 0 0 = .slice (some ⟨g', 0, none⟩) 0 0 ∧ wB.heap.size ≤ g' ∧ w.heap[g']? = some (.cells #[] el (0, 0)))) : Chk P ops (fun w' => Ext w0 w') Φ e Z (o :: l) i a F := by
  refine Chk_val he hw hΦ (fun w hE hF => ⟨_, _, hx w, Ext.alloc _ _, w.heap.size, rfl, by have := hE.size; omega, heap_alloc_new _ _⟩) (fun u a' hu hp => ?_)
  obtain ⟨w, hE, g, rfl, h1, h2⟩ := hu
  exact h g a' hp

/-- append([]int{}, y...) in a region that draws. -/
theorem Chk_appE {wB : World} {el t t2 e2 : TypeId} {inf : TypeInfo} {s x : Operand} {zs : List Int} {g : Nat} (he : (i == e) = false) (hw : Region.wanted o (yielded ops a.tmps) = true) (hΦ : Φ i = some (.own wB el zs))
    (ho : o.op = .call { callee := .builtin .append, args := #[s, x], argTypes := #[t, t2] })
    (ht : P.underlying t = some (.slice el)) (ht2 : P.underlying t2 = some (.slice e2)) (hi : P.info? el = some inf) (hz : inf.zero = some (.int .i64 0)) (hs1 : inf.size = 1) (hby : inf.bytes = 8)
    (hs : a.eval s = .slice (some ⟨g, 0, none⟩) 0 0)
    (hg : ∀ w, Ext w0 w → ancF ops i F w → ∃ g', Value.slice (some ⟨g, 0, none⟩) 0 0 = .slice (some ⟨g', 0, none⟩) 0 0 ∧ wB.heap.size ≤ g' ∧ w.heap[g']? = some (.cells #[] el (0, 0)))
    (hy : Ints w0 (a.eval x) zs) (hlen : zs.length ≤ 1000000) (n : Nat) (hn : zs.length = n)
    (h : ∀ b c a', (∃ w, Ext w0 w ∧ OwnI w wB.heap.size el (.slice b n c) zs) → a.put o.dst (.slice b n c) = a' → Chk P ops (fun w' => Ext w0 w') Φ e Z l (i + 1) a' (upd F i fun w => OwnI w wB.heap.size el (.slice b n c) zs)) : Chk P ops (fun w' => Ext w0 w') Φ e Z (o :: l) i a F := by
  subst hn
  refine Chk_val he hw hΦ (fun w hE hF => ?_) (fun u a' hu hp => ?_)
  · obtain ⟨g', he', h1, h2⟩ := hg w hE hF
    cases he'
    obtain ⟨v', w', hr, q1, q2⟩ := run_fresh (P := P) wB.heap.size t t2 o.type el e2 inf ht ht2 hi hz hs1 hby g h2 h1 (hy.ext hE) hlen
    refine ⟨v', w', ?_, q2, q1⟩
    unfold execOp
    simp only [ho, resolve, invoke, builtin, Sem.run_bind, Sem.run_pure, Result.andThen_ok, List.map_toArray, List.map_cons, List.map_nil, hs, hr]
  · obtain ⟨w, hE, hu⟩ := hu
    obtain ⟨b, c, rfl⟩ := OwnI.form hu
    exact h b c a' ⟨w, hE, hu⟩ hp
end
end Go.Own
