import Derived.Test.YtpgkfndbfocibaaGreatSepR
import Derived.Laws.OwnMore
namespace Go.Own
open Go Go.RowKit
section
variable {α : Type}
theorem get_some {xs : List α} {k : Nat} (h : k < xs.length) : ∃ y, xs[k]? = some y := ⟨_, List.getElem?_eq_getElem h⟩
theorem map_get {f : α → Value} {xs : List α} {k : Nat} {y : α} (h : xs[k]? = some y) : (xs.map f)[k]? = some (f y) := by rw [List.getElem?_map, h]; rfl
theorem ones_i {k : IntKind} {xs : List Int} : ∀ u ∈ xs.map (Value.int k), u.oneCell' = true := by intro u hu; obtain ⟨a, _, rfl⟩ := List.mem_map.1 hu; rfl
theorem ones_r {fn : α → List Value} {xs : List α} (h : ∀ y, ∀ u ∈ fn y, u.oneCell' = true) : ∀ u ∈ xs.flatMap fn, u.oneCell' = true := by
 intro u hu; obtain ⟨a, _, h2⟩ := List.mem_flatMap.1 hu; exact h a u h2
theorem SlN_one {w : World} {s n : Nat} {v : Value} {xs : List Value} (h : SlN w s v n xs) : v.oneCell' = true := by obtain ⟨a, c, rfl⟩ := h.form; rfl
theorem SlN_cells {w : World} {s n : Nat} {v : Value} {xs : List Value} (h : SlN w s v n xs) : v.cells = #[v] := by obtain ⟨a, c, rfl⟩ := h.form; rfl
theorem app_eq {f : α → Value} {v : Value} {xs ys zs : List α} (e : xs ++ ys = zs) : ow 1 (xs.length + ys.length) v (xs.map f ++ ys.map f) = ow 1 zs.length v (zs.map f) := by subst e; simp
theorem app_eqR {s : Nat} {fn : α → List Value} {v : Value} {xs ys zs : List α} (e : xs ++ ys = zs) : ow s (xs.length + ys.length) v (xs.flatMap fn ++ ys.flatMap fn) = ow s zs.length v (zs.flatMap fn) := by subst e; simp
theorem part_eq {f : α → Value} {v : Value} {xs zs : List α} {lo hh : Nat} (h1 : lo ≤ hh) (h2 : hh ≤ xs.length) (e : (xs.drop lo).take (hh - lo) = zs) : ow 1 (hh - lo) v (((xs.map f).drop (lo * 1)).take ((hh - lo) * 1)) = ow 1 zs.length v (zs.map f) := by
 subst e
 have : ((xs.drop lo).take (hh - lo)).length = hh - lo := by simp; omega
 rw [this]; simp [List.map_take, List.map_drop]
theorem flat_drop {s : Nat} {fn : α → List Value} (hs : ∀ a, (fn a).length = s) : ∀ (xs : List α) (k : Nat), (xs.flatMap fn).drop (k * s) = (xs.drop k).flatMap fn
 | xs, 0 => by simp
 | [], k + 1 => by simp
 | x :: xs, k + 1 => by
  simp only [List.flatMap_cons, List.drop_succ_cons]
  rw [List.drop_append, List.drop_eq_nil_of_le (by rw [hs, Nat.add_mul]; omega), hs, show (k + 1) * s - s = k * s by rw [Nat.add_mul]; omega, flat_drop hs xs k]; rfl
theorem flat_take {s : Nat} {fn : α → List Value} (hs : ∀ a, (fn a).length = s) : ∀ (xs : List α) (k : Nat), (xs.flatMap fn).take (k * s) = (xs.take k).flatMap fn
 | xs, 0 => by simp
 | [], k + 1 => by simp
 | x :: xs, k + 1 => by
  simp only [List.flatMap_cons, List.take_succ_cons]
  rw [List.take_append, List.take_of_length_le (by rw [hs, Nat.add_mul]; omega), hs, show (k + 1) * s - s = k * s by rw [Nat.add_mul]; omega, flat_take hs xs k]
section
variable {w0 w : World} {X : Nat → Prop} {s n : Nat} {v : Value} {xs : List Value}
theorem Ro_partR {fn : α → List Value} {xs : List α} (hs : ∀ a, (fn a).length = s) (h : Ro w0 X (sl s xs.length v (xs.flatMap fn))) (lo hh : Nat) (h1 : lo ≤ hh) (h2 : hh ≤ xs.length) : Ro w0 X (sl s ((xs.drop lo).take (hh - lo)).length (subS s v lo hh) (((xs.drop lo).take (hh - lo)).flatMap fn)) := by
 have := h.sub lo hh h1 h2
 have e : ((xs.drop lo).take (hh - lo)).length = hh - lo := by simp; omega
 rw [e]; rwa [flat_drop hs, flat_take hs] at this
end
end
section
variable {w w' w0 : World} {X : Nat → Prop} {cs : List HP} {a b c d e a' : HP} {i j k m n s : Nat} {v : Value} {xs : List Value}
theorem St.fin0 (h : St w0 X cs w) : St w0 X [] w := h.sel [] .nil rfl
theorem St.fin1 (h : St w0 X cs w) (i : Nat) (hi : cs[i]? = some c) (hc : c = a) : St w0 X [a] w := by subst hc; exact h.sel [i] (by simp) (by simp [hi])
theorem St.fin2 (h : St w0 X cs w) (i : Nat) (hi : cs[i]? = some c) (hc : c = a) (j : Nat) (hj : cs[j]? = some d) (hd : d = b) (hn : (decide (i = j)) = false) : St w0 X [a, b] w := by
 subst hc hd; exact h.sel [i, j] (by simpa using hn) (by simp [hi, hj])
theorem St.fin3 (h : St w0 X cs w) (i : Nat) (hi : cs[i]? = some c) (hc : c = a) (j : Nat) (hj : cs[j]? = some d) (hd : d = b) (k : Nat) (hk : cs[k]? = some e) (he : e = a') (hn : ([i, j, k] : List Nat).Nodup) : St w0 X [a, b, a'] w := by
 subst hc hd he; exact h.sel [i, j, k] hn (by simp [hi, hj, hk])
theorem gen5 {a b e m q : HP} {l : List HP} (h : St w0 X (a :: b :: e :: m :: q :: l) w) : ∃ c d k n r, c = a ∧ d = b ∧ k = e ∧ n = m ∧ r = q ∧ St w0 X (c :: d :: k :: n :: r :: l) w := ⟨_, _, _, _, _, rfl, rfl, rfl, rfl, rfl, h⟩
theorem gen6 {a b e m q q2 : HP} {l : List HP} (h : St w0 X (a :: b :: e :: m :: q :: q2 :: l) w) : ∃ c d k n r r2, c = a ∧ d = b ∧ k = e ∧ n = m ∧ r = q ∧ r2 = q2 ∧ St w0 X (c :: d :: k :: n :: r :: r2 :: l) w := ⟨_, _, _, _, _, _, rfl, rfl, rfl, rfl, rfl, rfl, h⟩
theorem gen7 {a b e m q q2 q3 : HP} {l : List HP} (h : St w0 X (a :: b :: e :: m :: q :: q2 :: q3 :: l) w) : ∃ c d k n r r2 r3, c = a ∧ d = b ∧ k = e ∧ n = m ∧ r = q ∧ r2 = q2 ∧ r3 = q3 ∧ St w0 X (c :: d :: k :: n :: r :: r2 :: r3 :: l) w := ⟨_, _, _, _, _, _, _, rfl, rfl, rfl, rfl, rfl, rfl, rfl, h⟩
theorem gen8 {a b e m q q2 q3 q4 : HP} {l : List HP} (h : St w0 X (a :: b :: e :: m :: q :: q2 :: q3 :: q4 :: l) w) : ∃ c d k n r r2 r3 r4, c = a ∧ d = b ∧ k = e ∧ n = m ∧ r = q ∧ r2 = q2 ∧ r3 = q3 ∧ r4 = q4 ∧ St w0 X (c :: d :: k :: n :: r :: r2 :: r3 :: r4 :: l) w := ⟨_, _, _, _, _, _, _, _, rfl, rfl, rfl, rfl, rfl, rfl, rfl, rfl, h⟩
theorem St.del (h : St w0 X cs w) (i : Nat) : St w0 X (cs.eraseIdx i) w := by
 refine ⟨h.ext, ?_⟩
 obtain ⟨_, fs, h1, h2, h3⟩ := h
 refine ⟨fun j b => j < (cs.eraseIdx i).length ∧ fs (if j < i then j else j + 1) b, fun j d hd => ?_, fun j b ⟨q1, q2⟩ => ⟨q1, (h2 _ b q2).2⟩, fun j k b ⟨_, hj⟩ ⟨_, hk⟩ => ?_⟩
 ·have hj : j < (cs.eraseIdx i).length := (List.getElem?_eq_some_iff.1 hd).1
  have e : (fun b => j < (cs.eraseIdx i).length ∧ fs (if j < i then j else j + 1) b) = fs (if j < i then j else j + 1) := by funext b; simp [hj]
  refine HP.eq_p e (h1 _ d ?_)
  rw [List.getElem?_eraseIdx] at hd
  split <;> rename_i hji <;> simpa [hji] using hd
 ·have := h3 _ _ b hj hk
  split at this <;> split at this <;> omega
end
section
variable {P : Program} {ops : Array Oper} {l : List Oper} {o : Oper} {A : Act} {Q : Exit → Act → World → Prop} {w w' w0 : World} {X : Nat → Prop} {cs : List HP} {c : HP} {d : Tmp} {v v1 v2 : Value} {x y : Operand} {k : IntKind} {a b : Int} {s n : Nat} {xs : List Value}
theorem St_new {obj : Obj} {C : HP} (hC : C.p (w.alloc obj) (· = w.heap.size)) : St w NoX [C] (w.alloc obj) := (St.nil w).push (Ext.alloc _ _) hC fun b e => by subst e; simp
theorem lay_alloc {T : TypeId} {z : Value} {zs : Array Value} (ho : o.op = .alloc T) (hz : (P.info? T).map (·.zero) = some (some z)) (hc : z.cells = zs) :
  ∃ u w', (execOp (EV A) o).run P w = .ok (.value u) w' ∧ ∃ l', (∃ g, u = .pointer (some ⟨g, 0, none⟩) ∧ ∃ c, c = bx g T zs ∧ l' = [c]) ∧ St w NoX l' w' := by
 refine ⟨_, w.alloc (.cells zs T), ?_, _, ⟨_, rfl, _, rfl, rfl⟩, St_new ⟨rfl, heap_alloc_new _ _⟩⟩
 cases hi : P.info? T with
 | none => simp [hi] at hz
 | some i =>
  have hz' : i.zero = some z := by simpa [hi] using hz
  unfold execOp; simp [ho, Instr.alloc, zeroValue, typeInfo, hi, hz', newVar, newRow, hc]
theorem lit_ow {el : TypeId} {vs : List Value} {m : Nat} (hm : vs.length = m) (hsm : m * s ≤ 16777216) (h1 : ∀ v ∈ vs, v.cells.size = s) (hx : vs.flatMap (fun v => v.cells.toList) = xs) : (ow s m (.slice (some ⟨w.heap.size, 0, none⟩) m m) xs).p (w.alloc (.cells (vs.flatMap fun v => v.cells.toList).toArray el)) (· = w.heap.size) ∨ s = 0 := by
 subst hx
 by_cases h0 : s = 0
 ·exact .inr h0
 have hl : (vs.flatMap fun v => v.cells.toList).length = m * s := by
  rw [← hm]; clear hm hsm
  induction vs with
  | nil => simp
  | cons u vs ih =>
   have := h1 u (by simp)
   simp only [List.flatMap_cons, List.length_append, List.length_cons, Array.length_toList, this, Nat.add_mul, ih fun q hq => h1 q (by simp [hq])]; omega
 have : m ≤ m * s := Nat.le_mul_of_pos_right _ (by omega)
 exact .inl (ow_made (f := fun q => q = w.heap.size) (n := w.heap.size) (heap_alloc_new w _) rfl (Nat.le_refl _) (by unfold maxLen; omega) (by rw [List.size_toArray, hl]; exact Nat.le_refl _) hl fun j u hj => by simpa using hj)
theorem lay_lit {t el : TypeId} {parts : Array (Nat × Operand)} {vs : List Value} {m : Nat} (s : Nat) (ho : o.op = .buildSlice t m parts) (hp : (parts.map fun (i, x) => (i, EV A x)).toList = vs.zipIdx.map fun p => (p.2, p.1)) (hm : vs.length = m)
  (ht : P.underlying t = some (.slice el)) (hi : (P.info? el).map (fun i => (i.zero.isSome, i.size)) = some (true, s)) (hsm : m * s ≤ 16777216 ∧ 0 < s) (h1 : ∀ v ∈ vs, v.cells.size = s) (hx : vs.flatMap (fun v => v.cells.toList) = xs) :
  ∃ u w', (execOp (EV A) o).run P w = .ok (.value u) w' ∧ ∃ l', (∃ g, u = .slice (some ⟨g, 0, none⟩) m m ∧ ∃ c, c = ow s m (.slice (some ⟨g, 0, none⟩) m m) xs ∧ l' = [c]) ∧ St w NoX l' w' := by
 cases hq : P.info? el with
 | none => simp [hq] at hi
 | some inf =>
  simp only [hq, Option.map_some, Option.some.injEq, Prod.mk.injEq] at hi
  obtain ⟨z, hz⟩ := Option.isSome_iff_exists.1 hi.1
  exact ⟨_, _, run_lit ho hp hm ht hq hz hi.2 hsm.1 h1, _, ⟨_, rfl, _, rfl, rfl⟩, St_new ((lit_ow hm hsm.1 h1 hx).resolve_right (by omega))⟩
theorem W_litS {t el : TypeId} {parts : Array (Nat × Operand)} {vs : List Value} {m : Nat} (s : Nat) (hS : St w0 X cs w) (hd : o.dst = some d) (hw : Region.wanted o (yielded ops A.tmps) = true) (ho : o.op = .buildSlice t m parts) (hp : (parts.map fun (i, x) => (i, EV A x)).toList = vs.zipIdx.map fun p => (p.2, p.1)) (hm : vs.length = m)
  (ht : P.underlying t = some (.slice el)) (hi : (P.info? el).map (fun i => (i.zero.isSome, i.size)) = some (true, s)) (hsm : m * s ≤ 16777216 ∧ 0 < s) (h1 : ∀ v ∈ vs, v.cells.size = s) (hx : vs.flatMap (fun v => v.cells.toList) = xs)
  (h : ∀ g w' c, c = ow s m (.slice (some ⟨g, 0, none⟩) m m) xs → St w0 X (c :: cs) w' → WX P ops Q l (PT A d (.slice (some ⟨g, 0, none⟩) m m)) w') : WX P ops Q (o :: l) A w := by
 obtain ⟨u, w', hr, l', ⟨g, rfl, c, hc, rfl⟩, hk⟩ := lay_lit (P := P) (A := A) (w := w) s ho hp hm ht hi hsm h1 hx
 exact W_val hd hw hr (h g w' c hc (hS.join hk))
theorem lay_app0 {t t2 el e2 : TypeId} {z : Value} {m bytes : Nat} {ys : List Value} {sx : Operand} {a : Option Addr} (s : Nat)
  (ho : o.op = .call { callee := .builtin .append, args := #[sx, x], argTypes := #[t, t2] }) (hs : EV A sx = .slice a 0 0) (_ha : True) (hy : EV A x = v1)
  (ht : P.underlying t = some (.slice el)) (ht2 : P.underlying t2 = some (.slice e2)) (hi : (P.info? el).map (fun i => (i.zero, i.size, i.bytes)) = some (some z, s, bytes)) (hzs : z.cells.size = s) (hsz : 0 < s)
  (hyy : SlN w s v1 m ys) (h1 : ∀ u ∈ ys, u.oneCell' = true) (hbytes : m * bytes ≤ 140737488355328) (h63 : m ≤ 4611686018427387904) :
  ∃ u w', (execOp (EV A) o).run P w = .ok (.value u) w' ∧ ∃ l', (∃ v, u = v ∧ ∃ c, c = ow s m v ys ∧ l' = [c]) ∧ St w NoX l' w' := by
 cases hq : P.info? el with
 | none => simp [hq] at hi
 | some inf =>
  simp only [hq, Option.map_some, Option.some.injEq, Prod.mk.injEq] at hi
  obtain ⟨v', w', f', hr, k1, k2, k3⟩ := run_appS (P := P) (f := NoX) (n := 0) (xs := []) t t2 o.type el e2 inf z bytes ht ht2 hq hi.1 hi.2.1 hi.2.2 hzs hsz ⟨by simp, .inl ⟨a, rfl, rfl, fun _ _ h => absurd h (by omega)⟩⟩ hyy h1 (by simpa using hbytes) (by unfold maxLen; omega)
  refine ⟨v', w', ?_, _, ⟨_, rfl, _, rfl, rfl⟩, ((St.nil w).push k1.ext (f := f') (by simpa using k2) fun b hb => (k3 b hb).resolve_left fun x => x)⟩
  unfold execOp
  simp only [ho, resolve, invoke, builtin, Sem.run_bind, Sem.run_pure, Result.andThen_ok, List.map_toArray, List.map_cons, List.map_nil, hs, hy, hr]
theorem lay_mk {t el : TypeId} {z : Value} {bytes : Nat} {q q2 : Int} (m : Nat) (ho : o.op = .makeSlice t x y) (hx : EV A x = .int .i64 q) (hy : EV A y = .int .i64 q2) (hq : q = (m : Int) ∧ q2 = (m : Int))
  (ht : P.underlying t = some (.slice el)) (hi : (P.info? el).map (fun i => (i.zero, i.size, i.bytes)) = some (some z, 1, bytes)) (hb : bytes ≤ 16 ∧ m ≤ 1000000) (hz1 : z.cells = #[z]) :
  ∃ u w', (execOp (EV A) o).run P w = .ok (.value u) w' ∧ ∃ l', (∃ v, u = v ∧ ∃ c, c = ow 1 m v (List.replicate m z) ∧ l' = [c]) ∧ St w NoX l' w' := by
 cases hq' : P.info? el with
 | none => simp [hq'] at hi
 | some inf =>
  simp only [hq', Option.map_some, Option.some.injEq, Prod.mk.injEq] at hi
  obtain ⟨rfl, rfl⟩ := hq
  obtain ⟨w', hr, hown, hg⟩ := run_makeSlice_full (P := P) w w.heap.size t el inf z 1 ht hq' hi.1 hi.2.1 .i64 .i64 m (by omega) (by rw [hi.2.2]; have := Nat.mul_le_mul hb.1 hb.2; omega) (by unfold maxLen; omega) (Nat.le_refl _)
  refine ⟨.slice (some ⟨w.heap.size, 0, none⟩) m m, w', ?_, _, ⟨_, rfl, _, rfl, rfl⟩, (St.nil w).push (f := (· = w.heap.size)) ⟨hg.os, hg.tape, hg.output, hg.size, fun k hk => hg.block k hk (by simp)⟩ ?_ fun b e => ?_⟩
  ·unfold execOp; simp [ho, hx, hy, hr]
  ·obtain ⟨h0, ⟨h1, _⟩ | ⟨g, cap, cur, h1, h2, h3, h4, h5, h6, h7⟩⟩ := hown
   ·cases h1
   ·cases h1
    refine ow_made (f := fun q => q = w.heap.size) (xs := List.replicate m z) (n := w.heap.size) h3 rfl (Nat.le_refl _) h5 (by rw [h6]; exact Nat.le_refl _) (by simp) fun j u hj => ?_
    have hlt := (List.getElem?_eq_some_iff.1 hj).1
    simp at hlt
    have e1 : (madeCells z.cells (m * 1)).toList[j]? = some z := by
     unfold madeCells; simp [hz1, hlt, Nat.mod_one]
    rw [List.getElem?_replicate, if_pos hlt] at hj
    cases hj
    rw [← h7, List.getElem?_take] at e1
    split at e1
    ·simpa using e1
    ·cases e1
  ·subst e
   obtain ⟨h0, ⟨h1, _⟩ | ⟨g, cap, cur, h1, h2, h3, _⟩⟩ := hown
   ·cases h1
   ·cases h1; exact ⟨Nat.le_refl _, lt_size h3⟩
theorem W_mkS {t el : TypeId} {z : Value} {bytes : Nat} {q q2 : Int} (m : Nat) (hS : St w0 X cs w) (hd : o.dst = some d) (hw : Region.wanted o (yielded ops A.tmps) = true) (ho : o.op = .makeSlice t x y) (hx : EV A x = .int .i64 q) (hy : EV A y = .int .i64 q2) (hq : q = (m : Int) ∧ q2 = (m : Int))
  (ht : P.underlying t = some (.slice el)) (hi : (P.info? el).map (fun i => (i.zero, i.size, i.bytes)) = some (some z, 1, bytes)) (hb : bytes ≤ 16 ∧ m ≤ 1000000) (hz1 : z.cells = #[z])
  (h : ∀ v w' c, c = ow 1 m v (List.replicate m z) → St w0 X (c :: cs) w' → WX P ops Q l (PT A d v) w') : WX P ops Q (o :: l) A w := by
 obtain ⟨u, w', hr, l', ⟨g, rfl, c, hc, rfl⟩, hk⟩ := lay_mk (P := P) (A := A) (w := w) m ho hx hy hq ht hi hb hz1
 exact W_val hd hw hr (h u w' c hc (hS.join hk))
theorem VR_ldP {T T' g off : Nat} {zs : Array Value} {fr : Nat × Nat} {ys : List Value} {de : TypeDesc} (ho : o.op = .load T x) (hx : EV A x = .pointer (some ⟨g, off, none⟩)) (hg : w.heap[g]? = some (.cells zs T' fr)) (hy : ∀ j u, ys[j]? = some u → zs[off + j]? = some u)
  (hu : P.underlying T = some de) (hd : de.isRow = true) (hi : (P.info? T).map (·.size) = some ys.length) : ValW P A o w (.agg ys.toArray) :=
 VR_ldR ho hx (fun j u hj => by rw [cell_of_row _ _ _ _ _ _ hg]; exact hy j u hj) hu hd hi
theorem W_stAM {T g off T' : Nat} {zs zs' : Array Value} {ys : List Value} (i : Nat) (hS : St w0 X cs w) (hi : cs[i]? = some c) (hc : c = bx g T' zs) (hd : o.dst = none) (hw : Region.wanted o (yielded ops A.tmps) = true) (ho : o.op = .store T x y) (hx : EV A x = .pointer (some ⟨g, off, none⟩)) (hy : EV A y = .agg ys.toArray) (h1 : ∀ u ∈ ys, u.oneCell' = true)
  (hlt : off + ys.length ≤ zs.size) (hif : (P.info? T).map (·.size) = some ys.length) (hz : (zs.toList.take off ++ ys ++ zs.toList.drop (off + ys.length)).toArray = zs')
  (h : ∀ w' c', c' = bx g T' zs' → St w0 X (cs.set i c') w' → WX P ops Q l A w') : WX P ops Q (o :: l) A w := by
 subst hc hz
 obtain ⟨f, q1, q2, q3⟩ := hS.upd i hi
 have hst := run_storeCells_at P g off T' ys 0 zs w q1.2 (by simpa using hlt) h1
 simp only [Nat.add_zero] at hst
 obtain ⟨nc, hnc⟩ : ∃ nc, nc = (zs.toList.take off ++ ys ++ zs.toList.drop (off + ys.length)).toArray := ⟨_, rfl⟩
 rw [← hnc] at hst h
 refine W_nov (w' := w.setRow g nc) hd hw ?_ (h _ _ rfl (q3 _ _ f ⟨rfl, rfl, rfl, by simp, fun k _ hk => setRow_other w g k nc (fun e => hk (by rw [e]; exact q1.1))⟩ ⟨q1.1, setRow_heap w g zs nc T' _ q1.2⟩ fun b hb => .inl hb))
 cases hq : P.info? T with
 | none => simp [hq] at hif
 | some inf =>
  have hs : inf.size = ys.length := by simpa [hq] using hif
  unfold execOp
  simp [ho, hx, hy, Instr.storeAt, Instr.sureAddr, storeVar, sizeOf, typeInfo, hq, hs, Value.cells, hst]
theorem V_mkf {fi : Nat} {first cap : Array Operand} {fs gs : Array Value} (ho : o.op = .makeFunc (.func fi) first cap) (h1 : first.map (EV A) = fs) (h2 : cap.map (EV A) = gs) : Val P A o (.func (.func fi) fs gs) := fun w => by
 unfold execOp; simp [ho, Instr.makeFunc, h1, h2]
theorem V_mul {t t' : TypeId} (ho : o.op = .binOp .mul t x y t') (hx : EV A x = .int .i64 a) (hy : EV A y = .int .i64 b) (h1 : -9223372036854775808 ≤ a * b) (h2 : a * b ≤ 9223372036854775807) : Val P A o (.int .i64 (a * b)) := fun w => by
 unfold execOp; simp [ho, hx, hy, eqGuard, binOp, Op.intArith, IntKind.wrap, IntKind.bits, IntKind.signed]; omega
end
theorem ldP_at {zs : Array Value} {ys : List Value} {off : Nat} (h : (zs.toList.drop off).take ys.length = ys) : ∀ j u, ys[j]? = some u → zs[off + j]? = some u := fun j u hj => by
 have hl := (List.getElem?_eq_some_iff.1 hj).1
 rw [← h, List.getElem?_take, if_pos hl, List.getElem?_drop, Array.getElem?_toList] at hj
 exact hj
section
variable {P : Program} {ops : Array Oper} {l : List Oper} {o : Oper} {A : Act} {Q : Exit → Act → World → Prop} {w w0 : World} {X : Nat → Prop} {cs : List HP} {d : Tmp} {xs : List Value}
theorem xsL {t el : TypeId} {parts : Array (Nat × Operand)} {vs : List Value} {m : Nat} (s : Nat) (hS : St w0 X cs w) (hd : o.dst = some d) (hw : Region.wanted o (yielded ops A.tmps) = true) (ho : o.op = .buildSlice t m parts) (hp : (parts.map fun (i, x) => (i, EV A x)).toList = vs.zipIdx.map fun p => (p.2, p.1)) (ht : P.underlying t = some (.slice el)) (h : ∀ g w' c, c = ow s m (.slice (some ⟨g, 0, none⟩) m m) xs → St w0 X (c :: cs) w' → WX P ops Q l (PT A d (.slice (some ⟨g, 0, none⟩) m m)) w') (hm : vs.length = m := by rfl) (hi : (P.info? el).map (fun i => (i.zero.isSome, i.size)) = some (true, s) := by kernel_rfl) (hsm : m * s ≤ 16777216 ∧ 0 < s := by decide) (h1 : vs.all (fun v => v.cells.size == s) = true := by rfl) (hx : vs.flatMap (fun v => v.cells.toList) = xs := by rfl) : WX P ops Q (o :: l) A w := W_litS s hS hd hw ho hp hm ht hi hsm (fun v hv => by simpa using List.all_eq_true.1 h1 v hv) hx h
end
end Go.Own
