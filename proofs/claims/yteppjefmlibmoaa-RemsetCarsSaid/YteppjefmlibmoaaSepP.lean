import Derived.Test.YteppjefmlibmoaaSepG
import Derived.Laws.CopyRow
import Derived.Laws.IdiomCopy
import Derived.Scope
/-! more of the walk: scopes, bits, marks of ranges in loops, copy and clear -/
namespace Go.Own
open Go Go.RowKit
section
variable {P : Program} {r : Option Nat} {Q : Exit → Act → World → Prop} {A : Act} {w : World}
theorem stepR_scope {b : Frame} {a : Act} {k : List Item} {cs : List Frame} {c : Code} : step P (lone (b.atR a (.code (.scope c) :: k)) cs w) = .next (lone (b.atR a (.code c :: .inScope c :: k)) cs w) :=
  step_lone_go (by simp [stepG, stepG.exec, Frame.atR])
theorem stepR_inScope {b : Frame} {a : Act} {k : List Item} {cs : List Frame} {c : Code} : step P (lone (b.atR a (.inScope c :: k)) cs w) = .next (lone (b.atR a k) cs w) :=
  step_lone_go (by simp [stepG, stepG.exec, Frame.atR])
theorem R_scope {c : Code} (h : wpR r P c (Exit.noGoto Q) A w) : wpR r P (Code.scope c) Q A w := by
  intro b k cs hro hb hr
  obtain ⟨e, a₁, w₁, hq, harr⟩ := h b (.inScope c :: k) cs hro hb hr
  cases e with
  | normal => exact ⟨.normal, a₁, w₁, hq, StepsIn.trans (.one (fenced_calm hb hr rfl) stepR_scope) (StepsIn.trans harr (.one (fenced_calm hb hr rfl) stepR_inScope))⟩
  | exit id => exact ⟨.exit id, a₁, w₁, hq, .of_steps (.one (fenced_calm hb hr rfl) stepR_scope) ⟨fun k' hk => harr.1 k' (by simpa [exitTo] using hk), fun hro2 hk => harr.2 hro2 (by simpa [exitTo] using hk)⟩⟩
  | goto l => exact hq.elim
  | ret => exact ⟨.ret, a₁, w₁, hq, .of_steps (e := .ret) (.one (fenced_calm hb hr rfl) stepR_scope) harr⟩
  | panic ch => exact ⟨.panic ch, a₁, w₁, hq, .of_steps (e := .panic ch) (.one (fenced_calm hb hr rfl) stepR_scope) harr⟩
  | outgrown => exact ⟨.outgrown, a₁, w₁, hq, .of_steps (e := .outgrown) (.one (fenced_calm hb hr rfl) stepR_scope) harr⟩
theorem R_label {l : Nat} (h : Q .normal A w) : wpR r P (Code.label l) Q A w := wpIn_label h
theorem ng_ret (h : Q .ret A w) : Exit.noGoto Q .ret A w := h
end
/-! bits -/
theorem bits_and64 {a b : Int} (ha : 0 ≤ a ∧ a < 9223372036854775808) (hb : 0 ≤ b ∧ b < 9223372036854775808) : IntKind.i64.wrap ((BitVec.ofInt IntKind.i64.bits a &&& BitVec.ofInt IntKind.i64.bits b).toNat : Nat) = ((a.toNat &&& b.toNat : Nat) : Int) := by
  obtain ⟨a, rfl⟩ := Int.eq_ofNat_of_zero_le ha.1
  obtain ⟨b, rfl⟩ := Int.eq_ofNat_of_zero_le hb.1
  have hl := Nat.and_le_left (n := a) (m := b)
  have e1 : (BitVec.ofInt 64 (a : Int)).toNat = a := by simp; omega
  have e2 : (BitVec.ofInt 64 (b : Int)).toNat = b := by simp; omega
  show IntKind.i64.wrap ((BitVec.ofInt 64 (a : Int) &&& BitVec.ofInt 64 (b : Int)).toNat : Nat) = _
  rw [BitVec.toNat_and, e1, e2]
  simp only [Int.toNat_natCast]
  generalize a &&& b = c at hl
  simp [IntKind.wrap, IntKind.bits, IntKind.signed]
  omega
theorem V_and {P : Program} {A : Act} {o : Oper} {x y : Operand} {t t' : TypeId} {a b c : Int} (ho : o.op = .binOp .and t x y t') (hx : EV A x = .int .i64 a) (hy : EV A y = .int .i64 b) (ha : 0 ≤ a ∧ a < 9223372036854775808) (hb : 0 ≤ b ∧ b < 9223372036854775808) (hc : ((a.toNat &&& b.toNat : Nat) : Int) = c) : Val P A o (.int .i64 c) := fun w => by
  subst hc
  unfold execOp
  simp [ho, hx, hy, eqGuard_at_int, binOp, Op.intBits]
  exact bits_and64 ha hb
/-! marks of ranges -/
def coll (D : Nat) : Deferred := { target := .collected D, args := #[] }
def dsC (ds : List Nat) : List HP := ds.map fun D => ob D (.deferred (some []))
inductive Und : List Nat → World → World → Prop
  | nil (w : World) : Und [] w w
  | cons {D : Nat} {ds : List Nat} {w w1 : World} (h : w.heap[D]? = some (.deferred (some []))) (k : Und ds (w.putObj D (.deferred none)) w1) : Und (D :: ds) w w1
section
variable {w0 w w' : World} {X : Nat → Prop} {l l' fr : List HP} {c c' : HP}
theorem St.und : ∀ {ds : List Nat} {w : World}, St w0 X (l ++ dsC ds) w → ∃ w1, Und ds w w1 ∧ St w0 X l w1
  | [], w, h => ⟨w, .nil w, by simpa [dsC] using h⟩
  | D :: ds, w, h => by
    have hi : (l ++ dsC (D :: ds))[l.length]? = some (ob D (.deferred (some []))) := by simp [dsC]
    have hD := ob_at (h.ch l.length hi)
    have h2 := h.put (o' := .deferred none) l.length hi rfl
    have h3 := h2.del l.length
    have e : ((l ++ dsC (D :: ds)).set l.length (ob D (.deferred none))).eraseIdx l.length = l ++ dsC ds := by
      simp [dsC, List.eraseIdx_append_of_length_le]
    rw [e] at h3
    obtain ⟨w1, k1, k2⟩ := St.und h3
    exact ⟨w1, .cons hD k1, k2⟩
theorem St.selR (h : St w0 X (l ++ fr) w) (is : List Nat) (hn : is.Nodup) (hlt : is.all (fun i => decide (i < l.length)) = true) (hl : is.map (fun i => l[i]?) = l'.map some) : St w0 X (l' ++ fr) w := by
  have hlt : ∀ i ∈ is, i < l.length := fun i hi => by simpa using List.all_eq_true.1 hlt i hi
  refine h.sel (is ++ (List.range fr.length).map (· + l.length)) ?_ ?_
  · refine List.nodup_append.2 ⟨hn, ?_, fun a ha b hb => ?_⟩
    · have := List.nodup_range (n := fr.length)
      exact List.pairwise_map.2 (this.imp fun h => by omega)
    · obtain ⟨i, _, rfl⟩ := List.mem_map.1 hb
      have := hlt a ha; omega
  · rw [List.map_append, List.map_append]
    congr 1
    · rw [← hl]
      refine List.map_congr_left fun i hi => ?_
      rw [List.getElem?_append_left (hlt i hi)]
    · apply List.ext_getElem
      · simp
      · intro i h1 h2
        simp at h1 h2 ⊢
        rw [List.getElem?_append_right (by omega), Nat.add_sub_cancel, List.getElem?_eq_getElem h2]
end
theorem ret_inRs {P : Program} {fn : Func} {R : Ending → World → Prop} {A : Act} {ds : List Nat} {w w1 : World} {v : Value} (hu : Und ds w w1) (hr : (results fn A.tmps).run P w1 = .ok v w1) (hd : A.defers = ds.map coll) (h : R (.returned v) w1) : bodyPostM (Fw none) 0 P fn R .ret A w := by
  show LeavesInM (Fw none) 0 P fn A.tmps R A.defers .returning w
  rw [hd]; clear hd
  induction hu with
  | nil w => exact ⟨v, hr, h⟩
  | cons hD _ ih => exact ⟨by simp, .inl ⟨_, _, rfl, run_takeDeferred hD, ih hr h⟩⟩
theorem SlN_cast {w : World} {s n m : Nat} {v : Value} {xs : List Value} (h : SlN w s v n xs) (e : n = m) : SlN w s v m xs := e ▸ h
theorem ow_sl_at {w : World} {s n : Nat} {v : Value} {xs : List Value} (h : (ow s n v xs).at w) : (sl s n v xs).at w := let ⟨f, hf⟩ := h; ⟨f, ow_sl hf⟩
/-! copy and clear -/
theorem tch_row {w : World} {g : Nat} {cur cs : Array Value} {t : TypeId} {fr : Nat × Nat} (hg : w.heap[g]? = some (.cells cur t fr)) : Tch g w (w.setRow g cs) :=
  ⟨rfl, rfl, rfl, by simp [World.setRow], fun b hb => by
    unfold World.setRow
    simp only [Array.getElem?_modify]
    rw [if_neg (fun e => hb e.symm)]⟩
/-- part of an own slice's cells is written anew. -/
theorem ow_row {w : World} {g off cap n k : Nat} {cur : Array Value} {T : TypeId} {xs ys : List Value} {f : Nat → Prop} (hg : w.heap[g]? = some (.cells cur T (0, 0))) (hf : f g) (hl : xs.length = n * 1) (hn : n ≤ cap) (hm : cap ≤ maxLen) (hs : off + cap * 1 ≤ cur.size)
    (hx : ∀ (j : Nat) (x : Value), xs[j]? = some x → cur[off + j]? = some x) (hk : k + ys.length = n) :
    (ow 1 n (.slice (some ⟨g, off, none⟩) n cap) (xs.take k ++ ys)).p (w.setRow g (cur.toList.take (off + k) ++ ys ++ cur.toList.drop (off + k + ys.length)).toArray) f := by
  have hlen : (cur.toList.take (off + k) ++ ys ++ cur.toList.drop (off + k + ys.length)).length = cur.size := by
    simp only [List.length_append, List.length_take, List.length_drop, Array.length_toList]; omega
  refine ⟨by rw [List.length_append, List.length_take]; omega, .inr ⟨g, off, cap, _, T, rfl, hf, setRow_heap w g cur _ T _ hg, hn, hm, by rw [List.size_toArray, hlen]; exact hs, fun j x hj => ?_⟩⟩
  rw [List.getElem?_toArray]
  have hkk : (xs.take k).length = k := by rw [List.length_take]; omega
  have hoo : (cur.toList.take (off + k)).length = off + k := by rw [List.length_take, Array.length_toList]; omega
  by_cases h : j < k
  · rw [List.getElem?_append_left (by omega), List.getElem?_take, if_pos h] at hj
    rw [List.append_assoc, List.getElem?_append_left (by omega), List.getElem?_take, if_pos (by omega), Array.getElem?_toList]
    exact hx j x hj
  · rw [List.getElem?_append_right (by omega), hkk] at hj
    have hj2 : j - k < ys.length := (List.getElem?_eq_some_iff.1 hj).1
    rw [List.append_assoc, List.getElem?_append_right (by omega), hoo, List.getElem?_append_left (by omega), show off + j - (off + k) = j - k by omega]
    exact hj
section
variable {P : Program} {ops : Array Oper} {l : List Oper} {o : Oper} {A : Act} {Q : Exit → Act → World → Prop} {w0 w : World} {X : Nat → Prop} {cs : List HP} {c : HP} {d : Tmp} {n : Nat} {v v1 : Value} {xs ys : List Value} {dx sx x : Operand} {dT sT el : TypeId}
theorem W_vno {w' : World} (hd : o.dst = none) (hw : Region.wanted o (yielded ops A.tmps) = true) (hx : (execOp (EV A) o).run P w = .ok (.value v) w') (h : WX P ops Q l A w') : WX P ops Q (o :: l) A w :=
  ⟨WL_val hw (ex_ev hx) (by rw [hd]; rfl) h.out⟩
theorem W_copyS (i : Nat) (hS : St w0 X cs w) (hin : cs[i]? = some c) (hc : c = ow 1 n v xs) (hd : o.dst = some d) (hw : Region.wanted o (yielded ops A.tmps) = true)
    (ho : o.op = .call { callee := .builtin .copy, args := #[dx, sx], argTypes := #[dT, sT] }) (hx : EV A dx = v) (hy : EV A sx = v1) (ht : P.underlying dT = some (.slice el)) (hi : (P.info? el).map (·.size) = some 1)
    (hyy : SlN w 1 v1 n ys) (h1 : ∀ u ∈ ys, u.oneCell' = true)
    (h : ∀ w' c', c' = ow 1 n v ys → St w0 X (cs.set i c') w' → WX P ops Q l (PT A d (.int .i64 n)) w') : WX P ops Q (o :: l) A w := by
  subst hc
  obtain ⟨f, q1, q2, q3⟩ := hS.upd i hin
  obtain ⟨a1, cap1, rfl, k1, k2, k3, k4, k5⟩ := hyy
  have hys : ys.length = n := by omega
  obtain ⟨g0, ⟨a, rfl, e, ha⟩ | ⟨g, off, cap, cur, T, rfl, g1, g2, g3, g4, g5, g6⟩⟩ := q1
  · subst e
    have hr := run_copy_none (P := P) w dT sT o.type el a a1 0 0 0 cap1 ht hi (by simp)
    have e1 : ys = xs := by
      rw [List.eq_nil_of_length_eq_zero (l := xs) (by simpa using g0)]; exact List.eq_nil_of_length_eq_zero hys
    refine W_val hd hw ?_ (h w _ rfl (q3 w _ f (ExtX.rfl' _ _) ⟨by omega, .inl ⟨a, rfl, rfl, ha⟩⟩ fun b hb => .inl hb))
    unfold execOp
    simp only [ho, resolve, invoke, builtin, Sem.run_bind, Sem.run_pure, Result.andThen_ok, List.map_toArray, List.map_cons, List.map_nil, hx, hy, hr]
    rfl
  · rcases Nat.eq_zero_or_pos n with e | hpos
    · subst e
      have hr := run_copy_none (P := P) w dT sT o.type el (some ⟨g, off, none⟩) a1 0 cap 0 cap1 ht hi (by simp)
      refine W_val hd hw ?_ (h w _ rfl (q3 w _ f (ExtX.rfl' _ _) ⟨by omega, .inr ⟨g, off, cap, cur, T, rfl, g1, g2, g3, g4, g5, fun j x hj => ?_⟩⟩ fun b hb => .inl hb))
      · unfold execOp
        simp only [ho, resolve, invoke, builtin, Sem.run_bind, Sem.run_pure, Result.andThen_ok, List.map_toArray, List.map_cons, List.map_nil, hx, hy, hr]
        rfl
      · rw [List.eq_nil_of_length_eq_zero hys] at hj; simp at hj
    · cases a1 with
      | none => exact absurd (k4 rfl) (by omega)
      | some b =>
        obtain ⟨hsp0, hcell⟩ := k5 b rfl
        have hsp := hsp0 (by omega)
        have hadd : ∀ j, b.add j = ⟨b.block, b.off + j, none⟩ := fun j => by
          obtain ⟨bb, bo, bs⟩ := b; simp only at hsp; subst hsp; exact Addr.add_mid bb bo j
        have hr := run_copy_row (P := P) w dT sT o.type el g off n cap b n cap1 cur T ys ht hi g2 (by rw [hys]; simp) (fun j u hj => by rw [hadd]; exact hcell j u hj) (by omega) h1
        have hrow := ow_row (k := 0) (ys := ys) g2 g1 g0 g3 g4 g5 g6 (by omega)
        simp only [Nat.add_zero, List.take_zero, List.nil_append] at hrow
        refine W_val hd hw ?_ (h _ _ rfl (q3 _ _ f ((ExtX.tch (tch_row g2)).mono fun b e => by subst e; exact g1) hrow fun b hb => .inl hb))
        unfold execOp
        simp only [ho, resolve, invoke, builtin, Sem.run_bind, Sem.run_pure, Result.andThen_ok, List.map_toArray, List.map_cons, List.map_nil, hx, hy, hr, hys]
        rfl
theorem W_clearS {z : Value} (i : Nat) (lo : Nat) (hS : St w0 X cs w) (hin : cs[i]? = some c) (hc : c = ow 1 n v xs) (hlo : lo ≤ n) (hd : o.dst = none) (hw : Region.wanted o (yielded ops A.tmps) = true)
    (ho : o.op = .call { callee := .builtin .clear, args := #[x], argTypes := #[dT] }) (hx : EV A x = subS 1 v lo n) (ht : P.underlying dT = some (.slice el)) (hz : (P.info? el).map (·.zero) = some (some z)) (hz1 : z.cells = #[z]) (hz2 : z.oneCell' = true)
    (h : ∀ w' c', c' = ow 1 n v (xs.take lo ++ List.replicate (n - lo) z) → St w0 X (cs.set i c') w' → WX P ops Q l A w') : WX P ops Q (o :: l) A w := by
  subst hc
  obtain ⟨f, q1, q2, q3⟩ := hS.upd i hin
  have hzv : ∀ w, (zeroValue el).run P w = .ok z w := fun w => by
    cases hq : P.info? el with
    | none => simp [hq] at hz
    | some inf =>
      simp only [hq, Option.map_some, Option.some.injEq] at hz
      simp [zeroValue, typeInfo, hq, hz]
  obtain ⟨g0, ⟨a, rfl, e, ha⟩ | ⟨g, off, cap, cur, T, rfl, g1, g2, g3, g4, g5, g6⟩⟩ := q1
  · subst e
    obtain rfl : lo = 0 := by omega
    have e1 : xs = [] := List.eq_nil_of_length_eq_zero (by simpa using g0)
    subst e1
    refine W_vno (v := .tuple #[]) hd hw ?_ (h w _ rfl (q3 w _ f (ExtX.rfl' _ _) ⟨by simp, .inl ⟨a, rfl, rfl, ha⟩⟩ fun b hb => .inl hb))
    have hs : subS 1 (.slice a 0 0) 0 0 = .slice a 0 0 := by simp [subS]
    unfold execOp
    rw [hs] at hx
    cases a <;> simp [ho, resolve, invoke, builtin, hx, Builtin.clear_, run_underlying ht]
  · rcases Nat.eq_zero_or_pos (n - lo) with e | hpos
    · obtain rfl : lo = n := by omega
      have e1 : xs.take lo ++ List.replicate (lo - lo) z = xs := by rw [List.take_of_length_le (by omega)]; simp
      refine W_vno (v := .tuple #[]) hd hw ?_ (h w _ rfl (q3 w _ f (ExtX.rfl' _ _) (by rw [e1]; exact ⟨g0, .inr ⟨g, off, cap, cur, T, rfl, g1, g2, g3, g4, g5, g6⟩⟩) fun b hb => .inl hb))
      unfold execOp
      simp only [subS, e] at hx
      split at hx <;> simp [ho, resolve, invoke, builtin, hx, Builtin.clear_, run_underlying ht]
    · have hs : subS 1 (.slice (some ⟨g, off, none⟩) n cap) lo n = .slice (some ⟨g, off + lo, none⟩) (n - lo) (cap - lo) := by
        have ha : ∀ q, (⟨g, off, none⟩ : Addr).add q = ⟨g, off + q, none⟩ := Addr.add_mid g off
        simp only [subS]
        rw [if_neg (by omega)]
        simp [ha]
      rw [hs] at hx
      have hzc : (Builtin.zeroCells z.cells (n - lo)).toList = List.replicate (n - lo) z := by
        rw [hz1]
        simp [Builtin.zeroCells]
        apply List.ext_getElem
        · simp
        · intro i h1 h2
          simp [Nat.mod_one]
      have hst := run_storeCells_at P g (off + lo) T (List.replicate (n - lo) z) 0 cur w g2 (by simp; omega) (by intro u hu; rw [List.eq_of_mem_replicate hu]; exact hz2)
      have hrow := ow_row (k := lo) (ys := List.replicate (n - lo) z) g2 g1 g0 g3 g4 g5 g6 (by simp; omega)
      refine W_vno (v := .tuple #[]) hd hw ?_ (h _ _ rfl (q3 _ _ f ((ExtX.tch (tch_row g2)).mono fun b e => by subst e; exact g1) hrow fun b hb => .inl hb))
      obtain ⟨m, hm⟩ : ∃ m, n - lo = m + 1 := ⟨n - lo - 1, by omega⟩
      rw [hm] at hst hzc hx ⊢
      simp only [Nat.add_zero] at hst
      unfold execOp
      simp [ho, resolve, invoke, builtin, hx, Builtin.clear_, run_underlying ht, hzv, hzc, hst]
end
end Go.Own
