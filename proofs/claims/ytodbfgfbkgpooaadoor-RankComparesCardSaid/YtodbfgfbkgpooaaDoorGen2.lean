import Derived.Test.YtodbfgfbkgpooaaDoorGen
namespace Go.Own
open Go Go.RowKit

/-! arrays of integers in a box, by the list of their numbers -/
def arrI (k : IntKind) (ns : List Int) : Array Value := (ns.map (Value.int k)).toArray
theorem arrI_size (k : IntKind) (ns : List Int) : (arrI k ns).size = ns.length := by simp [arrI]
theorem arrI_get {k : IntKind} {ns : List Int} {i : Nat} {y : Int} (h : ns[i]? = some y) : (arrI k ns)[i]? = some (.int k y) := by simp [arrI, h]
theorem arrI_set (k : IntKind) (ns : List Int) (i : Nat) (x : Int) : (arrI k ns).setIfInBounds i (.int k x) = arrI k (ns.set i x) := by simp [arrI, List.map_set]
theorem arrI_one (k : IntKind) (ns : List Int) : (arrI k ns).all (·.oneCell') = true := by
  rw [Array.all_eq_true_iff_forall_mem]; intro v hv; simp [arrI] at hv; obtain ⟨a, _, rfl⟩ := hv; rfl
theorem arrI_lt {k : IntKind} {ns : List Int} {n i : Nat} (h : ns.length = n) (hi : i < n) : decide (i < (arrI k ns).size) = true := by rw [arrI_size, h]; exact decide_eq_true hi
theorem arrI_info {P : Program} {T n : Nat} {k : IntKind} {ns : List Int} (h : ns.length = n) (hi : (P.info? T).map (·.size) = some n) : (P.info? T).map (·.size) = some (arrI k ns).size := by rw [arrI_size, h]; exact hi
theorem arrI_sz {k : IntKind} {ns ms : List Int} {n : Nat} (h : ns.length = n) (h' : ms.length = n) : (arrI k ns).size = (arrI k ms).size := by rw [arrI_size, arrI_size, h, h']
theorem some_get {ns : List Int} {i n : Nat} (h : ns.length = n) (hi : i < n) : ∃ y, ns[i]? = some y := ⟨_, List.getElem?_eq_getElem (by omega)⟩
theorem run_equalIn_arr {P : Program} {w : World} (d : Nat) {t e n : Nat} {k : IntKind} {ns ms : List Int} (hu : P.underlying t = some (.array n e)) (he : P.underlying e = some (.int k))
    (hi : (P.info? e).map (·.size) = some 1) (h1 : ns.length = n) (h2 : ms.length = n) : (Op.equalIn (d + 2) t (.agg (arrI k ns)) (.agg (arrI k ms))).run P w = .ok (decide (ns = ms)) w := by
  have hsz : (sizeOf e).run P w = .ok 1 w := by
    cases hq : P.info? e with
    | none => simp [hq] at hi
    | some i => have : i.size = 1 := by simpa [hq] using hi
                simp [sizeOf, typeInfo, hq, this]
  have hagg : (isAgg e).run P w = .ok false w := by unfold isAgg; rw [Sem.run_bind, run_underlying he w]; rfl
  have hpart : ∀ (l : List Int) (i : Nat) (z : Int), l[i]? = some z → (part e (arrI k l) (i * 1)).run P w = .ok (.int k z) w := by
    intro l i z hz; simp [part, hagg, arrI_get hz]
  rw [Op.equalIn]
  simp only [Sem.run_bind, run_underlying hu, Result.andThen_ok, hsz]
  simp only [Std.Legacy.Range.forIn_eq_forIn_range', Std.Legacy.Range.size, Nat.sub_zero, Nat.add_sub_cancel, Nat.div_one]
  have key : ∀ (m j : Nat), j + m = n → Sem.run P
          (forIn (List.range' j m) ((none, ()) : Option Bool × Unit) fun i __s => do
            let __do_lift ← part e (arrI k ns) (i * 1)
            let __do_lift_1 ← part e (arrI k ms) (i * 1)
            let __do_lift ← Op.equalIn (d + 1) e __do_lift __do_lift_1
            if (!__do_lift) = true then pure (ForInStep.done (some false, ())) else pure (ForInStep.yield (none, ()))) w
        = .ok (if ns.drop j = ms.drop j then (none, ()) else (some false, ())) w := by
    intro m
    induction m with
    | zero =>
      intro j hj
      rw [List.drop_eq_nil_of_le (by omega), List.drop_eq_nil_of_le (by omega)]
      simp
    | succ m ih =>
      intro j hj
      have ha := List.getElem?_eq_getElem (show j < ns.length by omega)
      have hb := List.getElem?_eq_getElem (show j < ms.length by omega)
      rw [List.range'_succ, List.forIn_cons]
      simp only [Sem.run_bind, hpart ns j _ ha, hpart ms j _ hb, Result.andThen_ok, run_equalIn_int w d e k k _ _ he]
      rw [List.drop_eq_getElem_cons (show j < ns.length by omega), List.drop_eq_getElem_cons (show j < ms.length by omega)]
      by_cases h : ns[j] = ms[j]
      · simp only [h, beq_self_eq_true, Bool.not_true, Bool.false_eq_true, if_false, Sem.run_pure, Result.andThen_ok, ih (j + 1) (by omega), List.cons.injEq, true_and]
      · have hb : (ns[j] == ms[j]) = false := by simpa using h
        rw [if_neg (fun hh => h (List.cons.inj hh).1)]
        simp only [hb, Bool.not_false, if_true, Sem.run_pure, Result.andThen_ok]
  rw [key n 0 (by omega)]
  simp only [List.drop_zero, Result.andThen_ok]
  by_cases h : ns = ms <;> simp [h]
theorem V_neArr {P : Program} {A : Act} {o : Oper} {x y : Operand} {t t' e n : Nat} {k : IntKind} {ns ms : List Int} (ho : o.op = .binOp .neq t x y t') (hx : EV A x = .agg (arrI k ns)) (hy : EV A y = .agg (arrI k ms)) (hu : P.underlying t = some (.array n e)) (he : P.underlying e = some (.int k))
    (hi : (P.info? e).map (·.size) = some 1) (hg : P.eqGuardType P.depth t = false) (h1 : ns.length = n) (h2 : ms.length = n) : Val P A o (.bool (decide (ns ≠ ms))) := fun w => by
  have hq : (Op.equal t (.agg (arrI k ns)) (.agg (arrI k ms))).run P w = .ok (decide (ns = ms)) w := run_equalIn_arr 9998 hu he hi h1 h2
  have hgd : (eqGuard .neq t x y (.agg (arrI k ns)) (.agg (arrI k ms))).run P w = .ok () w := by
    unfold eqGuard; simp [hg]
  unfold execOp
  simp only [ho, hx, hy, Sem.run_bind, hgd, Result.andThen_ok, binOp, hq, Sem.run_pure]
  by_cases h : ns = ms <;> simp [h]
theorem at_cell {w : World} {v : Value} {zs : List Int} {b o n c k : Nat} {y : Int} (h : Ints w v zs) (hv : v = .slice (some ⟨b, o, none⟩) n c) (hy : zs[k]? = some y) : w.cell? ⟨b, o + k, none⟩ = some (.int .i64 y) := by
  subst hv
  obtain ⟨a', cap', he, _, _, _, _, h5⟩ := h
  cases he
  exact (h5 _ rfl).2 k _ (by rw [List.getElem?_map, hy]; rfl)
end Go.Own
