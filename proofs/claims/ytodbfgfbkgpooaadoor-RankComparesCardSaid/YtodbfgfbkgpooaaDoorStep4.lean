import Derived.Test.YtodbfgfbkgpooaaDoorStep3
namespace Go.Own
open Go Go.RowKit
section
variable {P : Program}
/-- append(s, x...) of ints, s being memory of the call's own since the world w0. -/
theorem wpList_appI {ops : Array Oper} {rest : List Oper} {o : Oper} {a : Act} {Q : Exit → Act → World → Prop} {w0 w : World} (hgd : o.guard = none) (s x : Operand) (t t2 : TypeId)
    (ho : o.op = .call { callee := .builtin .append, args := #[s, x], argTypes := #[t, t2] })
    (e e2 : TypeId) (i : TypeInfo) (ht : P.underlying t = some (.slice e)) (ht2 : P.underlying t2 = some (.slice e2)) (hi : P.info? e = some i) (hz : i.zero = some (.int .i64 0)) (hs1 : i.size = 1) (hby : i.bytes = 8)
    (hE : Ext w0 w) (xs ys : List Int) (hown : OwnI w w0.heap.size e (a.eval s) xs) (hy : Ints w (a.eval x) ys) (hlen : xs.length + ys.length ≤ 1000000)
    (h : ∀ v' w', OwnI w' w0.heap.size e v' (xs ++ ys) → Ext w0 w' → wpList P ops Q rest (a.put o.dst v') w') : wpList P ops Q (o :: rest) a w := by
  refine wpList_append_ext hgd s x t t2 ho w0.heap.size e e2 i (.int .i64 0) 1 8 ht ht2 hi hz hs1 hby rfl (by decide) _ _ hown _ _ hy ?_ (by simp only [List.length_map]; omega) (by simp only [List.length_map]; omega) hE.size ?_
  · intro u hu; obtain ⟨x, _, rfl⟩ := List.mem_map.1 hu; rfl
  · intro v' w' hown' hgrow _
    refine h v' w' ?_ (hE.grown hgrow hE.size (fun j hj => (hown.lt j hj).1))
    unfold OwnI
    rw [List.map_append, List.length_append]
    simpa using hown'

/-- append([]int{}, y...) -/
theorem run_fresh {w : World} (B : Nat) (t t2 ty e e2 : TypeId) (i : TypeInfo) (ht : P.underlying t = some (.slice e)) (ht2 : P.underlying t2 = some (.slice e2)) (hi : P.info? e = some i) (hz : i.zero = some (.int .i64 0)) (hs1 : i.size = 1) (hby : i.bytes = 8)
    (g : Nat) (hg : w.heap[g]? = some (.cells #[] e (0, 0))) (hB : B ≤ g) {y : Value} {zs : List Int} (hy : Ints w y zs) (hlen : zs.length ≤ 1000000) :
    ∃ v' w', (Builtin.append_ #[t, t2] ty #[.slice (some ⟨g, 0, none⟩) 0 0, y]).run P w = .ok v' w' ∧ OwnI w' B e v' zs ∧ Ext w w' := by
  have key : (Builtin.append_ #[t, t2] ty #[.slice (some ⟨g, 0, none⟩) 0 0, y]).run P w = (Builtin.append_ #[t, t] ty #[.slice (some ⟨g, 0, none⟩) 0 0, y]).run P w := by
    simp [Builtin.append_, run_underlying ht, run_underlying ht2]
  rw [key]
  have hgs : g < w.heap.size := (Array.getElem?_eq_some_iff.1 hg).1
  obtain ⟨a, cap, rfl⟩ := hy.form
  by_cases h0 : zs.length = 0
  · have hz0 := List.eq_nil_of_length_eq_zero h0
    subst hz0
    refine ⟨.slice (some ⟨g, 0, none⟩) 0 0, w, ?_, ⟨by simp, .inr ⟨g, 0, #[], rfl, hB, hg, by simp, by simp, by simp, by simp⟩⟩, Ext.rfl' w⟩
    cases a with
    | none => simp [Builtin.append_, run_underlying ht, sizeOf, typeInfo, hi, Builtin.lenOf, Builtin.firstCells, storeCells]
    | some b => simp [Builtin.append_, run_underlying ht, sizeOf, typeInfo, hi, Builtin.lenOf, Builtin.firstCells, loadCells, loadCellsFrom, storeCells]
  · cases a with
    | none => 
      obtain ⟨_, _, _, hh, _⟩ := hy.at (k := 0) (by omega)
      cases hh
    | some b =>
      have hadds := SlN.adds (s := 1) (n := zs.length) (by simpa [Ints, Sl] using hy)
      have hr := run_append_grow (P := P) w t ty e i (.int .i64 0) ht hi hz ⟨g, 0, none⟩ 0 0 [] (by simp) (by simp) b zs.length cap (zs.map (Value.int .i64)) (by simp [hs1]) hadds (by omega) (by omega) (growslice_fits (by omega) (by rw [hby]; omega))
      refine ⟨_, _, hr, ?_, ?_⟩
      · have hge := grownCap_ge w (0 + zs.length) 0 e
        have hcm : grownCap w (0 + zs.length) 0 e ≤ maxLen := grownCap_le_maxLen w (0 + zs.length) 0 e (by unfold maxLen; omega)
        refine ⟨by simp, .inr ⟨w.heap.size, grownCap w (0 + zs.length) 0 e, _, by rw [Nat.zero_add], by omega, heap_alloc_new w.drew _, by rw [Nat.zero_add] at hge ⊢; exact hge, hcm, ?_, ?_⟩⟩
        · simp [size_zeroCells, Value.cells]
          simp at hge
          omega
        · simp
      · exact ⟨rfl, rfl, rfl, by simp, fun k hk => Below.heap_alloc w.drew _ k hk⟩

def SP.emp (w0 : World) (e : TypeId) : SP := ⟨fun w v => ∃ g, v = .slice (some ⟨g, 0, none⟩) 0 0 ∧ w0.heap.size ≤ g ∧ w.heap[g]? = some (.cells #[] e (0, 0)),
  fun _ _ _ he ⟨g, h1, h2, h3⟩ => ⟨g, h1, h2, heap_ext he h3⟩⟩

variable {ops : Array Oper} {w0 : World} {Φ : Nat → Option SP} {e : Nat} {Z : Act → (Nat → World → Prop) → Prop} {l : List Oper} {o : Oper} {i : Nat} {a a' : Act} {F : Nat → World → Prop}

/-- []int{} -/
theorem Chk_emp {wB : World} {el : TypeId} (he : (i == e) = false) (hw : Region.wanted o (yielded ops a.tmps) = true) (hΦ : Φ i = some (.emp wB el)) (hB : wB.heap.size ≤ w0.heap.size)
    (hx : ∀ w, (execOp a.eval o).run P w = .ok (.value (.slice (some ⟨w.heap.size, 0, none⟩) 0 0)) (w.alloc (.cells #[] el)))
    (h : ∀ g a', a.put o.dst (.slice (some ⟨g, 0, none⟩) 0 0) = a' → Chk P ops (fun w' => Ext w0 w') Φ e Z l (i + 1) a' (upd F i fun w => ∃ g', Value.slice (some ⟨g, 0, none⟩) 0 0 = .slice (some ⟨g', 0, none⟩) 0 0 ∧ wB.heap.size ≤ g' ∧ w.heap[g']? = some (.cells #[] el (0, 0)))) : Chk P ops (fun w' => Ext w0 w') Φ e Z (o :: l) i a F := by
  refine Chk_val he hw hΦ (fun w hE hF => ⟨_, _, hx w, Ext.alloc _ _, w.heap.size, rfl, by have := hE.size; omega, heap_alloc_new _ _⟩) (fun u a' hu hp => ?_)
  obtain ⟨w, hE, g, rfl, h1, h2⟩ := hu
  exact h g a' hp

/-- append([]int{}, y...) in a region that draws. -/
theorem Chk_appE {wB : World} {el t t2 e2 : TypeId} {inf : TypeInfo} {s x : Operand} {zs : List Int} {g : Nat} (he : (i == e) = false) (hw : Region.wanted o (yielded ops a.tmps) = true) (hΦ : Φ i = some (.own wB el zs))
    (ho : o.op = .call { callee := .builtin .append, args := #[s, x], argTypes := #[t, t2] })
    (ht : P.underlying t = some (.slice el)) (ht2 : P.underlying t2 = some (.slice e2)) (hi : P.info? el = some inf) (hz : inf.zero = some (.int .i64 0)) (hs1 : inf.size = 1) (hby : inf.bytes = 8)
    (hs : a.eval s = .slice (some ⟨g, 0, none⟩) 0 0)
    (hg : ∀ w, Ext w0 w → ancF ops i F w → ∃ g', Value.slice (some ⟨g, 0, none⟩) 0 0 = .slice (some ⟨g', 0, none⟩) 0 0 ∧ wB.heap.size ≤ g' ∧ w.heap[g']? = some (.cells #[] el (0, 0)))
    (hy : Ints w0 (a.eval x) zs) (hlen : zs.length ≤ 1000000) (n : Nat) (hn : zs.length = n)
    (h : ∀ b c a', (∃ w, Ext w0 w ∧ OwnI w wB.heap.size el (.slice b n c) zs) → a.put o.dst (.slice b n c) = a' → Chk P ops (fun w' => Ext w0 w') Φ e Z l (i + 1) a' (upd F i fun w => OwnI w wB.heap.size el (.slice b n c) zs)) : Chk P ops (fun w' => Ext w0 w') Φ e Z (o :: l) i a F := by
  subst hn
  refine Chk_val he hw hΦ (fun w hE hF => ?_) (fun u a' hu hp => ?_)
  · obtain ⟨g', he', h1, h2⟩ := hg w hE hF
    cases he'
    obtain ⟨v', w', hr, q1, q2⟩ := run_fresh (P := P) wB.heap.size t t2 o.type el e2 inf ht ht2 hi hz hs1 hby g h2 h1 (hy.ext hE) hlen
    refine ⟨v', w', ?_, q2, q1⟩
    unfold execOp
    simp only [ho, resolve, invoke, builtin, Sem.run_bind, Sem.run_pure, Result.andThen_ok, List.map_toArray, List.map_cons, List.map_nil, hs, hr]
  · obtain ⟨w, hE, hu⟩ := hu
    obtain ⟨b, c, rfl⟩ := OwnI.form hu
    exact h b c a' ⟨w, hE, hu⟩ hp
end
end Go.Own
