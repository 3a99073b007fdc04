import Derived.Test.YteppjefmlibmoaaFr4
import Derived.Test.YteppjefmlibmoaaSepU
import Derived.SizedLaws
import Derived.Test.YteppjefmlibmoaaSep8b
/-! arguments: graphs (slices of structs of two slices of ints), with the reach of each slice -/
namespace Go.Own
open Go Go.RowKit Go.WideShapes Go.ChangeShapes
section
variable {H : Type} {enc : TypeId × Value → H} {P : Program}
theorem add_zero' (a : Addr) : a.add 0 = a := by unfold Addr.add; simp
theorem spot_of_cell {W : World} {a : Addr} {v : Value} (h : W.cell? a = some v) : a.spot = none := by
  unfold World.cell? at h
  split at h
  · split at h
    · cases h
    · rename_i h0
      cases hs : a.spot with
      | none => rfl
      | some x => rw [hs] at h0; exact absurd rfl h0
  · cases h
theorem open_slW {W : World} {t e n : Nat} {k : IntKind} {v : Value} {x : DataW H × List MemPlace} (ht : P.underlying t = some (.slice e)) (he : P.underlying e = some (.int k)) (hc : P.cellsOf e = 1)
    (h : DataW.trod enc P W 0 (fun _ => true) true n t [v] = some x) : ∃ zs : List Int, IntsK W k v zs ∧ (∀ z ∈ zs, (Lit.int k z).wf = true) ∧ ∀ R, (∀ m ∈ x.1.weights P t, m ≤ R) → zs.length * P.bytesOf e ≤ R := by
  rcases open_ints ht he hc h with ⟨h1, _⟩ | ⟨a, len, cap, zs, h1, _, hl, hm, hz, hx, hcell, hwf⟩
  · simp only [List.cons.injEq, and_true] at h1
    subst h1
    exact ⟨[], SlN.nil W 1, by simp, fun R _ => by simp⟩
  · simp only [List.cons.injEq, and_true] at h1
    subst h1
    simp only [if_true] at hz
    have hsp : 0 < cap → a.spot = none := fun h0 => by
      have := spot_of_cell (hcell 0 (by omega))
      rwa [add_zero'] at this
    refine ⟨zs.take len, ?_, fun z hz' => hwf z (List.mem_of_mem_take hz'), fun R hR => ?_⟩
    · have hlen : (zs.take len).length = len := by rw [List.length_take]; omega
      unfold IntsK Sl
      simp only [List.length_map, hlen]
      refine ⟨some a, cap, rfl, hl, by unfold maxLen at hm; omega, by simp; omega, (fun h => by cases h), fun b hb => ?_⟩
      cases hb
      refine ⟨hsp, fun j y hj => ?_⟩
      rw [List.getElem?_map, Option.map_eq_some_iff] at hj
      obtain ⟨z, hj, rfl⟩ := hj
      rw [List.getElem?_take] at hj
      split at hj
      · have hjz := (List.getElem?_eq_some_iff.1 hj).1
        have := hcell j hjz
        rw [show ({ block := a.block, off := a.off + j, spot := none } : Addr) = a.add j from ?_]
        · rw [this]; simp [List.getD_eq_getElem?_getD, hj]
        · have hs := hsp (by omega)
          obtain ⟨b, o, s⟩ := a
          simp only at hs
          subst hs
          unfold Addr.add; split
          · rename_i h0; subst h0; simp
          · rfl
      · cases hj
    · have := hR _ (by rw [hx]; unfold DataW.weights; rw [ht]; exact List.mem_cons_self)
      simp only [lits, List.length_map] at this
      refine Nat.le_trans (Nat.mul_le_mul_right _ ?_) this
      omega
end
end Go.Own
namespace Go.Own
open Go Go.RowKit Go.WideShapes Go.ChangeShapes
section
variable {P : Program}
end
end Go.Own

/-! arguments: a struct of one slice of ints -/
namespace Go.Own
open Go Go.RowKit Go.WideShapes Go.ChangeShapes
section
variable {H : Type} {enc : TypeId × Value → H} {P : Program}
end
end Go.Own

/-! arguments of layer 9: the range of a word; slices of counts -/
namespace Go.Own
open Go Go.RowKit Go.WideShapes Go.ChangeShapes
section
variable {P : Program}
end
end Go.Own

/-! arguments of layer 8: remembered sets, configs, cases -/
namespace Go.Own
open Go Go.RowKit Go.WideShapes Go.ChangeShapes
section
variable {H : Type} {enc : TypeId × Value → H} {P : Program}
theorem trod_one1 {W : World} {e ti n : Nat} {f0 : Field} {c : Value} {x : DataW H × List MemPlace} (hs : P.underlying e = some (.struct #[f0])) (ho : f0.offset = 0) (h0 : f0.type = ti) (hci : P.cellsOf ti = 1)
    (h : DataW.trod enc P W 0 (fun _ => true) true n e [c] = some x) : ∃ k y, DataW.trod enc P W 0 (fun _ => true) true k ti [c] = some y := by
  obtain ⟨ys, k, _, _, _, hyl, hf⟩ := DataW.trod_struct hs h
  have e0 := hf 0 f0 rfl
  have hy : ys.length = 1 := hyl
  rw [List.getElem?_eq_getElem (by omega)] at e0
  simp [ho, h0, hci] at e0
  exact ⟨k, _, e0⟩
theorem open_sets {W : World} {t e ti ei n : Nat} {f0 : Field} {v : Value} {x : DataW H × List MemPlace} (ht : P.underlying t = some (.slice e)) (hs : P.underlying e = some (.struct #[f0])) (hc : P.cellsOf e = 1)
    (ho : f0.offset = 0) (h0 : f0.type = ti) (hti : P.underlying ti = some (.slice ei)) (hci : P.cellsOf ti = 1) (hei : P.underlying ei = some (.int .i64)) (hcei : P.cellsOf ei = 1)
    (h : DataW.trod enc P W 0 (fun _ => true) true n t [v] = some x) : ∃ Y, Ro W NoX (rmR v Y) := by
  rcases Go.Deep.open_slice ht h with ⟨hv, _⟩ | ⟨a, len, cap, m, n', D, Pl, hv, _, hl, hm, hmm, hx, hel⟩
  · simp only [List.cons.injEq, and_true] at hv
    subst hv
    exact ⟨[], rmR_nil⟩
  · simp only [List.cons.injEq, and_true] at hv
    subst hv
    simp only [if_true] at hmm
    have hsp : 0 < cap → a.spot = none := fun hp => by
      obtain ⟨cs, g1, _⟩ := hel 0 (by omega)
      rw [hc] at g1
      obtain ⟨_, hlen, hcell⟩ := World.cells?_some g1
      match cs, hlen with
      | [c0], _ =>
        have := spot_of_cell (hcell 0 (by decide))
        rwa [Nat.zero_mul, add_zero', add_zero'] at this
    have each : ∀ i, i < len → ∃ q : SL, W.rangeAt a.block (a.off + i * 1) (fstC q) ∧ IntsK W .i64 q.1 q.2 := by
      intro i hi
      obtain ⟨cs, g1, g2⟩ := hel i (by omega)
      rw [hc] at g1
      obtain ⟨_, hlen, hcell⟩ := World.cells?_some g1
      match cs, hlen with
      | [c0], _ =>
        obtain ⟨k, y, e0⟩ := trod_one1 hs ho h0 hci g2
        obtain ⟨z0, q0, _, _⟩ := open_slW hti hei hcei e0
        refine ⟨(c0, z0), fun j u hj => ?_, q0⟩
        have hj3 : j < 1 := (List.getElem?_eq_some_iff.1 hj).1
        have := hcell j hj3
        have hs' := hsp (by omega)
        obtain ⟨bb, oo, ss⟩ := a
        simp only at hs'
        subst hs'
        have ha : ∀ p q, ((⟨bb, p, none⟩ : Addr).add q) = ⟨bb, p + q, none⟩ := Addr.add_mid bb
        rw [ha, ha] at this
        rw [this]
        exact hj
    obtain ⟨Q, hQ⟩ := Go.Deep.choose_lt each
    have hlen : ((List.range len).map Q).length = len := by simp
    refine ⟨csF ((List.range len).map Q), rmR_of (SlN.ro ⟨some a, cap, by rw [hlen], by rw [hlen]; exact hl, by unfold maxLen at hm; omega, by rw [flat_len fstC_len], fun h => (by cases h), fun b hb => ?_⟩) ⟨fun b => b < W.heap.size, fun y hy => ?_, fun b hb => ⟨hb, fun x => x⟩⟩⟩
    · cases hb
      refine ⟨hsp, fun j u hj => ?_⟩
      have hjl : j < ((List.range len).map Q).length * 1 := by rw [← flat_len fstC_len]; exact (List.getElem?_eq_some_iff.1 hj).1
      rw [hlen] at hjl
      have hi : j / 1 < len := by omega
      have hu : (fstC (Q (j / 1)))[j % 1]? = some u := by
        have hg := flat_get fstC_len ((List.range len).map Q) (j / 1) (j % 1) (Q (j / 1))
        have hm2 : j % 1 < (fstC (Q (j / 1))).length := by rw [fstC_len]; omega
        have := hg _ (by rw [List.getElem?_map, List.getElem?_range hi]; rfl) (List.getElem?_eq_getElem hm2)
        rw [show j / 1 * 1 + j % 1 = j by omega, hj] at this
        rw [List.getElem?_eq_getElem hm2, Option.some.inj this]
      have := (hQ (j / 1) hi).1 (j % 1) u hu
      rw [show a.off + j = a.off + j / 1 * 1 + j % 1 by omega]
      exact this
    · obtain ⟨i, hi, rfl⟩ := List.mem_map.1 hy
      have q0 := (hQ i (List.mem_range.1 hi)).2
      have k0 : SlN W 1 (Q i).1 ((Q i).2.map (Value.int .i64)).length ((Q i).2.map (Value.int .i64)) := q0
      rw [List.length_map] at k0
      exact k0.p
/-- remembered sets' two cells. -/
theorem open_rmsT {W : World} {t tc e ti ei n : Nat} {f0 g0 g1 : Field} {cv nv : Value} {x : DataW H × List MemPlace} (ht : P.underlying t = some (.struct #[g0, g1])) (hg0 : g0.offset = 0 ∧ g0.type = tc) (hg1 : g1.offset = 1 ∧ g1.type = e)
    (htc : P.underlying tc = some (.slice e)) (hcc : P.cellsOf tc = 1) (hs : P.underlying e = some (.struct #[f0])) (hc : P.cellsOf e = 1)
    (ho : f0.offset = 0) (h0 : f0.type = ti) (hti : P.underlying ti = some (.slice ei)) (hci : P.cellsOf ti = 1) (hei : P.underlying ei = some (.int .i64)) (hcei : P.cellsOf ei = 1)
    (h : DataW.trod enc P W 0 (fun _ => true) true n t [cv, nv] = some x) : ∃ Y ns, Ro W NoX (rmR cv Y) ∧ Ro W NoX (il .i64 nv ns) := by
  obtain ⟨y0, y1, m, hx, _, e0, e1⟩ := trod_struct2 ht h
  rw [hg0.1, hg0.2, hcc] at e0
  rw [hg1.1, hg1.2, hc] at e1
  simp at e0 e1
  obtain ⟨Y, hY⟩ := open_sets htc hs hc ho h0 hti hci hei hcei e0
  obtain ⟨k, y, e2⟩ := trod_one1 hs ho h0 hci e1
  obtain ⟨ns, q1, _, _⟩ := open_slW hti hei hcei e2
  have k0 : SlN W 1 nv (ns.map (Value.int .i64)).length (ns.map (Value.int .i64)) := q1
  rw [List.length_map] at k0
  exact ⟨Y, ns, hY, k0.ro⟩
/-- a case: a config and sets. -/
theorem open_case {W : World} {t tf tr te tc e ti ei n : Nat} {f0 g0 g1 k0 k1 : Field} {v : Value} {x : DataW H × List MemPlace} {base : Nat} (ht : P.underlying t = some (.struct #[k0, k1])) (hct : P.cellsOf t = 7) (hcts : P.cellTypes P.depth t = some [te, te, te, te, te, tc, ti])
    (hk0 : k0.offset = 0 ∧ k0.type = tf) (hcf : P.cellsOf tf = 5) (hk1 : k1.offset = 5 ∧ k1.type = tr) (hte : P.underlying te = some (.int .i64))
    (htr : P.underlying tr = some (.struct #[g0, g1])) (hcr : P.cellsOf tr = 2) (hg0 : g0.offset = 0 ∧ g0.type = tc) (hg1 : g1.offset = 1 ∧ g1.type = e)
    (htc : P.underlying tc = some (.slice e)) (hcc : P.cellsOf tc = 1) (hs : P.underlying e = some (.struct #[f0])) (hc : P.cellsOf e = 1)
    (ho : f0.offset = 0) (h0 : f0.type = ti) (hti : P.underlying ti = some (.slice ei)) (hci : P.cellsOf ti = 1) (hei : P.underlying ei = some (.int .i64)) (hcei : P.cellsOf ei = 1)
    (hok : Value.okWide P W .any base t v) (h : DataW.trod enc P W 0 (fun _ => true) true n t v.cells.toList = some x) :
    ∃ C N Z K Q cv Y nv ns, v = .agg #[.int .i64 C, .int .i64 N, .int .i64 Z, .int .i64 K, .int .i64 Q, cv, nv] ∧ Ro W NoX (rmR cv Y) ∧ Ro W NoX (il .i64 nv ns) := by
  unfold Value.okWide at hok
  simp only [ht] at hok
  obtain ⟨cs, rfl, hsz, tys, hty, _, hcell⟩ := hok
  rw [hcts] at hty
  cases hty
  rw [hct] at hsz
  obtain ⟨x0, x1, x2, x3, x4, cv, nv, rfl⟩ : ∃ x0 x1 x2 x3 x4 cv nv, cs = #[x0, x1, x2, x3, x4, cv, nv] := by
    obtain ⟨l⟩ := cs
    match l, hsz with
    | [a, b, c, d, e, f, g], _ => exact ⟨a, b, c, d, e, f, g, rfl⟩
  obtain ⟨u0, hu0, hk0'⟩ := hcell 0 x0 rfl
  obtain ⟨u1, hu1, hk1'⟩ := hcell 1 x1 rfl
  obtain ⟨u2, hu2, hk2'⟩ := hcell 2 x2 rfl
  obtain ⟨u3, hu3, hk3'⟩ := hcell 3 x3 rfl
  obtain ⟨u4, hu4, hk4'⟩ := hcell 4 x4 rfl
  simp at hu0 hu1 hu2 hu3 hu4
  subst hu0 hu1 hu2 hu3 hu4
  obtain ⟨C, rfl, _⟩ := ok_int hte hk0'
  obtain ⟨N, rfl, _⟩ := ok_int hte hk1'
  obtain ⟨Z, rfl, _⟩ := ok_int hte hk2'
  obtain ⟨K, rfl, _⟩ := ok_int hte hk3'
  obtain ⟨Q, rfl, _⟩ := ok_int hte hk4'
  obtain ⟨y0, y1, m, hx, _, e0, e1⟩ := trod_struct2 ht h
  rw [hk1.1, hk1.2, hcr] at e1
  simp [Value.cells] at e1
  obtain ⟨Y, ns, h1, h2⟩ := open_rmsT htr hg0 hg1 htc hcc hs hc ho h0 hti hci hei hcei e1
  exact ⟨C, N, Z, K, Q, cv, Y, nv, ns, rfl, h1, h2⟩
end
end Go.Own
