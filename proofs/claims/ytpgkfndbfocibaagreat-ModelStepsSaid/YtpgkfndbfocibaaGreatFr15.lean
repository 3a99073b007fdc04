import Derived.Test.YtpgkfndbfocibaaGreatFr4
import Derived.Test.YtpgkfndbfocibaaGreatSepU
import Derived.SizedLaws
/-! arguments: graphs (slices of structs of two slices of ints), with the reach of each slice -/
namespace Go.Own
open Go Go.RowKit Go.WideShapes Go.ChangeShapes
section
variable {H : Type} {enc : TypeId × Value → H} {P : Program}
theorem add_zero' (a : Addr) : a.add 0 = a := by unfold Addr.add; simp
theorem spot_of_cell {W : World} {a : Addr} {v : Value} (h : W.cell? a = some v) : a.spot = none := by
  unfold World.cell? at h
  split at h
  · split at h
    · cases h
    · rename_i h0
      cases hs : a.spot with
      | none => rfl
      | some x => rw [hs] at h0; exact absurd rfl h0
  · cases h
theorem open_slW {W : World} {t e n : Nat} {k : IntKind} {v : Value} {x : DataW H × List MemPlace} (ht : P.underlying t = some (.slice e)) (he : P.underlying e = some (.int k)) (hc : P.cellsOf e = 1)
    (h : DataW.trod enc P W 0 (fun _ => true) true n t [v] = some x) : ∃ zs : List Int, IntsK W k v zs ∧ (∀ z ∈ zs, (Lit.int k z).wf = true) ∧ ∀ R, (∀ m ∈ x.1.weights P t, m ≤ R) → zs.length * P.bytesOf e ≤ R := by
  rcases open_ints ht he hc h with ⟨h1, _⟩ | ⟨a, len, cap, zs, h1, _, hl, hm, hz, hx, hcell, hwf⟩
  · simp only [List.cons.injEq, and_true] at h1
    subst h1
    exact ⟨[], SlN.nil W 1, by simp, fun R _ => by simp⟩
  · simp only [List.cons.injEq, and_true] at h1
    subst h1
    simp only [if_true] at hz
    have hsp : 0 < cap → a.spot = none := fun h0 => by
      have := spot_of_cell (hcell 0 (by omega))
      rwa [add_zero'] at this
    refine ⟨zs.take len, ?_, fun z hz' => hwf z (List.mem_of_mem_take hz'), fun R hR => ?_⟩
    · have hlen : (zs.take len).length = len := by rw [List.length_take]; omega
      unfold IntsK Sl
      simp only [List.length_map, hlen]
      refine ⟨some a, cap, rfl, hl, by unfold maxLen at hm; omega, by simp; omega, (fun h => by cases h), fun b hb => ?_⟩
      cases hb
      refine ⟨hsp, fun j y hj => ?_⟩
      rw [List.getElem?_map, Option.map_eq_some_iff] at hj
      obtain ⟨z, hj, rfl⟩ := hj
      rw [List.getElem?_take] at hj
      split at hj
      · have hjz := (List.getElem?_eq_some_iff.1 hj).1
        have := hcell j hjz
        rw [show ({ block := a.block, off := a.off + j, spot := none } : Addr) = a.add j from ?_]
        · rw [this]; simp [List.getD_eq_getElem?_getD, hj]
        · have hs := hsp (by omega)
          obtain ⟨b, o, s⟩ := a
          simp only at hs
          subst hs
          unfold Addr.add; split
          · rename_i h0; subst h0; simp
          · rfl
      · cases hj
    · have := hR _ (by rw [hx]; unfold DataW.weights; rw [ht]; exact List.mem_cons_self)
      simp only [lits, List.length_map] at this
      refine Nat.le_trans (Nat.mul_le_mul_right _ ?_) this
      omega
theorem weightsAll_mem {t : TypeId} : ∀ {ds : List (DataW H)} {d : DataW H}, d ∈ ds → ∀ m ∈ d.weights P t, m ∈ DataW.weightsAll P t ds
  | [], d, h, _, _ => by cases h
  | e :: ds, d, h, m, hm => by
    unfold DataW.weightsAll
    rcases List.mem_cons.1 h with rfl | h
    · exact List.mem_append_left _ hm
    · exact List.mem_append_right _ (weightsAll_mem h m hm)
/-- a slice of structs of two slices of ints. -/
theorem open_obs {W : World} {t e ti tu ei eu n : Nat} {f0 f1 : Field} {v : Value} {x : DataW H × List MemPlace} (ht : P.underlying t = some (.slice e)) (hs : P.underlying e = some (.struct #[f0, f1])) (hc : P.cellsOf e = 2)
    (ho : f0.offset = 0 ∧ f1.offset = 1) (h0 : f0.type = ti) (h1 : f1.type = tu) (hti : P.underlying ti = some (.slice ei)) (htu : P.underlying tu = some (.slice eu)) (hci : P.cellsOf ti = 1) (hcu : P.cellsOf tu = 1)
    (hei : P.underlying ei = some (.int .i64)) (heu : P.underlying eu = some (.int .u64)) (hcei : P.cellsOf ei = 1) (hceu : P.cellsOf eu = 1)
    (h : DataW.trod enc P W 0 (fun _ => true) true n t [v] = some x) :
    ∃ xs : List Ob, Ro W NoX (rl 2 obC v xs) ∧ Ro W NoX (nst xs) ∧ (∀ y ∈ xs, ∀ z ∈ y.2.2, (Lit.int .u64 z).wf = true) ∧ ∀ R, (∀ m ∈ x.1.weights P t, m ≤ R) → ∀ y ∈ xs, y.1.2.length * P.bytesOf ei ≤ R ∧ y.2.2.length * P.bytesOf eu ≤ R := by
  rcases Go.Deep.open_slice ht h with ⟨hv, _⟩ | ⟨a, len, cap, m, n', D, Pl, hv, _, hl, hm, hmm, hx, hel⟩
  · simp only [List.cons.injEq, and_true] at hv
    subst hv
    exact ⟨[], ro_nil, nst_nil, by simp, by simp⟩
  · simp only [List.cons.injEq, and_true] at hv
    subst hv
    simp only [if_true] at hmm
    have hsp : 0 < cap → a.spot = none := fun hp => by
      obtain ⟨cs, g1, _⟩ := hel 0 (by omega)
      rw [hc] at g1
      obtain ⟨_, hlen, hcell⟩ := World.cells?_some g1
      match cs, hlen with
      | [c0, c1], _ =>
        have := spot_of_cell (hcell 0 (by decide))
        rwa [Nat.zero_mul, add_zero', add_zero'] at this
    have each : ∀ i, i < len → ∃ q : Ob, W.rangeAt a.block (a.off + i * 2) (obC q) ∧ IntsK W .i64 q.1.1 q.1.2 ∧ IntsK W .u64 q.2.1 q.2.2 ∧ (∀ z ∈ q.2.2, (Lit.int .u64 z).wf = true) ∧
        ∀ R, (∀ m ∈ (D i).weights P e, m ≤ R) → q.1.2.length * P.bytesOf ei ≤ R ∧ q.2.2.length * P.bytesOf eu ≤ R := by
      intro i hi
      obtain ⟨cs, g1, g2⟩ := hel i (by omega)
      rw [hc] at g1
      obtain ⟨_, hlen, hcell⟩ := World.cells?_some g1
      obtain ⟨y0, y1, k, hD, _, e0, e1⟩ := trod_struct2 hs g2
      match cs, hlen with
      | [c0, c1], _ =>
        simp [ho.1, ho.2, h0, h1, hci, hcu] at e0 e1
        obtain ⟨z0, q0, _, r0⟩ := open_slW hti hei hcei e0
        obtain ⟨z1, q1, w1, r1⟩ := open_slW htu heu hceu e1
        refine ⟨((c0, z0), (c1, z1)), fun j u hj => ?_, q0, q1, w1, fun R hR => ?_⟩
        · have hj3 : j < 2 := (List.getElem?_eq_some_iff.1 hj).1
          have := hcell j hj3
          have hs' := hsp (by omega)
          obtain ⟨bb, oo, ss⟩ := a
          simp only at hs'
          subst hs'
          have ha : ∀ p q, ((⟨bb, p, none⟩ : Addr).add q) = ⟨bb, p + q, none⟩ := Addr.add_mid bb
          rw [ha, ha] at this
          rw [this]
          exact hj
        · have hw : ∀ m ∈ DataW.weightsEach P [ti, tu] [y0.1, y1.1], m ≤ R := fun m hm => by
            refine hR m ?_
            have hD' : D i = .agg [y0.1, y1.1] := congrArg Prod.fst hD
            rw [hD']; unfold DataW.weights; rw [hs]
            simpa [h0, h1] using hm
          exact ⟨r0 R fun m hm => hw m (by unfold DataW.weightsEach; exact List.mem_append_left _ hm), r1 R fun m hm => hw m (by unfold DataW.weightsEach; refine List.mem_append_right _ ?_; unfold DataW.weightsEach; exact List.mem_append_left _ hm)⟩
    obtain ⟨Q, hQ⟩ := Go.Deep.choose_lt each
    have hlen : ((List.range len).map Q).length = len := by simp
    have hmem : ∀ y ∈ (List.range len).map Q, ∃ i, i < len ∧ y = Q i := fun y hy => by
      obtain ⟨i, hi, rfl⟩ := List.mem_map.1 hy
      exact ⟨i, List.mem_range.1 hi, rfl⟩
    refine ⟨(List.range len).map Q, SlN.ro ⟨some a, cap, by rw [hlen], by rw [hlen]; exact hl, by unfold maxLen at hm; omega, by rw [flat_len obC_len], fun h => (by cases h), fun b hb => ?_⟩, ⟨fun b => b < W.heap.size, fun y hy => ?_, fun b hb => ⟨hb, fun x => x⟩⟩, fun y hy => ?_, fun R hR y hy => ?_⟩
    · cases hb
      refine ⟨hsp, fun j u hj => ?_⟩
      have hjl : j < ((List.range len).map Q).length * 2 := by rw [← flat_len obC_len]; exact (List.getElem?_eq_some_iff.1 hj).1
      rw [hlen] at hjl
      have hi : j / 2 < len := by omega
      have hu : (obC (Q (j / 2)))[j % 2]? = some u := by
        have hg := flat_get obC_len ((List.range len).map Q) (j / 2) (j % 2) (Q (j / 2))
        have hm2 : j % 2 < (obC (Q (j / 2))).length := by rw [obC_len]; omega
        have := hg _ (by simp [hi]) (List.getElem?_eq_getElem hm2)
        rw [show j / 2 * 2 + j % 2 = j by omega, hj] at this
        rw [List.getElem?_eq_getElem hm2, Option.some.inj this]
      have := (hQ (j / 2) hi).1 (j % 2) u hu
      rw [show a.off + j = a.off + j / 2 * 2 + j % 2 by omega]
      exact this
    · obtain ⟨i, hi, rfl⟩ := hmem y hy
      obtain ⟨_, q0, q1, _⟩ := hQ i hi
      have k0 : SlN W 1 (Q i).1.1 ((Q i).1.2.map (Value.int .i64)).length ((Q i).1.2.map (Value.int .i64)) := q0
      have k1 : SlN W 1 (Q i).2.1 ((Q i).2.2.map (Value.int .u64)).length ((Q i).2.2.map (Value.int .u64)) := q1
      rw [List.length_map] at k0 k1
      exact ⟨k0.p, k1.p⟩
    · obtain ⟨i, hi, rfl⟩ := hmem y hy
      exact (hQ i hi).2.2.2.1
    · obtain ⟨i, hi, rfl⟩ := hmem y hy
      refine (hQ i hi).2.2.2.2 R fun m hm => hR m ?_
      have hx' : x.1 = .slice ((List.range len).map D) ((List.range (cap - len)).map fun j => D (len + j)) := by rw [hx, hmm]
      rw [hx']; unfold DataW.weights; rw [ht]
      refine List.mem_cons_of_mem _ (List.mem_append_left _ (weightsAll_mem (d := D i) ?_ m hm))
      exact List.mem_map.2 ⟨i, List.mem_range.2 hi, rfl⟩
/-- a graph. -/
theorem open_gr {W : World} {t to e ti tu ei eu n : Nat} {f0 f1 g0 g1 : Field} {v : Value} {x : DataW H × List MemPlace} {base : Nat} (ht : P.underlying t = some (.struct #[g0, g1])) (hct : P.cellsOf t = 2) (hgo : g0.offset = 0 ∧ g1.offset = 1) (hg0 : g0.type = to) (hg1 : g1.type = ti)
    (hto : P.underlying to = some (.slice e)) (hcto : P.cellsOf to = 1) (hcc : P.cellTypes P.depth t = some [to, ti]) (hs : P.underlying e = some (.struct #[f0, f1])) (hc : P.cellsOf e = 2)
    (ho : f0.offset = 0 ∧ f1.offset = 1) (h0 : f0.type = ti) (h1 : f1.type = tu) (hti : P.underlying ti = some (.slice ei)) (htu : P.underlying tu = some (.slice eu)) (hci : P.cellsOf ti = 1) (hcu : P.cellsOf tu = 1)
    (hei : P.underlying ei = some (.int .i64)) (heu : P.underlying eu = some (.int .u64)) (hcei : P.cellsOf ei = 1) (hceu : P.cellsOf eu = 1) (hbi : P.bytesOf ei = 8) (hbu : P.bytesOf eu = 8)
    (hok : Value.okWide P W .any base t v) (h : DataW.trod enc P W 0 (fun _ => true) true n t v.cells.toList = some x) (hR : ∀ m ∈ x.1.weights P t, m ≤ reachBytes) :
    ∃ ov O rv rs, v = .agg #[ov, rv] ∧ Ro W NoX (rl 2 obC ov O) ∧ Ro W NoX (nst O) ∧ Ro W NoX (il .i64 rv rs) ∧ (∀ o ∈ O.map ab, o.1.length ≤ 17592186044416 ∧ o.2.length ≤ 17592186044416) ∧ ∀ o ∈ O.map ab, ∀ z ∈ o.2, 0 ≤ z ∧ z < 18446744073709551616 := by
  unfold Value.okWide at hok
  simp only [ht] at hok
  obtain ⟨cs, rfl, hsz, tys, hty, _, hcell⟩ := hok
  rw [hcc] at hty
  cases hty
  rw [hct] at hsz
  obtain ⟨ov, rv, rfl⟩ : ∃ ov rv, cs = #[ov, rv] := by
    obtain ⟨l⟩ := cs
    match l, hsz with
    | [a, b], _ => exact ⟨a, b, rfl⟩
  obtain ⟨y0, y1, m, hx, _, e0, e1⟩ := trod_struct2 ht h
  rw [hgo.1, hg0, hcto] at e0
  rw [hgo.2, hg1, hci] at e1
  simp [Value.cells] at e0 e1
  obtain ⟨O, r1, r2, r4, r3⟩ := open_obs hto hs hc ho h0 h1 hti htu hci hcu hei heu hcei hceu e0
  obtain ⟨rs, q1, _, _⟩ := open_slW hti hei hcei e1
  have k0 : SlN W 1 rv (rs.map (Value.int .i64)).length (rs.map (Value.int .i64)) := q1
  rw [List.length_map] at k0
  have hD : x.1 = .agg [y0.1, y1.1] := congrArg Prod.fst hx
  have hw := r3 reachBytes fun m hm => hR m (by
    rw [hD]; unfold DataW.weights; rw [ht]
    simp only [List.map_cons, List.map_nil, hg0]
    unfold DataW.weightsEach
    exact List.mem_append_left _ hm)
  refine ⟨ov, O, rv, rs, rfl, r1, r2, k0.ro, fun o ho' => ?_, fun o ho' z hz => ?_⟩
  · obtain ⟨y, hy, rfl⟩ := List.mem_map.1 ho'
    have := hw y hy
    rw [hbi, hbu] at this
    unfold reachBytes at this
    simp only [ab]; omega
  · obtain ⟨y, hy, rfl⟩ := List.mem_map.1 ho'
    have := r4 y hy z hz
    simp [Lit.wf, IntKind.min, IntKind.max, IntKind.signed, IntKind.bits] at this
    omega
theorem wt_at {ts : List TypeId} {ds : List (DataW H)} {t : TypeId} {d : DataW H} (j : Nat) (h : (DataW.weightsEach P ts ds).all (· ≤ reachBytes) = true) (ht : ts[j]? = some t) (hd : ds[j]? = some d) : ∀ m ∈ d.weights P t, m ≤ reachBytes := fun m hm => by
  simpa using List.all_eq_true.1 h m (DataW.weights_mem_each ht hd m hm)
end
end Go.Own
namespace Go.Own
open Go Go.RowKit Go.WideShapes Go.ChangeShapes
section
variable {P : Program}
end
end Go.Own
