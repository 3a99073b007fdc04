import Derived.Test.YtnfgeekaeegolaaGen
import Derived.ProofKit
import Derived.ChangeBook
import Derived.ChangeStays
import Derived.ChangeSame
import Derived.Below
import Derived.Test.YtnfgeekaeegolaaSepR
import Derived.Deep.SlicePairs
/-! the row's step for a law: arguments stay as they read, whatever new memory the call made -/
namespace Go.Own
open Go Go.RowKit Go.WideShapes Go.ChangeShapes

section
variable {H : Type} {enc : TypeId × Value → H} {P : Program}
theorem sameAt_below {W W' : World} (hb : Ext W W') {p : MemPlace} (hlt : p.block < W.heap.size) : W.sameAt W' p := by
  cases p with
  | cell b off => exact hb.cell (p := ⟨b, off, none⟩) hlt
  | map b => exact hb.block b hlt
theorem carry_all (hl : laidOutB P = true) {W W' : World} (hb : Ext W W') {sp : Nat → Bool} : ∀ (ts : List TypeId) (vs : List Value) (ds : List (DataW H)) (ps : List MemPlace),
    (ts.all fun t => P.readableRec t && decide (t < P.types.size)) = true → DataW.TrodAll enc P W 0 (fun _ => true) true ts vs ds ps → (∀ p ∈ ps, p.block < W.heap.size) → (∀ p ∈ ps, sp p.block = true) →
    DataW.TrodAll enc P W' 0 sp true ts vs ds ps
  | [], vs, ds, ps, _, h, _, _ => by
    cases vs <;> cases ds <;> simp [DataW.TrodAll] at h ⊢
    exact h
  | t :: ts, vs, ds, ps, ht, h, hlt, hsp => by
    cases vs with
    | nil => cases ds <;> simp [DataW.TrodAll] at h
    | cons v vs =>
      cases ds with
      | nil => simp [DataW.TrodAll] at h
      | cons d ds =>
        obtain ⟨p, q, ⟨n, h1⟩, h2, rfl⟩ := h
        simp only [List.all_cons, Bool.and_eq_true, decide_eq_true_eq] at ht
        obtain ⟨⟨hr, hrow⟩, ht2⟩ := ht
        refine ⟨p, q, ⟨n, ?_⟩, carry_all hl hb ts vs ds q (by simpa using ht2) h2 (fun x hx => hlt x (by simp [hx])) (fun x hx => hsp x (by simp [hx])), rfl⟩
        exact DataW.trod_stays (kids_book hl hr) (book_sized hr) (fun h => by cases h) ⟨hrow, book_self t⟩ h1 (fun x hx => sameAt_below hb (hlt x (by simp [hx]))) (fun x hx => hsp x (by simp [hx]))
/-- the post of a law that answers true and makes new memory only. -/
theorem law_post {f : Func} {s : ChangeSpec} {apart fresh handsOn again : Bool} {W W' : World} {args : Array Value} {ds : List (DataW H)} {before : List MemPlace} {tb : TypeId} (hl : laidOutB P = true)
    (hr : f.params.toList.all (fun t => P.readableRec t && decide (t < P.types.size)) = true) (htb : f.resultTypes = #[tb]) (hub : P.underlying tb = some .bool) (hvs : s.vars = [])
    (hs : s.fn H ds = { results := [.lit (.bool true)], args := ds }) (hW : DataW.Whole enc P f.params.toList s.vars apart W args.toList ds [] before)
    (hA : DataW.TrodAll enc P W 0 (fun _ => true) true f.params.toList args.toList ds before) (hb : Ext W W') : s.post enc P f apart fresh handsOn again W args (.bool true) W' := by
  have hlt : ∀ p ∈ before, p.block < W.heap.size := fun p hp => hW.lt p hp
  have hold : ∀ p ∈ before, (fun b => decide (b < W.heap.size)) p.block = true := fun p hp => by simpa using hlt p hp
  have hres : ∀ (b : Nat) (sp : Nat → Bool) (hd : Bool), DataW.TrodAll enc P W' b sp hd f.resultTypes.toList ((Value.bool true).resultList f.resultTypes.size) [.lit (.bool true)] [] := fun b sp hd => by
    rw [htb]; exact trodAll_mk1 (shut_bool hub _)
  have hargs : ∀ sp : Nat → Bool, (∀ p ∈ before, sp p.block = true) → DataW.TrodAll enc P W' 0 sp true f.params.toList args.toList ds before := fun sp hsp => carry_all hl hb _ _ _ _ hr hA hlt hsp
  have hvars : ∀ sp : Nat → Bool, DataW.TrodVars enc P W' sp s.vars [] [] := fun sp => by rw [hvs]; rfl
  have hfn : s.fn H (ds ++ []) = { results := [.lit (.bool true)], args := ds } := by rw [List.append_nil]; exact hs
  refine ⟨ds, [], before, [], before, [], hW, ?_, ?_, ?_, World.keptBut_mono (fun p hp => ⟨hp, ?_⟩) (hb.frame (· ∈ before)), fun _ => ?_⟩
  · rw [hfn]; exact hres _ _ _
  · rw [hfn]; exact hargs _ hold
  · rw [hfn]; exact hvars _
  · exact Or.inr (by simpa using hp)
  · obtain ⟨_, _, _, _, _, hz, hn⟩ := hW
    refine ⟨?_, _, _, ([] ++ before) ++ [], ⟨[] ++ before, [], trodAll_append (hargs (fun _ => true) (fun _ _ => rfl)) (hres _ _ _), hvars _, rfl, ?_, ?_⟩, ?_⟩
    · intro j t r hj hr'
      rw [htb] at hj hr'
      exact ok_one (f := f) (by rw [htb]) rfl (okWide_bool_mk hub _) j t r (by rw [htb]; exact hj) (by rw [htb]; exact hr')
    · intro b off hp
      have hin : MemPlace.cell b off ∈ before := by simpa using hp
      rw [hb.frozen (hlt _ hin)]
      exact hz b off hin
    · intro ha
      have := hn ha
      simpa using this
    · intro p hp _
      simpa using hp
end

section
variable {H : Type} {enc : TypeId × Value → H} {P : Program}
theorem has_spot {W : World} {r : Reach} {base t e : Nat} {a : Addr} {l c : Nat} (ht : P.underlying t = some (.slice e)) (h : Cell.okWide P W r base t (.slice (some a) l c)) : a.spot = none := by
  unfold Cell.okWide Cell.ok at h
  simp only [ht] at h
  exact h.2.2.2.1
theorem ok_int {W : World} {r : Reach} {base t : Nat} {k : IntKind} {v : Value} (ht : P.underlying t = some (.int k)) (h : Cell.okWide P W r base t v) : ∃ z, v = .int k z ∧ k.has z := by
  unfold Cell.okWide Cell.ok at h
  simp only [ht] at h
  cases v <;> simp_all
end
section
variable {H : Type} {enc : TypeId × Value → H} {P : Program}
theorem okW_cell {W : World} {r : Reach} {base t e : Nat} {v : Value} (ht : P.underlying t = some (.slice e)) (h : Value.okWide P W r base t v) : Cell.okWide P W r base t v := by
  unfold Value.okWide at h; simp only [ht] at h; exact h
theorem trod_one {W : World} {r : Reach} {base t e n : Nat} {v : Value} {x : DataW H × List MemPlace} (ht : P.underlying t = some (.slice e)) (h : Value.okWide P W r base t v)
    (hx : DataW.trod enc P W 0 (fun _ => true) true n t v.cells.toList = some x) : DataW.trod enc P W 0 (fun _ => true) true n t [v] = some x := by
  have h := okW_cell ht h
  unfold Cell.okWide Cell.ok at h
  simp only [ht] at h
  cases v <;> simp_all [Value.cells]
end
end Go.Own

/-! arguments: slices of pairs of ints, structs of three ints -/
namespace Go.Own
open Go Go.RowKit Go.WideShapes Go.ChangeShapes
section
variable {H : Type} {enc : TypeId × Value → H} {P : Program}
theorem open_row2 (fn : Int × Int → List Value) (hfn : ∀ q, fn q = [.int .i64 q.1, .int .i64 q.2]) {W : World} {t e te n : Nat} {f0 f1 : Field} {v : Value} {x : DataW H × List MemPlace} {r : Reach} {base : Nat} (ht : P.underlying t = some (.slice e)) (hs : P.underlying e = some (.struct #[f0, f1])) (hc : P.cellsOf e = 2)
    (ho : f0.offset = 0 ∧ f1.offset = 1) (h0 : f0.type = te) (h1 : f1.type = te) (hte : P.underlying te = some (.int .i64)) (hce : P.cellsOf te = 1)
    (hok : Cell.okWide P W r base t v) (h : DataW.trod enc P W 0 (fun _ => true) true n t [v] = some x) :
    ∃ xs : List (Int × Int), Ro W NoX (rl 2 fn v xs) := by
  have hlen2 : ∀ q, (fn q).length = 2 := fun q => by rw [hfn]; rfl
  rcases Go.Deep.open_slice ht h with ⟨hv, _⟩ | ⟨a, len, cap, m, n', D, Pl, hv, _, hl, hm, hmm, _, hel⟩
  · simp only [List.cons.injEq, and_true] at hv
    subst hv
    exact ⟨[], ro_nil⟩
  · simp only [List.cons.injEq, and_true] at hv
    subst hv
    have hsp := has_spot ht hok
    simp only [if_true] at hmm
    have each : ∀ i, i < len → ∃ q : Int × Int, W.rangeAt a.block (a.off + i * 2) (fn q) := by
      intro i hi
      obtain ⟨cs, g1, g2⟩ := hel i (by omega)
      rw [hc] at g1
      obtain ⟨_, hlen, hcell⟩ := World.cells?_some g1
      obtain ⟨ys, k, _, _, _, hyl, hf⟩ := DataW.trod_struct hs g2
      match cs, hlen with
      | [c0, c1], _ =>
        have e0 := hf 0 f0 rfl
        have e1 := hf 1 f1 rfl
        have hy : ys.length = 2 := hyl
        rw [List.getElem?_eq_getElem (by omega)] at e0 e1
        simp [ho.1, ho.2, h0, h1, hce] at e0 e1
        obtain ⟨z0, q0, _, w0⟩ := DataW.trod_int hte e0
        obtain ⟨z1, q1, _, w1⟩ := DataW.trod_int hte e1
        simp only [List.cons.injEq, and_true] at q0 q1
        subst q0 q1
        refine ⟨(z0, z1), fun j u hj => ?_⟩
        rw [hfn] at hj
        have hj3 : j < 2 := (List.getElem?_eq_some_iff.1 hj).1
        have := hcell j hj3
        obtain ⟨bb, oo, ss⟩ := a
        simp only at hsp
        subst hsp
        have ha : ∀ p q, ((⟨bb, p, none⟩ : Addr).add q) = ⟨bb, p + q, none⟩ := Addr.add_mid bb
        rw [ha, ha] at this
        rw [this]
        exact hj
    obtain ⟨Q, hQ⟩ := Go.Deep.choose_lt each
    have hlen : ((List.range len).map Q).length = len := by simp
    refine ⟨(List.range len).map Q, SlN.ro ⟨some a, cap, by rw [hlen], by rw [hlen]; exact hl, by unfold maxLen at hm; omega, by rw [flat_len hlen2], fun h => (by cases h), fun b hb => ?_⟩⟩
    cases hb
    refine ⟨fun _ => hsp, fun j u hj => ?_⟩
    have hjl : j < ((List.range len).map Q).length * 2 := by rw [← flat_len hlen2]; exact (List.getElem?_eq_some_iff.1 hj).1
    rw [hlen] at hjl
    have hi : j / 2 < len := by omega
    have hu : (fn (Q (j / 2)))[j % 2]? = some u := by
      have hg := flat_get hlen2 ((List.range len).map Q) (j / 2) (j % 2) (Q (j / 2))
      have hm2 : j % 2 < (fn (Q (j / 2))).length := by rw [hlen2]; omega
      have := hg _ (by simp [hi]) (List.getElem?_eq_getElem hm2)
      rw [show j / 2 * 2 + j % 2 = j by omega, hj] at this
      rw [List.getElem?_eq_getElem hm2, Option.some.inj this]
    have := hQ (j / 2) hi (j % 2) u hu
    rw [show a.off + j = a.off + j / 2 * 2 + j % 2 by omega]
    exact this
end
end Go.Own

/-! arguments: a struct of one slice of ints -/
namespace Go.Own
open Go Go.RowKit Go.WideShapes Go.ChangeShapes
section
variable {H : Type} {enc : TypeId × Value → H} {P : Program}
end
end Go.Own

/-! arguments of layer 9: the range of a word; slices of counts -/
namespace Go.Own
open Go Go.RowKit Go.WideShapes Go.ChangeShapes
theorem has_u16 {a : Int} (h : IntKind.u16.has a) : 0 ≤ a ∧ a ≤ 65535 := by
  simp [IntKind.has, IntKind.min, IntKind.max, IntKind.signed, IntKind.bits] at h; omega
section
variable {P : Program}
theorem open_arr3K {W : World} {t te : Nat} {k : IntKind} {v : Value} {base : Nat} (ht : P.underlying t = some (.array 3 te)) (hte : P.underlying te = some (.int k)) (hc : P.cellsOf t = 3) (hct : P.cellTypes P.depth t = some [te, te, te])
    (hok : Value.okWide P W .any base t v) : ∃ a b c, v = .agg #[.int k a, .int k b, .int k c] ∧ k.has a ∧ k.has b ∧ k.has c := by
  unfold Value.okWide at hok
  simp only [ht] at hok
  obtain ⟨cs, rfl, hsz, tys, hty, _, hcell⟩ := hok
  rw [hct] at hty
  cases hty
  rw [hc] at hsz
  obtain ⟨x, y, z, rfl⟩ : ∃ x y z, cs = #[x, y, z] := by
    obtain ⟨l⟩ := cs
    match l, hsz with
    | [a, b, c], _ => exact ⟨a, b, c, rfl⟩
  obtain ⟨u0, hu0, hk0⟩ := hcell 0 x rfl
  obtain ⟨u1, hu1, hk1⟩ := hcell 1 y rfl
  obtain ⟨u2, hu2, hk2⟩ := hcell 2 z rfl
  simp at hu0 hu1 hu2
  subst hu0 hu1 hu2
  obtain ⟨a, rfl, ha⟩ := ok_int hte hk0
  obtain ⟨b, rfl, hb⟩ := ok_int hte hk1
  obtain ⟨c, rfl, hc⟩ := ok_int hte hk2
  exact ⟨a, b, c, rfl, ha, hb, hc⟩
end
end Go.Own
