import Derived.Test.YtpgkfndbfocibaaGreatFr4
import Derived.Test.YtpgkfndbfocibaaGreatSep8
import Derived.Test.YtpgkfndbfocibaaGreatFr15
import Derived.Test.YtpgkfndbfocibaaGreatPl29c
import Derived.Test.YtpgkfndbfocibaaGreatPl29d
namespace Go.Own
open Go Go.RowKit Go.WideShapes Go.ChangeShapes
section
variable {H : Type} {enc : TypeId × Value → H} {P : Program}
end
end Go.Own

namespace Go.Own
open Go Go.RowKit Go.WideShapes Go.ChangeShapes
theorem wf_u64_lo {a : Int} (h : (Lit.int .u64 a).wf = true) : 0 ≤ a := by
 simp [Lit.wf, IntKind.min, IntKind.max, IntKind.signed, IntKind.bits] at h; omega
theorem wf_u64_hi {a : Int} (h : (Lit.int .u64 a).wf = true) : a ≤ 18446744073709551615 := by
 simp [Lit.wf, IntKind.min, IntKind.max, IntKind.signed, IntKind.bits] at h; omega
section
variable {P : Program}
end
end Go.Own

namespace Go.Own
open Go Go.RowKit
section
variable {w0 w : World} {X : Nat → Prop} {l : List HP} {U V : List SL} {v nv : Value} {Y : List (List Int)} {a b c : HP} {ns : List Int}
end
end Go.Own
namespace Go.Own
open Go Go.RowKit
section
variable {w0 w : World} {X : Nat → Prop} {l : List HP} {U : List SL} {v nv : Value}
end
end Go.Own

namespace Go.Own
open Go Go.RowKit Go.WideShapes Go.ChangeShapes
section
variable {H : Type} {enc : TypeId × Value → H} {P : Program}
theorem open_cfg {W : World} {t te : Nat} {fs : Array Field} {v : Value} {base : Nat} (ht : P.underlying t = some (.struct fs)) (hc : P.cellsOf t = 5) (hct : P.cellTypes P.depth t = some [te, te, te, te, te]) (hte : P.underlying te = some (.int .i64))
  (hok : Value.okWide P W .any base t v) : ∃ a b c d e, v = .agg #[.int .i64 a, .int .i64 b, .int .i64 c, .int .i64 d, .int .i64 e] := by
 unfold Value.okWide at hok
 simp only [ht] at hok
 obtain ⟨cs, rfl, hsz, tys, hty, _, hcell⟩ := hok
 rw [hct] at hty
 cases hty
 rw [hc] at hsz
 obtain ⟨x, y, z, u, r, rfl⟩ : ∃ x y z u r, cs = #[x, y, z, u, r] := by
  obtain ⟨l⟩ := cs
  match l, hsz with
  | [a, b, c, d, e], _ => exact ⟨a, b, c, d, e, rfl⟩
 obtain ⟨u0, hu0, hk0⟩ := hcell 0 x rfl
 obtain ⟨u1, hu1, hk1⟩ := hcell 1 y rfl
 obtain ⟨u2, hu2, hk2⟩ := hcell 2 z rfl
 obtain ⟨u3, hu3, hk3⟩ := hcell 3 u rfl
 obtain ⟨u4, hu4, hk4⟩ := hcell 4 r rfl
 simp at hu0 hu1 hu2 hu3 hu4
 subst hu0 hu1 hu2 hu3 hu4
 obtain ⟨a, rfl, _⟩ := ok_int hte hk0
 obtain ⟨b, rfl, _⟩ := ok_int hte hk1
 obtain ⟨c, rfl, _⟩ := ok_int hte hk2
 obtain ⟨d, rfl, _⟩ := ok_int hte hk3
 obtain ⟨e, rfl, _⟩ := ok_int hte hk4
 exact ⟨a, b, c, d, e, rfl⟩
end
end Go.Own

namespace Go.Own
open Go Go.RowKit Go.ChangeShapes Go.WideShapes Go.ChangeAt Go.Own.Ml
variable {H : Type} {enc : TypeId × Value → H} {P : Program}
instance : Inhabited OpC := ⟨⟨0, 0, 0, 0, 0, 0, 0⟩⟩
instance : Inhabited AnC := ⟨⟨0, false, 0⟩⟩
theorem open_ops {W : World} {t e te tu n : Nat} {f0 f1 f2 f3 f4 f5 f6 : Field} {v : Value} {x : DataW H × List MemPlace} {r : Reach} {base : Nat} (ht : P.underlying t = some (.slice e)) (hs : P.underlying e = some (.struct #[f0, f1, f2, f3, f4, f5, f6])) (hc : P.cellsOf e = 7)
  (ho : f0.offset = 0 ∧ f1.offset = 1 ∧ f2.offset = 2 ∧ f3.offset = 3 ∧ f4.offset = 4 ∧ f5.offset = 5 ∧ f6.offset = 6) (ht' : f0.type = te ∧ f1.type = te ∧ f2.type = te ∧ f3.type = te ∧ f4.type = te ∧ f5.type = te ∧ f6.type = tu)
  (hte : P.underlying te = some (.int .i64)) (htu : P.underlying tu = some (.int .u64)) (hce : P.cellsOf te = 1) (hcu : P.cellsOf tu = 1)
  (hok : Cell.okWide P W r base t v) (h : DataW.trod enc P W 0 (fun _ => true) true n t [v] = some x) :
  ∃ xs : List OpC, Ro W NoX (rl 7 opC v xs) ∧ ∀ y ∈ xs, 0 ≤ y.u ∧ y.u ≤ 18446744073709551615 := by
 obtain ⟨h0, h1, h2, h3, h4, h5, h6⟩ := ht'
 obtain ⟨o0, o1, o2, o3, o4, o5, o6⟩ := ho
 have hlen2 : ∀ q, (opC q).length = 7 := opC_len
 rcases Go.Deep.open_slice ht h with ⟨hv, _⟩ | ⟨a, len, cap, m, n', D, Pl, hv, _, hl, hm, hmm, _, hel⟩
 ·simp only [List.cons.injEq, and_true] at hv
  subst hv
  exact ⟨[], ro_nil, fun y hy => (by cases hy)⟩
 ·simp only [List.cons.injEq, and_true] at hv
  subst hv
  have hsp := has_spot ht hok
  simp only [if_true] at hmm
  have each : ∀ i, i < len → ∃ q : OpC, W.rangeAt a.block (a.off + i * 7) (opC q) ∧ 0 ≤ q.u ∧ q.u ≤ 18446744073709551615 := by
   intro i hi
   obtain ⟨cs, g1, g2⟩ := hel i (by omega)
   rw [hc] at g1
   obtain ⟨_, hlen, hcell⟩ := World.cells?_some g1
   obtain ⟨ys, k, _, _, _, hyl, hf⟩ := DataW.trod_struct hs g2
   match cs, hlen with
   | [c0, c1, c2, c3, c4, c5, c6], _ =>
    have e0 := hf 0 f0 rfl
    have e1 := hf 1 f1 rfl
    have e2 := hf 2 f2 rfl
    have e3 := hf 3 f3 rfl
    have e4 := hf 4 f4 rfl
    have e5 := hf 5 f5 rfl
    have e6 := hf 6 f6 rfl
    have hy : ys.length = 7 := hyl
    rw [List.getElem?_eq_getElem (by omega)] at e0 e1 e2 e3 e4 e5 e6
    simp [o0, o1, o2, o3, o4, o5, o6, h0, h1, h2, h3, h4, h5, h6, hce, hcu] at e0 e1 e2 e3 e4 e5 e6
    obtain ⟨z0, q0, _, _⟩ := DataW.trod_int hte e0
    obtain ⟨z1, q1, _, _⟩ := DataW.trod_int hte e1
    obtain ⟨z2, q2, _, _⟩ := DataW.trod_int hte e2
    obtain ⟨z3, q3, _, _⟩ := DataW.trod_int hte e3
    obtain ⟨z4, q4, _, _⟩ := DataW.trod_int hte e4
    obtain ⟨z5, q5, _, _⟩ := DataW.trod_int hte e5
    obtain ⟨z6, q6, _, w6⟩ := DataW.trod_int htu e6
    simp only [List.cons.injEq, and_true] at q0 q1 q2 q3 q4 q5 q6
    subst q0 q1 q2 q3 q4 q5 q6
    refine ⟨⟨z0, z1, z2, z3, z4, z5, z6⟩, fun j u hj => ?_, wf_u64_lo w6, wf_u64_hi w6⟩
    have hj3 : j < 7 := (List.getElem?_eq_some_iff.1 hj).1
    have := hcell j hj3
    obtain ⟨bb, oo, ss⟩ := a
    simp only at hsp
    subst hsp
    have ha : ∀ p q, ((⟨bb, p, none⟩ : Addr).add q) = ⟨bb, p + q, none⟩ := Addr.add_mid bb
    rw [ha, ha] at this
    rw [this]
    exact hj
  obtain ⟨Q, hQ⟩ := Go.Deep.choose_lt each
  have hlen : ((List.range len).map Q).length = len := by simp
  refine ⟨(List.range len).map Q, SlN.ro ⟨some a, cap, by rw [hlen], by rw [hlen]; exact hl, by unfold maxLen at hm; omega, by rw [flat_len hlen2], fun h => (by cases h), fun b hb => ?_⟩, fun y hy => by
   obtain ⟨i, hi, rfl⟩ := List.mem_map.1 hy
   exact (hQ i (List.mem_range.1 hi)).2⟩
  cases hb
  refine ⟨fun _ => hsp, fun j u hj => ?_⟩
  have hjl : j < ((List.range len).map Q).length * 7 := by rw [← flat_len hlen2]; exact (List.getElem?_eq_some_iff.1 hj).1
  rw [hlen] at hjl
  have hi : j / 7 < len := by omega
  have hu : (opC (Q (j / 7)))[j % 7]? = some u := by
   have hg := flat_get hlen2 ((List.range len).map Q) (j / 7) (j % 7) (Q (j / 7))
   have hm2 : j % 7 < (opC (Q (j / 7))).length := by rw [hlen2]; omega
   have := hg _ (by simp [hi]) (List.getElem?_eq_getElem hm2)
   rw [show j / 7 * 7 + j % 7 = j by omega, hj] at this
   rw [List.getElem?_eq_getElem hm2, Option.some.inj this]
  have := (hQ (j / 7) hi).1 (j % 7) u hu
  rw [show a.off + j = a.off + j / 7 * 7 + j % 7 by omega]
  exact this
end Go.Own
namespace Go.Own
open Go Go.RowKit Go.ChangeShapes Go.WideShapes Go.ChangeAt Go.Own.Ml
variable {P : Program}
end Go.Own
namespace Go.Own
open Go Go.RowKit Go.ChangeShapes Go.WideShapes Go.ChangeAt Go.Own.Ml
variable {H : Type} {enc : TypeId × Value → H} {P : Program}
theorem open_mom {W : World} {t ti te n : Nat} {f0 f1 f2 : Field} {v : Value} {x : DataW H × List MemPlace} {base : Nat} (ht : P.underlying t = some (.struct #[f0, f1, f2])) (hc : P.cellsOf t = 3) (hct : P.cellTypes P.depth t = some [ti, te, te])
  (ho : f0.offset = 0 ∧ f1.offset = 1 ∧ f2.offset = 2) (h0 : f0.type = ti) (hti : P.underlying ti = some (.slice te)) (hci : P.cellsOf ti = 1) (hte : P.underlying te = some (.int .i64)) (hce : P.cellsOf te = 1)
  (hok : Value.okWide P W .any base t v) (h : DataW.trod enc P W 0 (fun _ => true) true n t v.cells.toList = some x) :
  ∃ fv zs i j, v = .agg #[fv, .int .i64 i, .int .i64 j] ∧ Ro W NoX (il .i64 fv zs) := by
 unfold Value.okWide at hok
 simp only [ht] at hok
 obtain ⟨cs, rfl, hsz, tys, hty, _, hcell⟩ := hok
 rw [hct] at hty
 cases hty
 rw [hc] at hsz
 obtain ⟨fv, y, z, rfl⟩ : ∃ fv y z, cs = #[fv, y, z] := by
  obtain ⟨l⟩ := cs
  match l, hsz with
  | [a, b, c], _ => exact ⟨a, b, c, rfl⟩
 obtain ⟨u1, hu1, hk1⟩ := hcell 1 y rfl
 obtain ⟨u2, hu2, hk2⟩ := hcell 2 z rfl
 simp at hu1 hu2
 subst hu1 hu2
 obtain ⟨i, rfl, _⟩ := ok_int hte hk1
 obtain ⟨j, rfl, _⟩ := ok_int hte hk2
 obtain ⟨ys, k, _, _, _, hyl, hf⟩ := DataW.trod_struct ht h
 have e0 := hf 0 f0 rfl
 have hy : ys.length = 3 := hyl
 rw [List.getElem?_eq_getElem (by omega)] at e0
 simp [ho.1, h0, hci, Value.cells] at e0
 obtain ⟨rs, q1, _, _⟩ := open_slW hti hte hce e0
 have k0 : SlN W 1 fv (rs.map (Value.int .i64)).length (rs.map (Value.int .i64)) := q1
 rw [List.length_map] at k0
 exact ⟨fv, rs, i, j, rfl, k0.ro⟩
end Go.Own
namespace Go.Own
open Go Go.RowKit Go.ChangeShapes Go.WideShapes Go.ChangeAt Go.Own.Ml
variable {H : Type} {enc : TypeId × Value → H} {P : Program}
end Go.Own
