import Derived.Test.YtfnbfmlnageflaaChecked
import Derived.Test.YtfnbfmlnageflaaSp11
import Derived.WalkLawsBesides
namespace Go.Proofs.Ytfnbfmlnageflaa
open Go.RowKit Go.Own

theorem infoI : (Try.prog.info? 3).map (fun i => (i.zero, i.size, i.bytes)) = some (some (.int .i64 0), 1, 8) := by kernel_rfl

theorem infoS : (Try.prog.info? 22).map (fun i => (i.zero, i.size, i.bytes)) = some (some (.slice none 0 0), 1, 24) := by kernel_rfl
theorem bsI1 {o : Oper} {a : Act} {p0 : Operand} {v0 : Value} (ho : o.op = .buildSlice 22 1 #[(0, p0)]) (h0 : a.eval p0 = v0) (c0 : v0.cells = #[v0]) (w : World) :
    (execOp a.eval o).run Try.prog w = .ok (.value (.slice (some ⟨w.heap.size, 0, none⟩) 1 1)) (w.alloc (.cells #[v0] 3)) := by
  obtain ⟨i0, hi, hz0, hz1, hz2⟩ := info_parts infoI
  exact run_bs1 ho Try.underlying22 hi hz0 hz1 rfl h0 c0 w
theorem bsI2 {o : Oper} {a : Act} {p0 p1 : Operand} {v0 v1 : Value} (ho : o.op = .buildSlice 22 2 #[(0, p0), (1, p1)]) (h0 : a.eval p0 = v0) (c0 : v0.cells = #[v0]) (h1 : a.eval p1 = v1) (c1 : v1.cells = #[v1]) (w : World) :
    (execOp a.eval o).run Try.prog w = .ok (.value (.slice (some ⟨w.heap.size, 0, none⟩) 2 2)) (w.alloc (.cells #[v0, v1] 3)) := by
  obtain ⟨i0, hi, hz0, hz1, hz2⟩ := info_parts infoI
  exact run_bs2 ho Try.underlying22 hi hz0 hz1 rfl h0 c0 h1 c1 w
theorem bsI3 {o : Oper} {a : Act} {p0 p1 p2 : Operand} {v0 v1 v2 : Value} (ho : o.op = .buildSlice 22 3 #[(0, p0), (1, p1), (2, p2)]) (h0 : a.eval p0 = v0) (c0 : v0.cells = #[v0]) (h1 : a.eval p1 = v1) (c1 : v1.cells = #[v1]) (h2 : a.eval p2 = v2) (c2 : v2.cells = #[v2]) (w : World) :
    (execOp a.eval o).run Try.prog w = .ok (.value (.slice (some ⟨w.heap.size, 0, none⟩) 3 3)) (w.alloc (.cells #[v0, v1, v2] 3)) := by
  obtain ⟨i0, hi, hz0, hz1, hz2⟩ := info_parts infoI
  exact run_bs3 ho Try.underlying22 hi hz0 hz1 rfl h0 c0 h1 c1 h2 c2 w
theorem bsR1 {o : Oper} {a : Act} {p0 : Operand} {v0 : Value} (ho : o.op = .buildSlice 78 1 #[(0, p0)]) (h0 : a.eval p0 = v0) (c0 : v0.cells = #[v0]) (w : World) :
    (execOp a.eval o).run Try.prog w = .ok (.value (.slice (some ⟨w.heap.size, 0, none⟩) 1 1)) (w.alloc (.cells #[v0] 22)) := by
  obtain ⟨i0, hi, hz0, hz1, hz2⟩ := info_parts infoS
  exact run_bs1 ho Try.underlying78 hi hz0 hz1 rfl h0 c0 w
theorem bsR2 {o : Oper} {a : Act} {p0 p1 : Operand} {v0 v1 : Value} (ho : o.op = .buildSlice 78 2 #[(0, p0), (1, p1)]) (h0 : a.eval p0 = v0) (c0 : v0.cells = #[v0]) (h1 : a.eval p1 = v1) (c1 : v1.cells = #[v1]) (w : World) :
    (execOp a.eval o).run Try.prog w = .ok (.value (.slice (some ⟨w.heap.size, 0, none⟩) 2 2)) (w.alloc (.cells #[v0, v1] 22)) := by
  obtain ⟨i0, hi, hz0, hz1, hz2⟩ := info_parts infoS
  exact run_bs2 ho Try.underlying78 hi hz0 hz1 rfl h0 c0 h1 c1 w
theorem bsR3 {o : Oper} {a : Act} {p0 p1 p2 : Operand} {v0 v1 v2 : Value} (ho : o.op = .buildSlice 78 3 #[(0, p0), (1, p1), (2, p2)]) (h0 : a.eval p0 = v0) (c0 : v0.cells = #[v0]) (h1 : a.eval p1 = v1) (c1 : v1.cells = #[v1]) (h2 : a.eval p2 = v2) (c2 : v2.cells = #[v2]) (w : World) :
    (execOp a.eval o).run Try.prog w = .ok (.value (.slice (some ⟨w.heap.size, 0, none⟩) 3 3)) (w.alloc (.cells #[v0, v1, v2] 22)) := by
  obtain ⟨i0, hi, hz0, hz1, hz2⟩ := info_parts infoS
  exact run_bs3 ho Try.underlying78 hi hz0 hz1 rfl h0 c0 h1 c1 h2 c2 w

set_option maxHeartbeats 400000 in
theorem joined_any (v : Value) (xss : List (List Int)) (w : World) (hvs : IntsS w v xss) (hm : xss.flatten.length ≤ 1000000) :
    Calls Try.prog 50 #[v] w fun e w' => ∃ r, e = .returned r ∧ OwnI w' w.heap.size 3 r xss.flatten ∧ Ext w w' := by
  obtain ⟨vs, hv, hs⟩ := hvs
  obtain ⟨a, cap, rfl, h1, h2, h3, h4, h5⟩ := hv
  obtain ⟨i0, hi, hz0, hz1, hz2⟩ := info_parts infoI
  have H4 := hid h4; have H5 := hid h5; have HS := hid hs; clear h3 h4 h5 hs
  go_enter Try.func50, Try.ntmps50
  go_wp2
  go_loopw [3, 9] (fun o i wr => ∃ k : Nat, k ≤ vs.length ∧ i = .int .i64 k ∧ OwnI wr w.heap.size 3 o (xss.take k).flatten ∧ Ext w wr)
    (fun _ i _ => vs.length - (intOf i).toNat)
  case atStart =>
    refine ⟨0, Nat.zero_le _, rfl, ?_, (Below.refl _ _).alloc (Nat.le_refl _) _⟩
    exact World.ownsRow_made w #[] 0 (Nat.le_refl _) (by decide) rfl
  case round =>
    obtain ⟨k, hk, rfl, hown, hE⟩ := hrel
    by_cases hlt : k < vs.length
    · cases a with
      | none => exact absurd (H4.out rfl) (by omega)
      | some b =>
      obtain ⟨bb, off, spot⟩ := b
      obtain ⟨hsp, hc⟩ := H5.out _ rfl
      simp only at hsp hc
      subst hsp
      have hx := List.getElem?_eq_getElem hlt
      have hcell := hc k _ hx
      have hcell : wr.cell? ⟨bb, off + k, none⟩ = some vs[k] := by rw [hE.cell (World.block_lt_of_cell? _ _ hcell)]; exact hcell
      have hy := hid ((HS.out.2 k _ hx).ext hE)
      obtain ⟨y, hyy⟩ : ∃ y, y = vs[k] := ⟨_, rfl⟩
      rw [← hyy] at hcell hy
      have HY := hid hyy
      have HX := hid hx
      clear hc hyy hx
      have HO := hid hown
      clear hown
      have hsum : (xss.take k).flatten.length + (xss.getD k []).length ≤ 1000000 := by
        have e := take_snoc xss k [] (by have := HS.out.1; omega)
        have h1 : (xss.take (k + 1)).flatten.length ≤ xss.flatten.length := by
          have := congrArg List.length (congrArg List.flatten (List.take_append_drop (k + 1) xss))
          simp only [List.flatten_append, List.length_append] at this; omega
        rw [e, List.flatten_append, List.length_append] at h1
        simp only [List.flatten_cons, List.flatten_nil, List.append_nil] at h1
        omega
      go_wp2_with (at_builtin; refine wpList_append_ext rfl (.tmp 13) (.tmp 14) 80 22 rfl w.heap.size 3 3 i0 (.int .i64 0) 1 8 Try.underlying80 Try.underlying22 hi hz0 hz1 hz2 rfl (by decide) _ _ HO.out _ _ hy.out ?c1 ?c2 ?c3 ?c4 ?_)
      case c1 => intro u hu; obtain ⟨x, _, rfl⟩ := List.mem_map.1 hu; rfl
      case c2 => simp only [List.length_map]; omega
      case c3 => simp only [List.length_map]; omega
      case c4 => exact hE.size
      intro v' w1 hown' hgrow _
      go_wp2
      go_roundw
      case rel =>
        refine ⟨k + 1, by omega, by go_num, ?_, ?_⟩
        · have e := take_snoc xss k [] (by have := HS.out.1; omega)
          rw [e, List.flatten_append, List.flatten_cons, List.flatten_nil, List.append_nil]
          unfold OwnI
          rw [List.map_append, List.length_append]
          simpa using hown'
        · exact hE.grown hgrow hE.size (fun j hj => (HO.out.lt j hj).1)
      case measure => simp [intOf]; omega
    · go_wp2
      go_ret
      refine ⟨_, rfl, ?_, hE⟩
      have e : xss.take k = xss := List.take_of_length_le (by have := HS.out.1; omega)
      rw [e] at hown
      exact hown

/-- the end of put, k being the place. -/
theorem Index_any (v : Value) (zs : List Int) (x : Int) (w : World) (hv : Ints w v zs) :
    Calls Try.prog 59 #[v, .int .i64 x] w fun e w' => e = .returned (.int .i64 (idx zs x)) ∧ w = w' := by
  obtain ⟨a, cap, rfl⟩ := hv.form
  have hcap := hv.cap.2
  have HV := hid hv; clear hv
  go_enter Try.func59, Try.ntmps59
  go_wp2
  go_loop [8] (fun i => ∃ k : Nat, k ≤ zs.length ∧ i = .int .i64 k ∧ Hid (∀ j, j < k → zs[j]? ≠ some x)) (fun i => zs.length - (intOf i).toNat)
  case atStart => exact ⟨0, Nat.zero_le _, rfl, fun _ h => absurd h (by omega)⟩
  case round =>
    obtain ⟨k, hk, rfl, hno⟩ := hrel
    by_cases hlt : k < zs.length
    · obtain ⟨b, off, y, rfl, hy, hc⟩ := HV.out.at hlt
      have HY := hid hy; clear hy
      by_cases hxy : (x == y) = true
      · go_wp2
        go_ret
        have : x = y := by simpa using hxy
        subst this
        exact ⟨retI (idx_hit HY.out hno.out).symm, rfl⟩
      · have hxy : (x == y) = false := by simpa using hxy
        go_wp2
        go_round
        case rel =>
          refine ⟨k + 1, by omega, by go_num, fun j hj => ?_⟩
          by_cases hjk : j = k
          · subst hjk; rw [HY.out]; intro e; cases e; simp at hxy
          · exact hno.out j (by omega)
        case measure => simp [intOf]; omega
    · go_wp2
      go_ret
      exact ⟨retI (idx_miss fun j hj => hno.out j (by omega)).symm, rfl⟩

theorem Equal_any (v u : Value) (xs ys : List Int) (w : World) (hv : Ints w v xs) (hu : Ints w u ys) :
    Calls Try.prog 51 #[v, u] w fun e w' => e = .returned (.bool (eqI xs ys)) ∧ Ext w w' := by
  obtain ⟨a, cap, rfl⟩ := hv.form
  obtain ⟨a2, cap2, rfl⟩ := hu.form
  have hcap := hv.cap.2
  have hcap2 := hu.cap.2
  have HV := hid hv; have HU := hid hu; clear hv hu
  by_cases hlen : xs.length = ys.length
  · have HL := hid hlen
    have hl1 : ((xs.length : Int) != (ys.length : Int)) = false := by simp [hlen]
    clear hlen
    go_enter Try.func51, Try.ntmps51
    go_wp2
    go_loopw [13] (fun i wr => ∃ k : Nat, k ≤ xs.length ∧ i = .int .i64 k ∧ Hid (∀ (j : Nat) (x y : Int), j < k → xs[j]? = some x → ys[j]? = some y → x = y) ∧ Ext w wr) (fun i _ => xs.length - (intOf i).toNat)
    case atStart => exact ⟨0, Nat.zero_le _, rfl, fun _ _ _ h => absurd h (by omega), Ext.rfl' _⟩
    case round =>
      obtain ⟨k, hk, rfl, hno, hE⟩ := hrel
      by_cases hlt : k < xs.length
      · have hlt2 : k < ys.length := by rw [← HL.out]; exact hlt
        obtain ⟨b, off, x, rfl, hx, hc⟩ := (HV.out.ext hE).at hlt
        obtain ⟨b2, off2, y, rfl, hy, hc2⟩ := (HU.out.ext hE).at hlt2
        have HX := hid hx; have HY := hid hy; clear hx hy
        go_wp2
        go_quiet (fail)
        by_cases hxy : (x != y) = true
        · go_wp2
          go_ret
          have hne : x ≠ y := by simpa using hxy
          exact ⟨retB (eqI_false HX.out HY.out hne).symm, hE.trans (below_drewN (Below.refl _ _) _)⟩
        · have hxy : (x != y) = false := by simpa using hxy
          go_wp2
          go_roundw
          case rel =>
            refine ⟨k + 1, by omega, by go_num, ?_, hE.trans (below_drewN (Below.refl _ _) _)⟩
            intro j x' y' hj hx' hy'
            by_cases hjk : j = k
            · subst hjk
              rw [HX.out] at hx'; rw [HY.out] at hy'; cases hx'; cases hy'
              simpa using hxy
            · exact hno.out j x' y' (by omega) hx' hy'
          case measure => simp [intOf]; omega
      · go_wp2
        go_ret
        exact ⟨retB (eqI_true HL.out fun j x y hx hy => hno.out j x y (by have := (List.getElem?_eq_some_iff.1 hx).1; omega) hx hy).symm, hE⟩
  · have hl1 : ((xs.length : Int) != (ys.length : Int)) = true := by simp; omega
    have HN := hid hlen
    clear hlen
    go_enter Try.func51, Try.ntmps51
    go_wp2
    go_ret
    exact ⟨retB (eqI_len HN.out).symm, Ext.rfl' _⟩
end Go.Proofs.Ytfnbfmlnageflaa
