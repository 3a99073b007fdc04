import Derived.Test.YtodbfgfbkgpooaaDoorTr3
namespace Go.Proofs.YtodbfgfbkgpooaaDoor
open Go.RowKit Go.Own

theorem met_cell {w : World} {M T : Nat} {seen : List Int} (h : w.heap[M]? = some (.cells (metA seen) T (0, 0))) {c : Nat} (hc : c < 24) : w.cell? ⟨M, c, none⟩ = some (.bool (decide ((c : Int) ∈ seen))) := by
  rw [cell_of_row w M c _ _ _ h, metA_get _ _ hc]
theorem met_frozen {w : World} {M T : Nat} {seen : List Int} (h : w.heap[M]? = some (.cells (metA seen) T (0, 0))) (o : Nat) : w.frozen? ⟨M, o, none⟩ = false := by
  simp [World.frozen?, h]
theorem met_set {w : World} {M T : Nat} {seen : List Int} (h : w.heap[M]? = some (.cells (metA seen) T (0, 0))) {c : Nat} (hc : c < 24) :
    (w.setCell ⟨M, c, none⟩ (.bool true)).heap[M]? = some (.cells (metA (seen ++ [(c : Int)])) T (0, 0)) := by
  simp only [World.setCell, Array.getElem?_modify, if_true, h, Option.map_some]
  simp [metA_set _ _ hc]

set_option maxHeartbeats 1000000 in
theorem Check_any (lv yv : Value) (lo yo : List Int) (w : World) (hl : Ints w lv lo) (hy : Ints w yv yo) :
    Calls Tryd.prog 47 #[.agg #[lv, yv]] w fun e w' => e = .returned (.tuple #[.int .i64 (chk lo yo).1, .int .i64 (chk lo yo).2.1, .int .i64 (chk lo yo).2.2]) ∧ Ext w w' := by
  obtain ⟨a1, n1, rfl⟩ := hl.form
  obtain ⟨a2, n2, rfl⟩ := hy.form
  have hb1 := hl.cap.2; have hb2 := hy.cap.2
  have HL := hid hl; have HY := hid hy; clear hl hy
  have he2 : ∀ o o', Ext w ((w.alloc o).alloc o') := fun o o' => (Ext.alloc _ _).tr (Ext.alloc _ _)
  go_enter Tryd.func47, Tryd.ntmps47
  go_wp2
  go_loop [20] (fun i => ∃ k : Nat, k ≤ 2 ∧ i = .int .i64 k ∧ Hid ((1 ≤ k → lo.length ≤ 24) ∧ (2 ≤ k → yo.length ≤ 24))) (fun i => 2 - (intOf i).toNat)
  case atStart => exact ⟨0, by omega, rfl, ⟨fun h => absurd h (by omega), fun h => absurd h (by omega)⟩⟩
  case round =>
    obtain ⟨k, hk, rfl, hlen⟩ := hrel
    obtain rfl | rfl | rfl : k = 0 ∨ k = 1 ∨ k = 2 := by omega
    · by_cases h24 : 24 < lo.length
      · go_wp2
        go_ret3
        exact ⟨retT (chk_long0 h24).symm, he2 _ _⟩
      · have h24 : lo.length ≤ 24 := by omega
        go_wp2
        go_round
        case rel => exact ⟨1, by omega, rfl, ⟨fun _ => h24, fun h => absurd h (by omega)⟩⟩
        case measure => simp [intOf]
    · have h24 := hlen.out.1 (by omega)
      by_cases h24y : 24 < yo.length
      · go_wp2
        go_ret3
        exact ⟨retT (chk_long1 h24 h24y).symm, he2 _ _⟩
      · have h24y : yo.length ≤ 24 := by omega
        go_wp2
        go_round
        case rel => exact ⟨2, by omega, rfl, ⟨fun _ => h24, fun _ => h24y⟩⟩
        case measure => simp [intOf]
    · have h24 := hlen.out.1 (by omega)
      have h24y := hlen.out.2 (by omega)
      go_wp2
      have hM0 : (((w.alloc (Obj.cells #[Value.slice a1 lo.length n1, Value.slice a2 yo.length n2] 24)).alloc
          (Obj.cells #[Value.slice a1 lo.length n1, Value.slice a2 yo.length n2] 22)).alloc (.cells (metA []) 82)).heap[w.heap.size + 1 + 1]? = some (.cells (metA []) 82 (0, 0)) := by
        have := heap_alloc_new ((w.alloc (Obj.cells #[Value.slice a1 lo.length n1, Value.slice a2 yo.length n2] 24)).alloc
          (Obj.cells #[Value.slice a1 lo.length n1, Value.slice a2 yo.length n2] 22)) (.cells (metA []) 82)
        simpa using this
      have HM0 := hid hM0
      have HA0 := Ext.alloc ((w.alloc (Obj.cells #[Value.slice a1 lo.length n1, Value.slice a2 yo.length n2] 24)).alloc
          (Obj.cells #[Value.slice a1 lo.length n1, Value.slice a2 yo.length n2] 22)) (.cells (metA []) 82)
      obtain ⟨W1, hW1⟩ : ∃ W1, W1 = (w.alloc (Obj.cells #[Value.slice a1 lo.length n1, Value.slice a2 yo.length n2] 24)).alloc
          (Obj.cells #[Value.slice a1 lo.length n1, Value.slice a2 yo.length n2] 22) := ⟨_, rfl⟩
      have hEW : Ext w W1 := by rw [hW1]; exact he2 _ _
      have hsz : W1.heap.size = w.heap.size + 1 + 1 := by rw [hW1]; simp
      have hA0 : W1.cell? ⟨w.heap.size + 1, 0, none⟩ = some (.slice a1 lo.length n1) := by
        rw [hW1]; have := World.cell?_alloc_new (w.alloc (Obj.cells #[Value.slice a1 lo.length n1, Value.slice a2 yo.length n2] 24)) #[Value.slice a1 lo.length n1, Value.slice a2 yo.length n2] 22 0
        simp
      have hA1 : W1.cell? ⟨w.heap.size + 1, 1, none⟩ = some (.slice a2 yo.length n2) := by
        rw [hW1]; have := World.cell?_alloc_new (w.alloc (Obj.cells #[Value.slice a1 lo.length n1, Value.slice a2 yo.length n2] 24)) #[Value.slice a1 lo.length n1, Value.slice a2 yo.length n2] 22 1
        simp
      rw [← hW1] at HM0 HA0
      have HEW := hid hEW; have HSZ := hid hsz; have HA0' := hid hA0; have HA1' := hid hA1; have HW1 := hid hW1
      clear hM0 hEW hsz hA0 hA1 hW1
      go_loopw [32] (fun i wr => ∃ k : Nat, k ≤ 2 ∧ i = .int .i64 k ∧ Ext W1 wr ∧ Hid (wr.heap[w.heap.size + 1 + 1]? = some (.cells (metA (preAt lo yo k)) 82 (0, 0))) ∧
          Hid ((1 ≤ k → ∀ j, j < lo.length → errAt [] lo j = 0) ∧ (2 ≤ k → ∀ j, j < yo.length → errAt lo yo j = 0))) (fun i _ => 2 - (intOf i).toNat)
      case atStart =>
        refine ⟨0, by omega, rfl, ?_, ?_, ⟨fun h => absurd h (by omega), fun h => absurd h (by omega)⟩⟩
        · rw [← HW1.out]; exact HA0
        · rw [← HW1.out]; exact HM0.out
      case round =>
        obtain ⟨k, hk, rfl, hE, hmet, hok⟩ := hrel
        by_cases hk2 : k < 2
        · obtain ⟨l, a, n, hcell, hints, hl, hll, hpre⟩ : ∃ (l : List Int) (a : Option Addr) (n : Nat), wr.cell? ⟨w.heap.size + 1, k, none⟩ = some (.slice a l.length n) ∧ Hid (Ints w (.slice a l.length n) l) ∧ l.length ≤ 24 ∧ Hid (l = trAt lo yo k) ∧ Hid (preAt lo yo (k + 1) = preAt lo yo k ++ l) := by
            obtain rfl | rfl : k = 0 ∨ k = 1 := by omega
            · exact ⟨lo, a1, n1, by rw [hE.cell (by have := HSZ.out; simp only; omega)]; exact HA0'.out, HL, h24, rfl, by simp [preAt, Hid]⟩
            · exact ⟨yo, a2, n2, by rw [hE.cell (by have := HSZ.out; simp only; omega)]; exact HA1'.out, HY, h24y, rfl, by simp [preAt, Hid]⟩
          obtain ⟨wo, rfl⟩ : ∃ wo : World, wo = wr := ⟨_, rfl⟩
          have HCELL := hid hcell
          go_wp2
          go_loopw [39] (fun i wq => ∃ j : Nat, j ≤ l.length ∧ i = .int .i64 j ∧ Ext W1 wq ∧ Hid (wq.heap[w.heap.size + 1 + 1]? = some (.cells (metA (preAt lo yo k ++ l.take j)) 82 (0, 0))) ∧
            Hid (∀ j', j' < j → errAt (preAt lo yo k) l j' = 0)) (fun i _ => l.length - (intOf i).toNat)
          case atStart => exact ⟨0, by omega, rfl, hE, by simpa [Hid] using hmet, fun _ h => absurd h (by omega)⟩
          case round =>
            clear hE hcell hmet
            obtain ⟨j, hj, rfl, hE, hmet, hno⟩ := hrel
            by_cases hlt : j < l.length
            · obtain ⟨b, off, x, rfl, hx, hc⟩ := (hints.out.ext (HEW.out.tr hE)).at hlt
              have HX := hid hx; clear hx
              by_cases hneg : x < 0
              · go_wp2
                go_ret3
                exact ⟨retT (chk_err h24 h24y hk2 hok.out.1 (by rw [← hll.out]; exact hlt) (by rw [← hll.out]; exact hno.out) (by rw [← hll.out]; exact errAt_range HX.out (.inl hneg)) (by decide)).symm, HEW.out.tr hE⟩
              by_cases hbig : 24 ≤ x
              · go_wp2
                go_ret3
                exact ⟨retT (chk_err h24 h24y hk2 hok.out.1 (by rw [← hll.out]; exact hlt) (by rw [← hll.out]; exact hno.out) (by rw [← hll.out]; exact errAt_range HX.out (.inr hbig)) (by decide)).symm, HEW.out.tr hE⟩
              obtain ⟨c, rfl⟩ := Int.eq_ofNat_of_zero_le (by omega : 0 ≤ x)
              have hc24 : c < 24 := by omega
              have hcm := met_cell hmet.out hc24
              have hfm := met_frozen hmet.out c
              by_cases hin : (c : Int) ∈ preAt lo yo k ++ l.take j
              · have hd : decide ((c : Int) ∈ preAt lo yo k ++ l.take j) = true := by simpa using hin
                rw [hd] at hcm
                have HIN := hid hin; clear hin hd
                go_wp2
                go_ret3
                exact ⟨retT (chk_err h24 h24y hk2 hok.out.1 (by rw [← hll.out]; exact hlt) (by rw [← hll.out]; exact hno.out) (by rw [← hll.out]; exact errAt_twice HX.out (by omega) (by omega) HIN.out) (by decide)).symm, HEW.out.tr hE⟩
              · have hd : decide ((c : Int) ∈ preAt lo yo k ++ l.take j) = false := by simpa using hin
                rw [hd] at hcm
                have HIN := hid hin; clear hin hd
                go_wp2
                go_roundw
                case rel =>
                  refine ⟨j + 1, by omega, by go_num, hE.setCell (by have := HSZ.out; simp only; omega) _, ?_, ?_⟩
                  · have := met_set hmet.out hc24
                    rw [take_snoc' l j _ HX.out, ← List.append_assoc]
                    exact this
                  · intro j' hj'
                    by_cases hjj : j' = j
                    · subst hjj; exact errAt_ok HX.out (by omega) (by omega) HIN.out
                    · exact hno.out j' (by omega)
                case measure => simp [intOf]; omega
            · have hje : j = l.length := by omega
              have HJ := hid hje; clear hje
              go_wp2
              go_roundw
              case rel =>
                refine ⟨k + 1, by omega, by go_num, hE, ?_, ?_⟩
                · have := hmet.out
                  rw [HJ.out, List.take_length] at this
                  rw [hpre.out]; exact this
                · have h0 := hno.out
                  rw [HJ.out] at h0
                  have h1 := hll.out
                  have h2 := hok.out
                  clear hok hno HJ hll
                  obtain rfl | rfl : k = 0 ∨ k = 1 := by omega
                  · refine ⟨fun _ => ?_, fun h => absurd h (by omega)⟩
                    simp only [trAt, preAt, if_true] at h0 h1
                    subst h1; exact h0
                  · refine ⟨fun _ => h2.1 (by omega), fun _ => ?_⟩
                    simp only [trAt, preAt, if_true, Nat.one_ne_zero, if_false] at h0 h1
                    subst h1; exact h0
              case measure => simp [intOf]; omega
        · have hk2 : k = 2 := by omega
          subst hk2
          go_wp2
          go_ret3
          exact ⟨retT (chk_ok h24 h24y (hok.out.1 (by omega)) (hok.out.2 (by omega))).symm, HEW.out.tr hE⟩
end Go.Proofs.YtodbfgfbkgpooaaDoor
