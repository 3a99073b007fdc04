import Derived.Test.YtodbfgfbkgpooaaDoorTr8
import Derived.Test.YtodbfgfbkgpooaaDoorStep
namespace Go.Proofs.YtodbfgfbkgpooaaDoor
open Go.RowKit Go.Own

def inB (zs : List Int) (x : Int) : Bool := decide (x ∈ zs)
def carB (x : Int) : Bool := decide (0 ≤ x ∧ x < 24)
def trainB (x : Int) : Bool := decide (x = 0 ∨ x = 1)

theorem rcar_any (x : Int) (w : World) : Calls Tryd.prog 50 #[.int .i64 x] w fun e w' => e = .returned (.bool (carB x)) ∧ w = w' := by
  by_cases h0 : 0 ≤ x
  · by_cases h1 : x < 24
    · have hs : carB x = true := by unfold carB; simp [h0, h1]
      rw [hs]
      go_enter Tryd.func50, Tryd.ntmps50
      go_wp2
      go_ret
      exact ⟨rfl, rfl⟩
    · have hs : carB x = false := by unfold carB; simp [h1]
      rw [hs]
      go_enter Tryd.func50, Tryd.ntmps50
      go_wp2
      go_ret
      exact ⟨rfl, rfl⟩
  · have hs : carB x = false := by unfold carB; simp [h0]
    rw [hs]
    have h0' : decide (0 ≤ x) = false := by simpa using h0
    go_enter Tryd.func50, Tryd.ntmps50
    go_wp2
    go_ret
    exact ⟨rfl, rfl⟩

theorem rtrain_any (x : Int) (w : World) : Calls Tryd.prog 56 #[.int .i64 x] w fun e w' => e = .returned (.bool (trainB x)) ∧ w = w' := by
  by_cases h0 : (x == 0) = true
  · have hs : trainB x = true := by unfold trainB; simp at h0; simp [h0]
    rw [hs]
    go_enter Tryd.func56, Tryd.ntmps56
    go_wp2
    go_ret
    exact ⟨rfl, rfl⟩
  · have h0 : (x == 0) = false := by simpa using h0
    by_cases h1 : (x == 1) = true
    · have hs : trainB x = true := by unfold trainB; simp at h1; simp [h1]
      rw [hs]
      go_enter Tryd.func56, Tryd.ntmps56
      go_wp2
      go_ret
      exact ⟨rfl, rfl⟩
    · have h1 : (x == 1) = false := by simpa using h1
      have hs : trainB x = false := by unfold trainB; simp at h0 h1; simp [h0, h1]
      rw [hs]
      go_enter Tryd.func56, Tryd.ntmps56
      go_wp2
      go_ret
      exact ⟨rfl, rfl⟩

theorem rin_any (v : Value) (zs : List Int) (x : Int) (w : World) (hv : Ints w v zs) :
    Calls Tryd.prog 51 #[v, .int .i64 x] w fun e w' => e = .returned (.bool (inB zs x)) ∧ w = w' := by
  obtain ⟨a, cap, rfl⟩ := hv.form
  have hcap := hv.cap.2
  have HV := hid hv; clear hv
  go_enter Tryd.func51, Tryd.ntmps51
  go_wp2
  go_loop [5] (fun i => ∃ k : Nat, k ≤ zs.length ∧ i = .int .i64 k ∧ Hid (∀ (j : Nat), j < k → zs[j]? ≠ some x)) (fun i => zs.length - (intOf i).toNat)
  case atStart => exact ⟨0, Nat.zero_le _, rfl, fun _ h => absurd h (by omega)⟩
  case round =>
    obtain ⟨k, hk, rfl, hno⟩ := hrel
    by_cases hlt : k < zs.length
    · obtain ⟨b, off, y, rfl, hy, hc⟩ := HV.out.at hlt
      have HY := hid hy; clear hy
      by_cases hxy : (y == x) = true
      · go_wp2
        go_ret
        have : y = x := by simpa using hxy
        subst this
        exact ⟨retB (by unfold inB; simpa using List.mem_of_getElem? HY.out), rfl⟩
      · have hxy : (y == x) = false := by simpa using hxy
        go_wp2
        go_round
        case rel =>
          refine ⟨k + 1, by omega, by go_num, fun j hj => ?_⟩
          by_cases hjk : j = k
          · subst hjk; rw [HY.out]; intro e; cases e; simp at hxy
          · exact hno.out j (by omega)
        case measure => simp [intOf]; omega
    · go_wp2
      go_ret
      refine ⟨retB ?_, rfl⟩
      have : x ∉ zs := by
        intro hm
        obtain ⟨j, hj, he⟩ := List.getElem_of_mem hm
        exact hno.out j (by omega) (by rw [List.getElem?_eq_getElem hj, he])
      unfold inB; simp [this]

theorem Ints_any (v u : Value) (xs ys : List Int) (w : World) (hv : Ints w v xs) (hu : Ints w u ys) :
    Calls Tryd.prog 17 #[v, u] w fun e w' => e = .returned (.bool (eqI xs ys)) ∧ Ext w w' := by
  obtain ⟨a, cap, rfl⟩ := hv.form
  obtain ⟨a2, cap2, rfl⟩ := hu.form
  have hcap := hv.cap.2
  have hcap2 := hu.cap.2
  have HV := hid hv; have HU := hid hu; clear hv hu
  by_cases hlen : xs.length = ys.length
  · have HL := hid hlen
    have hl1 : ((xs.length : Int) != (ys.length : Int)) = false := by simp [hlen]
    clear hlen
    go_enter Tryd.func17, Tryd.ntmps17
    go_wp2
    go_loopw [5] (fun i wr => ∃ k : Nat, k ≤ xs.length ∧ i = .int .i64 k ∧ Hid (∀ (j : Nat) (x y : Int), j < k → xs[j]? = some x → ys[j]? = some y → x = y) ∧ Ext w wr) (fun i _ => xs.length - (intOf i).toNat)
    case atStart => exact ⟨0, Nat.zero_le _, rfl, fun _ _ _ h => absurd h (by omega), Ext.rfl' _⟩
    case round =>
      obtain ⟨k, hk, rfl, hno, hE⟩ := hrel
      by_cases hlt : k < xs.length
      · have hlt2 : k < ys.length := by rw [← HL.out]; exact hlt
        obtain ⟨b, off, x, rfl, hx, hc⟩ := (HV.out.ext hE).at hlt
        obtain ⟨b2, off2, y, rfl, hy, hc2⟩ := (HU.out.ext hE).at hlt2
        have HX := hid hx; have HY := hid hy; clear hx hy
        go_wp2
        go_quiet (fail)
        by_cases hxy : (x != y) = true
        · go_wp2
          go_ret
          have hne : x ≠ y := by simpa using hxy
          exact ⟨retB (eqI_false HX.out HY.out hne).symm, hE.trans (below_drewN (Below.refl _ _) _)⟩
        · have hxy : (x != y) = false := by simpa using hxy
          go_wp2
          go_roundw
          case rel =>
            refine ⟨k + 1, by omega, by go_num, ?_, hE.trans (below_drewN (Below.refl _ _) _)⟩
            intro j x' y' hj hx' hy'
            by_cases hjk : j = k
            · subst hjk
              rw [HX.out] at hx'; rw [HY.out] at hy'; cases hx'; cases hy'
              simpa using hxy
            · exact hno.out j x' y' (by omega) hx' hy'
          case measure => simp [intOf]; omega
      · go_wp2
        go_ret
        exact ⟨retB (eqI_true HL.out fun j x y hx hy => hno.out j x y (by have := (List.getElem?_eq_some_iff.1 hx).1; omega) hx hy).symm, hE⟩
  · have hl1 : ((xs.length : Int) != (ys.length : Int)) = true := by simp; omega
    have HN := hid hlen
    clear hlen
    go_enter Tryd.func17, Tryd.ntmps17
    go_wp2
    go_ret
    exact ⟨retB (eqI_len HN.out).symm, Ext.rfl' _⟩

theorem _root_.Go.Own.Ints.take {w : World} {a : Option Addr} {n cap j : Nat} {zs : List Int} (h : Ints w (.slice a n cap) zs) (hj : j ≤ zs.length) : Ints w (.slice a j cap) (zs.take j) := by
  have hc := h.cap
  obtain ⟨a', cap', he, h1, h2, h3, h4, h5⟩ := h
  cases he
  simp only [List.length_map] at h1 h4
  refine ⟨a, cap, by simp [hj], by simp; omega, h2, by simp, fun ha => by have := h4 ha; simp; omega, fun b hb => ⟨(h5 b hb).1, fun k x hk => (h5 b hb).2 k x ?_⟩⟩
  rw [List.map_take, List.getElem?_take] at hk
  split at hk
  · exact hk
  · cases hk

set_option maxHeartbeats 1000000 in
theorem rCheck_any (lv yv : Value) (lo yo : List Int) (w : World) (hl : Ints w lv lo) (hy : Ints w yv yo) :
    Calls Tryd.prog 43 #[.agg #[lv, yv]] w fun e w' => e = .returned (.tuple #[.int .i64 (chk lo yo).1, .int .i64 (chk lo yo).2.1, .int .i64 (chk lo yo).2.2]) ∧ Ext w w' := by
  obtain ⟨a1, n1, rfl⟩ := hl.form
  obtain ⟨a2, n2, rfl⟩ := hy.form
  have hb1 := hl.cap.2; have hb2 := hy.cap.2
  have HL := hid hl; have HY := hid hy; clear hl hy
  obtain ⟨i0, hi, hz0, hz1, hz2⟩ := info_parts infoI
  go_enter Tryd.func43, Tryd.ntmps43
  go_wp2
  go_loop [6] (fun i => ∃ k : Nat, k ≤ 2 ∧ i = .int .i64 k ∧ Hid ((1 ≤ k → lo.length ≤ 24) ∧ (2 ≤ k → yo.length ≤ 24))) (fun i => 2 - (intOf i).toNat)
  case atStart => exact ⟨0, by omega, rfl, ⟨fun h => absurd h (by omega), fun h => absurd h (by omega)⟩⟩
  case round =>
    obtain ⟨k, hk, rfl, hlen⟩ := hrel
    obtain rfl | rfl | rfl : k = 0 ∨ k = 1 ∨ k = 2 := by omega
    · by_cases h24 : 24 < lo.length
      · go_wp2
        go_ret3
        exact ⟨retT (chk_long0 h24).symm, ext2 _ _ _⟩
      · have h24 : lo.length ≤ 24 := by omega
        go_wp2
        go_round
        case rel => exact ⟨1, by omega, rfl, ⟨fun _ => h24, fun h => absurd h (by omega)⟩⟩
        case measure => simp [intOf]
    · have h24 := hlen.out.1 (by omega)
      by_cases h24y : 24 < yo.length
      · go_wp2
        go_ret3
        exact ⟨retT (chk_long1 h24 h24y).symm, ext2 _ _ _⟩
      · have h24y : yo.length ≤ 24 := by omega
        go_wp2
        go_round
        case rel => exact ⟨2, by omega, rfl, ⟨fun _ => h24, fun _ => h24y⟩⟩
        case measure => simp [intOf]
    · have h24 := hlen.out.1 (by omega)
      have h24y := hlen.out.2 (by omega)
      go_wp2
      obtain ⟨W1, hW1⟩ : ∃ W1, W1 = (w.alloc (Obj.cells #[Value.slice a1 lo.length n1, Value.slice a2 yo.length n2] 24)).alloc
          (Obj.cells #[Value.slice a1 lo.length n1, Value.slice a2 yo.length n2] 76) := ⟨_, rfl⟩
      have HEW : Hid (Ext w W1) := by rw [hW1]; exact ext2 _ _ _
      have HA : Hid (W1.heap[w.heap.size + 1]? = some (.cells #[Value.slice a1 lo.length n1, Value.slice a2 yo.length n2] 76 (0, 0))) := by rw [hW1]; exact res_new _ _ _ _
      have HT : Hid (W1.heap[w.heap.size]? = some (.cells #[Value.slice a1 lo.length n1, Value.slice a2 yo.length n2] 24 (0, 0))) := by rw [hW1]; exact heap_ext (Ext.alloc _ _) (heap_alloc_new w _)
      have HW1 := hid hW1
      rw [← hW1]
      clear hW1
      go_loopw [7] (fun i wr => ∃ k : Nat, k ≤ 2 ∧ i = .int .i64 k ∧ Ext W1 wr ∧
          Hid ((1 ≤ k → ∀ j, j < lo.length → errAt [] lo j = 0) ∧ (2 ≤ k → ∀ j, j < yo.length → errAt lo yo j = 0))) (fun i _ => 2 - (intOf i).toNat)
      case atStart => exact ⟨0, by omega, rfl, Ext.rfl' _, ⟨fun h => absurd h (by omega), fun h => absurd h (by omega)⟩⟩
      case round =>
        obtain ⟨k, hk, rfl, hE, hok⟩ := hrel
        obtain ⟨wo, rfl⟩ : ∃ wo : World, wo = wr := ⟨_, rfl⟩
        obtain rfl | rfl | rfl : k = 0 ∨ k = 1 ∨ k = 2 := by omega
        · clear hk
          go_wp2
          go_loopw [8] (fun q wq => ∃ j : Nat, j ≤ lo.length ∧ q = .int .i64 j ∧ Ext W1 wq ∧ Hid (∀ j', j' < j → errAt (preAt lo yo 0) (trAt lo yo 0) j' = 0)) (fun q _ => lo.length - (intOf q).toNat)
          case atStart => exact ⟨0, by omega, rfl, hE, fun _ h => absurd h (by omega)⟩
          case round =>
            clear hE
            obtain ⟨j, hj, rfl, hE, hno⟩ := hrel
            have HA' := hid (heap_ext hE HA.out)
            have HT' := hid (heap_ext hE HT.out)
            obtain ⟨s0, s1, sf, sb⟩ := blk2 HA'.out
            obtain ⟨t0, t1, tf, tb⟩ := blk2 HT'.out
            by_cases hlt : j < lo.length
            · have HLr := hid (HL.out.ext (HEW.out.tr hE))
              obtain ⟨b, off, x, rfl, hx, hc⟩ := HLr.out.at hlt
              have HX := hid hx; clear hx
              have hE0 := hE
              have hbo : b < wr.heap.size := World.block_lt_of_cell? _ _ hc
              go_wp2_with fail
              refine (rcar_any x _).mono ?_
              rintro e wq' ⟨rfl, rfl⟩
              by_cases hcar : x < 0 ∨ 24 ≤ x
              · have hcb : carB x = false := by unfold carB; simp; omega
                rw [hcb]
                go_wp2_with fail
                go_ret3
                exact ⟨retT (chk_err h24 h24y (i := 0) (by omega) hok.out.1 hlt hno.out (errAt_range HX.out hcar) (by decide)).symm, HEW.out.tr hE⟩
              have hcb : carB x = true := by unfold carB; simp; omega
              rw [hcb]
              clear hcb
              go_wp2_with fail
              obtain ⟨b1, hb1⟩ : ∃ b1, b1 = inB (lo.take j) x := ⟨_, rfl⟩
              have HB1 := hid hb1; clear hb1
              cases b1 with
              | true =>
                have HIN := hid (show x ∈ preAt lo yo 0 ++ (trAt lo yo 0).take j from by have := HB1.out; unfold inB at this; simp at this; simp [preAt, trAt, this])
                have C1 : ∀ n, Calls Tryd.prog 51 #[.slice (some ⟨b, off, none⟩) j n1, .int .i64 x] (wr.drewN n) fun e w' => e = .returned (.bool true) ∧ w' = wr.drewN n := fun n => (rin_any _ _ x _ ((HLr.out.take (by omega)).ext (below_drewN (Below.refl _ _) n))).mono fun e w' ⟨h1, h2⟩ => ⟨by rw [h1, ← HB1.out], h2.symm⟩
                have HC1 := hid C1; clear C1
                go_quiet ((go_at_call 51; with_reducible exact Calls.quiet_of_same (HC1.out _)))
                have hE1 := below_drewN (Below.refl wr.heap.size wr) nq
                have HE1 := hid hE1; clear hE1
                go_wp2_with fail
                go_ret3
                exact ⟨retT (chk_err h24 h24y (i := 0) (by omega) hok.out.1 hlt hno.out (errAt_twice HX.out (by omega) (by omega) HIN.out) (by decide)).symm, (HEW.out.tr hE).tr HE1.out⟩
              | false =>
                have HIN := hid (show x ∉ preAt lo yo 0 ++ (trAt lo yo 0).take j from by have := HB1.out; unfold inB at this; simp at this; simp [preAt, trAt, this])
                have C1 : ∀ n, Calls Tryd.prog 51 #[.slice (some ⟨b, off, none⟩) j n1, .int .i64 x] (wr.drewN n) fun e w' => e = .returned (.bool false) ∧ w' = wr.drewN n := fun n => (rin_any _ _ x _ ((HLr.out.take (by omega)).ext (below_drewN (Below.refl _ _) n))).mono fun e w' ⟨h1, h2⟩ => ⟨by rw [h1, ← HB1.out], h2.symm⟩
                have HC1 := hid C1; clear C1
                go_quiet ((go_at_call 51; with_reducible exact Calls.quiet_of_same (HC1.out _)))
                have hE1 := below_drewN (Below.refl wr.heap.size wr) nq
                have HE1 := hid hE1; clear hE1
                go_wp2_with fail
                go_roundw
                case rel =>
                  (repeat apply Exists.intro)
                  refine ⟨⟨j + 1, by omega, by go_num, hE.tr HE1.out, ?_⟩, rfl⟩
                  intro j' hj'
                  by_cases hjj : j' = j
                  · subst hjj; exact errAt_ok HX.out (by omega) (by omega) HIN.out
                  · exact hno.out j' (by omega)
                case measure => simp [intOf]; omega
            · have hje : j = lo.length := by omega
              have HJ := hid hje; clear hje
              go_wp2_with fail
              go_roundw
              case rel => exact ⟨0 + 1, by omega, rfl, hE, ⟨fun _ => by have := hno.out; rw [HJ.out] at this; exact this, fun h => absurd h (by omega)⟩⟩
              case measure => simp [intOf]
        · clear hk
          go_wp2
          go_loopw [8] (fun q wq => ∃ j : Nat, j ≤ yo.length ∧ q = .int .i64 j ∧ Ext W1 wq ∧ Hid (∀ j', j' < j → errAt (preAt lo yo 1) (trAt lo yo 1) j' = 0)) (fun q _ => yo.length - (intOf q).toNat)
          case atStart => exact ⟨0, by omega, rfl, hE, fun _ h => absurd h (by omega)⟩
          case round =>
            clear hE
            obtain ⟨j, hj, rfl, hE, hno⟩ := hrel
            have HA' := hid (heap_ext hE HA.out)
            have HT' := hid (heap_ext hE HT.out)
            obtain ⟨s0, s1, sf, sb⟩ := blk2 HA'.out
            obtain ⟨t0, t1, tf, tb⟩ := blk2 HT'.out
            by_cases hlt : j < yo.length
            · have HLr := hid (HY.out.ext (HEW.out.tr hE))
              obtain ⟨b, off, x, rfl, hx, hc⟩ := HLr.out.at hlt
              have HX := hid hx; clear hx
              have hE0 := hE
              have hbo : b < wr.heap.size := World.block_lt_of_cell? _ _ hc
              go_wp2_with fail
              refine (rcar_any x _).mono ?_
              rintro e wq' ⟨rfl, rfl⟩
              by_cases hcar : x < 0 ∨ 24 ≤ x
              · have hcb : carB x = false := by unfold carB; simp; omega
                rw [hcb]
                go_wp2_with fail
                go_ret3
                exact ⟨retT (chk_err h24 h24y (i := 1) (by omega) hok.out.1 hlt hno.out (errAt_range HX.out hcar) (by decide)).symm, HEW.out.tr hE⟩
              have hcb : carB x = true := by unfold carB; simp; omega
              rw [hcb]
              clear hcb
              go_wp2_with fail
              obtain ⟨b1, hb1⟩ : ∃ b1, b1 = inB (yo.take j) x := ⟨_, rfl⟩
              have HB1 := hid hb1; clear hb1
              cases b1 with
              | true =>
                have HIN := hid (show x ∈ preAt lo yo 1 ++ (trAt lo yo 1).take j from by have := HB1.out; unfold inB at this; simp at this; simp [preAt, trAt, this])
                have C1 : ∀ n, Calls Tryd.prog 51 #[.slice (some ⟨b, off, none⟩) j n2, .int .i64 x] (wr.drewN n) fun e w' => e = .returned (.bool true) ∧ w' = wr.drewN n := fun n => (rin_any _ _ x _ ((HLr.out.take (by omega)).ext (below_drewN (Below.refl _ _) n))).mono fun e w' ⟨h1, h2⟩ => ⟨by rw [h1, ← HB1.out], h2.symm⟩
                have HC1 := hid C1; clear C1
                go_quiet ((go_at_call 51; with_reducible exact Calls.quiet_of_same (HC1.out _)))
                have hE1 := below_drewN (Below.refl wr.heap.size wr) nq
                have HE1 := hid hE1; clear hE1
                go_wp2_with fail
                go_ret3
                exact ⟨retT (chk_err h24 h24y (i := 1) (by omega) hok.out.1 hlt hno.out (errAt_twice HX.out (by omega) (by omega) HIN.out) (by decide)).symm, (HEW.out.tr hE).tr HE1.out⟩
              | false =>
                obtain ⟨b2, hb2⟩ : ∃ b2, b2 = inB lo x := ⟨_, rfl⟩
                have HB2 := hid hb2; clear hb2
                cases b2 with
                | true =>
                  have HIN := hid (show x ∈ preAt lo yo 1 ++ (trAt lo yo 1).take j from by have := HB2.out; unfold inB at this; simp at this; simp [preAt, trAt, this])
                  have C1 : ∀ n, Calls Tryd.prog 51 #[.slice (some ⟨b, off, none⟩) j n2, .int .i64 x] (wr.drewN n) fun e w' => e = .returned (.bool false) ∧ w' = wr.drewN n := fun n => (rin_any _ _ x _ ((HLr.out.take (by omega)).ext (below_drewN (Below.refl _ _) n))).mono fun e w' ⟨h1, h2⟩ => ⟨by rw [h1, ← HB1.out], h2.symm⟩
                  have C2 : ∀ n, Calls Tryd.prog 51 #[.slice a1 lo.length n1, .int .i64 x] (wr.drewN n) fun e w' => e = .returned (.bool true) ∧ w' = wr.drewN n := fun n => (rin_any _ lo x _ ((HL.out.ext (HEW.out.tr hE)).ext (below_drewN (Below.refl _ _) n))).mono fun e w' ⟨h1, h2⟩ => ⟨by rw [h1, ← HB2.out], h2.symm⟩
                  have HC1 := hid C1; have HC2 := hid C2; clear C1 C2
                  go_quiet (first | (go_at_call 51; with_reducible exact Calls.quiet_of_same (HC1.out _)) | (go_at_call 51; with_reducible exact Calls.quiet_of_same (HC2.out _)))
                  have hE1 := below_drewN (Below.refl wr.heap.size wr) nq
                  have HE1 := hid hE1; clear hE1
                  go_wp2_with fail
                  go_ret3
                  exact ⟨retT (chk_err h24 h24y (i := 1) (by omega) hok.out.1 hlt hno.out (errAt_twice HX.out (by omega) (by omega) HIN.out) (by decide)).symm, (HEW.out.tr hE).tr HE1.out⟩
                | false =>
                  have HIN := hid (show x ∉ preAt lo yo 1 ++ (trAt lo yo 1).take j from by have h1 := HB1.out; have h2 := HB2.out; unfold inB at h1 h2; simp at h1 h2; simp [preAt, trAt, h1, h2])
                  have C1 : ∀ n, Calls Tryd.prog 51 #[.slice (some ⟨b, off, none⟩) j n2, .int .i64 x] (wr.drewN n) fun e w' => e = .returned (.bool false) ∧ w' = wr.drewN n := fun n => (rin_any _ _ x _ ((HLr.out.take (by omega)).ext (below_drewN (Below.refl _ _) n))).mono fun e w' ⟨h1, h2⟩ => ⟨by rw [h1, ← HB1.out], h2.symm⟩
                  have C2 : ∀ n, Calls Tryd.prog 51 #[.slice a1 lo.length n1, .int .i64 x] (wr.drewN n) fun e w' => e = .returned (.bool false) ∧ w' = wr.drewN n := fun n => (rin_any _ lo x _ ((HL.out.ext (HEW.out.tr hE)).ext (below_drewN (Below.refl _ _) n))).mono fun e w' ⟨h1, h2⟩ => ⟨by rw [h1, ← HB2.out], h2.symm⟩
                  have HC1 := hid C1; have HC2 := hid C2; clear C1 C2
                  go_quiet (first | (go_at_call 51; with_reducible exact Calls.quiet_of_same (HC1.out _)) | (go_at_call 51; with_reducible exact Calls.quiet_of_same (HC2.out _)))
                  have hE1 := below_drewN (Below.refl wr.heap.size wr) nq
                  have HE1 := hid hE1; clear hE1
                  go_wp2_with fail
                  go_roundw
                  case rel =>
                    (repeat apply Exists.intro)
                    refine ⟨⟨j + 1, by omega, by go_num, hE.tr HE1.out, ?_⟩, rfl⟩
                    intro j' hj'
                    by_cases hjj : j' = j
                    · subst hjj; exact errAt_ok HX.out (by omega) (by omega) HIN.out
                    · exact hno.out j' (by omega)
                  case measure => simp [intOf]; omega
            · have hje : j = yo.length := by omega
              have HJ := hid hje; clear hje
              go_wp2_with fail
              go_roundw
              case rel => exact ⟨1 + 1, by omega, rfl, hE, ⟨fun _ => hok.out.1 (by omega), fun _ => by have := hno.out; rw [HJ.out] at this; exact this⟩⟩
              case measure => simp [intOf]
        · go_wp2
          go_ret3
          exact ⟨retT (chk_ok h24 h24y (hok.out.1 (by omega)) (hok.out.2 (by omega))).symm, HEW.out.tr hE⟩
end Go.Proofs.YtodbfgfbkgpooaaDoor
