import Derived.Test.YtfnbfmlnageflaaTr2
namespace Go.Proofs.Ytfnbfmlnageflaa
open Go.RowKit Go.Own

set_option maxHeartbeats 400000 in
theorem own_any (lv yv : Value) (lo yo : List Int) (w : World) (hl : Ints w lv lo) (hy : Ints w yv yo) (hm : lo.length ≤ 1000) (hm2 : yo.length ≤ 1000) :
    Calls Try.prog 45 #[.agg #[lv, yv]] w fun e w' => ∃ r, e = .returned r ∧ PairAt w' w.heap.size 70 3 r lo yo ∧ Ext w w' := by
  obtain ⟨a1, n1, rfl⟩ := hl.form
  obtain ⟨a2, n2, rfl⟩ := hy.form
  have HL := hid hl; have HY := hid hy; clear hl hy
  go_enter Try.func45, Try.ntmps45
  go_wp2
  have hE0 := Ext.alloc w (.cells #[.slice a1 lo.length n1, .slice a2 yo.length n2] 24)
  refine wp_region_mono 12 12 [none, none, some (.rows [lo]), some (.own w 3 lo), none, none, some (.rows [yo]), some (.own w 3 yo), none, none, some (.pair w 70 3 lo yo)] (by kernel_rfl) (by kernel_rfl) ?_
  repeat (refine Chk_cons ?_; first | refine Chk_mov rfl rfl (by first | (simp only [Region.wanted]; done) | (simp [Region.wanted, yielded]; done)) rfl (by simp only [Act.put, Act.eval, List.setIfInBounds_toArray, List.set_cons_succ, List.set_cons_zero, Array.getD_eq_getD_getElem?, List.getElem?_toArray, List.getElem?_cons_succ, List.getElem?_cons_zero, Option.getD_some]; rfl) ?_ | refine Chk_asg rfl rfl (by first | (simp only [Region.wanted]; done) | (simp [Region.wanted, yielded]; done)) rfl (by simp only [Act.put, Act.eval, List.setIfInBounds_toArray, List.set_cons_succ, List.set_cons_zero, Array.getD_eq_getD_getElem?, List.getElem?_toArray, List.getElem?_cons_succ, List.getElem?_cons_zero, Option.getD_some]; rfl) ?_ | refine Chk_mvk rfl rfl (by first | (simp only [Region.wanted]; done) | (simp [Region.wanted, yielded]; done)) rfl (fun w => by simp [go_sem]; rfl) (by simp only [Act.put, List.setIfInBounds_toArray, List.set_cons_succ, List.set_cons_zero]; rfl) ?_ | refine Chk_rdk rfl rfl (by first | (simp only [Region.wanted]; done) | (simp [Region.wanted, yielded]; done)) rfl (by kernel_rfl) (fun w hE hF => by have q := bcell hE; simp [go_sem, q.1]; rfl) (by simp only [Act.put, List.setIfInBounds_toArray, List.set_cons_succ, List.set_cons_zero]; rfl) ?_)
  refine Chk_litR (el := 22) (cs := [.slice a1 lo.length n1]) rfl rfl rfl (by simp) (fun w hE hF => .cons (HL.out.ext (hE0.tr hE)) (.nil _)) (fun w => bsR1 rfl (by rfl) rfl w) 1 rfl (fun b1 c1 a' hu1 hp => ?_)
  simp only [Act.put, List.setIfInBounds_toArray, List.set_cons_succ, List.set_cons_zero] at hp; subst hp
  refine Chk_callf rfl Try.func50 (by kernel_rfl) rfl (by simp only [List.map_toArray, List.map_cons, List.map_nil, Act.eval, Array.getD_eq_getD_getElem?, List.getElem?_toArray, List.getElem?_cons_succ, List.getElem?_cons_zero, Option.getD_some] <;> rfl) rfl rfl rfl (fun wx hE hF => ?_) (fun u1 a' hu hp => ?_)
  · refine (joined_any _ _ wx (ancF_get hF (by kernel_rfl)) ?_).mono ?_
    · simp; omega
    · rintro e w' ⟨r, rfl, h1, h2⟩
      exact ⟨r, rfl, h2, OwnI.base (by simpa using h1) (by have := hE.size; simp at this; omega)⟩
  obtain ⟨_, _, hu⟩ := hu
  obtain ⟨d1, e1, rfl⟩ := OwnI.form hu
  simp only [Act.put, List.setIfInBounds_toArray, List.set_cons_succ, List.set_cons_zero] at hp; subst hp
  repeat (refine Chk_cons ?_; first | refine Chk_mov rfl rfl (by first | (simp only [Region.wanted]; done) | (simp [Region.wanted, yielded]; done)) rfl (by simp only [Act.put, Act.eval, List.setIfInBounds_toArray, List.set_cons_succ, List.set_cons_zero, Array.getD_eq_getD_getElem?, List.getElem?_toArray, List.getElem?_cons_succ, List.getElem?_cons_zero, Option.getD_some]; rfl) ?_ | refine Chk_asg rfl rfl (by first | (simp only [Region.wanted]; done) | (simp [Region.wanted, yielded]; done)) rfl (by simp only [Act.put, Act.eval, List.setIfInBounds_toArray, List.set_cons_succ, List.set_cons_zero, Array.getD_eq_getD_getElem?, List.getElem?_toArray, List.getElem?_cons_succ, List.getElem?_cons_zero, Option.getD_some]; rfl) ?_ | refine Chk_mvk rfl rfl (by first | (simp only [Region.wanted]; done) | (simp [Region.wanted, yielded]; done)) rfl (fun w => by simp [go_sem]; rfl) (by simp only [Act.put, List.setIfInBounds_toArray, List.set_cons_succ, List.set_cons_zero]; rfl) ?_ | refine Chk_rdk rfl rfl (by first | (simp only [Region.wanted]; done) | (simp [Region.wanted, yielded]; done)) rfl (by kernel_rfl) (fun w hE hF => by have q := bcell hE; simp [go_sem, q.1]; rfl) (by simp only [Act.put, List.setIfInBounds_toArray, List.set_cons_succ, List.set_cons_zero]; rfl) ?_)
  refine Chk_litR (el := 22) (cs := [.slice a2 yo.length n2]) rfl rfl rfl (by simp) (fun w hE hF => .cons (HY.out.ext (hE0.tr hE)) (.nil _)) (fun w => bsR1 rfl (by rfl) rfl w) 1 rfl (fun b2 c2 a' hu2 hp => ?_)
  simp only [Act.put, List.setIfInBounds_toArray, List.set_cons_succ, List.set_cons_zero] at hp; subst hp
  refine Chk_callf rfl Try.func50 (by kernel_rfl) rfl (by simp only [List.map_toArray, List.map_cons, List.map_nil, Act.eval, Array.getD_eq_getD_getElem?, List.getElem?_toArray, List.getElem?_cons_succ, List.getElem?_cons_zero, Option.getD_some] <;> rfl) rfl rfl rfl (fun wx hE hF => ?_) (fun u1 a' hu hp => ?_)
  · refine (joined_any _ _ wx (ancF_get hF (by kernel_rfl)) ?_).mono ?_
    · simp; omega
    · rintro e w' ⟨r, rfl, h1, h2⟩
      exact ⟨r, rfl, h2, OwnI.base (by simpa using h1) (by have := hE.size; simp at this; omega)⟩
  obtain ⟨_, _, hu⟩ := hu
  obtain ⟨d2, e2, rfl⟩ := OwnI.form hu
  simp only [Act.put, List.setIfInBounds_toArray, List.set_cons_succ, List.set_cons_zero] at hp; subst hp
  repeat (refine Chk_cons ?_; first | refine Chk_mov rfl rfl (by first | (simp only [Region.wanted]; done) | (simp [Region.wanted, yielded]; done)) rfl (by simp only [Act.put, Act.eval, List.setIfInBounds_toArray, List.set_cons_succ, List.set_cons_zero, Array.getD_eq_getD_getElem?, List.getElem?_toArray, List.getElem?_cons_succ, List.getElem?_cons_zero, Option.getD_some]; rfl) ?_ | refine Chk_asg rfl rfl (by first | (simp only [Region.wanted]; done) | (simp [Region.wanted, yielded]; done)) rfl (by simp only [Act.put, Act.eval, List.setIfInBounds_toArray, List.set_cons_succ, List.set_cons_zero, Array.getD_eq_getD_getElem?, List.getElem?_toArray, List.getElem?_cons_succ, List.getElem?_cons_zero, Option.getD_some]; rfl) ?_ | refine Chk_mvk rfl rfl (by first | (simp only [Region.wanted]; done) | (simp [Region.wanted, yielded]; done)) rfl (fun w => by simp [go_sem]; rfl) (by simp only [Act.put, List.setIfInBounds_toArray, List.set_cons_succ, List.set_cons_zero]; rfl) ?_)
  refine Chk_val rfl rfl rfl (fun wx hE hF => ?_) (fun u a' hu hp => ?_)
  · refine ⟨.pointer (some ⟨wx.heap.size, 0, none⟩), wx.alloc (.cells #[.slice d1 lo.length e1, .slice d2 yo.length e2] 70), by simp [go_sem], Ext.alloc _ _, ⟨wx.heap.size, .slice d1 lo.length e1, .slice d2 yo.length e2, rfl, by have := (hE0.tr hE).size; omega, heap_alloc_new _ _, ?_, ?_⟩⟩
    · exact (ancF_get (ancF_rest (ancF_rest hF)) (by kernel_rfl) : OwnI wx w.heap.size 3 (.slice d1 lo.length e1) lo).ext (Ext.alloc _ _)
    · exact (ancF_get hF (by kernel_rfl) : OwnI wx w.heap.size 3 (.slice d2 yo.length e2) yo).ext (Ext.alloc _ _)
  simp only [Act.put, List.setIfInBounds_toArray, List.set_cons_succ, List.set_cons_zero] at hp; subst hp
  repeat (refine Chk_cons ?_; first | refine Chk_mov rfl rfl (by first | (simp only [Region.wanted]; done) | (simp [Region.wanted, yielded]; done)) rfl (by simp only [Act.put, Act.eval, List.setIfInBounds_toArray, List.set_cons_succ, List.set_cons_zero, Array.getD_eq_getD_getElem?, List.getElem?_toArray, List.getElem?_cons_succ, List.getElem?_cons_zero, Option.getD_some]; rfl) ?_ | refine Chk_asg rfl rfl (by first | (simp only [Region.wanted]; done) | (simp [Region.wanted, yielded]; done)) rfl (by simp only [Act.put, Act.eval, List.setIfInBounds_toArray, List.set_cons_succ, List.set_cons_zero, Array.getD_eq_getD_getElem?, List.getElem?_toArray, List.getElem?_cons_succ, List.getElem?_cons_zero, Option.getD_some]; rfl) ?_ | refine Chk_mvk rfl rfl (by first | (simp only [Region.wanted]; done) | (simp [Region.wanted, yielded]; done)) rfl (fun w => by simp [go_sem]; rfl) (by simp only [Act.put, List.setIfInBounds_toArray, List.set_cons_succ, List.set_cons_zero]; rfl) ?_)
  refine Zed_none (by simp) (by simp) (fun w1 hE hF => ?_)
  go_wp2
  go_ret
  exact ⟨_, rfl, all_get hF, hE0.tr hE⟩

set_option maxHeartbeats 400000 in
theorem find_any (b : Nat) (lv yv : Value) (lo yo : List Int) (c : Int) (w : World) (hl : Ints w lv lo) (hy : Ints w yv yo)
    (hc0 : w.cell? ⟨b, 0, none⟩ = some lv) (hc1 : w.cell? ⟨b, 1, none⟩ = some yv) (hc2 : w.cell? ⟨b, 2, none⟩ = some (.int .i64 c)) :
    Calls Try.prog 47 #[.pointer (some ⟨b, 0, none⟩)] w fun e w' =>
      e = .returned (.tuple #[.int .i64 (findT lo yo c).1, .int .i64 (findT lo yo c).2.1, .int .i64 (findT lo yo c).2.2]) ∧ Ext w w' := by
  obtain ⟨a1, n1, rfl⟩ := hl.form
  obtain ⟨a2, n2, rfl⟩ := hy.form
  have HL := hid hl; have HY := hid hy; clear hl hy
  have hb := World.block_lt_of_cell? _ _ hc0
  simp only at hb
  go_enter Try.func47, Try.ntmps47
  go_wp2
  go_loopw [10] (fun i wr => ∃ k : Nat, k ≤ 2 ∧ i = .int .i64 k ∧ Hid ((1 ≤ k → idx lo c < 0) ∧ (2 ≤ k → idx yo c < 0)) ∧ Ext (w.alloc (.cells #[.int .i64 0, .int .i64 1] 3)) wr)
    (fun i _ => 2 - (intOf i).toNat)
  case atStart => exact ⟨0, by omega, rfl, ⟨fun h => absurd h (by omega), fun h => absurd h (by omega)⟩, Ext.rfl' _⟩
  case round =>
    obtain ⟨k, hk, rfl, hno, hE⟩ := hrel
    have hE' : Ext w wr := (Ext.alloc _ _).tr hE
    have q0 : wr.cell? ⟨b, 0, none⟩ = some (.slice a1 lo.length n1) := by rw [hE'.cell hb]; exact hc0
    have q1 : wr.cell? ⟨b, 1, none⟩ = some (.slice a2 yo.length n2) := by rw [hE'.cell hb]; exact hc1
    have q2 : wr.cell? ⟨b, 2, none⟩ = some (.int .i64 c) := by rw [hE'.cell hb]; exact hc2
    have hbr : b < wr.heap.size := World.block_lt_of_cell? _ _ q0
    have hwr : w.heap.size < wr.heap.size := by have := hE.size; simp at this; omega
    have r0 : wr.cell? ⟨w.heap.size, 0, none⟩ = some (.int .i64 0) := by rw [hE.cell (by simp)]; simp
    have r1 : wr.cell? ⟨w.heap.size, 1, none⟩ = some (.int .i64 1) := by rw [hE.cell (by simp)]; simp
    obtain rfl | rfl | rfl : k = 0 ∨ k = 1 ∨ k = 2 := by omega
    · go_wp2
      refine wp_region_mono 13 13 [none, none, none, none, some (.is (.pointer (some ⟨b, 0, none⟩))), none, none, none, none, none, none, some (.is (.int .i64 (idx lo c)))] (by kernel_rfl) (by kernel_rfl) ?_
      repeat (refine Chk_cons ?_; first | refine Chk_mov rfl rfl (by first | (simp only [Region.wanted]; done) | (simp [Region.wanted, yielded]; done)) rfl (by simp only [Act.put, Act.eval, List.setIfInBounds_toArray, List.set_cons_succ, List.set_cons_zero, Array.getD_eq_getD_getElem?, List.getElem?_toArray, List.getElem?_cons_succ, List.getElem?_cons_zero, Option.getD_some]; rfl) ?_ | refine Chk_asg rfl rfl (by first | (simp only [Region.wanted]; done) | (simp [Region.wanted, yielded]; done)) rfl (by simp only [Act.put, Act.eval, List.setIfInBounds_toArray, List.set_cons_succ, List.set_cons_zero, Array.getD_eq_getD_getElem?, List.getElem?_toArray, List.getElem?_cons_succ, List.getElem?_cons_zero, Option.getD_some]; rfl) ?_ | refine Chk_mvk rfl rfl (by first | (simp only [Region.wanted]; done) | (simp [Region.wanted, yielded]; done)) rfl (fun w => by simp [go_sem]; rfl) (by simp only [Act.put, List.setIfInBounds_toArray, List.set_cons_succ, List.set_cons_zero]; rfl) ?_ | refine Chk_rdk rfl rfl (by first | (simp only [Region.wanted]; done) | (simp [Region.wanted, yielded]; done)) rfl (by kernel_rfl) (fun w hE hF => by have q := bcell hE; simp [go_sem, q.1, q0, hbr]; rfl) (by simp only [Act.put, List.setIfInBounds_toArray, List.set_cons_succ, List.set_cons_zero]; rfl) ?_)
      refine Chk_callvf _ rfl Try.func48 (by kernel_rfl) rfl (by simp only [List.map_toArray, List.map_cons, List.map_nil, Act.eval, Array.getD_eq_getD_getElem?, List.getElem?_toArray, List.getElem?_cons_succ, List.getElem?_cons_zero, Option.getD_some] <;> rfl) rfl rfl rfl (fun wx hE hF => (of_lo b wx).mono fun e w' ⟨h1, h2⟩ => ⟨h1, by subst h2; exact Ext.rfl' _⟩) (by simp only [Act.put, List.setIfInBounds_toArray, List.set_cons_succ, List.set_cons_zero]; rfl) ?_
      repeat (refine Chk_cons ?_; first | refine Chk_mov rfl rfl (by first | (simp only [Region.wanted]; done) | (simp [Region.wanted, yielded]; done)) rfl (by simp only [Act.put, Act.eval, List.setIfInBounds_toArray, List.set_cons_succ, List.set_cons_zero, Array.getD_eq_getD_getElem?, List.getElem?_toArray, List.getElem?_cons_succ, List.getElem?_cons_zero, Option.getD_some]; rfl) ?_ | refine Chk_asg rfl rfl (by first | (simp only [Region.wanted]; done) | (simp [Region.wanted, yielded]; done)) rfl (by simp only [Act.put, Act.eval, List.setIfInBounds_toArray, List.set_cons_succ, List.set_cons_zero, Array.getD_eq_getD_getElem?, List.getElem?_toArray, List.getElem?_cons_succ, List.getElem?_cons_zero, Option.getD_some]; rfl) ?_ | refine Chk_mvk rfl rfl (by first | (simp only [Region.wanted]; done) | (simp [Region.wanted, yielded]; done)) rfl (fun w => by simp [go_sem]; rfl) (by simp only [Act.put, List.setIfInBounds_toArray, List.set_cons_succ, List.set_cons_zero]; rfl) ?_ | refine Chk_rdk rfl rfl (by first | (simp only [Region.wanted]; done) | (simp [Region.wanted, yielded]; done)) rfl (by kernel_rfl) (fun w hE hF => by have q := bcell hE; simp [go_sem, q.1, q0, q1, q2, hbr]; rfl) (by simp only [Act.put, List.setIfInBounds_toArray, List.set_cons_succ, List.set_cons_zero]; rfl) ?_)
      refine Chk_callvf _ rfl Try.func59 (by kernel_rfl) rfl (by simp only [List.map_toArray, List.map_cons, List.map_nil, Act.eval, Array.getD_eq_getD_getElem?, List.getElem?_toArray, List.getElem?_cons_succ, List.getElem?_cons_zero, Option.getD_some] <;> rfl) rfl rfl rfl (fun wx hE hF => (Index_any _ _ _ wx (HL.out.ext (hE'.tr hE))).mono fun e w' ⟨h1, h2⟩ => ⟨h1, by subst h2; exact Ext.rfl' _⟩) (by simp only [Act.put, List.setIfInBounds_toArray, List.set_cons_succ, List.set_cons_zero]; rfl) ?_
      repeat (refine Chk_cons ?_; first | refine Chk_mov rfl rfl (by first | (simp only [Region.wanted]; done) | (simp [Region.wanted, yielded]; done)) rfl (by simp only [Act.put, Act.eval, List.setIfInBounds_toArray, List.set_cons_succ, List.set_cons_zero, Array.getD_eq_getD_getElem?, List.getElem?_toArray, List.getElem?_cons_succ, List.getElem?_cons_zero, Option.getD_some]; rfl) ?_ | refine Chk_asg rfl rfl (by first | (simp only [Region.wanted]; done) | (simp [Region.wanted, yielded]; done)) rfl (by simp only [Act.put, Act.eval, List.setIfInBounds_toArray, List.set_cons_succ, List.set_cons_zero, Array.getD_eq_getD_getElem?, List.getElem?_toArray, List.getElem?_cons_succ, List.getElem?_cons_zero, Option.getD_some]; rfl) ?_ | refine Chk_mvk rfl rfl (by first | (simp only [Region.wanted]; done) | (simp [Region.wanted, yielded]; done)) rfl (fun w => by simp [go_sem]; rfl) (by simp only [Act.put, List.setIfInBounds_toArray, List.set_cons_succ, List.set_cons_zero]; rfl) ?_)
      refine Zed_none (by simp) (by simp) (fun w1 hE1 hF1 => ?_)
      clear hF1
      by_cases hge : 0 ≤ idx lo c
      · go_wp2
        go_ret3
        exact ⟨retT (findT_lo hge).symm, hE'.tr hE1⟩
      · have hlt : idx lo c < 0 := by omega
        clear hge
        go_wp2
        go_roundw
        case rel => exact ⟨0+1, by omega, rfl, ⟨fun _ => hlt, fun h => absurd h (by omega)⟩, hE.tr hE1⟩
        case measure => simp [intOf]
    · go_wp2
      refine wp_region_mono 13 13 [none, none, none, none, some (.is (.pointer (some ⟨b, 1, none⟩))), none, none, none, none, none, none, some (.is (.int .i64 (idx yo c)))] (by kernel_rfl) (by kernel_rfl) ?_
      repeat (refine Chk_cons ?_; first | refine Chk_mov rfl rfl (by first | (simp only [Region.wanted]; done) | (simp [Region.wanted, yielded]; done)) rfl (by simp only [Act.put, Act.eval, List.setIfInBounds_toArray, List.set_cons_succ, List.set_cons_zero, Array.getD_eq_getD_getElem?, List.getElem?_toArray, List.getElem?_cons_succ, List.getElem?_cons_zero, Option.getD_some]; rfl) ?_ | refine Chk_asg rfl rfl (by first | (simp only [Region.wanted]; done) | (simp [Region.wanted, yielded]; done)) rfl (by simp only [Act.put, Act.eval, List.setIfInBounds_toArray, List.set_cons_succ, List.set_cons_zero, Array.getD_eq_getD_getElem?, List.getElem?_toArray, List.getElem?_cons_succ, List.getElem?_cons_zero, Option.getD_some]; rfl) ?_ | refine Chk_mvk rfl rfl (by first | (simp only [Region.wanted]; done) | (simp [Region.wanted, yielded]; done)) rfl (fun w => by simp [go_sem]; rfl) (by simp only [Act.put, List.setIfInBounds_toArray, List.set_cons_succ, List.set_cons_zero]; rfl) ?_ | refine Chk_rdk rfl rfl (by first | (simp only [Region.wanted]; done) | (simp [Region.wanted, yielded]; done)) rfl (by kernel_rfl) (fun w hE hF => by have q := bcell hE; simp [go_sem, q.1, q0, hbr]; rfl) (by simp only [Act.put, List.setIfInBounds_toArray, List.set_cons_succ, List.set_cons_zero]; rfl) ?_)
      refine Chk_callvf _ rfl Try.func48 (by kernel_rfl) rfl (by simp only [List.map_toArray, List.map_cons, List.map_nil, Act.eval, Array.getD_eq_getD_getElem?, List.getElem?_toArray, List.getElem?_cons_succ, List.getElem?_cons_zero, Option.getD_some] <;> rfl) rfl rfl rfl (fun wx hE hF => (of_yo b 1 rfl wx).mono fun e w' ⟨h1, h2⟩ => ⟨h1, by subst h2; exact Ext.rfl' _⟩) (by simp only [Act.put, List.setIfInBounds_toArray, List.set_cons_succ, List.set_cons_zero]; rfl) ?_
      repeat (refine Chk_cons ?_; first | refine Chk_mov rfl rfl (by first | (simp only [Region.wanted]; done) | (simp [Region.wanted, yielded]; done)) rfl (by simp only [Act.put, Act.eval, List.setIfInBounds_toArray, List.set_cons_succ, List.set_cons_zero, Array.getD_eq_getD_getElem?, List.getElem?_toArray, List.getElem?_cons_succ, List.getElem?_cons_zero, Option.getD_some]; rfl) ?_ | refine Chk_asg rfl rfl (by first | (simp only [Region.wanted]; done) | (simp [Region.wanted, yielded]; done)) rfl (by simp only [Act.put, Act.eval, List.setIfInBounds_toArray, List.set_cons_succ, List.set_cons_zero, Array.getD_eq_getD_getElem?, List.getElem?_toArray, List.getElem?_cons_succ, List.getElem?_cons_zero, Option.getD_some]; rfl) ?_ | refine Chk_mvk rfl rfl (by first | (simp only [Region.wanted]; done) | (simp [Region.wanted, yielded]; done)) rfl (fun w => by simp [go_sem]; rfl) (by simp only [Act.put, List.setIfInBounds_toArray, List.set_cons_succ, List.set_cons_zero]; rfl) ?_ | refine Chk_rdk rfl rfl (by first | (simp only [Region.wanted]; done) | (simp [Region.wanted, yielded]; done)) rfl (by kernel_rfl) (fun w hE hF => by have q := bcell hE; simp [go_sem, q.1, q0, q1, q2, hbr]; rfl) (by simp only [Act.put, List.setIfInBounds_toArray, List.set_cons_succ, List.set_cons_zero]; rfl) ?_)
      refine Chk_callvf _ rfl Try.func59 (by kernel_rfl) rfl (by simp only [List.map_toArray, List.map_cons, List.map_nil, Act.eval, Array.getD_eq_getD_getElem?, List.getElem?_toArray, List.getElem?_cons_succ, List.getElem?_cons_zero, Option.getD_some] <;> rfl) rfl rfl rfl (fun wx hE hF => (Index_any _ _ _ wx (HY.out.ext (hE'.tr hE))).mono fun e w' ⟨h1, h2⟩ => ⟨h1, by subst h2; exact Ext.rfl' _⟩) (by simp only [Act.put, List.setIfInBounds_toArray, List.set_cons_succ, List.set_cons_zero]; rfl) ?_
      repeat (refine Chk_cons ?_; first | refine Chk_mov rfl rfl (by first | (simp only [Region.wanted]; done) | (simp [Region.wanted, yielded]; done)) rfl (by simp only [Act.put, Act.eval, List.setIfInBounds_toArray, List.set_cons_succ, List.set_cons_zero, Array.getD_eq_getD_getElem?, List.getElem?_toArray, List.getElem?_cons_succ, List.getElem?_cons_zero, Option.getD_some]; rfl) ?_ | refine Chk_asg rfl rfl (by first | (simp only [Region.wanted]; done) | (simp [Region.wanted, yielded]; done)) rfl (by simp only [Act.put, Act.eval, List.setIfInBounds_toArray, List.set_cons_succ, List.set_cons_zero, Array.getD_eq_getD_getElem?, List.getElem?_toArray, List.getElem?_cons_succ, List.getElem?_cons_zero, Option.getD_some]; rfl) ?_ | refine Chk_mvk rfl rfl (by first | (simp only [Region.wanted]; done) | (simp [Region.wanted, yielded]; done)) rfl (fun w => by simp [go_sem]; rfl) (by simp only [Act.put, List.setIfInBounds_toArray, List.set_cons_succ, List.set_cons_zero]; rfl) ?_)
      refine Zed_none (by simp) (by simp) (fun w1 hE1 hF1 => ?_)
      clear hF1
      by_cases hge : 0 ≤ idx yo c
      · go_wp2
        go_ret3
        exact ⟨retT (findT_yo (hno.out.1 (by omega)) hge).symm, hE'.tr hE1⟩
      · have hlt : idx yo c < 0 := by omega
        clear hge
        go_wp2
        go_roundw
        case rel => exact ⟨1+1, by omega, rfl, ⟨fun _ => hno.out.1 (by omega), fun _ => hlt⟩, hE.tr hE1⟩
        case measure => simp [intOf]
    · go_wp2
      go_ret3
      exact ⟨retT (findT_no (hno.out.1 (by omega)) (hno.out.2 (by omega))).symm, hE'⟩
end Go.Proofs.Ytfnbfmlnageflaa
