import Derived.Test.YtfnbfmlnageflaaRf1
namespace Go.Proofs.Ytfnbfmlnageflaa
open Go.RowKit Go.Own

set_option maxHeartbeats 500000 in
theorem rSame_any (lv yv lv2 yv2 : Value) (lo yo lo2 yo2 : List Int) (w : World) (hl : Ints w lv lo) (hy : Ints w yv yo) (hl2 : Ints w lv2 lo2) (hy2 : Ints w yv2 yo2) :
    Calls Try.prog 17 #[.agg #[lv, yv], .agg #[lv2, yv2]] w fun e w' => e = .returned (.bool (sameT lo yo lo2 yo2)) ∧ Ext w w' := by
  have HL := hid hl; have HY := hid hy; have HL2 := hid hl2; have HY2 := hid hy2; clear hl hy hl2 hy2
  obtain ⟨b1, hb1⟩ : ∃ b1, b1 = eqI lo lo2 := ⟨_, rfl⟩
  have HB1 := hid hb1
  have C1 := hid (fun wx (hE : Ext w wx) => (Ints_any lv lv2 lo lo2 wx (HL.out.ext hE) (HL2.out.ext hE)).mono (R' := fun e w' => e = .returned (.bool b1) ∧ Ext wx w') (by rw [hb1]; exact fun _ _ h => h))
  clear hb1
  cases b1 with
  | false =>
    have hs : sameT lo yo lo2 yo2 = false := by unfold sameT; rw [← HB1.out]; rfl
    rw [hs]; clear hs
    go_enter Try.func17, Try.ntmps17
    go_wp2_with fail
    refine (C1.out _ (ext2 _ _ _)).mono ?_
    rintro e w1 ⟨rfl, hE⟩
    go_wp2_with fail
    go_ret
    exact ⟨rfl, (ext2 _ _ _).tr hE⟩
  | true =>
    have hs : sameT lo yo lo2 yo2 = eqI yo yo2 := by unfold sameT; rw [← HB1.out]; rfl
    rw [hs]; clear hs
    go_enter Try.func17, Try.ntmps17
    go_wp2_with fail
    refine (C1.out _ (ext2 _ _ _)).mono ?_
    rintro e w1 ⟨rfl, hE⟩
    have HR := hid (heap_ext hE (res_new _ _ _ _))
    obtain ⟨r0, r1, rf, rb⟩ := blk2 HR.out
    have HT := hid (heap_ext hE (heap_ext (Ext.alloc _ _) (heap_alloc_new w _)))
    obtain ⟨t0, t1, tf, tb⟩ := blk2 HT.out
    go_wp2_with fail
    refine (Ints_any _ _ yo yo2 _ (HY.out.ext ((ext2 _ _ _).tr hE)) (HY2.out.ext ((ext2 _ _ _).tr hE))).mono ?_
    rintro e w2 ⟨rfl, hE2⟩
    go_wp2_with fail
    go_ret
    exact ⟨rfl, ((ext2 _ _ _).tr hE).tr hE2⟩

theorem trained_any (a1 a2 : Option Addr) (m1 m2 n1 n2 : Nat) (w : World) :
    Calls Try.prog 25 #[.slice a1 m1 n1, .slice a2 m2 n2] w fun e w' => e = .returned (.agg #[.slice a1 m1 n1, .slice a2 m2 n2]) ∧ Ext w w' := by
  go_enter Try.func25, Try.ntmps25
  go_wp2_with fail
  refine bodyPost_ret (v := .agg #[.slice a1 m1 n1, .slice a2 m2 n2]) (by simp [results, Try.results25, go_sem]) rfl ⟨rfl, ?_⟩
  repeat (refine Below.setCell ?_ (by simp) _)
  exact Ext.alloc _ _

theorem sameT_refl (lo yo : List Int) : sameT lo yo lo yo = true := by unfold sameT eqI; simp

set_option maxHeartbeats 500000 in
theorem are_any (u1 u2 v1 v2 : Value) (lo yo : List Int) (w : World) (h1 : Ints w u1 lo) (h2 : Ints w u2 yo) (h3 : Ints w v1 lo) (h4 : Ints w v2 yo) :
    Calls Try.prog 42 #[.agg #[u1, u2], .int .i64 0, v1, v2] w fun e w' => e = .returned (.bool true) ∧ Ext w w' := by
  obtain ⟨a1, m1, rfl⟩ := h1.form
  obtain ⟨a2, m2, rfl⟩ := h2.form
  obtain ⟨a3, m3, rfl⟩ := h3.form
  obtain ⟨a4, m4, rfl⟩ := h4.form
  have H1 := hid h1; have H2 := hid h2; have H3 := hid h3; have H4 := hid h4; clear h1 h2 h3 h4
  go_enter Try.func42, Try.ntmps42
  go_wp2_with fail
  have hE0 := Ext.alloc w (.cells #[.slice a1 lo.length m1, .slice a2 yo.length m2] 24)
  refine wp_region_mono 10 10 [none, none, none, none, none, none, some (.is (.agg #[.slice a3 lo.length m3, .slice a4 yo.length m4])), some (.is (.bool true))] (by kernel_rfl) (by kernel_rfl) ?_
  repeat (refine Chk_cons ?_; first | refine Chk_mov rfl rfl (by first | (simp only [Region.wanted]; done) | (simp [Region.wanted, yielded]; done)) rfl (by simp only [Act.put, Act.eval, List.setIfInBounds_toArray, List.set_cons_succ, List.set_cons_zero, Array.getD_eq_getD_getElem?, List.getElem?_toArray, List.getElem?_cons_succ, List.getElem?_cons_zero, Option.getD_some]; rfl) ?_ | refine Chk_asg rfl rfl (by first | (simp only [Region.wanted]; done) | (simp [Region.wanted, yielded]; done)) rfl (by simp only [Act.put, Act.eval, List.setIfInBounds_toArray, List.set_cons_succ, List.set_cons_zero, Array.getD_eq_getD_getElem?, List.getElem?_toArray, List.getElem?_cons_succ, List.getElem?_cons_zero, Option.getD_some]; rfl) ?_ | refine Chk_mvk rfl rfl (by first | (simp only [Region.wanted]; done) | (simp [Region.wanted, yielded]; done)) rfl (fun w => by simp [go_sem]; rfl) (by simp only [Act.put, List.setIfInBounds_toArray, List.set_cons_succ, List.set_cons_zero]; rfl) ?_ | refine Chk_rdk rfl rfl (by first | (simp only [Region.wanted]; done) | (simp [Region.wanted, yielded]; done)) rfl (by kernel_rfl) (fun w hE hF => by have q := bcell hE; simp [go_sem, q.1]; rfl) (by simp only [Act.put, List.setIfInBounds_toArray, List.set_cons_succ, List.set_cons_zero]; rfl) ?_)
  refine Chk_callvf _ rfl Try.func25 (by kernel_rfl) rfl (by simp only [List.map_toArray, List.map_cons, List.map_nil, Act.eval, Array.getD_eq_getD_getElem?, List.getElem?_toArray, List.getElem?_cons_succ, List.getElem?_cons_zero, Option.getD_some] <;> rfl) rfl rfl rfl (fun wx hE hF => trained_any a3 a4 _ _ m3 m4 wx) (by simp only [Act.put, List.setIfInBounds_toArray, List.set_cons_succ, List.set_cons_zero]; rfl) ?_
  refine Chk_callvf _ rfl Try.func17 (by kernel_rfl) rfl (by simp only [List.map_toArray, List.map_cons, List.map_nil, Act.eval, Array.getD_eq_getD_getElem?, List.getElem?_toArray, List.getElem?_cons_succ, List.getElem?_cons_zero, Option.getD_some] <;> rfl) rfl rfl rfl (fun wx hE hF => (rSame_any _ _ _ _ lo yo lo yo wx (H1.out.ext (hE0.tr hE)) (H2.out.ext (hE0.tr hE)) (H3.out.ext (hE0.tr hE)) (H4.out.ext (hE0.tr hE))).mono fun e w' ⟨h1, h2⟩ => ⟨by rw [h1, sameT_refl], h2⟩) (by simp only [Act.put, List.setIfInBounds_toArray, List.set_cons_succ, List.set_cons_zero]; rfl) ?_
  repeat (refine Chk_cons ?_; first | refine Chk_mov rfl rfl (by first | (simp only [Region.wanted]; done) | (simp [Region.wanted, yielded]; done)) rfl (by simp only [Act.put, Act.eval, List.setIfInBounds_toArray, List.set_cons_succ, List.set_cons_zero, Array.getD_eq_getD_getElem?, List.getElem?_toArray, List.getElem?_cons_succ, List.getElem?_cons_zero, Option.getD_some]; rfl) ?_ | refine Chk_asg rfl rfl (by first | (simp only [Region.wanted]; done) | (simp [Region.wanted, yielded]; done)) rfl (by simp only [Act.put, Act.eval, List.setIfInBounds_toArray, List.set_cons_succ, List.set_cons_zero, Array.getD_eq_getD_getElem?, List.getElem?_toArray, List.getElem?_cons_succ, List.getElem?_cons_zero, Option.getD_some]; rfl) ?_ | refine Chk_mvk rfl rfl (by first | (simp only [Region.wanted]; done) | (simp [Region.wanted, yielded]; done)) rfl (fun w => by simp [go_sem]; rfl) (by simp only [Act.put, List.setIfInBounds_toArray, List.set_cons_succ, List.set_cons_zero]; rfl) ?_)
  refine Zed_none (by simp) (by simp) (fun w1 hE hF => ?_)
  clear hF
  go_wp2
  go_ret
  exact ⟨rfl, hE0.tr hE⟩

theorem Far_any (a1 a2 : Option Addr) (m1 m2 n1 n2 : Nat) (w : World) :
    Calls Try.prog 11 #[.agg #[.slice a1 m1 n1, .slice a2 m2 n2]] w fun e w' => e = .returned (.bool (decide (30 < m1 ∨ 30 < m2))) ∧ Ext w w' := by
  by_cases h1 : 30 < m1
  · have hs : decide (30 < m1 ∨ 30 < m2) = true := by simp [h1]
    rw [hs]; clear hs
    have h1' : decide ((30 : Int) < (m1 : Int)) = true := by simp; omega
    go_enter Try.func11, Try.ntmps11
    go_wp2_with fail
    go_ret
    exact ⟨rfl, Ext.alloc _ _⟩
  · have h1' : decide ((30 : Int) < (m1 : Int)) = false := by simp; omega
    by_cases h2 : 30 < m2
    · have hs : decide (30 < m1 ∨ 30 < m2) = true := by simp [h2]
      rw [hs]; clear hs
      have h2' : decide ((30 : Int) < (m2 : Int)) = true := by simp; omega
      go_enter Try.func11, Try.ntmps11
      go_wp2_with fail
      go_ret
      exact ⟨rfl, Ext.alloc _ _⟩
    · have hs : decide (30 < m1 ∨ 30 < m2) = false := by simp; omega
      rw [hs]; clear hs
      have h2' : decide ((30 : Int) < (m2 : Int)) = false := by simp; omega
      go_enter Try.func11, Try.ntmps11
      go_wp2_with fail
      go_ret
      exact ⟨rfl, Ext.alloc _ _⟩
end Go.Proofs.Ytfnbfmlnageflaa
