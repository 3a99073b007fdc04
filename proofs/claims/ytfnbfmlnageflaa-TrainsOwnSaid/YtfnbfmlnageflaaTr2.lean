import Derived.Test.YtfnbfmlnageflaaTr1
namespace Go.Proofs.Ytfnbfmlnageflaa
open Go.RowKit Go.Own

set_option maxHeartbeats 400000 in
theorem put_any (v : Value) (xs : List Int) (c : Int) (before : Bool) (w : World) (hv : Ints w v xs) (hm : xs.length ≤ 1000) :
    Calls Try.prog 49 #[v, .int .i64 c, .bool before] w fun e w' => ∃ r, e = .returned r ∧ OwnI w' w.heap.size 3 r (putL xs c before) ∧ Ext w w' := by
  obtain ⟨i0, hi, hz0, hz1, hz2⟩ := info_parts infoI
  obtain ⟨a, cap, rfl⟩ := hv.form
  have HV := hid hv; clear hv
  cases before with
  | false =>
    have hk : putAt xs.length false = xs.length := rfl
    go_enter Try.func49, Try.ntmps49
    go_wp2
    refine wp_region_mono 11 11 [none, none, some (.ints (xs.take xs.length)), none, some (.ints [c]), none, none, some (.ints (xs.drop xs.length)), some (.rows [xs.take xs.length, [c], xs.drop xs.length]), some (.own w 3 (putL xs c false))] (by kernel_rfl) (by kernel_rfl) ?_
    repeat (refine Chk_cons ?_; first | refine Chk_mov rfl rfl (by first | (simp only [Region.wanted]; done) | (simp [Region.wanted, yielded]; done)) rfl (by simp only [Act.put, Act.eval, List.setIfInBounds_toArray, List.set_cons_succ, List.set_cons_zero, Array.getD_eq_getD_getElem?, List.getElem?_toArray, List.getElem?_cons_succ, List.getElem?_cons_zero, Option.getD_some]; rfl) ?_ | refine Chk_asg rfl rfl (by first | (simp only [Region.wanted]; done) | (simp [Region.wanted, yielded]; done)) rfl (by simp only [Act.put, Act.eval, List.setIfInBounds_toArray, List.set_cons_succ, List.set_cons_zero, Array.getD_eq_getD_getElem?, List.getElem?_toArray, List.getElem?_cons_succ, List.getElem?_cons_zero, Option.getD_some]; rfl) ?_ | refine Chk_mvk rfl rfl (by first | (simp only [Region.wanted]; done) | (simp [Region.wanted, yielded]; done)) rfl (fun w => by simp [go_sem]; rfl) (by simp only [Act.put, List.setIfInBounds_toArray, List.set_cons_succ, List.set_cons_zero]; rfl) ?_)
    refine Chk_sub rfl rfl rfl rfl Try.underlying80 hi hz1 HV.out 0 xs.length (.inl ⟨rfl, rfl⟩) (.inr rfl) (by first | omega | (simp; done) | (simp; omega)) (by first | omega | (simp; done) | (simp; omega)) (by first | (simp; done) | (rw [List.take_of_length_le] <;> simp)) xs.length (by first | (simp; done) | (simp; omega)) (fun b1 c1 a' hu1 hp => ?_)
    simp only [Act.put, List.setIfInBounds_toArray, List.set_cons_succ, List.set_cons_zero] at hp; subst hp
    repeat (refine Chk_cons ?_; first | refine Chk_mov rfl rfl (by first | (simp only [Region.wanted]; done) | (simp [Region.wanted, yielded]; done)) rfl (by simp only [Act.put, Act.eval, List.setIfInBounds_toArray, List.set_cons_succ, List.set_cons_zero, Array.getD_eq_getD_getElem?, List.getElem?_toArray, List.getElem?_cons_succ, List.getElem?_cons_zero, Option.getD_some]; rfl) ?_ | refine Chk_asg rfl rfl (by first | (simp only [Region.wanted]; done) | (simp [Region.wanted, yielded]; done)) rfl (by simp only [Act.put, Act.eval, List.setIfInBounds_toArray, List.set_cons_succ, List.set_cons_zero, Array.getD_eq_getD_getElem?, List.getElem?_toArray, List.getElem?_cons_succ, List.getElem?_cons_zero, Option.getD_some]; rfl) ?_ | refine Chk_mvk rfl rfl (by first | (simp only [Region.wanted]; done) | (simp [Region.wanted, yielded]; done)) rfl (fun w => by simp [go_sem]; rfl) (by simp only [Act.put, List.setIfInBounds_toArray, List.set_cons_succ, List.set_cons_zero]; rfl) ?_)
    refine Chk_litI (el := 3) rfl rfl rfl (by simp) (fun w => bsI1 rfl (by rfl) rfl w) 1 rfl (fun b2 c2 a' hu2 hp => ?_)
    simp only [Act.put, List.setIfInBounds_toArray, List.set_cons_succ, List.set_cons_zero] at hp; subst hp
    repeat (refine Chk_cons ?_; first | refine Chk_mov rfl rfl (by first | (simp only [Region.wanted]; done) | (simp [Region.wanted, yielded]; done)) rfl (by simp only [Act.put, Act.eval, List.setIfInBounds_toArray, List.set_cons_succ, List.set_cons_zero, Array.getD_eq_getD_getElem?, List.getElem?_toArray, List.getElem?_cons_succ, List.getElem?_cons_zero, Option.getD_some]; rfl) ?_ | refine Chk_asg rfl rfl (by first | (simp only [Region.wanted]; done) | (simp [Region.wanted, yielded]; done)) rfl (by simp only [Act.put, Act.eval, List.setIfInBounds_toArray, List.set_cons_succ, List.set_cons_zero, Array.getD_eq_getD_getElem?, List.getElem?_toArray, List.getElem?_cons_succ, List.getElem?_cons_zero, Option.getD_some]; rfl) ?_ | refine Chk_mvk rfl rfl (by first | (simp only [Region.wanted]; done) | (simp [Region.wanted, yielded]; done)) rfl (fun w => by simp [go_sem]; rfl) (by simp only [Act.put, List.setIfInBounds_toArray, List.set_cons_succ, List.set_cons_zero]; rfl) ?_)
    refine Chk_sub rfl rfl rfl rfl Try.underlying80 hi hz1 HV.out xs.length xs.length (.inr rfl) (.inl ⟨rfl, rfl⟩) (by first | omega | (simp; done) | (simp; omega)) (by first | omega | (simp; done) | (simp; omega)) (by first | (simp; done) | (rw [List.take_of_length_le] <;> simp)) (xs.length - xs.length) (by first | (simp; done) | (simp; omega)) (fun b3 c3 a' hu3 hp => ?_)
    simp only [Act.put, List.setIfInBounds_toArray, List.set_cons_succ, List.set_cons_zero] at hp; subst hp
    refine Chk_litR (el := 22) (cs := [.slice b1 xs.length c1, .slice b2 1 c2, .slice b3 (xs.length - xs.length) c3]) rfl rfl rfl (by simp) (fun w hE hF => .cons (ancF_get (ancF_rest (ancF_rest hF)) (by kernel_rfl)) (.cons (ancF_get (ancF_rest hF) (by kernel_rfl)) (.cons (ancF_get hF (by kernel_rfl)) (.nil _)))) (fun w => bsR3 rfl (by rfl) rfl (by rfl) rfl (by rfl) rfl w) 3 rfl (fun b4 c4 a' hu4 hp => ?_)
    simp only [Act.put, List.setIfInBounds_toArray, List.set_cons_succ, List.set_cons_zero] at hp; subst hp
    refine Chk_callf rfl Try.func50 (by kernel_rfl) rfl (by simp only [List.map_toArray, List.map_cons, List.map_nil, Act.eval, Array.getD_eq_getD_getElem?, List.getElem?_toArray, List.getElem?_cons_succ, List.getElem?_cons_zero, Option.getD_some] <;> rfl) rfl rfl rfl (fun wx hE hF => ?_) (fun u a' hu hp => ?_)
    · refine (joined_any _ _ wx (ancF_get hF (by kernel_rfl)) ?_).mono ?_
      · rw [putL_eq xs c false _ hk, putL_len]; omega
      · rintro e w' ⟨r, rfl, h1, h2⟩
        rw [putL_eq xs c false _ hk] at h1
        exact ⟨r, rfl, h2, h1.base (by have := hE.size; omega)⟩
    simp only [Act.put, List.setIfInBounds_toArray, List.set_cons_succ, List.set_cons_zero] at hp; subst hp
    repeat (refine Chk_cons ?_; first | refine Chk_mov rfl rfl (by first | (simp only [Region.wanted]; done) | (simp [Region.wanted, yielded]; done)) rfl (by simp only [Act.put, Act.eval, List.setIfInBounds_toArray, List.set_cons_succ, List.set_cons_zero, Array.getD_eq_getD_getElem?, List.getElem?_toArray, List.getElem?_cons_succ, List.getElem?_cons_zero, Option.getD_some]; rfl) ?_ | refine Chk_asg rfl rfl (by first | (simp only [Region.wanted]; done) | (simp [Region.wanted, yielded]; done)) rfl (by simp only [Act.put, Act.eval, List.setIfInBounds_toArray, List.set_cons_succ, List.set_cons_zero, Array.getD_eq_getD_getElem?, List.getElem?_toArray, List.getElem?_cons_succ, List.getElem?_cons_zero, Option.getD_some]; rfl) ?_ | refine Chk_mvk rfl rfl (by first | (simp only [Region.wanted]; done) | (simp [Region.wanted, yielded]; done)) rfl (fun w => by simp [go_sem]; rfl) (by simp only [Act.put, List.setIfInBounds_toArray, List.set_cons_succ, List.set_cons_zero]; rfl) ?_)
    refine Zed_none (by simp) (by simp) (fun w1 hE hF => ?_)
    go_wp2
    go_ret
    exact ⟨_, rfl, all_get hF, hE⟩
  | true =>
    by_cases h0 : 0 < xs.length
    · have hk : putAt xs.length true = xs.length - 1 := by simp [putAt, h0]
      have HC : ((xs.length : Int) - 1) = ((xs.length - 1 : Nat) : Int) := by omega
      go_enter Try.func49, Try.ntmps49
      go_wp2
      refine wp_region_mono 11 11 [none, none, some (.ints (xs.take (xs.length - 1))), none, some (.ints [c]), none, none, some (.ints (xs.drop (xs.length - 1))), some (.rows [xs.take (xs.length - 1), [c], xs.drop (xs.length - 1)]), some (.own w 3 (putL xs c true))] (by kernel_rfl) (by kernel_rfl) ?_
      repeat (refine Chk_cons ?_; first | refine Chk_mov rfl rfl (by first | (simp only [Region.wanted]; done) | (simp [Region.wanted, yielded]; done)) rfl (by simp only [Act.put, Act.eval, List.setIfInBounds_toArray, List.set_cons_succ, List.set_cons_zero, Array.getD_eq_getD_getElem?, List.getElem?_toArray, List.getElem?_cons_succ, List.getElem?_cons_zero, Option.getD_some]; rfl) ?_ | refine Chk_asg rfl rfl (by first | (simp only [Region.wanted]; done) | (simp [Region.wanted, yielded]; done)) rfl (by simp only [Act.put, Act.eval, List.setIfInBounds_toArray, List.set_cons_succ, List.set_cons_zero, Array.getD_eq_getD_getElem?, List.getElem?_toArray, List.getElem?_cons_succ, List.getElem?_cons_zero, Option.getD_some]; rfl) ?_ | refine Chk_mvk rfl rfl (by first | (simp only [Region.wanted]; done) | (simp [Region.wanted, yielded]; done)) rfl (fun w => by simp [go_sem]; rfl) (by simp only [Act.put, List.setIfInBounds_toArray, List.set_cons_succ, List.set_cons_zero]; rfl) ?_)
      refine Chk_sub rfl rfl rfl rfl Try.underlying80 hi hz1 HV.out 0 (xs.length - 1) (.inl ⟨rfl, rfl⟩) (.inr rfl) (by first | omega | (simp; done) | (simp; omega)) (by first | omega | (simp; done) | (simp; omega)) (by first | (simp; done) | (rw [List.take_of_length_le] <;> simp)) (xs.length - 1) (by first | (simp; done) | (simp; omega)) (fun b1 c1 a' hu1 hp => ?_)
      simp only [Act.put, List.setIfInBounds_toArray, List.set_cons_succ, List.set_cons_zero] at hp; subst hp
      repeat (refine Chk_cons ?_; first | refine Chk_mov rfl rfl (by first | (simp only [Region.wanted]; done) | (simp [Region.wanted, yielded]; done)) rfl (by simp only [Act.put, Act.eval, List.setIfInBounds_toArray, List.set_cons_succ, List.set_cons_zero, Array.getD_eq_getD_getElem?, List.getElem?_toArray, List.getElem?_cons_succ, List.getElem?_cons_zero, Option.getD_some]; rfl) ?_ | refine Chk_asg rfl rfl (by first | (simp only [Region.wanted]; done) | (simp [Region.wanted, yielded]; done)) rfl (by simp only [Act.put, Act.eval, List.setIfInBounds_toArray, List.set_cons_succ, List.set_cons_zero, Array.getD_eq_getD_getElem?, List.getElem?_toArray, List.getElem?_cons_succ, List.getElem?_cons_zero, Option.getD_some]; rfl) ?_ | refine Chk_mvk rfl rfl (by first | (simp only [Region.wanted]; done) | (simp [Region.wanted, yielded]; done)) rfl (fun w => by simp [go_sem]; rfl) (by simp only [Act.put, List.setIfInBounds_toArray, List.set_cons_succ, List.set_cons_zero]; rfl) ?_)
      refine Chk_litI (el := 3) rfl rfl rfl (by simp) (fun w => bsI1 rfl (by rfl) rfl w) 1 rfl (fun b2 c2 a' hu2 hp => ?_)
      simp only [Act.put, List.setIfInBounds_toArray, List.set_cons_succ, List.set_cons_zero] at hp; subst hp
      repeat (refine Chk_cons ?_; first | refine Chk_mov rfl rfl (by first | (simp only [Region.wanted]; done) | (simp [Region.wanted, yielded]; done)) rfl (by simp only [Act.put, Act.eval, List.setIfInBounds_toArray, List.set_cons_succ, List.set_cons_zero, Array.getD_eq_getD_getElem?, List.getElem?_toArray, List.getElem?_cons_succ, List.getElem?_cons_zero, Option.getD_some]; rfl) ?_ | refine Chk_asg rfl rfl (by first | (simp only [Region.wanted]; done) | (simp [Region.wanted, yielded]; done)) rfl (by simp only [Act.put, Act.eval, List.setIfInBounds_toArray, List.set_cons_succ, List.set_cons_zero, Array.getD_eq_getD_getElem?, List.getElem?_toArray, List.getElem?_cons_succ, List.getElem?_cons_zero, Option.getD_some]; rfl) ?_ | refine Chk_mvk rfl rfl (by first | (simp only [Region.wanted]; done) | (simp [Region.wanted, yielded]; done)) rfl (fun w => by simp [go_sem]; rfl) (by simp only [Act.put, List.setIfInBounds_toArray, List.set_cons_succ, List.set_cons_zero]; rfl) ?_)
      refine Chk_sub rfl rfl rfl rfl Try.underlying80 hi hz1 HV.out (xs.length - 1) xs.length (.inr rfl) (.inl ⟨rfl, rfl⟩) (by first | omega | (simp; done) | (simp; omega)) (by first | omega | (simp; done) | (simp; omega)) (by first | (simp; done) | (rw [List.take_of_length_le] <;> simp)) (xs.length - (xs.length - 1)) (by first | (simp; done) | (simp; omega)) (fun b3 c3 a' hu3 hp => ?_)
      simp only [Act.put, List.setIfInBounds_toArray, List.set_cons_succ, List.set_cons_zero] at hp; subst hp
      refine Chk_litR (el := 22) (cs := [.slice b1 (xs.length - 1) c1, .slice b2 1 c2, .slice b3 (xs.length - (xs.length - 1)) c3]) rfl rfl rfl (by simp) (fun w hE hF => .cons (ancF_get (ancF_rest (ancF_rest hF)) (by kernel_rfl)) (.cons (ancF_get (ancF_rest hF) (by kernel_rfl)) (.cons (ancF_get hF (by kernel_rfl)) (.nil _)))) (fun w => bsR3 rfl (by rfl) rfl (by rfl) rfl (by rfl) rfl w) 3 rfl (fun b4 c4 a' hu4 hp => ?_)
      simp only [Act.put, List.setIfInBounds_toArray, List.set_cons_succ, List.set_cons_zero] at hp; subst hp
      refine Chk_callf rfl Try.func50 (by kernel_rfl) rfl (by simp only [List.map_toArray, List.map_cons, List.map_nil, Act.eval, Array.getD_eq_getD_getElem?, List.getElem?_toArray, List.getElem?_cons_succ, List.getElem?_cons_zero, Option.getD_some] <;> rfl) rfl rfl rfl (fun wx hE hF => ?_) (fun u a' hu hp => ?_)
      · refine (joined_any _ _ wx (ancF_get hF (by kernel_rfl)) ?_).mono ?_
        · rw [putL_eq xs c true _ hk, putL_len]; omega
        · rintro e w' ⟨r, rfl, h1, h2⟩
          rw [putL_eq xs c true _ hk] at h1
          exact ⟨r, rfl, h2, h1.base (by have := hE.size; omega)⟩
      simp only [Act.put, List.setIfInBounds_toArray, List.set_cons_succ, List.set_cons_zero] at hp; subst hp
      repeat (refine Chk_cons ?_; first | refine Chk_mov rfl rfl (by first | (simp only [Region.wanted]; done) | (simp [Region.wanted, yielded]; done)) rfl (by simp only [Act.put, Act.eval, List.setIfInBounds_toArray, List.set_cons_succ, List.set_cons_zero, Array.getD_eq_getD_getElem?, List.getElem?_toArray, List.getElem?_cons_succ, List.getElem?_cons_zero, Option.getD_some]; rfl) ?_ | refine Chk_asg rfl rfl (by first | (simp only [Region.wanted]; done) | (simp [Region.wanted, yielded]; done)) rfl (by simp only [Act.put, Act.eval, List.setIfInBounds_toArray, List.set_cons_succ, List.set_cons_zero, Array.getD_eq_getD_getElem?, List.getElem?_toArray, List.getElem?_cons_succ, List.getElem?_cons_zero, Option.getD_some]; rfl) ?_ | refine Chk_mvk rfl rfl (by first | (simp only [Region.wanted]; done) | (simp [Region.wanted, yielded]; done)) rfl (fun w => by simp [go_sem]; rfl) (by simp only [Act.put, List.setIfInBounds_toArray, List.set_cons_succ, List.set_cons_zero]; rfl) ?_)
      refine Zed_none (by simp) (by simp) (fun w1 hE hF => ?_)
      go_wp2
      go_ret
      exact ⟨_, rfl, all_get hF, hE⟩
    · have hl0 : xs.length = 0 := by omega
      have hk : putAt xs.length true = 0 := by simp [putAt, hl0]
      have HL := hid hl0
      go_enter Try.func49, Try.ntmps49
      go_wp2
      refine wp_region_mono 11 11 [none, none, some (.ints (xs.take 0)), none, some (.ints [c]), none, none, some (.ints (xs.drop 0)), some (.rows [xs.take 0, [c], xs.drop 0]), some (.own w 3 (putL xs c true))] (by kernel_rfl) (by kernel_rfl) ?_
      repeat (refine Chk_cons ?_; first | refine Chk_mov rfl rfl (by first | (simp only [Region.wanted]; done) | (simp [Region.wanted, yielded]; done)) rfl (by simp only [Act.put, Act.eval, List.setIfInBounds_toArray, List.set_cons_succ, List.set_cons_zero, Array.getD_eq_getD_getElem?, List.getElem?_toArray, List.getElem?_cons_succ, List.getElem?_cons_zero, Option.getD_some]; rfl) ?_ | refine Chk_asg rfl rfl (by first | (simp only [Region.wanted]; done) | (simp [Region.wanted, yielded]; done)) rfl (by simp only [Act.put, Act.eval, List.setIfInBounds_toArray, List.set_cons_succ, List.set_cons_zero, Array.getD_eq_getD_getElem?, List.getElem?_toArray, List.getElem?_cons_succ, List.getElem?_cons_zero, Option.getD_some]; rfl) ?_ | refine Chk_mvk rfl rfl (by first | (simp only [Region.wanted]; done) | (simp [Region.wanted, yielded]; done)) rfl (fun w => by simp [go_sem]; rfl) (by simp only [Act.put, List.setIfInBounds_toArray, List.set_cons_succ, List.set_cons_zero]; rfl) ?_)
      refine Chk_sub rfl rfl rfl rfl Try.underlying80 hi hz1 HV.out 0 0 (.inl ⟨rfl, rfl⟩) (.inr rfl) (by first | omega | (simp; done) | (simp; omega)) (by first | omega | (simp; done) | (simp; omega)) (by first | (simp; done) | (rw [List.take_of_length_le] <;> simp)) 0 (by first | (simp; done) | (simp; omega)) (fun b1 c1 a' hu1 hp => ?_)
      simp only [Act.put, List.setIfInBounds_toArray, List.set_cons_succ, List.set_cons_zero] at hp; subst hp
      repeat (refine Chk_cons ?_; first | refine Chk_mov rfl rfl (by first | (simp only [Region.wanted]; done) | (simp [Region.wanted, yielded]; done)) rfl (by simp only [Act.put, Act.eval, List.setIfInBounds_toArray, List.set_cons_succ, List.set_cons_zero, Array.getD_eq_getD_getElem?, List.getElem?_toArray, List.getElem?_cons_succ, List.getElem?_cons_zero, Option.getD_some]; rfl) ?_ | refine Chk_asg rfl rfl (by first | (simp only [Region.wanted]; done) | (simp [Region.wanted, yielded]; done)) rfl (by simp only [Act.put, Act.eval, List.setIfInBounds_toArray, List.set_cons_succ, List.set_cons_zero, Array.getD_eq_getD_getElem?, List.getElem?_toArray, List.getElem?_cons_succ, List.getElem?_cons_zero, Option.getD_some]; rfl) ?_ | refine Chk_mvk rfl rfl (by first | (simp only [Region.wanted]; done) | (simp [Region.wanted, yielded]; done)) rfl (fun w => by simp [go_sem]; rfl) (by simp only [Act.put, List.setIfInBounds_toArray, List.set_cons_succ, List.set_cons_zero]; rfl) ?_)
      refine Chk_litI (el := 3) rfl rfl rfl (by simp) (fun w => bsI1 rfl (by rfl) rfl w) 1 rfl (fun b2 c2 a' hu2 hp => ?_)
      simp only [Act.put, List.setIfInBounds_toArray, List.set_cons_succ, List.set_cons_zero] at hp; subst hp
      repeat (refine Chk_cons ?_; first | refine Chk_mov rfl rfl (by first | (simp only [Region.wanted]; done) | (simp [Region.wanted, yielded]; done)) rfl (by simp only [Act.put, Act.eval, List.setIfInBounds_toArray, List.set_cons_succ, List.set_cons_zero, Array.getD_eq_getD_getElem?, List.getElem?_toArray, List.getElem?_cons_succ, List.getElem?_cons_zero, Option.getD_some]; rfl) ?_ | refine Chk_asg rfl rfl (by first | (simp only [Region.wanted]; done) | (simp [Region.wanted, yielded]; done)) rfl (by simp only [Act.put, Act.eval, List.setIfInBounds_toArray, List.set_cons_succ, List.set_cons_zero, Array.getD_eq_getD_getElem?, List.getElem?_toArray, List.getElem?_cons_succ, List.getElem?_cons_zero, Option.getD_some]; rfl) ?_ | refine Chk_mvk rfl rfl (by first | (simp only [Region.wanted]; done) | (simp [Region.wanted, yielded]; done)) rfl (fun w => by simp [go_sem]; rfl) (by simp only [Act.put, List.setIfInBounds_toArray, List.set_cons_succ, List.set_cons_zero]; rfl) ?_)
      refine Chk_sub rfl rfl rfl rfl Try.underlying80 hi hz1 HV.out 0 xs.length (.inr rfl) (.inl ⟨rfl, rfl⟩) (by first | omega | (simp; done) | (simp; omega)) (by first | omega | (simp; done) | (simp; omega)) (by first | (simp; done) | (rw [List.take_of_length_le] <;> simp)) (xs.length - 0) (by first | (simp; done) | (simp; omega)) (fun b3 c3 a' hu3 hp => ?_)
      simp only [Act.put, List.setIfInBounds_toArray, List.set_cons_succ, List.set_cons_zero] at hp; subst hp
      refine Chk_litR (el := 22) (cs := [.slice b1 0 c1, .slice b2 1 c2, .slice b3 (xs.length - 0) c3]) rfl rfl rfl (by simp) (fun w hE hF => .cons (ancF_get (ancF_rest (ancF_rest hF)) (by kernel_rfl)) (.cons (ancF_get (ancF_rest hF) (by kernel_rfl)) (.cons (ancF_get hF (by kernel_rfl)) (.nil _)))) (fun w => bsR3 rfl (by rfl) rfl (by rfl) rfl (by rfl) rfl w) 3 rfl (fun b4 c4 a' hu4 hp => ?_)
      simp only [Act.put, List.setIfInBounds_toArray, List.set_cons_succ, List.set_cons_zero] at hp; subst hp
      refine Chk_callf rfl Try.func50 (by kernel_rfl) rfl (by simp only [List.map_toArray, List.map_cons, List.map_nil, Act.eval, Array.getD_eq_getD_getElem?, List.getElem?_toArray, List.getElem?_cons_succ, List.getElem?_cons_zero, Option.getD_some] <;> rfl) rfl rfl rfl (fun wx hE hF => ?_) (fun u a' hu hp => ?_)
      · refine (joined_any _ _ wx (ancF_get hF (by kernel_rfl)) ?_).mono ?_
        · rw [putL_eq xs c true _ hk, putL_len]; omega
        · rintro e w' ⟨r, rfl, h1, h2⟩
          rw [putL_eq xs c true _ hk] at h1
          exact ⟨r, rfl, h2, h1.base (by have := hE.size; omega)⟩
      simp only [Act.put, List.setIfInBounds_toArray, List.set_cons_succ, List.set_cons_zero] at hp; subst hp
      repeat (refine Chk_cons ?_; first | refine Chk_mov rfl rfl (by first | (simp only [Region.wanted]; done) | (simp [Region.wanted, yielded]; done)) rfl (by simp only [Act.put, Act.eval, List.setIfInBounds_toArray, List.set_cons_succ, List.set_cons_zero, Array.getD_eq_getD_getElem?, List.getElem?_toArray, List.getElem?_cons_succ, List.getElem?_cons_zero, Option.getD_some]; rfl) ?_ | refine Chk_asg rfl rfl (by first | (simp only [Region.wanted]; done) | (simp [Region.wanted, yielded]; done)) rfl (by simp only [Act.put, Act.eval, List.setIfInBounds_toArray, List.set_cons_succ, List.set_cons_zero, Array.getD_eq_getD_getElem?, List.getElem?_toArray, List.getElem?_cons_succ, List.getElem?_cons_zero, Option.getD_some]; rfl) ?_ | refine Chk_mvk rfl rfl (by first | (simp only [Region.wanted]; done) | (simp [Region.wanted, yielded]; done)) rfl (fun w => by simp [go_sem]; rfl) (by simp only [Act.put, List.setIfInBounds_toArray, List.set_cons_succ, List.set_cons_zero]; rfl) ?_)
      refine Zed_none (by simp) (by simp) (fun w1 hE hF => ?_)
      go_wp2
      go_ret
      exact ⟨_, rfl, all_get hF, hE⟩

theorem of_lo (b : Nat) (w : World) : Calls Try.prog 48 #[.pointer (some ⟨b, 0, none⟩), .int .i64 0] w fun e w' => e = .returned (.pointer (some ⟨b, 0, none⟩)) ∧ w = w' := by
  go_enter Try.func48, Try.ntmps48
  go_wp2
  go_ret
  exact ⟨rfl, rfl⟩
theorem of_yo (b : Nat) (n : Int) (hn : (n == 0) = false) (w : World) : Calls Try.prog 48 #[.pointer (some ⟨b, 0, none⟩), .int .i64 n] w fun e w' => e = .returned (.pointer (some ⟨b, 1, none⟩)) ∧ w = w' := by
  go_enter Try.func48, Try.ntmps48
  go_wp2
  go_ret
  exact ⟨rfl, rfl⟩
end Go.Proofs.Ytfnbfmlnageflaa
