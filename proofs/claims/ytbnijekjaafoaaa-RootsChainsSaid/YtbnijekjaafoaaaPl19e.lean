import Derived.Test.YtbnijekjaafoaaaPl19d
namespace Go.Own.R
open Go Go.Own
def swp (p : Int × Int) : Int × Int := (p.2, p.1)
def snds (ms : List (Int × Int)) : List Int := ms.map (·.2)
theorem mvGo_iff : ∀ (r : List (Int × Int)) (seen : List Int) (i : Nat), seen.Nodup → ((mvGo seen r i).2 = 0 ↔ (∀ x ∈ r, ¬ badM x) ∧ (seen ++ fsts r).Nodup)
  | [], seen, i, h => by simp [mvGo, fsts, h]
  | x :: r, seen, i, h => by
    unfold mvGo
    by_cases hb : badM x
    · rw [if_pos hb]
      refine ⟨fun q => (by cases q), fun q => absurd hb (q.1 x (by simp))⟩
    · rw [if_neg hb]
      by_cases hx : x.1 ∈ seen
      · rw [if_pos hx]
        refine ⟨fun q => (by cases q), fun q => ?_⟩
        have := (List.nodup_append.1 q.2).2.2 _ hx x.1 (by simp [fsts])
        exact absurd rfl this
      · rw [if_neg hx]
        have hn : (seen ++ [x.1]).Nodup := List.nodup_append.2 ⟨h, by simp, fun a ha b hb => by rw [List.mem_singleton] at hb; subst hb; rintro rfl; exact hx ha⟩
        rw [mvGo_iff r (seen ++ [x.1]) (i + 1) hn]
        have e : seen ++ [x.1] ++ fsts r = seen ++ fsts (x :: r) := by simp [fsts]
        rw [e]
        constructor
        · rintro ⟨q1, q2⟩
          exact ⟨fun y hy => by rcases List.mem_cons.1 hy with rfl | hy; exact hb; exact q1 y hy, q2⟩
        · rintro ⟨q1, q2⟩
          exact ⟨fun y hy => q1 y (List.mem_cons_of_mem _ hy), q2⟩
theorem mvR_iff {ms : List (Int × Int)} : (mvR ms).2 = 0 ↔ ms.length ≤ 2000 ∧ (∀ x ∈ ms, ¬ badM x) ∧ (fsts ms).Nodup := by
  unfold mvR
  by_cases h : 2000 < ms.length
  · rw [if_pos h]; refine ⟨fun q => (by cases q), fun q => by omega⟩
  · rw [if_neg h, mvGo_iff _ _ _ List.nodup_nil, List.nil_append]
    exact ⟨fun q => ⟨by omega, q.1, q.2⟩, fun q => ⟨q.2.1, q.2.2⟩⟩
theorem fw1_not {ms : List (Int × Int)} {a : Int} (h : a ∉ fsts ms) : fw1 ms a = a := by
  refine fw1_out ?_
  cases e : lkB ms a
  · rfl
  · exact absurd (lkB_in e) h
theorem fw1_mem : ∀ {ms : List (Int × Int)} {p : Int × Int}, (fsts ms).Nodup → p ∈ ms → fw1 ms p.1 = p.2
  | [], p, _, h => by cases h
  | q :: r, p, hn, h => by
    have hn2 := hn
    simp only [fsts, List.map_cons, List.nodup_cons] at hn2
    by_cases e : q.1 = p.1
    · have : p = q := by
        rcases List.mem_cons.1 h with h | h
        · exact h
        · exact absurd (List.mem_map.2 ⟨p, h, e.symm⟩) hn2.1
      subst this
      simp [fw1, lkB, lkN]
    · have hp : p ∈ r := by
        rcases List.mem_cons.1 h with h | h
        · exact absurd (by rw [h]) e
        · exact h
      have ih := fw1_mem hn2.2 hp
      unfold fw1 lkB lkN at ih ⊢
      rw [List.find?_cons_of_neg (by simpa using e)]; exact ih
theorem fw_rng {ms : List (Int × Int)} (h : ∀ x ∈ ms, ¬ badM x) {a : Int} (ha : 0 ≤ a ∧ a ≤ 1600) : 0 ≤ fw1 ms a ∧ fw1 ms a ≤ 1600 := by
  unfold fw1 lkB lkN
  cases e : ms.find? fun p => p.1 == a with
  | none => simpa using ha
  | some p =>
    have := h p (List.mem_of_find?_eq_some e)
    unfold badM at this
    simp; omega
theorem fw_rng1 {ms : List (Int × Int)} (h : ∀ x ∈ ms, ¬ badM x) {a : Int} (ha : 1 ≤ a ∧ a ≤ 1600) : 1 ≤ fw1 ms a ∧ fw1 ms a ≤ 1600 := by
  unfold fw1 lkB lkN
  cases e : ms.find? fun p => p.1 == a with
  | none => simpa using ha
  | some p =>
    have := h p (List.mem_of_find?_eq_some e)
    unfold badM at this
    simp; omega
theorem fw0 {l : List Int} {ms : List (Int × Int)} (h : fwE l ms = 0) : (ckR l).2 = 0 ∧ (mvR ms).2 = 0 ∧ fwT l ms = l.map (fw1 ms) ∧ (ckR (fwT l ms)).2 = 0 ∧ (fwT l ms).length = l.length := by
  have e := (fw_ok h).1
  have hc : (ckR l).2 = 0 := by
    apply Classical.byContradiction; intro q
    rw [fwE_ck q] at h; exact q h
  have hm : (mvR ms).2 = 0 := by rw [← fwE_mv (ms := ms) hc]; exact h
  obtain ⟨h1, h2, h3⟩ := ckR_iff.1 hc
  have hb := (mvR_iff.1 hm).2.1
  refine ⟨hc, hm, e, ?_, by rw [e, List.length_map]⟩
  rw [e]
  refine ckR_iff.2 ⟨by rw [List.length_map]; exact h1, by rw [List.length_map]; exact h2, fun x hx => ?_⟩
  obtain ⟨y, hy, rfl⟩ := List.mem_map.1 hx
  exact fw_rng hb (h3 y hy)
theorem fw_at {l : List Int} {ms : List (Int × Int)} (h : fwE l ms = 0) {i : Nat} {x y : Int} (hx : l[i]? = some x) (hy : (fwT l ms)[i]? = some y) : y = fw1 ms x := by
  rw [(fw0 h).2.2.1, List.getElem?_map, hx] at hy
  exact (Option.some.inj hy).symm
/-- with different Tos, none of which a register holds that is not moved. -/
def Bk (l : List Int) (ms : List (Int × Int)) : Prop := (snds ms).Nodup ∧ ∀ x ∈ l, x ∈ snds ms → x ∈ fsts ms
theorem fsts_swp (ms : List (Int × Int)) : fsts (ms.map swp) = snds ms := by simp [fsts, snds, swp, Function.comp_def]
theorem back_one {l : List Int} {ms : List (Int × Int)} (hm : (mvR ms).2 = 0) (hb : Bk l ms) {x : Int} (hx : x ∈ l) : fw1 (ms.map swp) (fw1 ms x) = x := by
  have hn := (mvR_iff.1 hm).2.2
  have hn2 : (fsts (ms.map swp)).Nodup := by rw [fsts_swp]; exact hb.1
  by_cases q : x ∈ fsts ms
  · obtain ⟨p, hp, rfl⟩ := List.mem_map.1 q
    rw [fw1_mem hn hp]
    exact fw1_mem (p := swp p) hn2 (List.mem_map.2 ⟨p, hp, rfl⟩)
  · rw [fw1_not q, fw1_not]
    rw [fsts_swp]
    exact fun r => q (hb.2 x hx r)
theorem back_all {l : List Int} {ms : List (Int × Int)} (h : fwE l ms = 0) (hb : Bk l ms) : fwE (fwT l ms) (ms.map swp) = 0 ∧ fwT (fwT l ms) (ms.map swp) = l ∧ fwN (fwT l ms) (ms.map swp) = fwN l ms := by
  obtain ⟨hc, hm, e, hc2, hl⟩ := fw0 h
  obtain ⟨h1, h2, h3⟩ := mvR_iff.1 hm
  have hm2 : (mvR (ms.map swp)).2 = 0 := by
    refine mvR_iff.2 ⟨by rw [List.length_map]; exact h1, fun x hx => ?_, by rw [fsts_swp]; exact hb.1⟩
    obtain ⟨y, hy, rfl⟩ := List.mem_map.1 hx
    have := h2 y hy
    unfold badM at this ⊢
    simp only [swp]; omega
  have h0 : fwE (fwT l ms) (ms.map swp) = 0 := (fwE_mv hc2).trans hm2
  refine ⟨h0, ?_, ?_⟩
  · rw [(fw_ok h0).1, e, List.map_map]
    have : l.map (fw1 (ms.map swp) ∘ fw1 ms) = l.map id := List.map_congr_left fun x hx => back_one hm hb hx
    rw [this, List.map_id]
  · rw [(fw_ok h0).2, (fw_ok h).2]
    unfold fwC
    rw [List.take_length, List.take_length]
    congr 1
    have e2 : (fwT l ms).countP (fun a => decide (fw1 (ms.map swp) a ≠ a)) = l.countP (fun a => decide (fw1 (ms.map swp) (fw1 ms a) ≠ fw1 ms a)) := by
      rw [e, List.countP_map]; rfl
    rw [e2]
    refine List.countP_congr fun a ha => ?_
    rw [back_one hm hb ha]
    simp only [decide_eq_true_eq, ne_eq]
    exact ⟨fun q r => q r.symm, fun q r => q r.symm⟩
theorem back_inj {l : List Int} {ms : List (Int × Int)} (h : fwE l ms = 0) (hb : Bk l ms) {i k : Nat} {x y a b : Int} (hx : l[i]? = some x) (hy : l[k]? = some y) (ha : (fwT l ms)[i]? = some a) (hb2 : (fwT l ms)[k]? = some b) (hn : ¬ x = y) : ¬ a = b := by
  have hm := (fw0 h).2.1
  rw [fw_at h hx ha, fw_at h hy hb2]
  intro e
  have h1 := back_one hm hb (List.mem_of_getElem? hx)
  have h2 := back_one hm hb (List.mem_of_getElem? hy)
  rw [e, h2] at h1
  exact hn h1.symm
/-! the loop -/
def BkK (l : List Int) (ms : List (Int × Int)) (i : Nat) : Prop := (snds (ms.take i)).Nodup ∧ ∀ x ∈ l, x ∈ snds (ms.take i) → x ∈ fsts ms
theorem take_add {α : Type} {l : List α} {k : Nat} {y : α} (hy : l[k]? = some y) : l.take (k + 1) = l.take k ++ [y] := by
  obtain ⟨hk, rfl⟩ := List.getElem?_eq_some_iff.1 hy
  rw [List.take_add_one, List.getElem?_eq_getElem hk]; rfl
theorem BkK_zero (l : List Int) (ms : List (Int × Int)) : BkK l ms 0 := ⟨by simp [snds], by simp [snds]⟩
theorem BkK_step {l : List Int} {ms : List (Int × Int)} {i : Nat} {p : Int × Int} (h : BkK l ms i) (hp : ms[i]? = some p) (h1 : ∀ q, q < i → ∀ z, ms[q]? = some z → ¬ z.2 = p.2) (h2 : ∀ k, k < l.length → ∀ x, l[k]? = some x → x = p.2 → x ∈ fsts ms) : BkK l ms (i + 1) := by
  have hi := (List.getElem?_eq_some_iff.1 hp).1
  have e : snds (ms.take (i + 1)) = snds (ms.take i) ++ [p.2] := by unfold snds; rw [take_add hp, List.map_append]; rfl
  refine ⟨?_, fun x hx hs => ?_⟩
  · rw [e]
    refine List.nodup_append.2 ⟨h.1, by simp, fun a ha b hb => ?_⟩
    rw [List.mem_singleton] at hb; subst hb
    obtain ⟨z, hz, rfl⟩ := List.mem_map.1 ha
    obtain ⟨q, hq, rfl⟩ := List.mem_iff_getElem.1 hz
    have hq2 : q < i := by rw [List.length_take] at hq; omega
    rw [List.getElem_take]
    exact h1 q hq2 _ (List.getElem?_eq_getElem (by omega))
  · rw [e, List.mem_append, List.mem_singleton] at hs
    rcases hs with hs | hs
    · exact h.2 x hx hs
    · obtain ⟨k, hk, rfl⟩ := List.mem_iff_getElem.1 hx
      exact h2 k hk _ (List.getElem?_eq_getElem hk) hs
theorem BkK_all {l : List Int} {ms : List (Int × Int)} {i : Nat} (h : BkK l ms i) (hi : ms.length ≤ i) : Bk l ms := by
  unfold BkK at h; rw [List.take_of_length_le hi] at h; exact h
theorem swp_snoc {ms : List (Int × Int)} {i : Nat} {p : Int × Int} (hp : ms[i]? = some p) : (ms.take i).map swp ++ [(p.2, p.1)] = (ms.take (i + 1)).map swp := by
  rw [take_add hp, List.map_append]; rfl
theorem mem_fst {ms : List (Int × Int)} {a : Int} {m : Nat} {p : Int × Int} {b : Bool} (h : b = decide (a ∈ fsts (ms.take m))) (hp : ms[m]? = some p) : (if b = true then true else decide (p.1 = a)) = decide (a ∈ fsts (ms.take (m + 1))) := by
  rw [fsts_snoc hp]
  by_cases q : a ∈ fsts (ms.take m)
  · rw [h]; simp [q]
  · rw [h]
    have : (a = p.1) ↔ (p.1 = a) := ⟨Eq.symm, Eq.symm⟩
    simp [q, this]
theorem no_stepQ {ms : List (Int × Int)} {q : Nat} {b : Int} {p : Int × Int} (h : ∀ q2, q2 < q → ∀ z : Int × Int, ms[q2]? = some z → ¬ z.2 = b) (hp : ms[q]? = some p) (hn : ¬ p.2 = b) : ∀ q2, q2 < q + 1 → ∀ z : Int × Int, ms[q2]? = some z → ¬ z.2 = b := by
  intro j hj z hz
  by_cases e : j = q
  · subst e; rw [hp] at hz; cases hz; exact hn
  · exact h j (by omega) z hz
theorem h2_step {l : List Int} {ms : List (Int × Int)} {p : Nat} {y b : Int} (h : ∀ k, k < p → ∀ x, l[k]? = some x → x = b → x ∈ fsts ms) (hy : l[p]? = some y) (hn : y = b → y ∈ fsts ms) : ∀ k, k < p + 1 → ∀ x, l[k]? = some x → x = b → x ∈ fsts ms := by
  intro j hj x hx hb
  by_cases e : j = p
  · subst e; rw [hy] at hx; cases hx; exact hn hb
  · exact h j (by omega) x hx hb
theorem mem_t {ms : List (Int × Int)} {a : Int} {m : Nat} {b : Bool} (h : b = decide (a ∈ fsts (ms.take m))) (c : b = true) : true = decide (a ∈ fsts (ms.take (m + 1))) := by
  rw [c] at h
  have : a ∈ fsts (ms.take m) := by simpa using h.symm
  symm; rw [decide_eq_true_eq]
  exact ((List.take_sublist_take_left (by omega)).map _).subset this
theorem mem_f {ms : List (Int × Int)} {a : Int} {m : Nat} {b : Bool} {p : Int × Int} (h : b = decide (a ∈ fsts (ms.take m))) (c : b = false) (hp : ms[m]? = some p) : decide (p.1 = a) = decide (a ∈ fsts (ms.take (m + 1))) := by
  have := mem_fst h hp
  rw [c] at this; simpa using this
theorem mem_take {ms : List (Int × Int)} {a : Int} {m : Nat} {b : Bool} (h : b = decide (a ∈ fsts (ms.take m))) (c : b = true) (hm : ms.length ≤ m) : a ∈ fsts ms := by
  rw [c, List.take_of_length_le hm] at h; simpa using h.symm
theorem not_take {ms : List (Int × Int)} {a : Int} {m : Nat} {b : Bool} (h : b = decide (a ∈ fsts (ms.take m))) (c : b = false) (hm : ms.length ≤ m) : a ∉ fsts ms := by
  rw [c, List.take_of_length_le hm] at h; simpa using h.symm
/-! Chains -/
def led (m : List (Int × Int)) (p : Int × Int) : Int × Int := (p.1, fw1 m p.2)
def both (l m : List (Int × Int)) : List (Int × Int) := l.map (led m) ++ m.filter fun p => decide (p.1 ∉ fsts l)
theorem fsts_both (l m : List (Int × Int)) : fsts (both l m) = fsts l ++ (fsts m).filter fun a => decide (a ∉ fsts l) := by
  unfold both
  have h1 : fsts (l.map (led m)) = fsts l := by simp [fsts, led, Function.comp_def]
  have h2 : fsts (m.filter fun p => decide (p.1 ∉ fsts l)) = (fsts m).filter fun a => decide (a ∉ fsts l) := by
    clear h1
    generalize fsts l = s
    induction m with
    | nil => rfl
    | cons x m ih =>
      by_cases q : x.1 ∈ s <;> simp [fsts, q, List.filter_cons] at ih ⊢ <;> exact ih
  have h3 : ∀ a b : List (Int × Int), fsts (a ++ b) = fsts a ++ fsts b := fun a b => by simp [fsts]
  rw [h3, h1, h2]
theorem both_ok {l m : List (Int × Int)} (hl : (mvR l).2 = 0) (hm : (mvR m).2 = 0) (h : l.length + m.length ≤ 2000) : (mvR (both l m)).2 = 0 := by
  obtain ⟨_, hl2, hl3⟩ := mvR_iff.1 hl
  obtain ⟨_, hm2, hm3⟩ := mvR_iff.1 hm
  refine mvR_iff.2 ⟨?_, fun x hx => ?_, ?_⟩
  · have := List.length_filter_le (fun p : Int × Int => decide (p.1 ∉ fsts l)) m
    unfold both; rw [List.length_append, List.length_map]; omega
  · unfold both at hx
    rcases List.mem_append.1 hx with q | q
    · obtain ⟨p, hp, rfl⟩ := List.mem_map.1 q
      have h1 := hl2 p hp
      unfold badM at h1
      have h2 := fw_rng1 hm2 (a := p.2) (by omega)
      unfold badM led; simp only; omega
    · exact hm2 x (List.mem_filter.1 q).1
  · rw [fsts_both]
    refine List.nodup_append.2 ⟨hl3, hm3.filter _, fun a ha b hb => ?_⟩
    rintro rfl
    have := (List.mem_filter.1 hb).2
    simp [ha] at this
theorem both_one {l m : List (Int × Int)} (hl : (mvR l).2 = 0) (hm : (mvR m).2 = 0) (h : l.length + m.length ≤ 2000) (x : Int) : fw1 (both l m) x = fw1 m (fw1 l x) := by
  have hl3 := (mvR_iff.1 hl).2.2
  have hm3 := (mvR_iff.1 hm).2.2
  have hb3 := (mvR_iff.1 (both_ok hl hm h)).2.2
  by_cases q : x ∈ fsts l
  · obtain ⟨p, hp, rfl⟩ := List.mem_map.1 q
    rw [fw1_mem hl3 hp]
    exact fw1_mem (p := led m p) hb3 (by unfold both; exact List.mem_append_left _ (List.mem_map.2 ⟨p, hp, rfl⟩))
  · rw [fw1_not q]
    by_cases r : x ∈ fsts m
    · obtain ⟨p, hp, rfl⟩ := List.mem_map.1 r
      rw [fw1_mem hm3 hp]
      refine fw1_mem hb3 ?_
      unfold both
      exact List.mem_append_right _ (List.mem_filter.2 ⟨hp, by simpa using q⟩)
    · rw [fw1_not r, fw1_not]
      rw [fsts_both, List.mem_append]
      rintro (t | t)
      · exact q t
      · exact r (List.mem_filter.1 t).1
theorem both_all {r : List Int} {l m : List (Int × Int)} (hl : fwE r l = 0) (hm : (mvR m).2 = 0) (h : l.length + m.length ≤ 2000) : fwE (fwT r l) m = 0 ∧ fwE r (both l m) = 0 ∧ fwT (fwT r l) m = fwT r (both l m) := by
  obtain ⟨hc, hl2, e, hc2, _⟩ := fw0 hl
  have h1 : fwE (fwT r l) m = 0 := (fwE_mv hc2).trans hm
  have h2 : fwE r (both l m) = 0 := (fwE_mv hc).trans (both_ok hl2 hm h)
  refine ⟨h1, h2, ?_⟩
  rw [(fw_ok h1).1, (fw_ok h2).1, e, List.map_map]
  exact List.map_congr_left fun x _ => (both_one hl2 hm h x).symm
/-- the To that the second list leads on, behind k of its moves. -/
theorem led_hit {m : List (Int × Int)} {k : Nat} {p : Int × Int} {a : Int} (hm : (mvR m).2 = 0) (hp : m[k]? = some p) (h : p.1 = a) : p.2 = fwj m (k + 1) a := (fwj_hit hm hp h).symm
theorem led_snoc {l m : List (Int × Int)} {i : Nat} {p : Int × Int} {k : Nat} (hp : l[i]? = some p) (hk : m.length ≤ k) : (l.take i).map (led m) ++ [(p.1, fwj m k p.2)] = (l.take (i + 1)).map (led m) := by
  rw [take_add hp, List.map_append, fwj_all hk]; rfl
def bothK (l m : List (Int × Int)) (k : Nat) : List (Int × Int) := l.map (led m) ++ (m.take k).filter fun p => decide (p.1 ∉ fsts l)
theorem bothK_zero (l m : List (Int × Int)) {i : Nat} (hi : l.length ≤ i) : (l.take i).map (led m) = bothK l m 0 := by simp [bothK, List.take_of_length_le hi]
theorem bothK_all {l m : List (Int × Int)} {k : Nat} (hk : m.length ≤ k) : bothK l m k = both l m := by unfold bothK both; rw [List.take_of_length_le hk]
theorem bothK_len (l m : List (Int × Int)) (k : Nat) : (bothK l m k).length ≤ l.length + m.length := by
  have h1 := List.length_filter_le (fun p : Int × Int => decide (p.1 ∉ fsts l)) (m.take k)
  rw [List.length_take] at h1
  unfold bothK; rw [List.length_append, List.length_map]; omega
theorem bothK_in {l m : List (Int × Int)} {k i : Nat} {p : Int × Int} {b : Bool} (hp : m[k]? = some p) (hb : b = decide (p.1 ∈ fsts (l.take i))) (hi : l.length ≤ i) (c : b = false) : bothK l m k ++ [p] = bothK l m (k + 1) := by
  rw [c, List.take_of_length_le hi] at hb
  have hq : p.1 ∉ fsts l := by simpa using hb.symm
  unfold bothK; rw [take_add hp, List.filter_append]; simp [hq]
theorem bothK_out {l m : List (Int × Int)} {k i : Nat} {p : Int × Int} {b : Bool} (hp : m[k]? = some p) (hb : b = decide (p.1 ∈ fsts (l.take i))) (hi : l.length ≤ i) (c : b = true) : bothK l m k = bothK l m (k + 1) := by
  rw [c, List.take_of_length_le hi] at hb
  have hq : p.1 ∈ fsts l := by simpa using hb.symm
  unfold bothK; rw [take_add hp, List.filter_append]; simp [hq]
end Go.Own.R
