import Derived.Test.YtoandfgkkmfobaaPl7
namespace Go.Own.S
open Go Go.Own Go.Own.R
/-! lengths -/
def P2 (n : Nat) : Prop := n = 8 ∨ n = 16 ∨ n = 32 ∨ n = 64 ∨ n = 128 ∨ n = 256 ∨ n = 512 ∨ n = 1024 ∨ n = 2048 ∨ n = 4096 ∨ n = 8192
instance (n : Nat) : Decidable (P2 n) := by unfold P2; infer_instance
theorem P2.bd {n : Nat} (h : P2 n) : 8 ≤ n ∧ n ≤ 8192 := by unfold P2 at h; omega
theorem and_p2 {x n : Nat} (h : P2 n) : x &&& (n - 1) = x % n := by
  rcases h with rfl | rfl | rfl | rfl | rfl | rfl | rfl | rfl | rfl | rfl | rfl
  · exact Nat.and_two_pow_sub_one_eq_mod x 3
  · exact Nat.and_two_pow_sub_one_eq_mod x 4
  · exact Nat.and_two_pow_sub_one_eq_mod x 5
  · exact Nat.and_two_pow_sub_one_eq_mod x 6
  · exact Nat.and_two_pow_sub_one_eq_mod x 7
  · exact Nat.and_two_pow_sub_one_eq_mod x 8
  · exact Nat.and_two_pow_sub_one_eq_mod x 9
  · exact Nat.and_two_pow_sub_one_eq_mod x 10
  · exact Nat.and_two_pow_sub_one_eq_mod x 11
  · exact Nat.and_two_pow_sub_one_eq_mod x 12
  · exact Nat.and_two_pow_sub_one_eq_mod x 13
theorem p2_all : ∀ (k : _root_.Fin 129) (n : _root_.Fin 64), 8 ≤ 64 * k.val + n.val → 64 * k.val + n.val ≤ 8192 → (((64 * k.val + n.val) &&& (64 * k.val + n.val - 1) = 0) ↔ P2 (64 * k.val + n.val)) := by decide +kernel
theorem p2_and {n : Nat} (h1 : 8 ≤ n) (h2 : n ≤ 8192) : (n &&& (n - 1) = 0) ↔ P2 n := by
  have := p2_all ⟨n / 64, by omega⟩ ⟨n % 64, by omega⟩
  simp only [show 64 * (n / 64) + n % 64 = n by omega] at this
  exact this h1 h2
/-! the addresses, ascending -/
theorem Dst.pw {c : List Int} (h : Dst c) : c.Pairwise fun x y => 0 < x → x ≠ y := by
  rw [List.pairwise_iff_getElem]
  intro i j hi hj hij hx e
  have := h i j _ (List.getElem?_eq_getElem hi) (by rw [e]; exact List.getElem?_eq_getElem hj) hx
  omega
theorem Dst.nodup {c : List Int} (h : Dst c) : (c.filter fun x => decide (0 < x)).Nodup := by
  have h1 := List.Pairwise.filter (fun x => decide (0 < x)) h.pw
  exact h1.imp_of_mem fun {a b} ha _ hab => hab (by simpa using (List.mem_filter.1 ha).2)
theorem sort_strict {l : List Int} (h : l.Nodup) : (sortL l).Pairwise (· < ·) := by
  have h1 := sortL_asc l
  have h2 : (sortL l).Nodup := (List.mergeSort_perm l _).nodup_iff.2 h
  exact (h1.and h2).imp fun ⟨a, b⟩ => by omega
theorem srt_eq {c : List Int} (hr : Rng c) (hd : Dst c) : sortL (c.filter fun x => decide (0 < x)) = tgK c 1600 := by
  refine asc_unique (sort_strict hd.nodup) (tgK_asc c 1600) fun a => ?_
  rw [sortL_mem, tgK_mem, List.mem_filter]
  constructor
  · rintro ⟨h1, h2⟩
    have := hr a h1
    have h2 : 0 < a := by simpa using h2
    exact ⟨by omega, by omega, h1⟩
  · rintro ⟨h1, h2, h3⟩
    exact ⟨h3, by simp; omega⟩
theorem adr_srt {c : List Int} (hr : Rng c) (hd : Dst c) : adr c = (tgK c 1600).length := by
  rw [← srt_eq hr hd, sortL_len, adr, List.countP_eq_length_filter]
theorem adr_le {c : List Int} (hr : Rng c) (hd : Dst c) : adr c ≤ 1600 := by rw [adr_srt hr hd]; exact tgK_len c 1600
/-! building anew -/
theorem put_fold : ∀ (l : List Int) (c : List Int), Gw c → l.Nodup → (∀ x ∈ l, (1 ≤ x ∧ x ≤ 1600) ∧ x ∉ c) → adr c + l.length ≤ c.length → usd c = adr c →
    Gw (l.foldl putT c) ∧ (∀ y, 0 < y → (y ∈ l.foldl putT c ↔ y ∈ l ∨ y ∈ c)) ∧ adr (l.foldl putT c) = adr c + l.length ∧ usd (l.foldl putT c) = adr c + l.length ∧ (l.foldl putT c).length = c.length
  | [], c, h, _, _, _, hu => ⟨h, fun y _ => by simp, rfl, hu, rfl⟩
  | a :: l, c, h, hn, hx, hf, hu => by
    rw [List.nodup_cons] at hn
    rw [List.length_cons] at hf
    obtain ⟨h1, h2⟩ := hx a (by simp)
    obtain ⟨p1, p2, p3, p4, p5⟩ := put_good h h1 h2 (by omega)
    have hl := putT_len c a
    obtain ⟨q1, q2, q3, q4, q5⟩ := put_fold l (putT c a) p1 hn.2 (fun x hq => by
      have h3 := hx x (List.mem_cons_of_mem _ hq)
      refine ⟨h3.1, fun hm => ?_⟩
      rcases (p2 x (by omega)).1 hm with rfl | hm
      · exact hn.1 hq
      · exact h3.2 hm) (by omega) (p5 hu)
    refine ⟨q1, fun y hy => ?_, by rw [List.foldl_cons, q3, p3, List.length_cons]; omega, by rw [List.foldl_cons, q4, p3, List.length_cons]; omega, by rw [List.foldl_cons, q5, hl]⟩
    rw [List.foldl_cons, q2 y hy, p2 y hy, List.mem_cons]
    constructor
    · rintro (h | h | h)
      · exact .inl (.inr h)
      · exact .inl (.inl h)
      · exact .inr h
    · rintro ((h | h) | h)
      · exact .inr (.inl h)
      · exact .inl h
      · exact .inr (.inr h)
def bld (n : Nat) (l : List Int) : List Int := l.foldl putT (List.replicate n 0)
theorem zer_no {n : Nat} {x : Int} (h : 0 < x) : x ∉ List.replicate n (0 : Int) := fun q => by
  have := List.eq_of_mem_replicate q; omega
theorem zer_at {n i : Nat} {x : Int} (h : (List.replicate n (0 : Int))[i]? = some x) : x = 0 := List.eq_of_mem_replicate (List.mem_of_getElem? h)
theorem zer_gw (n : Nat) : Gw (List.replicate n (0 : Int)) :=
  ⟨fun x hx => by have := List.eq_of_mem_replicate hx; omega, fun i j x hi _ h0 => by have := zer_at hi; omega, fun i x hi h0 => by have := zer_at hi; omega⟩
theorem zer_adr (n : Nat) : adr (List.replicate n (0 : Int)) = 0 := by
  unfold adr; rw [List.countP_eq_zero]; intro x hx; have := List.eq_of_mem_replicate hx; simp; omega
theorem zer_usd (n : Nat) : usd (List.replicate n (0 : Int)) = 0 := by
  unfold usd; rw [List.countP_eq_zero]; intro x hx; have := List.eq_of_mem_replicate hx; simp; omega
theorem bld_good {n : Nat} {l : List Int} (hn : l.Nodup) (hx : ∀ x ∈ l, 1 ≤ x ∧ x ≤ 1600) (hl : l.length ≤ n) :
    Gw (bld n l) ∧ (∀ y, 0 < y → (y ∈ bld n l ↔ y ∈ l)) ∧ adr (bld n l) = l.length ∧ usd (bld n l) = l.length ∧ (bld n l).length = n := by
  obtain ⟨q1, q2, q3, q4, q5⟩ := put_fold l (List.replicate n 0) (zer_gw n) hn (fun x h => ⟨hx x h, zer_no (by have := hx x h; omega)⟩) (by rw [zer_adr, List.length_replicate]; omega) (by rw [zer_adr, zer_usd])
  refine ⟨q1, fun y hy => ?_, by unfold bld; rw [q3, zer_adr]; omega, by unfold bld; rw [q4, zer_adr]; omega, by unfold bld; rw [q5, List.length_replicate]⟩
  unfold bld
  rw [q2 y hy]
  exact ⟨fun h => h.resolve_right (zer_no hy), .inl⟩
theorem bld_take {n : Nat} {l : List Int} {k : Nat} {y : Int} (hy : l[k]? = some y) : putT (bld n (l.take k)) y = bld n (l.take (k + 1)) := by
  unfold bld; rw [take_snoc' l k y hy, List.foldl_append]; rfl
theorem tgK_nodup (c : List Int) (k : Nat) : (tgK c k).Nodup := (tgK_asc c k).imp fun h => by omega
theorem tgK_rng {c : List Int} : ∀ x ∈ tgK c 1600, 1 ≤ x ∧ x ≤ 1600 := fun x hx => by have := tgK_mem.1 hx; omega
/-- what holds of a part of the way: the free cell for the next one. -/
theorem bld_part {n : Nat} {c : List Int} {k : Nat} (hl : (tgK c 1600).length ≤ n) (hk : k ≤ (tgK c 1600).length) : (bld n ((tgK c 1600).take k)).length = n ∧ adr (bld n ((tgK c 1600).take k)) = k ∧ Gw (bld n ((tgK c 1600).take k)) := by
  have h1 : ((tgK c 1600).take k).length = k := by rw [List.length_take]; omega
  obtain ⟨q1, _, q3, _, q5⟩ := bld_good (n := n) (l := (tgK c 1600).take k) ((tgK_nodup c 1600).sublist (List.take_sublist k _)) (fun x hx => tgK_rng x (List.mem_of_mem_take hx)) (by omega)
  exact ⟨q5, by rw [q3, h1], q1⟩
/-! add -/
def adN (c : List Int) : Nat := if 3 * c.length < 8 * adr c then 2 * c.length else c.length
def addT (c : List Int) (a : Int) : List Int := if 4 * usd (putT c a) ≤ 3 * (putT c a).length then putT c a else bld (adN (putT c a)) (tgK (putT c a) 1600)
structure Gd (c : List Int) : Prop extends Gw c where
  p2 : P2 c.length
  full : 4 * usd c ≤ 3 * c.length
theorem Gd.bd {c : List Int} (h : Gd c) : 8 ≤ c.length ∧ c.length ≤ 8192 ∧ usd c < c.length ∧ adr c < c.length := by
  have := h.p2.bd; have := h.full; have := adr_usd c; omega
theorem adN_bd {c : List Int} (hw : Gw c) (hp : P2 c.length) (hu : 4 * usd c ≤ 3 * c.length + 4) : P2 (adN c) ∧ (tgK c 1600).length ≤ adN c ∧ 4 * (tgK c 1600).length ≤ 3 * adN c ∧ (c.length ≤ adN c) := by
  have h1 := adr_le hw.rng hw.dst
  have h2 := adr_usd c
  have h3 := hp.bd
  rw [← adr_srt hw.rng hw.dst]
  unfold adN
  split
  · refine ⟨?_, by omega, by omega, by omega⟩
    unfold P2 at hp ⊢; omega
  · exact ⟨hp, by omega, by omega, by omega⟩
theorem add_good {c : List Int} {a : Int} (h : Gd c) (ha : 1 ≤ a ∧ a ≤ 1600) (hn : a ∉ c) :
    Gd (addT c a) ∧ (∀ y, 0 < y → (y ∈ addT c a ↔ y = a ∨ y ∈ c)) ∧ adr (addT c a) = adr c + 1 ∧ c.length ≤ (addT c a).length := by
  obtain ⟨b1, b2, b3, b4⟩ := h.bd
  obtain ⟨p1, p2, p3, p4, p5⟩ := put_good h.toGw ha hn b4
  have hl := putT_len c a
  unfold addT
  split
  · rename_i hf
    exact ⟨⟨p1, by rw [hl]; exact h.p2, hf⟩, p2, p3, by omega⟩
  · have hfl := h.full
    obtain ⟨n1, n2, n3, n4⟩ := adN_bd p1 (by rw [hl]; exact h.p2) (by omega)
    obtain ⟨q1, q2, q3, q4, q5⟩ := bld_good (n := adN (putT c a)) (tgK_nodup (putT c a) 1600) tgK_rng n2
    refine ⟨⟨q1, by rw [q5]; exact n1, by rw [q5, q4]; exact n3⟩, fun y hy => ?_, by rw [q3, ← adr_srt p1.rng p1.dst, p3], by rw [q5]; omega⟩
    rw [q2 y hy, tgK_mem, ← p2 y hy]
    exact ⟨fun q => q.2.2, fun q => ⟨by omega, by have := p1.rng y q; omega, q⟩⟩
/-! drop -/
theorem drop_at' {c : List Int} {i : Nat} {a : Int} (h : Gd c) (ha : 0 < a) (hi : c[i]? = some a) :
    Gd (c.set i (-1)) ∧ (∀ y, 0 < y → (y ∈ c.set i (-1) ↔ y ≠ a ∧ y ∈ c)) ∧ adr (c.set i (-1)) + 1 = adr c ∧ usd (c.set i (-1)) = usd c := by
  have hp := (List.getElem?_eq_some_iff.1 hi).1
  have ha1 := cnt_set (p := fun x => decide (0 < x)) (y := -1) hi
  have ha2 := cnt_set (p := fun x => decide (x ≠ 0)) (y := -1) hi
  have e1 : decide (0 < a) = true := by simpa using ha
  have e2 : decide (a ≠ 0) = true := by simp; omega
  rw [e1] at ha1; rw [e2] at ha2
  have h1 : adr (c.set i (-1)) + 1 = adr c := by unfold adr; simpa using ha1
  have h2 : usd (c.set i (-1)) = usd c := by unfold usd; simpa using ha2
  have hcl : ∀ z k, ¬ cl c z k = 0 → ¬ cl (c.set i (-1)) z k = 0 := by
    intro z k q
    unfold cl at q ⊢
    rw [List.length_set]
    rw [List.getD_eq_getElem?_getD] at q ⊢
    by_cases e : i = ps c.length z k
    · rw [← e, List.getElem?_set_self hp]; simp
    · rw [List.getElem?_set_ne e]; exact q
  refine ⟨⟨⟨fun y hy => ?_, fun p q x hx hy h0 => ?_, fun p x hx h0 => ?_⟩, by rw [List.length_set]; exact h.p2, by rw [List.length_set, h2]; exact h.full⟩, fun y hy => ⟨fun q => ?_, fun q => ?_⟩, h1, h2⟩
  · rcases List.mem_or_eq_of_mem_set hy with q | rfl
    · exact h.rng y q
    · omega
  · have hne : ∀ k : Nat, (c.set i (-1))[k]? = some x → c[k]? = some x := by
      intro k hk
      by_cases e : i = k
      · subst e; rw [List.getElem?_set_self hp] at hk; have := Option.some.inj hk; omega
      · rw [List.getElem?_set_ne e] at hk; exact hk
    exact h.dst p q x (hne p hx) (hne q hy) h0
  · by_cases e : i = p
    · subst e; rw [List.getElem?_set_self hp] at hx; have := Option.some.inj hx; omega
    · rw [List.getElem?_set_ne e] at hx
      obtain ⟨k, hk, h3, h4⟩ := h.pth p x hx h0
      exact ⟨k, by rw [List.length_set]; exact hk, by rw [List.length_set]; exact h3, fun q hq => hcl _ _ (h4 q hq)⟩
  · obtain ⟨k, hk, he⟩ := List.mem_iff_getElem.1 q
    have hk' : (c.set i (-1))[k]? = some y := by rw [List.getElem?_eq_getElem hk, he]
    by_cases e : i = k
    · subst e; rw [List.getElem?_set_self hp] at hk'; have := Option.some.inj hk'; omega
    · rw [List.getElem?_set_ne e] at hk'
      refine ⟨?_, List.mem_of_getElem? hk'⟩
      rintro rfl
      exact e (h.dst i k _ hi hk' ha)
  · obtain ⟨k, hk, he⟩ := List.mem_iff_getElem.1 q.2
    have hk' : c[k]? = some y := by rw [List.getElem?_eq_getElem hk, he]
    refine List.mem_of_getElem? (i := k) ?_
    rw [List.getElem?_set_ne, hk']
    rintro rfl
    rw [hi] at hk'
    exact q.1 (Option.some.inj hk').symm
/-! Check -/
def bdGo : List Int → List Int → Nat → Option (Int × Int)
  | _, [], _ => none
  | pre, x :: r, i => if x < -1 ∨ 1600 < x then some ((i : Int), 7) else if 0 < x ∧ x ∈ pre then some ((i : Int), 8) else bdGo (pre ++ [x]) r (i + 1)
def bd2 (c : List Int) : Option Nat := (List.range c.length).find? fun i => decide (0 < c.getD i 0 ∧ fnd c (c.getD i 0) < 0)
def ckS (c : List Int) : Int × Int :=
  if 8192 < c.length then (-1, 3) else if ¬ P2 c.length then (-1, 6) else
  match bdGo [] c 0 with
  | some r => r
  | none => if 3 * c.length < 4 * usd c then (-1, 5) else match bd2 c with | some i => ((i : Int), 6) | none => (0, 0)
theorem ck_long {c : List Int} (h : 8192 < (c.length : Int)) : ckS c = (-1, 3) := by unfold ckS; rw [if_pos (by omega)]
theorem ck_form {c : List Int} (h : ¬ 8192 < (c.length : Int)) (h2 : ¬ P2 c.length) : ckS c = (-1, 6) := by unfold ckS; rw [if_neg (by omega), if_pos h2]
theorem ck_bd {c : List Int} (h2 : P2 c.length) {r : Int × Int} (h : bdGo [] c 0 = some r) : ckS c = r := by
  have := h2.bd
  unfold ckS; rw [if_neg (by omega), if_neg (by simpa using h2), h]
theorem ck_full {c : List Int} (h2 : P2 c.length) (h : bdGo [] c 0 = none) (h3 : 3 * c.length < 4 * usd c) : ckS c = (-1, 5) := by
  have := h2.bd
  unfold ckS; rw [if_neg (by omega), if_neg (by simpa using h2), h]; simp only; rw [if_pos h3]
theorem ck_end {c : List Int} (h2 : P2 c.length) (h : bdGo [] c 0 = none) (h3 : ¬ 3 * c.length < 4 * usd c) : ckS c = match bd2 c with | some i => ((i : Int), 6) | none => (0, 0) := by
  have := h2.bd
  unfold ckS; rw [if_neg (by omega), if_neg (by simpa using h2), h]; simp only; rw [if_neg h3]
theorem bd_init (c : List Int) : bdGo [] c 0 = bdGo (c.take 0) (c.drop 0) 0 := by simp
theorem bd_step {c : List Int} {i : Nat} {x : Int} (hz : bdGo [] c 0 = bdGo (c.take i) (c.drop i) i) (hx : c[i]? = some x) (h1 : ¬ (x < -1 ∨ 1600 < x)) (h2 : ¬ (0 < x ∧ x ∈ c.take i)) : bdGo [] c 0 = bdGo (c.take (i + 1)) (c.drop (i + 1)) (i + 1) := by
  obtain ⟨hk, e⟩ := List.getElem?_eq_some_iff.1 hx
  rw [hz, List.drop_eq_getElem_cons hk, e, bdGo, if_neg h1, if_neg h2, take_snoc' c i x hx]
theorem bd_rng {c : List Int} {i : Nat} {x : Int} (hz : bdGo [] c 0 = bdGo (c.take i) (c.drop i) i) (hx : c[i]? = some x) (h1 : x < -1 ∨ 1600 < x) : bdGo [] c 0 = some ((i : Int), 7) := by
  obtain ⟨hk, e⟩ := List.getElem?_eq_some_iff.1 hx
  rw [hz, List.drop_eq_getElem_cons hk, e, bdGo, if_pos h1]
theorem bd_twice {c : List Int} {i : Nat} {x : Int} (hz : bdGo [] c 0 = bdGo (c.take i) (c.drop i) i) (hx : c[i]? = some x) (h1 : ¬ (x < -1 ∨ 1600 < x)) (h2 : 0 < x ∧ x ∈ c.take i) : bdGo [] c 0 = some ((i : Int), 8) := by
  obtain ⟨hk, e⟩ := List.getElem?_eq_some_iff.1 hx
  rw [hz, List.drop_eq_getElem_cons hk, e, bdGo, if_neg h1, if_pos h2]
theorem bd_done {c : List Int} {i : Nat} (hz : bdGo [] c 0 = bdGo (c.take i) (c.drop i) i) (h : c.length ≤ i) : bdGo [] c 0 = none := by
  rw [hz, List.drop_eq_nil_of_le h]; cases c.take i <;> rfl
theorem bdGo_none : ∀ (r pre : List Int) (i : Nat), (bdGo pre r i = none ↔ (∀ x ∈ r, -1 ≤ x ∧ x ≤ 1600) ∧ (∀ k x, r[k]? = some x → 0 < x → x ∉ pre ∧ x ∉ r.take k))
  | [], pre, i => by simp [bdGo]
  | x :: r, pre, i => by
    unfold bdGo
    by_cases h1 : x < -1 ∨ 1600 < x
    · rw [if_pos h1]
      refine ⟨fun q => (by cases q), fun q => ?_⟩
      have := q.1 x (by simp); omega
    · rw [if_neg h1]
      by_cases h2 : 0 < x ∧ x ∈ pre
      · rw [if_pos h2]
        refine ⟨fun q => (by cases q), fun q => ?_⟩
        exact absurd h2.2 (q.2 0 x (by simp) h2.1).1
      · rw [if_neg h2, bdGo_none r (pre ++ [x]) (i + 1)]
        constructor
        · rintro ⟨q1, q2⟩
          refine ⟨fun y hy => ?_, fun k y hk hy => ?_⟩
          · rcases List.mem_cons.1 hy with rfl | hy
            · omega
            · exact q1 y hy
          · cases k with
            | zero =>
              simp at hk; subst hk
              exact ⟨fun q => h2 ⟨hy, q⟩, by simp⟩
            | succ k =>
              have := q2 k y (by simpa using hk) hy
              refine ⟨fun q => this.1 (by simp [q]), fun q => ?_⟩
              rw [List.take_succ_cons, List.mem_cons] at q
              rcases q with rfl | q
              · exact this.1 (by simp)
              · exact this.2 q
        · rintro ⟨q1, q2⟩
          refine ⟨fun y hy => q1 y (List.mem_cons_of_mem _ hy), fun k y hk hy => ?_⟩
          have := q2 (k + 1) y (by simpa using hk) hy
          rw [List.take_succ_cons, List.mem_cons, not_or] at this
          refine ⟨fun q => ?_, this.2.2⟩
          rcases List.mem_append.1 q with q | q
          · exact this.1 q
          · rw [List.mem_singleton] at q; exact this.2.1 q
theorem bd_iff {c : List Int} : bdGo [] c 0 = none ↔ Rng c ∧ Dst c := by
  rw [bdGo_none]
  refine and_congr Iff.rfl ⟨fun h i j x hi hj h0 => ?_, fun h k x hk h0 => ⟨by simp, fun q => ?_⟩⟩
  · rcases Nat.lt_trichotomy i j with q | q | q
    · refine absurd ?_ (h j x hj h0).2
      obtain ⟨hi1, hi2⟩ := List.getElem?_eq_some_iff.1 hi
      refine List.mem_of_getElem? (i := i) ?_
      rw [List.getElem?_take, if_pos q, hi]
    · exact q
    · refine absurd ?_ (h i x hi h0).2
      refine List.mem_of_getElem? (i := j) ?_
      rw [List.getElem?_take, if_pos q, hj]
  · obtain ⟨i, hi⟩ := List.mem_iff_getElem?.1 q
    rw [List.getElem?_take] at hi
    split at hi
    · have := h i k x hi hk h0; omega
    · cases hi
theorem bd2_none {c : List Int} : bd2 c = none ↔ ∀ (i : Nat) (x : Int), c[i]? = some x → 0 < x → 0 ≤ fnd c x := by
  unfold bd2
  rw [List.find?_range_eq_none]
  constructor
  · intro h i x hx h0
    obtain ⟨hi, e⟩ := List.getElem?_eq_some_iff.1 hx
    have := h i hi
    rw [List.getD_eq_getElem?_getD, hx] at this
    simp at this
    omega
  · intro h i hi
    have := h i _ (List.getElem?_eq_getElem hi)
    rw [List.getD_eq_getElem?_getD, List.getElem?_eq_getElem hi]
    simp
    omega
theorem bd2_at {c : List Int} {i : Nat} {x : Int} (hn : ∀ k, k < i → ∀ y, c[k]? = some y → 0 < y → 0 ≤ fnd c y) (hx : c[i]? = some x) (h0 : 0 < x) (hf : fnd c x < 0) : bd2 c = some i := by
  obtain ⟨hi, e⟩ := List.getElem?_eq_some_iff.1 hx
  unfold bd2
  rw [List.find?_range_eq_some]
  refine ⟨?_, by simpa using hi, fun k hk => ?_⟩
  · rw [List.getD_eq_getElem?_getD, hx]; simp; omega
  · have hkl : k < c.length := by omega
    have := hn k hk _ (List.getElem?_eq_getElem hkl)
    rw [List.getD_eq_getElem?_getD, List.getElem?_eq_getElem hkl]
    simp; omega
theorem bd2_no {c : List Int} {i : Nat} (hn : ∀ k, k < i → ∀ y, c[k]? = some y → 0 < y → 0 ≤ fnd c y) (hi : c.length ≤ i) : bd2 c = none :=
  bd2_none.2 fun k y hk h0 => hn k (by have := (List.getElem?_eq_some_iff.1 hk).1; omega) y hk h0
theorem fnd_pth {c : List Int} {x : Int} (h0 : 0 < x) (h : 0 ≤ fnd c x) : ∃ j, j < c.length ∧ c[ps c.length x j]? = some x ∧ ∀ k, k < j → ¬ cl c x k = 0 := by
  rcases fnd_cases c x (by omega) with ⟨e, _⟩ | ⟨j, hj, e, h1, h2⟩
  · omega
  · exact ⟨j, hj, by rw [cl_get (by omega), h1], fun k hk => (h2 k hk).2⟩
theorem ck_iff {c : List Int} : (ckS c).2 = 0 ↔ Gd c := by
  by_cases h1 : 8192 < c.length
  · rw [ck_long (by omega)]
    exact ⟨fun q => (by cases q), fun q => by have := q.p2.bd; omega⟩
  by_cases h2 : P2 c.length
  · cases h3 : bdGo [] c 0 with
    | some r =>
      rw [ck_bd h2 h3]
      constructor
      · intro q
        exfalso
        have key : ∀ (l pre : List Int) (i : Nat) (r : Int × Int), bdGo pre l i = some r → r.2 ≠ 0 := by
          intro l
          induction l with
          | nil => intro pre i r h; simp [bdGo] at h
          | cons x l ih =>
            intro pre i r h
            unfold bdGo at h
            split at h
            · cases h; simp
            · split at h
              · cases h; simp
              · exact ih _ _ _ h
        exact key _ _ _ _ h3 q
      · intro q
        rw [bd_iff.2 ⟨q.rng, q.dst⟩] at h3; cases h3
    | none =>
      obtain ⟨hr, hd⟩ := bd_iff.1 h3
      by_cases h4 : 3 * c.length < 4 * usd c
      · rw [ck_full h2 h3 h4]
        exact ⟨fun q => (by cases q), fun q => by have := q.full; omega⟩
      · rw [ck_end h2 h3 h4]
        cases h5 : bd2 c with
        | some i =>
          refine ⟨fun q => (by cases q), fun q => ?_⟩
          rw [bd2_none.2 fun i x hx h0 => by rw [(fnd_mem q.toGw h0).1]; exact List.mem_of_getElem? hx] at h5
          cases h5
        | none =>
          refine ⟨fun _ => ⟨⟨hr, hd, fun i x hx h0 => ?_⟩, h2, by omega⟩, fun _ => rfl⟩
          obtain ⟨j, hj, he, hz⟩ := fnd_pth h0 (bd2_none.1 h5 i x hx h0)
          exact ⟨j, hj, hd _ _ x he hx h0, hz⟩
  · rw [ck_form (by omega) h2]
    exact ⟨fun q => (by cases q), fun q => absurd q.p2 h2⟩
end Go.Own.S
