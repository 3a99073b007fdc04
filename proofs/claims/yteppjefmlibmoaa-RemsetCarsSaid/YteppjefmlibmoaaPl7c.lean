import Derived.Test.YteppjefmlibmoaaPl19b
namespace Go.Own.S
open Go Go.Own Go.Own.R
/-- the place of the j-th cell of an address's path. -/
def ps (n : Nat) (a : Int) (j : Nat) : Nat := ((a * 40503).toNat + j) % n
def cl (c : List Int) (a : Int) (j : Nat) : Int := c.getD (ps c.length a j) 0
def fstJ (p : Int → Bool) (c : List Int) (a : Int) : Option Nat := (List.range c.length).find? fun j => p (cl c a j)
theorem ps_lt {n : Nat} (h : 0 < n) (a : Int) (j : Nat) : ps n a j < n := Nat.mod_lt _ h
theorem ps_succ (n : Nat) (a : Int) (j : Nat) : ps n a (j + 1) = (ps n a j + 1) % n := by unfold ps; rw [Nat.mod_add_mod]; rfl
/-- each place is on each path. -/
theorem ps_onto {n : Nat} (hn : 0 < n) (a : Int) {p : Nat} (hp : p < n) : ∃ j, j < n ∧ ps n a j = p := by
  unfold ps
  generalize (a * 40503).toNat = q
  have hr := Nat.mod_lt q hn
  have e : ∀ j, (q + j) % n = (q % n + j) % n := fun j => by rw [Nat.mod_add_mod]
  by_cases h : q % n ≤ p
  · refine ⟨p - q % n, by omega, ?_⟩
    rw [e, show q % n + (p - q % n) = p by omega]; exact Nat.mod_eq_of_lt hp
  · refine ⟨n + p - q % n, by omega, ?_⟩
    rw [e, show q % n + (n + p - q % n) = p + n by omega, Nat.add_mod_right]; exact Nat.mod_eq_of_lt hp
theorem cl_at {c : List Int} {a : Int} {j p : Nat} {y : Int} (hp : ps c.length a j = p) (hy : c[p]? = some y) : cl c a j = y := by
  unfold cl; rw [hp, List.getD_eq_getElem?_getD, hy]; rfl
theorem cl_get {c : List Int} (h : 0 < c.length) (a : Int) (j : Nat) : c[ps c.length a j]? = some (cl c a j) := by
  unfold cl
  rw [List.getD_eq_getElem?_getD, List.getElem?_eq_getElem (ps_lt h a j)]; rfl
theorem fstJ_at {p : Int → Bool} {c : List Int} {a : Int} {j : Nat} (hj : j < c.length) (h1 : ∀ i, i < j → p (cl c a i) = false) (h2 : p (cl c a j) = true) : fstJ p c a = some j := by
  unfold fstJ
  rw [List.find?_range_eq_some]
  exact ⟨h2, by simpa using hj, fun i hi => by simp [h1 i hi]⟩
theorem fstJ_no {p : Int → Bool} {c : List Int} {a : Int} (h : ∀ i, i < c.length → p (cl c a i) = false) : fstJ p c a = none := by
  unfold fstJ
  rw [List.find?_range_eq_none]
  exact fun i hi => by simp [h i hi]
theorem fstJ_some {p : Int → Bool} {c : List Int} {a : Int} {j : Nat} (h : fstJ p c a = some j) : j < c.length ∧ (∀ i, i < j → p (cl c a i) = false) ∧ p (cl c a j) = true := by
  unfold fstJ at h
  rw [List.find?_range_eq_some] at h
  obtain ⟨h1, h2, h3⟩ := h
  exact ⟨by simpa using h2, fun i hi => by simpa using h3 i hi, h1⟩
theorem fstJ_none {p : Int → Bool} {c : List Int} {a : Int} (h : fstJ p c a = none) : ∀ i, i < c.length → p (cl c a i) = false := by
  unfold fstJ at h
  rw [List.find?_range_eq_none] at h
  exact fun i hi => by simpa using h i hi
/-! find -/
def hitF (a x : Int) : Bool := decide (x = a ∨ x = 0)
def fnd (c : List Int) (a : Int) : Int := match fstJ (hitF a) c a with | some j => if cl c a j = a then ((ps c.length a j : Nat) : Int) else -1 | none => -1
theorem hitF_no {a x : Int} (h1 : ¬ x = a) (h2 : ¬ x = 0) : hitF a x = false := by unfold hitF; simp [h1, h2]
theorem hitF_yes {a x : Int} (h : x = a ∨ x = 0) : hitF a x = true := by unfold hitF; simpa using h
theorem hitF_of {a x : Int} (h : hitF a x = false) : ¬ x = a ∧ ¬ x = 0 := by unfold hitF at h; simpa using h
theorem fnd_at {c : List Int} {a : Int} {j : Nat} (hj : j < c.length) (h1 : ∀ i, i < j → ¬ cl c a i = a ∧ ¬ cl c a i = 0) (h2 : cl c a j = a) : fnd c a = ((ps c.length a j : Nat) : Int) := by
  unfold fnd
  rw [fstJ_at hj (fun i hi => hitF_no (h1 i hi).1 (h1 i hi).2) (hitF_yes (.inl h2))]
  simp [h2]
theorem fnd_zero {c : List Int} {a : Int} {j : Nat} (hj : j < c.length) (h1 : ∀ i, i < j → ¬ cl c a i = a ∧ ¬ cl c a i = 0) (h2 : cl c a j = 0) (h3 : ¬ cl c a j = a) : fnd c a = -1 := by
  unfold fnd
  rw [fstJ_at hj (fun i hi => hitF_no (h1 i hi).1 (h1 i hi).2) (hitF_yes (.inr h2))]
  simp [h3]
theorem fnd_none {c : List Int} {a : Int} (h1 : ∀ i, i < c.length → ¬ cl c a i = a ∧ ¬ cl c a i = 0) : fnd c a = -1 := by
  unfold fnd
  rw [fstJ_no (fun i hi => hitF_no (h1 i hi).1 (h1 i hi).2)]
theorem fnd_cases (c : List Int) (a : Int) (ha : a ≠ 0) : (fnd c a = -1 ∧ ∀ j, j < c.length → (∀ i, i < j → ¬ cl c a i = 0) → ¬ cl c a j = a) ∨ (∃ j, j < c.length ∧ fnd c a = ((ps c.length a j : Nat) : Int) ∧ cl c a j = a ∧ ∀ i, i < j → ¬ cl c a i = a ∧ ¬ cl c a i = 0) := by
  cases e : fstJ (hitF a) c a with
  | none =>
    have h := fstJ_none e
    exact .inl ⟨fnd_none fun i hi => hitF_of (h i hi), fun j hj _ => (hitF_of (h j hj)).1⟩
  | some j =>
    obtain ⟨h1, h2, h3⟩ := fstJ_some e
    have h2 : ∀ i, i < j → ¬ cl c a i = a ∧ ¬ cl c a i = 0 := fun i hi => hitF_of (h2 i hi)
    by_cases q : cl c a j = a
    · exact .inr ⟨j, h1, fnd_at h1 h2 q, q, h2⟩
    · have h0 : cl c a j = 0 := by
        unfold hitF at h3; simp at h3; exact h3.resolve_left q
      refine .inl ⟨fnd_zero h1 h2 h0 q, fun k hk hz => ?_⟩
      rcases Nat.lt_trichotomy k j with hl | he | hg
      · exact (h2 k hl).1
      · subst he; exact q
      · exact absurd h0 (hz j hg)
theorem fnd_bd {c : List Int} (h : 0 < c.length) (a : Int) : -1 ≤ fnd c a ∧ fnd c a < c.length := by
  unfold fnd
  split
  · rename_i j _
    have := ps_lt h a j
    split <;> omega
  · omega
/-! put -/
def frB (x : Int) : Bool := decide (x ≤ 0)
def putT (c : List Int) (a : Int) : List Int := match fstJ frB c a with | some j => c.set (ps c.length a j) a | none => c
theorem putT_at {c : List Int} {a : Int} {j : Nat} (hj : j < c.length) (h1 : ∀ i, i < j → ¬ cl c a i ≤ 0) (h2 : cl c a j ≤ 0) : putT c a = c.set (ps c.length a j) a := by
  unfold putT
  rw [fstJ_at hj (fun i hi => by unfold frB; simpa using h1 i hi) (by unfold frB; simpa using h2)]
theorem putT_none {c : List Int} {a : Int} (h1 : ∀ i, i < c.length → ¬ cl c a i ≤ 0) : putT c a = c := by
  unfold putT
  rw [fstJ_no (fun i hi => by unfold frB; simpa using h1 i hi)]
theorem putT_len (c : List Int) (a : Int) : (putT c a).length = c.length := by
  unfold putT; split <;> simp
theorem putT_free {c : List Int} {a : Int} (h : ∃ x ∈ c, x ≤ 0) : ∃ j, j < c.length ∧ (∀ i, i < j → 0 < cl c a i) ∧ cl c a j ≤ 0 ∧ putT c a = c.set (ps c.length a j) a := by
  obtain ⟨x, hx, h0⟩ := h
  obtain ⟨p, hp, rfl⟩ := List.mem_iff_getElem.1 hx
  have hn : 0 < c.length := by omega
  cases e : fstJ frB c a with
  | none =>
    obtain ⟨j, hj, hjp⟩ := ps_onto hn a hp
    have := fstJ_none e j hj
    rw [cl_at hjp (List.getElem?_eq_getElem hp)] at this
    unfold frB at this; simp at this; omega
  | some j =>
    obtain ⟨h1, h2, h3⟩ := fstJ_some e
    have h2 : ∀ i, i < j → 0 < cl c a i := fun i hi => by have := h2 i hi; unfold frB at this; simp at this; omega
    have h3 : cl c a j ≤ 0 := by unfold frB at h3; simpa using h3
    exact ⟨j, h1, h2, h3, putT_at h1 (fun i hi => by have := h2 i hi; omega) h3⟩
/-! counts -/
def usd (c : List Int) : Nat := c.countP fun x => decide (x ≠ 0)
def adr (c : List Int) : Nat := c.countP fun x => decide (0 < x)
theorem adr_usd (c : List Int) : adr c ≤ usd c := List.countP_mono_left fun x _ h => by simp at h ⊢; omega
theorem usd_le (c : List Int) : usd c ≤ c.length := List.countP_le_length
theorem cnt_set {p : Int → Bool} : ∀ {c : List Int} {i : Nat} {x y : Int}, c[i]? = some x → (c.set i y).countP p + (if p x then 1 else 0) = c.countP p + (if p y then 1 else 0)
  | [], i, x, y, h => by simp at h
  | z :: c, 0, x, y, h => by
    simp at h; subst h
    rw [List.set_cons_zero, List.countP_cons, List.countP_cons]; omega
  | z :: c, i + 1, x, y, h => by
    have h2 : c[i]? = some x := by simpa using h
    have := cnt_set (p := p) (y := y) h2
    rw [List.set_cons_succ, List.countP_cons, List.countP_cons]; omega
theorem free_of {c : List Int} (h : adr c < c.length) : ∃ x ∈ c, x ≤ 0 := by
  apply Classical.byContradiction
  intro q
  have : adr c = c.length := List.countP_eq_length.2 fun x hx => by
    have : ¬ x ≤ 0 := fun r => q ⟨x, hx, r⟩
    simp; omega
  omega
/-! tables -/
def Rng (c : List Int) : Prop := ∀ x ∈ c, -1 ≤ x ∧ x ≤ 1600
def Dst (c : List Int) : Prop := ∀ (i j : Nat) (x : Int), c[i]? = some x → c[j]? = some x → 0 < x → i = j
def Pth (c : List Int) : Prop := ∀ (i : Nat) (x : Int), c[i]? = some x → 0 < x → ∃ j, j < c.length ∧ ps c.length x j = i ∧ ∀ k, k < j → ¬ cl c x k = 0
structure Gw (c : List Int) : Prop where
  rng : Rng c
  dst : Dst c
  pth : Pth c
theorem fnd_mem {c : List Int} (h : Gw c) {a : Int} (ha : 0 < a) : (0 ≤ fnd c a ↔ a ∈ c) ∧ (∀ i : Nat, c[i]? = some a → fnd c a = (i : Int)) ∧ (0 ≤ fnd c a → c[(fnd c a).toNat]? = some a) ∧ (fnd c a < 0 → fnd c a = -1) := by
  have hat : ∀ i : Nat, c[i]? = some a → fnd c a = (i : Int) := by
    intro i hi
    obtain ⟨j, hj, hp, hz⟩ := h.pth i a hi ha
    have hc : cl c a j = a := cl_at hp hi
    rcases fnd_cases c a (by omega) with ⟨_, q⟩ | ⟨k, hk, e, hq, hr⟩
    · exact absurd hc (q j hj hz)
    · have hg : c[ps c.length a k]? = some a := by rw [cl_get (by omega), hq]
      have := h.dst _ _ a hi hg ha
      rw [e, ← this]
  have hmem : 0 ≤ fnd c a → c[(fnd c a).toNat]? = some a := by
    intro q
    rcases fnd_cases c a (by omega) with ⟨e, _⟩ | ⟨k, hk, e, hq, hr⟩
    · omega
    · rw [e, Int.toNat_natCast, cl_get (by omega), hq]
  refine ⟨⟨fun q => List.mem_of_getElem? (hmem q), fun q => ?_⟩, hat, hmem, fun q => ?_⟩
  · obtain ⟨i, hi, he⟩ := List.mem_iff_getElem.1 q
    rw [hat i (by rw [List.getElem?_eq_getElem hi, he])]; omega
  · rcases fnd_cases c a (by omega) with ⟨e, _⟩ | ⟨k, hk, e, hq, hr⟩
    · exact e
    · omega
/-- a free cell turned into an address that was not there. -/
theorem put_at {c : List Int} {a : Int} {j : Nat} {x : Int} (h : Gw c) (ha : 1 ≤ a ∧ a ≤ 1600) (hn : a ∉ c) (hj : j < c.length) (h1 : ∀ i, i < j → 0 < cl c a i) (hx : c[ps c.length a j]? = some x) (h0 : x ≤ 0) :
    Gw (c.set (ps c.length a j) a) ∧ (∀ y, 0 < y → (y ∈ c.set (ps c.length a j) a ↔ y = a ∨ y ∈ c)) ∧ adr (c.set (ps c.length a j) a) = adr c + 1 ∧ usd (c.set (ps c.length a j) a) = usd c + (if x = 0 then 1 else 0) := by
  have hp := (List.getElem?_eq_some_iff.1 hx).1
  generalize hpe : ps c.length a j = p at *
  have hmem : ∀ y, 0 < y → (y ∈ c.set p a ↔ y = a ∨ y ∈ c) := by
    intro y hy
    constructor
    · intro q; exact (List.mem_or_eq_of_mem_set q).symm
    · rintro (rfl | q)
      · exact List.mem_of_getElem? (List.getElem?_set_self hp)
      · obtain ⟨i, hi, he⟩ := List.mem_iff_getElem.1 q
        have hip : i ≠ p := by
          rintro rfl
          rw [List.getElem?_eq_getElem hi] at hx
          have := Option.some.inj hx; omega
        refine List.mem_of_getElem? (i := i) ?_
        rw [List.getElem?_set_ne (Ne.symm hip), List.getElem?_eq_getElem hi, he]
  have ha1 := cnt_set (p := fun x => decide (0 < x)) (y := a) hx
  have ha2 := cnt_set (p := fun x => decide (x ≠ 0)) (y := a) hx
  refine ⟨⟨fun y hy => ?_, ?_, ?_⟩, hmem, ?_, ?_⟩
  · rcases List.mem_or_eq_of_mem_set hy with q | rfl
    · exact h.rng y q
    · omega
  · intro i k y hi hk hy
    by_cases e1 : p = i <;> by_cases e2 : p = k
    · omega
    · subst e1
      rw [List.getElem?_set_self hp] at hi; rw [List.getElem?_set_ne e2] at hk
      obtain rfl := Option.some.inj hi
      exact absurd (List.mem_of_getElem? hk) hn
    · subst e2
      rw [List.getElem?_set_self hp] at hk; rw [List.getElem?_set_ne e1] at hi
      obtain rfl := Option.some.inj hk
      exact absurd (List.mem_of_getElem? hi) hn
    · rw [List.getElem?_set_ne e1] at hi; rw [List.getElem?_set_ne e2] at hk
      exact h.dst i k y hi hk hy
  · intro i y hi hy
    have hcl : ∀ z k, ¬ cl c z k = 0 → ¬ cl (c.set p a) z k = 0 := by
      intro z k q
      unfold cl at q ⊢
      rw [List.length_set]
      rw [List.getD_eq_getElem?_getD] at q ⊢
      by_cases e : p = ps c.length z k
      · rw [← e, List.getElem?_set_self hp]; simp; omega
      · rw [List.getElem?_set_ne e]; exact q
    by_cases e : p = i
    · subst e
      rw [List.getElem?_set_self hp] at hi
      obtain rfl := Option.some.inj hi
      refine ⟨j, by rw [List.length_set]; exact hj, by rw [List.length_set]; exact hpe, fun k hk => hcl _ _ (by have := h1 k hk; omega)⟩
    · rw [List.getElem?_set_ne e] at hi
      obtain ⟨k, hk, h2, h3⟩ := h.pth i y hi hy
      exact ⟨k, by rw [List.length_set]; exact hk, by rw [List.length_set]; exact h2, fun q hq => hcl _ _ (h3 q hq)⟩
  · unfold adr
    have e1 : decide (0 < x) = false := by simp; omega
    have e2 : decide (0 < a) = true := by simp; omega
    rw [e1, e2] at ha1
    simpa using ha1
  · unfold usd
    have e2 : decide (a ≠ 0) = true := by simp; omega
    rw [e2] at ha2
    by_cases q : x = 0
    · simp [q] at ha2 ⊢; omega
    · simp [q] at ha2 ⊢; omega
theorem put_good {c : List Int} {a : Int} (h : Gw c) (ha : 1 ≤ a ∧ a ≤ 1600) (hn : a ∉ c) (hf : adr c < c.length) :
    Gw (putT c a) ∧ (∀ y, 0 < y → (y ∈ putT c a ↔ y = a ∨ y ∈ c)) ∧ adr (putT c a) = adr c + 1 ∧ usd (putT c a) ≤ usd c + 1 ∧ (usd c = adr c → usd (putT c a) = adr (putT c a)) := by
  obtain ⟨j, hj, h1, h2, e⟩ := putT_free (a := a) (free_of hf)
  have hx := cl_get (c := c) (by omega) a j
  obtain ⟨q1, q2, q3, q4⟩ := put_at h ha hn hj h1 hx h2
  rw [e]
  refine ⟨q1, q2, q3, by rw [q4]; split <;> omega, fun r => ?_⟩
  have hm := adr_usd (c.set (ps c.length a j) a)
  rw [q3, q4] at hm ⊢
  split at hm <;> rename_i z
  · rw [if_pos z]; omega
  · omega
end Go.Own.S

namespace Go.Own.S
open Go Go.Own Go.Own.R
/-! lengths -/
def P2 (n : Nat) : Prop := n = 8 ∨ n = 16 ∨ n = 32 ∨ n = 64 ∨ n = 128 ∨ n = 256 ∨ n = 512 ∨ n = 1024 ∨ n = 2048 ∨ n = 4096 ∨ n = 8192
instance (n : Nat) : Decidable (P2 n) := by unfold P2; infer_instance
theorem P2.bd {n : Nat} (h : P2 n) : 8 ≤ n ∧ n ≤ 8192 := by unfold P2 at h; omega
theorem and_p2 {x n : Nat} (h : P2 n) : x &&& (n - 1) = x % n := by
  rcases h with rfl | rfl | rfl | rfl | rfl | rfl | rfl | rfl | rfl | rfl | rfl
  · exact Nat.and_two_pow_sub_one_eq_mod x 3
  · exact Nat.and_two_pow_sub_one_eq_mod x 4
  · exact Nat.and_two_pow_sub_one_eq_mod x 5
  · exact Nat.and_two_pow_sub_one_eq_mod x 6
  · exact Nat.and_two_pow_sub_one_eq_mod x 7
  · exact Nat.and_two_pow_sub_one_eq_mod x 8
  · exact Nat.and_two_pow_sub_one_eq_mod x 9
  · exact Nat.and_two_pow_sub_one_eq_mod x 10
  · exact Nat.and_two_pow_sub_one_eq_mod x 11
  · exact Nat.and_two_pow_sub_one_eq_mod x 12
  · exact Nat.and_two_pow_sub_one_eq_mod x 13
theorem p2_all : ∀ (k : _root_.Fin 129) (n : _root_.Fin 64), 8 ≤ 64 * k.val + n.val → 64 * k.val + n.val ≤ 8192 → (((64 * k.val + n.val) &&& (64 * k.val + n.val - 1) = 0) ↔ P2 (64 * k.val + n.val)) := by decide +kernel
theorem p2_and {n : Nat} (h1 : 8 ≤ n) (h2 : n ≤ 8192) : (n &&& (n - 1) = 0) ↔ P2 n := by
  have := p2_all ⟨n / 64, by omega⟩ ⟨n % 64, by omega⟩
  simp only [show 64 * (n / 64) + n % 64 = n by omega] at this
  exact this h1 h2
/-! the addresses, ascending -/
theorem Dst.pw {c : List Int} (h : Dst c) : c.Pairwise fun x y => 0 < x → x ≠ y := by
  rw [List.pairwise_iff_getElem]
  intro i j hi hj hij hx e
  have := h i j _ (List.getElem?_eq_getElem hi) (by rw [e]; exact List.getElem?_eq_getElem hj) hx
  omega
theorem Dst.nodup {c : List Int} (h : Dst c) : (c.filter fun x => decide (0 < x)).Nodup := by
  have h1 := List.Pairwise.filter (fun x => decide (0 < x)) h.pw
  exact h1.imp_of_mem fun {a b} ha _ hab => hab (by simpa using (List.mem_filter.1 ha).2)
theorem sort_strict {l : List Int} (h : l.Nodup) : (sortL l).Pairwise (· < ·) := by
  have h1 := sortL_asc l
  have h2 : (sortL l).Nodup := (List.mergeSort_perm l _).nodup_iff.2 h
  exact (h1.and h2).imp fun ⟨a, b⟩ => by omega
theorem srt_eq {c : List Int} (hr : Rng c) (hd : Dst c) : sortL (c.filter fun x => decide (0 < x)) = tgK c 1600 := by
  refine asc_unique (sort_strict hd.nodup) (tgK_asc c 1600) fun a => ?_
  rw [sortL_mem, tgK_mem, List.mem_filter]
  constructor
  · rintro ⟨h1, h2⟩
    have := hr a h1
    have h2 : 0 < a := by simpa using h2
    exact ⟨by omega, by omega, h1⟩
  · rintro ⟨h1, h2, h3⟩
    exact ⟨h3, by simp; omega⟩
theorem adr_srt {c : List Int} (hr : Rng c) (hd : Dst c) : adr c = (tgK c 1600).length := by
  rw [← srt_eq hr hd, sortL_len, adr, List.countP_eq_length_filter]
theorem adr_le {c : List Int} (hr : Rng c) (hd : Dst c) : adr c ≤ 1600 := by rw [adr_srt hr hd]; exact tgK_len c 1600
/-! building anew -/
theorem put_fold : ∀ (l : List Int) (c : List Int), Gw c → l.Nodup → (∀ x ∈ l, (1 ≤ x ∧ x ≤ 1600) ∧ x ∉ c) → adr c + l.length ≤ c.length → usd c = adr c →
    Gw (l.foldl putT c) ∧ (∀ y, 0 < y → (y ∈ l.foldl putT c ↔ y ∈ l ∨ y ∈ c)) ∧ adr (l.foldl putT c) = adr c + l.length ∧ usd (l.foldl putT c) = adr c + l.length ∧ (l.foldl putT c).length = c.length
  | [], c, h, _, _, _, hu => ⟨h, fun y _ => by simp, rfl, hu, rfl⟩
  | a :: l, c, h, hn, hx, hf, hu => by
    rw [List.nodup_cons] at hn
    rw [List.length_cons] at hf
    obtain ⟨h1, h2⟩ := hx a (by simp)
    obtain ⟨p1, p2, p3, p4, p5⟩ := put_good h h1 h2 (by omega)
    have hl := putT_len c a
    obtain ⟨q1, q2, q3, q4, q5⟩ := put_fold l (putT c a) p1 hn.2 (fun x hq => by
      have h3 := hx x (List.mem_cons_of_mem _ hq)
      refine ⟨h3.1, fun hm => ?_⟩
      rcases (p2 x (by omega)).1 hm with rfl | hm
      · exact hn.1 hq
      · exact h3.2 hm) (by omega) (p5 hu)
    refine ⟨q1, fun y hy => ?_, by rw [List.foldl_cons, q3, p3, List.length_cons]; omega, by rw [List.foldl_cons, q4, p3, List.length_cons]; omega, by rw [List.foldl_cons, q5, hl]⟩
    rw [List.foldl_cons, q2 y hy, p2 y hy, List.mem_cons]
    constructor
    · rintro (h | h | h)
      · exact .inl (.inr h)
      · exact .inl (.inl h)
      · exact .inr h
    · rintro ((h | h) | h)
      · exact .inr (.inl h)
      · exact .inl h
      · exact .inr (.inr h)
def bld (n : Nat) (l : List Int) : List Int := l.foldl putT (List.replicate n 0)
theorem zer_no {n : Nat} {x : Int} (h : 0 < x) : x ∉ List.replicate n (0 : Int) := fun q => by
  have := List.eq_of_mem_replicate q; omega
theorem zer_at {n i : Nat} {x : Int} (h : (List.replicate n (0 : Int))[i]? = some x) : x = 0 := List.eq_of_mem_replicate (List.mem_of_getElem? h)
theorem zer_gw (n : Nat) : Gw (List.replicate n (0 : Int)) :=
  ⟨fun x hx => by have := List.eq_of_mem_replicate hx; omega, fun i j x hi _ h0 => by have := zer_at hi; omega, fun i x hi h0 => by have := zer_at hi; omega⟩
theorem zer_adr (n : Nat) : adr (List.replicate n (0 : Int)) = 0 := by
  unfold adr; rw [List.countP_eq_zero]; intro x hx; have := List.eq_of_mem_replicate hx; simp; omega
theorem zer_usd (n : Nat) : usd (List.replicate n (0 : Int)) = 0 := by
  unfold usd; rw [List.countP_eq_zero]; intro x hx; have := List.eq_of_mem_replicate hx; simp; omega
theorem bld_good {n : Nat} {l : List Int} (hn : l.Nodup) (hx : ∀ x ∈ l, 1 ≤ x ∧ x ≤ 1600) (hl : l.length ≤ n) :
    Gw (bld n l) ∧ (∀ y, 0 < y → (y ∈ bld n l ↔ y ∈ l)) ∧ adr (bld n l) = l.length ∧ usd (bld n l) = l.length ∧ (bld n l).length = n := by
  obtain ⟨q1, q2, q3, q4, q5⟩ := put_fold l (List.replicate n 0) (zer_gw n) hn (fun x h => ⟨hx x h, zer_no (by have := hx x h; omega)⟩) (by rw [zer_adr, List.length_replicate]; omega) (by rw [zer_adr, zer_usd])
  refine ⟨q1, fun y hy => ?_, by unfold bld; rw [q3, zer_adr]; omega, by unfold bld; rw [q4, zer_adr]; omega, by unfold bld; rw [q5, List.length_replicate]⟩
  unfold bld
  rw [q2 y hy]
  exact ⟨fun h => h.resolve_right (zer_no hy), .inl⟩
theorem bld_take {n : Nat} {l : List Int} {k : Nat} {y : Int} (hy : l[k]? = some y) : putT (bld n (l.take k)) y = bld n (l.take (k + 1)) := by
  unfold bld; rw [take_snoc' l k y hy, List.foldl_append]; rfl
theorem tgK_nodup (c : List Int) (k : Nat) : (tgK c k).Nodup := (tgK_asc c k).imp fun h => by omega
theorem tgK_rng {c : List Int} : ∀ x ∈ tgK c 1600, 1 ≤ x ∧ x ≤ 1600 := fun x hx => by have := tgK_mem.1 hx; omega
/-- what holds of a part of the way: the free cell for the next one. -/
theorem bld_part {n : Nat} {c : List Int} {k : Nat} (hl : (tgK c 1600).length ≤ n) (hk : k ≤ (tgK c 1600).length) : (bld n ((tgK c 1600).take k)).length = n ∧ adr (bld n ((tgK c 1600).take k)) = k ∧ Gw (bld n ((tgK c 1600).take k)) := by
  have h1 : ((tgK c 1600).take k).length = k := by rw [List.length_take]; omega
  obtain ⟨q1, _, q3, _, q5⟩ := bld_good (n := n) (l := (tgK c 1600).take k) ((tgK_nodup c 1600).sublist (List.take_sublist k _)) (fun x hx => tgK_rng x (List.mem_of_mem_take hx)) (by omega)
  exact ⟨q5, by rw [q3, h1], q1⟩
/-! add -/
def adN (c : List Int) : Nat := if 3 * c.length < 8 * adr c then 2 * c.length else c.length
def addT (c : List Int) (a : Int) : List Int := if 4 * usd (putT c a) ≤ 3 * (putT c a).length then putT c a else bld (adN (putT c a)) (tgK (putT c a) 1600)
structure Gd (c : List Int) : Prop extends Gw c where
  p2 : P2 c.length
  full : 4 * usd c ≤ 3 * c.length
theorem Gd.bd {c : List Int} (h : Gd c) : 8 ≤ c.length ∧ c.length ≤ 8192 ∧ usd c < c.length ∧ adr c < c.length := by
  have := h.p2.bd; have := h.full; have := adr_usd c; omega
theorem adN_bd {c : List Int} (hw : Gw c) (hp : P2 c.length) (hu : 4 * usd c ≤ 3 * c.length + 4) : P2 (adN c) ∧ (tgK c 1600).length ≤ adN c ∧ 4 * (tgK c 1600).length ≤ 3 * adN c ∧ (c.length ≤ adN c) := by
  have h1 := adr_le hw.rng hw.dst
  have h2 := adr_usd c
  have h3 := hp.bd
  rw [← adr_srt hw.rng hw.dst]
  unfold adN
  split
  · refine ⟨?_, by omega, by omega, by omega⟩
    unfold P2 at hp ⊢; omega
  · exact ⟨hp, by omega, by omega, by omega⟩
theorem add_good {c : List Int} {a : Int} (h : Gd c) (ha : 1 ≤ a ∧ a ≤ 1600) (hn : a ∉ c) :
    Gd (addT c a) ∧ (∀ y, 0 < y → (y ∈ addT c a ↔ y = a ∨ y ∈ c)) ∧ adr (addT c a) = adr c + 1 ∧ c.length ≤ (addT c a).length := by
  obtain ⟨b1, b2, b3, b4⟩ := h.bd
  obtain ⟨p1, p2, p3, p4, p5⟩ := put_good h.toGw ha hn b4
  have hl := putT_len c a
  unfold addT
  split
  · rename_i hf
    exact ⟨⟨p1, by rw [hl]; exact h.p2, hf⟩, p2, p3, by omega⟩
  · have hfl := h.full
    obtain ⟨n1, n2, n3, n4⟩ := adN_bd p1 (by rw [hl]; exact h.p2) (by omega)
    obtain ⟨q1, q2, q3, q4, q5⟩ := bld_good (n := adN (putT c a)) (tgK_nodup (putT c a) 1600) tgK_rng n2
    refine ⟨⟨q1, by rw [q5]; exact n1, by rw [q5, q4]; exact n3⟩, fun y hy => ?_, by rw [q3, ← adr_srt p1.rng p1.dst, p3], by rw [q5]; omega⟩
    rw [q2 y hy, tgK_mem, ← p2 y hy]
    exact ⟨fun q => q.2.2, fun q => ⟨by omega, by have := p1.rng y q; omega, q⟩⟩
/-! drop -/
theorem drop_at' {c : List Int} {i : Nat} {a : Int} (h : Gd c) (ha : 0 < a) (hi : c[i]? = some a) :
    Gd (c.set i (-1)) ∧ (∀ y, 0 < y → (y ∈ c.set i (-1) ↔ y ≠ a ∧ y ∈ c)) ∧ adr (c.set i (-1)) + 1 = adr c ∧ usd (c.set i (-1)) = usd c := by
  have hp := (List.getElem?_eq_some_iff.1 hi).1
  have ha1 := cnt_set (p := fun x => decide (0 < x)) (y := -1) hi
  have ha2 := cnt_set (p := fun x => decide (x ≠ 0)) (y := -1) hi
  have e1 : decide (0 < a) = true := by simpa using ha
  have e2 : decide (a ≠ 0) = true := by simp; omega
  rw [e1] at ha1; rw [e2] at ha2
  have h1 : adr (c.set i (-1)) + 1 = adr c := by unfold adr; simpa using ha1
  have h2 : usd (c.set i (-1)) = usd c := by unfold usd; simpa using ha2
  have hcl : ∀ z k, ¬ cl c z k = 0 → ¬ cl (c.set i (-1)) z k = 0 := by
    intro z k q
    unfold cl at q ⊢
    rw [List.length_set]
    rw [List.getD_eq_getElem?_getD] at q ⊢
    by_cases e : i = ps c.length z k
    · rw [← e, List.getElem?_set_self hp]; simp
    · rw [List.getElem?_set_ne e]; exact q
  refine ⟨⟨⟨fun y hy => ?_, fun p q x hx hy h0 => ?_, fun p x hx h0 => ?_⟩, by rw [List.length_set]; exact h.p2, by rw [List.length_set, h2]; exact h.full⟩, fun y hy => ⟨fun q => ?_, fun q => ?_⟩, h1, h2⟩
  · rcases List.mem_or_eq_of_mem_set hy with q | rfl
    · exact h.rng y q
    · omega
  · have hne : ∀ k : Nat, (c.set i (-1))[k]? = some x → c[k]? = some x := by
      intro k hk
      by_cases e : i = k
      · subst e; rw [List.getElem?_set_self hp] at hk; have := Option.some.inj hk; omega
      · rw [List.getElem?_set_ne e] at hk; exact hk
    exact h.dst p q x (hne p hx) (hne q hy) h0
  · by_cases e : i = p
    · subst e; rw [List.getElem?_set_self hp] at hx; have := Option.some.inj hx; omega
    · rw [List.getElem?_set_ne e] at hx
      obtain ⟨k, hk, h3, h4⟩ := h.pth p x hx h0
      exact ⟨k, by rw [List.length_set]; exact hk, by rw [List.length_set]; exact h3, fun q hq => hcl _ _ (h4 q hq)⟩
  · obtain ⟨k, hk, he⟩ := List.mem_iff_getElem.1 q
    have hk' : (c.set i (-1))[k]? = some y := by rw [List.getElem?_eq_getElem hk, he]
    by_cases e : i = k
    · subst e; rw [List.getElem?_set_self hp] at hk'; have := Option.some.inj hk'; omega
    · rw [List.getElem?_set_ne e] at hk'
      refine ⟨?_, List.mem_of_getElem? hk'⟩
      rintro rfl
      exact e (h.dst i k _ hi hk' ha)
  · obtain ⟨k, hk, he⟩ := List.mem_iff_getElem.1 q.2
    have hk' : c[k]? = some y := by rw [List.getElem?_eq_getElem hk, he]
    refine List.mem_of_getElem? (i := k) ?_
    rw [List.getElem?_set_ne, hk']
    rintro rfl
    rw [hi] at hk'
    exact q.1 (Option.some.inj hk').symm
/-! Check -/
def bdGo : List Int → List Int → Nat → Option (Int × Int)
  | _, [], _ => none
  | pre, x :: r, i => if x < -1 ∨ 1600 < x then some ((i : Int), 7) else if 0 < x ∧ x ∈ pre then some ((i : Int), 8) else bdGo (pre ++ [x]) r (i + 1)
def bd2 (c : List Int) : Option Nat := (List.range c.length).find? fun i => decide (0 < c.getD i 0 ∧ fnd c (c.getD i 0) < 0)
def ckS (c : List Int) : Int × Int :=
  if 8192 < c.length then (-1, 3) else if ¬ P2 c.length then (-1, 6) else
  match bdGo [] c 0 with
  | some r => r
  | none => if 3 * c.length < 4 * usd c then (-1, 5) else match bd2 c with | some i => ((i : Int), 6) | none => (0, 0)
theorem ck_long {c : List Int} (h : 8192 < (c.length : Int)) : ckS c = (-1, 3) := by unfold ckS; rw [if_pos (by omega)]
theorem ck_form {c : List Int} (h : ¬ 8192 < (c.length : Int)) (h2 : ¬ P2 c.length) : ckS c = (-1, 6) := by unfold ckS; rw [if_neg (by omega), if_pos h2]
theorem ck_bd {c : List Int} (h2 : P2 c.length) {r : Int × Int} (h : bdGo [] c 0 = some r) : ckS c = r := by
  have := h2.bd
  unfold ckS; rw [if_neg (by omega), if_neg (by simpa using h2), h]
theorem ck_full {c : List Int} (h2 : P2 c.length) (h : bdGo [] c 0 = none) (h3 : 3 * c.length < 4 * usd c) : ckS c = (-1, 5) := by
  have := h2.bd
  unfold ckS; rw [if_neg (by omega), if_neg (by simpa using h2), h]; simp only; rw [if_pos h3]
theorem ck_end {c : List Int} (h2 : P2 c.length) (h : bdGo [] c 0 = none) (h3 : ¬ 3 * c.length < 4 * usd c) : ckS c = match bd2 c with | some i => ((i : Int), 6) | none => (0, 0) := by
  have := h2.bd
  unfold ckS; rw [if_neg (by omega), if_neg (by simpa using h2), h]; simp only; rw [if_neg h3]
theorem bd_init (c : List Int) : bdGo [] c 0 = bdGo (c.take 0) (c.drop 0) 0 := by simp
theorem bd_step {c : List Int} {i : Nat} {x : Int} (hz : bdGo [] c 0 = bdGo (c.take i) (c.drop i) i) (hx : c[i]? = some x) (h1 : ¬ (x < -1 ∨ 1600 < x)) (h2 : ¬ (0 < x ∧ x ∈ c.take i)) : bdGo [] c 0 = bdGo (c.take (i + 1)) (c.drop (i + 1)) (i + 1) := by
  obtain ⟨hk, e⟩ := List.getElem?_eq_some_iff.1 hx
  rw [hz, List.drop_eq_getElem_cons hk, e, bdGo, if_neg h1, if_neg h2, take_snoc' c i x hx]
theorem bd_rng {c : List Int} {i : Nat} {x : Int} (hz : bdGo [] c 0 = bdGo (c.take i) (c.drop i) i) (hx : c[i]? = some x) (h1 : x < -1 ∨ 1600 < x) : bdGo [] c 0 = some ((i : Int), 7) := by
  obtain ⟨hk, e⟩ := List.getElem?_eq_some_iff.1 hx
  rw [hz, List.drop_eq_getElem_cons hk, e, bdGo, if_pos h1]
theorem bd_twice {c : List Int} {i : Nat} {x : Int} (hz : bdGo [] c 0 = bdGo (c.take i) (c.drop i) i) (hx : c[i]? = some x) (h1 : ¬ (x < -1 ∨ 1600 < x)) (h2 : 0 < x ∧ x ∈ c.take i) : bdGo [] c 0 = some ((i : Int), 8) := by
  obtain ⟨hk, e⟩ := List.getElem?_eq_some_iff.1 hx
  rw [hz, List.drop_eq_getElem_cons hk, e, bdGo, if_neg h1, if_pos h2]
theorem bd_done {c : List Int} {i : Nat} (hz : bdGo [] c 0 = bdGo (c.take i) (c.drop i) i) (h : c.length ≤ i) : bdGo [] c 0 = none := by
  rw [hz, List.drop_eq_nil_of_le h]; cases c.take i <;> rfl
theorem bdGo_none : ∀ (r pre : List Int) (i : Nat), (bdGo pre r i = none ↔ (∀ x ∈ r, -1 ≤ x ∧ x ≤ 1600) ∧ (∀ k x, r[k]? = some x → 0 < x → x ∉ pre ∧ x ∉ r.take k))
  | [], pre, i => by simp [bdGo]
  | x :: r, pre, i => by
    unfold bdGo
    by_cases h1 : x < -1 ∨ 1600 < x
    · rw [if_pos h1]
      refine ⟨fun q => (by cases q), fun q => ?_⟩
      have := q.1 x (by simp); omega
    · rw [if_neg h1]
      by_cases h2 : 0 < x ∧ x ∈ pre
      · rw [if_pos h2]
        refine ⟨fun q => (by cases q), fun q => ?_⟩
        exact absurd h2.2 (q.2 0 x (by simp) h2.1).1
      · rw [if_neg h2, bdGo_none r (pre ++ [x]) (i + 1)]
        constructor
        · rintro ⟨q1, q2⟩
          refine ⟨fun y hy => ?_, fun k y hk hy => ?_⟩
          · rcases List.mem_cons.1 hy with rfl | hy
            · omega
            · exact q1 y hy
          · cases k with
            | zero =>
              simp at hk; subst hk
              exact ⟨fun q => h2 ⟨hy, q⟩, by simp⟩
            | succ k =>
              have := q2 k y (by simpa using hk) hy
              refine ⟨fun q => this.1 (by simp [q]), fun q => ?_⟩
              rw [List.take_succ_cons, List.mem_cons] at q
              rcases q with rfl | q
              · exact this.1 (by simp)
              · exact this.2 q
        · rintro ⟨q1, q2⟩
          refine ⟨fun y hy => q1 y (List.mem_cons_of_mem _ hy), fun k y hk hy => ?_⟩
          have := q2 (k + 1) y (by simpa using hk) hy
          rw [List.take_succ_cons, List.mem_cons, not_or] at this
          refine ⟨fun q => ?_, this.2.2⟩
          rcases List.mem_append.1 q with q | q
          · exact this.1 q
          · rw [List.mem_singleton] at q; exact this.2.1 q
theorem bd_iff {c : List Int} : bdGo [] c 0 = none ↔ Rng c ∧ Dst c := by
  rw [bdGo_none]
  refine and_congr Iff.rfl ⟨fun h i j x hi hj h0 => ?_, fun h k x hk h0 => ⟨by simp, fun q => ?_⟩⟩
  · rcases Nat.lt_trichotomy i j with q | q | q
    · refine absurd ?_ (h j x hj h0).2
      obtain ⟨hi1, hi2⟩ := List.getElem?_eq_some_iff.1 hi
      refine List.mem_of_getElem? (i := i) ?_
      rw [List.getElem?_take, if_pos q, hi]
    · exact q
    · refine absurd ?_ (h i x hi h0).2
      refine List.mem_of_getElem? (i := j) ?_
      rw [List.getElem?_take, if_pos q, hj]
  · obtain ⟨i, hi⟩ := List.mem_iff_getElem?.1 q
    rw [List.getElem?_take] at hi
    split at hi
    · have := h i k x hi hk h0; omega
    · cases hi
theorem bd2_none {c : List Int} : bd2 c = none ↔ ∀ (i : Nat) (x : Int), c[i]? = some x → 0 < x → 0 ≤ fnd c x := by
  unfold bd2
  rw [List.find?_range_eq_none]
  constructor
  · intro h i x hx h0
    obtain ⟨hi, e⟩ := List.getElem?_eq_some_iff.1 hx
    have := h i hi
    rw [List.getD_eq_getElem?_getD, hx] at this
    simp at this
    omega
  · intro h i hi
    have := h i _ (List.getElem?_eq_getElem hi)
    rw [List.getD_eq_getElem?_getD, List.getElem?_eq_getElem hi]
    simp
    omega
theorem bd2_at {c : List Int} {i : Nat} {x : Int} (hn : ∀ k, k < i → ∀ y, c[k]? = some y → 0 < y → 0 ≤ fnd c y) (hx : c[i]? = some x) (h0 : 0 < x) (hf : fnd c x < 0) : bd2 c = some i := by
  obtain ⟨hi, e⟩ := List.getElem?_eq_some_iff.1 hx
  unfold bd2
  rw [List.find?_range_eq_some]
  refine ⟨?_, by simpa using hi, fun k hk => ?_⟩
  · rw [List.getD_eq_getElem?_getD, hx]; simp; omega
  · have hkl : k < c.length := by omega
    have := hn k hk _ (List.getElem?_eq_getElem hkl)
    rw [List.getD_eq_getElem?_getD, List.getElem?_eq_getElem hkl]
    simp; omega
theorem bd2_no {c : List Int} {i : Nat} (hn : ∀ k, k < i → ∀ y, c[k]? = some y → 0 < y → 0 ≤ fnd c y) (hi : c.length ≤ i) : bd2 c = none :=
  bd2_none.2 fun k y hk h0 => hn k (by have := (List.getElem?_eq_some_iff.1 hk).1; omega) y hk h0
theorem fnd_pth {c : List Int} {x : Int} (h0 : 0 < x) (h : 0 ≤ fnd c x) : ∃ j, j < c.length ∧ c[ps c.length x j]? = some x ∧ ∀ k, k < j → ¬ cl c x k = 0 := by
  rcases fnd_cases c x (by omega) with ⟨e, _⟩ | ⟨j, hj, e, h1, h2⟩
  · omega
  · exact ⟨j, hj, by rw [cl_get (by omega), h1], fun k hk => (h2 k hk).2⟩
theorem ck_iff {c : List Int} : (ckS c).2 = 0 ↔ Gd c := by
  by_cases h1 : 8192 < c.length
  · rw [ck_long (by omega)]
    exact ⟨fun q => (by cases q), fun q => by have := q.p2.bd; omega⟩
  by_cases h2 : P2 c.length
  · cases h3 : bdGo [] c 0 with
    | some r =>
      rw [ck_bd h2 h3]
      constructor
      · intro q
        exfalso
        have key : ∀ (l pre : List Int) (i : Nat) (r : Int × Int), bdGo pre l i = some r → r.2 ≠ 0 := by
          intro l
          induction l with
          | nil => intro pre i r h; simp [bdGo] at h
          | cons x l ih =>
            intro pre i r h
            unfold bdGo at h
            split at h
            · cases h; simp
            · split at h
              · cases h; simp
              · exact ih _ _ _ h
        exact key _ _ _ _ h3 q
      · intro q
        rw [bd_iff.2 ⟨q.rng, q.dst⟩] at h3; cases h3
    | none =>
      obtain ⟨hr, hd⟩ := bd_iff.1 h3
      by_cases h4 : 3 * c.length < 4 * usd c
      · rw [ck_full h2 h3 h4]
        exact ⟨fun q => (by cases q), fun q => by have := q.full; omega⟩
      · rw [ck_end h2 h3 h4]
        cases h5 : bd2 c with
        | some i =>
          refine ⟨fun q => (by cases q), fun q => ?_⟩
          rw [bd2_none.2 fun i x hx h0 => by rw [(fnd_mem q.toGw h0).1]; exact List.mem_of_getElem? hx] at h5
          cases h5
        | none =>
          refine ⟨fun _ => ⟨⟨hr, hd, fun i x hx h0 => ?_⟩, h2, by omega⟩, fun _ => rfl⟩
          obtain ⟨j, hj, he, hz⟩ := fnd_pth h0 (bd2_none.1 h5 i x hx h0)
          exact ⟨j, hj, hd _ _ x he hx h0, hz⟩
  · rw [ck_form (by omega) h2]
    exact ⟨fun q => (by cases q), fun q => absurd q.p2 h2⟩
end Go.Own.S

namespace Go.Own.S
open Go Go.Own Go.Own.R
def encP (x : Int × Int) : Array Value := #[.int .i64 x.1, .int .i64 x.2]
def pthK (c : List Int) (a : Int) (j : Nat) : List (Int × Int) := (List.range j).map fun i => (((ps c.length a i : Nat) : Int), cl c a i)
def zeB (x : Int) : Bool := decide (x = 0)
def plen (c : List Int) (a : Int) : Nat := match fstJ zeB c a with | some j => j + 1 | none => c.length
def pthL (c : List Int) (a : Int) : List (Int × Int) := pthK c a (plen c a)
theorem plen_le (c : List Int) (a : Int) : plen c a ≤ c.length := by
  unfold plen
  split
  · rename_i j h; have := (fstJ_some h).1; omega
  · omega
theorem pk_snoc {c : List Int} {a y : Int} {j : Nat} (hy : c[ps c.length a j]? = some y) : pthK c a j ++ [(((ps c.length a j : Nat) : Int), y)] = pthK c a (j + 1) := by
  unfold pthK; rw [List.range_succ, List.map_append, ← cl_at rfl hy]; rfl
theorem pk_le {c : List Int} {a : Int} {j : Nat} (hj : j ≤ c.length) (hz : ∀ i, i + 1 < j → ¬ cl c a i = 0) : j ≤ plen c a := by
  unfold plen
  split
  · rename_i m h
    have h3 := (fstJ_some h).2.2
    have h3 : cl c a m = 0 := by unfold zeB at h3; simpa using h3
    rcases Nat.lt_or_ge (m + 1) j with q | q
    · exact absurd h3 (hz m q)
    · exact q
  · exact hj
theorem pk_mono {c : List Int} {a : Int} {j m : Nat} (h : j ≤ m) : pthK c a j <+: pthK c a m := by
  unfold pthK
  refine List.IsPrefix.map _ ?_
  rw [List.prefix_iff_eq_take, List.length_range, List.take_range, Nat.min_eq_left h]
theorem pk_pre {c : List Int} {a y : Int} {j : Nat} (hj : j < c.length) (hz : ∀ i, i < j → ¬ cl c a i = 0) (hy : c[ps c.length a j]? = some y) : pthK c a j ++ [(((ps c.length a j : Nat) : Int), y)] <+: pthL c a := by
  rw [pk_snoc hy]; exact pk_mono (pk_le hj fun i hi => hz i (by omega))
theorem pk_all {c : List Int} {a : Int} {j : Nat} (hj : j ≤ c.length) (hj2 : c.length ≤ j) (hz : ∀ i, i < j → ¬ cl c a i = 0) : pthK c a j = pthL c a := by
  have : fstJ zeB c a = none := fstJ_no fun i hi => by unfold zeB; simpa using hz i (by omega)
  unfold pthL plen; rw [this]; simp only; rw [show j = c.length by omega]
theorem pk_zero {c : List Int} {a y : Int} {j : Nat} (hj : j < c.length) (hz : ∀ i, i < j → ¬ cl c a i = 0) (hy : c[ps c.length a j]? = some y) (h0 : y = 0) : pthK c a j ++ [(((ps c.length a j : Nat) : Int), y)] = pthL c a := by
  have : fstJ zeB c a = some j := fstJ_at hj (fun i hi => by unfold zeB; simpa using hz i hi) (by unfold zeB; rw [cl_at rfl hy]; simpa using h0)
  rw [pk_snoc hy]; unfold pthL plen; rw [this]
theorem nz_step {c : List Int} {a y : Int} {j : Nat} (hz : ∀ i, i < j → ¬ cl c a i = 0) (hy : c[ps c.length a j]? = some y) (h0 : ¬ y = 0) : ∀ i, i < j + 1 → ¬ cl c a i = 0 := by
  intro i hi
  by_cases e : i = j
  · subst e; rw [cl_at rfl hy]; exact h0
  · exact hz i (by omega)
theorem pk_at {c : List Int} {a x1 x2 : Int} {pre : List (Int × Int)} (h : pre ++ [(x1, x2)] <+: pthL c a) : ∃ j, j < c.length ∧ pre = pthK c a j ∧ x1 = ((ps c.length a j : Nat) : Int) ∧ x2 = cl c a j ∧ ∀ i, i < j → ¬ cl c a i = 0 := by
  have hl := h.length_le
  have hll : (pthL c a).length = plen c a := by simp [pthL, pthK]
  rw [hll, List.length_append, List.length_singleton] at hl
  have hle := plen_le c a
  have e := List.prefix_iff_eq_take.1 h
  have e2 : (pthL c a).take (pre ++ [(x1, x2)]).length = pthK c a (pre.length + 1) := by
    rw [List.length_append, List.length_singleton]
    have h3 : pthK c a (pre.length + 1) <+: pthL c a := pk_mono hl
    have := List.prefix_iff_eq_take.1 h3
    rw [this]; simp [pthK]
  rw [e2] at e
  have e3 : pthK c a (pre.length + 1) = pthK c a pre.length ++ [(((ps c.length a pre.length : Nat) : Int), cl c a pre.length)] := by
    unfold pthK; rw [List.range_succ, List.map_append]; rfl
  rw [e3] at e
  obtain ⟨e4, e5⟩ := List.append_inj' e rfl
  have e6 := (List.cons.inj e5).1
  refine ⟨pre.length, by omega, e4, (Prod.mk.inj e6).1, (Prod.mk.inj e6).2, fun i hi h0 => ?_⟩
  have hil : i < c.length := by omega
  cases q : fstJ zeB c a with
  | none => have := fstJ_none q i hil; unfold zeB at this; simp at this; exact this h0
  | some m =>
    have hm := fstJ_some q
    have hmi : m ≤ i := by
      rcases Nat.lt_or_ge i m with r | r
      · have := hm.2.1 i r; unfold zeB at this; simp at this; exact absurd h0 this
      · exact r
    unfold plen at hl; rw [q] at hl; simp only at hl; omega
theorem pk_mem {c : List Int} {a : Int} {i j : Nat} (h : i < j) : (((ps c.length a i : Nat) : Int), cl c a i) ∈ pthK c a j := List.mem_map.2 ⟨i, List.mem_range.2 h, rfl⟩
theorem pth_bd {c : List Int} {a x1 x2 : Int} {pre : List (Int × Int)} (h : pre ++ [(x1, x2)] <+: pthL c a) : 0 ≤ x1 ∧ x1 < c.length := by
  obtain ⟨j, hj, _, e, _⟩ := pk_at h
  have := ps_lt (n := c.length) (by omega) a j
  omega
theorem fnd_hit {c : List Int} {a x1 x2 : Int} {pre : List (Int × Int)} (h : pre ++ [(x1, x2)] <+: pthL c a) (hno : ∀ e ∈ pre, ¬ e.2 = a) (hx : x2 = a) : fnd c a = x1 := by
  obtain ⟨j, hj, rfl, e1, e2, hz⟩ := pk_at h
  rw [e1]
  exact fnd_at hj (fun i hi => ⟨hno _ (pk_mem hi), hz i hi⟩) (by omega)
theorem fnd_done {c : List Int} {a : Int} (ha : 1 ≤ a) (hno : ∀ e ∈ pthL c a, ¬ e.2 = a) : fnd c a = -1 := by
  rcases fnd_cases c a (by omega) with ⟨e, _⟩ | ⟨j, hj, _, e2, hz⟩
  · exact e
  · have := pk_le (a := a) (j := j + 1) (c := c) (by omega) fun i hi => (hz i (by omega)).2
    exact absurd e2 (hno _ (pk_mem (i := j) (by omega)))
theorem put_hit {c : List Int} {a x1 x2 : Int} {pre : List (Int × Int)} (h : pre ++ [(x1, x2)] <+: pthL c a) (hno : ∀ e ∈ pre, ¬ e.2 ≤ 0) (hx : x2 ≤ 0) : c.set x1.toNat a = putT c a := by
  obtain ⟨j, hj, rfl, e1, e2, hz⟩ := pk_at h
  rw [putT_at hj (fun i hi => hno _ (pk_mem hi)) (by omega), e1, Int.toNat_natCast]
theorem put_done {c : List Int} {a : Int} (hno : ∀ e ∈ pthL c a, ¬ e.2 ≤ 0) : c = putT c a := by
  rw [putT_none]
  intro i hi h0
  have : plen c a = c.length := by
    unfold plen
    split
    · rename_i m q
      have hm := fstJ_some q
      have h3 : cl c a m = 0 := by have := hm.2.2; unfold zeB at this; simpa using this
      have : plen c a = m + 1 := by unfold plen; rw [q]
      exact absurd (by omega : cl c a m ≤ 0) (hno _ (by unfold pthL; rw [this]; exact pk_mem (i := m) (by omega)))
    · rfl
  exact hno _ (by unfold pthL; rw [this]; exact pk_mem hi) h0
theorem hit_pth {c : List Int} {x x1 x2 : Int} {i : Nat} {pre : List (Int × Int)} (h : pre ++ [(x1, x2)] <+: pthL c x) (hx : x1 = i) (hc : c[i]? = some x) (h0 : 0 < x) : 0 ≤ fnd c x := by
  obtain ⟨j, hj, rfl, e1, e2, hz⟩ := pk_at h
  have hp : ps c.length x j = i := by omega
  rcases fnd_cases c x (by omega) with ⟨_, q⟩ | ⟨k, _, e, _⟩
  · exact absurd (cl_at hp hc) (q j hj hz)
  · omega
theorem no_pth {c : List Int} {x : Int} {i : Nat} (hno : ∀ e ∈ pthL c x, ¬ e.1 = i) (hc : c[i]? = some x) (h0 : 0 < x) (hd : Dst c) : fnd c x < 0 := by
  rcases fnd_cases c x (by omega) with ⟨e, _⟩ | ⟨j, hj, e, e2, hz⟩
  · omega
  · have h1 := pk_le (a := x) (j := j + 1) (c := c) (by omega) fun i hi => (hz i (by omega)).2
    have h2 : c[ps c.length x j]? = some x := by rw [cl_get (by omega), e2]
    have := hd _ _ x h2 hc h0
    exact absurd (by rw [this]) (hno _ (pk_mem (c := c) (a := x) (i := j) (j := plen c x) (by omega)))
theorem all_snoc {p : Int × Int → Prop} {pre : List (Int × Int)} {x : Int × Int} (h : ∀ e ∈ pre, ¬ p e) (hx : ¬ p x) : ∀ e ∈ pre ++ [x], ¬ p e := by
  intro e he
  rcases List.mem_append.1 he with q | q
  · exact h e q
  · rw [List.mem_singleton] at q; subst q; exact hx
/-! bits -/
theorem and_ps0 {n : Nat} (h : P2 n) (a : Int) : (((a * 40503).toNat &&& ((n : Int) - 1).toNat : Nat) : Int) = ((ps n a 0 : Nat) : Int) := by
  have := h.bd
  rw [show ((n : Int) - 1).toNat = n - 1 by omega, and_p2 h]; rfl
theorem and_psS {n : Nat} (h : P2 n) (a : Int) (j : Nat) : ((((((ps n a j : Nat) : Int) + 1)).toNat &&& ((n : Int) - 1).toNat : Nat) : Int) = ((ps n a (j + 1) : Nat) : Int) := by
  have := h.bd
  rw [show ((n : Int) - 1).toNat = n - 1 by omega, and_p2 h, show (((ps n a j : Nat) : Int) + 1).toNat = ps n a j + 1 by omega, ps_succ]
theorem and_form {n : Nat} (h1 : 8 ≤ n) (h2 : n ≤ 8192) : ((((n : Int)).toNat &&& ((n : Int) - 1).toNat : Nat) : Int) = 0 ↔ P2 n := by
  rw [show ((n : Int) - 1).toNat = n - 1 by omega, Int.toNat_natCast, ← p2_and h1 h2]; omega
/-! counts -/
theorem usd_snoc {c : List Int} {k : Nat} {y : Int} (hy : c[k]? = some y) : usd (c.take (k + 1)) = usd (c.take k) + (if y = 0 then 0 else 1) := by
  unfold usd; rw [take_snoc' c k y hy, List.countP_append]
  by_cases h : y = 0 <;> simp [h]
theorem adr_snoc {c : List Int} {k : Nat} {y : Int} (hy : c[k]? = some y) : adr (c.take (k + 1)) = adr (c.take k) + (if 0 < y then 1 else 0) := by
  unfold adr; rw [take_snoc' c k y hy, List.countP_append]
  by_cases h : 0 < y <;> simp [h]
theorem cnt_bd (c : List Int) (k : Nat) : usd (c.take k) ≤ k ∧ adr (c.take k) ≤ k := by
  have h1 := usd_le (c.take k)
  have h2 := adr_usd (c.take k)
  rw [List.length_take] at h1
  omega
/-! what a library's DeleteFunc does -/
theorem idxF_spec {p : Int → Bool} {l : List Int} (h : ¬ idxF p l = -1) : ∃ (k : Nat) (y : Int), idxF p l = (k : Int) ∧ l[k]? = some y ∧ p y = true ∧ ∀ i, i < k → ∀ x, l[i]? = some x → p x = false := by
  unfold idxF at h ⊢
  cases e : l.findIdx? p with
  | none => rw [e] at h; exact absurd rfl h
  | some k =>
    rw [List.findIdx?_eq_some_iff_getElem] at e
    obtain ⟨hk, h1, h2⟩ := e
    refine ⟨k, l[k], rfl, List.getElem?_eq_getElem hk, h1, fun i hi x hx => ?_⟩
    obtain ⟨hi2, rfl⟩ := List.getElem?_eq_some_iff.1 hx
    simpa using h2 i hi
def fl (p : Int → Bool) (l : List Int) : List Int := l.filter fun x => !p x
theorem fl_no {p : Int → Bool} {l : List Int} (h : idxF p l = -1) : l = fl p l := by
  unfold fl; symm; rw [List.filter_eq_self]
  intro x hx
  unfold idxF at h
  cases e : l.findIdx? p with
  | none => rw [List.findIdx?_eq_none_iff] at e; simp [e x hx]
  | some k => rw [e] at h; simp at h <;> omega
theorem fl_all {p : Int → Bool} {l : List Int} (h : ∀ x ∈ l, p x = false) : fl p l = l := by unfold fl; rw [List.filter_eq_self]; intro x hx; simp [h x hx]
def dfD (p : Int → Bool) (l gar : List Int) (j : Nat) : List Int := fl p (l.take j) ++ gar ++ l.drop j
theorem fl_snoc {p : Int → Bool} {l : List Int} {j : Nat} {y : Int} (hy : l[j]? = some y) : fl p (l.take (j + 1)) = fl p (l.take j) ++ (if p y then [] else [y]) := by
  unfold fl; rw [take_snoc' l j y hy, List.filter_append]
  by_cases h : p y = true <;> simp [h]
theorem df_init {p : Int → Bool} {l : List Int} {k : Nat} {y : Int} (hy : l[k]? = some y) (hp : p y = true) (hn : ∀ i, i < k → ∀ x, l[i]? = some x → p x = false) : l = dfD p l [y] (k + 1) ∧ (fl p (l.take (k + 1))).length = k := by
  have h1 : fl p (l.take k) = l.take k := fl_all fun x hx => by
    obtain ⟨i, hi, rfl⟩ := List.mem_iff_getElem.1 hx
    rw [List.length_take] at hi
    exact hn i (by omega) _ (by rw [List.getElem_take]; exact List.getElem?_eq_getElem (by omega))
  have hk := (List.getElem?_eq_some_iff.1 hy).1
  have h2 : fl p (l.take (k + 1)) = l.take k := by rw [fl_snoc hy, h1, if_pos hp, List.append_nil]
  refine ⟨?_, by rw [h2, List.length_take]; omega⟩
  unfold dfD
  rw [h2, ← take_snoc' l k y hy, List.take_append_drop]
theorem dfD_len {p : Int → Bool} {l gar : List Int} {j : Nat} (hj : j ≤ l.length) (h : (fl p (l.take j)).length + gar.length = j) : (dfD p l gar j).length = l.length := by
  unfold dfD; rw [List.length_append, List.length_append, List.length_drop]; omega
theorem df_get {p : Int → Bool} {l gar : List Int} {j : Nat} {y : Int} (h : (fl p (l.take j)).length + gar.length = j) (hy : (dfD p l gar j)[j]? = some y) : l[j]? = some y := by
  unfold dfD at hy
  rw [List.getElem?_append_right (by rw [List.length_append]; omega), List.length_append, h, List.getElem?_drop] at hy
  simpa using hy
theorem df_keep {p : Int → Bool} {l gar : List Int} {j : Nat} {y : Int} (h : (fl p (l.take j)).length + gar.length = j) (hy : l[j]? = some y) (hp : p y = false) :
    (dfD p l gar j).set (fl p (l.take j)).length y = dfD p l (gar ++ [y]).tail (j + 1) ∧ (fl p (l.take (j + 1))).length = (fl p (l.take j)).length + 1 ∧ (fl p (l.take (j + 1))).length + (gar ++ [y]).tail.length = j + 1 := by
  have hk := (List.getElem?_eq_some_iff.1 hy).1
  have e := (List.getElem?_eq_some_iff.1 hy).2
  have hf : fl p (l.take (j + 1)) = fl p (l.take j) ++ [y] := by rw [fl_snoc hy]; simp [hp]
  have hd : l.drop j = y :: l.drop (j + 1) := by rw [List.drop_eq_getElem_cons hk, e]
  refine ⟨?_, by rw [hf]; simp, by rw [hf]; cases gar <;> simp at h ⊢ <;> omega⟩
  unfold dfD
  rw [hf, hd, List.append_assoc, List.set_append_right _ _ (Nat.le_refl _), Nat.sub_self]
  cases gar with
  | nil => simp
  | cons g gs => simp
theorem df_drop {p : Int → Bool} {l gar : List Int} {j : Nat} {y : Int} (h : (fl p (l.take j)).length + gar.length = j) (hy : l[j]? = some y) (hp : p y = true) :
    dfD p l gar j = dfD p l (gar ++ [y]) (j + 1) ∧ (fl p (l.take (j + 1))).length = (fl p (l.take j)).length ∧ (fl p (l.take (j + 1))).length + (gar ++ [y]).length = j + 1 := by
  have hk := (List.getElem?_eq_some_iff.1 hy).1
  have e := (List.getElem?_eq_some_iff.1 hy).2
  have hf : fl p (l.take (j + 1)) = fl p (l.take j) := by rw [fl_snoc hy]; simp [hp]
  have hd : l.drop j = y :: l.drop (j + 1) := by rw [List.drop_eq_getElem_cons hk, e]
  refine ⟨?_, by rw [hf], by rw [hf]; simp; omega⟩
  unfold dfD; rw [hf, hd]; simp
theorem df_end {p : Int → Bool} {l gar : List Int} {j n : Nat} {zs : List Int} (hj : l.length ≤ j) (hn : n = (fl p (l.take j)).length) : ((dfD p l gar j).take n ++ zs).take n = fl p l := by
  subst hn
  unfold dfD
  rw [List.take_of_length_le hj, List.append_assoc, List.take_left' rfl, List.take_left' rfl]
theorem srt_fl {c : List Int} (hr : Rng c) (hd : Dst c) : sortL (fl (fun x => decide (x ≤ 0)) c) = tgK c 1600 := by
  have e : fl (fun x => decide (x ≤ 0)) c = c.filter fun x => decide (0 < x) := by
    unfold fl
    refine List.filter_congr fun x _ => ?_
    simp [← Int.not_le]
  rw [e, srt_eq hr hd]
theorem fl_len (p : Int → Bool) (l : List Int) : (fl p l).length ≤ l.length := List.length_filter_le _ _
end Go.Own.S
