import Derived.Test.YtoandfgkkmfobaaPl19b
namespace Go.Own.S
open Go Go.Own Go.Own.R
/-- the place of the j-th cell of an address's path. -/
def ps (n : Nat) (a : Int) (j : Nat) : Nat := ((a * 40503).toNat + j) % n
def cl (c : List Int) (a : Int) (j : Nat) : Int := c.getD (ps c.length a j) 0
def fstJ (p : Int → Bool) (c : List Int) (a : Int) : Option Nat := (List.range c.length).find? fun j => p (cl c a j)
theorem ps_lt {n : Nat} (h : 0 < n) (a : Int) (j : Nat) : ps n a j < n := Nat.mod_lt _ h
theorem ps_succ (n : Nat) (a : Int) (j : Nat) : ps n a (j + 1) = (ps n a j + 1) % n := by unfold ps; rw [Nat.mod_add_mod]; rfl
theorem ps_zero (n : Nat) (a : Int) : ps n a 0 = (a * 40503).toNat % n := rfl
theorem ps_inj {n : Nat} {a : Int} {i j : Nat} (hi : i < n) (hj : j < n) (h : ps n a i = ps n a j) : i = j := by
  unfold ps at h
  generalize (a * 40503).toNat = q at h
  have h1 := Nat.div_add_mod (q + i) n
  have h2 := Nat.div_add_mod (q + j) n
  rw [h] at h1
  rcases Nat.lt_trichotomy ((q + i) / n) ((q + j) / n) with hl | he | hg
  · have h3 : n * ((q + i) / n + 1) ≤ n * ((q + j) / n) := Nat.mul_le_mul_left n hl
    rw [Nat.mul_add, Nat.mul_one] at h3
    omega
  · rw [he] at h1; omega
  · have h3 : n * ((q + j) / n + 1) ≤ n * ((q + i) / n) := Nat.mul_le_mul_left n hg
    rw [Nat.mul_add, Nat.mul_one] at h3
    omega
/-- each place is on each path. -/
theorem ps_onto {n : Nat} (hn : 0 < n) (a : Int) {p : Nat} (hp : p < n) : ∃ j, j < n ∧ ps n a j = p := by
  unfold ps
  generalize (a * 40503).toNat = q
  have hr := Nat.mod_lt q hn
  have e : ∀ j, (q + j) % n = (q % n + j) % n := fun j => by rw [Nat.mod_add_mod]
  by_cases h : q % n ≤ p
  · refine ⟨p - q % n, by omega, ?_⟩
    rw [e, show q % n + (p - q % n) = p by omega]; exact Nat.mod_eq_of_lt hp
  · refine ⟨n + p - q % n, by omega, ?_⟩
    rw [e, show q % n + (n + p - q % n) = p + n by omega, Nat.add_mod_right]; exact Nat.mod_eq_of_lt hp
theorem cl_at {c : List Int} {a : Int} {j p : Nat} {y : Int} (hp : ps c.length a j = p) (hy : c[p]? = some y) : cl c a j = y := by
  unfold cl; rw [hp, List.getD_eq_getElem?_getD, hy]; rfl
theorem cl_get {c : List Int} (h : 0 < c.length) (a : Int) (j : Nat) : c[ps c.length a j]? = some (cl c a j) := by
  unfold cl
  rw [List.getD_eq_getElem?_getD, List.getElem?_eq_getElem (ps_lt h a j)]; rfl
theorem fstJ_at {p : Int → Bool} {c : List Int} {a : Int} {j : Nat} (hj : j < c.length) (h1 : ∀ i, i < j → p (cl c a i) = false) (h2 : p (cl c a j) = true) : fstJ p c a = some j := by
  unfold fstJ
  rw [List.find?_range_eq_some]
  exact ⟨h2, by simpa using hj, fun i hi => by simp [h1 i hi]⟩
theorem fstJ_no {p : Int → Bool} {c : List Int} {a : Int} (h : ∀ i, i < c.length → p (cl c a i) = false) : fstJ p c a = none := by
  unfold fstJ
  rw [List.find?_range_eq_none]
  exact fun i hi => by simp [h i hi]
theorem fstJ_some {p : Int → Bool} {c : List Int} {a : Int} {j : Nat} (h : fstJ p c a = some j) : j < c.length ∧ (∀ i, i < j → p (cl c a i) = false) ∧ p (cl c a j) = true := by
  unfold fstJ at h
  rw [List.find?_range_eq_some] at h
  obtain ⟨h1, h2, h3⟩ := h
  exact ⟨by simpa using h2, fun i hi => by simpa using h3 i hi, h1⟩
theorem fstJ_none {p : Int → Bool} {c : List Int} {a : Int} (h : fstJ p c a = none) : ∀ i, i < c.length → p (cl c a i) = false := by
  unfold fstJ at h
  rw [List.find?_range_eq_none] at h
  exact fun i hi => by simpa using h i hi
/-! find -/
def hitF (a x : Int) : Bool := decide (x = a ∨ x = 0)
def fnd (c : List Int) (a : Int) : Int := match fstJ (hitF a) c a with | some j => if cl c a j = a then ((ps c.length a j : Nat) : Int) else -1 | none => -1
theorem hitF_no {a x : Int} (h1 : ¬ x = a) (h2 : ¬ x = 0) : hitF a x = false := by unfold hitF; simp [h1, h2]
theorem hitF_yes {a x : Int} (h : x = a ∨ x = 0) : hitF a x = true := by unfold hitF; simpa using h
theorem hitF_of {a x : Int} (h : hitF a x = false) : ¬ x = a ∧ ¬ x = 0 := by unfold hitF at h; simpa using h
theorem fnd_at {c : List Int} {a : Int} {j : Nat} (hj : j < c.length) (h1 : ∀ i, i < j → ¬ cl c a i = a ∧ ¬ cl c a i = 0) (h2 : cl c a j = a) : fnd c a = ((ps c.length a j : Nat) : Int) := by
  unfold fnd
  rw [fstJ_at hj (fun i hi => hitF_no (h1 i hi).1 (h1 i hi).2) (hitF_yes (.inl h2))]
  simp [h2]
theorem fnd_zero {c : List Int} {a : Int} {j : Nat} (hj : j < c.length) (h1 : ∀ i, i < j → ¬ cl c a i = a ∧ ¬ cl c a i = 0) (h2 : cl c a j = 0) (h3 : ¬ cl c a j = a) : fnd c a = -1 := by
  unfold fnd
  rw [fstJ_at hj (fun i hi => hitF_no (h1 i hi).1 (h1 i hi).2) (hitF_yes (.inr h2))]
  simp [h3]
theorem fnd_none {c : List Int} {a : Int} (h1 : ∀ i, i < c.length → ¬ cl c a i = a ∧ ¬ cl c a i = 0) : fnd c a = -1 := by
  unfold fnd
  rw [fstJ_no (fun i hi => hitF_no (h1 i hi).1 (h1 i hi).2)]
theorem fnd_cases (c : List Int) (a : Int) (ha : a ≠ 0) : (fnd c a = -1 ∧ ∀ j, j < c.length → (∀ i, i < j → ¬ cl c a i = 0) → ¬ cl c a j = a) ∨ (∃ j, j < c.length ∧ fnd c a = ((ps c.length a j : Nat) : Int) ∧ cl c a j = a ∧ ∀ i, i < j → ¬ cl c a i = a ∧ ¬ cl c a i = 0) := by
  cases e : fstJ (hitF a) c a with
  | none =>
    have h := fstJ_none e
    exact .inl ⟨fnd_none fun i hi => hitF_of (h i hi), fun j hj _ => (hitF_of (h j hj)).1⟩
  | some j =>
    obtain ⟨h1, h2, h3⟩ := fstJ_some e
    have h2 : ∀ i, i < j → ¬ cl c a i = a ∧ ¬ cl c a i = 0 := fun i hi => hitF_of (h2 i hi)
    by_cases q : cl c a j = a
    · exact .inr ⟨j, h1, fnd_at h1 h2 q, q, h2⟩
    · have h0 : cl c a j = 0 := by
        unfold hitF at h3; simp at h3; exact h3.resolve_left q
      refine .inl ⟨fnd_zero h1 h2 h0 q, fun k hk hz => ?_⟩
      rcases Nat.lt_trichotomy k j with hl | he | hg
      · exact (h2 k hl).1
      · subst he; exact q
      · exact absurd h0 (hz j hg)
theorem fnd_bd {c : List Int} (h : 0 < c.length) (a : Int) : -1 ≤ fnd c a ∧ fnd c a < c.length := by
  unfold fnd
  split
  · rename_i j _
    have := ps_lt h a j
    split <;> omega
  · omega
/-! put -/
def frB (x : Int) : Bool := decide (x ≤ 0)
def putT (c : List Int) (a : Int) : List Int := match fstJ frB c a with | some j => c.set (ps c.length a j) a | none => c
theorem putT_at {c : List Int} {a : Int} {j : Nat} (hj : j < c.length) (h1 : ∀ i, i < j → ¬ cl c a i ≤ 0) (h2 : cl c a j ≤ 0) : putT c a = c.set (ps c.length a j) a := by
  unfold putT
  rw [fstJ_at hj (fun i hi => by unfold frB; simpa using h1 i hi) (by unfold frB; simpa using h2)]
theorem putT_none {c : List Int} {a : Int} (h1 : ∀ i, i < c.length → ¬ cl c a i ≤ 0) : putT c a = c := by
  unfold putT
  rw [fstJ_no (fun i hi => by unfold frB; simpa using h1 i hi)]
theorem putT_len (c : List Int) (a : Int) : (putT c a).length = c.length := by
  unfold putT; split <;> simp
theorem putT_free {c : List Int} {a : Int} (h : ∃ x ∈ c, x ≤ 0) : ∃ j, j < c.length ∧ (∀ i, i < j → 0 < cl c a i) ∧ cl c a j ≤ 0 ∧ putT c a = c.set (ps c.length a j) a := by
  obtain ⟨x, hx, h0⟩ := h
  obtain ⟨p, hp, rfl⟩ := List.mem_iff_getElem.1 hx
  have hn : 0 < c.length := by omega
  cases e : fstJ frB c a with
  | none =>
    obtain ⟨j, hj, hjp⟩ := ps_onto hn a hp
    have := fstJ_none e j hj
    rw [cl_at hjp (List.getElem?_eq_getElem hp)] at this
    unfold frB at this; simp at this; omega
  | some j =>
    obtain ⟨h1, h2, h3⟩ := fstJ_some e
    have h2 : ∀ i, i < j → 0 < cl c a i := fun i hi => by have := h2 i hi; unfold frB at this; simp at this; omega
    have h3 : cl c a j ≤ 0 := by unfold frB at h3; simpa using h3
    exact ⟨j, h1, h2, h3, putT_at h1 (fun i hi => by have := h2 i hi; omega) h3⟩
/-! counts -/
def usd (c : List Int) : Nat := c.countP fun x => decide (x ≠ 0)
def adr (c : List Int) : Nat := c.countP fun x => decide (0 < x)
theorem adr_usd (c : List Int) : adr c ≤ usd c := List.countP_mono_left fun x _ h => by simp at h ⊢; omega
theorem usd_le (c : List Int) : usd c ≤ c.length := List.countP_le_length
theorem cnt_set {p : Int → Bool} : ∀ {c : List Int} {i : Nat} {x y : Int}, c[i]? = some x → (c.set i y).countP p + (if p x then 1 else 0) = c.countP p + (if p y then 1 else 0)
  | [], i, x, y, h => by simp at h
  | z :: c, 0, x, y, h => by
    simp at h; subst h
    rw [List.set_cons_zero, List.countP_cons, List.countP_cons]; omega
  | z :: c, i + 1, x, y, h => by
    have h2 : c[i]? = some x := by simpa using h
    have := cnt_set (p := p) (y := y) h2
    rw [List.set_cons_succ, List.countP_cons, List.countP_cons]; omega
theorem free_of {c : List Int} (h : adr c < c.length) : ∃ x ∈ c, x ≤ 0 := by
  apply Classical.byContradiction
  intro q
  have : adr c = c.length := List.countP_eq_length.2 fun x hx => by
    have : ¬ x ≤ 0 := fun r => q ⟨x, hx, r⟩
    simp; omega
  omega
/-! tables -/
def Rng (c : List Int) : Prop := ∀ x ∈ c, -1 ≤ x ∧ x ≤ 1600
def Dst (c : List Int) : Prop := ∀ (i j : Nat) (x : Int), c[i]? = some x → c[j]? = some x → 0 < x → i = j
def Pth (c : List Int) : Prop := ∀ (i : Nat) (x : Int), c[i]? = some x → 0 < x → ∃ j, j < c.length ∧ ps c.length x j = i ∧ ∀ k, k < j → ¬ cl c x k = 0
structure Gw (c : List Int) : Prop where
  rng : Rng c
  dst : Dst c
  pth : Pth c
theorem fnd_mem {c : List Int} (h : Gw c) {a : Int} (ha : 0 < a) : (0 ≤ fnd c a ↔ a ∈ c) ∧ (∀ i : Nat, c[i]? = some a → fnd c a = (i : Int)) ∧ (0 ≤ fnd c a → c[(fnd c a).toNat]? = some a) ∧ (fnd c a < 0 → fnd c a = -1) := by
  have hat : ∀ i : Nat, c[i]? = some a → fnd c a = (i : Int) := by
    intro i hi
    obtain ⟨j, hj, hp, hz⟩ := h.pth i a hi ha
    have hc : cl c a j = a := cl_at hp hi
    rcases fnd_cases c a (by omega) with ⟨_, q⟩ | ⟨k, hk, e, hq, hr⟩
    · exact absurd hc (q j hj hz)
    · have hg : c[ps c.length a k]? = some a := by rw [cl_get (by omega), hq]
      have := h.dst _ _ a hi hg ha
      rw [e, ← this]
  have hmem : 0 ≤ fnd c a → c[(fnd c a).toNat]? = some a := by
    intro q
    rcases fnd_cases c a (by omega) with ⟨e, _⟩ | ⟨k, hk, e, hq, hr⟩
    · omega
    · rw [e, Int.toNat_natCast, cl_get (by omega), hq]
  refine ⟨⟨fun q => List.mem_of_getElem? (hmem q), fun q => ?_⟩, hat, hmem, fun q => ?_⟩
  · obtain ⟨i, hi, he⟩ := List.mem_iff_getElem.1 q
    rw [hat i (by rw [List.getElem?_eq_getElem hi, he])]; omega
  · rcases fnd_cases c a (by omega) with ⟨e, _⟩ | ⟨k, hk, e, hq, hr⟩
    · exact e
    · omega
/-- a free cell turned into an address that was not there. -/
theorem put_at {c : List Int} {a : Int} {j : Nat} {x : Int} (h : Gw c) (ha : 1 ≤ a ∧ a ≤ 1600) (hn : a ∉ c) (hj : j < c.length) (h1 : ∀ i, i < j → 0 < cl c a i) (hx : c[ps c.length a j]? = some x) (h0 : x ≤ 0) :
    Gw (c.set (ps c.length a j) a) ∧ (∀ y, 0 < y → (y ∈ c.set (ps c.length a j) a ↔ y = a ∨ y ∈ c)) ∧ adr (c.set (ps c.length a j) a) = adr c + 1 ∧ usd (c.set (ps c.length a j) a) = usd c + (if x = 0 then 1 else 0) := by
  have hp := (List.getElem?_eq_some_iff.1 hx).1
  generalize hpe : ps c.length a j = p at *
  have hmem : ∀ y, 0 < y → (y ∈ c.set p a ↔ y = a ∨ y ∈ c) := by
    intro y hy
    constructor
    · intro q; exact (List.mem_or_eq_of_mem_set q).symm
    · rintro (rfl | q)
      · exact List.mem_of_getElem? (List.getElem?_set_self hp)
      · obtain ⟨i, hi, he⟩ := List.mem_iff_getElem.1 q
        have hip : i ≠ p := by
          rintro rfl
          rw [List.getElem?_eq_getElem hi] at hx
          have := Option.some.inj hx; omega
        refine List.mem_of_getElem? (i := i) ?_
        rw [List.getElem?_set_ne (Ne.symm hip), List.getElem?_eq_getElem hi, he]
  have ha1 := cnt_set (p := fun x => decide (0 < x)) (y := a) hx
  have ha2 := cnt_set (p := fun x => decide (x ≠ 0)) (y := a) hx
  refine ⟨⟨fun y hy => ?_, ?_, ?_⟩, hmem, ?_, ?_⟩
  · rcases List.mem_or_eq_of_mem_set hy with q | rfl
    · exact h.rng y q
    · omega
  · intro i k y hi hk hy
    by_cases e1 : p = i <;> by_cases e2 : p = k
    · omega
    · subst e1
      rw [List.getElem?_set_self hp] at hi; rw [List.getElem?_set_ne e2] at hk
      obtain rfl := Option.some.inj hi
      exact absurd (List.mem_of_getElem? hk) hn
    · subst e2
      rw [List.getElem?_set_self hp] at hk; rw [List.getElem?_set_ne e1] at hi
      obtain rfl := Option.some.inj hk
      exact absurd (List.mem_of_getElem? hi) hn
    · rw [List.getElem?_set_ne e1] at hi; rw [List.getElem?_set_ne e2] at hk
      exact h.dst i k y hi hk hy
  · intro i y hi hy
    have hcl : ∀ z k, ¬ cl c z k = 0 → ¬ cl (c.set p a) z k = 0 := by
      intro z k q
      unfold cl at q ⊢
      rw [List.length_set]
      rw [List.getD_eq_getElem?_getD] at q ⊢
      by_cases e : p = ps c.length z k
      · rw [← e, List.getElem?_set_self hp]; simp; omega
      · rw [List.getElem?_set_ne e]; exact q
    by_cases e : p = i
    · subst e
      rw [List.getElem?_set_self hp] at hi
      obtain rfl := Option.some.inj hi
      refine ⟨j, by rw [List.length_set]; exact hj, by rw [List.length_set]; exact hpe, fun k hk => hcl _ _ (by have := h1 k hk; omega)⟩
    · rw [List.getElem?_set_ne e] at hi
      obtain ⟨k, hk, h2, h3⟩ := h.pth i y hi hy
      exact ⟨k, by rw [List.length_set]; exact hk, by rw [List.length_set]; exact h2, fun q hq => hcl _ _ (h3 q hq)⟩
  · unfold adr
    have e1 : decide (0 < x) = false := by simp; omega
    have e2 : decide (0 < a) = true := by simp; omega
    rw [e1, e2] at ha1
    simpa using ha1
  · unfold usd
    have e2 : decide (a ≠ 0) = true := by simp; omega
    rw [e2] at ha2
    by_cases q : x = 0
    · simp [q] at ha2 ⊢; omega
    · simp [q] at ha2 ⊢; omega
theorem put_good {c : List Int} {a : Int} (h : Gw c) (ha : 1 ≤ a ∧ a ≤ 1600) (hn : a ∉ c) (hf : adr c < c.length) :
    Gw (putT c a) ∧ (∀ y, 0 < y → (y ∈ putT c a ↔ y = a ∨ y ∈ c)) ∧ adr (putT c a) = adr c + 1 ∧ usd (putT c a) ≤ usd c + 1 ∧ (usd c = adr c → usd (putT c a) = adr (putT c a)) := by
  obtain ⟨j, hj, h1, h2, e⟩ := putT_free (a := a) (free_of hf)
  have hx := cl_get (c := c) (by omega) a j
  obtain ⟨q1, q2, q3, q4⟩ := put_at h ha hn hj h1 hx h2
  rw [e]
  refine ⟨q1, q2, q3, by rw [q4]; split <;> omega, fun r => ?_⟩
  have hm := adr_usd (c.set (ps c.length a j) a)
  rw [q3, q4] at hm ⊢
  split at hm <;> rename_i z
  · rw [if_pos z]; omega
  · omega
end Go.Own.S
