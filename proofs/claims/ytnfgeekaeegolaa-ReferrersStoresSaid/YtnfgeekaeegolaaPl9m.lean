import Derived.Test.YtnfgeekaeegolaaPl7e
import Derived.Test.YtnfgeekaeegolaaPl9j
import Derived.Test.YtnfgeekaeegolaaPl9e
namespace Go.Own.S
open Go Go.Own Go.Own.R
/-! Good -/
def Sz (c : List Int) : Prop := usd c = adr c ∧ (c.length = 8 ∨ 3 * c.length < 8 * adr c)
/-- no address is left, and as many cells. -/
structure Zr (n : Nat) (x : List Int) : Prop where
  gd : Gd x
  no : adr x = 0
  len : x.length = n
def rvK (l : List Int) (i : Nat) : List Int := List.replicate (l.length - i) 0 ++ (l.take i).reverse
theorem lsT_len (c : List Int) : (lsT c).length ≤ 1600 := by
  unfold lsT; split
  · simp
  · exact tgK_len c 1600
/-! Sets -/
def acC (r : Int × Bool) : List Value := [.int .u16 r.1, .bool r.2]
structure SR (x : List Int) (b : List Bool) (n : Int) : Prop where
  gd : Gd x
  len : b.length = 61
  mem : ∀ a : Nat, 1 ≤ a → a ≤ 60 → b[a]? = some (decide ((a : Int) ∈ x))
  top : ∀ y ∈ x, y ≤ 60
  num : n = ((adr x : Nat) : Int)
end Go.Own.S

/-! the counts of a table are a good list; the counts of two parts add up -/
namespace Go.Own.F
open Go Go.Own Go.Own.R Go.Own.S
end Go.Own.F

/-! the slots below t and those from t on -/
namespace Go.Own.F
open Go Go.Own Go.Own.R Go.Own.S
theorem lsT_nodup (c : List Int) : (lsT c).Nodup := by
  unfold lsT; split
  · simp
  · exact tgK_nodup c 1600
end Go.Own.F

/-! one word is stored anew: the counts afterwards -/
namespace Go.Own.F
open Go Go.Own Go.Own.R Go.Own.S
theorem wA_set {ws : List Int} {a : Int} {v : Int} (h0 : 0 ≤ a) (hl : a.toNat < ws.length) {b : Int} (hb : 0 ≤ b) : wA (ws.set a.toNat v) b = if b = a then v else wA ws b := by
  unfold wA
  rw [List.getD_eq_getElem?_getD, List.getD_eq_getElem?_getD]
  by_cases e : b = a
  · subst e; rw [if_pos rfl, List.getElem?_set_self hl]; rfl
  · rw [if_neg e, List.getElem?_set_ne (by omega)]
theorem hoF_set {ws : List Int} {a v t : Int} (h0 : 0 ≤ a) (hl : a.toNat < ws.length) : ∀ {l : List Int}, l.Nodup → (∀ b ∈ l, 0 ≤ b) →
    ((hoF (ws.set a.toNat v) l t).length : Int) = (hoF ws l t).length + if a ∈ l then (if v = t then 1 else 0) - (if wA ws a = t then 1 else 0) else 0
  | [], _, _ => by simp [hoF]
  | b :: l, hn, hp => by
    rw [List.nodup_cons] at hn
    have ih := hoF_set (t := t) (v := v) h0 hl hn.2 fun c hc => hp c (List.mem_cons_of_mem _ hc)
    have hb := hp b (List.mem_cons_self ..)
    have hs := wA_set (v := v) h0 hl hb
    unfold hoF at ih ⊢
    rw [List.filter_cons, List.filter_cons, hs]
    by_cases e : b = a
    · subst e
      rw [if_neg hn.1] at ih
      simp only [if_true, List.mem_cons, true_or]
      by_cases e1 : v = t
      · subst e1; by_cases e2 : wA ws b = v <;> simp [e2] <;> omega
      · by_cases e2 : wA ws b = t <;> simp [e1, e2] <;> omega
    · rw [if_neg e]
      have hm : (a ∈ b :: l) = (a ∈ l) := by simp [Ne.symm e]
      simp only [hm]
      by_cases e2 : wA ws b = t <;> simp [e2] <;> omega
theorem coT_n {ws c : List Int} (h : slE ws c = 0) (t : Int) : nOf (coT ws c) t = if t = 0 then 0 else ((hoF ws (lsT c) t).length : Int) := by
  unfold coT; rw [if_neg (by omega)]; exact (cnF_all ws (lsT c)).2.2 t
theorem store_ok {ws c : List Int} {a v : Int} (h : slE ws c = 0) (ha : a ∈ lsT c) (hv : 0 ≤ v ∧ v ≤ 1600) : slE (ws.set a.toNat v) c = 0 := by
  obtain ⟨h1, h2, h3, h4⟩ := slE_zero h
  rw [h1] at h4
  have hA := h4 a ha
  refine slE_ok (by rw [List.length_set]; omega) h2 fun b hb hd => ?_
  have hB := h4 b hb
  unfold bdW at hd
  rw [decide_eq_true_eq, List.length_set, wA_set (by omega) (by omega) (by omega)] at hd
  split at hd <;> omega
theorem store_n {ws c : List Int} {a v : Int} (h : slE ws c = 0) (ha : a ∈ lsT c) (hv : 0 ≤ v ∧ v ≤ 1600) {t : Int} (ht : t ≠ 0) :
    nOf (coT (ws.set a.toNat v) c) t = nOf (coT ws c) t + (if v = t then 1 else 0) - (if wA ws a = t then 1 else 0) := by
  obtain ⟨h1, h2, h3, h4⟩ := slE_zero h
  rw [h1] at h4
  have hA := h4 a ha
  rw [coT_n (store_ok h ha hv), coT_n h, if_neg ht, if_neg ht, hoF_set (by omega) (by omega) (lsT_nodup c) (fun b hb => by have := h4 b hb; omega), if_pos ha]
  omega
theorem mgT_ne {ws us c : List Int} {x : Int × Int} (hx : x ∈ mgT (coT ws c) (coT us c)) : x.1 ≠ 0 := by
  intro e
  unfold mgT at hx
  split at hx
  · cases hx
  · rw [coT_eq, coT_eq] at hx
    obtain ⟨a1, a2, a3⟩ := cnF_all ws (slT ws c)
    obtain ⟨b1, b2, b3⟩ := cnF_all us (slT us c)
    have h1 := nOf_mem (plA_asc (m := cnF us (slT us c)) a1) hx
    have h2 := plA_pos a2 b2 x hx
    rw [plA_n a1, a3, smN_nOf b1, b3, e] at h1
    simp at h1; omega
theorem coT_bd {ws c : List Int} (h : slE ws c = 0) (t : Int) : 0 ≤ nOf (coT ws c) t ∧ nOf (coT ws c) t ≤ 1600 := by
  rw [coT_n h]
  have h1 := hoF_len ws (lsT c) t
  have h2 := F.lsT_len c
  split <;> omega
theorem set_rng {ws : List Int} {v : Int} (hu : ∀ x ∈ ws, 0 ≤ x ∧ x ≤ 18446744073709551615) (i : Nat) (hv : 0 ≤ v ∧ v ≤ 18446744073709551615) : ∀ x ∈ ws.set i v, 0 ≤ x ∧ x ≤ 18446744073709551615 := fun x hx => by
  rcases List.mem_or_eq_of_mem_set hx with q | q
  · exact hu x q
  · rw [q]; exact hv
theorem mgT_len (ws us c : List Int) : (mgT (coT ws c) (coT us c)).length ≤ 3200 := by
  unfold mgT
  split
  · simp
  · have h1 := plA_len (coT ws c) (coT us c)
    have h2 := cnF_len ws (slT ws c)
    have h3 := cnF_len us (slT us c)
    have h4 := slT_len ws c
    have h5 := slT_len us c
    rw [← coT_eq] at h2 h3
    omega
end Go.Own.F
