import Derived.Test.YtpgkfndbfocibaaGreatPl29c
import Derived.Test.YtpgkfndbfocibaaGreatSepT
namespace Go.Own.Ml
open Go Go.Own
def cfE (C N Z K Q : Int) : Int := if (8 ≤ C ∧ C ≤ 64) ∧ (7 ≤ N ∧ N ≤ 24) ∧ (4 ≤ Z ∧ Z ≤ 64) ∧ (1 ≤ K ∧ K ≤ 8) ∧ (2 ≤ Q ∧ Q ≤ 16) then 0 else 7
theorem cf_rng {C N Z K Q : Int} (h : cfE C N Z K Q = 0) : (8 ≤ C ∧ C ≤ 64) ∧ (7 ≤ N ∧ N ≤ 24) ∧ (4 ≤ Z ∧ Z ≤ 64) ∧ (1 ≤ K ∧ K ≤ 8) ∧ (2 ≤ Q ∧ Q ≤ 16) := by
  unfold cfE at h; split at h
  · assumption
  · cases h
theorem cf_ok {C N Z K Q : Int} (h : (8 ≤ C ∧ C ≤ 64) ∧ (7 ≤ N ∧ N ≤ 24) ∧ (4 ≤ Z ∧ Z ≤ 64) ∧ (1 ≤ K ∧ K ≤ 8) ∧ (2 ≤ Q ∧ Q ≤ 16)) : cfE C N Z K Q = 0 := by unfold cfE; rw [if_pos h]
theorem cf_bad {C N Z K Q : Int} (h : ¬ ((8 ≤ C ∧ C ≤ 64) ∧ (7 ≤ N ∧ N ≤ 24) ∧ (4 ≤ Z ∧ Z ≤ 64) ∧ (1 ≤ K ∧ K ≤ 8) ∧ (2 ≤ Q ∧ Q ≤ 16))) : cfE C N Z K Q = 7 := by unfold cfE; rw [if_neg h]
def lgX (C Z : Int) : Int := if Z < C / 2 then Z else C / 2
def lgN (C N Z K Q : Int) : Int := if cfE C N Z K Q ≠ 0 then 0 else lgX C Z
theorem lg_ok {C N Z K Q : Int} (h : cfE C N Z K Q = 0) : lgN C N Z K Q = lgX C Z := by unfold lgN; rw [if_neg (by omega)]
theorem lg_bad {C N Z K Q : Int} (h : cfE C N Z K Q ≠ 0) : lgN C N Z K Q = 0 := by unfold lgN; rw [if_pos h]
theorem lg_rng {C N Z K Q : Int} : 0 ≤ lgN C N Z K Q ∧ lgN C N Z K Q ≤ 32 := by
  unfold lgN
  split
  · omega
  · have := cf_rng (show cfE C N Z K Q = 0 by omega)
    unfold lgX; split <;> omega
def badN (z : Int) : Prop := z < -1000000000 ∨ 1000000000 < z
instance (z : Int) : Decidable (badN z) := inferInstanceAs (Decidable (_ ∨ _))
def tkS (w : Int) (c : OpC × Int) : OpC × Int :=
  (⟨c.1.kd, if w = 1 then 0 else c.1.a, if w = 2 then 0 else c.1.b, if w = 3 then 0 else c.1.f, if w = 4 then 0 else c.1.p, if w = 5 then 0 else c.1.q, if w = 6 then 0 else c.1.u⟩,
   if (w = 1 ∧ badN c.1.a) ∨ (w = 2 ∧ badN c.1.b) ∨ (w = 3 ∧ badN c.1.f) ∨ (w = 4 ∧ badN c.1.p) ∨ (w = 5 ∧ badN c.1.q) then 7 else c.2)
def tkG : List Int → OpC × Int → OpC × Int
  | [], c => c
  | w :: r, c => tkG r (tkS w c)
def TBF : List (List Int) := [[], [1, 4, 5], [1, 2, 3], [1, 3, 2], [1, 3], [1, 3, 6], [1, 2], [1], [1, 2], [1], [1], []]
def fdG (k : Int) : List Int := TBF.getD k.toNat []
theorem tkG_step {t : List Int} {i : Nat} {w : Int} {c R : OpC × Int} (h : tkG (t.drop i) c = R) (hw : t[i]? = some w) : tkG (t.drop (i + 1)) (tkS w c) = R := by
  obtain ⟨hi, rfl⟩ := List.getElem?_eq_some_iff.1 hw
  rw [List.drop_eq_getElem_cons hi] at h; exact h
theorem tkG_end {t : List Int} {i : Nat} {c R : OpC × Int} (h : tkG (t.drop i) c = R) (hi : t.length ≤ i) : c = R := by
  rw [List.drop_eq_nil_of_le hi] at h; exact h
def opE (c : OpC) : Int := if c.kd < 1 ∨ 11 < c.kd then 2 else if (tkG (fdG c.kd) (⟨0, c.a, c.b, c.f, c.p, c.q, c.u⟩, 0)).1 ≠ ⟨0, 0, 0, 0, 0, 0, 0⟩ then 2 else (tkG (fdG c.kd) (⟨0, c.a, c.b, c.f, c.p, c.q, c.u⟩, 0)).2
theorem op_kd {c : OpC} (h : c.kd < 1 ∨ 11 < c.kd) : opE c = 2 := by unfold opE; rw [if_pos h]
theorem op_ne {c : OpC} {a b f p q u e : Int} {kd : Int} (h : ¬ (c.kd < 1 ∨ 11 < c.kd)) (hR : (⟨kd, a, b, f, p, q, u⟩, e) = tkG (fdG c.kd) (⟨0, c.a, c.b, c.f, c.p, c.q, c.u⟩, 0)) (hn : ¬ (kd = 0 ∧ a = 0 ∧ b = 0 ∧ f = 0 ∧ p = 0 ∧ q = 0 ∧ u = 0)) : opE c = 2 := by
  unfold opE; rw [if_neg h, ← hR, if_pos]
  intro e; injection e with h1 h2 h3 h4 h5 h6 h7; exact hn ⟨h1, h2, h3, h4, h5, h6, h7⟩
theorem op_ok {c : OpC} {a b f p q u e : Int} {kd : Int} (h : ¬ (c.kd < 1 ∨ 11 < c.kd)) (hR : (⟨kd, a, b, f, p, q, u⟩, e) = tkG (fdG c.kd) (⟨0, c.a, c.b, c.f, c.p, c.q, c.u⟩, 0)) (hn : kd = 0 ∧ a = 0 ∧ b = 0 ∧ f = 0 ∧ p = 0 ∧ q = 0 ∧ u = 0) : opE c = e := by
  obtain ⟨rfl, rfl, rfl, rfl, rfl, rfl, rfl⟩ := hn
  unfold opE; rw [if_neg h, ← hR, if_neg (fun q => q rfl)]
theorem op_al {kd a b f p q u : Int} (h : opE ⟨kd, a, b, f, p, q, u⟩ = 0) (hk : kd = 1) : (-1000000000 ≤ p ∧ p ≤ 1000000000) ∧ (-1000000000 ≤ q ∧ q ≤ 1000000000) := by
  subst hk
  unfold opE at h
  rw [if_neg (by simp)] at h
  split at h
  · cases h
  · have e : fdG 1 = [1, 4, 5] := rfl
    simp only [e, tkG, tkS] at h
    simp [badN] at h
    omega
theorem TBF_rng {k : Nat} {w : Int} {j : Nat} (h : (TBF.getD k [])[j]? = some w) : 1 ≤ w ∧ w ≤ 6 := by
  have e : TBF.all (fun l => l.all fun w => decide (1 ≤ w ∧ w ≤ 6)) = true := by decide
  rcases Nat.lt_or_ge k TBF.length with hk | hk
  · have h2 : TBF.getD k [] = TBF[k] := by rw [List.getD_eq_getElem?_getD, List.getElem?_eq_getElem hk]; rfl
    rw [h2] at h
    exact of_decide_eq_true (List.all_eq_true.1 (List.all_eq_true.1 e _ (List.getElem_mem hk)) w (List.mem_of_getElem? h))
  · rw [List.getD_eq_getElem?_getD, List.getElem?_eq_none hk] at h; simp at h
theorem fdG_rng {k : Int} {w : Int} {j : Nat} (h : (fdG k)[j]? = some w) : 1 ≤ w ∧ w ≤ 6 := TBF_rng h
theorem fdG_le (k : Int) : (fdG k).length ≤ 3 := by
  unfold fdG
  have e : TBF.all (fun l => decide (l.length ≤ 3)) = true := by decide
  rcases Nat.lt_or_ge k.toNat TBF.length with hk | hk
  · rw [List.getD_eq_getElem?_getD, List.getElem?_eq_getElem hk]
    exact of_decide_eq_true (List.all_eq_true.1 e _ (List.getElem_mem hk))
  · rw [List.getD_eq_getElem?_getD, List.getElem?_eq_none hk]; decide
theorem num_at {g : Nat} {w : Int} (h : 1 ≤ w ∧ w ≤ 5) : ([Value.pointer none, .pointer (some ⟨g, 1, none⟩), .pointer (some ⟨g, 2, none⟩), .pointer (some ⟨g, 3, none⟩), .pointer (some ⟨g, 4, none⟩), .pointer (some ⟨g, 5, none⟩)] : List Value)[Int.toNat w]? = some (.pointer (some ⟨g, Int.toNat w, none⟩)) := by
  rcases (by omega : w = 1 ∨ w = 2 ∨ w = 3 ∨ w = 4 ∨ w = 5) with rfl | rfl | rfl | rfl | rfl <;> rfl
abbrev TR := List UInt8 × (Value × List Int)
def trC (y : TR) : List Value := [stv y.1, y.2.1]
theorem trC_len : ∀ a : TR, (trC a).length = 2 := fun _ => rfl
theorem tr_fd {us : List TR} {k : Int} {y : TR} (h : us.map (fun y : TR => y.2.2) = TBF) (hy : us[k.toNat]? = some y) : y.2.2 = fdG k := by
  unfold fdG
  rw [← h, List.getD_eq_getElem?_getD, List.getElem?_map, hy]; rfl
structure AnC where
  e : Int
  t : Bool
  v : Int
theorem AnC.ext' {x y : AnC} : x = y ↔ x.e = y.e ∧ x.t = y.t ∧ x.v = y.v := by
  cases x; cases y; simp
instance : DecidableEq AnC := fun x y => decidable_of_iff (x.e = y.e ∧ x.t = y.t ∧ x.v = y.v) AnC.ext'.symm
def anC (y : AnC) : List Value := [.int .i64 y.e, .bool y.t, .int .u64 y.v]
theorem anC_len : ∀ a : AnC, (anC a).length = 3 := fun _ => rfl
theorem anC_one : ∀ y : AnC, ∀ u ∈ anC y, u.oneCell' = true := by
  intro y u hu; simp only [anC, List.mem_cons, List.not_mem_nil, or_false] at hu; rcases hu with rfl | rfl | rfl <;> rfl
def anX (kd e : Int) (t : Bool) (v : Int) : Prop := (t = true ∧ ¬ (e = 0 ∧ (kd = 8 ∨ kd = 9))) ∨ (v ≠ 0 ∧ ¬ (e = 0 ∧ (kd = 4 ∨ (kd = 10 ∧ v / 256 ≤ 31 ∧ v % 256 ≤ 31))))
instance (kd e : Int) (t : Bool) (v : Int) : Decidable (anX kd e t v) := inferInstanceAs (Decidable (_ ∨ _))
def anE (c : OpC) (a : AnC) : Int := if opE c ≠ 0 then opE c else if a.e < 0 ∨ 999 < a.e then 7 else if anX c.kd a.e a.t a.v then 2 else 0
theorem an_ok {c : OpC} {a : AnC} (h : ¬ opE c ≠ 0) (h1 : ¬ (a.e < 0 ∨ 999 < a.e)) (h2 : ¬ anX c.kd a.e a.t a.v) : anE c a = 0 := by unfold anE; rw [if_neg h, if_neg h1, if_neg h2]
end Go.Own.Ml
