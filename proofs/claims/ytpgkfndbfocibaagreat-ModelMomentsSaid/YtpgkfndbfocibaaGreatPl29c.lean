import Derived.Test.YtpgkfndbfocibaaGreatPl29b
namespace Go.Own.Ml
open Go Go.Own
structure OpC where
 kd : Int
 a : Int
 b : Int
 f : Int
 p : Int
 q : Int
 u : Int
theorem OpC.ext' {x y : OpC} : x = y ↔ x.kd = y.kd ∧ x.a = y.a ∧ x.b = y.b ∧ x.f = y.f ∧ x.p = y.p ∧ x.q = y.q ∧ x.u = y.u := by
 cases x; cases y; simp
instance : DecidableEq OpC := fun x y => decidable_of_iff (x.kd = y.kd ∧ x.a = y.a ∧ x.b = y.b ∧ x.f = y.f ∧ x.p = y.p ∧ x.q = y.q ∧ x.u = y.u) OpC.ext'.symm
def opC (y : OpC) : List Value := [.int .i64 y.kd, .int .i64 y.a, .int .i64 y.b, .int .i64 y.f, .int .i64 y.p, .int .i64 y.q, .int .u64 y.u]
theorem opC_len : ∀ a : OpC, (opC a).length = 7 := fun _ => rfl
theorem opC_one : ∀ y : OpC, ∀ u ∈ opC y, u.oneCell' = true := by
 intro y u hu; simp only [opC, List.mem_cons, List.not_mem_nil, or_false] at hu; rcases hu with rfl | rfl | rfl | rfl | rfl | rfl | rfl <;> rfl
abbrev Wd := List UInt8 × Bool
def dv (ws : List Wd) (i : Nat) : Int := (((ws.getD i ([], false)).1.getD 0 0).toNat : Int) - 48
def setP (c : OpC) (x z : Int) : OpC := ⟨c.kd, if x = 97 then z else c.a, if x = 98 then z else c.b, if x = 102 then z else c.f, if x = 112 then z else c.p, if x = 97 ∨ x = 98 ∨ x = 102 ∨ x = 112 then c.q else z, c.u⟩
def prF (ws : List Wd) : List UInt8 → Nat → OpC → OpC
 | [], _, c => c
 | x :: r, i, c => prF ws r (i + 1) (setP c (x.toNat : Int) (dv ws i))
def mtc (ws : List Wd) (k : Nat) : Bool := decide (ws.length = (wrdB (k : Int)).length + 1 ∧ (ws.getD 0 ([], false)).1 = wrdA (k : Int))
def prK (ws : List Wd) : Option Nat := (List.range' 1 11).find? (mtc ws)
def prs (ws : List Wd) : OpC := match prK ws with
 | some k => prF ws (wrdB (k : Int)) 1 ⟨k, 0, 0, 0, 0, 0, 0⟩
 | none => ⟨0, 0, 0, 0, 0, 0, 0⟩
def dig1 (w : Wd) : Bool := decide (w.1.length = 1 ∧ 48 ≤ (w.1.getD 0 0).toNat ∧ (w.1.getD 0 0).toNat ≤ 57)
def okW (ws : List Wd) : Bool := (prK ws).isSome && (ws.drop 1).all dig1 && ws.all (fun w => !w.2) && decide (ws.length ≤ 64 ∧ prK ws ≠ some 5)
variable {ws : List Wd} {k k0 i : Nat}
theorem mt_le (hK : (List.range' k (12 - k)).find? (mtc ws) = some k0) : k ≤ 11 := by
 rcases Nat.lt_or_ge 11 k with h | h
 ·rw [show 12 - k = 0 by omega] at hK; cases hK
 ·exact h
theorem mt_no (hK : (List.range' k (12 - k)).find? (mtc ws) = some k0) (h : ¬ ((ws.length : Int) = ((wrdB (k : Int)).length : Int) + 1 ∧ (ws.getD 0 ([], false)).1 = wrdA (k : Int))) : (List.range' (k + 1) (12 - (k + 1))).find? (mtc ws) = some k0 := by
 have hk := mt_le hK
 rw [show 12 - k = (12 - (k + 1)) + 1 by omega, List.range'_succ, List.find?_cons] at hK
 have : mtc ws k = false := decide_eq_false fun q => h ⟨by omega, q.2⟩
 rw [this] at hK; exact hK
theorem mt_yes (hK : (List.range' k (12 - k)).find? (mtc ws) = some k0) (h1 : (ws.length : Int) = ((wrdB (k : Int)).length : Int) + 1) (h2 : (ws.getD 0 ([], false)).1 = wrdA (k : Int)) : k0 = k := by
 have hk := mt_le hK
 rw [show 12 - k = (12 - (k + 1)) + 1 by omega, List.range'_succ, List.find?_cons] at hK
 have : mtc ws k = true := decide_eq_true ⟨by omega, h2⟩
 rw [this] at hK; exact (Option.some.inj hK).symm
theorem prs_of (h : prK ws = some k) : prF ws (wrdB (k : Int)) 1 ⟨k, 0, 0, 0, 0, 0, 0⟩ = prs ws := by unfold prs; rw [h]
theorem prF_step {t : List UInt8} {b : UInt8} {c R : OpC} (h : prF ws (t.drop i) (i + 1) c = R) (hb : t[i]? = some b) : prF ws (t.drop (i + 1)) (i + 1 + 1) (setP c (b.toNat : Int) (dv ws (i + 1))) = R := by
 obtain ⟨hi, rfl⟩ := List.getElem?_eq_some_iff.1 hb
 rw [List.drop_eq_getElem_cons hi] at h; exact h
theorem prF_end {t : List UInt8} {c R : OpC} (h : prF ws (t.drop i) (i + 1) c = R) (hi : t.length ≤ i) : c = R := by
 rw [List.drop_eq_nil_of_le hi] at h; exact h
theorem gDw {y : Wd} (h : ws[k]? = some y) : ws.getD k ([], false) = y := by rw [List.getD_eq_getElem?_getD, h]; rfl
theorem dv_at {y : Wd} (h : ws[k]? = some y) : dv ws k = ((y.1.getD 0 0).toNat : Int) - 48 := by unfold dv; rw [gDw h]
theorem okW_q (h : okW ws = true) {y : Wd} (hy : ws[k]? = some y) : y.2 = false := by
 unfold okW at h; simp only [Bool.and_eq_true] at h
 simpa using List.all_eq_true.1 h.1.2 y (List.mem_of_getElem? hy)
theorem okW_d (h : okW ws = true) {y : Wd} (hy : ws[k + 1]? = some y) : y.1.length = 1 ∧ 48 ≤ (y.1.getD 0 0).toNat ∧ (y.1.getD 0 0).toNat ≤ 57 := by
 unfold okW at h; simp only [Bool.and_eq_true] at h
 have := List.all_eq_true.1 h.1.1.2 y (List.mem_of_getElem? (i := k) (by rw [List.getElem?_drop, Nat.add_comm]; exact hy))
 exact of_decide_eq_true this
theorem okW_k (h : okW ws = true) : ∃ k, prK ws = some k := by
 unfold okW at h; simp only [Bool.and_eq_true] at h
 exact Option.isSome_iff_exists.1 h.1.1.1
theorem okW_l (h : okW ws = true) : ws.length ≤ 64 := by
 unfold okW at h; simp only [Bool.and_eq_true] at h
 exact (of_decide_eq_true h.2).1
theorem okW_5 (h : okW ws = true) : prK ws ≠ some 5 := by
 unfold okW at h; simp only [Bool.and_eq_true] at h
 exact (of_decide_eq_true h.2).2
theorem wrdB_le (k : Int) : (wrdB k).length ≤ 3 := by
 unfold wrdB
 repeat' split
 all_goals decide
theorem wrdB_v {k : Int} (h : k ≠ 5) {b : UInt8} (hb : (wrdB k)[i]? = some b) : (b.toNat : Int) ≠ 118 := by
 have e : ∀ l : List UInt8, l.all (fun b => decide ((b.toNat : Int) ≠ 118)) = true → b ∈ l → (b.toNat : Int) ≠ 118 := fun l h q => by simpa using List.all_eq_true.1 h b q
 refine e (wrdB k) ?_ (List.mem_of_getElem? hb)
 unfold wrdB
 repeat' split
 all_goals first | omega | decide
abbrev wrs (l : List UInt8) : List Wd := splGo l (l.length + 1) 0 []
def okL (l : List UInt8) : Bool := decide (l = []) || (decide (l.length ≤ 2000) && l.all (fun b => decide (b ≠ 34)) && (wrs l).all (fun w => barB w.1) && okW (wrs l))
def opsL (ls : List (List UInt8)) (k : Nat) : List OpC := ((ls.take k).filter (fun l => decide (l ≠ []))).map fun l => prs (wrs l)
theorem okL_h {l : List UInt8} (h : okL l = true) (h0 : ¬ l = []) : (0 < l.length ∧ l.length ≤ 2000) ∧ (∀ b ∈ l, b ≠ 34) ∧ (wrs l).all (fun w => barB w.1) = true ∧ okW (wrs l) = true := by
 unfold okL at h
 simp only [h0, decide_false, Bool.false_or, Bool.and_eq_true] at h
 refine ⟨⟨List.length_pos_iff.2 h0, of_decide_eq_true h.1.1.1⟩, fun b hb => ?_, h.1.2, h.2⟩
 simpa using List.all_eq_true.1 h.1.1.2 b hb
theorem opsL_skip {ls : List (List UInt8)} {y : List UInt8} (hy : ls[k]? = some y) (h : y = []) : opsL ls (k + 1) = opsL ls k := by
 unfold opsL; rw [List.take_add_one, hy]; simp [h]
theorem opsL_add {ls : List (List UInt8)} {y : List UInt8} (hy : ls[k]? = some y) (h : ¬ y = []) : opsL ls (k + 1) = opsL ls k ++ [prs (wrs y)] := by
 unfold opsL; rw [List.take_add_one, hy]; simp [h]
theorem opsL_len {ls : List (List UInt8)} : (opsL ls k).length ≤ k := by
 unfold opsL; rw [List.length_map]
 exact Nat.le_trans (List.length_filter_le _ _) (by rw [List.length_take]; omega)
def opsT (l : List UInt8) : List OpC := opsL (lnK l l.length) (lnK l l.length).length
def scr : List OpC := [⟨1, 0, 0, 0, 1, 1, 0⟩, ⟨1, 1, 0, 0, 1, 0, 0⟩, ⟨3, 0, 1, 0, 0, 0, 0⟩, ⟨7, 1, 0, 0, 0, 0, 0⟩, ⟨2, 1, 0, 0, 0, 0, 0⟩, ⟨7, 0, 0, 0, 0, 0, 0⟩, ⟨1, 0, 0, 0, 2, 2, 0⟩, ⟨4, 1, 0, 0, 0, 0, 0⟩]
theorem scr_eq : opsT [97, 108, 108, 111, 99, 32, 48, 32, 49, 32, 49, 10, 97, 108, 108, 111, 99, 32, 49, 32, 49, 32, 48, 10, 115, 116, 111, 114, 101, 32, 48, 32, 48, 32, 49, 10, 99, 108, 101, 97, 114, 32, 49, 10, 108, 111, 97, 100, 32, 49, 32, 48, 32, 48, 10, 99, 108, 101, 97, 114, 32, 48, 10, 97, 108, 108, 111, 99, 32, 48, 32, 50, 32, 50, 10, 114, 101, 97, 100, 32, 49, 32, 48, 10] = scr := by decide +kernel
end Go.Own.Ml
