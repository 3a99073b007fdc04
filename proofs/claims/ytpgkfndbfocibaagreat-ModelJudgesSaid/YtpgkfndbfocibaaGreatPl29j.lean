import Derived.Test.YtpgkfndbfocibaaGreatPl29h
namespace Go.Own.Ml
open Go Go.Own Go.Own.R Go.Own.G Go.Own.Gr
def ckA : Nat → List OpC → List AnC → Int × Int
 | k, c :: r, a :: s => if anE c a ≠ 0 then ((k : Int), anE c a) else ckA (k + 1) r s
 | _, _, _ => (0, 0)
def rfJ (ans : List AnC) (k : Nat) : Bool := decide ((ans.getD k (AnC.mk 0 false 0)).e = 5)
def fbJ (ans : List AnC) : Nat → List (GA × AnC) → Int × Int
 | _, [] => (0, 0)
 | k, m :: r => if ans.getD k (AnC.mk 0 false 0) ≠ m.2 then ((k : Int), 4) else fbJ ans (k + 1) r
def reK : Nat → List (GA × AnC) → List Int
 | _, [] => []
 | k, m :: r => if m.2.e = 5 then (k : Int) :: reK (k + 1) r else reK (k + 1) r
def reJ (pre : List ME) : List Int := (pre.filter fun x : ME => decide (x.2.1.e = 5)).map (·.1)
def moJ (n K : Int) (l : List OpC) (ans : List AnC) : List (GA × AnC) := mom n (rfJ ans) 0 (g00 K) l
def jdF (cf n K : Int) (l : List OpC) (ans : List AnC) : Int × Int :=
 if (scE cf l).2 ≠ 0 then scE cf l else if ans.length ≠ l.length then (-1, 6) else if (ckA 0 l ans).2 ≠ 0 then ckA 0 l ans else fbJ ans 0 (moJ n K l ans)
def jdL (cf n K : Int) (l : List OpC) (ans : List AnC) : List Int := if (jdF cf n K l ans).2 ≠ 0 then [] else reK 0 (moJ n K l ans)
section
variable {cf n K : Int} {l : List OpC} {ans : List AnC} {k : Nat} {y : OpC} {z : AnC} {G0 : GV} {pre : List ME} {x : ME}
theorem ja_bad (h : ckA 0 l ans = ckA k (l.drop k) (ans.drop k)) (hy : l[k]? = some y) (hz : ans[k]? = some z) (h2 : anE y z ≠ 0) : ckA 0 l ans = ((k : Int), anE y z) := by
 rw [h, dropA hy, dropA hz, ckA, if_pos h2]
theorem ja_step (h : ckA 0 l ans = ckA k (l.drop k) (ans.drop k)) (hy : l[k]? = some y) (hz : ans[k]? = some z) (h2 : ¬ anE y z ≠ 0) : ckA 0 l ans = ckA (k + 1) (l.drop (k + 1)) (ans.drop (k + 1)) := by
 rw [h, dropA hy, dropA hz, ckA, if_neg h2]
theorem ja_end (h : ckA 0 l ans = ckA k (l.drop k) (ans.drop k)) (hk : l.length ≤ k) : ckA 0 l ans = (0, 0) := by
 rw [h, List.drop_eq_nil_of_le hk]; rfl
theorem jd_sc (h : (scE cf l).2 ≠ 0) : jdF cf n K l ans = scE cf l := if_pos h
theorem jd_len (h : scE cf l = (0, 0)) (h2 : ans.length ≠ l.length) : jdF cf n K l ans = (-1, 6) := by unfold jdF; rw [h, if_neg (by decide), if_pos h2]
theorem jd_ck {a e : Int} (h : scE cf l = (0, 0)) (h2 : ans.length = l.length) (h3 : ckA 0 l ans = (a, e)) (h4 : e ≠ 0) : jdF cf n K l ans = (a, e) := by
 unfold jdF; rw [h, if_neg (by decide), if_neg (fun q => q h2), h3, if_pos h4]
theorem jd_fb (h : scE cf l = (0, 0)) (h2 : ans.length = l.length) (h3 : ckA 0 l ans = (0, 0)) : jdF cf n K l ans = fbJ ans 0 (moJ n K l ans) := by
 unfold jdF; rw [h, if_neg (by decide), if_neg (fun q => q h2), h3, if_neg (by decide)]
theorem reJ_app : reJ (pre ++ [x]) = reJ pre ++ (if x.2.1.e = 5 then [x.1] else []) := by
 unfold reJ; rw [List.filter_append, List.map_append]
 congr 1
 by_cases h : x.2.1.e = 5 <;> simp [h]
theorem reJ_5 (h : x.2.1.e = 5) : reJ (pre ++ [x]) = reJ pre ++ [x.1] := by rw [reJ_app, if_pos h]
theorem reJ_0 (h : ¬ x.2.1.e = 5) : reJ (pre ++ [x]) = reJ pre := by rw [reJ_app, if_neg h, List.append_nil]
theorem reJ_len (pre : List ME) : (reJ pre).length ≤ pre.length := by unfold reJ; rw [List.length_map]; exact List.length_filter_le _ _
theorem reJ_K : ∀ (pre : List ME) (k : Nat), (∀ (i : Nat) (x : ME), pre[i]? = some x → x.1 = ((k + i : Nat) : Int)) → reJ pre = reK k (pre.map fun x : ME => (gab x.2.2, x.2.1))
 | [], _, _ => rfl
 | x :: r, k, h => by
  have h0 := h 0 x rfl
  have ih := reJ_K r (k + 1) fun i y hy => by have := h (i + 1) y (by simpa using hy); rw [this]; congr 1; omega
  have e : reJ (x :: r) = (if x.2.1.e = 5 then [x.1] else []) ++ reJ r := by
   unfold reJ; by_cases q : x.2.1.e = 5 <;> simp [q]
  rw [e, ih, List.map_cons, reK]
  simp only
  by_cases q : x.2.1.e = 5
  ·rw [if_pos q, if_pos q, h0]; rfl
  ·rw [if_neg q, if_neg q]; rfl
theorem jd_nx (hg : gab G0 = g00 K) (hT : Tr n (rfJ ans) G0 l (pre ++ [x])) (hz : fbJ ans 0 (moJ n K l ans) = fbJ ans pre.length ((moJ n K l ans).drop pre.length)) (hy : ans[pre.length]? = some z) (h : z = x.2.1) :
  fbJ ans 0 (moJ n K l ans) = fbJ ans (pre ++ [x]).length ((moJ n K l ans).drop (pre ++ [x]).length) := by
 have h1 := hT.at
 rw [hg] at h1
 have h2 : (moJ n K l ans)[pre.length]? = some (gab x.2.2, x.2.1) := h1.1
 rw [List.length_append, List.length_singleton, hz, dropA h2, fbJ, if_neg]
 simp only [List.getD_eq_getElem?_getD, hy, Option.getD_some, h, ne_eq, not_true_eq_false, not_false_eq_true]
theorem jd_bad (hg : gab G0 = g00 K) (hT : Tr n (rfJ ans) G0 l (pre ++ [x])) (hz : fbJ ans 0 (moJ n K l ans) = fbJ ans pre.length ((moJ n K l ans).drop pre.length)) (hy : ans[pre.length]? = some z) (h : ¬ z = x.2.1) :
  fbJ ans 0 (moJ n K l ans) = (x.1, 4) := by
 have h1 := hT.at
 rw [hg] at h1
 have h2 : (moJ n K l ans)[pre.length]? = some (gab x.2.2, x.2.1) := h1.1
 rw [h1.2, hz, dropA h2, fbJ, if_pos]
 simp only [List.getD_eq_getElem?_getD, hy, Option.getD_some]; exact h
theorem jd_done (hg : gab G0 = g00 K) (hT : Tr n (rfJ ans) G0 l pre) (hl : l.length ≤ pre.length) (hs : scE cf l = (0, 0)) (h2 : ans.length = l.length) (h3 : ckA 0 l ans = (0, 0))
  (hz : fbJ ans 0 (moJ n K l ans) = fbJ ans pre.length ((moJ n K l ans).drop pre.length)) : jdF cf n K l ans = (0, 0) ∧ reJ pre = jdL cf n K l ans := by
 have hM : pre.map (fun x : ME => (gab x.2.2, x.2.1)) = moJ n K l ans := by rw [hT.done hl, hg]; rfl
 have h0 : jdF cf n K l ans = (0, 0) := by
  rw [jd_fb hs h2 h3, hz, List.drop_eq_nil_of_le (by rw [← hM, List.length_map]; exact Nat.le_refl _)]; rfl
 refine ⟨h0, ?_⟩
 unfold jdL
 rw [h0, if_neg (by decide), ← hM]
 exact reJ_K pre 0 fun i x hx => by rw [hT.ix i x hx]; congr 1; omega
end
end Go.Own.Ml
namespace Go.Own.Ml
open Go Go.Own Go.Own.R Go.Own.G Go.Own.Gr
section
variable {cf n K : Int} {g : GA} {c : OpC}
end
end Go.Own.Ml
namespace Go.Own
open Go Go.RowKit
end Go.Own
