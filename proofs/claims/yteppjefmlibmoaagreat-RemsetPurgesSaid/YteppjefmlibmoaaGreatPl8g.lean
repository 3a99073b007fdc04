import Derived.Test.YteppjefmlibmoaaGreatPl8f
/-! the references' changes and Purge -/
namespace Go.Own.E
open Go Go.Own Go.Own.R Go.Own.S
variable {C N Z K Q slot target old now : Int} {X : List (List Int)} {ns : List Int}
theorem tkC {α : Type} {l : List α} {j : Nat} {y : α} (h : l[j]? = some y) : l.take j ++ [y] = l.take (j + 1) := by
  rw [List.take_add_one, h]; rfl
theorem tk_lenq {U V : List SL} {car a b : Int} {k : Nat} (h : csF V = (pgC (csF U) car a b).take k) (hk : k ≤ U.length := by omega) : V.length = k := by
  have := congrArg List.length h
  rw [csF_len, List.length_take, pgC_len, csF_len] at this; omega
def asE (C N Z K Q : Int) (X : List (List Int)) (ns : List Int) (slot target : Int) : Int := if (rmP C N Z K Q X ns).2 ≠ 0 then (rmP C N Z K Q X ns).2 else plE C N Z K Q slot target
variable {i car a b : Int} {U : List SL} {k : Nat} {c y : List Int}
theorem pgC_at (h : X[k]? = some c) (hy : y = pgF car a b k c) : (pgC X car a b)[k]? = some y := by
  unfold pgC; rw [List.getElem?_mapIdx, h, hy]; rfl
theorem gD_ap (h : X[k]? = some c) : (X ++ [ns]).getD k [] = c := by
  have hk := (List.getElem?_eq_some_iff.1 h).1
  rw [List.getD_eq_getElem?_getD, List.getElem?_append_left hk, h]; rfl
theorem pnq_car (h : X[k]? = some c) (h2 : (k : Int) = car) : lnN c = pnF (X ++ [ns]) car a b k := by rw [pnF_car h2, gD_ap h]
theorem pnq_no (h : X[k]? = some c) (h2 : (k : Int) ≠ car) : pgN c a b = pnF (X ++ [ns]) car a b k := by rw [pnF_no h2, gD_ap h]
theorem ps_nx {f : Nat → Int} {e : Int} (h : e = f k) : psm f k + e = psm f (k + 1) := by rw [h]; rfl
theorem ps_end {n : Int} (hk : k = X.length) (h2 : (X.length : Int) ≠ car) (hn : n = psm (pnF (X ++ [ns]) car a b) k) : psm (pnF (X ++ [ns]) car a b) (X.length + 1) = n + pgN ns a b := by
  subst hk
  have : (X ++ [ns]).getD X.length [] = ns := by rw [List.getD_eq_getElem?_getD, List.getElem?_append_right (Nat.le_refl _), Nat.sub_self]; rfl
  simp only [psm]; rw [← hn, pnF_no h2, this]
end Go.Own.E
