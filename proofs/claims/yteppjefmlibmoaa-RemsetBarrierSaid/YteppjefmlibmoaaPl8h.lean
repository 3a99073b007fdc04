import Derived.Test.YteppjefmlibmoaaPl8f
/-! the references' changes and Purge -/
namespace Go.Own.E
open Go Go.Own Go.Own.R Go.Own.S
variable {C N Z K Q slot target old now : Int} {X : List (List Int)} {ns : List Int}
theorem pl_tg (h : plE C N Z K Q slot target = 0) (h2 : target ≠ 0) : caE C N Z K Q target = 0 := by
  unfold plE at h; split at h
  · omega
  · exact h
def asE (C N Z K Q : Int) (X : List (List Int)) (ns : List Int) (slot target : Int) : Int := if (rmP C N Z K Q X ns).2 ≠ 0 then (rmP C N Z K Q X ns).2 else plE C N Z K Q slot target
theorem plN_z : plN C N Z K Q slot 0 = -2 := by unfold plN; rw [if_pos (Or.inr (Or.inl rfl))]
variable {i car a b : Int} {U : List SL} {k : Nat} {c y : List Int}
theorem gD_ap (h : X[k]? = some c) : (X ++ [ns]).getD k [] = c := by
  have hk := (List.getElem?_eq_some_iff.1 h).1
  rw [List.getD_eq_getElem?_getD, List.getElem?_append_left hk, h]; rfl
end Go.Own.E

/-! the law's bounds -/
namespace Go.Own.E
open Go Go.Own Go.Own.R Go.Own.S
def frB (c : List Int) : Bool := decide ((300 < c.length ∧ c.length ≤ 8192) ∨ 8200 < c.length)
def FarB (X : List (List Int)) (ns : List Int) : Bool := decide (26 < X.length) || frB ns || X.any frB
variable {X : List (List Int)} {ns : List Int}
theorem nwX_len {C N Z K Q : Int} {m : Nat} (h : 24 ≤ m) : (nwC C N Z K Q).length ≤ m := by
  by_cases e : cfE C N Z K Q = 0
  · rw [(nw_k e).1, List.length_replicate]; have := cf_rng e; omega
  · rw [(nw_e e).1]; simp
theorem chX_len {C N Z K Q slot old now : Int} {m : Nat} (h : X.length ≤ m) : (chC C N Z K Q X ns slot old now).length ≤ m := by
  by_cases e : chE8 C N Z K Q X ns slot old now = 0
  · by_cases q : old = now
    · rw [(ch_same e q).1]; exact h
    · rw [(ch_k e q).1, cgC_len, cgC_len]; exact h
  · rw [(ch_bad e).1]; simp
theorem prX_len {C N Z K Q i : Int} {m : Nat} (h : X.length ≤ m) : (prC C N Z K Q X ns i).length ≤ m := by
  by_cases e : frE C N Z K Q X ns i = 0
  · rw [(pr_ok e).1, pgC_len]; exact h
  · rw [(pr_bad e).1]; simp
end Go.Own.E
