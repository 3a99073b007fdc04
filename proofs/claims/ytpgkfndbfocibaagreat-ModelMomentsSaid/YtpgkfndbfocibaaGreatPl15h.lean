import Derived.Test.YtpgkfndbfocibaaGreatPl15g
namespace Go.Own.Gr
open Go Go.Own Go.Own.R Go.Own.G
def nwE (n : Int) : Int := if n < 1 ∨ 8 < n then 7 else 0
def nwR (n : Int) : List Int := if n < 1 ∨ 8 < n then [] else List.replicate n.toNat 0
theorem nw_e {n : Int} (h : n < 1 ∨ 8 < n) : nwE n = 7 ∧ nwR n = [] := by unfold nwE nwR; rw [if_pos h, if_pos h]; exact ⟨rfl, rfl⟩
theorem nw_k {n : Int} (h : ¬ (n < 1 ∨ 8 < n)) : nwE n = 0 ∧ nwR n = List.replicate n.toNat 0 := by unfold nwE nwR; rw [if_neg h, if_neg h]; exact ⟨rfl, rfl⟩
def alI (p r : Int) (L : List Ab) : List Ab := if alX p r L.length ≠ 0 then L else L ++ [nwO p r]
def alJ (a p r : Int) (L : List Ab) (rs : List Int) : List Int := if alX p r L.length ≠ 0 then rs else rs.set a.toNat ((L.length : Int) + 1)
theorem alX_bad {p r : Int} {n : Nat} (h : p < 0 ∨ r < 0) : alX p r n = 10 := by unfold alX; rw [if_pos h]
theorem alX_big {p r : Int} {n : Nat} (h : ¬ (p < 0 ∨ r < 0)) (h2 : 31 < p ∨ 31 - p < r) : alX p r n = 11 := by unfold alX; rw [if_neg h, if_pos h2]
theorem alX_full {p r : Int} {n : Nat} (h : ¬ (p < 0 ∨ r < 0)) (h2 : ¬ (31 < p ∨ 31 - p < r)) (h3 : n = 400) : alX p r n = 5 := by unfold alX; rw [if_neg h, if_neg h2, if_pos h3]
theorem alX_ok {p r : Int} {n : Nat} (h : ¬ (p < 0 ∨ r < 0)) (h2 : ¬ (31 < p ∨ 31 - p < r)) (h3 : ¬ n = 400) : alX p r n = 0 := by unfold alX; rw [if_neg h, if_neg h2, if_neg h3]
theorem alX_lt {p r : Int} {n : Nat} (h : alX p r n = 0) : 0 ≤ p ∧ 0 ≤ r ∧ p + r ≤ 31 ∧ n ≠ 400 := by
 unfold alX at h
 split at h
 ·cases h
 ·split at h
  ·cases h
  ·split at h
   ·cases h
   ·omega
theorem al_I {p r : Int} {a : Int} {L : List Ab} {rs : List Int} (h : alX p r L.length ≠ 0) : alI p r L = L ∧ alJ a p r L rs = rs := by unfold alI alJ; rw [if_pos h, if_pos h]; exact ⟨rfl, rfl⟩
theorem al_J {p r : Int} {a : Int} {L : List Ab} {rs : List Int} (h : alX p r L.length = 0) : alI p r L = L ++ [nwO p r] ∧ alJ a p r L rs = rs.set a.toNat ((L.length : Int) + 1) := by unfold alI alJ; rw [if_neg (by simpa using h), if_neg (by simpa using h)]; exact ⟨rfl, rfl⟩
def ldX (L : List Ab) (rs : List Int) (b f : Int) : Int := if noP L rs b f then 10 else 0
def ldJ (L : List Ab) (rs : List Int) (a b f : Int) : List Int := if noP L rs b f then rs else rs.set a.toNat ((ob L rs b).1.getD f.toNat 0)
def soI (L : List Ab) (rs : List Int) (a f b : Int) : List Ab := if noP L rs a f then L else L.set (rg rs a - 1).toNat ((ob L rs a).1.set f.toNat (rg rs b), (ob L rs a).2)
def wrX (L : List Ab) (rs : List Int) (a f : Int) : Int := if noR L rs a f then 10 else 0
def wrI (L : List Ab) (rs : List Int) (a f x : Int) : List Ab := if noR L rs a f then L else L.set (rg rs a - 1).toNat ((ob L rs a).1, (ob L rs a).2.set f.toNat x)
theorem ldX_n {L : List Ab} {rs : List Int} {b f : Int} (h : noP L rs b f) : ldX L rs b f = 10 := if_pos h
theorem ldX_k {L : List Ab} {rs : List Int} {b f : Int} (h : ¬ noP L rs b f) : ldX L rs b f = 0 := if_neg h
theorem ldJ_n {L : List Ab} {rs : List Int} {a b f : Int} (h : noP L rs b f) : ldJ L rs a b f = rs := if_pos h
theorem ldJ_k {L : List Ab} {rs : List Int} {a b f : Int} (h : ¬ noP L rs b f) : ldJ L rs a b f = rs.set a.toNat ((ob L rs b).1.getD f.toNat 0) := if_neg h
theorem soI_n {L : List Ab} {rs : List Int} {a f b : Int} (h : noP L rs a f) : soI L rs a f b = L := if_pos h
theorem soI_k {L : List Ab} {rs : List Int} {a f b : Int} (h : ¬ noP L rs a f) : soI L rs a f b = L.set (rg rs a - 1).toNat ((ob L rs a).1.set f.toNat (rg rs b), (ob L rs a).2) := if_neg h
theorem wrX_n {L : List Ab} {rs : List Int} {a f : Int} (h : noR L rs a f) : wrX L rs a f = 10 := if_pos h
theorem wrX_k {L : List Ab} {rs : List Int} {a f : Int} (h : ¬ noR L rs a f) : wrX L rs a f = 0 := if_neg h
theorem wrI_n {L : List Ab} {rs : List Int} {a f x : Int} (h : noR L rs a f) : wrI L rs a f x = L := if_pos h
theorem wrI_k {L : List Ab} {rs : List Int} {a f x : Int} (h : ¬ noR L rs a f) : wrI L rs a f x = L.set (rg rs a - 1).toNat ((ob L rs a).1, (ob L rs a).2.set f.toNat x) := if_neg h
theorem getD_at {l : List Int} {k : Nat} {x : Int} (h : l[k]? = some x) : l.getD k 0 = x := by rw [List.getD_eq_getElem?_getD, h]; rfl
theorem so_map {O : List Ob} {rs : List Int} {a f b z : Int} {y : Ob} {kk : Nat} (hk : kk = (rg rs a - 1).toNat) (hy : O[kk]? = some y) (hz : rg rs b = z) (hn : ¬ noP (O.map ab) rs a f) : (O.set kk ((y.1.1, y.1.2.set f.toNat z), y.2)).map ab = soI (O.map ab) rs a f b := by
 subst hk
 rw [soI_k hn, mp_set, ob_at hy, hz]; rfl
theorem wr_map {O : List Ob} {rs : List Int} {a f x : Int} {y : Ob} {kk : Nat} (hk : kk = (rg rs a - 1).toNat) (hy : O[kk]? = some y) (hn : ¬ noR (O.map ab) rs a f) : (O.set kk (y.1, (y.2.1, y.2.2.set f.toNat x))).map ab = wrI (O.map ab) rs a f x := by
 subst hk
 rw [wrI_k hn, mp_set, ob_at hy]; rfl
theorem ld_all {O : List Ab} {rs : List Int} {a b f : Int} (h : ckd O rs [a, b] = 0) : ptE O rs [a, b] b f = ldX O rs b f ∧ (ldX O rs b f ≠ 0 → ldO O rs a b f = [] ∧ ldR O rs a b f = []) ∧ (ldX O rs b f = 0 → ldO O rs a b f = O ∧ ldR O rs a b f = ldJ O rs a b f) := by
 have e : ptE O rs [a, b] b f = ldX O rs b f := by
  by_cases q : noP O rs b f
  ·rw [pt_no h q, ldX_n q]
  ·rw [pt_ok h q, ldX_k q]
 refine ⟨e, fun q => ld_e (by rw [e]; exact q), fun q => ?_⟩
 have hn : ¬ noP O rs b f := fun r => by rw [ldX_n r] at q; cases q
 rw [ldJ_k hn]; exact ld_k (by rw [e]; exact q)
theorem so_all {O : List Ab} {rs : List Int} {a f b : Int} (h : ckd O rs [a, b] = 0) : ptE O rs [a, b] a f = ldX O rs a f ∧ (ldX O rs a f ≠ 0 → soO O rs a f b = [] ∧ soR O rs a f b = []) ∧ (ldX O rs a f = 0 → soO O rs a f b = soI O rs a f b ∧ soR O rs a f b = rs) := by
 have e : ptE O rs [a, b] a f = ldX O rs a f := by
  by_cases q : noP O rs a f
  ·rw [pt_no h q, ldX_n q]
  ·rw [pt_ok h q, ldX_k q]
 refine ⟨e, fun q => so_e (by rw [e]; exact q), fun q => ?_⟩
 have hn : ¬ noP O rs a f := fun r => by rw [ldX_n r] at q; cases q
 rw [soI_k hn]; exact so_k (by rw [e]; exact q)
theorem wr_all {O : List Ab} {rs : List Int} {a f x : Int} (h : ckd O rs [a] = 0) : rwE O rs [a] a f = wrX O rs a f ∧ (wrX O rs a f ≠ 0 → wrO O rs a f x = [] ∧ wrR O rs a f = []) ∧ (wrX O rs a f = 0 → wrO O rs a f x = wrI O rs a f x ∧ wrR O rs a f = rs) := by
 have e : rwE O rs [a] a f = wrX O rs a f := by
  by_cases q : noR O rs a f
  ·rw [rw_no' h q, wrX_n q]
  ·rw [rw_ok' h q, wrX_k q]
 refine ⟨e, fun q => wr_e (by rw [e]; exact q), fun q => ?_⟩
 have hn : ¬ noR O rs a f := fun r => by rw [wrX_n r] at q; cases q
 rw [wrI_k hn]; exact wr_k (by rw [e]; exact q)
end Go.Own.Gr
namespace Go.Own.Gr
open Go Go.Own Go.Own.R Go.Own.G
theorem noR_lt {O : List Ab} {rs : List Int} {a f : Int} {y : Ob} (hn : ¬ noR O rs a f) (h : ob O rs a = ab y) : 0 ≤ f ∧ f < (y.2.2.length : Int) := by
 unfold noR at hn; rw [h] at hn; simp only [ab] at hn; omega
theorem rw_inv {O : List Ab} {rs : List Int} {a f : Int} (h : rwE O rs [a] a f = 0) : ckd O rs [a] = 0 ∧ ¬ noR O rs a f := by
 by_cases h1 : ckd O rs [a] = 0
 ·refine ⟨h1, fun q => ?_⟩
  rw [rw_no' h1 q] at h; cases h
 ·rw [rw_ck' h1] at h; exact absurd h h1
theorem ob_of {O H : List Ob} {rs : List Int} {a q : Int} {y : Ob} (hH : H.map ab = O.map ab) (hq : rs[a.toNat]? = some q) (hy : H[(q - 1).toNat]? = some y) : ob (O.map ab) rs a = ab y := by
 rw [← hH]; exact ob_at (by rw [rg_at hq]; exact hy)
end Go.Own.Gr
