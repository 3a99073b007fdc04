import Derived.Test.YtpgkfndbfocibaaGreatPl15d
namespace Go.Own.Gr
open Go Go.Own Go.Own.R Go.Own.G
def SM (L : List Ab) : Prop := ∀ o ∈ L, o.1.length ≤ 1048576 ∧ o.2.length ≤ 1048576
theorem SM_nil : SM [] := fun _ h => (by cases h)
theorem SM.at {O : List Ob} {k : Nat} {y : Ob} (h : SM (O.map ab)) (hy : O[k]? = some y) : y.1.2.length ≤ 1048576 ∧ y.2.2.length ≤ 1048576 := h (ab y) (List.mem_of_getElem? (mapE hy))
theorem mp_snoc {O H : List Ob} {k : Nat} {y r : Ob} (h : H.map ab = (O.map ab).take k) (hy : O[k]? = some y) (hr : ab r = ab y) : (H ++ [r]).map ab = (O.map ab).take (k + 1) := by
 rw [List.map_append, h, List.take_add_one, mapE hy, List.map_singleton, hr]; rfl
theorem mp_len {O H : List Ob} {k : Nat} (h : H.map ab = (O.map ab).take k) (hk : k ≤ O.length) : H.length = k := by
 have := congrArg List.length h
 simp at this; omega
theorem mp_done {O H : List Ob} {k : Nat} (h : H.map ab = (O.map ab).take k) (hk : O.length ≤ k) : H.map ab = O.map ab := by
 rw [h, List.take_of_length_le (by simpa using hk)]
theorem mp_lenE {H : List Ob} {L : List Ab} (h : H.map ab = L) : H.length = L.length := by rw [← h, List.length_map]
theorem mp_set {H : List Ob} {k : Nat} {y : Ob} : (H.set k y).map ab = (H.map ab).set k (ab y) := List.map_set
def alX (p r : Int) (n : Nat) : Int := if p < 0 ∨ r < 0 then 10 else if 31 < p ∨ 31 - p < r then 11 else if n = 400 then 5 else 0
def nwO (p r : Int) : Ab := (List.replicate p.toNat 0, List.replicate r.toNat 0)
theorem al_ck {O : List Ab} {rs : List Int} {a p r : Int} (h : ckd O rs [a] ≠ 0) : alE O rs a p r = ckd O rs [a] ∧ alO O rs a p r = [] ∧ alR O rs a p r = [] := by
 have e : alE O rs a p r = ckd O rs [a] := by unfold alE; rw [if_pos h]
 refine ⟨e, ?_, ?_⟩
 ·unfold alO; rw [if_pos (by rw [e]; exact h)]
 ·unfold alR; rw [if_pos (by rw [e]; exact h)]
theorem al_X {O : List Ab} {rs : List Int} {a p r : Int} (h : ckd O rs [a] = 0) : alE O rs a p r = alX p r O.length := by
 unfold alE alX; rw [if_neg (by simpa using h)]
theorem al_no {O : List Ab} {rs : List Int} {a p r : Int} (h : ckd O rs [a] = 0) (hx : alX p r O.length ≠ 0) : alE O rs a p r = alX p r O.length ∧ alO O rs a p r = [] ∧ alR O rs a p r = [] := by
 have e := al_X (a := a) (p := p) (r := r) h
 refine ⟨e, ?_, ?_⟩
 ·unfold alO; rw [if_pos (by rw [e]; exact hx)]
 ·unfold alR; rw [if_pos (by rw [e]; exact hx)]
theorem al_ok' {O : List Ab} {rs : List Int} {a p r : Int} (h : ckd O rs [a] = 0) (hx : alX p r O.length = 0) : alE O rs a p r = 0 ∧ alO O rs a p r = O ++ [nwO p r] ∧ alR O rs a p r = rs.set a.toNat ((O.length : Int) + 1) := by
 have e := (al_X (a := a) (p := p) (r := r) h).trans hx
 refine ⟨e, ?_, ?_⟩
 ·unfold alO nwO; rw [if_neg (by rw [e]; decide)]
 ·unfold alR; rw [if_neg (by rw [e]; decide)]
abbrev noP (O : List Ab) (rs : List Int) (a f : Int) : Prop := rg rs a = 0 ∨ f < 0 ∨ ((ob O rs a).1.length : Int) ≤ f
abbrev noR (O : List Ab) (rs : List Int) (a f : Int) : Prop := rg rs a = 0 ∨ f < 0 ∨ ((ob O rs a).2.length : Int) ≤ f
theorem pt_ck {O : List Ab} {rs ns : List Int} {a f : Int} (h : ckd O rs ns ≠ 0) : ptE O rs ns a f = ckd O rs ns := by unfold ptE; rw [if_pos h]
theorem pt_no {O : List Ab} {rs ns : List Int} {a f : Int} (h : ckd O rs ns = 0) (hn : noP O rs a f) : ptE O rs ns a f = 10 := by unfold ptE; rw [if_neg (by simpa using h), if_pos hn]
theorem pt_ok {O : List Ab} {rs ns : List Int} {a f : Int} (h : ckd O rs ns = 0) (hn : ¬ noP O rs a f) : ptE O rs ns a f = 0 := by unfold ptE; rw [if_neg (by simpa using h), if_neg hn]
theorem rw_ck' {O : List Ab} {rs ns : List Int} {a f : Int} (h : ckd O rs ns ≠ 0) : rwE O rs ns a f = ckd O rs ns := by unfold rwE; rw [if_pos h]
theorem rw_no' {O : List Ab} {rs ns : List Int} {a f : Int} (h : ckd O rs ns = 0) (hn : noR O rs a f) : rwE O rs ns a f = 10 := by unfold rwE; rw [if_neg (by simpa using h), if_pos hn]
theorem rw_ok' {O : List Ab} {rs ns : List Int} {a f : Int} (h : ckd O rs ns = 0) (hn : ¬ noR O rs a f) : rwE O rs ns a f = 0 := by unfold rwE; rw [if_neg (by simpa using h), if_neg hn]
theorem ld_e {O : List Ab} {rs : List Int} {a b f : Int} (h : ptE O rs [a, b] b f ≠ 0) : ldO O rs a b f = [] ∧ ldR O rs a b f = [] := by unfold ldO ldR; rw [if_pos h, if_pos h]; exact ⟨rfl, rfl⟩
theorem ld_k {O : List Ab} {rs : List Int} {a b f : Int} (h : ptE O rs [a, b] b f = 0) : ldO O rs a b f = O ∧ ldR O rs a b f = rs.set a.toNat ((ob O rs b).1.getD f.toNat 0) := by unfold ldO ldR; rw [if_neg (by simpa using h), if_neg (by simpa using h)]; exact ⟨rfl, rfl⟩
theorem so_e {O : List Ab} {rs : List Int} {a f b : Int} (h : ptE O rs [a, b] a f ≠ 0) : soO O rs a f b = [] ∧ soR O rs a f b = [] := by unfold soO soR; rw [if_pos h, if_pos h]; exact ⟨rfl, rfl⟩
theorem so_k {O : List Ab} {rs : List Int} {a f b : Int} (h : ptE O rs [a, b] a f = 0) : soO O rs a f b = O.set (rg rs a - 1).toNat ((ob O rs a).1.set f.toNat (rg rs b), (ob O rs a).2) ∧ soR O rs a f b = rs := by unfold soO soR; rw [if_neg (by simpa using h), if_neg (by simpa using h)]; exact ⟨rfl, rfl⟩
theorem wr_e {O : List Ab} {rs : List Int} {a f x : Int} (h : rwE O rs [a] a f ≠ 0) : wrO O rs a f x = [] ∧ wrR O rs a f = [] := by unfold wrO wrR; rw [if_pos h, if_pos h]; exact ⟨rfl, rfl⟩
theorem wr_k {O : List Ab} {rs : List Int} {a f x : Int} (h : rwE O rs [a] a f = 0) : wrO O rs a f x = O.set (rg rs a - 1).toNat ((ob O rs a).1, (ob O rs a).2.set f.toNat x) ∧ wrR O rs a f = rs := by unfold wrO wrR; rw [if_neg (by simpa using h), if_neg (by simpa using h)]; exact ⟨rfl, rfl⟩
theorem mv_e {O : List Ab} {rs : List Int} {a b : Int} (h : ckd O rs [a, b] ≠ 0) : kpO O rs [a, b] = [] ∧ mvR O rs a b = [] := by unfold kpO mvR; rw [if_pos h, if_pos h]; exact ⟨rfl, rfl⟩
theorem mv_k {O : List Ab} {rs : List Int} {a b : Int} (h : ckd O rs [a, b] = 0) : kpO O rs [a, b] = O ∧ mvR O rs a b = rs.set a.toNat (rg rs b) := by unfold kpO mvR; rw [if_neg (by simpa using h), if_neg (by simpa using h)]; exact ⟨rfl, rfl⟩
theorem cl_e {O : List Ab} {rs : List Int} {a : Int} (h : ckd O rs [a] ≠ 0) : kpO O rs [a] = [] ∧ clR O rs a = [] := by unfold kpO clR; rw [if_pos h, if_pos h]; exact ⟨rfl, rfl⟩
theorem cl_k {O : List Ab} {rs : List Int} {a : Int} (h : ckd O rs [a] = 0) : kpO O rs [a] = O ∧ clR O rs a = rs.set a.toNat 0 := by unfold kpO clR; rw [if_neg (by simpa using h), if_neg (by simpa using h)]; exact ⟨rfl, rfl⟩
def smG (O : List Ab) (rs : List Int) (O2 : List Ab) (rs2 : List Int) : Bool := decide (O = O2 ∧ rs = rs2)
theorem tk_step {α : Type} {l m : List α} {k : Nat} {y z : α} (h : l.take k = m.take k) (hy : l[k]? = some y) (hz : m[k]? = some z) (e : y = z) : l.take (k + 1) = m.take (k + 1) := by
 rw [List.take_add_one, List.take_add_one, h, hy, hz, e]
theorem tk_all {α : Type} {l m : List α} {k : Nat} (h : l.take k = m.take k) (hl : l.length = m.length) (hk : l.length ≤ k) : l = m := by
 rw [List.take_of_length_le hk, List.take_of_length_le (by omega)] at h; exact h
theorem tk_ne {α : Type} {l m : List α} {k : Nat} {y z : α} (hy : l[k]? = some y) (hz : m[k]? = some z) (e : ¬ y = z) (h : l = m) : False := by
 subst h; rw [hy] at hz; cases hz; exact e rfl
theorem mp_get {O O2 : List Ob} {k : Nat} {y z : Ob} (h : O.map ab = O2.map ab) (hy : O[k]? = some y) (hz : O2[k]? = some z) : y.1.2 = z.1.2 ∧ y.2.2 = z.2.2 := by
 have h1 := mapE (g := ab) hy
 rw [h, mapE hz] at h1
 have := Option.some.inj h1
 simp only [ab, Prod.mk.injEq] at this
 exact ⟨this.1.symm, this.2.symm⟩
theorem mp_step {O O2 : List Ob} {k : Nat} {y z : Ob} (h : (O.map ab).take k = (O2.map ab).take k) (hy : O[k]? = some y) (hz : O2[k]? = some z) (h1 : y.1.2 = z.1.2) (h2 : y.2.2 = z.2.2) : (O.map ab).take (k + 1) = (O2.map ab).take (k + 1) :=
 tk_step h (mapE hy) (mapE hz) (by simp only [ab, h1, h2])
end Go.Own.Gr
