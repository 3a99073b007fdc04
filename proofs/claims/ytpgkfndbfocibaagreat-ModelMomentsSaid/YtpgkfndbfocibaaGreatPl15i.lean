import Derived.Test.YtpgkfndbfocibaaGreatPl15h
namespace Go.Own.Gr
open Go Go.Own Go.Own.R Go.Own.G
theorem ld_ck {O : List Ab} {rs : List Int} {a b f : Int} (h : ckd O rs [a, b] ≠ 0) : ptE O rs [a, b] b f = ckd O rs [a, b] ∧ ldO O rs a b f = [] ∧ ldR O rs a b f = [] :=
 ⟨pt_ck h, ld_e (by rw [pt_ck h]; exact h)⟩
theorem so_ck {O : List Ab} {rs : List Int} {a f b : Int} (h : ckd O rs [a, b] ≠ 0) : ptE O rs [a, b] a f = ckd O rs [a, b] ∧ soO O rs a f b = [] ∧ soR O rs a f b = [] :=
 ⟨pt_ck h, so_e (by rw [pt_ck h]; exact h)⟩
theorem wr_ck {O : List Ab} {rs : List Int} {a f x : Int} (h : ckd O rs [a] ≠ 0) : rwE O rs [a] a f = ckd O rs [a] ∧ wrO O rs a f x = [] ∧ wrR O rs a f = [] :=
 ⟨rw_ck' h, wr_e (by rw [rw_ck' h]; exact h)⟩
theorem mv_ck {O : List Ab} {rs : List Int} {a b : Int} (h : ckd O rs [a, b] ≠ 0) : ckd O rs [a, b] = ckd O rs [a, b] ∧ kpO O rs [a, b] = [] ∧ mvR O rs a b = [] := ⟨rfl, mv_e h⟩
theorem cl_ck {O : List Ab} {rs : List Int} {a : Int} (h : ckd O rs [a] ≠ 0) : ckd O rs [a] = ckd O rs [a] ∧ kpO O rs [a] = [] ∧ clR O rs a = [] := ⟨rfl, cl_e h⟩
theorem al_in {O : List Ab} {rs : List Int} {a p r : Int} (h : ckd O rs [a] = 0) : (alX p r O.length ≠ 0 → alE O rs a p r = alX p r O.length ∧ alO O rs a p r = [] ∧ alR O rs a p r = []) ∧ (alX p r O.length = 0 → alE O rs a p r = 0 ∧ alO O rs a p r = alI p r O ∧ alR O rs a p r = alJ a p r O rs) :=
 ⟨fun q => al_no h q, fun q => by rw [(al_J (a := a) (rs := rs) q).1, (al_J (a := a) (rs := rs) q).2]; exact al_ok' h q⟩
theorem ld_in {O : List Ab} {rs : List Int} {a b f : Int} (h : ckd O rs [a, b] = 0) : (ldX O rs b f ≠ 0 → ptE O rs [a, b] b f = ldX O rs b f ∧ ldO O rs a b f = [] ∧ ldR O rs a b f = []) ∧ (ldX O rs b f = 0 → ptE O rs [a, b] b f = 0 ∧ ldO O rs a b f = O ∧ ldR O rs a b f = ldJ O rs a b f) :=
 ⟨fun q => ⟨(ld_all (a := a) h).1, (ld_all h).2.1 q⟩, fun q => ⟨(ld_all (a := a) h).1.trans q, (ld_all h).2.2 q⟩⟩
theorem so_in {O : List Ab} {rs : List Int} {a f b : Int} (h : ckd O rs [a, b] = 0) : (ldX O rs a f ≠ 0 → ptE O rs [a, b] a f = ldX O rs a f ∧ soO O rs a f b = [] ∧ soR O rs a f b = []) ∧ (ldX O rs a f = 0 → ptE O rs [a, b] a f = 0 ∧ soO O rs a f b = soI O rs a f b ∧ soR O rs a f b = rs) :=
 ⟨fun q => ⟨(so_all (b := b) h).1, (so_all h).2.1 q⟩, fun q => ⟨(so_all (b := b) h).1.trans q, (so_all h).2.2 q⟩⟩
theorem wr_in {O : List Ab} {rs : List Int} {a f x : Int} (h : ckd O rs [a] = 0) : (wrX O rs a f ≠ 0 → rwE O rs [a] a f = wrX O rs a f ∧ wrO O rs a f x = [] ∧ wrR O rs a f = []) ∧ (wrX O rs a f = 0 → rwE O rs [a] a f = 0 ∧ wrO O rs a f x = wrI O rs a f x ∧ wrR O rs a f = rs) :=
 ⟨fun q => ⟨(wr_all (x := x) h).1, (wr_all h).2.1 q⟩, fun q => ⟨(wr_all (x := x) h).1.trans q, (wr_all h).2.2 q⟩⟩
theorem al_map {O : List Ob} {v u : Value} {p r : Int} : (O ++ [((v, List.replicate p.toNat (0 : Int)), (u, List.replicate r.toNat (0 : Int)))]).map ab = O.map ab ++ [nwO p r] := by rw [List.map_append]; rfl
end Go.Own.Gr
