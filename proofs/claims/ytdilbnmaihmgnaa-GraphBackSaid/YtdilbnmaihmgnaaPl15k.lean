import Derived.Test.YtdilbnmaihmgnaaPl15j
import Derived.Test.YtdilbnmaihmgnaaSepZ
/-! what is stored is loaded; what is dead stays dead -/
namespace Go.Own.Gr
open Go Go.Own Go.Own.R Go.Own.G
theorem rg_mem {rs : List Int} {a : Int} (h : 0 ≤ a ∧ a < (rs.length : Int)) : rs[a.toNat]? = some (rg rs a) ∧ rg rs a ∈ rs := by
  have hl : a.toNat < rs.length := by omega
  have e : rg rs a = rs[a.toNat] := by unfold rg; rw [List.getD_eq_getElem?_getD, List.getElem?_eq_getElem hl]; rfl
  exact ⟨by rw [e]; exact List.getElem?_eq_getElem hl, by rw [e]; exact List.getElem_mem hl⟩
theorem ob_get {O : List Ab} {rs : List Int} {a : Int} (hg : GG O rs) (ha : 0 ≤ a ∧ a < (rs.length : Int)) (h0 : ¬ rg rs a = 0) :
    (rg rs a - 1).toNat < O.length ∧ O[(rg rs a - 1).toNat]? = some (ob O rs a) ∧ ob O rs a ∈ O ∧ 1 ≤ rg rs a ∧ rg rs a ≤ (O.length : Int) := by
  have hr := hg.reg _ (rg_mem ha).2
  have hl : (rg rs a - 1).toNat < O.length := by omega
  have e : ob O rs a = O[(rg rs a - 1).toNat] := by unfold ob; rw [List.getD_eq_getElem?_getD, List.getElem?_eq_getElem hl]; rfl
  exact ⟨hl, by rw [e]; exact List.getElem?_eq_getElem hl, by rw [e]; exact List.getElem_mem hl, by omega, by omega⟩
theorem pt_inv {O : List Ab} {rs ns : List Int} {a f : Int} (h : ptE O rs ns a f = 0) : ckd O rs ns = 0 ∧ ¬ noP O rs a f := by
  by_cases h1 : ckd O rs ns = 0
  · refine ⟨h1, fun q => ?_⟩
    rw [pt_no h1 q] at h; cases h
  · rw [pt_ck h1] at h; exact absurd h h1
theorem GG.set {O : List Ab} {rs : List Int} (hg : GG O rs) {i : Nat} {o : Ab} (h1 : sz2 o ≤ 31) (h2 : ∀ p ∈ o.1, 0 ≤ p ∧ p ≤ (O.length : Int)) : GG (O.set i o) rs :=
  ⟨hg.r1, hg.r8, by rw [List.length_set]; exact hg.o4, fun x hx => by
    rw [List.length_set]
    rcases List.mem_or_eq_of_mem_set hx with q | rfl
    · exact hg.obj x q
    · exact ⟨h1, h2⟩, by rw [List.length_set]; exact hg.reg⟩
theorem GG.regs {O : List Ab} {rs : List Int} (hg : GG O rs) {i : Nat} {v : Int} (h : 0 ≤ v ∧ v ≤ (O.length : Int)) : GG O (rs.set i v) :=
  ⟨by rw [List.length_set]; exact hg.r1, by rw [List.length_set]; exact hg.r8, hg.o4, hg.obj, fun p hp => by
    rcases List.mem_or_eq_of_mem_set hp with q | rfl
    · exact hg.reg p q
    · exact h⟩
theorem sz2_set {o : Ab} {k : Nat} {v : Int} : sz2 (o.1.set k v, o.2) = sz2 o := by unfold sz2; simp
theorem sz2_set2 {o : Ab} {k : Nat} {v : Int} : sz2 (o.1, o.2.set k v) = sz2 o := by unfold sz2; simp
theorem set_getD {l : List Int} {k : Nat} : l.set k (l.getD k 0) = l := by
  by_cases h : k < l.length
  · have e : l[k]? = some (l.getD k 0) := by rw [List.getD_eq_getElem?_getD, List.getElem?_eq_getElem h]; rfl
    exact set_same e
  · exact List.set_eq_of_length_le (by omega)
/-- what a store makes. -/
theorem so_good {O : List Ab} {rs : List Int} {a f b : Int} (h : ptE O rs [a, b] a f = 0) :
    GG O rs ∧ (0 ≤ a ∧ a < (rs.length : Int)) ∧ (0 ≤ b ∧ b < (rs.length : Int)) ∧ ¬ noP O rs a f ∧ soO O rs a f b = O.set (rg rs a - 1).toNat ((ob O rs a).1.set f.toNat (rg rs b), (ob O rs a).2) ∧ soR O rs a f b = rs ∧
      GG (soO O rs a f b) rs ∧ (SM O → SM (soO O rs a f b)) ∧ ob (soO O rs a f b) rs a = ((ob O rs a).1.set f.toNat (rg rs b), (ob O rs a).2) := by
  obtain ⟨hcd, hn⟩ := pt_inv h
  obtain ⟨hg, hr⟩ := ckd_0.1 hcd
  have ha := hr a (by simp)
  have hb := hr b (by simp)
  obtain ⟨e1, e2⟩ := so_k h
  have h0 : ¬ rg rs a = 0 := fun q => hn (.inl q)
  obtain ⟨hl, hget, hmem, _, _⟩ := ob_get hg ha h0
  refine ⟨hg, ha, hb, hn, e1, e2, ?_, fun hs => ?_, ?_⟩
  · rw [e1]
    refine hg.set ?_ fun p hp => ?_
    · rw [sz2_set]; exact (hg.obj _ hmem).1
    · rcases List.mem_or_eq_of_mem_set hp with q | rfl
      · exact (hg.obj _ hmem).2 p q
      · exact hg.reg _ (rg_mem hb).2
  · rw [e1]
    intro o ho
    rcases List.mem_or_eq_of_mem_set ho with q | rfl
    · exact hs o q
    · have := hs _ hmem
      simp only [List.length_set]; exact this
  · rw [e1]
    unfold ob
    rw [List.getD_eq_getElem?_getD, List.getElem?_set_self hl]; rfl
theorem noP_set {O O2 : List Ab} {rs : List Int} {a f : Int} (h : (ob O2 rs a).1.length = (ob O rs a).1.length) : noP O2 rs a f ↔ noP O rs a f := by unfold noP; rw [h]
theorem bk_store {O : List Ab} {rs : List Int} {a f b : Int} (h : ptE O rs [a, b] a f = 0) :
    ptE (soO O rs a f b) (soR O rs a f b) [b, a] a f = 0 ∧ ldO (soO O rs a f b) (soR O rs a f b) b a f = soO O rs a f b ∧ ldR (soO O rs a f b) (soR O rs a f b) b a f = soR O rs a f b ∧
      ptE (soO O rs a f b) (soR O rs a f b) [a, b] a f = 0 ∧ soO (soO O rs a f b) (soR O rs a f b) a f b = soO O rs a f b ∧ soR (soO O rs a f b) (soR O rs a f b) a f b = soR O rs a f b := by
  obtain ⟨hg, ha, hb, hn, e1, e2, hg2, _, e3⟩ := so_good h
  have hn2 : ¬ noP (soO O rs a f b) rs a f := fun q => hn ((noP_set (by rw [e3]; simp)).1 q)
  have hf : f.toNat < (ob O rs a).1.length := by
    unfold noP at hn; omega
  rw [e2]
  have c1 : ckd (soO O rs a f b) rs [b, a] = 0 := ckd_0.2 ⟨hg2, fun x hx => by
    rcases List.mem_cons.1 hx with rfl | hx
    · exact hb
    · rw [List.mem_singleton] at hx; subst hx; exact ha⟩
  have c2 : ckd (soO O rs a f b) rs [a, b] = 0 := ckd_0.2 ⟨hg2, fun x hx => by
    rcases List.mem_cons.1 hx with rfl | hx
    · exact ha
    · rw [List.mem_singleton] at hx; subst hx; exact hb⟩
  have p1 := pt_ok c1 hn2
  have p2 := pt_ok c2 hn2
  have l1 := ld_k (O := soO O rs a f b) (rs := rs) (a := b) (b := a) (f := f) p1
  have s1 := so_k (O := soO O rs a f b) (rs := rs) (a := a) (f := f) (b := b) p2
  refine ⟨p1, l1.1, ?_, p2, ?_, s1.2⟩
  · rw [l1.2, e3]
    have : ((ob O rs a).1.set f.toNat (rg rs b)).getD f.toNat 0 = rg rs b := by
      rw [List.getD_eq_getElem?_getD, List.getElem?_set_self hf]; rfl
    simp only [this]
    exact set_same (rg_mem hb).1
  · rw [s1.1, e3, e1]
    simp only [List.set_set]
/-- .. a write. -/
theorem wr_good {O : List Ab} {rs : List Int} {a f x : Int} (h : rwE O rs [a] a f = 0) :
    GG O rs ∧ (0 ≤ a ∧ a < (rs.length : Int)) ∧ ¬ noR O rs a f ∧ wrO O rs a f x = O.set (rg rs a - 1).toNat ((ob O rs a).1, (ob O rs a).2.set f.toNat x) ∧ wrR O rs a f = rs ∧
      GG (wrO O rs a f x) rs ∧ (SM O → SM (wrO O rs a f x)) ∧ ob (wrO O rs a f x) rs a = ((ob O rs a).1, (ob O rs a).2.set f.toNat x) := by
  obtain ⟨hcd, hn⟩ := rw_inv h
  obtain ⟨hg, hr⟩ := ckd_0.1 hcd
  have ha := hr a (by simp)
  obtain ⟨e1, e2⟩ := wr_k (x := x) h
  have h0 : ¬ rg rs a = 0 := fun q => hn (.inl q)
  obtain ⟨hl, hget, hmem, _, _⟩ := ob_get hg ha h0
  refine ⟨hg, ha, hn, e1, e2, ?_, fun hs => ?_, ?_⟩
  · rw [e1]
    exact hg.set (by rw [sz2_set2]; exact (hg.obj _ hmem).1) (hg.obj _ hmem).2
  · rw [e1]
    intro o ho
    rcases List.mem_or_eq_of_mem_set ho with q | rfl
    · exact hs o q
    · have := hs _ hmem
      simp only [List.length_set]; exact this
  · rw [e1]
    unfold ob
    rw [List.getD_eq_getElem?_getD, List.getElem?_set_self hl]; rfl
theorem noR_set {O O2 : List Ab} {rs : List Int} {a f : Int} (h : (ob O2 rs a).2.length = (ob O rs a).2.length) : noR O2 rs a f ↔ noR O rs a f := by unfold noR; rw [h]
theorem bk_write {O : List Ab} {rs : List Int} {a f x : Int} (h : rwE O rs [a] a f = 0) :
    rwE (wrO O rs a f x) (wrR O rs a f) [a] a f = 0 ∧ rdV (wrO O rs a f x) (wrR O rs a f) a f = x ∧ wrO (wrO O rs a f x) (wrR O rs a f) a f (rdV O rs a f) = O ∧ wrR (wrO O rs a f x) (wrR O rs a f) a f = rs := by
  obtain ⟨hg, ha, hn, e1, e2, hg2, _, e3⟩ := wr_good (x := x) h
  have hn2 : ¬ noR (wrO O rs a f x) rs a f := fun q => hn ((noR_set (by rw [e3]; simp)).1 q)
  have hf : f.toNat < (ob O rs a).2.length := by unfold noR at hn; omega
  have h0 : ¬ rg rs a = 0 := fun q => hn (.inl q)
  obtain ⟨hl, hget, hmem, _, _⟩ := ob_get hg ha h0
  rw [e2]
  have c1 : ckd (wrO O rs a f x) rs [a] = 0 := ckd_0.2 ⟨hg2, fun y hy => by rw [List.mem_singleton] at hy; subst hy; exact ha⟩
  have p1 := rw_ok' c1 hn2
  have hget2 : (ob (wrO O rs a f x) rs a).2[f.toNat]? = some x := by rw [e3]; simp only; rw [List.getElem?_set_self hf]
  refine ⟨p1, ?_, ?_, (wr_k (x := x) p1).2⟩
  · exact (rw_ok c1 hn2 rfl hget2).2
  · have hv : rdV O rs a f = (ob O rs a).2.getD f.toNat 0 := by unfold rdV; rw [if_neg (by rw [h]; decide)]
    rw [(wr_k (x := rdV O rs a f) p1).1, e3, e1, hv]
    simp only [List.set_set, set_getD]
    exact set_same hget
structure Nx (O : List Ab) (rs : List Int) (O2 : List Ab) (rs2 : List Int) (al : Prop) : Prop where
  gg : GG O2 rs2
  len : O.length ≤ O2.length
  sm : SM O → SM O2
  old : ∀ x, Lv O2 rs2 x → Lv O rs x ∨ (al ∧ x = (O.length : Int) + 1)
  new : al → Lv O2 rs2 ((O.length : Int) + 1)
/-- registers that hold live objects. -/
theorem Lv.regs {O : List Ab} {rs : List Int} {i : Nat} {v : Int} (hv : v = 0 ∨ Lv O rs v) : ∀ x, Lv O (rs.set i v) x → Lv O rs x := by
  intro x h
  induction h with
  | reg h h0 =>
    rcases List.mem_or_eq_of_mem_set h with q | rfl
    · exact .reg q h0
    · exact hv.resolve_left h0
  | ptr _ hj h0 ih => exact .ptr ih hj h0
theorem Nx.regs {O : List Ab} {rs : List Int} {i : Nat} {v : Int} (hg : GG O rs) (hv : v = 0 ∨ Lv O rs v) : Nx O rs O (rs.set i v) False :=
  ⟨hg.regs (hv.elim (fun q => by omega) fun q => by have := q.rng hg; omega), Nat.le_refl _, id, fun x h => .inl (Lv.regs hv x h), fun h => h.elim⟩
end Go.Own.Gr
