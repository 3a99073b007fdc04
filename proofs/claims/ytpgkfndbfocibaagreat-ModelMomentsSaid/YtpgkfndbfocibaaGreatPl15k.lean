import Derived.Test.YtpgkfndbfocibaaGreatPl15j
import Derived.Test.YtpgkfndbfocibaaGreatSepZ
namespace Go.Own.Gr
open Go Go.Own Go.Own.R Go.Own.G
theorem rg_mem {rs : List Int} {a : Int} (h : 0 ≤ a ∧ a < (rs.length : Int)) : rs[a.toNat]? = some (rg rs a) ∧ rg rs a ∈ rs := by
 have hl : a.toNat < rs.length := by omega
 have e : rg rs a = rs[a.toNat] := by unfold rg; rw [List.getD_eq_getElem?_getD, List.getElem?_eq_getElem hl]; rfl
 exact ⟨by rw [e]; exact List.getElem?_eq_getElem hl, by rw [e]; exact List.getElem_mem hl⟩
theorem ob_get {O : List Ab} {rs : List Int} {a : Int} (hg : GG O rs) (ha : 0 ≤ a ∧ a < (rs.length : Int)) (h0 : ¬ rg rs a = 0) :
  (rg rs a - 1).toNat < O.length ∧ O[(rg rs a - 1).toNat]? = some (ob O rs a) ∧ ob O rs a ∈ O ∧ 1 ≤ rg rs a ∧ rg rs a ≤ (O.length : Int) := by
 have hr := hg.reg _ (rg_mem ha).2
 have hl : (rg rs a - 1).toNat < O.length := by omega
 have e : ob O rs a = O[(rg rs a - 1).toNat] := by unfold ob; rw [List.getD_eq_getElem?_getD, List.getElem?_eq_getElem hl]; rfl
 exact ⟨hl, by rw [e]; exact List.getElem?_eq_getElem hl, by rw [e]; exact List.getElem_mem hl, by omega, by omega⟩
theorem pt_inv {O : List Ab} {rs ns : List Int} {a f : Int} (h : ptE O rs ns a f = 0) : ckd O rs ns = 0 ∧ ¬ noP O rs a f := by
 by_cases h1 : ckd O rs ns = 0
 ·refine ⟨h1, fun q => ?_⟩
  rw [pt_no h1 q] at h; cases h
 ·rw [pt_ck h1] at h; exact absurd h h1
theorem GG.set {O : List Ab} {rs : List Int} (hg : GG O rs) {i : Nat} {o : Ab} (h1 : sz2 o ≤ 31) (h2 : ∀ p ∈ o.1, 0 ≤ p ∧ p ≤ (O.length : Int)) : GG (O.set i o) rs :=
 ⟨hg.r1, hg.r8, by rw [List.length_set]; exact hg.o4, fun x hx => by
  rw [List.length_set]
  rcases List.mem_or_eq_of_mem_set hx with q | rfl
  ·exact hg.obj x q
  ·exact ⟨h1, h2⟩, by rw [List.length_set]; exact hg.reg⟩
theorem GG.regs {O : List Ab} {rs : List Int} (hg : GG O rs) {i : Nat} {v : Int} (h : 0 ≤ v ∧ v ≤ (O.length : Int)) : GG O (rs.set i v) :=
 ⟨by rw [List.length_set]; exact hg.r1, by rw [List.length_set]; exact hg.r8, hg.o4, hg.obj, fun p hp => by
  rcases List.mem_or_eq_of_mem_set hp with q | rfl
  ·exact hg.reg p q
  ·exact h⟩
theorem sz2_set {o : Ab} {k : Nat} {v : Int} : sz2 (o.1.set k v, o.2) = sz2 o := by unfold sz2; simp
theorem sz2_set2 {o : Ab} {k : Nat} {v : Int} : sz2 (o.1, o.2.set k v) = sz2 o := by unfold sz2; simp
theorem so_good {O : List Ab} {rs : List Int} {a f b : Int} (h : ptE O rs [a, b] a f = 0) :
  GG O rs ∧ (0 ≤ a ∧ a < (rs.length : Int)) ∧ (0 ≤ b ∧ b < (rs.length : Int)) ∧ ¬ noP O rs a f ∧ soO O rs a f b = O.set (rg rs a - 1).toNat ((ob O rs a).1.set f.toNat (rg rs b), (ob O rs a).2) ∧ soR O rs a f b = rs ∧
   GG (soO O rs a f b) rs ∧ (SM O → SM (soO O rs a f b)) ∧ ob (soO O rs a f b) rs a = ((ob O rs a).1.set f.toNat (rg rs b), (ob O rs a).2) := by
 obtain ⟨hcd, hn⟩ := pt_inv h
 obtain ⟨hg, hr⟩ := ckd_0.1 hcd
 have ha := hr a (by simp)
 have hb := hr b (by simp)
 obtain ⟨e1, e2⟩ := so_k h
 have h0 : ¬ rg rs a = 0 := fun q => hn (.inl q)
 obtain ⟨hl, hget, hmem, _, _⟩ := ob_get hg ha h0
 refine ⟨hg, ha, hb, hn, e1, e2, ?_, fun hs => ?_, ?_⟩
 ·rw [e1]
  refine hg.set ?_ fun p hp => ?_
  ·rw [sz2_set]; exact (hg.obj _ hmem).1
  ·rcases List.mem_or_eq_of_mem_set hp with q | rfl
   ·exact (hg.obj _ hmem).2 p q
   ·exact hg.reg _ (rg_mem hb).2
 ·rw [e1]
  intro o ho
  rcases List.mem_or_eq_of_mem_set ho with q | rfl
  ·exact hs o q
  ·have := hs _ hmem
   simp only [List.length_set]; exact this
 ·rw [e1]
  unfold ob
  rw [List.getD_eq_getElem?_getD, List.getElem?_set_self hl]; rfl
theorem wr_good {O : List Ab} {rs : List Int} {a f x : Int} (h : rwE O rs [a] a f = 0) :
  GG O rs ∧ (0 ≤ a ∧ a < (rs.length : Int)) ∧ ¬ noR O rs a f ∧ wrO O rs a f x = O.set (rg rs a - 1).toNat ((ob O rs a).1, (ob O rs a).2.set f.toNat x) ∧ wrR O rs a f = rs ∧
   GG (wrO O rs a f x) rs ∧ (SM O → SM (wrO O rs a f x)) ∧ ob (wrO O rs a f x) rs a = ((ob O rs a).1, (ob O rs a).2.set f.toNat x) := by
 obtain ⟨hcd, hn⟩ := rw_inv h
 obtain ⟨hg, hr⟩ := ckd_0.1 hcd
 have ha := hr a (by simp)
 obtain ⟨e1, e2⟩ := wr_k (x := x) h
 have h0 : ¬ rg rs a = 0 := fun q => hn (.inl q)
 obtain ⟨hl, hget, hmem, _, _⟩ := ob_get hg ha h0
 refine ⟨hg, ha, hn, e1, e2, ?_, fun hs => ?_, ?_⟩
 ·rw [e1]
  exact hg.set (by rw [sz2_set2]; exact (hg.obj _ hmem).1) (hg.obj _ hmem).2
 ·rw [e1]
  intro o ho
  rcases List.mem_or_eq_of_mem_set ho with q | rfl
  ·exact hs o q
  ·have := hs _ hmem
   simp only [List.length_set]; exact this
 ·rw [e1]
  unfold ob
  rw [List.getD_eq_getElem?_getD, List.getElem?_set_self hl]; rfl
theorem pt_set {O : List Ab} {i : Nat} {o : Ab} {x : Int} : pt (O.set i o) x = if i = (x - 1).toNat ∧ i < O.length then o.1 else pt O x := by
 unfold pt
 rw [List.getD_eq_getElem?_getD, List.getElem?_set, List.getD_eq_getElem?_getD]
 by_cases h : i = (x - 1).toNat
 ·by_cases h2 : i < O.length
  ·rw [if_pos h, if_pos h2, if_pos ⟨h, h2⟩]; rfl
  ·rw [if_pos h, if_neg h2, if_neg fun q => h2 q.2, List.getElem?_eq_none (by omega)]
 ·rw [if_neg h, if_neg fun q => h q.1]
structure Nx (O : List Ab) (rs : List Int) (O2 : List Ab) (rs2 : List Int) (al : Prop) : Prop where
 gg : GG O2 rs2
 len : O.length ≤ O2.length
 sm : SM O → SM O2
 old : ∀ x, Lv O2 rs2 x → Lv O rs x ∨ (al ∧ x = (O.length : Int) + 1)
 new : al → Lv O2 rs2 ((O.length : Int) + 1)
theorem Lv.regs {O : List Ab} {rs : List Int} {i : Nat} {v : Int} (hv : v = 0 ∨ Lv O rs v) : ∀ x, Lv O (rs.set i v) x → Lv O rs x := by
 intro x h
 induction h with
 | reg h h0 =>
  rcases List.mem_or_eq_of_mem_set h with q | rfl
  ·exact .reg q h0
  ·exact hv.resolve_left h0
 | ptr _ hj h0 ih => exact .ptr ih hj h0
theorem Nx.regs {O : List Ab} {rs : List Int} {i : Nat} {v : Int} (hg : GG O rs) (hv : v = 0 ∨ Lv O rs v) : Nx O rs O (rs.set i v) False :=
 ⟨hg.regs (hv.elim (fun q => by omega) fun q => by have := q.rng hg; omega), Nat.le_refl _, id, fun x h => .inl (Lv.regs hv x h), fun h => h.elim⟩
theorem rg_lv {O : List Ab} {rs : List Int} {a : Int} (ha : 0 ≤ a ∧ a < (rs.length : Int)) : rg rs a = 0 ∨ Lv O rs (rg rs a) := by
 by_cases h : rg rs a = 0
 ·exact .inl h
 ·exact .inr (.reg (rg_mem ha).2 h)
theorem ob_pt {O : List Ab} {rs : List Int} {a : Int} : pt O (rg rs a) = (ob O rs a).1 := rfl
theorem nx_load {O : List Ab} {rs : List Int} {a b f : Int} (h : ptE O rs [a, b] b f = 0) : Nx O rs (ldO O rs a b f) (ldR O rs a b f) False := by
 obtain ⟨hcd, hn⟩ := pt_inv h
 obtain ⟨hg, hr⟩ := ckd_0.1 hcd
 have hb := hr b (by simp)
 obtain ⟨e1, e2⟩ := ld_k h
 rw [e1, e2]
 refine Nx.regs hg ?_
 have h0 : ¬ rg rs b = 0 := fun q => hn (.inl q)
 have hf : f.toNat < (ob O rs b).1.length := by unfold noP at hn; omega
 have hm : (ob O rs b).1.getD f.toNat 0 ∈ pt O (rg rs b) := by
  rw [ob_pt, List.getD_eq_getElem?_getD, List.getElem?_eq_getElem hf]; exact List.getElem_mem hf
 by_cases hz : (ob O rs b).1.getD f.toNat 0 = 0
 ·exact .inl hz
 ·exact .inr (.ptr (.reg (rg_mem hb).2 h0) hm hz)
theorem nx_move {O : List Ab} {rs : List Int} {a b : Int} (h : ckd O rs [a, b] = 0) : Nx O rs (kpO O rs [a, b]) (mvR O rs a b) False := by
 obtain ⟨hg, hr⟩ := ckd_0.1 h
 obtain ⟨e1, e2⟩ := mv_k h
 rw [e1, e2]
 exact Nx.regs hg (rg_lv (hr b (by simp)))
theorem nx_clear {O : List Ab} {rs : List Int} {a : Int} (h : ckd O rs [a] = 0) : Nx O rs (kpO O rs [a]) (clR O rs a) False := by
 obtain ⟨hg, _⟩ := ckd_0.1 h
 obtain ⟨e1, e2⟩ := cl_k h
 rw [e1, e2]
 exact Nx.regs hg (.inl rfl)
theorem nx_store {O : List Ab} {rs : List Int} {a f b : Int} (h : ptE O rs [a, b] a f = 0) : Nx O rs (soO O rs a f b) (soR O rs a f b) False := by
 obtain ⟨hg, ha, hb, hn, e1, e2, hg2, hs, e3⟩ := so_good h
 rw [e2]
 refine ⟨hg2, by rw [e1, List.length_set]; exact Nat.le_refl _, hs, fun x hx => .inl ?_, fun h => h.elim⟩
 induction hx with
 | reg h h0 => exact .reg h h0
 | @ptr i j _ hj h0 ih =>
  rw [e1, pt_set] at hj
  split at hj
  ·rename_i hc
   have hi := ih.rng hg
   rcases List.mem_or_eq_of_mem_set hj with q | rfl
   ·refine .ptr ih ?_ h0
    have he : rg rs a = i := by
     have h0' : ¬ rg rs a = 0 := fun q => hn (.inl q)
     have := (ob_get hg ha h0').2.2.2
     omega
    rw [← he, ob_pt]; exact q
   ·exact (rg_lv hb).resolve_left h0
  ·exact .ptr ih hj h0
theorem nx_write {O : List Ab} {rs : List Int} {a f x : Int} (h : rwE O rs [a] a f = 0) : Nx O rs (wrO O rs a f x) (wrR O rs a f) False := by
 obtain ⟨hg, ha, hn, e1, e2, hg2, hs, e3⟩ := wr_good (x := x) h
 rw [e2]
 refine ⟨hg2, by rw [e1, List.length_set]; exact Nat.le_refl _, hs, fun y hy => .inl ?_, fun h => h.elim⟩
 induction hy with
 | reg h h0 => exact .reg h h0
 | @ptr i j _ hj h0 ih =>
  rw [e1, pt_set] at hj
  split at hj
  ·rename_i hc
   have hi := ih.rng hg
   refine .ptr ih ?_ h0
   have he : rg rs a = i := by
    have h0' : ¬ rg rs a = 0 := fun q => hn (.inl q)
    have := (ob_get hg ha h0').2.2.2
    omega
   rw [← he, ob_pt]; exact hj
  ·exact .ptr ih hj h0
theorem pt_app {O : List Ab} {o : Ab} {x : Int} (h : (x - 1).toNat < O.length) : pt (O ++ [o]) x = pt O x := by
 unfold pt; rw [List.getD_eq_getElem?_getD, List.getElem?_append_left h, List.getD_eq_getElem?_getD]
theorem nx_alloc {O : List Ab} {rs : List Int} {a p r : Int} (h : alE O rs a p r = 0) : Nx O rs (alO O rs a p r) (alR O rs a p r) True := by
 have hcd : ckd O rs [a] = 0 := by
  apply Classical.byContradiction; intro q
  rw [(al_ck q).1] at h; exact q h
 obtain ⟨hg, hr⟩ := ckd_0.1 hcd
 have ha := hr a (by simp)
 have hX : alX p r O.length = 0 := by rw [al_X hcd] at h; exact h
 obtain ⟨_, e1, e2⟩ := al_ok' (a := a) hcd hX
 obtain ⟨h0, h1, h2, h3⟩ := alX_lt hX
 have ho4 := hg.o4
 rw [e1, e2]
 have hpt : pt (O ++ [nwO p r]) ((O.length : Int) + 1) = List.replicate p.toNat 0 := by
  unfold pt
  have : ((O.length : Int) + 1 - 1).toNat = O.length := by omega
  rw [this, List.getD_eq_getElem?_getD, List.getElem?_append_right (Nat.le_refl _)]
  simp [nwO]
 have hgg : GG (O ++ [nwO p r]) (rs.set a.toNat ((O.length : Int) + 1)) := by
  refine ⟨by rw [List.length_set]; exact hg.r1, by rw [List.length_set]; exact hg.r8, by rw [List.length_append, List.length_singleton]; omega, fun x hx => ?_, fun x hx => ?_⟩
  ·rw [List.length_append, List.length_singleton]
   rcases List.mem_append.1 hx with q | q
   ·have := hg.obj x q
    exact ⟨this.1, fun y hy => by have := this.2 y hy; omega⟩
   ·rw [List.mem_singleton] at q; subst q
    refine ⟨?_, fun y hy => ?_⟩
    ·unfold sz2 nwO
     simp only [List.length_replicate]
     simp [IntKind.wrap, IntKind.bits, IntKind.signed]; omega
    ·unfold nwO at hy
     have := List.eq_of_mem_replicate hy
     omega
  ·rw [List.length_append, List.length_singleton]
   rcases List.mem_or_eq_of_mem_set hx with q | rfl
   ·have := hg.reg x q; omega
   ·omega
 refine ⟨hgg, by rw [List.length_append]; omega, fun hs o ho => ?_, fun x hx => ?_, fun _ => ?_⟩
 ·rcases List.mem_append.1 ho with q | q
  ·exact hs o q
  ·rw [List.mem_singleton] at q; subst q
   unfold nwO; simp only [List.length_replicate]; omega
 ·induction hx with
  | reg h hz =>
   rcases List.mem_or_eq_of_mem_set h with q | rfl
   ·exact .inl (.reg q hz)
   ·exact .inr ⟨trivial, rfl⟩
  | @ptr i j hi hj hz ih =>
   rcases ih with ih | ⟨_, rfl⟩
   ·have := ih.rng hg
    rw [pt_app (by omega)] at hj
    exact .inl (.ptr ih hj hz)
   ·rw [hpt] at hj
    exact absurd (List.eq_of_mem_replicate hj) hz
 ·refine .reg ?_ (by omega)
  have hl : a.toNat < rs.length := by omega
  exact List.mem_of_getElem? (i := a.toNat) (by rw [List.getElem?_set_self hl])
end Go.Own.Gr
