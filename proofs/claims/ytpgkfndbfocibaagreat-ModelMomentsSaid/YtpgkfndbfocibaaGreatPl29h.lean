import Derived.Test.YtpgkfndbfocibaaGreatSep29f
import Derived.Test.YtpgkfndbfocibaaGreatPl15g
import Derived.Test.YtpgkfndbfocibaaGreatPl15k
namespace Go.Own.Ml
open Go Go.Own Go.Own.R Go.Own.G Go.Own.Gr
def szO (o : Ab) : Int := 1 + (o.1.length : Int) + (o.2.length : Int)
def szs (g : GA) : List Int := g.1.map szO
def WF (g : GA) : Int := wdN g.1 g.2
def dG : GA := ([], [])
def plL (cf n K : Int) (l : List OpC) (full : List Int) : GA := (plG cf n K l full).getD ((plG cf n K l full).length - 1) dG
def lfF (cf n K : Int) (l : List OpC) (full : List Int) (a b : Int) : Int × Int :=
 if (plF cf n K l full).2 ≠ 0 then (0, (plF cf n K l full).2) else if a < 0 ∨ b < a ∨ (l.length : Int) < b then (0, 7)
 else (WF ((plG cf n K l full).getD a.toNat dG) + ((szs ((plG cf n K l full).getD b.toNat dG)).drop ((plG cf n K l full).getD a.toNat dG).1.length).sum, 0)
def Gw (g g' : GA) : Prop := szs g <+: szs g' ∧ g'.1.length ≤ g.1.length + 1
theorem Gw.refl (g : GA) : Gw g g := ⟨List.prefix_refl _, by omega⟩
theorem szs_set {L : List Ab} {i : Nat} {o : Ab} {R R' : List Int} (h : i < L.length → szO o = szO (L.getD i ([], []))) : szs (L.set i o, R) = szs (L, R') := by
 unfold szs
 simp only
 rw [List.map_set]
 rcases Nat.lt_or_ge i L.length with q | q
 ·rw [h q, List.getD_eq_getElem?_getD, List.getElem?_eq_getElem q]
  refine List.ext_getElem (by simp) fun j h1 h2 => ?_
  rw [List.getElem_set]
  split
  ·rename_i e; subst e; simp
  ·rfl
 ·exact List.set_eq_of_length_le (by simpa using q)
theorem fin_Gw {g g' : GA} {er : Int} (h : er = 0 → Gw g g') : Gw g (fin g er g').1 := by
 unfold fin; split
 ·exact h (by assumption)
 ·exact Gw.refl g
theorem doG_Gw {mx : Int} {g : GA} {c : OpC} : Gw g (doG mx g c).1 := by
 have al : Gw g (fin g (alA mx g c.a c.p c.q) (alO g.1 g.2 c.a c.p c.q, alR g.1 g.2 c.a c.p c.q)).1 := fin_Gw fun er => by
  have he : alE g.1 g.2 c.a c.p c.q = 0 := by
   unfold alA at er
   split at er
   ·exact absurd er (by assumption)
   ·split at er
    ·cases er
    ·split at er
     ·cases er
     ·exact er
  obtain ⟨h1, h2, h3, h4, h5, _⟩ := alE_k he
  unfold Gw szs
  simp only
  rw [h5, List.map_append, List.length_append]
  exact ⟨List.prefix_append _ _, by simp⟩
 have so : Gw g (fin g (ptE g.1 g.2 [c.a, c.b] c.a c.f) (soO g.1 g.2 c.a c.f c.b, soR g.1 g.2 c.a c.f c.b)).1 := fin_Gw fun er => by
  unfold soO; rw [if_neg (by omega)]
  refine ⟨?_, by simp⟩
  have : szs (g.1.set (rg g.2 c.a - 1).toNat ((Gr.ob g.1 g.2 c.a).1.set c.f.toNat (rg g.2 c.b), (Gr.ob g.1 g.2 c.a).2), soR g.1 g.2 c.a c.f c.b) = szs (g.1, g.2) := szs_set fun h => by unfold szO Gr.ob; simp
  exact this ▸ List.prefix_refl _
 have wr : Gw g (fin g (rwE g.1 g.2 [c.a] c.a c.f) (wrO g.1 g.2 c.a c.f c.u, wrR g.1 g.2 c.a c.f)).1 := fin_Gw fun er => by
  unfold wrO; rw [if_neg (by omega)]
  refine ⟨?_, by simp⟩
  have : szs (g.1.set (rg g.2 c.a - 1).toNat ((Gr.ob g.1 g.2 c.a).1, (Gr.ob g.1 g.2 c.a).2.set c.f.toNat c.u), wrR g.1 g.2 c.a c.f) = szs (g.1, g.2) := szs_set fun h => by unfold szO Gr.ob; simp
  exact this ▸ List.prefix_refl _
 have ld : Gw g (fin g (ptE g.1 g.2 [c.a, c.b] c.b c.f) (ldO g.1 g.2 c.a c.b c.f, ldR g.1 g.2 c.a c.b c.f)).1 := fin_Gw fun er => by
  unfold ldO; rw [if_neg (by omega)]; exact Gw.refl (g.1, _)
 have kp : ∀ ns R, Gw g (fin g (ckd g.1 g.2 ns) (kpO g.1 g.2 ns, R)).1 := fun ns R => fin_Gw fun er => by
  unfold kpO; rw [if_neg (by omega)]; exact Gw.refl (g.1, R)
 unfold doG
 split
 ·exact al
 ·split
  ·exact ld
  ·split
   ·exact so
   ·split
    ·exact Gw.refl g
    ·split
     ·exact wr
     ·split
      ·exact kp _ _
      ·split
       ·exact kp _ _
       ·split
        ·exact Gw.refl g
        ·split
         ·exact Gw.refl g
         ·split <;> exact Gw.refl g
theorem stp_Gw {mx : Int} {rf : Bool} {g : GA} {c : OpC} : Gw g (stp mx rf g c).1 := by
 unfold stp; split
 ·exact Gw.refl g
 ·exact doG_Gw
section
variable {mx : Int} {rf : Nat → Bool}
theorem mom_SM : ∀ (l : List OpC) (k : Nat) (g : GA), SM g.1 → ∀ m ∈ mom mx rf k g l, SM m.1.1
 | [], _, _, _, m, hm => by cases hm
 | c :: r, k, g, h, m, hm => by
  unfold mom at hm
  rcases List.mem_cons.1 hm with rfl | hm
  ·exact stp_SM h
  ·exact mom_SM r (k + 1) _ (stp_SM h) m hm
theorem mom_Gw : ∀ (l : List OpC) (k : Nat) (g : GA) (i : Nat) (m : GA × AnC), (mom mx rf k g l)[i]? = some m → szs g <+: szs m.1 ∧ m.1.1.length ≤ g.1.length + (i + 1)
 | [], _, _, _, m, hm => by simp [mom] at hm
 | c :: r, k, g, i, m, hm => by
  unfold mom at hm
  have h1 := stp_Gw (mx := mx) (rf := rf k) (g := g) (c := c)
  cases i with
  | zero => simp at hm; subst hm; exact ⟨h1.1, by have := h1.2; omega⟩
  | succ i =>
   have h2 := mom_Gw r (k + 1) _ i m (by simpa using hm)
   exact ⟨h1.1.trans h2.1, by have := h1.2; have := h2.2; omega⟩
def gsG (mx : Int) (rf : Nat → Bool) (k : Nat) (g : GA) (l : List OpC) : List GA := g :: (mom mx rf k g l).map (·.1)
theorem gsG_cons (k : Nat) (g : GA) (c : OpC) (r : List OpC) : gsG mx rf k g (c :: r) = g :: gsG mx rf (k + 1) (stp mx (rf k) g c).1 r := by unfold gsG; rw [mom]; rfl
theorem gsG_Gw : ∀ (l : List OpC) (k : Nat) (g : GA) (i j : Nat) (a b : GA), i ≤ j → (gsG mx rf k g l)[i]? = some a → (gsG mx rf k g l)[j]? = some b → szs a <+: szs b ∧ b.1.length ≤ a.1.length + (j - i)
 | l, k, g, 0, 0, a, b, _, ha, hb => by
  rw [ha] at hb; cases hb; exact ⟨List.prefix_refl _, by omega⟩
 | l, k, g, 0, j + 1, a, b, _, ha, hb => by
  unfold gsG at ha hb
  simp at ha; subst ha
  rw [List.getElem?_cons_succ, List.getElem?_map] at hb
  cases hm : (mom mx rf k g l)[j]? with
  | none => rw [hm] at hb; cases hb
  | some m =>
   rw [hm] at hb; cases hb
   have := mom_Gw l k g j m hm
   exact ⟨this.1, by have := this.2; simp only; omega⟩
 | [], k, g, i + 1, j + 1, a, b, _, ha, hb => by simp [gsG, mom] at ha
 | c :: r, k, g, i + 1, j + 1, a, b, hij, ha, hb => by
  rw [gsG_cons, List.getElem?_cons_succ] at ha hb
  have := gsG_Gw r (k + 1) _ i j a b (by omega) ha hb
  exact ⟨this.1, by have := this.2; omega⟩
end
section
variable {cf n K : Int} {l : List OpC} {full : List Int} {g : GA}
theorem plG_gs (h : plF cf n K l full = (0, 0)) : plG cf n K l full = gsG n (rfP full) 0 (g00 K) l := (pl_k (by rw [h])).1
theorem plG_SM : ∀ g ∈ plG cf n K l full, SM g.1 := fun g hg => by
 unfold plG at hg
 split at hg
 ·cases hg
 ·rcases List.mem_cons.1 hg with rfl | hg
  ·exact SM_nil
  ·obtain ⟨m, hm, rfl⟩ := List.mem_map.1 hg
   exact mom_SM l 0 _ SM_nil m hm
theorem plG_len (h : plF cf n K l full = (0, 0)) : (plG cf n K l full).length = l.length + 1 := by
 rw [plG_gs h]; unfold gsG; simp [mom_len]
theorem pl_len (h : plF cf n K l full = (0, 0)) : l.length ≤ 200 := by
 by_cases q : (scE cf l).2 = 0
 ·exact (sc_inv q).2.1
 ·rw [pl_sc q] at h; rw [h] at q; exact absurd rfl q
theorem mE {α β : Type} {f : α → β} {L : List α} {M : List β} {i : Nat} {y : α} (h : L.map f = M) (hy : L[i]? = some y) : M[i]? = some (f y) := by
 subst h; rw [List.getElem?_map, hy]; rfl
theorem mG {α β : Type} {f : α → β} {L : List α} {M : List β} {i : Nat} {y : α} {d : β} (h : L.map f = M) (hy : L[i]? = some y) : M.getD i d = f y := by
 rw [List.getD_eq_getElem?_getD, mE h hy]; rfl
theorem mL {α β : Type} {f : α → β} {L : List α} {M : List β} (h : L.map f = M) : L.length = M.length := by subst h; simp
theorem plG_at {G : GV} {Gs : List GV} {i : Nat} (h : Gs.map gab = plG cf n K l full) (hy : Gs[i]? = some G) : SM (G.1.2.map ab) := plG_SM (cf := cf) (n := n) (K := K) (l := l) (full := full) (gab G) (h ▸ List.mem_map.2 ⟨G, List.mem_of_getElem? hy, rfl⟩)
theorem pl_last {G : GV} {Gs : List GV} (h : Gs.map gab = plG cf n K l full) (hy : Gs[Gs.length - 1]? = some G) : gab G = plL cf n K l full := by
 unfold plL; rw [← mL h, mG h hy]
theorem wd1_bd {O : List Ab} (h : SM O) (i : Int) : 0 ≤ wd1 O i ∧ wd1 O i ≤ 2097153 := by
 unfold wd1
 rcases Nat.lt_or_ge (i - 1).toNat O.length with q | q
 ·rw [List.getD_eq_getElem?_getD, List.getElem?_eq_getElem q]
  have := h _ (List.getElem_mem q)
  simp only [Option.getD_some]; omega
 ·rw [List.getD_eq_getElem?_getD, List.getElem?_eq_none q]; simp
theorem sum_bd {B : Int} : ∀ (L : List Int), (∀ x ∈ L, 0 ≤ x ∧ x ≤ B) → 0 ≤ L.sum ∧ L.sum ≤ (L.length : Int) * B
 | [], _ => by simp
 | x :: r, h => by
  have h1 := sum_bd r fun y hy => h y (List.mem_cons_of_mem _ hy)
  have h2 := h x List.mem_cons_self
  rw [List.sum_cons, List.length_cons]
  have : ((r.length + 1 : Nat) : Int) * B = (r.length : Int) * B + B := by rw [Int.natCast_add, Int.add_mul]; omega
  rw [this]; omega
theorem wdN_bd {O : List Ab} {rs : List Int} (h : SM O) : 0 ≤ wdN O rs ∧ wdN O rs ≤ 838861200 := by
 by_cases hc : (ckG O rs).2 = 0
 ·have hg := ckG_iff.1 hc
  rw [wdN_k hc, ← rcL_sum hg]
  have h1 := sum_bd (B := 2097153) ((rcL O rs).map (wd1 O)) fun x hx => by
   obtain ⟨i, _, rfl⟩ := List.mem_map.1 hx
   exact wd1_bd h i
  have h2 := rcL_len hg
  have h3 := hg.o4
  rw [List.length_map] at h1
  omega
 ·rw [wdN_e hc]; decide
end
end Go.Own.Ml
namespace Go.Own.Ml
open Go Go.Own Go.Own.R Go.Own.G Go.Own.Gr
section
variable {cf n K : Int} {l : List OpC} {full : List Int} {a b : Int}
theorem tk_snoc {α β : Type} {f : α → β} {L : List α} {k : Nat} {y : α} (hy : L[k]? = some y) : (L.take (k + 1)).map f = (L.take k).map f ++ [f y] := by
 rw [List.take_add_one, hy, List.map_append]; rfl
theorem lv_end {Gs : List GV} {k : Nat} (hg : Gs.map gab = plG cf n K l full) (h : Gs.length ≤ k) : (Gs.take k).map (fun G => WF (gab G)) = (plG cf n K l full).map WF := by
 rw [List.take_of_length_le h, ← hg, List.map_map]; rfl
theorem lf_e (h : (plF cf n K l full).2 ≠ 0) : lfF cf n K l full a b = (0, (plF cf n K l full).2) := if_pos h
theorem lf_7 (h : plF cf n K l full = (0, 0)) (h2 : a < 0 ∨ b < a ∨ (l.length : Int) < b) : lfF cf n K l full a b = (0, 7) := by unfold lfF; rw [if_neg (by rw [h]; decide), if_pos h2]
def smB (L : List Ob) (k : Nat) : Int := ((L.take k).map fun o => szO (ab o)).sum
theorem smB_0 (L : List Ob) : smB L 0 = 0 := rfl
theorem smB_s {L : List Ob} {k : Nat} {y : Ob} (hy : L[k]? = some y) : smB L (k + 1) = smB L k + (1 + (y.1.2.length : Int) + (y.2.2.length : Int)) := by
 unfold smB; rw [tk_snoc hy, List.sum_append, List.sum_singleton]; rfl
theorem smB_bd {L : List Ob} {k : Nat} (h : SM (L.map ab)) : 0 ≤ smB L k ∧ smB L k ≤ (L.length : Int) * 2097153 := by
 have h1 := sum_bd (B := 2097153) ((L.take k).map fun o => szO (ab o)) fun x hx => by
  obtain ⟨o, ho, rfl⟩ := List.mem_map.1 hx
  have := h (ab o) (List.mem_map.2 ⟨o, List.mem_of_mem_take ho, rfl⟩)
  unfold szO; omega
 rw [List.length_map, List.length_take] at h1
 have : (min k L.length : Int) * 2097153 ≤ (L.length : Int) * 2097153 := Int.mul_le_mul_of_nonneg_right (by omega) (by omega)
 unfold smB; omega
theorem SM_drop {L : List Ob} {m : Nat} (h : SM (L.map ab)) : SM ((L.drop m).map ab) := fun o ho => by
 obtain ⟨x, hx, rfl⟩ := List.mem_map.1 ho
 exact h _ (List.mem_map.2 ⟨x, List.mem_of_mem_drop hx, rfl⟩)
theorem lf_k {Gs : List GV} {G H : GV} {k : Nat} (h : plF cf n K l full = (0, 0)) (h2 : ¬ (a < 0 ∨ b < a ∨ (l.length : Int) < b)) (hg : Gs.map gab = plG cf n K l full) (hy : Gs[a.toNat]? = some G) (hz : Gs[b.toNat]? = some H) (hk : H.1.2.length - G.1.2.length ≤ k) :
  lfF cf n K l full a b = (WF (gab G) + smB (H.1.2.drop G.1.2.length) k, 0) := by
 unfold lfF; rw [if_neg (by rw [h]; decide), if_neg h2, mG hg hy, mG hg hz]
 unfold smB
 rw [List.take_of_length_le (by rw [List.length_drop]; exact hk)]
 refine Prod.ext ?_ rfl
 show _ + _ = _ + _
 unfold szs gab
 simp only [List.length_map, List.map_map, List.map_drop]; rfl
theorem lf_len {Gs : List GV} {G H : GV} {i j : Nat} (h : plF cf n K l full = (0, 0)) (hg : Gs.map gab = plG cf n K l full) (hy : Gs[i]? = some G) (hz : Gs[j]? = some H) (hij : i ≤ j) : G.1.2.length ≤ H.1.2.length ∧ H.1.2.length ≤ 200 := by
 rw [plG_gs h] at hg
 have h1 := gsG_Gw l 0 _ i j _ _ hij (mE hg hy) (mE hg hz)
 have h0 : (gsG n (rfP full) 0 (g00 K) l)[0]? = some (g00 K) := rfl
 have h2 := gsG_Gw l 0 _ 0 j _ _ (by omega) h0 (mE hg hz)
 have hj := (List.getElem?_eq_some_iff.1 (mE hg hz)).1
 have hl := pl_len h
 unfold gsG at hj
 rw [List.length_cons, List.length_map, mom_len] at hj
 have e1 := h1.1.length_le
 have e2 := h2.2
 unfold szs gab at e1
 unfold g00 gab at e2
 simp only [List.length_map, List.length_nil] at e1 e2
 omega
end
end Go.Own.Ml
namespace Go.Own.Ml
open Go Go.Own Go.Own.R Go.Own.G Go.Own.Gr
theorem WF_bd {G : GV} (h : SM (G.1.2.map ab)) : 0 ≤ WF (gab G) ∧ WF (gab G) ≤ 838861200 := wdN_bd h
end Go.Own.Ml
namespace Go.Own.Ml
open Go Go.Own
section
variable {xs ys : List AnC} {k : Nat} {x y : AnC}
theorem eqA_all (h1 : xs.length = ys.length) (hk : xs.length ≤ k) (h : ∀ i, i < k → xs[i]? = ys[i]?) : xs = ys := by
 refine List.ext_getElem? fun i => ?_
 rcases Nat.lt_or_ge i k with q | q
 ·exact h i q
 ·rw [List.getElem?_eq_none (by omega), List.getElem?_eq_none (by omega)]
theorem eqA_step (h : ∀ i, i < k → xs[i]? = ys[i]?) (hx : xs[k]? = some x) (hy : ys[k]? = some y) (q : x = y) : ∀ i, i < k + 1 → xs[i]? = ys[i]? := fun i hi => by
 by_cases r : i = k
 ·subst r; rw [hx, hy, q]
 ·exact h i (by omega)
theorem eqA_ne (hx : xs[k]? = some x) (hy : ys[k]? = some y) (q : ¬ x = y) : xs ≠ ys := fun r => by
 subst r; rw [hx] at hy; exact q (Option.some.inj hy)
end
end Go.Own.Ml
namespace Go.Own.Ml
theorem anIff {x y : AnC} : x = y ↔ x.e = y.e ∧ x.t = y.t ∧ x.v = y.v := AnC.ext'
end Go.Own.Ml
