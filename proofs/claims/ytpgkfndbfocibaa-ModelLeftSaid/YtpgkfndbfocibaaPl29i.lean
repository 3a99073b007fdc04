import Derived.Test.YtpgkfndbfocibaaPl15k
import Derived.Test.YtpgkfndbfocibaaPl29h
/-! what comes from registers in so many steps -/
namespace Go.Own.Gr
open Go Go.Own Go.Own.R Go.Own.G
end Go.Own.Gr

/-! Left never falls, and what lives is never more than what is left -/
namespace Go.Own.Ml
open Go Go.Own Go.Own.R Go.Own.G Go.Own.Gr
/-- what a step does to what lives. -/
structure Rg (g g' : GA) : Prop where
  gg : GG g'.1 g'.2 → GG g.1 g.2
  len : g.1.length ≤ g'.1.length
  old : GG g'.1 g'.2 → ∀ x, Lv g'.1 g'.2 x → Lv g.1 g.2 x ∨ (g.1.length : Int) < x
theorem Rg.refl (g : GA) : Rg g g := ⟨fun h => h, Nat.le_refl _, fun _ _ h => .inl h⟩
theorem Rg.trans {a b c : GA} (h1 : Rg a b) (h2 : Rg b c) : Rg a c :=
  ⟨fun h => h1.gg (h2.gg h), Nat.le_trans h1.len h2.len, fun h x hx => by
    rcases h2.old h x hx with q | q
    · exact h1.old (h2.gg h) x q
    · have := h1.len; exact .inr (by omega)⟩
theorem Rg.nx {g g' : GA} {al : Prop} (hg : GG g.1 g.2) (h : Nx g.1 g.2 g'.1 g'.2 al) : Rg g g' := ⟨fun _ => hg, h.len, fun _ x hx => by
  rcases h.old x hx with q | ⟨_, q⟩
  · exact .inl q
  · exact .inr (by omega)⟩
theorem fin_Rg {g g' : GA} {er : Int} (h : er = 0 → Rg g g') : Rg g (fin g er g').1 := by
  unfold fin; split
  · exact h (by assumption)
  · exact Rg.refl g
theorem ptE_gg {O : List Ab} {rs ns : List Int} {a f : Int} (h : ptE O rs ns a f = 0) : GG O rs := by
  by_cases hc : ckd O rs ns = 0
  · exact (ckd_0.1 hc).1
  · unfold ptE at h; rw [if_pos hc] at h; exact absurd h hc
theorem rwE_gg {O : List Ab} {rs ns : List Int} {a f : Int} (h : rwE O rs ns a f = 0) : GG O rs := by
  by_cases hc : ckd O rs ns = 0
  · exact (ckd_0.1 hc).1
  · unfold rwE at h; rw [if_pos hc] at h; exact absurd h hc
theorem doG_Rg {mx : Int} {g : GA} {c : OpC} : Rg g (doG mx g c).1 := by
  have al : Rg g (fin g (alA mx g c.a c.p c.q) (alO g.1 g.2 c.a c.p c.q, alR g.1 g.2 c.a c.p c.q)).1 := fin_Rg fun er => by
    have he : alE g.1 g.2 c.a c.p c.q = 0 := by
      unfold alA at er
      split at er
      · exact absurd er (by assumption)
      · split at er
        · cases er
        · split at er
          · cases er
          · exact er
    exact Rg.nx (ckd_0.1 (alE_k he).2.2.2.2.2.2).1 (nx_alloc he)
  unfold doG
  split
  · exact al
  · split
    · exact fin_Rg fun er => Rg.nx (ptE_gg er) (nx_load er)
    · split
      · exact fin_Rg fun er => Rg.nx (ptE_gg er) (nx_store er)
      · split
        · exact Rg.refl g
        · split
          · exact fin_Rg fun er => Rg.nx (rwE_gg er) (nx_write er)
          · split
            · exact fin_Rg fun er => Rg.nx (ckd_0.1 er).1 (nx_move er)
            · split
              · exact fin_Rg fun er => Rg.nx (ckd_0.1 er).1 (nx_clear er)
              · split
                · exact Rg.refl g
                · split
                  · exact Rg.refl g
                  · split <;> exact Rg.refl g
theorem stp_Rg {mx : Int} {rf : Bool} {g : GA} {c : OpC} : Rg g (stp mx rf g c).1 := by
  unfold stp; split
  · exact Rg.refl g
  · exact doG_Rg
section
variable {mx : Int} {rf : Nat → Bool}
theorem mom_Rg : ∀ (l : List OpC) (k : Nat) (g : GA) (i : Nat) (m : GA × AnC), (mom mx rf k g l)[i]? = some m → Rg g m.1
  | [], _, _, _, m, hm => by simp [mom] at hm
  | c :: r, k, g, i, m, hm => by
    unfold mom at hm
    have h1 := stp_Rg (mx := mx) (rf := rf k) (g := g) (c := c)
    cases i with
    | zero => simp at hm; subst hm; exact h1
    | succ i => exact h1.trans (mom_Rg r (k + 1) _ i m (by simpa using hm))
theorem gsG_Rg : ∀ (l : List OpC) (k : Nat) (g : GA) (i j : Nat) (a b : GA), i ≤ j → (gsG mx rf k g l)[i]? = some a → (gsG mx rf k g l)[j]? = some b → Rg a b
  | l, k, g, 0, 0, a, b, _, ha, hb => by rw [ha] at hb; cases hb; exact Rg.refl a
  | l, k, g, 0, j + 1, a, b, _, ha, hb => by
    unfold gsG at ha hb
    simp at ha; subst ha
    rw [List.getElem?_cons_succ, List.getElem?_map] at hb
    cases hm : (mom mx rf k g l)[j]? with
    | none => rw [hm] at hb; cases hb
    | some m => rw [hm] at hb; cases hb; exact mom_Rg l k g j m hm
  | [], k, g, i + 1, j + 1, a, b, _, ha, hb => by simp [gsG, mom] at ha
  | c :: r, k, g, i + 1, j + 1, a, b, hij, ha, hb => by
    rw [gsG_cons, List.getElem?_cons_succ] at ha hb
    exact gsG_Rg r (k + 1) _ i j a b (by omega) ha hb
end
theorem sum_nn : ∀ (L : List Int), (∀ x ∈ L, 0 ≤ x) → 0 ≤ L.sum
  | [], _ => by simp
  | x :: r, h => by rw [List.sum_cons]; have := h x List.mem_cons_self; have := sum_nn r fun y hy => h y (List.mem_cons_of_mem _ hy); omega
theorem sub_sum {α : Type} [DecidableEq α] {f : α → Int} : ∀ (L1 L2 : List α), L1.Nodup → (∀ x ∈ L1, x ∈ L2) → (∀ x ∈ L2, 0 ≤ f x) → (L1.map f).sum ≤ (L2.map f).sum
  | [], L2, _, _, h => sum_nn _ fun x hx => by obtain ⟨y, hy, rfl⟩ := List.mem_map.1 hx; exact h y hy
  | x :: r, L2, hn, hs, h => by
    have hp := List.perm_cons_erase (hs x List.mem_cons_self)
    have e := perm_sum (hp.map f)
    rw [List.map_cons, List.sum_cons] at e ⊢
    have := sub_sum (f := f) r (L2.erase x) (List.nodup_cons.1 hn).2 (fun y hy => (List.mem_erase_of_ne (fun q => (List.nodup_cons.1 hn).1 (by rw [← q]; exact hy))).2 (hs y (List.mem_cons_of_mem _ hy))) fun y hy => h y (List.mem_of_mem_erase hy)
    omega
theorem wd1_nn (O : List Ab) (i : Int) : 0 ≤ wd1 O i := by unfold wd1; omega
theorem wd1_sz {O : List Ab} {i : Nat} {z : Int} (h : (O.map szO)[i]? = some z) : wd1 O ((i : Int) + 1) = z := by
  rw [List.getElem?_map] at h
  cases hy : O[i]? with
  | none => rw [hy] at h; cases h
  | some y =>
    rw [hy] at h; cases h
    unfold wd1
    rw [show ((i : Int) + 1 - 1).toNat = i by omega, List.getD_eq_getElem?_getD, hy]
    simp only [Option.getD_some, szO]; omega
theorem szs_nn (g : GA) : ∀ x ∈ szs g, 0 ≤ x := fun x hx => by
  obtain ⟨o, _, rfl⟩ := List.mem_map.1 hx
  unfold szO; omega
theorem WF_nn (g : GA) : 0 ≤ WF g := by
  unfold WF; rw [wdN_T]
  exact sum_nn _ fun x hx => by obtain ⟨i, _, rfl⟩ := List.mem_map.1 hx; exact wd1_nn _ _
/-- what is left of the later graph, seen from the former. -/
def lfV (a b : GA) : Int := WF a + ((szs b).drop a.1.length).sum
theorem lfV_self (a : GA) : lfV a a = WF a := by
  unfold lfV; rw [List.drop_eq_nil_of_le (by unfold szs; simp)]; simp
theorem lfV_mono {a b c : GA} (h : szs b <+: szs c) (hl : a.1.length ≤ b.1.length) : lfV a b ≤ lfV a c := by
  obtain ⟨t, ht⟩ := h
  unfold lfV
  rw [← ht, List.drop_append_of_le_length (by unfold szs; simpa using hl), List.sum_append]
  have := sum_nn t fun x hx => szs_nn c x (ht ▸ List.mem_append_right _ hx)
  omega
theorem WF_le {a b : GA} (hr : Rg a b) (hs : szs a <+: szs b) : WF b ≤ lfV a b := by
  by_cases hb : (ckG b.1 b.2).2 = 0
  · have gb := ckG_iff.1 hb
    have ga := hr.gg gb
    have na := hr.len
    obtain ⟨t, ht⟩ := hs
    have eL : (szs a).length = a.1.length := by unfold szs; simp
    have eB : (szs b).length = b.1.length := by unfold szs; simp
    have e1 : (lvL a.1 a.2).map (wd1 b.1) = (lvL a.1 a.2).map (wd1 a.1) := by
      refine List.map_congr_left fun x hx => ?_
      have hx1 := hx
      unfold lvL at hx1
      rw [tgK_mem] at hx1
      obtain ⟨h1, h2, _⟩ := hx1
      obtain ⟨i, hi⟩ : ∃ i : Nat, x = (i : Int) + 1 := ⟨(x - 1).toNat, by omega⟩
      have hil : i < (szs a).length := by omega
      have ha : (szs a)[i]? = some ((szs a)[i]) := List.getElem?_eq_getElem hil
      rw [hi, wd1_sz ha]
      refine wd1_sz ?_
      show (szs b)[i]? = _
      rw [← ht, List.getElem?_append_left hil]; exact ha
    have e2 : ((List.range (b.1.length - a.1.length)).map fun k : Nat => wd1 b.1 ((a.1.length : Int) + (k : Int) + 1)) = (szs b).drop a.1.length := by
      refine List.ext_getElem (by simp [eB]) fun k h1 h2 => ?_
      rw [List.getElem_map, List.getElem_range, List.getElem_drop]
      have hk : a.1.length + k < (szs b).length := by rw [List.length_drop] at h2; omega
      have := wd1_sz (O := b.1) (i := a.1.length + k) (List.getElem?_eq_getElem hk)
      rw [← this]; congr 1
    unfold lfV WF
    rw [wdN_k hb, wdN_k (ckG_iff.2 ga), ← e1, ← e2, show ((List.range (b.1.length - a.1.length)).map fun k : Nat => wd1 b.1 ((a.1.length : Int) + (k : Int) + 1)) = ((List.range (b.1.length - a.1.length)).map fun k : Nat => (a.1.length : Int) + (k : Int) + 1).map (wd1 b.1) by rw [List.map_map]; rfl, ← List.sum_append, ← List.map_append]
    refine sub_sum _ _ ?_ ?_ fun x _ => wd1_nn _ _
    · exact (lvL_asc b.1 b.2).imp fun h => by omega
    · intro x hx
      have h1 := hr.old gb x ((lvL_mem gb).1 hx)
      rcases h1 with q | q
      · exact List.mem_append_left _ ((lvL_mem ga).2 q)
      · refine List.mem_append_right _ (List.mem_map.2 ⟨(x - 1).toNat - a.1.length, ?_, ?_⟩)
        · have hx1 := hx
          unfold lvL at hx1
          rw [tgK_mem] at hx1
          rw [List.mem_range]; omega
        · omega
  · unfold WF; rw [wdN_e hb]
    have h1 := WF_nn a
    have := sum_nn ((szs b).drop a.1.length) fun x hx => szs_nn b x (List.mem_of_mem_drop hx)
    unfold lfV WF at *; omega
section
variable {cf n K : Int} {l : List OpC} {full : List Int} {i j : Nat}
theorem lf_V (h : plF cf n K l full = (0, 0)) (hij : i ≤ j) (hj : j ≤ l.length) : lfF cf n K l full (i : Int) (j : Int) = (lfV ((plG cf n K l full).getD i dG) ((plG cf n K l full).getD j dG), 0) := by
  unfold lfF; rw [if_neg (by rw [h]; decide), if_neg (by omega)]; rfl
theorem lf_at (h : plF cf n K l full = (0, 0)) (hj : j ≤ l.length) : (plG cf n K l full)[j]? = some ((plG cf n K l full).getD j dG) := by
  have := plG_len h
  rw [List.getD_eq_getElem?_getD, List.getElem?_eq_getElem (by omega)]; rfl
theorem lf_w (h : plF cf n K l full = (0, 0)) (hj : j ≤ l.length) : ((plG cf n K l full).map WF)[j]? = some (WF ((plG cf n K l full).getD j dG)) := by
  rw [List.getElem?_map, lf_at h hj]; rfl
theorem lf_two (h : plF cf n K l full = (0, 0)) (hij : i ≤ j) (hj : j ≤ l.length) : Rg ((plG cf n K l full).getD i dG) ((plG cf n K l full).getD j dG) ∧ szs ((plG cf n K l full).getD i dG) <+: szs ((plG cf n K l full).getD j dG) := by
  have h1 := lf_at h (show i ≤ l.length by omega)
  have h2 := lf_at h hj
  generalize (plG cf n K l full).getD i dG = a at *
  generalize (plG cf n K l full).getD j dG = b at *
  rw [plG_gs h] at h1 h2
  exact ⟨gsG_Rg l 0 _ i j _ _ hij h1 h2, (gsG_Gw l 0 _ i j _ _ hij h1 h2).1⟩
end
end Go.Own.Ml
namespace Go.Own.Ml
open Go Go.Own Go.Own.R Go.Own.G Go.Own.Gr
theorem lf_g0 {cf n K : Int} {l : List OpC} {full : List Int} (h : plF cf n K l full = (0, 0)) : WF ((plG cf n K l full).getD 0 dG) = 0 := by
  rw [plG_gs h]
  show WF (g00 K) = 0
  unfold WF g00
  rw [wdN_T]
  have e : lvT [] (nwR K) = [] := by
    unfold lvT; split
    · rfl
    · unfold lvL; rfl
  simp only
  rw [e]; rfl
end Go.Own.Ml
