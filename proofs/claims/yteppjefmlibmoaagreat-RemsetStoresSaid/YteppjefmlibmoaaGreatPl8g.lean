import Derived.Test.YteppjefmlibmoaaGreatPl8f
/-! the references' changes and Purge -/
namespace Go.Own.E
open Go Go.Own Go.Own.R Go.Own.S
variable {C N Z K Q slot target old now : Int} {X : List (List Int)} {ns : List Int}
theorem tkC {α : Type} {l : List α} {j : Nat} {y : α} (h : l[j]? = some y) : l.take j ++ [y] = l.take (j + 1) := by
  rw [List.take_add_one, h]; rfl
theorem tk_len {U V : List SL} {k : Nat} (h : csF V = (csF U).take k) (hk : k ≤ U.length := by omega) : V.length = k := by
  have := congrArg List.length h
  rw [csF_len, List.length_take, csF_len] at this; omega
theorem pl_tg (h : plE C N Z K Q slot target = 0) (h2 : target ≠ 0) : caE C N Z K Q target = 0 := by
  unfold plE at h; split at h
  · omega
  · exact h
def asE (C N Z K Q : Int) (X : List (List Int)) (ns : List Int) (slot target : Int) : Int := if (rmP C N Z K Q X ns).2 ≠ 0 then (rmP C N Z K Q X ns).2 else plE C N Z K Q slot target
theorem as_0 (h : asE C N Z K Q X ns slot target = 0) : (rmP C N Z K Q X ns).2 = 0 ∧ plE C N Z K Q slot target = 0 := by
  unfold asE at h; split at h
  · exact absurd h (by assumption)
  · exact ⟨by omega, h⟩
theorem pl_z (h : caE C N Z K Q slot = 0) : plE C N Z K Q slot 0 = 0 := by unfold plE; rw [if_neg (by omega), if_pos rfl]
theorem as_rec : chE8 C N Z K Q X ns slot 0 now = asE C N Z K Q X ns slot now := by
  unfold asE
  by_cases h : (rmP C N Z K Q X ns).2 ≠ 0
  · rw [if_pos h, ch8_e1 h]
  · rw [if_neg h]
    by_cases hs : caE C N Z K Q slot = 0
    · rw [ch8_e3 (by omega) (pl_z hs)]
    · have e1 : plE C N Z K Q slot 0 = caE C N Z K Q slot := by unfold plE; rw [if_pos hs]
      have e2 : plE C N Z K Q slot now = caE C N Z K Q slot := by unfold plE; rw [if_pos hs]
      rw [ch8_e2 (by omega) (by omega), e1, e2]
theorem as_for : chE8 C N Z K Q X ns slot old 0 = asE C N Z K Q X ns slot old := by
  unfold asE
  by_cases h : (rmP C N Z K Q X ns).2 ≠ 0
  · rw [if_pos h, ch8_e1 h]
  · rw [if_neg h]
    by_cases ho : plE C N Z K Q slot old = 0
    · rw [ch8_e3 (by omega) ho, ho, pl_z (pl_slot ho)]
    · rw [ch8_e2 (by omega) ho]
theorem as_st1 (h : asE C N Z K Q X ns slot old ≠ 0) : chE8 C N Z K Q X ns slot old now = asE C N Z K Q X ns slot old := by
  unfold asE at h ⊢
  by_cases h1 : (rmP C N Z K Q X ns).2 ≠ 0
  · rw [if_pos h1, ch8_e1 h1]
  · rw [if_neg h1] at h ⊢; rw [ch8_e2 (by omega) h]
theorem as_st2 (h : asE C N Z K Q X ns slot old = 0) : chE8 C N Z K Q X ns slot old now = asE C N Z K Q X ns slot now := by
  obtain ⟨h1, h2⟩ := as_0 h
  unfold asE
  rw [if_neg (by omega), ch8_e3 h1 h2]
theorem plN_z : plN C N Z K Q slot 0 = -2 := by unfold plN; rw [if_pos (Or.inr (Or.inl rfl))]
theorem cg_2 {i : Int} {add : Bool} (h : i = -2) : cgC X i slot add = X ∧ cgN ns i slot add = ns := ⟨cg_neg (by omega), cgN_no (by omega)⟩
theorem ok_rec (h : asE C N Z K Q X ns slot now = 0) : chE8 C N Z K Q X ns slot 0 now = 0 ∧ chC C N Z K Q X ns slot 0 now = cgC X (plN C N Z K Q slot now) slot true ∧ chN C N Z K Q X ns slot 0 now = cgN ns (plN C N Z K Q slot now) slot true := by
  have he := (as_rec (C := C) (N := N) (Z := Z) (K := K) (Q := Q) (X := X) (ns := ns) (slot := slot) (now := now)).trans h
  refine ⟨he, ?_⟩
  by_cases e : now = 0
  · subst e
    have hb := ch_same he rfl
    have hc := cg_2 (X := X) (ns := ns) (slot := slot) (add := true) (plN_z (C := C) (N := N) (Z := Z) (K := K) (Q := Q) (slot := slot))
    rw [hb.1, hb.2, hc.1, hc.2]; exact ⟨rfl, rfl⟩
  · have hb := ch_k he (fun q => e q.symm)
    have hc := cg_2 (X := X) (ns := ns) (slot := slot) (add := false) (plN_z (C := C) (N := N) (Z := Z) (K := K) (Q := Q) (slot := slot))
    rw [hb.1, hb.2, hc.1, hc.2]; exact ⟨rfl, rfl⟩
theorem ok_for (h : asE C N Z K Q X ns slot old = 0) : chE8 C N Z K Q X ns slot old 0 = 0 ∧ chC C N Z K Q X ns slot old 0 = cgC X (plN C N Z K Q slot old) slot false ∧ chN C N Z K Q X ns slot old 0 = cgN ns (plN C N Z K Q slot old) slot false := by
  have he := (as_for (C := C) (N := N) (Z := Z) (K := K) (Q := Q) (X := X) (ns := ns) (slot := slot) (old := old)).trans h
  refine ⟨he, ?_⟩
  by_cases e : old = 0
  · subst e
    have hb := ch_same he rfl
    have hc := cg_2 (X := X) (ns := ns) (slot := slot) (add := false) (plN_z (C := C) (N := N) (Z := Z) (K := K) (Q := Q) (slot := slot))
    rw [hb.1, hb.2, hc.1, hc.2]; exact ⟨rfl, rfl⟩
  · have hb := ch_k he e
    rw [hb.1, hb.2, cg_neg (i := plN C N Z K Q slot 0) (by rw [plN_z]; omega), cgN_no (i := plN C N Z K Q slot 0) (by rw [plN_z]; omega)]; exact ⟨rfl, rfl⟩
theorem ok_sto (h : asE C N Z K Q X ns slot old = 0) (h2 : asE C N Z K Q X ns slot now = 0) : chE8 C N Z K Q X ns slot old now = 0 := (as_st2 h).trans h2
theorem gl_cg {i : Int} {add : Bool} (h : (rmP C N Z K Q X ns).2 = 0) (hs : caE C N Z K Q slot = 0) : GL (cgC X i slot add) (cgN ns i slot add) := by
  obtain ⟨h1, h2⟩ := ch_all h hs
  have hl := gl_of h
  have hb : ∀ c, chE c slot = 0 → c.length ≤ 8192 := fun c hc => (ch0 hc).1.bd.2.1
  refine ⟨by rw [cgC_len]; exact hl.1, fun c hc => hb c (ch_cg h1 c hc), hb _ ?_⟩
  unfold cgN; split
  · exact st_ch h2
  · exact h2
variable {i car a b : Int} {U : List SL} {k : Nat} {c y : List Int}
end Go.Own.E
