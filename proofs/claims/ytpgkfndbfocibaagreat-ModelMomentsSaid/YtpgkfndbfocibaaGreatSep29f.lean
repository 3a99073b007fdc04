import Derived.Test.YtpgkfndbfocibaaGreatSep29e
import Derived.Test.YtpgkfndbfocibaaGreatSepT2
namespace Go.Own.Ml
open Go Go.Own Go.Own.R Go.Own.G Go.Own.Gr
def fcF : Int → List Int → Nat → Bool
 | _, [], _ => true
 | last, i :: r, n => if i ≤ last ∨ (n : Int) ≤ i then false else fcF i r n
def fbd (rf : Nat → Bool) : Nat → List (GA × AnC) → Int × Int
 | _, [] => (0, 0)
 | k, m :: r => if rf k = true ∧ m.2.e ≠ 5 then ((k : Int), 2) else fbd rf (k + 1) r
def rfP (full : List Int) (k : Nat) : Bool := decide ((k : Int) ∈ full)
def g00 (K : Int) : GA := ([], nwR K)
def moP (n K : Int) (l : List OpC) (full : List Int) : List (GA × AnC) := mom n (rfP full) 0 (g00 K) l
def plF (cf n K : Int) (l : List OpC) (full : List Int) : Int × Int :=
 if (scE cf l).2 ≠ 0 then scE cf l else if fcF (-1) full l.length = false then (-1, 6) else fbd (rfP full) 0 (moP n K l full)
def plG (cf n K : Int) (l : List OpC) (full : List Int) : List GA := if (plF cf n K l full).2 ≠ 0 then [] else g00 K :: (moP n K l full).map (·.1)
def plA (cf n K : Int) (l : List OpC) (full : List Int) : List AnC := if (plF cf n K l full).2 ≠ 0 then [] else (moP n K l full).map (·.2)
section
variable {cf n K : Int} {l : List OpC} {full : List Int} {k : Nat} {last y : Int} {rf : Nat → Bool} {M : List (GA × AnC)} {m : GA × AnC}
theorem fc_bad {j : Nat} {c : Nat} (h : fcF (-1) full c = fcF last (full.drop j) c) (hy : full[j]? = some y) (hb : y ≤ last ∨ (c : Int) ≤ y) : fcF (-1) full c = false := by
 rw [h, dropA hy, fcF, if_pos hb]
theorem fc_step {j : Nat} {c : Nat} (h : fcF (-1) full c = fcF last (full.drop j) c) (hy : full[j]? = some y) (hb : ¬ (y ≤ last ∨ (c : Int) ≤ y)) : fcF (-1) full c = fcF y (full.drop (j + 1)) c := by
 rw [h, dropA hy, fcF, if_neg hb]
theorem fc_end {j : Nat} {c : Nat} (h : fcF (-1) full c = fcF last (full.drop j) c) (hj : full.length ≤ j) : fcF (-1) full c = true := by
 rw [h, List.drop_eq_nil_of_le hj]; rfl
theorem fc_asc : ∀ (full : List Int) (last : Int) (c : Nat), fcF last full c = true → (∀ (j : Nat) (a : Int), full[j]? = some a → last < a ∧ a < (c : Int)) ∧ Asc full
 | [], _, _, _ => ⟨fun j a h => by simp at h, fun i j _ a b h => by simp at h⟩
 | x :: r, last, c, h => by
  unfold fcF at h
  by_cases hb : x ≤ last ∨ (c : Int) ≤ x
  ·rw [if_pos hb] at h; cases h
  ·rw [if_neg hb] at h
   obtain ⟨h1, h2⟩ := fc_asc r x c h
   refine ⟨fun j a hj => ?_, fun i j hij a b ha hb' => ?_⟩
   ·cases j with
    | zero => simp at hj; subst hj; omega
    | succ j => have := h1 j a (by simpa using hj); omega
   ·cases j with
    | zero => omega
    | succ j =>
     cases i with
     | zero => simp at ha; subst ha; exact (h1 j b (by simpa using hb')).1
     | succ i => exact h2 i j (by omega) a b (by simpa using ha) (by simpa using hb')
theorem asc_le {lo hi : Int} : ∀ (full : List Int) (last : Int) (c : Nat), fcF last full c = true → (full.length : Int) ≤ (c : Int) - last - 1 ∨ full = []
 | [], _, _, _ => .inr rfl
 | x :: r, last, c, h => by
  unfold fcF at h
  by_cases hb : x ≤ last ∨ (c : Int) ≤ x
  ·rw [if_pos hb] at h; cases h
  ·rw [if_neg hb] at h
   left
   rcases asc_le (lo := lo) (hi := hi) r x c h with q | q
   ·rw [List.length_cons]; omega
   ·subst q; simp; omega
theorem fc_len {c : Nat} (h : fcF (-1) full c = true) : full.length ≤ c := by
 rcases asc_le (lo := 0) (hi := 0) full (-1) c h with q | q
 ·omega
 ·subst q; simp
theorem fbd_bad (h : fbd rf 0 M = fbd rf k (M.drop k)) (hy : M[k]? = some m) (hb : rf k = true ∧ m.2.e ≠ 5) : fbd rf 0 M = ((k : Int), 2) := by
 rw [h, dropA hy, fbd, if_pos hb]
theorem fbd_step (h : fbd rf 0 M = fbd rf k (M.drop k)) (hy : M[k]? = some m) (hb : ¬ (rf k = true ∧ m.2.e ≠ 5)) : fbd rf 0 M = fbd rf (k + 1) (M.drop (k + 1)) := by
 rw [h, dropA hy, fbd, if_neg hb]
theorem fbd_end (h : fbd rf 0 M = fbd rf k (M.drop k)) (hk : M.length ≤ k) : fbd rf 0 M = (0, 0) := by
 rw [h, List.drop_eq_nil_of_le hk]; rfl
theorem mom_len {mx : Int} : ∀ (l : List OpC) (k : Nat) (g : GA), (mom mx rf k g l).length = l.length
 | [], _, _ => rfl
 | c :: r, k, g => by unfold mom; rw [List.length_cons, List.length_cons, mom_len r]
theorem Tr.at {mx : Int} {G0 : GV} {pre : List ME} {x : ME} (h : Tr mx rf G0 l (pre ++ [x])) : (mom mx rf 0 (gab G0) l)[pre.length]? = some (gab x.2.2, x.2.1) ∧ x.1 = (pre.length : Int) := by
 refine ⟨?_, h.ix pre.length x (by simp)⟩
 rw [h.run, List.getElem?_append_left (by simp)]
 simp
theorem pl_sc (h : (scE cf l).2 ≠ 0) : plF cf n K l full = scE cf l := if_pos h
theorem pl_fc (h : scE cf l = (0, 0)) (h2 : fcF (-1) full l.length = false) : plF cf n K l full = (-1, 6) := by unfold plF; rw [h, if_neg (by decide), if_pos h2]
theorem pl_fb (h : scE cf l = (0, 0)) (h2 : fcF (-1) full l.length = true) : plF cf n K l full = fbd (rfP full) 0 (moP n K l full) := by unfold plF; rw [h, if_neg (by decide), if_neg (by rw [h2]; decide)]
theorem pl_k (h : (plF cf n K l full).2 = 0) : plG cf n K l full = g00 K :: (moP n K l full).map (·.1) ∧ plA cf n K l full = (moP n K l full).map (·.2) := by unfold plG plA; rw [if_neg (by omega), if_neg (by omega)]; exact ⟨rfl, rfl⟩
theorem gsM_gab {G0 : GV} {pre : List ME} (h : pre.map (fun x : ME => (gab x.2.2, x.2.1)) = M) : (gsM G0 pre).map gab = gab G0 :: M.map (·.1) ∧ pre.map (fun x : ME => x.2.1) = M.map (·.2) := by
 subst h; unfold gsM; simp
end
end Go.Own.Ml

namespace Go.Own
open Go Go.RowKit Go.Own.Ml
section
variable {w0 w : World} {X : Nat → Prop} {l : List HP} {a b : HP}
theorem genS (h : St w0 X (a :: b :: l) w) : ∃ c, c = b ∧ St w0 X (a :: c :: l) w := ⟨_, rfl, h⟩
end
end Go.Own
namespace Go.Own.Ml
open Go Go.Own Go.Own.R Go.Own.G Go.Own.Gr
section
variable {cf n K : Int} {l : List OpC} {full : List Int} {G0 : GV} {pre : List ME} {x : ME}
theorem pl_nx (hg : gab G0 = g00 K) (hT : Tr n (rfP full) G0 l (pre ++ [x])) (hz : fbd (rfP full) 0 (moP n K l full) = fbd (rfP full) pre.length ((moP n K l full).drop pre.length)) (h : ¬ (x.1 ∈ full ∧ x.2.1.e ≠ 5)) :
  fbd (rfP full) 0 (moP n K l full) = fbd (rfP full) (pre ++ [x]).length ((moP n K l full).drop (pre ++ [x]).length) := by
 have h1 := hT.at
 rw [hg] at h1
 rw [List.length_append, List.length_singleton]
 refine fbd_step hz h1.1 (fun q => h ⟨?_, q.2⟩)
 rw [h1.2]; exact of_decide_eq_true q.1
theorem pl_bad (hg : gab G0 = g00 K) (hT : Tr n (rfP full) G0 l (pre ++ [x])) (hz : fbd (rfP full) 0 (moP n K l full) = fbd (rfP full) pre.length ((moP n K l full).drop pre.length)) (h : x.1 ∈ full) (h2 : x.2.1.e ≠ 5) :
  fbd (rfP full) 0 (moP n K l full) = (x.1, 2) := by
 have h1 := hT.at
 rw [hg] at h1
 rw [h1.2]
 exact fbd_bad hz h1.1 ⟨decide_eq_true (by rw [← h1.2]; exact h), h2⟩
theorem pl_done (hg : gab G0 = g00 K) (hT : Tr n (rfP full) G0 l pre) (hl : l.length ≤ pre.length) (hs : scE cf l = (0, 0)) (hf : fcF (-1) full l.length = true)
  (hz : fbd (rfP full) 0 (moP n K l full) = fbd (rfP full) pre.length ((moP n K l full).drop pre.length)) :
  plF cf n K l full = (0, 0) ∧ (gsM G0 pre).map gab = plG cf n K l full ∧ (pre.map fun x : ME => x.2.1) = plA cf n K l full := by
 have hM : pre.map (fun x : ME => (gab x.2.2, x.2.1)) = moP n K l full := by rw [hT.done hl, hg]; rfl
 have h0 : plF cf n K l full = (0, 0) := by
  rw [pl_fb hs hf]; exact fbd_end hz (by rw [← hM, List.length_map]; exact Nat.le_refl _)
 have h1 := pl_k (cf := cf) (n := n) (K := K) (l := l) (full := full) (by rw [h0])
 obtain ⟨h2, h3⟩ := gsM_gab (G0 := G0) hM
 exact ⟨h0, by rw [h1.1, h2, hg], by rw [h1.2, h3]⟩
end
end Go.Own.Ml
namespace Go.Own
open Go Go.RowKit
theorem nst_drop {w0 : World} {X : Nat → Prop} {L : List Ob} (h : Ro w0 X (nst L)) (m : Nat) : Ro w0 X (nst (L.drop m)) := let ⟨f, h1, h2⟩ := h; ⟨f, fun o ho => h1 o (List.mem_of_mem_drop ho), h2⟩
end Go.Own
