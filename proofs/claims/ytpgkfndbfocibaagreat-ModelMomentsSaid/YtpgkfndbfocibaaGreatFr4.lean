import Derived.Test.YtpgkfndbfocibaaGreatGen
import Derived.ProofKit
import Derived.ChangeBook
import Derived.ChangeStays
import Derived.ChangeSame
import Derived.Below
import Derived.Test.YtpgkfndbfocibaaGreatSepR
import Derived.Deep.SlicePairs
namespace Go.Own
open Go Go.RowKit Go.WideShapes Go.ChangeShapes
section
variable {H : Type} {enc : TypeId × Value → H} {P : Program}
theorem sameAt_below {W W' : World} (hb : Ext W W') {p : MemPlace} (hlt : p.block < W.heap.size) : W.sameAt W' p := by
 cases p with
 | cell b off => exact hb.cell (p := ⟨b, off, none⟩) hlt
 | map b => exact hb.block b hlt
theorem carry_all (hl : laidOutB P = true) {W W' : World} (hb : Ext W W') {sp : Nat → Bool} : ∀ (ts : List TypeId) (vs : List Value) (ds : List (DataW H)) (ps : List MemPlace),
  (ts.all fun t => P.readableRec t && decide (t < P.types.size)) = true → DataW.TrodAll enc P W 0 (fun _ => true) true ts vs ds ps → (∀ p ∈ ps, p.block < W.heap.size) → (∀ p ∈ ps, sp p.block = true) →
  DataW.TrodAll enc P W' 0 sp true ts vs ds ps
 | [], vs, ds, ps, _, h, _, _ => by
  cases vs <;> cases ds <;> simp [DataW.TrodAll] at h ⊢
  exact h
 | t :: ts, vs, ds, ps, ht, h, hlt, hsp => by
  cases vs with
  | nil => cases ds <;> simp [DataW.TrodAll] at h
  | cons v vs =>
   cases ds with
   | nil => simp [DataW.TrodAll] at h
   | cons d ds =>
    obtain ⟨p, q, ⟨n, h1⟩, h2, rfl⟩ := h
    simp only [List.all_cons, Bool.and_eq_true, decide_eq_true_eq] at ht
    obtain ⟨⟨hr, hrow⟩, ht2⟩ := ht
    refine ⟨p, q, ⟨n, ?_⟩, carry_all hl hb ts vs ds q (by simpa using ht2) h2 (fun x hx => hlt x (by simp [hx])) (fun x hx => hsp x (by simp [hx])), rfl⟩
    exact DataW.trod_stays (kids_book hl hr) (book_sized hr) (fun h => by cases h) ⟨hrow, book_self t⟩ h1 (fun x hx => sameAt_below hb (hlt x (by simp [hx]))) (fun x hx => hsp x (by simp [hx]))
theorem law_post {f : Func} {s : ChangeSpec} {apart fresh handsOn again : Bool} {W W' : World} {args : Array Value} {ds : List (DataW H)} {before : List MemPlace} {tb : TypeId} (hl : laidOutB P = true)
  (hr : f.params.toList.all (fun t => P.readableRec t && decide (t < P.types.size)) = true) (htb : f.resultTypes = #[tb]) (hub : P.underlying tb = some .bool) (hvs : s.vars = [])
  (hs : s.fn H ds = { results := [.lit (.bool true)], args := ds }) (hW : DataW.Whole enc P f.params.toList s.vars apart W args.toList ds [] before)
  (hA : DataW.TrodAll enc P W 0 (fun _ => true) true f.params.toList args.toList ds before) (hb : Ext W W') : s.post enc P f apart fresh handsOn again W args (.bool true) W' := by
 have hlt : ∀ p ∈ before, p.block < W.heap.size := fun p hp => hW.lt p hp
 have hold : ∀ p ∈ before, (fun b => decide (b < W.heap.size)) p.block = true := fun p hp => by simpa using hlt p hp
 have hres : ∀ (b : Nat) (sp : Nat → Bool) (hd : Bool), DataW.TrodAll enc P W' b sp hd f.resultTypes.toList ((Value.bool true).resultList f.resultTypes.size) [.lit (.bool true)] [] := fun b sp hd => by
  rw [htb]; exact trodAll_mk1 (shut_bool hub _)
 have hargs : ∀ sp : Nat → Bool, (∀ p ∈ before, sp p.block = true) → DataW.TrodAll enc P W' 0 sp true f.params.toList args.toList ds before := fun sp hsp => carry_all hl hb _ _ _ _ hr hA hlt hsp
 have hvars : ∀ sp : Nat → Bool, DataW.TrodVars enc P W' sp s.vars [] [] := fun sp => by rw [hvs]; rfl
 have hfn : s.fn H (ds ++ []) = { results := [.lit (.bool true)], args := ds } := by rw [List.append_nil]; exact hs
 refine ⟨ds, [], before, [], before, [], hW, ?_, ?_, ?_, World.keptBut_mono (fun p hp => ⟨hp, ?_⟩) (hb.frame (· ∈ before)), fun _ => ?_⟩
 ·rw [hfn]; exact hres _ _ _
 ·rw [hfn]; exact hargs _ hold
 ·rw [hfn]; exact hvars _
 ·exact Or.inr (by simpa using hp)
 ·obtain ⟨_, _, _, _, _, hz, hn⟩ := hW
  refine ⟨?_, _, _, ([] ++ before) ++ [], ⟨[] ++ before, [], trodAll_append (hargs (fun _ => true) (fun _ _ => rfl)) (hres _ _ _), hvars _, rfl, ?_, ?_⟩, ?_⟩
  ·intro j t r hj hr'
   rw [htb] at hj hr'
   exact ok_one (f := f) (by rw [htb]) rfl (okWide_bool_mk hub _) j t r (by rw [htb]; exact hj) (by rw [htb]; exact hr')
  ·intro b off hp
   have hin : MemPlace.cell b off ∈ before := by simpa using hp
   rw [hb.frozen (hlt _ hin)]
   exact hz b off hin
  ·intro ha
   have := hn ha
   simpa using this
  ·intro p hp _
   simpa using hp
end
section
variable {H : Type} {enc : TypeId × Value → H} {P : Program}
theorem has_spot {W : World} {r : Reach} {base t e : Nat} {a : Addr} {l c : Nat} (ht : P.underlying t = some (.slice e)) (h : Cell.okWide P W r base t (.slice (some a) l c)) : a.spot = none := by
 unfold Cell.okWide Cell.ok at h
 simp only [ht] at h
 exact h.2.2.2.1
theorem ok_int {W : World} {r : Reach} {base t : Nat} {k : IntKind} {v : Value} (ht : P.underlying t = some (.int k)) (h : Cell.okWide P W r base t v) : ∃ z, v = .int k z ∧ k.has z := by
 unfold Cell.okWide Cell.ok at h
 simp only [ht] at h
 cases v <;> simp_all
end
section
variable {H : Type} {enc : TypeId × Value → H} {P : Program}
theorem okW_cell {W : World} {r : Reach} {base t e : Nat} {v : Value} (ht : P.underlying t = some (.slice e)) (h : Value.okWide P W r base t v) : Cell.okWide P W r base t v := by
 unfold Value.okWide at h; simp only [ht] at h; exact h
theorem trod_one {W : World} {r : Reach} {base t e n : Nat} {v : Value} {x : DataW H × List MemPlace} (ht : P.underlying t = some (.slice e)) (h : Value.okWide P W r base t v)
  (hx : DataW.trod enc P W 0 (fun _ => true) true n t v.cells.toList = some x) : DataW.trod enc P W 0 (fun _ => true) true n t [v] = some x := by
 have h := okW_cell ht h
 unfold Cell.okWide Cell.ok at h
 simp only [ht] at h
 cases v <;> simp_all [Value.cells]
end
end Go.Own

namespace Go.Own
open Go Go.RowKit Go.WideShapes Go.ChangeShapes
section
variable {H : Type} {enc : TypeId × Value → H} {P : Program}
end
end Go.Own
