import Derived.Test.YtnfgeekaeegolaaSp11
import Derived.Test.YtnfgeekaeegolaaSepH
import Derived.Test.YtnfgeekaeegolaaSepR
import Derived.Test.YtnfgeekaeegolaaSepM
import Derived.Test.YtnfgeekaeegolaaPl7b
import Derived.Test.YtnfgeekaeegolaaPl7e
/-! plain laws of layer 11: what the laws' answers come to -/
namespace Go.Own
open Go
end Go.Own
namespace Go.Own
end Go.Own
namespace Go.Own
open Go
/-- a list without a number. -/
def wout (l : List Int) (n : Int) : List Int := l.filter fun x => decide (x ≠ n)
theorem GoodL.perm {l m : List Int} (h : GoodL l) (p : m.Perm l) : GoodL m := ⟨p.symm.nodup h.1, fun x hx => h.2 x (p.mem_iff.1 hx)⟩
end Go.Own
namespace Go.Own
open Go
end Go.Own
namespace Go.Own
open Go
end Go.Own
namespace Go.Own
open Go
/-- how often each car is in a list. -/
def cnt (l : List Int) : List Int := (List.range 24).map fun (c : Nat) => ((l.count (c : Int) : Nat) : Int)
theorem cnt_len (l : List Int) : (cnt l).length = 24 := by simp [cnt]
theorem cnt_get {l : List Int} {c : Nat} (h : c < 24) : (cnt l)[c]? = some ((l.count (c : Int) : Nat) : Int) := by simp [cnt, h]
theorem cnt_bd {l : List Int} {i : Nat} {y : Int} (h : (cnt l)[i]? = some y) : 0 ≤ y ∧ y ≤ l.length := by
  have hi : i < 24 := by
    have := (List.getElem?_eq_some_iff.1 h).1
    rwa [cnt_len] at this
  rw [cnt_get hi] at h
  have h2 := List.count_le_length (a := (i : Int)) (l := l)
  have : y = ((l.count (i : Int) : Nat) : Int) := by simpa using h.symm
  omega
/-- what act does. -/
structure ActS where
  lo : List Int
  yo : List Int
  gone : List Int
  come : Int
  e : Int
def actS (lo yo : List Int) (kd ca tr : Int) : ActS :=
  if kd % 6 = 0 then ⟨(placeS lo yo (tr % 2) (ca % 24) false).lo, (placeS lo yo (tr % 2) (ca % 24) false).yo, [], ca % 24, (placeS lo yo (tr % 2) (ca % 24) false).e⟩
  else if kd % 6 = 1 then ⟨(placeS lo yo (tr % 2) (ca % 24) true).lo, (placeS lo yo (tr % 2) (ca % 24) true).yo, [], ca % 24, (placeS lo yo (tr % 2) (ca % 24) true).e⟩
  else if kd % 6 = 2 then ⟨(takeS lo yo).lo, (takeS lo yo).yo, [(takeS lo yo).car], -1, (takeS lo yo).e⟩
  else if kd % 6 = 3 then ⟨(relinkS lo yo (decide (tr % 2 = 0))).lo, (relinkS lo yo (decide (tr % 2 = 0))).yo, [], -1, (relinkS lo yo (decide (tr % 2 = 0))).e⟩
  else if kd % 6 = 4 then ⟨(turnS lo yo).lo, (turnS lo yo).yo, [], -1, (turnS lo yo).e⟩
  else ⟨[], (clearS lo yo).yo, (clearS lo yo).lo, -1, (clearS lo yo).e⟩
end Go.Own

/-! plain laws of TrainsKept -/
namespace Go.Own
open Go
def cntD (l g : List Int) : List Int := (List.range 24).map fun (c : Nat) => ((l.count (c : Int) : Nat) : Int) - ((g.count (c : Int) : Nat) : Int)
/-- what act comes to, of good trains. -/
structure ActOk (lo yo : List Int) (s : ActS) : Prop where
  good : GoodL (s.lo ++ s.yo)
  gone : GoodL s.gone
  perm : s.come < 0 → (s.gone ++ (s.lo ++ s.yo)).Perm (lo ++ yo)
  come : 0 ≤ s.come → s.come < 24 ∧ s.gone = [] ∧ (s.lo ++ s.yo).Perm (s.come :: (lo ++ yo))
/-- what Find and Cars come to, of good trains. -/
structure FindOk (lo yo : List Int) (c : Int) (f : Int × Int × Int) : Prop where
  car : (carsS lo yo (if (0 : Int) > f.1 then 0 else f.1)).2 = 0
  e : f.2.2 = 0 ↔ (lo ++ yo).count c = 1
  place : f.2.2 = 0 → 0 ≤ f.2.1 ∧ f.2.1 < ((carsS lo yo (if (0 : Int) > f.1 then 0 else f.1)).1.length : Int) ∧ (carsS lo yo (if (0 : Int) > f.1 then 0 else f.1)).1[f.2.1.toNat]? = some c
/-- how many are below a bound. -/
def below (l : List Int) (c : Nat) : Int := ((l.countP fun x => decide (x < (c : Int)) : Nat) : Int)
/-- an act's cells. -/
def tri (x : Int × Int × Int) : List Value := [.int .u8 x.1, .int .u8 x.2.1, .int .u8 x.2.2]
end Go.Own

namespace Go.Own
open Go
def cmpI (x y : Int) : Int := if x < y then -1 else if y < x then 1 else 0
def orI : List Int → Int
  | [] => 0
  | x :: l => if x ≠ 0 then x else orI l
theorem orI_skip {zs : List Int} {k : Nat} {y : Int} (hy : zs[k]? = some y) (h : y = 0) : orI (zs.drop k) = orI (zs.drop (k + 1)) := by
  obtain ⟨hk, rfl⟩ := List.getElem?_eq_some_iff.1 hy
  rw [List.drop_eq_getElem_cons hk]; simp [orI, h]
theorem orI_hit {zs : List Int} {k : Nat} {y : Int} (hy : zs[k]? = some y) (h : y ≠ 0) : orI (zs.drop k) = y := by
  obtain ⟨hk, rfl⟩ := List.getElem?_eq_some_iff.1 hy
  rw [List.drop_eq_getElem_cons hk]; simp [orI, h]
def encR (x : Int × Int × Int) : Array Value := #[.int .i64 x.1, .agg #[.int .i64 x.2.1, .int .i64 x.2.2]]
def rkSeg (t : Nat) (l : List Int) : List (Int × Int × Int) := l.zipIdx.map fun p => (p.1, (t : Int), (p.2 : Int))
def ranked (lo yo : List Int) : List (Int × Int × Int) := rkSeg 0 lo ++ rkSeg 1 yo
def rkPre (lo yo : List Int) (k : Nat) : List (Int × Int × Int) := if k = 0 then [] else if k = 1 then rkSeg 0 lo else ranked lo yo
/-- a rank's cells. -/
def rkC (r : Int × Int) : List Value := [.int .i64 r.1, .int .i64 r.2]
/-- the table behind some cars. -/
def rkTab (pre : List (Int × Int × Int)) : List (Int × Int) := pre.foldl (fun t x => t.set x.1.toNat x.2) (List.replicate 24 (-1, -1))
def rkIni (k : Nat) : List (Int × Int) := List.replicate k (-1, -1) ++ List.replicate (24 - k) (0, 0)
def rkAll (lo yo : List Int) : List (Int × Int) := (List.range 24).map fun (c : Nat) => ((findT lo yo (c : Int)).1, (findT lo yo (c : Int)).2.1)
def ofE (lo yo cs : List Int) : Int := if (chk lo yo).2.2 ≠ 0 then (chk lo yo).2.2 else if cs.all (fun c => decide (0 ≤ c ∧ c < 24)) then 0 else 7
def ofT (lo yo cs : List Int) : List (Int × Int) := if ofE lo yo cs ≠ 0 then List.replicate 24 (0, 0) else rkAll lo yo
/-! what each function says -/
def rkE (lo yo : List Int) (c : Int) : Int := chkE lo yo 0 c
def rkP (lo yo : List Int) (c : Int) : Int × Int := ((findT lo yo c).1, (findT lo yo c).2.1)
def rkR (lo yo : List Int) (c : Int) : Int × Int := if rkE lo yo c ≠ 0 then (0, 0) else rkP lo yo c
def allT (lo yo : List Int) : List (Int × Int) := if (chk lo yo).2.2 ≠ 0 then [] else rkAll lo yo
def allK (lo yo : List Int) (k : Nat) : List (Int × Int) := (List.range k).map fun (c : Nat) => rkR lo yo (c : Int)
def ordT (lo yo : List Int) : List Int := if (chk lo yo).2.2 ≠ 0 then [] else lo ++ yo
def fst3 (l : List (Int × Int × Int)) : List Int := l.map (·.1)
end Go.Own
namespace Go.Own
open Go
def cmE (lo yo : List Int) (a b : Int) : Int := if rkE lo yo a ≠ 0 then rkE lo yo a else if rkE lo yo b ≠ 0 then rkE lo yo b else if (rkR lo yo a).1 = -1 ∨ (rkR lo yo b).1 = -1 then 4 else 0
def cmN (lo yo : List Int) (a b : Int) : Int := if cmE lo yo a b ≠ 0 then 0 else orI [cmpI (rkR lo yo a).1 (rkR lo yo b).1, cmpI (rkR lo yo a).2 (rkR lo yo b).2]
def plE (lo yo : List Int) (c : Int) : Int := if rkE lo yo c ≠ 0 then rkE lo yo c else if (rkR lo yo c).1 = -1 then 4 else 0
def plN (lo yo : List Int) (c : Int) : Int := if plE lo yo c ≠ 0 then 0 else if (rkR lo yo c).1 = 1 then lo.length + (rkR lo yo c).2 else (rkR lo yo c).2
end Go.Own
namespace Go.Own
open Go
def olT (lo yo : List Int) (c : Int) : List Int := if plE lo yo c ≠ 0 then [] else (lo ++ yo).take (plN lo yo c).toNat
/-! External -/
def exE (lo yo : List Int) (a b : Int) : Int := if rkE lo yo b ≠ 0 then rkE lo yo b else if a ≠ -1 then rkE lo yo a else 0
def exX (lo yo : List Int) (a : Int) : Int := if a ≠ -1 then (rkR lo yo a).1 else -1
def exB (lo yo : List Int) (a b : Int) : Bool := if exE lo yo a b ≠ 0 then false else decide ((rkR lo yo b).1 ≠ -1 ∧ exX lo yo a ≠ (rkR lo yo b).1)
/-! Moved -/
def mvE (lo yo lo2 yo2 : List Int) : Int := if (chk lo yo).2.2 ≠ 0 then (chk lo yo).2.2 else (chk lo2 yo2).2.2
def mvK (lo yo lo2 yo2 : List Int) (k : Nat) : List Int := ((List.range k).filter fun (c : Nat) => decide (rkP lo yo (c : Int) ≠ rkP lo2 yo2 (c : Int))).map fun (c : Nat) => (c : Int)
def mvT (lo yo lo2 yo2 : List Int) : List Int := if mvE lo yo lo2 yo2 ≠ 0 then [] else mvK lo yo lo2 yo2 24
theorem pr_ne {a b : Int × Int} (h : ¬ (a.1 = b.1 ∧ a.2 = b.2)) : a ≠ b := fun e => h (by rw [e]; exact ⟨rfl, rfl⟩)
theorem pr_eq {a b : Int × Int} (h : a.1 = b.1 ∧ a.2 = b.2) : a = b := Prod.ext h.1 h.2
theorem rows_eq {xs ys : List (Int × Int)} (h1 : xs.length = ys.length) {k : Nat} (hk : xs.length ≤ k) (h : ∀ i, i < k → xs[i]? = ys[i]?) : xs = ys := by
  apply List.ext_getElem?
  intro i
  by_cases hi : i < k
  · exact h i hi
  · rw [List.getElem?_eq_none (by omega), List.getElem?_eq_none (by omega)]
theorem rows_step {xs ys : List (Int × Int)} {k : Nat} {x y : Int × Int} (h : ∀ i, i < k → xs[i]? = ys[i]?) (hx : xs[k]? = some x) (hy : ys[k]? = some y) (e : x = y) : ∀ i, i < k + 1 → xs[i]? = ys[i]? := by
  intro i hi
  by_cases q : i = k
  · subst q; rw [hx, hy, e]
  · exact h i (by omega)
theorem rows_ne {xs ys : List (Int × Int)} {k : Nat} {x y : Int × Int} (hx : xs[k]? = some x) (hy : ys[k]? = some y) (e : x ≠ y) : xs ≠ ys := by
  rintro rfl; rw [hx] at hy; cases hy; exact e rfl
end Go.Own
namespace Go.Own
open Go
/-! Take and Append of trains without an error -/
def apL (l : List Int) (c t : Int) : List Int := if t = 0 then l ++ [c] else l
def apY (l : List Int) (c t : Int) : List Int := if t = 0 then l else l ++ [c]
end Go.Own

namespace Go.Own.F
open Go Go.Own
def rcC (r : Int × Int) : List Value := [.int .i64 r.1, .int .i64 r.2]
theorem rcC_len : ∀ a : Int × Int, (rcC a).length = 2 := fun _ => rfl
theorem rcC_one : ∀ y : Int × Int, ∀ u ∈ rcC y, u.oneCell' = true := by intro y u hu; simp only [rcC, List.mem_cons, List.not_mem_nil, or_false] at hu; rcases hu with rfl | rfl <;> rfl
def okC (x : Int × Int) : Prop := (1 ≤ x.1 ∧ x.1 ≤ 1600) ∧ (1 ≤ x.2 ∧ x.2 ≤ 1600)
instance (x : Int × Int) : Decidable (okC x) := by unfold okC; infer_instance
def clGo : Int → List (Int × Int) → Nat → Int × Int
  | _, [], _ => (0, 0)
  | last, x :: r, i => if ¬ okC x then ((i : Int), 7) else if x.1 ≤ last then ((i : Int), 6) else clGo x.1 r (i + 1)
def ckL (l : List (Int × Int)) : Int × Int := if 1600 < l.length then (-1, 3) else clGo 0 l 0
/-- the target before place k. -/
def lst (l : List (Int × Int)) (k : Nat) : Int := if k = 0 then 0 else (l.getD (k - 1) (0, 0)).1
theorem lst_succ {l : List (Int × Int)} {k : Nat} {y : Int × Int} (hy : l[k]? = some y) : lst l (k + 1) = y.1 := by
  unfold lst; rw [if_neg (by omega), Nat.add_sub_cancel, List.getD_eq_getElem?_getD, hy]; rfl
theorem lst_prev {l : List (Int × Int)} {k : Nat} {y : Int × Int} (hk : 0 < k) (hy : l[k - 1]? = some y) : lst l k = y.1 := by
  unfold lst; rw [if_neg (by omega), List.getD_eq_getElem?_getD, hy]; rfl
theorem ckL_long {l : List (Int × Int)} (h : 1600 < (l.length : Int)) : ckL l = (-1, 3) := by unfold ckL; rw [if_pos (by omega)]
theorem ckL_init {l : List (Int × Int)} (h : ¬ 1600 < (l.length : Int)) : ckL l = clGo (lst l 0) (l.drop 0) 0 := by unfold ckL; rw [if_neg (by omega)]; rfl
theorem drop_at9 {α : Type} {l : List α} {k : Nat} {y : α} (hy : l[k]? = some y) : l.drop k = y :: l.drop (k + 1) := by
  obtain ⟨hk, rfl⟩ := List.getElem?_eq_some_iff.1 hy
  exact List.drop_eq_getElem_cons hk
theorem cl_step {l : List (Int × Int)} {k : Nat} {y : Int × Int} (hz : ckL l = clGo (lst l k) (l.drop k) k) (hy : l[k]? = some y) (h1 : okC y) (h2 : ¬ y.1 ≤ lst l k) : ckL l = clGo (lst l (k + 1)) (l.drop (k + 1)) (k + 1) := by
  rw [hz, drop_at9 hy, clGo, if_neg (by simpa using h1), if_neg h2, lst_succ hy]
theorem cl_rng {l : List (Int × Int)} {k : Nat} {y : Int × Int} (hz : ckL l = clGo (lst l k) (l.drop k) k) (hy : l[k]? = some y) (h1 : ¬ okC y) : ckL l = ((k : Int), 7) := by
  rw [hz, drop_at9 hy, clGo, if_pos h1]
theorem cl_form {l : List (Int × Int)} {k : Nat} {y : Int × Int} (hz : ckL l = clGo (lst l k) (l.drop k) k) (hy : l[k]? = some y) (h1 : okC y) (h2 : y.1 ≤ lst l k) : ckL l = ((k : Int), 6) := by
  rw [hz, drop_at9 hy, clGo, if_neg (by simpa using h1), if_pos h2]
theorem cl_done {l : List (Int × Int)} {k : Nat} (hz : ckL l = clGo (lst l k) (l.drop k) k) (hk : l.length ≤ k) : ckL l = (0, 0) := by
  rw [hz, List.drop_eq_nil_of_le hk]; rfl
theorem clGo_iff : ∀ (r : List (Int × Int)) (last : Int) (i : Nat), ((clGo last r i).2 = 0 ↔ (∀ x ∈ r, okC x) ∧ (∀ x ∈ r, last < x.1) ∧ r.Pairwise (fun x y => x.1 < y.1))
  | [], last, i => by simp [clGo]
  | x :: r, last, i => by
    unfold clGo
    by_cases h1 : okC x
    · rw [if_neg (by simpa using h1)]
      by_cases h2 : x.1 ≤ last
      · rw [if_pos h2]
        refine ⟨fun q => (by cases q), fun q => ?_⟩
        have := q.2.1 x (by simp); omega
      · rw [if_neg h2, clGo_iff r x.1 (i + 1), List.pairwise_cons]
        constructor
        · rintro ⟨q1, q2, q3⟩
          refine ⟨fun y hy => ?_, fun y hy => ?_, q2, q3⟩
          · rcases List.mem_cons.1 hy with rfl | hy
            · exact h1
            · exact q1 y hy
          · rcases List.mem_cons.1 hy with rfl | hy
            · omega
            · have := q2 y hy; omega
        · rintro ⟨q1, q2, q3, q4⟩
          exact ⟨fun y hy => q1 y (List.mem_cons_of_mem _ hy), q3, q4⟩
    · rw [if_pos h1]
      exact ⟨fun q => (by cases q), fun q => absurd (q.1 x (by simp)) h1⟩
theorem ckL_iff {l : List (Int × Int)} : (ckL l).2 = 0 ↔ l.length ≤ 1600 ∧ (∀ x ∈ l, okC x) ∧ l.Pairwise (fun x y => x.1 < y.1) := by
  unfold ckL
  by_cases h : 1600 < l.length
  · rw [if_pos h]; exact ⟨fun q => (by cases q), fun q => by omega⟩
  · rw [if_neg h, clGo_iff]
    exact ⟨fun q => ⟨by omega, q.1, q.2.2⟩, fun q => ⟨q.2.1, fun x hx => by have := q.2.1 x hx; unfold okC at this; omega, q.2.2⟩⟩
/-! check of several lists -/
def ckN : List (List (Int × Int)) → Int
  | [] => 0
  | x :: r => if (ckL x).2 ≠ 0 then (ckL x).2 else ckN r
theorem ckN_hit {xs : List (Value × List (Int × Int))} {k : Nat} {p : Value × List (Int × Int)} (hz : ckN (xs.map (·.2)) = ckN ((xs.map (·.2)).drop k)) (hp : xs[k]? = some p) (h : (ckL p.2).2 ≠ 0) : ckN (xs.map (·.2)) = (ckL p.2).2 := by
  rw [hz, drop_at9 (y := p.2) (by simp [hp]), ckN, if_pos h]
theorem ckN_skip {xs : List (Value × List (Int × Int))} {k : Nat} {p : Value × List (Int × Int)} (hz : ckN (xs.map (·.2)) = ckN ((xs.map (·.2)).drop k)) (hp : xs[k]? = some p) (h : ¬ (ckL p.2).2 ≠ 0) : ckN (xs.map (·.2)) = ckN ((xs.map (·.2)).drop (k + 1)) := by
  rw [hz, drop_at9 (y := p.2) (by simp [hp]), ckN, if_neg h]
theorem ckN_end {xs : List (Value × List (Int × Int))} {k : Nat} (hz : ckN (xs.map (·.2)) = ckN ((xs.map (·.2)).drop k)) (hk : xs.length ≤ k) : ckN (xs.map (·.2)) = 0 := by
  rw [hz, List.drop_eq_nil_of_le (by simpa using hk)]; rfl
theorem ckN_one (l : List (Int × Int)) : ckN [l] = (ckL l).2 := by
  unfold ckN ckN
  split
  · rfl
  · rename_i h; simpa using (Classical.not_not.1 h).symm
/-! Popular -/
def ppE (l : List (Int × Int)) (q : Int) : Int := if (ckL l).2 ≠ 0 then (ckL l).2 else if 1 ≤ q ∧ q ≤ 1600 then 0 else 7
def ppF (l : List (Int × Int)) (q : Int) : List Int := (l.filter fun x => decide (q ≤ x.2)).map (·.1)
def ppT (l : List (Int × Int)) (q : Int) : List Int := if ppE l q ≠ 0 then [] else ppF l q
theorem take_add9 {α : Type} {l : List α} {k : Nat} {y : α} (hy : l[k]? = some y) : l.take (k + 1) = l.take k ++ [y] := by
  obtain ⟨hk, rfl⟩ := List.getElem?_eq_some_iff.1 hy
  rw [List.take_add_one, List.getElem?_eq_getElem hk]; rfl
theorem pp_in {l : List (Int × Int)} {q : Int} {k : Nat} {y : Int × Int} (hy : l[k]? = some y) (h : q ≤ y.2) : ppF (l.take k) q ++ [y.1] = ppF (l.take (k + 1)) q := by
  unfold ppF; rw [take_add9 hy, List.filter_append]; simp [h]
theorem pp_out {l : List (Int × Int)} {q : Int} {k : Nat} {y : Int × Int} (hy : l[k]? = some y) (h : ¬ q ≤ y.2) : ppF (l.take k) q = ppF (l.take (k + 1)) q := by
  unfold ppF; rw [take_add9 hy, List.filter_append]; simp [h]
theorem pp_len (l : List (Int × Int)) (q : Int) : (ppF l q).length ≤ l.length := by unfold ppF; rw [List.length_map]; exact List.length_filter_le _ _
/-! Most -/
def mx1 (x y : Int × Int) : Int × Int := if x.2 < y.2 then y else x
def mxP : List (Int × Int) → Int × Int
  | [] => (0, 0)
  | x :: r => r.foldl mx1 x
def mxE (l : List (Int × Int)) : Int := if (ckL l).2 ≠ 0 then (ckL l).2 else if l.length = 0 then 4 else 0
def mxT (l : List (Int × Int)) : Int × Int := if mxE l ≠ 0 then (0, 0) else mxP l
theorem mx_first {l : List (Int × Int)} {y : Int × Int} (hy : l[0]? = some y) : mxP (l.take 1) = y := by
  cases l with
  | nil => simp at hy
  | cons x r => simp at hy; subst hy; rfl
theorem mx_snoc {l : List (Int × Int)} {k : Nat} {y : Int × Int} (hk : 1 ≤ k) (hy : l[k]? = some y) : mxP (l.take (k + 1)) = mx1 (mxP (l.take k)) y := by
  rw [take_add9 hy]
  cases l with
  | nil => simp at hy
  | cons x r =>
    obtain ⟨j, rfl⟩ : ∃ j, k = j + 1 := ⟨k - 1, by omega⟩
    rw [List.take_succ_cons]
    show (r.take j ++ [y]).foldl mx1 x = _
    rw [List.foldl_append]; rfl
theorem mx_mem : ∀ (r : List (Int × Int)) (x : Int × Int), r.foldl mx1 x = x ∨ r.foldl mx1 x ∈ r
  | [], x => .inl rfl
  | y :: r, x => by
    rw [List.foldl_cons]
    rcases mx_mem r (mx1 x y) with h | h
    · rw [h]; unfold mx1; split
      · exact .inr (by simp)
      · exact .inl rfl
    · exact .inr (List.mem_cons_of_mem _ h)
theorem mxP_mem {l : List (Int × Int)} (h : 0 < l.length) : mxP l ∈ l := by
  cases l with
  | nil => simp at h
  | cons x r =>
    rcases mx_mem r x with q | q
    · show r.foldl mx1 x ∈ _; rw [q]; simp
    · exact List.mem_cons_of_mem _ q
theorem mxP_lt {l : List (Int × Int)} (hs : l.Pairwise (fun x y => x.1 < y.1)) {k : Nat} {y : Int × Int} (hk : 1 ≤ k) (hy : l[k]? = some y) : (mxP (l.take k)).1 < y.1 := by
  have hkl := (List.getElem?_eq_some_iff.1 hy).1
  have hm := mxP_mem (l := l.take k) (by rw [List.length_take]; omega)
  obtain ⟨i, hi, he⟩ := List.mem_iff_getElem.1 hm
  rw [List.length_take] at hi
  rw [List.getElem_take] at he
  obtain ⟨hk2, rfl⟩ := List.getElem?_eq_some_iff.1 hy
  have := List.pairwise_iff_getElem.1 hs i k (by omega) hkl (by omega)
  rw [he] at this; exact this
/-! Within -/
def wiB (f t : Int) (x : Int × Int) : Bool := decide (x.1 < f ∨ t ≤ x.1)
def wiF (f t : Int) (l : List (Int × Int)) : List (Int × Int) := l.filter fun x => !wiB f t x
def wiT (l : List (Int × Int)) (f t : Int) : List (Int × Int) := if (ckL l).2 ≠ 0 then [] else wiF f t l
end Go.Own.F

/-! counts of a list of targets; sums of counts -/
namespace Go.Own.F
open Go Go.Own Go.Own.R
/-- ascending by target. -/
def Asc (l : List (Int × Int)) : Prop := l.Pairwise fun x y => x.1 < y.1
theorem asc_ext : ∀ {l m : List (Int × Int)}, Asc l → Asc m → (∀ x, x ∈ l ↔ x ∈ m) → l = m
  | [], [], _, _, _ => rfl
  | [], y :: m, _, _, h => by have := (h y).2 (by simp); cases this
  | x :: l, [], _, _, h => by have := (h x).1 (by simp); cases this
  | x :: l, y :: m, hl, hm, h => by
    unfold Asc at hl hm
    rw [List.pairwise_cons] at hl hm
    have e : x = y := by
      rcases List.mem_cons.1 ((h x).1 (by simp)) with q | q
      · exact q
      · rcases List.mem_cons.1 ((h y).2 (by simp)) with r | r
        · exact r.symm
        · have := hm.1 x q; have := hl.1 y r; omega
    subst e
    congr 1
    refine asc_ext hl.2 hm.2 fun z => ?_
    constructor
    · intro q
      rcases List.mem_cons.1 ((h z).1 (List.mem_cons_of_mem _ q)) with r | r
      · subst r; have := hl.1 z q; omega
      · exact r
    · intro q
      rcases List.mem_cons.1 ((h z).2 (List.mem_cons_of_mem _ q)) with r | r
      · subst r; have := hm.1 z q; omega
      · exact r
/-- counts in which a target has n more. -/
def plF : List (Int × Int) → Int → Int → List (Int × Int)
  | [], t, n => [(t, n)]
  | x :: r, t, n => if x.1 < t then x :: plF r t n else if x.1 = t then (t, x.2 + n) :: r else (t, n) :: x :: r
/-- what a target has. -/
def nOf (l : List (Int × Int)) (t : Int) : Int := ((l.find? fun x => x.1 == t).map (·.2)).getD 0
theorem plF_lo : ∀ {l : List (Int × Int)} {t n b : Int}, (∀ x ∈ l, b < x.1) → b < t → ∀ x ∈ plF l t n, b < x.1
  | [], t, n, b, _, ht, x, hx => by simp [plF] at hx; subst hx; exact ht
  | y :: r, t, n, b, h, ht, x, hx => by
    unfold plF at hx
    have hy := h y (by simp)
    have hr : ∀ x ∈ r, b < x.1 := fun x hx => h x (List.mem_cons_of_mem _ hx)
    split at hx
    · rcases List.mem_cons.1 hx with rfl | q
      · exact hy
      · exact plF_lo hr ht x q
    · split at hx
      · rcases List.mem_cons.1 hx with rfl | q
        · exact ht
        · exact hr x q
      · rcases List.mem_cons.1 hx with rfl | q
        · exact ht
        · rcases List.mem_cons.1 q with rfl | q
          · exact hy
          · exact hr x q
theorem plF_asc : ∀ {l : List (Int × Int)} {t n : Int}, Asc l → Asc (plF l t n)
  | [], t, n, _ => by unfold plF Asc; simp
  | y :: r, t, n, h => by
    have h' := h
    unfold Asc at h
    rw [List.pairwise_cons] at h
    unfold plF
    split
    · rename_i hlt
      unfold Asc; rw [List.pairwise_cons]
      exact ⟨fun x hx => plF_lo h.1 hlt x hx, plF_asc h.2⟩
    · split
      · rename_i h1 h2
        unfold Asc; rw [List.pairwise_cons]
        exact ⟨fun x hx => by have := h.1 x hx; simp only; omega, h.2⟩
      · rename_i h1 h2
        unfold Asc; rw [List.pairwise_cons]
        refine ⟨fun x hx => ?_, h'⟩
        rcases List.mem_cons.1 hx with rfl | q
        · simp only; omega
        · have := h.1 x q; simp only; omega
theorem nOf_cons {x : Int × Int} {r : List (Int × Int)} {t : Int} : nOf (x :: r) t = if x.1 = t then x.2 else nOf r t := by
  unfold nOf
  by_cases h : x.1 = t
  · simp [List.find?_cons, h]
  · have hb : (x.1 == t) = false := by simpa using h
    simp [List.find?_cons, h, hb]
theorem nOf_lt : ∀ {l : List (Int × Int)} {t : Int}, (∀ x ∈ l, t < x.1) → nOf l t = 0
  | [], t, _ => rfl
  | x :: r, t, h => by
    have := h x (by simp)
    rw [nOf_cons, if_neg (by omega)]
    exact nOf_lt fun y hy => h y (List.mem_cons_of_mem _ hy)
theorem plF_n : ∀ {l : List (Int × Int)} {t n : Int}, Asc l → ∀ u, nOf (plF l t n) u = nOf l u + if u = t then n else 0
  | [], t, n, _, u => by
    unfold plF; rw [nOf_cons]; simp only
    by_cases h : t = u
    · simp [h, nOf]
    · have : ¬ u = t := fun e => h e.symm
      simp [h, this, nOf]
  | y :: r, t, n, h, u => by
    unfold Asc at h
    rw [List.pairwise_cons] at h
    unfold plF
    split
    · rename_i hlt
      rw [nOf_cons, nOf_cons, plF_n h.2]
      split
      · rename_i e; rw [if_neg (by omega)]; omega
      · rfl
    · split
      · rename_i h1 h2
        rw [nOf_cons, nOf_cons]; simp only
        by_cases e : t = u
        · have : y.1 = u := by omega
          simp [e, this]
        · have e1 : ¬ y.1 = u := by omega
          have e2 : ¬ u = t := fun q => e q.symm
          simp [e, e1, e2]
      · rename_i h1 h2
        rw [nOf_cons]; simp only
        by_cases e : t = u
        · have : nOf (y :: r) u = 0 := nOf_lt fun x hx => by
            rcases List.mem_cons.1 hx with rfl | q
            · omega
            · have := h.1 x q; omega
          simp [e, this]
        · have e2 : ¬ u = t := fun q => e q.symm
          simp [e, e2]
theorem nOf_mem : ∀ {l : List (Int × Int)}, Asc l → ∀ {x : Int × Int}, x ∈ l → nOf l x.1 = x.2
  | y :: r, h, x, hx => by
    unfold Asc at h
    rw [List.pairwise_cons] at h
    rw [nOf_cons]
    rcases List.mem_cons.1 hx with rfl | q
    · rw [if_pos rfl]
    · have := h.1 x q
      rw [if_neg (by omega), nOf_mem h.2 q]
theorem nOf_in : ∀ {l : List (Int × Int)} {t : Int}, nOf l t ≠ 0 → (t, nOf l t) ∈ l
  | [], t, h => absurd rfl h
  | x :: r, t, h => by
    rw [nOf_cons] at h ⊢
    split
    · rename_i e; subst e; exact List.mem_cons_self
    · rename_i e; rw [if_neg e] at h; exact List.mem_cons_of_mem _ (nOf_in h)
/-- all are positive. -/
def Pos (l : List (Int × Int)) : Prop := ∀ x ∈ l, 0 < x.2
theorem plF_pos : ∀ {l : List (Int × Int)} {t n : Int}, Pos l → 0 < n → Pos (plF l t n)
  | [], t, n, _, hn => by unfold plF Pos; intro x hx; simp at hx; subst hx; exact hn
  | y :: r, t, n, h, hn => by
    have hr : Pos r := fun x hx => h x (List.mem_cons_of_mem _ hx)
    unfold plF
    split
    · intro x hx
      rcases List.mem_cons.1 hx with rfl | q
      · exact h _ (by simp)
      · exact plF_pos hr hn x q
    · split
      · intro x hx
        rcases List.mem_cons.1 hx with rfl | q
        · have := h y (by simp); simp only; omega
        · exact hr x q
      · intro x hx
        rcases List.mem_cons.1 hx with rfl | q
        · exact hn
        · exact h x q
/-- ascending counts that are positive are told by what each target has. -/
theorem asc_nOf {l m : List (Int × Int)} (hl : Asc l) (hm : Asc m) (pl : Pos l) (pm : Pos m) (h : ∀ t, nOf l t = nOf m t) : l = m := by
  refine asc_ext hl hm fun x => ⟨fun hx => ?_, fun hx => ?_⟩
  · have := nOf_mem hl hx
    have hp := pl x hx
    rw [h] at this
    have := nOf_in (l := m) (t := x.1) (by omega)
    rwa [show nOf m x.1 = x.2 by omega] at this
  · have := nOf_mem hm hx
    have hp := pm x hx
    rw [← h] at this
    have := nOf_in (l := l) (t := x.1) (by omega)
    rwa [show nOf l x.1 = x.2 by omega] at this
/-- many added up. -/
def plA (l : List (Int × Int)) (m : List (Int × Int)) : List (Int × Int) := m.foldl (fun l x => plF l x.1 x.2) l
theorem plA_snoc {l m : List (Int × Int)} {x : Int × Int} : plA l (m ++ [x]) = plF (plA l m) x.1 x.2 := by unfold plA; rw [List.foldl_append]; rfl
theorem plA_asc {m : List (Int × Int)} : ∀ {l : List (Int × Int)}, Asc l → Asc (plA l m) := by
  induction m with
  | nil => exact fun h => h
  | cons x m ih => exact fun h => ih (plF_asc h)
theorem plA_pos {m : List (Int × Int)} : ∀ {l : List (Int × Int)}, Pos l → Pos m → Pos (plA l m) := by
  induction m with
  | nil => exact fun h _ => h
  | cons x m ih => exact fun h hm => ih (plF_pos h (hm x (by simp))) fun y hy => hm y (List.mem_cons_of_mem _ hy)
/-- the sum of all that a list has for a target. -/
def smN (m : List (Int × Int)) (t : Int) : Int := (m.map fun x => if t = x.1 then x.2 else 0).sum
theorem plA_n {m : List (Int × Int)} : ∀ {l : List (Int × Int)}, Asc l → ∀ t, nOf (plA l m) t = nOf l t + smN m t := by
  induction m with
  | nil => intro l _ t; simp [plA, smN]
  | cons x m ih =>
    intro l h t
    show nOf (plA (plF l x.1 x.2) m) t = _
    rw [ih (plF_asc h), plF_n h]
    unfold smN; rw [List.map_cons, List.sum_cons]; omega
end Go.Own.F

/-! what the tables of layer 9 hold: the slots that are asked, the holders of a target, the counts -/
namespace Go.Own.F
open Go Go.Own Go.Own.R Go.Own.S
/-- the word at slot a. -/
def wA (ws : List Int) (a : Int) : Int := ws.getD a.toNat 0
def bdW (ws : List Int) (a : Int) : Bool := decide ((ws.length : Int) ≤ a ∨ 1600 < wA ws a)
theorem wA_at {ws : List Int} {a y : Int} (h : ws[a.toNat]? = some y) : wA ws a = y := by unfold wA; rw [List.getD_eq_getElem?_getD, h]; rfl
def slK (ws c : List Int) (k : Nat) : Int := if (ckS c).2 ≠ 0 then (ckS c).2 else if ((lsT c).take k).any (bdW ws) then 7 else 0
def slE (ws c : List Int) : Int := if 1601 < (ws.length : Int) then 3 else slK ws c (lsT c).length
def slT (ws c : List Int) : List Int := if slE ws c ≠ 0 then [] else lsT c
theorem slK_zero {ws c : List Int} {k : Nat} (h : slK ws c k = 0) : (ckS c).2 = 0 ∧ ∀ a ∈ (lsT c).take k, ¬ bdW ws a = true := by
  unfold slK at h
  by_cases hc : (ckS c).2 ≠ 0
  · rw [if_pos hc] at h; exact absurd h hc
  · rw [if_neg hc] at h
    refine ⟨by omega, fun a ha hb => ?_⟩
    rw [if_pos (List.any_eq_true.2 ⟨a, ha, hb⟩)] at h
    cases h
theorem lsT_rng {c : List Int} {a : Int} (h : a ∈ lsT c) : 1 ≤ a ∧ a ≤ 1600 := by
  unfold lsT at h
  split at h
  · cases h
  · exact tgK_rng _ h
/-- what holds when the slots are given. -/
theorem slE_zero {ws c : List Int} (h : slE ws c = 0) : slT ws c = lsT c ∧ (ckS c).2 = 0 ∧ ws.length ≤ 1601 ∧ ∀ a ∈ slT ws c, 1 ≤ a ∧ a ≤ 1600 ∧ a < (ws.length : Int) ∧ wA ws a ≤ 1600 := by
  have e : slT ws c = lsT c := by unfold slT; rw [if_neg (by omega)]
  unfold slE at h
  by_cases hl : 1601 < (ws.length : Int)
  · rw [if_pos hl] at h; cases h
  · rw [if_neg hl] at h
    obtain ⟨h1, h2⟩ := slK_zero h
    rw [List.take_of_length_le (Nat.le_refl _)] at h2
    refine ⟨e, h1, by omega, fun a ha => ?_⟩
    rw [e] at ha
    have q := h2 a ha
    have r := lsT_rng ha
    unfold bdW at q
    rw [decide_eq_true_eq] at q
    omega
theorem slE_long {ws c : List Int} (h : 1601 < (ws.length : Int)) : slE ws c = 3 := by unfold slE; rw [if_pos h]
theorem slE_err {ws c : List Int} (h : ¬ 1601 < (ws.length : Int)) (hc : (ckS c).2 ≠ 0) : slE ws c = (ckS c).2 := by unfold slE slK; rw [if_neg h, if_pos hc]
theorem slE_bad {ws c : List Int} {a : Int} (h : ¬ 1601 < (ws.length : Int)) (hc : (ckS c).2 = 0) (ha : a ∈ lsT c) (hb : bdW ws a = true) : slE ws c = 7 := by
  unfold slE slK; rw [if_neg h, if_neg (by omega), List.take_of_length_le (Nat.le_refl _), if_pos (List.any_eq_true.2 ⟨a, ha, hb⟩)]
theorem slE_ok {ws c : List Int} (h : ¬ 1601 < (ws.length : Int)) (hc : (ckS c).2 = 0) (ha : ∀ a ∈ lsT c, ¬ bdW ws a = true) : slE ws c = 0 := by
  unfold slE slK; rw [if_neg h, if_neg (by omega), List.take_of_length_le (Nat.le_refl _), if_neg (fun q => by obtain ⟨a, h1, h2⟩ := List.any_eq_true.1 q; exact ha a h1 h2)]
theorem slT_err {ws c : List Int} (h : slE ws c ≠ 0) : slT ws c = [] := by unfold slT; rw [if_pos h]
theorem ok_step {ws l : List Int} {k : Nat} {a : Int} (h : ∀ a ∈ l.take k, ¬ bdW ws a = true) (hy : l[k]? = some a) (hb : ¬ bdW ws a = true) : ∀ a ∈ l.take (k + 1), ¬ bdW ws a = true := fun x hx => by
  rw [take_add9 hy] at hx
  rcases List.mem_append.1 hx with q | q
  · exact h x q
  · simp at q; rw [q]; exact hb
/-- the counts, as they come. -/
def cnF (ws : List Int) (l : List Int) : List (Int × Int) := l.foldl (fun m a => if wA ws a = 0 then m else plF m (wA ws a) 1) []
theorem plF_len (l : List (Int × Int)) (t n : Int) : (plF l t n).length ≤ l.length + 1 := by
  induction l with
  | nil => simp [plF]
  | cons x r ih =>
    unfold plF
    split
    · simp only [List.length_cons]; omega
    · split <;> simp
theorem cnF_len (ws l : List Int) : (cnF ws l).length ≤ l.length := by
  have key : ∀ (l : List Int) (m : List (Int × Int)), (l.foldl (fun m a => if wA ws a = 0 then m else plF m (wA ws a) 1) m).length ≤ m.length + l.length := by
    intro l
    induction l with
    | nil => intro m; simp
    | cons a l ih =>
      intro m
      rw [List.foldl_cons, List.length_cons]
      refine Nat.le_trans (ih _) ?_
      split
      · omega
      · have := plF_len m (wA ws a) 1; omega
  have := key l []
  simpa [cnF] using this
def coT (ws c : List Int) : List (Int × Int) := if slE ws c ≠ 0 then [] else cnF ws (lsT c)
/-- the holders of target t. -/
def hoF (ws l : List Int) (t : Int) : List Int := l.filter fun a => decide (wA ws a = t)
def hoE (ws c : List Int) (t : Int) : Int := if slE ws c ≠ 0 then slE ws c else if 1 ≤ t ∧ t ≤ 1600 then 0 else 7
def hoT (ws c : List Int) (t : Int) : List Int := if hoE ws c t ≠ 0 then [] else hoF ws (lsT c) t
theorem hoF_in {ws l : List Int} {k : Nat} {a t : Int} (hy : l[k]? = some a) (h : wA ws a = t) : hoF ws (l.take k) t ++ [a] = hoF ws (l.take (k + 1)) t := by
  unfold hoF; rw [take_add9 hy, List.filter_append]; simp [h]
theorem hoF_out {ws l : List Int} {k : Nat} {a t : Int} (hy : l[k]? = some a) (h : ¬ wA ws a = t) : hoF ws (l.take k) t = hoF ws (l.take (k + 1)) t := by
  unfold hoF; rw [take_add9 hy, List.filter_append]; simp [h]
theorem hoF_len (ws l : List Int) (t : Int) : (hoF ws l t).length ≤ l.length := List.length_filter_le _ _
theorem hoE_err {ws c : List Int} {t : Int} (h : slE ws c ≠ 0) : hoE ws c t = slE ws c := by unfold hoE; rw [if_pos h]
theorem hoE_unk {ws c : List Int} {t : Int} (h : slE ws c = 0) (ht : ¬ (1 ≤ t ∧ t ≤ 1600)) : hoE ws c t = 7 := by unfold hoE; rw [if_neg (by omega), if_neg ht]
theorem hoE_ok {ws c : List Int} {t : Int} (h : slE ws c = 0) (ht : 1 ≤ t ∧ t ≤ 1600) : hoE ws c t = 0 := by unfold hoE; rw [if_neg (by omega), if_pos ht]
theorem hoT_err {ws c : List Int} {t : Int} (h : hoE ws c t ≠ 0) : hoT ws c t = [] := by unfold hoT; rw [if_pos h]
theorem hoT_ok {ws c : List Int} {t : Int} (h : slE ws c = 0) (ht : 1 ≤ t ∧ t ≤ 1600) : hoT ws c t = hoF ws (slT ws c) t := by unfold hoT; rw [if_neg (by rw [hoE_ok h ht]; omega), (slE_zero h).1]
/-- one more, in its place: what the reference does. -/
theorem plF_skip : ∀ {l : List (Int × Int)} {k : Nat} {t n : Int}, (∀ i, i < k → ∀ x, l[i]? = some x → x.1 < t) → k ≤ l.length → plF l t n = l.take k ++ plF (l.drop k) t n := by
  intro l
  induction l with
  | nil => intro k t n _ hk; simp at hk; subst hk; rfl
  | cons x r ih =>
    intro k t n h hk
    cases k with
    | zero => rfl
    | succ k =>
      have hx := h 0 (by omega) x rfl
      rw [List.take_succ_cons, List.drop_succ_cons, List.cons_append, ← ih (k := k) (fun i hi y hy => h (i + 1) (by omega) y (by simpa using hy)) (by simpa using hk)]
      rw [plF, if_pos hx]
theorem plF_hit {l : List (Int × Int)} {k : Nat} {t n : Int} {y : Int × Int} (h : ∀ i, i < k → ∀ x, l[i]? = some x → x.1 < t) (hy : l[k]? = some y) (e : y.1 = t) : l.take k ++ [(t, y.2 + n)] ++ l.drop (k + 1) = plF l t n := by
  have hk := (List.getElem?_eq_some_iff.1 hy).1
  rw [plF_skip h (by omega), drop_at9 hy, plF, if_neg (by omega), if_pos e]
  simp
theorem plF_ins {l : List (Int × Int)} {k : Nat} {t n : Int} (h : ∀ i, i < k → ∀ x, l[i]? = some x → x.1 < t) (hk : k ≤ l.length) (h2 : ∀ y, l[k]? = some y → t < y.1) : l.take k ++ [(t, n)] ++ l.drop k = plF l t n := by
  rw [plF_skip h hk]
  cases e : l.drop k with
  | nil => simp [plF]
  | cons y r =>
    have hy : l[k]? = some y := by
      have := congrArg (fun m => m[0]?) e
      simpa using this
    have := h2 y hy
    rw [plF, if_neg (by omega), if_neg (by omega)]; simp
theorem nOf_skip {l : List (Int × Int)} {t : Int} {k : Nat} {y : Int × Int} (hz : nOf l t = nOf (l.drop k) t) (hy : l[k]? = some y) (h : ¬ y.1 = t) : nOf l t = nOf (l.drop (k + 1)) t := by rw [hz, drop_at9 hy, nOf_cons, if_neg h]
theorem nOf_hit {l : List (Int × Int)} {t : Int} {k : Nat} {y : Int × Int} (hz : nOf l t = nOf (l.drop k) t) (hy : l[k]? = some y) (h : y.1 = t) : nOf l t = y.2 := by rw [hz, drop_at9 hy, nOf_cons, if_pos h]
theorem nOf_done {l : List (Int × Int)} {t : Int} {k : Nat} (hz : nOf l t = nOf (l.drop k) t) (hk : l.length ≤ k) : nOf l t = 0 := by rw [hz, List.drop_eq_nil_of_le hk]; rfl
theorem lt_step {l : List (Int × Int)} {k : Nat} {t : Int} {y : Int × Int} (h : ∀ i, i < k → ∀ x, l[i]? = some x → x.1 < t) (hy : l[k]? = some y) (hl : y.1 < t) : ∀ i, i < k + 1 → ∀ x, l[i]? = some x → x.1 < t := fun i hi x hx => by
  by_cases e : i = k
  · subst e; rw [hy] at hx; cases hx; exact hl
  · exact h i (by omega) x hx
theorem plF_bd : ∀ {l : List (Int × Int)} {t n b : Int}, (∀ x ∈ l, 0 ≤ x.2 ∧ x.2 ≤ b) → 0 ≤ b → 0 ≤ n → ∀ x ∈ plF l t n, 0 ≤ x.2 ∧ x.2 ≤ b + n := by
  intro l
  induction l with
  | nil => intro t n b _ hb hn x hx; simp [plF] at hx; subst hx; exact ⟨hn, by omega⟩
  | cons y r ih =>
    intro t n b h hb hn x hx
    have hy := h y (List.mem_cons_self ..)
    have hr : ∀ x ∈ r, 0 ≤ x.2 ∧ x.2 ≤ b := fun x hx => h x (List.mem_cons_of_mem _ hx)
    unfold plF at hx
    split at hx
    · rcases List.mem_cons.1 hx with rfl | hx
      · omega
      · exact ih hr hb hn x hx
    · split at hx
      · rcases List.mem_cons.1 hx with rfl | hx
        · simp only; omega
        · have := hr x hx; omega
      · rcases List.mem_cons.1 hx with rfl | hx
        · simp only; omega
        · have := h x hx; omega
theorem lsT_len (c : List Int) : (lsT c).length ≤ 1600 := by
  unfold lsT; split
  · simp
  · exact tgK_len c 1600
theorem slT_len (ws c : List Int) : (slT ws c).length ≤ 1600 := by
  unfold slT lsT; split
  · simp
  · split
    · simp
    · exact tgK_len c 1600
end Go.Own.F
