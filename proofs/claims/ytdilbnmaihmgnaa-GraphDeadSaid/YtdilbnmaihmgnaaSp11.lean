import Derived.Test.YtdilbnmaihmgnaaStep
/-! plain functions of layer 11 -/
namespace Go.Own
open Go

def putAt (n : Nat) (b : Bool) : Nat := if b && decide (0 < n) then n - 1 else n
def putL (xs : List Int) (c : Int) (b : Bool) : List Int := xs.take (putAt xs.length b) ++ c :: xs.drop (putAt xs.length b)
theorem take_snoc {α : Type} (l : List α) (k : Nat) (d : α) (h : k < l.length) : l.take (k + 1) = l.take k ++ [l.getD k d] := by
  rw [List.take_succ_eq_append_getElem h]; simp [h]
theorem take_snoc' {α : Type} (l : List α) (k : Nat) (x : α) (h : l[k]? = some x) : l.take (k + 1) = l.take k ++ [x] := by
  obtain ⟨hk, hx⟩ := List.getElem?_eq_some_iff.1 h
  rw [List.take_succ_eq_append_getElem hk, hx]

/-- the place of a number in a list, or -1. -/
def idx (zs : List Int) (x : Int) : Int := match zs.findIdx? (· == x) with | some i => i | none => -1
def eqI (xs ys : List Int) : Bool := decide (xs = ys)
/-- where a car is. -/
def findT (lo yo : List Int) (c : Int) : Int × Int × Int :=
  if 0 ≤ idx lo c then (0, idx lo c, 0) else if 0 ≤ idx yo c then (1, idx yo c, 0) else (-1, -1, 4)

/-- what is wrong with the car at a place, behind some others. -/
def errAt (pre l : List Int) (k : Nat) : Int := if l.getD k 0 < 0 ∨ 24 ≤ l.getD k 0 then 7 else if l.getD k 0 ∈ pre ++ l.take k then 8 else 0
def scan (pre l : List Int) : Option Nat := (List.range l.length).find? fun k => errAt pre l k != 0
def chk (lo yo : List Int) : Int × Int × Int :=
  if 24 < lo.length then (0, -1, 3) else if 24 < yo.length then (1, -1, 3) else
  match scan [] lo with
  | some k => (0, k, errAt [] lo k)
  | none => match scan lo yo with
    | some k => (1, k, errAt lo yo k)
    | none => (0, 0, 0)
def preAt (lo yo : List Int) (i : Nat) : List Int := if i = 0 then [] else if i = 1 then lo else lo ++ yo
def trAt (lo yo : List Int) (i : Nat) : List Int := if i = 0 then lo else yo
/-- which cars were met. -/
def metA (seen : List Int) : Array Value := ((List.range 24).map fun (c : Nat) => Value.bool (decide ((c : Int) ∈ seen))).toArray
def chkE (lo yo : List Int) (train car : Int) : Int :=
  if (chk lo yo).2.2 ≠ 0 then (chk lo yo).2.2 else if (train ≠ 0 ∧ train ≠ 1) ∨ car < 0 ∨ 24 ≤ car then 7 else 0


structure TrS where
  lo : List Int
  yo : List Int
  car : Int
  e : Int
def takeS (lo yo : List Int) : TrS :=
  if (chk lo yo).2.2 ≠ 0 then ⟨[], [], 0, (chk lo yo).2.2⟩ else match lo with | [] => ⟨[], [], 0, 4⟩ | c :: r => ⟨r, yo, c, 0⟩

def placeS (lo yo : List Int) (tr c : Int) (b : Bool) : TrS :=
  if chkE lo yo tr c ≠ 0 then ⟨[], [], 0, chkE lo yo tr c⟩ else if (findT lo yo c).2.2 = 0 then ⟨[], [], 0, 8⟩ else
  if tr = 0 then ⟨putL lo c b, yo, 0, 0⟩ else ⟨lo, putL yo c b, 0, 0⟩
def relinkS (lo yo : List Int) (b : Bool) : TrS :=
  if (takeS lo yo).e ≠ 0 then ⟨[], [], 0, (takeS lo yo).e⟩ else ⟨(takeS lo yo).lo, putL (takeS lo yo).yo (takeS lo yo).car b, (takeS lo yo).car, 0⟩
def turnS (lo yo : List Int) : TrS :=
  if (chk lo yo).2.2 ≠ 0 then ⟨[], [], 0, (chk lo yo).2.2⟩ else if 0 < lo.length then ⟨[], [], 0, 9⟩ else ⟨yo, [], 0, 0⟩
/-- lo: the cars that were taken -/
def clearS (lo yo : List Int) : TrS :=
  if (chk lo yo).2.2 ≠ 0 then ⟨[], [], 0, (chk lo yo).2.2⟩ else ⟨lo, yo, 0, 0⟩
def findS (lo yo : List Int) (c : Int) : Int × Int × Int := if chkE lo yo 0 c ≠ 0 then (0, 0, chkE lo yo 0 c) else findT lo yo c
def carsS (lo yo : List Int) (tr : Int) : List Int × Int := if chkE lo yo tr 0 ≠ 0 then ([], chkE lo yo tr 0) else (if tr = 0 then lo else yo, 0)
def lastS (lo yo : List Int) (tr : Int) : Int × Int :=
  if (carsS lo yo tr).2 ≠ 0 then (0, (carsS lo yo tr).2) else match (carsS lo yo tr).1.getLast? with | none => (0, 4) | some x => (x, 0)

end Go.Own
/-! plain law: what Check accepts -/
namespace Go.Own
open Go

def GoodL (l : List Int) : Prop := l.Nodup ∧ ∀ x ∈ l, 0 ≤ x ∧ x < 24

theorem pigeon : ∀ (n : Nat) (l : List Int), l.Nodup → (∀ x ∈ l, 0 ≤ x ∧ x < n) → l.length ≤ n := by
  intro n
  induction n with
  | zero =>
    intro l _ h
    cases l with
    | nil => simp
    | cons x r => have := h x (by simp); omega
  | succ n ih =>
    intro l hn h
    by_cases hm : (n : Int) ∈ l
    · have h1 := ih (l.erase (n : Int)) (hn.erase _) (fun x hx => by
        have hx' := (hn.mem_erase_iff).1 hx
        have := h x hx'.2
        have hne := hx'.1
        omega)
      rw [List.length_erase_of_mem hm] at h1
      omega
    · have h1 := ih l hn (fun x hx => by
        have := h x hx
        have hne : x ≠ (n : Int) := fun e => hm (e ▸ hx)
        omega)
      omega

theorem GoodL.len {l : List Int} (h : GoodL l) : l.length ≤ 24 := pigeon 24 l h.1 h.2

end Go.Own
namespace Go.Own
open Go Go.RowKit
end Go.Own
namespace Go.Own
open Go
end Go.Own
namespace Go.Own
end Go.Own
namespace Go.Own
end Go.Own
namespace Go.Own
end Go.Own
namespace Go.Own
end Go.Own
