import Derived.Test.YtpgkfndbfocibaaGreatSepU
namespace Go.Own
open Go Go.RowKit
section
variable {w0 w : World} {X : Nat → Prop} {cs : List HP} {c d e g q a b a' g' q' : HP} {i j k m n : Nat}
theorem St.fin4 (h : St w0 X cs w) (i : Nat) (hi : cs[i]? = some c) (hc : c = a) (j : Nat) (hj : cs[j]? = some d) (hd : d = b) (k : Nat) (hk : cs[k]? = some e) (he : e = a') (m : Nat) (hm : cs[m]? = some g) (hg : g = g') (hn : ([i, j, k, m] : List Nat).Nodup) : St w0 X [a, b, a', g'] w := by
 subst hc hd he hg; exact h.sel [i, j, k, m] hn (by simp [hi, hj, hk, hm])
theorem St.fin5 (h : St w0 X cs w) (i : Nat) (hi : cs[i]? = some c) (hc : c = a) (j : Nat) (hj : cs[j]? = some d) (hd : d = b) (k : Nat) (hk : cs[k]? = some e) (he : e = a') (m : Nat) (hm : cs[m]? = some g) (hg : g = g') (n : Nat) (hn' : cs[n]? = some q) (hq : q = q') (hn : ([i, j, k, m, n] : List Nat).Nodup) : St w0 X [a, b, a', g', q'] w := by
 subst hc hd he hg hq; exact h.sel [i, j, k, m, n] hn (by simp [hi, hj, hk, hm, hn'])
end
section
variable {w0 w : World} {X : Nat → Prop}
theorem gen15 {a0 a1 a2 a3 a4 a5 a6 a7 a8 a9 a10 a11 a12 a13 a14 : HP} {l : List HP} (h : St w0 X (a0 :: a1 :: a2 :: a3 :: a4 :: a5 :: a6 :: a7 :: a8 :: a9 :: a10 :: a11 :: a12 :: a13 :: a14 :: l) w) : ∃ c0 c1 c2 c3 c4 c5 c6 c7 c8 c9 c10 c11 c12 c13 c14, c0 = a0 ∧ c1 = a1 ∧ c2 = a2 ∧ c3 = a3 ∧ c4 = a4 ∧ c5 = a5 ∧ c6 = a6 ∧ c7 = a7 ∧ c8 = a8 ∧ c9 = a9 ∧ c10 = a10 ∧ c11 = a11 ∧ c12 = a12 ∧ c13 = a13 ∧ c14 = a14 ∧ St w0 X (c0 :: c1 :: c2 :: c3 :: c4 :: c5 :: c6 :: c7 :: c8 :: c9 :: c10 :: c11 :: c12 :: c13 :: c14 :: l) w := ⟨_, _, _, _, _, _, _, _, _, _, _, _, _, _, _, rfl, rfl, rfl, rfl, rfl, rfl, rfl, rfl, rfl, rfl, rfl, rfl, rfl, rfl, rfl, h⟩
theorem gen16 {a0 a1 a2 a3 a4 a5 a6 a7 a8 a9 a10 a11 a12 a13 a14 a15 : HP} {l : List HP} (h : St w0 X (a0 :: a1 :: a2 :: a3 :: a4 :: a5 :: a6 :: a7 :: a8 :: a9 :: a10 :: a11 :: a12 :: a13 :: a14 :: a15 :: l) w) : ∃ c0 c1 c2 c3 c4 c5 c6 c7 c8 c9 c10 c11 c12 c13 c14 c15, c0 = a0 ∧ c1 = a1 ∧ c2 = a2 ∧ c3 = a3 ∧ c4 = a4 ∧ c5 = a5 ∧ c6 = a6 ∧ c7 = a7 ∧ c8 = a8 ∧ c9 = a9 ∧ c10 = a10 ∧ c11 = a11 ∧ c12 = a12 ∧ c13 = a13 ∧ c14 = a14 ∧ c15 = a15 ∧ St w0 X (c0 :: c1 :: c2 :: c3 :: c4 :: c5 :: c6 :: c7 :: c8 :: c9 :: c10 :: c11 :: c12 :: c13 :: c14 :: c15 :: l) w := ⟨_, _, _, _, _, _, _, _, _, _, _, _, _, _, _, _, rfl, rfl, rfl, rfl, rfl, rfl, rfl, rfl, rfl, rfl, rfl, rfl, rfl, rfl, rfl, rfl, h⟩
end
theorem set_same {α : Type} : ∀ {l : List α} {k : Nat} {a : α}, l[k]? = some a → l.set k a = l
 | [], k, a, h => by simp
 | x :: l, 0, a, h => by simp at h; simp [h]
 | x :: l, k + 1, a, h => by simp only [List.set_cons_succ]; rw [set_same (by simpa using h)]
section
variable {P : Program} {ops : Array Oper} {l' : List Oper} {o : Oper} {A : Act} {Q : Exit → Act → World → Prop} {w0 w : World} {X : Nat → Prop} {l : List HP} {cP cQ cR : HP} {O : List Ob} {kk f B Of C off : Nat} {y : Ob} {z : Int} {hv : Value} {T : TypeId} {x u : Operand}
theorem W_stN1 (hS : St w0 X (cP :: cQ :: cR :: l) w) (hP : cP = owl .i64 (O.map (·.1))) (hQ : cQ = owl .u64 (O.map (·.2))) (hR : cR = ro 2 obC hv O) (hy : O[kk]? = some y) (hv' : y.1.1 = .slice (some ⟨B, Of, none⟩) y.1.2.length C)
  (hd : o.dst = none) (hw : Region.wanted o (yielded ops A.tmps) = true) (ho : o.op = .store T x u) (hx : EV A x = .pointer (some ⟨B, off, none⟩)) (hz : EV A u = .int .i64 z) (hoff : Of + f = off) (hf : f < y.1.2.length) (hif : (P.info? T).map (·.size) = some 1)
  (h : ∀ w' a b c, a = owl .i64 ((O.set kk ((y.1.1, y.1.2.set f z), y.2)).map (·.1)) → b = owl .u64 ((O.set kk ((y.1.1, y.1.2.set f z), y.2)).map (·.2)) → c = ro 2 obC hv (O.set kk ((y.1.1, y.1.2.set f z), y.2)) → St w0 X (a :: b :: c :: l) w' → WX P ops Q l' A w') : WX P ops Q (o :: l') A w := by
 subst hP hQ hR
 have h1 := owl_out (mapE (g := (·.1)) hy) hS
 have hk : kk < O.length := (List.getElem?_eq_some_iff.1 hy).1
 refine W_stE (s := 1) (n := y.1.2.length) (v1 := y.1.1) (xs := y.1.2.map (Value.int .i64)) 0 h1 rfl rfl hv' hd hw ho hx hz rfl hoff (by simpa using hf) hif (fun w' c' hc' hS' => ?_)
 have e1 : c' = io .i64 y.1.1 (y.1.2.set f z) := hc'.trans (by simp [io, List.map_set])
 have hS2 : St w0 X (c' :: owl .i64 ((O.map (·.1)).set kk nilp) :: owl .u64 (O.map (·.2)) :: ro 2 obC hv O :: l) w' := hS'
 rw [e1] at hS2
 have h2 := owl_set (i := kk) (by rw [List.length_set, List.length_map]; exact hk) hS2
 refine h w' _ _ _ ?_ ?_ ?_ h2
 ·rw [List.set_set, List.map_set]
 ·rw [List.map_set, set_same (mapE hy)]
 ·exact set_obC (y' := ((y.1.1, y.1.2.set f z), y.2)) hy rfl rfl
theorem W_stN2 (hS : St w0 X (cQ :: cP :: cR :: l) w) (hQ : cQ = owl .u64 (O.map (·.2))) (hP : cP = owl .i64 (O.map (·.1))) (hR : cR = ro 2 obC hv O) (hy : O[kk]? = some y) (hv' : y.2.1 = .slice (some ⟨B, Of, none⟩) y.2.2.length C)
  (hd : o.dst = none) (hw : Region.wanted o (yielded ops A.tmps) = true) (ho : o.op = .store T x u) (hx : EV A x = .pointer (some ⟨B, off, none⟩)) (hz : EV A u = .int .u64 z) (hoff : Of + f = off) (hf : f < y.2.2.length) (hif : (P.info? T).map (·.size) = some 1)
  (h : ∀ w' a b c, a = owl .u64 ((O.set kk (y.1, (y.2.1, y.2.2.set f z))).map (·.2)) → b = owl .i64 ((O.set kk (y.1, (y.2.1, y.2.2.set f z))).map (·.1)) → c = ro 2 obC hv (O.set kk (y.1, (y.2.1, y.2.2.set f z))) → St w0 X (a :: b :: c :: l) w' → WX P ops Q l' A w') : WX P ops Q (o :: l') A w := by
 subst hP hQ hR
 have h1 := owl_out (mapE (g := (·.2)) hy) hS
 have hk : kk < O.length := (List.getElem?_eq_some_iff.1 hy).1
 refine W_stE (s := 1) (n := y.2.2.length) (v1 := y.2.1) (xs := y.2.2.map (Value.int .u64)) 0 h1 rfl rfl hv' hd hw ho hx hz rfl hoff (by simpa using hf) hif (fun w' c' hc' hS' => ?_)
 have e1 : c' = io .u64 y.2.1 (y.2.2.set f z) := hc'.trans (by simp [io, List.map_set])
 have hS2 : St w0 X (c' :: owl .u64 ((O.map (·.2)).set kk nilp) :: owl .i64 (O.map (·.1)) :: ro 2 obC hv O :: l) w' := hS'
 rw [e1] at hS2
 have h2 := owl_set (i := kk) (by rw [List.length_set, List.length_map]; exact hk) hS2
 refine h w' _ _ _ ?_ ?_ ?_ h2
 ·rw [List.set_set, List.map_set]
 ·rw [List.map_set, set_same (mapE hy)]
 ·exact set_obC (y' := (y.1, (y.2.1, y.2.2.set f z))) hy rfl rfl
end
section
variable {P : Program} {ops : Array Oper} {Q : Exit → Act → World → Prop} {n : Nat} {L : Array Bool} {A : Act} {w : World} {Z : Nat → Array Bool → Act → World → Prop}
end
end Go.Own
