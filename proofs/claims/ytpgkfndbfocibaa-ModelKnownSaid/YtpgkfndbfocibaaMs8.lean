import Derived.Test.YtpgkfndbfocibaaGen
import Derived.Test.YtpgkfndbfocibaaSepE
import Derived.Test.YtpgkfndbfocibaaSep8
import Derived.Test.YtpgkfndbfocibaaSep29
import Derived.Test.YtpgkfndbfocibaaPl29d
import Derived.Test.YtpgkfndbfocibaaProg
import Derived.Test.YtpgkfndbfocibaaMs6
namespace Go.Own
open Go Go.RowKit
theorem parts8 {A : Act} {i0 i1 i2 i3 i4 i5 i6 i7 : Nat} {x0 x1 x2 x3 x4 x5 x6 x7 : Operand} {v0 v1 v2 v3 v4 v5 v6 v7 : Value} (h0 : EV A x0 = v0) (h1 : EV A x1 = v1) (h2 : EV A x2 = v2) (h3 : EV A x3 = v3) (h4 : EV A x4 = v4) (h5 : EV A x5 = v5) (h6 : EV A x6 = v6) (h7 : EV A x7 = v7) : ((#[(i0, x0), (i1, x1), (i2, x2), (i3, x3), (i4, x4), (i5, x5), (i6, x6), (i7, x7)] : Array (Nat × Operand)).map fun (i, x) => (i, EV A x)).toList = [(i0, v0), (i1, v1), (i2, v2), (i3, v3), (i4, v4), (i5, v5), (i6, v6), (i7, v7)] := by subst_vars; simp
theorem parts9 {A : Act} {i0 i1 i2 i3 i4 i5 i6 i7 i8 : Nat} {x0 x1 x2 x3 x4 x5 x6 x7 x8 : Operand} {v0 v1 v2 v3 v4 v5 v6 v7 v8 : Value} (h0 : EV A x0 = v0) (h1 : EV A x1 = v1) (h2 : EV A x2 = v2) (h3 : EV A x3 = v3) (h4 : EV A x4 = v4) (h5 : EV A x5 = v5) (h6 : EV A x6 = v6) (h7 : EV A x7 = v7) (h8 : EV A x8 = v8) : ((#[(i0, x0), (i1, x1), (i2, x2), (i3, x3), (i4, x4), (i5, x5), (i6, x6), (i7, x7), (i8, x8)] : Array (Nat × Operand)).map fun (i, x) => (i, EV A x)).toList = [(i0, v0), (i1, v1), (i2, v2), (i3, v3), (i4, v4), (i5, v5), (i6, v6), (i7, v7), (i8, v8)] := by subst_vars; simp
theorem parts11 {A : Act} {i0 i1 i2 i3 i4 i5 i6 i7 i8 i9 i10 : Nat} {x0 x1 x2 x3 x4 x5 x6 x7 x8 x9 x10 : Operand} {v0 v1 v2 v3 v4 v5 v6 v7 v8 v9 v10 : Value} (h0 : EV A x0 = v0) (h1 : EV A x1 = v1) (h2 : EV A x2 = v2) (h3 : EV A x3 = v3) (h4 : EV A x4 = v4) (h5 : EV A x5 = v5) (h6 : EV A x6 = v6) (h7 : EV A x7 = v7) (h8 : EV A x8 = v8) (h9 : EV A x9 = v9) (h10 : EV A x10 = v10) : ((#[(i0, x0), (i1, x1), (i2, x2), (i3, x3), (i4, x4), (i5, x5), (i6, x6), (i7, x7), (i8, x8), (i9, x9), (i10, x10)] : Array (Nat × Operand)).map fun (i, x) => (i, EV A x)).toList = [(i0, v0), (i1, v1), (i2, v2), (i3, v3), (i4, v4), (i5, v5), (i6, v6), (i7, v7), (i8, v8), (i9, v9), (i10, v10)] := by subst_vars; simp
end Go.Own

/-! equality of structs of integers and bools; an array value of any values; division of words -/
namespace Go.Own
open Go Go.RowKit Go.Own.Ml
inductive SF where
  | i (k : IntKind) (a b : Int)
  | b (p q : Bool)
def SF.l : SF → Value
  | .i k z _ => .int k z
  | .b p _ => .bool p
def SF.r : SF → Value
  | .i k _ z => .int k z
  | .b _ q => .bool q
def SF.e : SF → Bool
  | .i _ z z' => z == z'
  | .b p q => p == q
def SF.k : SF → Bool
  | .i _ _ _ => true
  | .b _ _ => false
section
variable {P : Program} {w : World}
theorem run_part_s {t : TypeId} {p : SF} {cs : Array Value} {i : Nat} {v : Value} (ht : (∃ k, P.underlying t = some (.int k)) ∨ P.underlying t = some .bool) (h : cs[i]? = some v) : (part t cs i).run P w = .ok v w := by
  have hagg : (isAgg t).run P w = .ok false w := by
    unfold isAgg
    rcases ht with ⟨k, ht⟩ | ht <;> (rw [Sem.run_bind, run_underlying ht w]; rfl)
  simp [part, hagg, h]
def okF (P : Program) (t : TypeId) (k : Bool) : Prop := if k then ∃ k, P.underlying t = some (.int k) else P.underlying t = some .bool
theorem eqFields_s (d : Nat) (xs ys : Array Value) : ∀ (fs : List Field) (i : Nat) (l : List SF), (∀ (j : Nat) (f : Field) (p : SF), fs[j]? = some f → l[j]? = some p → f.name ≠ "_" ∧ f.offset = i + j ∧ okF P f.type p.k) →
    (∀ (j : Nat) (p : SF), l[j]? = some p → xs[i + j]? = some p.l ∧ ys[i + j]? = some p.r) → fs.length = l.length → (Op.eqFields (d + 1) xs ys fs).run P w = .ok (l.all SF.e) w
  | [], i, l, _, _, hl => by
    have : l = [] := List.eq_nil_of_length_eq_zero hl.symm
    subst this; rfl
  | f :: fs, i, [], _, _, hl => by simp at hl
  | f :: fs, i, p :: l, hf, hp, hl => by
    obtain ⟨h1, h2, h3⟩ := hf 0 f p rfl rfl
    obtain ⟨q1, q2⟩ := hp 0 p rfl
    simp only [Nat.add_zero] at h2 q1 q2
    have ih := eqFields_s d xs ys fs (i + 1) l (fun j f' p' h hh => by have := hf (j + 1) f' p' (by simpa using h) (by simpa using hh); rwa [show i + (j + 1) = i + 1 + j by omega] at this)
      (fun j p' h => by have := hp (j + 1) p' (by simpa using h); rwa [show i + (j + 1) = i + 1 + j by omega] at this) (by simpa using hl)
    have hor : (∃ k, P.underlying f.type = some (.int k)) ∨ P.underlying f.type = some .bool := by
      unfold okF at h3; split at h3
      · exact .inl h3
      · exact .inr h3
    have he : (Op.equalIn (d + 1) f.type p.l p.r).run P w = .ok p.e w := by
      cases p with
      | i k a b => obtain ⟨k', hk⟩ := h3; exact run_equalIn_int w d f.type k k' a b hk
      | b p q => exact run_equalIn_bool w d f.type p q h3
    unfold Op.eqFields
    rw [if_pos h1, h2]
    simp only [Sem.run_bind, run_part_s (p := p) hor q1, run_part_s (p := p) hor q2, Result.andThen_ok, he]
    cases h : p.e <;> simp [h, ih]
def stG (P : Program) (t : TypeId) (ks : List Bool) : Bool := (match P.underlying t with
  | some (.struct fs) => fs.size == ks.length && (List.range ks.length).all fun j => match fs[j]? with
    | some f => f.name != "_" && f.offset == j && (match P.underlying f.type with | some (.int _) => ks.getD j true | some .bool => !ks.getD j true | _ => false)
    | none => false
  | _ => false) && !P.stoodInHeld t && !P.eqGuardType P.depth t
theorem run_eqG {t : TypeId} {xs ys : Array Value} (l : List SF) (h : stG P t (l.map SF.k) = true) (hx : xs = (l.map SF.l).toArray) (hy : ys = (l.map SF.r).toArray) :
    (Op.equalIn 10000 t (.agg xs) (.agg ys)).run P w = .ok (l.all SF.e) w ∧ P.eqGuardType P.depth t = false := by
  unfold stG at h
  simp only [Bool.and_eq_true, Bool.not_eq_true'] at h
  obtain ⟨⟨h1, h2⟩, h3⟩ := h
  refine ⟨?_, h3⟩
  split at h1
  · rename_i fs hu
    have hfs : P.fieldsOf t = fs := by unfold Program.fieldsOf; rw [hu]
    rw [run_equalIn_struct w 9999 t xs ys (by rw [hfs]; exact hu) h2, hfs]
    simp only [Bool.and_eq_true, beq_iff_eq, List.all_eq_true, List.mem_range, List.length_map] at h1
    refine eqFields_s 9998 xs ys fs.toList 0 l (fun j f p hf hp => ?_) (fun j p h => by subst hx hy; simp [h]) (by simp [h1.1])
    have hlt := (List.getElem?_eq_some_iff.1 hp).1
    have := h1.2 j hlt
    have hf' : fs[j]? = some f := by simpa using hf
    rw [hf'] at this
    simp only [Bool.and_eq_true, bne_iff_ne, beq_iff_eq] at this
    obtain ⟨⟨a, b⟩, c⟩ := this
    refine ⟨a, by omega, ?_⟩
    have hk : (l.map SF.k).getD j true = p.k := by rw [List.getD_eq_getElem?_getD, List.getElem?_map, hp]; rfl
    rw [hk] at c
    unfold okF
    split at c
    · rw [if_pos c]; exact ⟨_, by assumption⟩
    · rw [if_neg (by simpa using c)]; assumption
    · cases c
  · cases h1
variable {A : Act} {o : Oper} {x y : Operand} {t t' : TypeId} {xs ys : Array Value}
theorem V_neG {B : Bool} (l : List SF) (ho : o.op = .binOp .neq t x y t') (hx : EV A x = .agg xs) (hy : EV A y = .agg ys) (h : stG P t (l.map SF.k) = true) (h1 : xs = (l.map SF.l).toArray) (h2 : ys = (l.map SF.r).toArray) (hB : (!l.all SF.e) = B) : Val P A o (.bool B) := fun w => by
  obtain ⟨q1, q2⟩ := run_eqG (w := w) l h h1 h2
  unfold execOp
  simp only [ho, hx, hy, Sem.run_bind, run_eqGuard_agg w .neq t x y _ _ q2, Result.andThen_ok, run_neq_struct, q1, Sem.run_pure, hB]
section
variable {k0 k1 k2 k3 k4 k5 k6 : IntKind} {a0 a1 a2 a3 a4 a5 a6 b0 b1 b2 b3 b4 b5 b6 : Int} {p q : Bool}
theorem V_neSt7 (ho : o.op = .binOp .neq t x y t') (hx : EV A x = .agg #[.int k0 a0, .int k1 a1, .int k2 a2, .int k3 a3, .int k4 a4, .int k5 a5, .int k6 a6]) (hy : EV A y = .agg #[.int k0 b0, .int k1 b1, .int k2 b2, .int k3 b3, .int k4 b4, .int k5 b5, .int k6 b6]) (h : stG P t [true, true, true, true, true, true, true] = true) :
    Val P A o (.bool (decide (¬ (a0 = b0 ∧ a1 = b1 ∧ a2 = b2 ∧ a3 = b3 ∧ a4 = b4 ∧ a5 = b5 ∧ a6 = b6)))) :=
  V_neG [.i k0 a0 b0, .i k1 a1 b1, .i k2 a2 b2, .i k3 a3 b3, .i k4 a4 b4, .i k5 a5 b5, .i k6 a6 b6] ho hx hy h rfl rfl (by rw [Bool.eq_iff_iff]; simp [SF.e])
theorem V_neStA (ho : o.op = .binOp .neq t x y t') (hx : EV A x = .agg #[.int k0 a0, .bool p, .int k2 a2]) (hy : EV A y = .agg #[.int k0 b0, .bool q, .int k2 b2]) (h : stG P t [true, false, true] = true) : Val P A o (.bool (decide (¬ (a0 = b0 ∧ p = q ∧ a2 = b2)))) :=
  V_neG [.i k0 a0 b0, .b p q, .i k2 a2 b2] ho hx hy h rfl rfl (by rw [Bool.eq_iff_iff]; simp [SF.e])
end
end
section
variable {P : Program} {A : Act} {o : Oper} {x p : Operand} {t e n : Nat} {kd : IntKind} {z : Int}
/-- an array of single cells, indexed. -/
theorem V_ixvV {xs : List Value} {y : Value} {de : TypeDesc} (k : Nat) (ho : o.op = .index t x p) (hx : EV A x = .agg xs.toArray) (hp : EV A p = .int kd z) (hz : z = (k : Int)) (hu : P.underlying t = some (.array n e)) (hn : xs.length = n) (hy : xs[k]? = some y)
    (hd : P.underlying e = some de) (ha : (match de with | .struct _ | .array _ _ => true | _ => false) = false) (hi : (P.info? e).map (·.size) = some 1) : Val P A o y :=
  V_ixvT (f := id) (xs := xs) k ho (by rw [hx, List.map_id]) hp hz hu hn hy hd ha hi
end
section
variable {w0 w : World} {X : Nat → Prop} {l : List HP}
/-- own slices of ints, from here on read. -/
theorem nsi_allM : ∀ (M L : List SL), St w0 X (nsi L :: ((M.map fun y : SL => io .i64 y.1 y.2) ++ l)) w → St w0 X (nsi (M ++ L) :: l) w
  | [], L, h => h
  | y :: M, L, h => by
    have h3 : St w0 X (nsi (y :: L) :: ((M.map fun y : SL => io .i64 y.1 y.2) ++ l)) w := St.two h fun f g p1 p2 _ => ⟨fun b => f b ∨ g b, fun z hz => by
      rcases List.mem_cons.1 hz with rfl | hz
      · exact sl_mono (ow_sl p2) fun b => .inr
      · exact sl_mono (p1 z hz) fun b => .inl, fun _ h => h⟩
    exact (nsi_allM M (y :: L) h3).conv fun f h z hz => h z (by simp only [List.mem_append, List.mem_cons, List.cons_append] at hz ⊢; rcases hz with q | q | q <;> simp [q])
theorem nsi_own (M : List SL) (h : St w0 X (M.map fun y : SL => io .i64 y.1 y.2) w) : St w0 X [nsi M] w := by
  have := nsi_allM (l := []) M [] (by rw [List.append_nil]; exact h.emp fun y hy => by cases hy)
  rwa [List.append_nil] at this
theorem tr_at {us : List TR} {k : Nat} {y : TR} (hy : us[k]? = some y) (h : (nsi (us.map fun y : TR => y.2)).at w) : (il .i64 y.2.1 y.2.2).at w := nsi_at1 h (mapE (g := fun y : TR => y.2) hy)
end
theorem ret_inN {P : Program} {A : Act} {w : World} {fn : Func} {R : Ending → World → Prop} {v : Value} (hr : (results fn A.tmps).run P w = .ok v w) (hd : A.defers = []) (h : R (.returned v) w) : bodyPost P fn R .normal A w := ⟨hd, v, hr, h⟩
theorem V_shr1 {P : Program} {A : Act} {o : Oper} {x y : Operand} {t t' : TypeId} {yk : IntKind} {a : Int} (ho : o.op = .binOp .shr t x y t') (hx : EV A x = .int .u64 a) (hy : EV A y = .int yk 1) : Val P A o (.int .u64 (a / 2)) := fun w => by
  unfold execOp
  simp [ho, hx, hy, eqGuard, binOp, shift_shr .u64 yk a 1 (by decide) (by decide)]
end Go.Own

namespace Go.Proofs.Ytpgkfndbfocibaa
open Go.RowKit Go.Own Go.Own.R Go.Own.G Go.Own.Gr Go.Own.Ml


set_option maxHeartbeats 4000000 in
theorem knum_c {g : Nat} {wt : Int} {w : World}  (hw : 1 ≤ wt ∧ wt ≤ 5) :
  Calls Try.prog 45 #[.pointer (some ⟨g, 0, none⟩), .int .i64 wt] w fun e w' => e = .returned (.pointer (some ⟨g, Int.toNat wt, none⟩)) ∧ St w NoX [] w' := by
 refine calls_in 23 Try.func45 V V (by simp) (fun A0 Y0 hdf0 hargs => ?_)
 have l0_0 := hargs 0 (.pointer (some ⟨g, 0, none⟩)) V
 have l1_0 := hargs 1 (.int .i64 wt) V
 clear hargs; replace Y0 : SzN A0 23 := ⟨Y0⟩
 have hS := St.nil w
 refine wp_seq_k fun K1 H1 => region_in ?_
 refine W_v V V (V_asg V V) ?_
 refine W_end (gen_Q fun A2 E2 => ?_)
 have Y2 := szq E2
 have F2 := ((fsE E2 (cq1 (FS.n hdf0) V)).c (lookE E2 0 (es V l0_0))).c (lookE E2 1 (es V l1_0))
 clear E2 Y0 hdf0 l0_0 l1_0
 refine tk H1 (wp_seq_k fun K3 H3 => ?_)
 refine region_monoS 19 19 [] (by kernel_rfl) (by kernel_rfl) ?_
 refine D_v V V (V_mov V (fg1 F2)) V V ?_
 refine D_v V V (V_nil V (et V)) V V ?_
 refine D_v V V (V_fa (off' := 1) V (et V) Try.underlying42 V (by decide +kernel) V) V V ?_
 refine D_v V V (V_mov V (es3 V (fg1 F2))) V V ?_
 refine D_v V V (V_nil V (et V)) V V ?_
 refine D_v V V (V_fa (off' := 2) V (et V) Try.underlying42 V (by decide +kernel) V) V V ?_
 refine D_v V V (V_mov V (es6 V (fg1 F2))) V V ?_
 refine D_v V V (V_nil V (et V)) V V ?_
 refine D_v V V (V_fa (off' := 3) V (et V) Try.underlying42 V (by decide +kernel) V) V V ?_
 refine D_v V V (V_mov V (es8 V (es V (fg1 F2)))) V V ?_
 refine D_v V V (V_nil V (et V)) V V ?_
 refine D_v V V (V_fa (off' := 4) V (et V) Try.underlying42 V (by decide +kernel) V) V V ?_
 refine D_v V V (V_mov V (es8 V (es4 V (fg1 F2)))) V V ?_
 refine D_v V V (V_nil V (et V)) V V ?_
 refine D_v V V (V_fa (off' := 5) V (et V) Try.underlying42 V (by decide +kernel) V) V V ?_
 refine D_v V V (V_bldA (n := 6) (z := .agg #[.pointer none, .pointer none, .pointer none, .pointer none, .pointer none, .pointer none]) V (parts5 (es8 V (es4 V (et V))) (es8 V (es V (et V))) (es6 V (et V)) (es3 V (et V)) (et V)) (by kernel_rfl) (by simp only [List.all_cons, List.all_nil, Bool.and_true] <;> rfl) (by kernel_rfl) (by simp only [List.foldl_cons, List.foldl_nil, Value.cells, List.setIfInBounds_toArray, List.set_cons_succ, List.set_cons_zero] <;> rfl)) V V ?_
 refine D_v V V (V_mov V (es8 V (es8 V (fg0 F2)))) V V ?_
 refine D_v V V (V_ixvV (xs := [.pointer none, .pointer (some ⟨g, 1, none⟩), .pointer (some ⟨g, 2, none⟩), .pointer (some ⟨g, 3, none⟩), .pointer (some ⟨g, 4, none⟩), .pointer (some ⟨g, 5, none⟩)]) (y := .pointer (some ⟨g, Int.toNat wt, none⟩)) ((Int.toNat wt)) V (es V (et V)) (et V) (by omega) Try.underlying127 V (num_at hw) Try.underlying96 V (by kernel_rfl)) V V ?_
 refine D_v V V (V_asg V (et V)) V V ?_
 refine ZS_none hS (Nat.le_refl _) (Nat.le_refl _) (fun s4 hJ4 hL4 hF4 => ?_)
 have S4 := hJ4.st; clear hF4 hJ4 hL4
 generalize s4.1 = w4 at *
 replace S4 : St w NoX [] w4 := S4
 refine gen_Q (fun A5 E5 => ?_)
 have Y5 := szq E5
 have F5 := fsE E5 (ck (cq2 (cq8 (cq8 F2 V) V) V) V V)
 clear E5 Y2 F2
 refine tk H3 (wp_ret ?_)
 refine ret_in (results_1 Try.results45 (rv_tmp (fg0 F5))) F5.d ?_
 exact ⟨rfl, S4.fin0⟩

set_option maxHeartbeats 4000000 in
theorem ktk1_c {kd : Int} {a : Int} {b : Int} {f : Int} {p : Int} {q : Int} {uu : Int} {gb : Nat} {er : Int} {ge : Nat} {w : World} {Y : Nat → Prop}  (hS : St w Y [bx gb 42 #[.int .i64 kd, .int .i64 a, .int .i64 b, .int .i64 f, .int .i64 p, .int .i64 q, .int .u64 uu], bx ge 28 #[.int .i64 er]] w)  :
  Calls Try.prog 44 #[.int .i64 1, .pointer (some ⟨gb, 0, none⟩), .pointer (some ⟨ge, 0, none⟩)] w fun e w' => e = .returned (.tuple #[]) ∧ St w Y [bx gb 42 #[.int .i64 kd, .int .i64 (if (1 : Int) = 1 then 0 else a), .int .i64 (if (1 : Int) = 2 then 0 else b), .int .i64 (if (1 : Int) = 3 then 0 else f), .int .i64 (if (1 : Int) = 4 then 0 else p), .int .i64 (if (1 : Int) = 5 then 0 else q), .int .u64 (if (1 : Int) = 6 then 0 else uu)], bx ge 28 #[.int .i64 (if ((1 : Int) = 1 ∧ badN a) ∨ ((1 : Int) = 2 ∧ badN b) ∨ ((1 : Int) = 3 ∧ badN f) ∨ ((1 : Int) = 4 ∧ badN p) ∨ ((1 : Int) = 5 ∧ badN q) then 7 else er)]] w' := by
 refine calls_in 22 Try.func44 V V (by simp) (fun A0 Y0 hdf0 hargs => ?_)
 have l0_0 := hargs 0 (.int .i64 1) V
 have l1_0 := hargs 1 (.pointer (some ⟨gb, 0, none⟩)) V
 have l2_0 := hargs 2 (.pointer (some ⟨ge, 0, none⟩)) V
 clear hargs; replace Y0 : SzN A0 22 := ⟨Y0⟩
 obtain ⟨mb_gb, mb_ge, hmb_gb, hmb_ge, hS⟩ := gen2 hS
 replace hS : St w Y [mb_gb, mb_ge] w := hS
 refine wp_seq_k fun K1 H1 => ?_
 refine wp_seq_k fun K2 H2 => region_in ?_
 refine W_v V V (V_mov V l0_0) ?_
 refine W_v V V (V_eql V (et V) V) ?_
 refine W_end (gen_Q fun A3 E3 => ?_)
 have Y3 := szq E3
 have F3 := (((fsE E3 (ck (cq1 (FS.n hdf0) V) V V)).c (lookE E3 0 (es2 V l0_0))).c (lookE E3 1 (es2 V l1_0))).c (lookE E3 2 (es2 V l2_0))
 clear E3 Y0 hdf0 l0_0 l1_0 l2_0
 refine tk H2 ?_
 refine cond_not (fg3 F3) (by decide) ?_
 refine wp_skip ?_
 refine tk H1 (wp_seq_k fun K4 H4 => region_in ?_)
 refine W_v V V (V_mov V (fg2 F3)) ?_
 refine W_call V V V Try.func45 (by kernel_rfl) V (args2 (es V (fg1 F3)) (et V)) (knum_c (g := gb) (wt := 1)  (by first | with_reducible assumption | omega)) ?_
 rintro _ w5 ⟨rfl, hP5⟩
 refine ⟨_, rfl, ?_⟩
 have S5 := hS.join hP5
 replace S5 : St w Y [mb_gb, mb_ge] w5 := S5
 refine W_v V V (V_asg V (et V)) ?_
 refine W_end (gen_Q fun A6 E6 => ?_)
 have Y6 := szq E6
 have F6 := fsE E6 (ck (cq2 F3 V) V V)
 clear E6 Y3 F3
 refine tk H4 (wp_seq_k fun K7 H7 => ?_)
 refine wp_seq_k fun K8 H8 => region_in ?_
 refine W_v V V (V_mov V (fg0 F6)) ?_
 refine W_v V V (V_nil V (et V)) ?_
 refine W_r V V (xlC (v := .int .i64 (a)) V (et V) (S5.obj 0 V hmb_gb) Try.underlying3) ?_
 refine W_v V V (V_lss V (et V) V) ?_
 refine W_split V V (V_mov V (et V)) (fun c9 => ?_) (fun c9 => ?_)
 ·refine xof V V V (et V) (xof V V V (es V (et V)) (xof V V V (es2 V (et V)) (xof V V V (es3 V (et V)) ?_)))
  refine W_v V V (V_pickT V (es4 V (et V)) V) ?_
  refine W_end (gen_Q fun A10 E10 => ?_)
  have Y10 := szq E10
  have F10 := fsE E10 (ck (cq1 (cq8 F6 V) V) V V)
  clear E10 Y6 F6
  refine tk H8 ?_
  refine cond_t (fg0 F10) ?_
  refine region_in ?_
  refine xsC (zs' := #[.int .i64 7]) 1 S5 V hmb_ge V V V (fg2 F10) V (by rfl) (fun w11 c11 hc11 S11 => ?_)
  replace S11 : St w Y [mb_gb, c11] w11 := S11
  refine W_end (tk H7 ?_)
  refine region_in ?_
  refine W_v V V (V_mov V (fg1 F10)) ?_
  refine W_v V V (V_nil V (et V)) ?_
  refine xsC (zs' := #[.int .i64 (kd), .int .i64 0, .int .i64 (b), .int .i64 (f), .int .i64 (p), .int .i64 (q), .int .u64 (uu)]) 0 S11 V hmb_gb V V V (et V) V (by rfl) (fun w12 c12 hc12 S12 => ?_)
  replace S12 : St w Y [c12, c11] w12 := S12
  refine W_end (gen_Q fun A13 E13 => ?_)
  have Y13 := szq E13
  have F13 := fsE E13 (cq2 F10 V)
  clear E13 Y10 F10
  refine ret_inN (results_0 Try.results44 ) F13.d ?_
  exact ⟨rfl, (S12.fin2 0 V (hc12.trans (by simp)) 1 V (hc11.trans (congrArg (fun z => bx ge 28 #[Value.int .i64 z]) (show _ = (if ((1 : Int) = 1 ∧ badN a) ∨ ((1 : Int) = 2 ∧ badN b) ∨ ((1 : Int) = 3 ∧ badN f) ∨ ((1 : Int) = 4 ∧ badN p) ∨ ((1 : Int) = 5 ∧ badN q) then 7 else er) from (by rw [if_pos (show ((1 : Int) = 1 ∧ badN a) ∨ ((1 : Int) = 2 ∧ badN b) ∨ ((1 : Int) = 3 ∧ badN f) ∨ ((1 : Int) = 4 ∧ badN p) ∨ ((1 : Int) = 5 ∧ badN q) from by simp [badN]; omega)])))) (by decide))⟩
 refine W_v V (xwt V V (et V)) (V_mov V (es5 V (fg0 F6))) ?_
 refine W_v V (xwt V V (es V (et V))) (V_nil V (et V)) ?_
 refine W_r V (xwt V V (es2 V (et V))) (xlC (v := .int .i64 (a)) V (et V) (S5.obj 0 V hmb_gb) Try.underlying3) ?_
 refine W_v V (xwt V V (es3 V (et V))) (V_gtr V (et V) V) ?_
 refine W_v V V (V_pickF V (es4 V (et V)) (et V)) ?_
 refine W_end (gen_Q fun A14 E14 => ?_)
 have Y14 := szq E14
 have F14 := fsE E14 (ck (cq1 (cq8 F6 V) V) V V)
 clear E14 Y6 F6
 refine tk H8 ?_
 refine cond_dec (fg0 F14) (fun c15 => ?_) (fun c15 => ?_)
 ·refine region_in ?_
  refine xsC (zs' := #[.int .i64 7]) 1 S5 V hmb_ge V V V (fg2 F14) V (by rfl) (fun w16 c16 hc16 S16 => ?_)
  replace S16 : St w Y [mb_gb, c16] w16 := S16
  refine W_end (tk H7 ?_)
  refine region_in ?_
  refine W_v V V (V_mov V (fg1 F14)) ?_
  refine W_v V V (V_nil V (et V)) ?_
  refine xsC (zs' := #[.int .i64 (kd), .int .i64 0, .int .i64 (b), .int .i64 (f), .int .i64 (p), .int .i64 (q), .int .u64 (uu)]) 0 S16 V hmb_gb V V V (et V) V (by rfl) (fun w17 c17 hc17 S17 => ?_)
  replace S17 : St w Y [c17, c16] w17 := S17
  refine W_end (gen_Q fun A18 E18 => ?_)
  have Y18 := szq E18
  have F18 := fsE E18 (cq2 F14 V)
  clear E18 Y14 F14
  refine ret_inN (results_0 Try.results44 ) F18.d ?_
  exact ⟨rfl, (S17.fin2 0 V (hc17.trans (by simp)) 1 V (hc16.trans (congrArg (fun z => bx ge 28 #[Value.int .i64 z]) (show _ = (if ((1 : Int) = 1 ∧ badN a) ∨ ((1 : Int) = 2 ∧ badN b) ∨ ((1 : Int) = 3 ∧ badN f) ∨ ((1 : Int) = 4 ∧ badN p) ∨ ((1 : Int) = 5 ∧ badN q) then 7 else er) from (by rw [if_pos (show ((1 : Int) = 1 ∧ badN a) ∨ ((1 : Int) = 2 ∧ badN b) ∨ ((1 : Int) = 3 ∧ badN f) ∨ ((1 : Int) = 4 ∧ badN p) ∨ ((1 : Int) = 5 ∧ badN q) from by simp [badN]; omega)])))) (by decide))⟩
 refine wp_skip (tk H7 ?_)
 refine region_in ?_
 refine W_v V V (V_mov V (fg1 F14)) ?_
 refine W_v V V (V_nil V (et V)) ?_
 refine xsC (zs' := #[.int .i64 (kd), .int .i64 0, .int .i64 (b), .int .i64 (f), .int .i64 (p), .int .i64 (q), .int .u64 (uu)]) 0 S5 V hmb_gb V V V (et V) V (by rfl) (fun w19 c19 hc19 S19 => ?_)
 replace S19 : St w Y [c19, mb_ge] w19 := S19
 refine W_end (gen_Q fun A20 E20 => ?_)
 have Y20 := szq E20
 have F20 := fsE E20 (cq2 F14 V)
 clear E20 Y14 F14
 refine ret_inN (results_0 Try.results44 ) F20.d ?_
 exact ⟨rfl, (S19.fin2 0 V (hc19.trans (by simp)) 1 V (hmb_ge.trans (congrArg (fun z => bx ge 28 #[Value.int .i64 z]) (show _ = (if ((1 : Int) = 1 ∧ badN a) ∨ ((1 : Int) = 2 ∧ badN b) ∨ ((1 : Int) = 3 ∧ badN f) ∨ ((1 : Int) = 4 ∧ badN p) ∨ ((1 : Int) = 5 ∧ badN q) then 7 else er) from (by rw [if_neg (show ¬ (((1 : Int) = 1 ∧ badN a) ∨ ((1 : Int) = 2 ∧ badN b) ∨ ((1 : Int) = 3 ∧ badN f) ∨ ((1 : Int) = 4 ∧ badN p) ∨ ((1 : Int) = 5 ∧ badN q)) from by simp [badN]; omega)])))) (by decide))⟩

set_option maxHeartbeats 4000000 in
theorem ktk2_c {kd : Int} {a : Int} {b : Int} {f : Int} {p : Int} {q : Int} {uu : Int} {gb : Nat} {er : Int} {ge : Nat} {w : World} {Y : Nat → Prop}  (hS : St w Y [bx gb 42 #[.int .i64 kd, .int .i64 a, .int .i64 b, .int .i64 f, .int .i64 p, .int .i64 q, .int .u64 uu], bx ge 28 #[.int .i64 er]] w)  :
  Calls Try.prog 44 #[.int .i64 2, .pointer (some ⟨gb, 0, none⟩), .pointer (some ⟨ge, 0, none⟩)] w fun e w' => e = .returned (.tuple #[]) ∧ St w Y [bx gb 42 #[.int .i64 kd, .int .i64 (if (2 : Int) = 1 then 0 else a), .int .i64 (if (2 : Int) = 2 then 0 else b), .int .i64 (if (2 : Int) = 3 then 0 else f), .int .i64 (if (2 : Int) = 4 then 0 else p), .int .i64 (if (2 : Int) = 5 then 0 else q), .int .u64 (if (2 : Int) = 6 then 0 else uu)], bx ge 28 #[.int .i64 (if ((2 : Int) = 1 ∧ badN a) ∨ ((2 : Int) = 2 ∧ badN b) ∨ ((2 : Int) = 3 ∧ badN f) ∨ ((2 : Int) = 4 ∧ badN p) ∨ ((2 : Int) = 5 ∧ badN q) then 7 else er)]] w' := by
 refine calls_in 22 Try.func44 V V (by simp) (fun A0 Y0 hdf0 hargs => ?_)
 have l0_0 := hargs 0 (.int .i64 2) V
 have l1_0 := hargs 1 (.pointer (some ⟨gb, 0, none⟩)) V
 have l2_0 := hargs 2 (.pointer (some ⟨ge, 0, none⟩)) V
 clear hargs; replace Y0 : SzN A0 22 := ⟨Y0⟩
 obtain ⟨mb_gb, mb_ge, hmb_gb, hmb_ge, hS⟩ := gen2 hS
 replace hS : St w Y [mb_gb, mb_ge] w := hS
 refine wp_seq_k fun K1 H1 => ?_
 refine wp_seq_k fun K2 H2 => region_in ?_
 refine W_v V V (V_mov V l0_0) ?_
 refine W_v V V (V_eql V (et V) V) ?_
 refine W_end (gen_Q fun A3 E3 => ?_)
 have Y3 := szq E3
 have F3 := (((fsE E3 (ck (cq1 (FS.n hdf0) V) V V)).c (lookE E3 0 (es2 V l0_0))).c (lookE E3 1 (es2 V l1_0))).c (lookE E3 2 (es2 V l2_0))
 clear E3 Y0 hdf0 l0_0 l1_0 l2_0
 refine tk H2 ?_
 refine cond_not (fg3 F3) (by decide) ?_
 refine wp_skip ?_
 refine tk H1 (wp_seq_k fun K4 H4 => region_in ?_)
 refine W_v V V (V_mov V (fg2 F3)) ?_
 refine W_call V V V Try.func45 (by kernel_rfl) V (args2 (es V (fg1 F3)) (et V)) (knum_c (g := gb) (wt := 2)  (by first | with_reducible assumption | omega)) ?_
 rintro _ w5 ⟨rfl, hP5⟩
 refine ⟨_, rfl, ?_⟩
 have S5 := hS.join hP5
 replace S5 : St w Y [mb_gb, mb_ge] w5 := S5
 refine W_v V V (V_asg V (et V)) ?_
 refine W_end (gen_Q fun A6 E6 => ?_)
 have Y6 := szq E6
 have F6 := fsE E6 (ck (cq2 F3 V) V V)
 clear E6 Y3 F3
 refine tk H4 (wp_seq_k fun K7 H7 => ?_)
 refine wp_seq_k fun K8 H8 => region_in ?_
 refine W_v V V (V_mov V (fg0 F6)) ?_
 refine W_v V V (V_nil V (et V)) ?_
 refine W_r V V (xlC (v := .int .i64 (b)) V (et V) (S5.obj 0 V hmb_gb) Try.underlying3) ?_
 refine W_v V V (V_lss V (et V) V) ?_
 refine W_split V V (V_mov V (et V)) (fun c9 => ?_) (fun c9 => ?_)
 ·refine xof V V V (et V) (xof V V V (es V (et V)) (xof V V V (es2 V (et V)) (xof V V V (es3 V (et V)) ?_)))
  refine W_v V V (V_pickT V (es4 V (et V)) V) ?_
  refine W_end (gen_Q fun A10 E10 => ?_)
  have Y10 := szq E10
  have F10 := fsE E10 (ck (cq1 (cq8 F6 V) V) V V)
  clear E10 Y6 F6
  refine tk H8 ?_
  refine cond_t (fg0 F10) ?_
  refine region_in ?_
  refine xsC (zs' := #[.int .i64 7]) 1 S5 V hmb_ge V V V (fg2 F10) V (by rfl) (fun w11 c11 hc11 S11 => ?_)
  replace S11 : St w Y [mb_gb, c11] w11 := S11
  refine W_end (tk H7 ?_)
  refine region_in ?_
  refine W_v V V (V_mov V (fg1 F10)) ?_
  refine W_v V V (V_nil V (et V)) ?_
  refine xsC (zs' := #[.int .i64 (kd), .int .i64 (a), .int .i64 0, .int .i64 (f), .int .i64 (p), .int .i64 (q), .int .u64 (uu)]) 0 S11 V hmb_gb V V V (et V) V (by rfl) (fun w12 c12 hc12 S12 => ?_)
  replace S12 : St w Y [c12, c11] w12 := S12
  refine W_end (gen_Q fun A13 E13 => ?_)
  have Y13 := szq E13
  have F13 := fsE E13 (cq2 F10 V)
  clear E13 Y10 F10
  refine ret_inN (results_0 Try.results44 ) F13.d ?_
  exact ⟨rfl, (S12.fin2 0 V (hc12.trans (by simp)) 1 V (hc11.trans (congrArg (fun z => bx ge 28 #[Value.int .i64 z]) (show _ = (if ((2 : Int) = 1 ∧ badN a) ∨ ((2 : Int) = 2 ∧ badN b) ∨ ((2 : Int) = 3 ∧ badN f) ∨ ((2 : Int) = 4 ∧ badN p) ∨ ((2 : Int) = 5 ∧ badN q) then 7 else er) from (by rw [if_pos (show ((2 : Int) = 1 ∧ badN a) ∨ ((2 : Int) = 2 ∧ badN b) ∨ ((2 : Int) = 3 ∧ badN f) ∨ ((2 : Int) = 4 ∧ badN p) ∨ ((2 : Int) = 5 ∧ badN q) from by simp [badN]; omega)])))) (by decide))⟩
 refine W_v V (xwt V V (et V)) (V_mov V (es5 V (fg0 F6))) ?_
 refine W_v V (xwt V V (es V (et V))) (V_nil V (et V)) ?_
 refine W_r V (xwt V V (es2 V (et V))) (xlC (v := .int .i64 (b)) V (et V) (S5.obj 0 V hmb_gb) Try.underlying3) ?_
 refine W_v V (xwt V V (es3 V (et V))) (V_gtr V (et V) V) ?_
 refine W_v V V (V_pickF V (es4 V (et V)) (et V)) ?_
 refine W_end (gen_Q fun A14 E14 => ?_)
 have Y14 := szq E14
 have F14 := fsE E14 (ck (cq1 (cq8 F6 V) V) V V)
 clear E14 Y6 F6
 refine tk H8 ?_
 refine cond_dec (fg0 F14) (fun c15 => ?_) (fun c15 => ?_)
 ·refine region_in ?_
  refine xsC (zs' := #[.int .i64 7]) 1 S5 V hmb_ge V V V (fg2 F14) V (by rfl) (fun w16 c16 hc16 S16 => ?_)
  replace S16 : St w Y [mb_gb, c16] w16 := S16
  refine W_end (tk H7 ?_)
  refine region_in ?_
  refine W_v V V (V_mov V (fg1 F14)) ?_
  refine W_v V V (V_nil V (et V)) ?_
  refine xsC (zs' := #[.int .i64 (kd), .int .i64 (a), .int .i64 0, .int .i64 (f), .int .i64 (p), .int .i64 (q), .int .u64 (uu)]) 0 S16 V hmb_gb V V V (et V) V (by rfl) (fun w17 c17 hc17 S17 => ?_)
  replace S17 : St w Y [c17, c16] w17 := S17
  refine W_end (gen_Q fun A18 E18 => ?_)
  have Y18 := szq E18
  have F18 := fsE E18 (cq2 F14 V)
  clear E18 Y14 F14
  refine ret_inN (results_0 Try.results44 ) F18.d ?_
  exact ⟨rfl, (S17.fin2 0 V (hc17.trans (by simp)) 1 V (hc16.trans (congrArg (fun z => bx ge 28 #[Value.int .i64 z]) (show _ = (if ((2 : Int) = 1 ∧ badN a) ∨ ((2 : Int) = 2 ∧ badN b) ∨ ((2 : Int) = 3 ∧ badN f) ∨ ((2 : Int) = 4 ∧ badN p) ∨ ((2 : Int) = 5 ∧ badN q) then 7 else er) from (by rw [if_pos (show ((2 : Int) = 1 ∧ badN a) ∨ ((2 : Int) = 2 ∧ badN b) ∨ ((2 : Int) = 3 ∧ badN f) ∨ ((2 : Int) = 4 ∧ badN p) ∨ ((2 : Int) = 5 ∧ badN q) from by simp [badN]; omega)])))) (by decide))⟩
 refine wp_skip (tk H7 ?_)
 refine region_in ?_
 refine W_v V V (V_mov V (fg1 F14)) ?_
 refine W_v V V (V_nil V (et V)) ?_
 refine xsC (zs' := #[.int .i64 (kd), .int .i64 (a), .int .i64 0, .int .i64 (f), .int .i64 (p), .int .i64 (q), .int .u64 (uu)]) 0 S5 V hmb_gb V V V (et V) V (by rfl) (fun w19 c19 hc19 S19 => ?_)
 replace S19 : St w Y [c19, mb_ge] w19 := S19
 refine W_end (gen_Q fun A20 E20 => ?_)
 have Y20 := szq E20
 have F20 := fsE E20 (cq2 F14 V)
 clear E20 Y14 F14
 refine ret_inN (results_0 Try.results44 ) F20.d ?_
 exact ⟨rfl, (S19.fin2 0 V (hc19.trans (by simp)) 1 V (hmb_ge.trans (congrArg (fun z => bx ge 28 #[Value.int .i64 z]) (show _ = (if ((2 : Int) = 1 ∧ badN a) ∨ ((2 : Int) = 2 ∧ badN b) ∨ ((2 : Int) = 3 ∧ badN f) ∨ ((2 : Int) = 4 ∧ badN p) ∨ ((2 : Int) = 5 ∧ badN q) then 7 else er) from (by rw [if_neg (show ¬ (((2 : Int) = 1 ∧ badN a) ∨ ((2 : Int) = 2 ∧ badN b) ∨ ((2 : Int) = 3 ∧ badN f) ∨ ((2 : Int) = 4 ∧ badN p) ∨ ((2 : Int) = 5 ∧ badN q)) from by simp [badN]; omega)])))) (by decide))⟩

set_option maxHeartbeats 4000000 in
theorem ktk3_c {kd : Int} {a : Int} {b : Int} {f : Int} {p : Int} {q : Int} {uu : Int} {gb : Nat} {er : Int} {ge : Nat} {w : World} {Y : Nat → Prop}  (hS : St w Y [bx gb 42 #[.int .i64 kd, .int .i64 a, .int .i64 b, .int .i64 f, .int .i64 p, .int .i64 q, .int .u64 uu], bx ge 28 #[.int .i64 er]] w)  :
  Calls Try.prog 44 #[.int .i64 3, .pointer (some ⟨gb, 0, none⟩), .pointer (some ⟨ge, 0, none⟩)] w fun e w' => e = .returned (.tuple #[]) ∧ St w Y [bx gb 42 #[.int .i64 kd, .int .i64 (if (3 : Int) = 1 then 0 else a), .int .i64 (if (3 : Int) = 2 then 0 else b), .int .i64 (if (3 : Int) = 3 then 0 else f), .int .i64 (if (3 : Int) = 4 then 0 else p), .int .i64 (if (3 : Int) = 5 then 0 else q), .int .u64 (if (3 : Int) = 6 then 0 else uu)], bx ge 28 #[.int .i64 (if ((3 : Int) = 1 ∧ badN a) ∨ ((3 : Int) = 2 ∧ badN b) ∨ ((3 : Int) = 3 ∧ badN f) ∨ ((3 : Int) = 4 ∧ badN p) ∨ ((3 : Int) = 5 ∧ badN q) then 7 else er)]] w' := by
 refine calls_in 22 Try.func44 V V (by simp) (fun A0 Y0 hdf0 hargs => ?_)
 have l0_0 := hargs 0 (.int .i64 3) V
 have l1_0 := hargs 1 (.pointer (some ⟨gb, 0, none⟩)) V
 have l2_0 := hargs 2 (.pointer (some ⟨ge, 0, none⟩)) V
 clear hargs; replace Y0 : SzN A0 22 := ⟨Y0⟩
 obtain ⟨mb_gb, mb_ge, hmb_gb, hmb_ge, hS⟩ := gen2 hS
 replace hS : St w Y [mb_gb, mb_ge] w := hS
 refine wp_seq_k fun K1 H1 => ?_
 refine wp_seq_k fun K2 H2 => region_in ?_
 refine W_v V V (V_mov V l0_0) ?_
 refine W_v V V (V_eql V (et V) V) ?_
 refine W_end (gen_Q fun A3 E3 => ?_)
 have Y3 := szq E3
 have F3 := (((fsE E3 (ck (cq1 (FS.n hdf0) V) V V)).c (lookE E3 0 (es2 V l0_0))).c (lookE E3 1 (es2 V l1_0))).c (lookE E3 2 (es2 V l2_0))
 clear E3 Y0 hdf0 l0_0 l1_0 l2_0
 refine tk H2 ?_
 refine cond_not (fg3 F3) (by decide) ?_
 refine wp_skip ?_
 refine tk H1 (wp_seq_k fun K4 H4 => region_in ?_)
 refine W_v V V (V_mov V (fg2 F3)) ?_
 refine W_call V V V Try.func45 (by kernel_rfl) V (args2 (es V (fg1 F3)) (et V)) (knum_c (g := gb) (wt := 3)  (by first | with_reducible assumption | omega)) ?_
 rintro _ w5 ⟨rfl, hP5⟩
 refine ⟨_, rfl, ?_⟩
 have S5 := hS.join hP5
 replace S5 : St w Y [mb_gb, mb_ge] w5 := S5
 refine W_v V V (V_asg V (et V)) ?_
 refine W_end (gen_Q fun A6 E6 => ?_)
 have Y6 := szq E6
 have F6 := fsE E6 (ck (cq2 F3 V) V V)
 clear E6 Y3 F3
 refine tk H4 (wp_seq_k fun K7 H7 => ?_)
 refine wp_seq_k fun K8 H8 => region_in ?_
 refine W_v V V (V_mov V (fg0 F6)) ?_
 refine W_v V V (V_nil V (et V)) ?_
 refine W_r V V (xlC (v := .int .i64 (f)) V (et V) (S5.obj 0 V hmb_gb) Try.underlying3) ?_
 refine W_v V V (V_lss V (et V) V) ?_
 refine W_split V V (V_mov V (et V)) (fun c9 => ?_) (fun c9 => ?_)
 ·refine xof V V V (et V) (xof V V V (es V (et V)) (xof V V V (es2 V (et V)) (xof V V V (es3 V (et V)) ?_)))
  refine W_v V V (V_pickT V (es4 V (et V)) V) ?_
  refine W_end (gen_Q fun A10 E10 => ?_)
  have Y10 := szq E10
  have F10 := fsE E10 (ck (cq1 (cq8 F6 V) V) V V)
  clear E10 Y6 F6
  refine tk H8 ?_
  refine cond_t (fg0 F10) ?_
  refine region_in ?_
  refine xsC (zs' := #[.int .i64 7]) 1 S5 V hmb_ge V V V (fg2 F10) V (by rfl) (fun w11 c11 hc11 S11 => ?_)
  replace S11 : St w Y [mb_gb, c11] w11 := S11
  refine W_end (tk H7 ?_)
  refine region_in ?_
  refine W_v V V (V_mov V (fg1 F10)) ?_
  refine W_v V V (V_nil V (et V)) ?_
  refine xsC (zs' := #[.int .i64 (kd), .int .i64 (a), .int .i64 (b), .int .i64 0, .int .i64 (p), .int .i64 (q), .int .u64 (uu)]) 0 S11 V hmb_gb V V V (et V) V (by rfl) (fun w12 c12 hc12 S12 => ?_)
  replace S12 : St w Y [c12, c11] w12 := S12
  refine W_end (gen_Q fun A13 E13 => ?_)
  have Y13 := szq E13
  have F13 := fsE E13 (cq2 F10 V)
  clear E13 Y10 F10
  refine ret_inN (results_0 Try.results44 ) F13.d ?_
  exact ⟨rfl, (S12.fin2 0 V (hc12.trans (by simp)) 1 V (hc11.trans (congrArg (fun z => bx ge 28 #[Value.int .i64 z]) (show _ = (if ((3 : Int) = 1 ∧ badN a) ∨ ((3 : Int) = 2 ∧ badN b) ∨ ((3 : Int) = 3 ∧ badN f) ∨ ((3 : Int) = 4 ∧ badN p) ∨ ((3 : Int) = 5 ∧ badN q) then 7 else er) from (by rw [if_pos (show ((3 : Int) = 1 ∧ badN a) ∨ ((3 : Int) = 2 ∧ badN b) ∨ ((3 : Int) = 3 ∧ badN f) ∨ ((3 : Int) = 4 ∧ badN p) ∨ ((3 : Int) = 5 ∧ badN q) from by simp [badN]; omega)])))) (by decide))⟩
 refine W_v V (xwt V V (et V)) (V_mov V (es5 V (fg0 F6))) ?_
 refine W_v V (xwt V V (es V (et V))) (V_nil V (et V)) ?_
 refine W_r V (xwt V V (es2 V (et V))) (xlC (v := .int .i64 (f)) V (et V) (S5.obj 0 V hmb_gb) Try.underlying3) ?_
 refine W_v V (xwt V V (es3 V (et V))) (V_gtr V (et V) V) ?_
 refine W_v V V (V_pickF V (es4 V (et V)) (et V)) ?_
 refine W_end (gen_Q fun A14 E14 => ?_)
 have Y14 := szq E14
 have F14 := fsE E14 (ck (cq1 (cq8 F6 V) V) V V)
 clear E14 Y6 F6
 refine tk H8 ?_
 refine cond_dec (fg0 F14) (fun c15 => ?_) (fun c15 => ?_)
 ·refine region_in ?_
  refine xsC (zs' := #[.int .i64 7]) 1 S5 V hmb_ge V V V (fg2 F14) V (by rfl) (fun w16 c16 hc16 S16 => ?_)
  replace S16 : St w Y [mb_gb, c16] w16 := S16
  refine W_end (tk H7 ?_)
  refine region_in ?_
  refine W_v V V (V_mov V (fg1 F14)) ?_
  refine W_v V V (V_nil V (et V)) ?_
  refine xsC (zs' := #[.int .i64 (kd), .int .i64 (a), .int .i64 (b), .int .i64 0, .int .i64 (p), .int .i64 (q), .int .u64 (uu)]) 0 S16 V hmb_gb V V V (et V) V (by rfl) (fun w17 c17 hc17 S17 => ?_)
  replace S17 : St w Y [c17, c16] w17 := S17
  refine W_end (gen_Q fun A18 E18 => ?_)
  have Y18 := szq E18
  have F18 := fsE E18 (cq2 F14 V)
  clear E18 Y14 F14
  refine ret_inN (results_0 Try.results44 ) F18.d ?_
  exact ⟨rfl, (S17.fin2 0 V (hc17.trans (by simp)) 1 V (hc16.trans (congrArg (fun z => bx ge 28 #[Value.int .i64 z]) (show _ = (if ((3 : Int) = 1 ∧ badN a) ∨ ((3 : Int) = 2 ∧ badN b) ∨ ((3 : Int) = 3 ∧ badN f) ∨ ((3 : Int) = 4 ∧ badN p) ∨ ((3 : Int) = 5 ∧ badN q) then 7 else er) from (by rw [if_pos (show ((3 : Int) = 1 ∧ badN a) ∨ ((3 : Int) = 2 ∧ badN b) ∨ ((3 : Int) = 3 ∧ badN f) ∨ ((3 : Int) = 4 ∧ badN p) ∨ ((3 : Int) = 5 ∧ badN q) from by simp [badN]; omega)])))) (by decide))⟩
 refine wp_skip (tk H7 ?_)
 refine region_in ?_
 refine W_v V V (V_mov V (fg1 F14)) ?_
 refine W_v V V (V_nil V (et V)) ?_
 refine xsC (zs' := #[.int .i64 (kd), .int .i64 (a), .int .i64 (b), .int .i64 0, .int .i64 (p), .int .i64 (q), .int .u64 (uu)]) 0 S5 V hmb_gb V V V (et V) V (by rfl) (fun w19 c19 hc19 S19 => ?_)
 replace S19 : St w Y [c19, mb_ge] w19 := S19
 refine W_end (gen_Q fun A20 E20 => ?_)
 have Y20 := szq E20
 have F20 := fsE E20 (cq2 F14 V)
 clear E20 Y14 F14
 refine ret_inN (results_0 Try.results44 ) F20.d ?_
 exact ⟨rfl, (S19.fin2 0 V (hc19.trans (by simp)) 1 V (hmb_ge.trans (congrArg (fun z => bx ge 28 #[Value.int .i64 z]) (show _ = (if ((3 : Int) = 1 ∧ badN a) ∨ ((3 : Int) = 2 ∧ badN b) ∨ ((3 : Int) = 3 ∧ badN f) ∨ ((3 : Int) = 4 ∧ badN p) ∨ ((3 : Int) = 5 ∧ badN q) then 7 else er) from (by rw [if_neg (show ¬ (((3 : Int) = 1 ∧ badN a) ∨ ((3 : Int) = 2 ∧ badN b) ∨ ((3 : Int) = 3 ∧ badN f) ∨ ((3 : Int) = 4 ∧ badN p) ∨ ((3 : Int) = 5 ∧ badN q)) from by simp [badN]; omega)])))) (by decide))⟩

set_option maxHeartbeats 4000000 in
theorem ktk4_c {kd : Int} {a : Int} {b : Int} {f : Int} {p : Int} {q : Int} {uu : Int} {gb : Nat} {er : Int} {ge : Nat} {w : World} {Y : Nat → Prop}  (hS : St w Y [bx gb 42 #[.int .i64 kd, .int .i64 a, .int .i64 b, .int .i64 f, .int .i64 p, .int .i64 q, .int .u64 uu], bx ge 28 #[.int .i64 er]] w)  :
  Calls Try.prog 44 #[.int .i64 4, .pointer (some ⟨gb, 0, none⟩), .pointer (some ⟨ge, 0, none⟩)] w fun e w' => e = .returned (.tuple #[]) ∧ St w Y [bx gb 42 #[.int .i64 kd, .int .i64 (if (4 : Int) = 1 then 0 else a), .int .i64 (if (4 : Int) = 2 then 0 else b), .int .i64 (if (4 : Int) = 3 then 0 else f), .int .i64 (if (4 : Int) = 4 then 0 else p), .int .i64 (if (4 : Int) = 5 then 0 else q), .int .u64 (if (4 : Int) = 6 then 0 else uu)], bx ge 28 #[.int .i64 (if ((4 : Int) = 1 ∧ badN a) ∨ ((4 : Int) = 2 ∧ badN b) ∨ ((4 : Int) = 3 ∧ badN f) ∨ ((4 : Int) = 4 ∧ badN p) ∨ ((4 : Int) = 5 ∧ badN q) then 7 else er)]] w' := by
 refine calls_in 22 Try.func44 V V (by simp) (fun A0 Y0 hdf0 hargs => ?_)
 have l0_0 := hargs 0 (.int .i64 4) V
 have l1_0 := hargs 1 (.pointer (some ⟨gb, 0, none⟩)) V
 have l2_0 := hargs 2 (.pointer (some ⟨ge, 0, none⟩)) V
 clear hargs; replace Y0 : SzN A0 22 := ⟨Y0⟩
 obtain ⟨mb_gb, mb_ge, hmb_gb, hmb_ge, hS⟩ := gen2 hS
 replace hS : St w Y [mb_gb, mb_ge] w := hS
 refine wp_seq_k fun K1 H1 => ?_
 refine wp_seq_k fun K2 H2 => region_in ?_
 refine W_v V V (V_mov V l0_0) ?_
 refine W_v V V (V_eql V (et V) V) ?_
 refine W_end (gen_Q fun A3 E3 => ?_)
 have Y3 := szq E3
 have F3 := (((fsE E3 (ck (cq1 (FS.n hdf0) V) V V)).c (lookE E3 0 (es2 V l0_0))).c (lookE E3 1 (es2 V l1_0))).c (lookE E3 2 (es2 V l2_0))
 clear E3 Y0 hdf0 l0_0 l1_0 l2_0
 refine tk H2 ?_
 refine cond_not (fg3 F3) (by decide) ?_
 refine wp_skip ?_
 refine tk H1 (wp_seq_k fun K4 H4 => region_in ?_)
 refine W_v V V (V_mov V (fg2 F3)) ?_
 refine W_call V V V Try.func45 (by kernel_rfl) V (args2 (es V (fg1 F3)) (et V)) (knum_c (g := gb) (wt := 4)  (by first | with_reducible assumption | omega)) ?_
 rintro _ w5 ⟨rfl, hP5⟩
 refine ⟨_, rfl, ?_⟩
 have S5 := hS.join hP5
 replace S5 : St w Y [mb_gb, mb_ge] w5 := S5
 refine W_v V V (V_asg V (et V)) ?_
 refine W_end (gen_Q fun A6 E6 => ?_)
 have Y6 := szq E6
 have F6 := fsE E6 (ck (cq2 F3 V) V V)
 clear E6 Y3 F3
 refine tk H4 (wp_seq_k fun K7 H7 => ?_)
 refine wp_seq_k fun K8 H8 => region_in ?_
 refine W_v V V (V_mov V (fg0 F6)) ?_
 refine W_v V V (V_nil V (et V)) ?_
 refine W_r V V (xlC (v := .int .i64 (p)) V (et V) (S5.obj 0 V hmb_gb) Try.underlying3) ?_
 refine W_v V V (V_lss V (et V) V) ?_
 refine W_split V V (V_mov V (et V)) (fun c9 => ?_) (fun c9 => ?_)
 ·refine xof V V V (et V) (xof V V V (es V (et V)) (xof V V V (es2 V (et V)) (xof V V V (es3 V (et V)) ?_)))
  refine W_v V V (V_pickT V (es4 V (et V)) V) ?_
  refine W_end (gen_Q fun A10 E10 => ?_)
  have Y10 := szq E10
  have F10 := fsE E10 (ck (cq1 (cq8 F6 V) V) V V)
  clear E10 Y6 F6
  refine tk H8 ?_
  refine cond_t (fg0 F10) ?_
  refine region_in ?_
  refine xsC (zs' := #[.int .i64 7]) 1 S5 V hmb_ge V V V (fg2 F10) V (by rfl) (fun w11 c11 hc11 S11 => ?_)
  replace S11 : St w Y [mb_gb, c11] w11 := S11
  refine W_end (tk H7 ?_)
  refine region_in ?_
  refine W_v V V (V_mov V (fg1 F10)) ?_
  refine W_v V V (V_nil V (et V)) ?_
  refine xsC (zs' := #[.int .i64 (kd), .int .i64 (a), .int .i64 (b), .int .i64 (f), .int .i64 0, .int .i64 (q), .int .u64 (uu)]) 0 S11 V hmb_gb V V V (et V) V (by rfl) (fun w12 c12 hc12 S12 => ?_)
  replace S12 : St w Y [c12, c11] w12 := S12
  refine W_end (gen_Q fun A13 E13 => ?_)
  have Y13 := szq E13
  have F13 := fsE E13 (cq2 F10 V)
  clear E13 Y10 F10
  refine ret_inN (results_0 Try.results44 ) F13.d ?_
  exact ⟨rfl, (S12.fin2 0 V (hc12.trans (by simp)) 1 V (hc11.trans (congrArg (fun z => bx ge 28 #[Value.int .i64 z]) (show _ = (if ((4 : Int) = 1 ∧ badN a) ∨ ((4 : Int) = 2 ∧ badN b) ∨ ((4 : Int) = 3 ∧ badN f) ∨ ((4 : Int) = 4 ∧ badN p) ∨ ((4 : Int) = 5 ∧ badN q) then 7 else er) from (by rw [if_pos (show ((4 : Int) = 1 ∧ badN a) ∨ ((4 : Int) = 2 ∧ badN b) ∨ ((4 : Int) = 3 ∧ badN f) ∨ ((4 : Int) = 4 ∧ badN p) ∨ ((4 : Int) = 5 ∧ badN q) from by simp [badN]; omega)])))) (by decide))⟩
 refine W_v V (xwt V V (et V)) (V_mov V (es5 V (fg0 F6))) ?_
 refine W_v V (xwt V V (es V (et V))) (V_nil V (et V)) ?_
 refine W_r V (xwt V V (es2 V (et V))) (xlC (v := .int .i64 (p)) V (et V) (S5.obj 0 V hmb_gb) Try.underlying3) ?_
 refine W_v V (xwt V V (es3 V (et V))) (V_gtr V (et V) V) ?_
 refine W_v V V (V_pickF V (es4 V (et V)) (et V)) ?_
 refine W_end (gen_Q fun A14 E14 => ?_)
 have Y14 := szq E14
 have F14 := fsE E14 (ck (cq1 (cq8 F6 V) V) V V)
 clear E14 Y6 F6
 refine tk H8 ?_
 refine cond_dec (fg0 F14) (fun c15 => ?_) (fun c15 => ?_)
 ·refine region_in ?_
  refine xsC (zs' := #[.int .i64 7]) 1 S5 V hmb_ge V V V (fg2 F14) V (by rfl) (fun w16 c16 hc16 S16 => ?_)
  replace S16 : St w Y [mb_gb, c16] w16 := S16
  refine W_end (tk H7 ?_)
  refine region_in ?_
  refine W_v V V (V_mov V (fg1 F14)) ?_
  refine W_v V V (V_nil V (et V)) ?_
  refine xsC (zs' := #[.int .i64 (kd), .int .i64 (a), .int .i64 (b), .int .i64 (f), .int .i64 0, .int .i64 (q), .int .u64 (uu)]) 0 S16 V hmb_gb V V V (et V) V (by rfl) (fun w17 c17 hc17 S17 => ?_)
  replace S17 : St w Y [c17, c16] w17 := S17
  refine W_end (gen_Q fun A18 E18 => ?_)
  have Y18 := szq E18
  have F18 := fsE E18 (cq2 F14 V)
  clear E18 Y14 F14
  refine ret_inN (results_0 Try.results44 ) F18.d ?_
  exact ⟨rfl, (S17.fin2 0 V (hc17.trans (by simp)) 1 V (hc16.trans (congrArg (fun z => bx ge 28 #[Value.int .i64 z]) (show _ = (if ((4 : Int) = 1 ∧ badN a) ∨ ((4 : Int) = 2 ∧ badN b) ∨ ((4 : Int) = 3 ∧ badN f) ∨ ((4 : Int) = 4 ∧ badN p) ∨ ((4 : Int) = 5 ∧ badN q) then 7 else er) from (by rw [if_pos (show ((4 : Int) = 1 ∧ badN a) ∨ ((4 : Int) = 2 ∧ badN b) ∨ ((4 : Int) = 3 ∧ badN f) ∨ ((4 : Int) = 4 ∧ badN p) ∨ ((4 : Int) = 5 ∧ badN q) from by simp [badN]; omega)])))) (by decide))⟩
 refine wp_skip (tk H7 ?_)
 refine region_in ?_
 refine W_v V V (V_mov V (fg1 F14)) ?_
 refine W_v V V (V_nil V (et V)) ?_
 refine xsC (zs' := #[.int .i64 (kd), .int .i64 (a), .int .i64 (b), .int .i64 (f), .int .i64 0, .int .i64 (q), .int .u64 (uu)]) 0 S5 V hmb_gb V V V (et V) V (by rfl) (fun w19 c19 hc19 S19 => ?_)
 replace S19 : St w Y [c19, mb_ge] w19 := S19
 refine W_end (gen_Q fun A20 E20 => ?_)
 have Y20 := szq E20
 have F20 := fsE E20 (cq2 F14 V)
 clear E20 Y14 F14
 refine ret_inN (results_0 Try.results44 ) F20.d ?_
 exact ⟨rfl, (S19.fin2 0 V (hc19.trans (by simp)) 1 V (hmb_ge.trans (congrArg (fun z => bx ge 28 #[Value.int .i64 z]) (show _ = (if ((4 : Int) = 1 ∧ badN a) ∨ ((4 : Int) = 2 ∧ badN b) ∨ ((4 : Int) = 3 ∧ badN f) ∨ ((4 : Int) = 4 ∧ badN p) ∨ ((4 : Int) = 5 ∧ badN q) then 7 else er) from (by rw [if_neg (show ¬ (((4 : Int) = 1 ∧ badN a) ∨ ((4 : Int) = 2 ∧ badN b) ∨ ((4 : Int) = 3 ∧ badN f) ∨ ((4 : Int) = 4 ∧ badN p) ∨ ((4 : Int) = 5 ∧ badN q)) from by simp [badN]; omega)])))) (by decide))⟩

set_option maxHeartbeats 4000000 in
theorem ktk5_c {kd : Int} {a : Int} {b : Int} {f : Int} {p : Int} {q : Int} {uu : Int} {gb : Nat} {er : Int} {ge : Nat} {w : World} {Y : Nat → Prop}  (hS : St w Y [bx gb 42 #[.int .i64 kd, .int .i64 a, .int .i64 b, .int .i64 f, .int .i64 p, .int .i64 q, .int .u64 uu], bx ge 28 #[.int .i64 er]] w)  :
  Calls Try.prog 44 #[.int .i64 5, .pointer (some ⟨gb, 0, none⟩), .pointer (some ⟨ge, 0, none⟩)] w fun e w' => e = .returned (.tuple #[]) ∧ St w Y [bx gb 42 #[.int .i64 kd, .int .i64 (if (5 : Int) = 1 then 0 else a), .int .i64 (if (5 : Int) = 2 then 0 else b), .int .i64 (if (5 : Int) = 3 then 0 else f), .int .i64 (if (5 : Int) = 4 then 0 else p), .int .i64 (if (5 : Int) = 5 then 0 else q), .int .u64 (if (5 : Int) = 6 then 0 else uu)], bx ge 28 #[.int .i64 (if ((5 : Int) = 1 ∧ badN a) ∨ ((5 : Int) = 2 ∧ badN b) ∨ ((5 : Int) = 3 ∧ badN f) ∨ ((5 : Int) = 4 ∧ badN p) ∨ ((5 : Int) = 5 ∧ badN q) then 7 else er)]] w' := by
 refine calls_in 22 Try.func44 V V (by simp) (fun A0 Y0 hdf0 hargs => ?_)
 have l0_0 := hargs 0 (.int .i64 5) V
 have l1_0 := hargs 1 (.pointer (some ⟨gb, 0, none⟩)) V
 have l2_0 := hargs 2 (.pointer (some ⟨ge, 0, none⟩)) V
 clear hargs; replace Y0 : SzN A0 22 := ⟨Y0⟩
 obtain ⟨mb_gb, mb_ge, hmb_gb, hmb_ge, hS⟩ := gen2 hS
 replace hS : St w Y [mb_gb, mb_ge] w := hS
 refine wp_seq_k fun K1 H1 => ?_
 refine wp_seq_k fun K2 H2 => region_in ?_
 refine W_v V V (V_mov V l0_0) ?_
 refine W_v V V (V_eql V (et V) V) ?_
 refine W_end (gen_Q fun A3 E3 => ?_)
 have Y3 := szq E3
 have F3 := (((fsE E3 (ck (cq1 (FS.n hdf0) V) V V)).c (lookE E3 0 (es2 V l0_0))).c (lookE E3 1 (es2 V l1_0))).c (lookE E3 2 (es2 V l2_0))
 clear E3 Y0 hdf0 l0_0 l1_0 l2_0
 refine tk H2 ?_
 refine cond_not (fg3 F3) (by decide) ?_
 refine wp_skip ?_
 refine tk H1 (wp_seq_k fun K4 H4 => region_in ?_)
 refine W_v V V (V_mov V (fg2 F3)) ?_
 refine W_call V V V Try.func45 (by kernel_rfl) V (args2 (es V (fg1 F3)) (et V)) (knum_c (g := gb) (wt := 5)  (by first | with_reducible assumption | omega)) ?_
 rintro _ w5 ⟨rfl, hP5⟩
 refine ⟨_, rfl, ?_⟩
 have S5 := hS.join hP5
 replace S5 : St w Y [mb_gb, mb_ge] w5 := S5
 refine W_v V V (V_asg V (et V)) ?_
 refine W_end (gen_Q fun A6 E6 => ?_)
 have Y6 := szq E6
 have F6 := fsE E6 (ck (cq2 F3 V) V V)
 clear E6 Y3 F3
 refine tk H4 (wp_seq_k fun K7 H7 => ?_)
 refine wp_seq_k fun K8 H8 => region_in ?_
 refine W_v V V (V_mov V (fg0 F6)) ?_
 refine W_v V V (V_nil V (et V)) ?_
 refine W_r V V (xlC (v := .int .i64 (q)) V (et V) (S5.obj 0 V hmb_gb) Try.underlying3) ?_
 refine W_v V V (V_lss V (et V) V) ?_
 refine W_split V V (V_mov V (et V)) (fun c9 => ?_) (fun c9 => ?_)
 ·refine xof V V V (et V) (xof V V V (es V (et V)) (xof V V V (es2 V (et V)) (xof V V V (es3 V (et V)) ?_)))
  refine W_v V V (V_pickT V (es4 V (et V)) V) ?_
  refine W_end (gen_Q fun A10 E10 => ?_)
  have Y10 := szq E10
  have F10 := fsE E10 (ck (cq1 (cq8 F6 V) V) V V)
  clear E10 Y6 F6
  refine tk H8 ?_
  refine cond_t (fg0 F10) ?_
  refine region_in ?_
  refine xsC (zs' := #[.int .i64 7]) 1 S5 V hmb_ge V V V (fg2 F10) V (by rfl) (fun w11 c11 hc11 S11 => ?_)
  replace S11 : St w Y [mb_gb, c11] w11 := S11
  refine W_end (tk H7 ?_)
  refine region_in ?_
  refine W_v V V (V_mov V (fg1 F10)) ?_
  refine W_v V V (V_nil V (et V)) ?_
  refine xsC (zs' := #[.int .i64 (kd), .int .i64 (a), .int .i64 (b), .int .i64 (f), .int .i64 (p), .int .i64 0, .int .u64 (uu)]) 0 S11 V hmb_gb V V V (et V) V (by rfl) (fun w12 c12 hc12 S12 => ?_)
  replace S12 : St w Y [c12, c11] w12 := S12
  refine W_end (gen_Q fun A13 E13 => ?_)
  have Y13 := szq E13
  have F13 := fsE E13 (cq2 F10 V)
  clear E13 Y10 F10
  refine ret_inN (results_0 Try.results44 ) F13.d ?_
  exact ⟨rfl, (S12.fin2 0 V (hc12.trans (by simp)) 1 V (hc11.trans (congrArg (fun z => bx ge 28 #[Value.int .i64 z]) (show _ = (if ((5 : Int) = 1 ∧ badN a) ∨ ((5 : Int) = 2 ∧ badN b) ∨ ((5 : Int) = 3 ∧ badN f) ∨ ((5 : Int) = 4 ∧ badN p) ∨ ((5 : Int) = 5 ∧ badN q) then 7 else er) from (by rw [if_pos (show ((5 : Int) = 1 ∧ badN a) ∨ ((5 : Int) = 2 ∧ badN b) ∨ ((5 : Int) = 3 ∧ badN f) ∨ ((5 : Int) = 4 ∧ badN p) ∨ ((5 : Int) = 5 ∧ badN q) from by simp [badN]; omega)])))) (by decide))⟩
 refine W_v V (xwt V V (et V)) (V_mov V (es5 V (fg0 F6))) ?_
 refine W_v V (xwt V V (es V (et V))) (V_nil V (et V)) ?_
 refine W_r V (xwt V V (es2 V (et V))) (xlC (v := .int .i64 (q)) V (et V) (S5.obj 0 V hmb_gb) Try.underlying3) ?_
 refine W_v V (xwt V V (es3 V (et V))) (V_gtr V (et V) V) ?_
 refine W_v V V (V_pickF V (es4 V (et V)) (et V)) ?_
 refine W_end (gen_Q fun A14 E14 => ?_)
 have Y14 := szq E14
 have F14 := fsE E14 (ck (cq1 (cq8 F6 V) V) V V)
 clear E14 Y6 F6
 refine tk H8 ?_
 refine cond_dec (fg0 F14) (fun c15 => ?_) (fun c15 => ?_)
 ·refine region_in ?_
  refine xsC (zs' := #[.int .i64 7]) 1 S5 V hmb_ge V V V (fg2 F14) V (by rfl) (fun w16 c16 hc16 S16 => ?_)
  replace S16 : St w Y [mb_gb, c16] w16 := S16
  refine W_end (tk H7 ?_)
  refine region_in ?_
  refine W_v V V (V_mov V (fg1 F14)) ?_
  refine W_v V V (V_nil V (et V)) ?_
  refine xsC (zs' := #[.int .i64 (kd), .int .i64 (a), .int .i64 (b), .int .i64 (f), .int .i64 (p), .int .i64 0, .int .u64 (uu)]) 0 S16 V hmb_gb V V V (et V) V (by rfl) (fun w17 c17 hc17 S17 => ?_)
  replace S17 : St w Y [c17, c16] w17 := S17
  refine W_end (gen_Q fun A18 E18 => ?_)
  have Y18 := szq E18
  have F18 := fsE E18 (cq2 F14 V)
  clear E18 Y14 F14
  refine ret_inN (results_0 Try.results44 ) F18.d ?_
  exact ⟨rfl, (S17.fin2 0 V (hc17.trans (by simp)) 1 V (hc16.trans (congrArg (fun z => bx ge 28 #[Value.int .i64 z]) (show _ = (if ((5 : Int) = 1 ∧ badN a) ∨ ((5 : Int) = 2 ∧ badN b) ∨ ((5 : Int) = 3 ∧ badN f) ∨ ((5 : Int) = 4 ∧ badN p) ∨ ((5 : Int) = 5 ∧ badN q) then 7 else er) from (by rw [if_pos (show ((5 : Int) = 1 ∧ badN a) ∨ ((5 : Int) = 2 ∧ badN b) ∨ ((5 : Int) = 3 ∧ badN f) ∨ ((5 : Int) = 4 ∧ badN p) ∨ ((5 : Int) = 5 ∧ badN q) from by simp [badN]; omega)])))) (by decide))⟩
 refine wp_skip (tk H7 ?_)
 refine region_in ?_
 refine W_v V V (V_mov V (fg1 F14)) ?_
 refine W_v V V (V_nil V (et V)) ?_
 refine xsC (zs' := #[.int .i64 (kd), .int .i64 (a), .int .i64 (b), .int .i64 (f), .int .i64 (p), .int .i64 0, .int .u64 (uu)]) 0 S5 V hmb_gb V V V (et V) V (by rfl) (fun w19 c19 hc19 S19 => ?_)
 replace S19 : St w Y [c19, mb_ge] w19 := S19
 refine W_end (gen_Q fun A20 E20 => ?_)
 have Y20 := szq E20
 have F20 := fsE E20 (cq2 F14 V)
 clear E20 Y14 F14
 refine ret_inN (results_0 Try.results44 ) F20.d ?_
 exact ⟨rfl, (S19.fin2 0 V (hc19.trans (by simp)) 1 V (hmb_ge.trans (congrArg (fun z => bx ge 28 #[Value.int .i64 z]) (show _ = (if ((5 : Int) = 1 ∧ badN a) ∨ ((5 : Int) = 2 ∧ badN b) ∨ ((5 : Int) = 3 ∧ badN f) ∨ ((5 : Int) = 4 ∧ badN p) ∨ ((5 : Int) = 5 ∧ badN q) then 7 else er) from (by rw [if_neg (show ¬ (((5 : Int) = 1 ∧ badN a) ∨ ((5 : Int) = 2 ∧ badN b) ∨ ((5 : Int) = 3 ∧ badN f) ∨ ((5 : Int) = 4 ∧ badN p) ∨ ((5 : Int) = 5 ∧ badN q)) from by simp [badN]; omega)])))) (by decide))⟩

set_option maxHeartbeats 4000000 in
theorem ktk6_c {kd : Int} {a : Int} {b : Int} {f : Int} {p : Int} {q : Int} {uu : Int} {gb : Nat} {er : Int} {ge : Nat} {w : World} {Y : Nat → Prop}  (hS : St w Y [bx gb 42 #[.int .i64 kd, .int .i64 a, .int .i64 b, .int .i64 f, .int .i64 p, .int .i64 q, .int .u64 uu], bx ge 28 #[.int .i64 er]] w)  :
  Calls Try.prog 44 #[.int .i64 6, .pointer (some ⟨gb, 0, none⟩), .pointer (some ⟨ge, 0, none⟩)] w fun e w' => e = .returned (.tuple #[]) ∧ St w Y [bx gb 42 #[.int .i64 kd, .int .i64 (if (6 : Int) = 1 then 0 else a), .int .i64 (if (6 : Int) = 2 then 0 else b), .int .i64 (if (6 : Int) = 3 then 0 else f), .int .i64 (if (6 : Int) = 4 then 0 else p), .int .i64 (if (6 : Int) = 5 then 0 else q), .int .u64 (if (6 : Int) = 6 then 0 else uu)], bx ge 28 #[.int .i64 (if ((6 : Int) = 1 ∧ badN a) ∨ ((6 : Int) = 2 ∧ badN b) ∨ ((6 : Int) = 3 ∧ badN f) ∨ ((6 : Int) = 4 ∧ badN p) ∨ ((6 : Int) = 5 ∧ badN q) then 7 else er)]] w' := by
 refine calls_in 22 Try.func44 V V (by simp) (fun A0 Y0 hdf0 hargs => ?_)
 have l0_0 := hargs 0 (.int .i64 6) V
 have l1_0 := hargs 1 (.pointer (some ⟨gb, 0, none⟩)) V
 have l2_0 := hargs 2 (.pointer (some ⟨ge, 0, none⟩)) V
 clear hargs; replace Y0 : SzN A0 22 := ⟨Y0⟩
 obtain ⟨mb_gb, mb_ge, hmb_gb, hmb_ge, hS⟩ := gen2 hS
 replace hS : St w Y [mb_gb, mb_ge] w := hS
 refine wp_seq_k fun K1 H1 => ?_
 refine wp_seq_k fun K2 H2 => region_in ?_
 refine W_v V V (V_mov V l0_0) ?_
 refine W_v V V (V_eql V (et V) V) ?_
 refine W_end (gen_Q fun A3 E3 => ?_)
 have Y3 := szq E3
 have F3 := (((fsE E3 (ck (cq1 (FS.n hdf0) V) V V)).c (lookE E3 0 (es2 V l0_0))).c (lookE E3 1 (es2 V l1_0))).c (lookE E3 2 (es2 V l2_0))
 clear E3 Y0 hdf0 l0_0 l1_0 l2_0
 refine tk H2 ?_
 refine cond_sure (fg3 F3) (by simp) ?_
 refine wp_seq_k fun K4 H4 => region_in ?_
 refine W_v V V (V_fa (off' := 6) V (fg1 F3) Try.underlying42 V (by decide +kernel) V) ?_
 refine xsC (zs' := #[.int .i64 (kd), .int .i64 (a), .int .i64 (b), .int .i64 (f), .int .i64 (p), .int .i64 (q), .int .u64 0]) 0 hS V hmb_gb V V V (et V) V (by rfl) (fun w5 c5 hc5 S5 => ?_)
 replace S5 : St w Y [c5, mb_ge] w5 := S5
 refine W_end (gen_Q fun A6 E6 => ?_)
 have Y6 := szq E6
 have F6 := fsE E6 (cq1 F3 V)
 clear E6 Y3 F3
 refine tk H4 (wp_ret (then_ret ?_))
 refine ret_in (results_0 Try.results44 ) F6.d ?_
 exact ⟨rfl, (S5.fin2 0 V (hc5.trans (by simp)) 1 V (hmb_ge.trans (congrArg (fun z => bx ge 28 #[Value.int .i64 z]) (show _ = (if ((6 : Int) = 1 ∧ badN a) ∨ ((6 : Int) = 2 ∧ badN b) ∨ ((6 : Int) = 3 ∧ badN f) ∨ ((6 : Int) = 4 ∧ badN p) ∨ ((6 : Int) = 5 ∧ badN q) then 7 else er) from by simp))) (by decide))⟩

set_option maxHeartbeats 4000000 in
theorem ktk_c {wt : Int} {kd : Int} {a : Int} {b : Int} {f : Int} {p : Int} {q : Int} {uu : Int} {gb : Nat} {er : Int} {ge : Nat} {w : World} {Y : Nat → Prop}  (hS : St w Y [bx gb 42 #[.int .i64 kd, .int .i64 a, .int .i64 b, .int .i64 f, .int .i64 p, .int .i64 q, .int .u64 uu], bx ge 28 #[.int .i64 er]] w) (hw : 1 ≤ wt ∧ wt ≤ 6) :
  Calls Try.prog 44 #[.int .i64 wt, .pointer (some ⟨gb, 0, none⟩), .pointer (some ⟨ge, 0, none⟩)] w fun e w' => e = .returned (.tuple #[]) ∧ St w Y [bx gb 42 #[.int .i64 kd, .int .i64 (if (wt : Int) = 1 then 0 else a), .int .i64 (if (wt : Int) = 2 then 0 else b), .int .i64 (if (wt : Int) = 3 then 0 else f), .int .i64 (if (wt : Int) = 4 then 0 else p), .int .i64 (if (wt : Int) = 5 then 0 else q), .int .u64 (if (wt : Int) = 6 then 0 else uu)], bx ge 28 #[.int .i64 (if ((wt : Int) = 1 ∧ badN a) ∨ ((wt : Int) = 2 ∧ badN b) ∨ ((wt : Int) = 3 ∧ badN f) ∨ ((wt : Int) = 4 ∧ badN p) ∨ ((wt : Int) = 5 ∧ badN q) then 7 else er)]] w' := by
 rcases (by omega : wt = 1 ∨ wt = 2 ∨ wt = 3 ∨ wt = 4 ∨ wt = 5 ∨ wt = 6) with rfl | rfl | rfl | rfl | rfl | rfl
 ·exact ktk1_c hS
 ·exact ktk2_c hS
 ·exact ktk3_c hS
 ·exact ktk4_c hS
 ·exact ktk5_c hS
 exact ktk6_c hS


set_option maxHeartbeats 4000000 in
theorem ktab_c  {w : World}   :
  Calls Try.prog 46 #[] w fun e w' => ∃ v1 v2 v3 v4 v5 v6 v7 v8 v9 v10, e = .returned (.agg #[stv [], .slice none 0 0, stv [97, 108, 108, 111, 99], v1, stv [108, 111, 97, 100], v2, stv [115, 116, 111, 114, 101], v3, stv [114, 101, 97, 100], v4, stv [119, 114, 105, 116, 101], v5, stv [109, 111, 118, 101], v6, stv [99, 108, 101, 97, 114], v7, stv [115, 97, 109, 101], v8, stv [110, 105, 108], v9, stv [115, 105, 122, 101], v10, stv [99, 111, 108, 108, 101, 99, 116], .slice none 0 0]) ∧ St w NoX [nsi (List.map (fun y : TR => y.2) ([([], (Value.slice none 0 0, [])), ([97, 108, 108, 111, 99], (v1, [1, 4, 5])), ([108, 111, 97, 100], (v2, [1, 2, 3])), ([115, 116, 111, 114, 101], (v3, [1, 3, 2])), ([114, 101, 97, 100], (v4, [1, 3])), ([119, 114, 105, 116, 101], (v5, [1, 3, 6])), ([109, 111, 118, 101], (v6, [1, 2])), ([99, 108, 101, 97, 114], (v7, [1])), ([115, 97, 109, 101], (v8, [1, 2])), ([110, 105, 108], (v9, [1])), ([115, 105, 122, 101], (v10, [1])), ([99, 111, 108, 108, 101, 99, 116], (Value.slice none 0 0, []))] : List TR))] w' := by
 refine calls_in 23 Try.func46 V V (by simp) (fun A0 Y0 hdf0 hargs => ?_)
 clear hargs; replace Y0 : SzN A0 23 := ⟨Y0⟩
 have hS := St.nil w
 refine wp_seq_k fun K1 H1 => region_in ?_
 refine W_allocS (z := .agg #[.string ByteArray.empty, .slice none 0 0, .string ByteArray.empty, .slice none 0 0, .string ByteArray.empty, .slice none 0 0, .string ByteArray.empty, .slice none 0 0, .string ByteArray.empty, .slice none 0 0, .string ByteArray.empty, .slice none 0 0, .string ByteArray.empty, .slice none 0 0, .string ByteArray.empty, .slice none 0 0, .string ByteArray.empty, .slice none 0 0, .string ByteArray.empty, .slice none 0 0, .string ByteArray.empty, .slice none 0 0, .string ByteArray.empty, .slice none 0 0]) (zs := #[.string ByteArray.empty, .slice none 0 0, .string ByteArray.empty, .slice none 0 0, .string ByteArray.empty, .slice none 0 0, .string ByteArray.empty, .slice none 0 0, .string ByteArray.empty, .slice none 0 0, .string ByteArray.empty, .slice none 0 0, .string ByteArray.empty, .slice none 0 0, .string ByteArray.empty, .slice none 0 0, .string ByteArray.empty, .slice none 0 0, .string ByteArray.empty, .slice none 0 0, .string ByteArray.empty, .slice none 0 0, .string ByteArray.empty, .slice none 0 0]) hS V V V (by kernel_rfl) (by rfl) (fun g2 w2 c2 hc2 S2 => ?_)
 replace S2 : St w NoX [c2] w2 := S2
 refine W_end (gen_Q fun A3 E3 => ?_)
 have Y3 := szq E3
 have F3 := fsE E3 (ck (FS.n hdf0) V V)
 clear E3 Y0 hdf0
 refine tk H1 (wp_seq_k fun K4 H4 => region_in ?_)
 have hll5 : [1, 4, 5].length = 3 := rfl
 refine xsL (vs := [.int .i64 1, .int .i64 4, .int .i64 5]) (xs := ([1, 4, 5].map (Value.int .i64))) 1 S2 V V V (parts3 V V V) Try.underlying25 (fun g5 w5 c5 hc5 S5 => ?_)
 replace hc5 : c5 = io .i64 (.slice (some ⟨g5, 0, none⟩) 3 3) [1, 4, 5] := hc5
 replace S5 : St w NoX [c5, c2] w5 := S5
 refine W_v V V (xbT (n := 2) (z := .agg #[.string ByteArray.empty, .slice none 0 0]) V (parts2 V (et V)) (by simp only [List.all_cons, List.all_nil, SlN_one (ow_at (S5.chq 0 V hc5)), Bool.and_true] <;> rfl)) ?_
 have hll6 : [1, 2, 3].length = 3 := rfl
 refine xsL (vs := [.int .i64 1, .int .i64 2, .int .i64 3]) (xs := ([1, 2, 3].map (Value.int .i64))) 1 S5 V V V (parts3 V V V) Try.underlying25 (fun g6 w6 c6 hc6 S6 => ?_)
 replace hc6 : c6 = io .i64 (.slice (some ⟨g6, 0, none⟩) 3 3) [1, 2, 3] := hc6
 replace S6 : St w NoX [c6, c5, c2] w6 := S6
 refine W_v V V (xbT (n := 2) (z := .agg #[.string ByteArray.empty, .slice none 0 0]) V (parts2 V (et V)) (by simp only [List.all_cons, List.all_nil, SlN_one (ow_at (S6.chq 0 V hc6)), Bool.and_true] <;> rfl)) ?_
 have hll7 : [1, 3, 2].length = 3 := rfl
 refine xsL (vs := [.int .i64 1, .int .i64 3, .int .i64 2]) (xs := ([1, 3, 2].map (Value.int .i64))) 1 S6 V V V (parts3 V V V) Try.underlying25 (fun g7 w7 c7 hc7 S7 => ?_)
 replace hc7 : c7 = io .i64 (.slice (some ⟨g7, 0, none⟩) 3 3) [1, 3, 2] := hc7
 replace S7 : St w NoX [c7, c6, c5, c2] w7 := S7
 refine W_v V V (xbT (n := 2) (z := .agg #[.string ByteArray.empty, .slice none 0 0]) V (parts2 V (et V)) (by simp only [List.all_cons, List.all_nil, SlN_one (ow_at (S7.chq 0 V hc7)), Bool.and_true] <;> rfl)) ?_
 have hll8 : [1, 3].length = 2 := rfl
 refine xsL (vs := [.int .i64 1, .int .i64 3]) (xs := ([1, 3].map (Value.int .i64))) 1 S7 V V V (parts2 V V) Try.underlying25 (fun g8 w8 c8 hc8 S8 => ?_)
 replace hc8 : c8 = io .i64 (.slice (some ⟨g8, 0, none⟩) 2 2) [1, 3] := hc8
 replace S8 : St w NoX [c8, c7, c6, c5, c2] w8 := S8
 refine W_v V V (xbT (n := 2) (z := .agg #[.string ByteArray.empty, .slice none 0 0]) V (parts2 V (et V)) (by simp only [List.all_cons, List.all_nil, SlN_one (ow_at (S8.chq 0 V hc8)), Bool.and_true] <;> rfl)) ?_
 have hll9 : [1, 3, 6].length = 3 := rfl
 refine xsL (vs := [.int .i64 1, .int .i64 3, .int .i64 6]) (xs := ([1, 3, 6].map (Value.int .i64))) 1 S8 V V V (parts3 V V V) Try.underlying25 (fun g9 w9 c9 hc9 S9 => ?_)
 replace hc9 : c9 = io .i64 (.slice (some ⟨g9, 0, none⟩) 3 3) [1, 3, 6] := hc9
 replace S9 : St w NoX [c9, c8, c7, c6, c5, c2] w9 := S9
 refine W_v V V (xbT (n := 2) (z := .agg #[.string ByteArray.empty, .slice none 0 0]) V (parts2 V (et V)) (by simp only [List.all_cons, List.all_nil, SlN_one (ow_at (S9.chq 0 V hc9)), Bool.and_true] <;> rfl)) ?_
 have hll10 : [1, 2].length = 2 := rfl
 refine xsL (vs := [.int .i64 1, .int .i64 2]) (xs := ([1, 2].map (Value.int .i64))) 1 S9 V V V (parts2 V V) Try.underlying25 (fun g10 w10 c10 hc10 S10 => ?_)
 replace hc10 : c10 = io .i64 (.slice (some ⟨g10, 0, none⟩) 2 2) [1, 2] := hc10
 replace S10 : St w NoX [c10, c9, c8, c7, c6, c5, c2] w10 := S10
 refine W_v V V (xbT (n := 2) (z := .agg #[.string ByteArray.empty, .slice none 0 0]) V (parts2 V (et V)) (by simp only [List.all_cons, List.all_nil, SlN_one (ow_at (S10.chq 0 V hc10)), Bool.and_true] <;> rfl)) ?_
 have hll11 : [1].length = 1 := rfl
 refine xsL (vs := [.int .i64 1]) (xs := ([1].map (Value.int .i64))) 1 S10 V V V (parts1 V) Try.underlying25 (fun g11 w11 c11 hc11 S11 => ?_)
 replace hc11 : c11 = io .i64 (.slice (some ⟨g11, 0, none⟩) 1 1) [1] := hc11
 replace S11 : St w NoX [c11, c10, c9, c8, c7, c6, c5, c2] w11 := S11
 refine W_v V V (xbT (n := 2) (z := .agg #[.string ByteArray.empty, .slice none 0 0]) V (parts2 V (et V)) (by simp only [List.all_cons, List.all_nil, SlN_one (ow_at (S11.chq 0 V hc11)), Bool.and_true] <;> rfl)) ?_
 have hll12 : [1, 2].length = 2 := rfl
 refine xsL (vs := [.int .i64 1, .int .i64 2]) (xs := ([1, 2].map (Value.int .i64))) 1 S11 V V V (parts2 V V) Try.underlying25 (fun g12 w12 c12 hc12 S12 => ?_)
 replace hc12 : c12 = io .i64 (.slice (some ⟨g12, 0, none⟩) 2 2) [1, 2] := hc12
 replace S12 : St w NoX [c12, c11, c10, c9, c8, c7, c6, c5, c2] w12 := S12
 refine W_v V V (xbT (n := 2) (z := .agg #[.string ByteArray.empty, .slice none 0 0]) V (parts2 V (et V)) (by simp only [List.all_cons, List.all_nil, SlN_one (ow_at (S12.chq 0 V hc12)), Bool.and_true] <;> rfl)) ?_
 have hll13 : [1].length = 1 := rfl
 refine xsL (vs := [.int .i64 1]) (xs := ([1].map (Value.int .i64))) 1 S12 V V V (parts1 V) Try.underlying25 (fun g13 w13 c13 hc13 S13 => ?_)
 replace hc13 : c13 = io .i64 (.slice (some ⟨g13, 0, none⟩) 1 1) [1] := hc13
 replace S13 : St w NoX [c13, c12, c11, c10, c9, c8, c7, c6, c5, c2] w13 := S13
 refine W_v V V (xbT (n := 2) (z := .agg #[.string ByteArray.empty, .slice none 0 0]) V (parts2 V (et V)) (by simp only [List.all_cons, List.all_nil, SlN_one (ow_at (S13.chq 0 V hc13)), Bool.and_true] <;> rfl)) ?_
 have hll14 : [1].length = 1 := rfl
 refine xsL (vs := [.int .i64 1]) (xs := ([1].map (Value.int .i64))) 1 S13 V V V (parts1 V) Try.underlying25 (fun g14 w14 c14 hc14 S14 => ?_)
 replace hc14 : c14 = io .i64 (.slice (some ⟨g14, 0, none⟩) 1 1) [1] := hc14
 replace S14 : St w NoX [c14, c13, c12, c11, c10, c9, c8, c7, c6, c5, c2] w14 := S14
 refine W_v V V (xbT (n := 2) (z := .agg #[.string ByteArray.empty, .slice none 0 0]) V (parts2 V (et V)) (by simp only [List.all_cons, List.all_nil, SlN_one (ow_at (S14.chq 0 V hc14)), Bool.and_true] <;> rfl)) ?_
 refine W_v V V (xbS (n := 2) (z := .agg #[.string ByteArray.empty, .slice none 0 0]) V (parts2 V V)) ?_
 refine W_v V V (V_bld (cs := #[.string ByteArray.empty, .slice none 0 0, (stv ([97, 108, 108, 111, 99] : List UInt8)), (.slice (some ⟨g5, 0, none⟩) 3 3), (stv ([108, 111, 97, 100] : List UInt8)), (.slice (some ⟨g6, 0, none⟩) 3 3), (stv ([115, 116, 111, 114, 101] : List UInt8)), (.slice (some ⟨g7, 0, none⟩) 3 3), (stv ([114, 101, 97, 100] : List UInt8)), (.slice (some ⟨g8, 0, none⟩) 2 2), (stv ([119, 114, 105, 116, 101] : List UInt8)), (.slice (some ⟨g9, 0, none⟩) 3 3), (stv ([109, 111, 118, 101] : List UInt8)), (.slice (some ⟨g10, 0, none⟩) 2 2), (stv ([99, 108, 101, 97, 114] : List UInt8)), (.slice (some ⟨g11, 0, none⟩) 1 1), (stv ([115, 97, 109, 101] : List UInt8)), (.slice (some ⟨g12, 0, none⟩) 2 2), (stv ([110, 105, 108] : List UInt8)), (.slice (some ⟨g13, 0, none⟩) 1 1), (stv ([115, 105, 122, 101] : List UInt8)), (.slice (some ⟨g14, 0, none⟩) 1 1), (stv ([99, 111, 108, 108, 101, 99, 116] : List UInt8)), .slice none 0 0]) V (parts11 (es8 V (es8 V (es3 V (et V)))) (es8 V (es8 V (es V (et V)))) (es8 V (es7 V (et V))) (es8 V (es5 V (et V))) (es8 V (es3 V (et V))) (es8 V (es V (et V))) (es7 V (et V)) (es5 V (et V)) (es3 V (et V)) (es V (et V)) (et V)) (by kernel_rfl)) ?_
 refine xsB 10 S14 V hc2 V V V (es8 V (es8 V (es6 V (fg0 F3)))) (et V) (by simp only [List.all_toArray, List.all_cons, List.all_nil, SlN_one (ow_at (S14.chq 9 V hc5)), SlN_one (ow_at (S14.chq 8 V hc6)), SlN_one (ow_at (S14.chq 7 V hc7)), SlN_one (ow_at (S14.chq 6 V hc8)), SlN_one (ow_at (S14.chq 5 V hc9)), SlN_one (ow_at (S14.chq 4 V hc10)), SlN_one (ow_at (S14.chq 3 V hc11)), SlN_one (ow_at (S14.chq 2 V hc12)), SlN_one (ow_at (S14.chq 1 V hc13)), SlN_one (ow_at (S14.chq 0 V hc14))] <;> rfl) (fun w15 c15 hc15 S15 => ?_)
 replace S15 : St w NoX [c14, c13, c12, c11, c10, c9, c8, c7, c6, c5, c15] w15 := S15
 refine W_end (gen_Q fun A16 E16 => ?_)
 have Y16 := szq E16
 have F16 := fsE E16 (cq6 (cq8 (cq8 F3 V) V) V)
 clear E16 Y3 F3
 refine tk H4 (wp_ret ?_)
 refine ret_in (results_1 Try.results46 (rv_cellA (fg0 F16) (S15.obj 10 V hc15) Try.underlying102 V (by kernel_rfl))) F16.d ?_
 obtain ⟨c17, hc17, S17⟩ := S15.pnil (s := 1)
 obtain ⟨c18, hc18, S18⟩ := S17.pnil (s := 1)
 have S19 : St w NoX [c17, c5, c6, c7, c8, c9, c10, c11, c12, c13, c14, c18] w15 := S18.sel [1, 11, 10, 9, 8, 7, 6, 5, 4, 3, 2, 0] (by decide) V
 exact ⟨_, _, _, _, _, _, _, _, _, _, rfl, by subst hc17 hc5 hc6 hc7 hc8 hc9 hc10 hc11 hc12 hc13 hc14 hc18; exact nsi_own [((Value.slice none 0 0), []), ((Value.slice (some ⟨g5, 0, none⟩) 3 3), [1, 4, 5]), ((Value.slice (some ⟨g6, 0, none⟩) 3 3), [1, 2, 3]), ((Value.slice (some ⟨g7, 0, none⟩) 3 3), [1, 3, 2]), ((Value.slice (some ⟨g8, 0, none⟩) 2 2), [1, 3]), ((Value.slice (some ⟨g9, 0, none⟩) 3 3), [1, 3, 6]), ((Value.slice (some ⟨g10, 0, none⟩) 2 2), [1, 2]), ((Value.slice (some ⟨g11, 0, none⟩) 1 1), [1]), ((Value.slice (some ⟨g12, 0, none⟩) 2 2), [1, 2]), ((Value.slice (some ⟨g13, 0, none⟩) 1 1), [1]), ((Value.slice (some ⟨g14, 0, none⟩) 1 1), [1]), ((Value.slice none 0 0), [])] S19⟩

end Go.Proofs.Ytpgkfndbfocibaa
namespace Go.Proofs.Ytpgkfndbfocibaa
open Go.RowKit Go.Own Go.Own.R Go.Own.G Go.Own.Gr Go.Own.Ml


set_option maxHeartbeats 4000000 in
theorem kopc_c {kd : Int} {a : Int} {b : Int} {f : Int} {p : Int} {q : Int} {uu : Int} {w : World}   :
  Calls Try.prog 27 #[.agg #[.int .i64 kd, .int .i64 a, .int .i64 b, .int .i64 f, .int .i64 p, .int .i64 q, .int .u64 uu]] w fun e w' => e = .returned (.int .i64 (opE (⟨kd, a, b, f, p, q, uu⟩ : OpC))) ∧ St w NoX [] w' := by
 refine calls_in 37 Try.func27 V V (by simp) (fun A0 hsz0 hdf0 hargs => ?_)
 have l0_0 := hargs 0 (.agg #[.int .i64 kd, .int .i64 a, .int .i64 b, .int .i64 f, .int .i64 p, .int .i64 q, .int .u64 uu]) V
 clear hargs; replace hsz0 : SzN A0 37 := ⟨hsz0⟩
 have hS := St.nil w
 refine wp_seq_k fun K1 H1 => region_in ?_
 refine W_boxS (zs := #[.int .i64 (kd), .int .i64 (a), .int .i64 (b), .int .i64 (f), .int .i64 (p), .int .i64 (q), .int .u64 (uu)]) hS V V V l0_0 (by rfl) (fun g2 w2 c2 hc2 S2 => ?_)
 replace S2 : St w NoX [c2] w2 := S2
 refine W_v V V (V_asg V V) ?_
 refine W_end (gen_Q fun A3 E3 => ?_)
 have hsz3 := szq E3
 have F3 := fsE E3 (cq1 (ck (FS.n hdf0) V V) V)
 clear E3 hsz0 hdf0 l0_0
 refine tk H1 (wp_seq_k fun K4 H4 => ?_)
 refine wp_seq_k fun K5 H5 => region_in ?_
 refine W_v V V (V_fa (off' := 0) V (fg0 F3) Try.underlying42 V (by decide +kernel) V) ?_
 refine W_r V V (xlC (v := .int .i64 (kd)) V (et V) (S2.obj 0 V hc2) Try.underlying3) ?_
 refine W_v V V (V_lss V (et V) V) ?_
 refine W_split V V (V_mov V (et V)) (fun c6 => ?_) (fun c6 => ?_)
 ·refine xof V V V (et V) (xof V V V (es V (et V)) (xof V V V (es2 V (et V)) ?_))
  refine W_v V V (V_pickT V (es3 V (et V)) V) ?_
  refine W_end (gen_Q fun A7 E7 => ?_)
  have hsz7 := szq E7
  have F7 := fsE E7 (ck (cq7 F3 V) V V)
  clear E7 hsz3 F3
  refine tk H5 ?_
  refine cond_t (fg0 F7) ?_
  refine wp_seq_k fun K8 H8 => region_in ?_
  refine W_v V V (V_asg V V) ?_
  refine W_end (gen_Q fun A9 E9 => ?_)
  have hsz9 := szq E9
  have F9 := fsE E9 (ck F7 V V)
  clear E9 hsz7 F7
  have S10 : St w NoX [] w2 := S2.sel [] (by decide) V
  refine tk H8 (wp_ret (then_ret ?_))
  refine ret_in (results_1 Try.results27 (rv_tmp (fg0 F9))) F9.d ?_
  have h : (opE (⟨kd, a, b, f, p, q, uu⟩ : OpC)) = 2 := op_kd (by simp only; omega)
  rw [h]
  exact ⟨rfl, S10.fin0⟩
 refine W_v V (xwt V V (et V)) (V_fa (off' := 0) V (es4 V (fg0 F3)) Try.underlying42 V (by decide +kernel) V) ?_
 refine W_r V (xwt V V (es V (et V))) (xlC (v := .int .i64 (kd)) V (et V) (S2.obj 0 V hc2) Try.underlying3) ?_
 refine W_v V (xwt V V (es2 V (et V))) (V_gtr V (et V) V) ?_
 refine W_v V V (V_pickF V (es3 V (et V)) (et V)) ?_
 refine W_end (gen_Q fun A11 E11 => ?_)
 have hsz11 := szq E11
 have F11 := fsE E11 (ck (cq7 F3 V) V V)
 clear E11 hsz3 F3
 refine tk H5 ?_
 refine cond_dec (fg0 F11) (fun c12 => ?_) (fun c12 => ?_)
 ·refine wp_seq_k fun K13 H13 => region_in ?_
  refine W_v V V (V_asg V V) ?_
  refine W_end (gen_Q fun A14 E14 => ?_)
  have hsz14 := szq E14
  have F14 := fsE E14 (ck F11 V V)
  clear E14 hsz11 F11
  have S15 : St w NoX [] w2 := S2.sel [] (by decide) V
  refine tk H13 (wp_ret (then_ret ?_))
  refine ret_in (results_1 Try.results27 (rv_tmp (fg0 F14))) F14.d ?_
  have h : (opE (⟨kd, a, b, f, p, q, uu⟩ : OpC)) = 2 := op_kd (by simp only; omega)
  rw [h]
  exact ⟨rfl, S15.fin0⟩
 refine wp_skip ?_
 refine tk H4 (wp_seq_k fun K16 H16 => region_in ?_)
 refine W_r V V (VR_ldA V (fg1 F11) (S2.obj 0 V hc2) Try.underlying42 V (by kernel_rfl)) ?_
 refine W_allocS (z := .agg #[.int .i64 0, .int .i64 0, .int .i64 0, .int .i64 0, .int .i64 0, .int .i64 0, .int .u64 0]) (zs := #[.int .i64 0, .int .i64 0, .int .i64 0, .int .i64 0, .int .i64 0, .int .i64 0, .int .u64 0]) S2 V V V (by kernel_rfl) (by rfl) (fun g17 w17 c17 hc17 S17 => ?_)
 replace S17 : St w NoX [c17, c2] w17 := S17
 refine W_allocS (z := .int .i64 0) (zs := #[.int .i64 0]) S17 V V V (by kernel_rfl) (by rfl) (fun g18 w18 c18 hc18 S18 => ?_)
 replace S18 : St w NoX [c18, c17, c2] w18 := S18
 refine xsA 1 S18 V hc17 V V V (es V (et V)) (es2 V (et V)) (fun w19 c19 hc19 S19 => ?_)
 replace S19 : St w NoX [c18, c19, c2] w19 := S19
 refine xsC (zs' := #[.int .i64 0]) 0 S19 V hc18 V V V (et V) V (by rfl) (fun w20 c20 hc20 S20 => ?_)
 replace S20 : St w NoX [c20, c19, c2] w20 := S20
 refine W_end (gen_Q fun A21 E21 => ?_)
 have hsz21 := szq E21
 have F21 := fsE E21 (ck (ck (cq1 F11 V) V V) V V)
 clear E21 hsz11 F11
 refine tk H16 (wp_seq_k fun K22 H22 => region_in ?_)
 refine W_v V V (V_fa (off' := 0) V (fg1 F21) Try.underlying42 V (by decide +kernel) V) ?_
 refine xsC (zs' := #[.int .i64 0, .int .i64 (a), .int .i64 (b), .int .i64 (f), .int .i64 (p), .int .i64 (q), .int .u64 (uu)]) 1 S20 V hc19 V V V (et V) V (by rfl) (fun w23 c23 hc23 S23 => ?_)
 replace S23 : St w NoX [c20, c23, c2] w23 := S23
 refine W_end (gen_Q fun A24 E24 => ?_)
 have hsz24 := szq E24
 have F24 := fsE E24 (cq1 F21 V)
 clear E24 hsz21 F21
 refine tk H22 (wp_seq_k fun K25 H25 => region_in ?_)
 refine W_v V V (V_mkf V (args0) (args2 (fg1 F24) (fg0 F24))) ?_
 refine W_v V V (V_asg V (et V)) ?_
 refine W_end (gen_Q fun A26 E26 => ?_)
 have hsz26 := szq E26
 have F26 := fsE E26 (ck (cq1 F24 V) V V)
 clear E26 hsz24 F24
 refine tk H25 (wp_seq_k fun K27 H27 => ?_)
 refine wp_seq_k fun K28 H28 => ?_
 refine region_monoS 7 7 [some (SPv [] (fun _ => fun u l' => ∃ v1_s v2_s v3_s v4_s v5_s v6_s v7_s v8_s v9_s v10_s, u = .agg #[stv [], .slice none 0 0, stv [97, 108, 108, 111, 99], v1_s, stv [108, 111, 97, 100], v2_s, stv [115, 116, 111, 114, 101], v3_s, stv [114, 101, 97, 100], v4_s, stv [119, 114, 105, 116, 101], v5_s, stv [109, 111, 118, 101], v6_s, stv [99, 108, 101, 97, 114], v7_s, stv [115, 97, 109, 101], v8_s, stv [110, 105, 108], v9_s, stv [115, 105, 122, 101], v10_s, stv [99, 111, 108, 108, 101, 99, 116], .slice none 0 0] ∧ ∃ cT_s, cT_s = nsi (List.map (fun y : TR => y.2) ([([], (Value.slice none 0 0, [])), ([97, 108, 108, 111, 99], (v1_s, [1, 4, 5])), ([108, 111, 97, 100], (v2_s, [1, 2, 3])), ([115, 116, 111, 114, 101], (v3_s, [1, 3, 2])), ([114, 101, 97, 100], (v4_s, [1, 3])), ([119, 114, 105, 116, 101], (v5_s, [1, 3, 6])), ([109, 111, 118, 101], (v6_s, [1, 2])), ([99, 108, 101, 97, 114], (v7_s, [1])), ([115, 97, 109, 101], (v8_s, [1, 2])), ([110, 105, 108], (v9_s, [1])), ([115, 105, 122, 101], (v10_s, [1])), ([99, 111, 108, 108, 101, 99, 116], (Value.slice none 0 0, []))] : List TR)) ∧ l' = [cT_s]) 0)] (by kernel_rfl) (by kernel_rfl) ?_
 refine D_call (ts := []) (vs := []) (C0 := fun _ => fun u l' => ∃ v1_s v2_s v3_s v4_s v5_s v6_s v7_s v8_s v9_s v10_s, u = .agg #[stv [], .slice none 0 0, stv [97, 108, 108, 111, 99], v1_s, stv [108, 111, 97, 100], v2_s, stv [115, 116, 111, 114, 101], v3_s, stv [114, 101, 97, 100], v4_s, stv [119, 114, 105, 116, 101], v5_s, stv [109, 111, 118, 101], v6_s, stv [99, 108, 101, 97, 114], v7_s, stv [115, 97, 109, 101], v8_s, stv [110, 105, 108], v9_s, stv [115, 105, 122, 101], v10_s, stv [99, 111, 108, 108, 101, 99, 116], .slice none 0 0] ∧ ∃ cT_s, cT_s = nsi (List.map (fun y : TR => y.2) ([([], (Value.slice none 0 0, [])), ([97, 108, 108, 111, 99], (v1_s, [1, 4, 5])), ([108, 111, 97, 100], (v2_s, [1, 2, 3])), ([115, 116, 111, 114, 101], (v3_s, [1, 3, 2])), ([114, 101, 97, 100], (v4_s, [1, 3])), ([119, 114, 105, 116, 101], (v5_s, [1, 3, 6])), ([109, 111, 118, 101], (v6_s, [1, 2])), ([99, 108, 101, 97, 114], (v7_s, [1])), ([115, 97, 109, 101], (v8_s, [1, 2])), ([110, 105, 108], (v9_s, [1])), ([115, 105, 122, 101], (v10_s, [1])), ([99, 111, 108, 108, 101, 99, 116], (Value.slice none 0 0, []))] : List TR)) ∧ l' = [cT_s]) (C := fun u l' => ∃ v1_s v2_s v3_s v4_s v5_s v6_s v7_s v8_s v9_s v10_s, u = .agg #[stv [], .slice none 0 0, stv [97, 108, 108, 111, 99], v1_s, stv [108, 111, 97, 100], v2_s, stv [115, 116, 111, 114, 101], v3_s, stv [114, 101, 97, 100], v4_s, stv [119, 114, 105, 116, 101], v5_s, stv [109, 111, 118, 101], v6_s, stv [99, 108, 101, 97, 114], v7_s, stv [115, 97, 109, 101], v8_s, stv [110, 105, 108], v9_s, stv [115, 105, 122, 101], v10_s, stv [99, 111, 108, 108, 101, 99, 116], .slice none 0 0] ∧ ∃ cT_s, cT_s = nsi (List.map (fun y : TR => y.2) ([([], (Value.slice none 0 0, [])), ([97, 108, 108, 111, 99], (v1_s, [1, 4, 5])), ([108, 111, 97, 100], (v2_s, [1, 2, 3])), ([115, 116, 111, 114, 101], (v3_s, [1, 3, 2])), ([114, 101, 97, 100], (v4_s, [1, 3])), ([119, 114, 105, 116, 101], (v5_s, [1, 3, 6])), ([109, 111, 118, 101], (v6_s, [1, 2])), ([99, 108, 101, 97, 114], (v7_s, [1])), ([115, 97, 109, 101], (v8_s, [1, 2])), ([110, 105, 108], (v9_s, [1])), ([115, 105, 122, 101], (v10_s, [1])), ([99, 111, 108, 108, 101, 99, 116], (Value.slice none 0 0, []))] : List TR)) ∧ l' = [cT_s]) V V V Try.func46 (by kernel_rfl) V (args0) V V V V (fun sx hx hF => ?_) (fun u29 l29 hu29 => ?_)
 ·refine (ktab_c  ).mono ?_
  rintro _ _ ⟨v1_29, v2_29, v3_29, v4_29, v5_29, v6_29, v7_29, v8_29, v9_29, v10_29, rfl, hz⟩
  exact ⟨_, rfl, _, ⟨_, _, _, _, _, _, _, _, _, _, rfl, _, rfl, rfl⟩, hz⟩
 obtain ⟨v1_29, v2_29, v3_29, v4_29, v5_29, v6_29, v7_29, v8_29, v9_29, v10_29, rfl, cT_29, hcT_29, hl29⟩ := hu29
 refine D_v V V (V_fa (off' := 0) V (es V (fg4 F26)) Try.underlying42 V (by decide +kernel) V) V V ?_
 refine D_r V V (by kernel_rfl) (fun sx hx hF => (VR_ldC V (et V) (cell_box (v := .int .i64 (kd)) ((S23.grow hx).obj 2 V hc2) V) Try.underlying3 V)) V V ?_
 obtain ⟨y30, hy30⟩ := get_some (xs := ([([], (Value.slice none 0 0, [])), ([97, 108, 108, 111, 99], (v1_29, [1, 4, 5])), ([108, 111, 97, 100], (v2_29, [1, 2, 3])), ([115, 116, 111, 114, 101], (v3_29, [1, 3, 2])), ([114, 101, 97, 100], (v4_29, [1, 3])), ([119, 114, 105, 116, 101], (v5_29, [1, 3, 6])), ([109, 111, 118, 101], (v6_29, [1, 2])), ([99, 108, 101, 97, 114], (v7_29, [1])), ([115, 97, 109, 101], (v8_29, [1, 2])), ([110, 105, 108], (v9_29, [1])), ([115, 105, 122, 101], (v10_29, [1])), ([99, 111, 108, 108, 101, 99, 116], (Value.slice none 0 0, []))] : List TR)) (k := kd.toNat) (by simp only [List.length_cons, List.length_nil]; omega)
 have hfd30 := tr_fd V hy30
 have hfl30 := fdG_le kd
 rw [← hfd30] at hfl30
 refine D_v V V (V_ixvR trC_len kd.toNat V (es2 V (et V)) (et V) (by omega) Try.underlying102 V hy30 Try.underlying101 V (by kernel_rfl)) V V ?_
 refine D_v V V (V_fld (v := y30.2.1) V (et V) Try.underlying101 V Try.underlying25 V V) V V ?_
 refine D_r V V (by kernel_rfl) (fun sx hx hF => by obtain ⟨ll29, ws29, we29, ⟨v1_29q, v2_29q, v3_29q, v4_29q, v5_29q, v6_29q, v7_29q, v8_29q, v9_29q, v10_29q, hq29, cT_29_, hcT_29_, hl29_⟩, hm29, k29, e29⟩ := L.ancF_get hF (by kernel_rfl); cases hq29; subst hl29_; exact (V_lenS V (et V) (sl_SlN (tr_at hy30 ((k29.grow e29).chq 0 V hcT_29_))) Try.underlying25 sx.1)) V V ?_
 refine D_v V V (V_mov V V) V V ?_
 refine ZS_none S23 (Nat.le_refl _) (Nat.le_refl _) (fun s31 hJ31 hL31 hF31 => ?_)
 obtain ⟨ll29, ws29, we29, ⟨v1_29q, v2_29q, v3_29q, v4_29q, v5_29q, v6_29q, v7_29q, v8_29q, v9_29q, v10_29q, hq29, cT_29r, hcT_29r, hl29r⟩, hm29, k29, e29⟩ := L.all_get hF31; cases hq29; subst hl29r
 replace hJ31 := hJ31.add hL31 (i := 0) V hm29 k29 e29
 have S31 := hJ31.st; clear hF31 hJ31 hL31
 generalize s31.1 = w31 at *
 replace S31 : St w NoX [cT_29r, c20, c23, c2] w31 := S31
 refine gen_Q (fun A32 E32 => ?_)
 have hsz32 := szq E32
 have F32 := fsE E32 (ck (ck (ck (cq4 F26 V) V V) V V) V V)
 clear E32 hsz26 F26
 have S33 : St w NoX [cT_29r, c20, c23] w31 := S31.sel [0, 1, 2] (by decide) V
 refine tk H28 (wp_block ?_)
 -- loop 7
 refine loopX (fun mz A' w' => SzN A' 37 ∧ A'.defers = [] ∧ (∃ (j : Nat) (za : Int) (zb : Int) (zf : Int) (zp : Int) (zq : Int) (zu : Int) (er : Int), (mz = y30.2.2.length - j) ∧ (j ≤ y30.2.2.length) ∧ (tkG (y30.2.2.drop j) (⟨0, za, zb, zf, zp, zq, zu⟩, er) = tkG y30.2.2 (⟨0, a, b, f, p, q, uu⟩, 0)) ∧ (EV A' (.tmp 25) = .int .i64 (j : Int)) ∧ (EV A' (.tmp 3) = EV A32 (.tmp 3)) ∧ (EV A' (.tmp 4) = EV A32 (.tmp 4)) ∧ (EV A' (.tmp 5) = EV A32 (.tmp 5)) ∧ (EV A' (.tmp 23) = EV A32 (.tmp 23)) ∧ (EV A' (.tmp 24) = EV A32 (.tmp 24)) ∧ (St w NoX [nsi (List.map (fun y : TR => y.2) ([([], (Value.slice none 0 0, [])), ([97, 108, 108, 111, 99], (v1_29, [1, 4, 5])), ([108, 111, 97, 100], (v2_29, [1, 2, 3])), ([115, 116, 111, 114, 101], (v3_29, [1, 3, 2])), ([114, 101, 97, 100], (v4_29, [1, 3])), ([119, 114, 105, 116, 101], (v5_29, [1, 3, 6])), ([109, 111, 118, 101], (v6_29, [1, 2])), ([99, 108, 101, 97, 114], (v7_29, [1])), ([115, 97, 109, 101], (v8_29, [1, 2])), ([110, 105, 108], (v9_29, [1])), ([115, 105, 122, 101], (v10_29, [1])), ([99, 111, 108, 108, 101, 99, 116], (Value.slice none 0 0, []))] : List TR)), bx g18 28 #[.int .i64 (er)], bx g17 42 #[.int .i64 0, .int .i64 (za), .int .i64 (zb), .int .i64 (zf), .int .i64 (zp), .int .i64 (zq), .int .u64 (zu)]] w'))) (y30.2.2.length - 0) ⟨hsz32, F32.d, 0, a, b, f, p, q, uu, 0, rfl, (by omega), rfl, (((fg0 F32)).trans (by first | rfl | (simp; done) | (congr 1; omega))), rfl, rfl, rfl, rfl, rfl, (by subst hcT_29r hc20 hc23; exact S33)⟩ ?_
 clear S33 hcT_29r hc20 hc23
 rintro n34 A34 w34 ⟨hsz34, hdf34, j, za, zb, zf, zp, zq, zu, er, hm34, hj, hT, l25_34, u3_34, u4_34, u5_34, u23_34, u24_34, S34⟩
 have l3_34 := u3_34.trans (fg5 F32)
 have l4_34 := u4_34.trans (fg4 F32)
 have l5_34 := u5_34.trans (fg3 F32)
 have l23_34 := u23_34.trans (fg2 F32)
 have l24_34 := u24_34.trans (fg1 F32)
 obtain ⟨cT_29r_34, c20_34, c23_34, hcT_29r_34, hc20_34, hc23_34, S34⟩ := gen3 S34
 refine wp_seq_k fun K35 H35 => region_in ?_
 refine W_v V V (V_lss V l25_34 l24_34) ?_
 refine W_end (gen_Q fun A36 E36 => ?_)
 have hsz36 := szq E36
 have F36 := ((((((fsE E36 (ck (FS.n hdf34) V V)).c (lookE E36 3 (es V l3_34))).c (lookE E36 4 (es V l4_34))).c (lookE E36 5 (es V l5_34))).c (lookE E36 23 (es V l23_34))).c (lookE E36 24 (es V l24_34))).c (lookE E36 25 (es V l25_34))
 clear E36 hsz34 hdf34 l25_34 l3_34 l4_34 l5_34 l23_34 l24_34
 refine tk H35 (wp_seq_k fun K37 H37 => ?_)
 refine cond_dec (fg6 F36) (fun c38 => ?_) (fun c38 => ?_)
 ·refine wp_skip ?_
  refine tk H37 (wp_seq_k fun K39 H39 => ?_)
  refine wp_block ?_
  refine wp_seq_k fun K40 H40 => region_in ?_
  have k41 : j < y30.2.2.length := by first | omega | (simp only [List.length_cons, List.length_nil]; omega) | (simp only [List.length_set]; omega) | decide
  obtain ⟨y41, hy41⟩ := get_some (xs := y30.2.2) (k := j) k41
  have hwr41 := fdG_rng (k := kd) (j := j) (by rw [← hfd30]; exact hy41)
  obtain ⟨B41, O41, C41, hv41⟩ := (SlN.blk (sl_SlN (tr_at hy30 (S34.chq 0 rfl hcT_29r_34))) (by first | omega | (simp only [List.length_cons, List.length_nil]; omega) | (simp only [List.length_set]; omega) | decide))
  refine W_v V V (V_ixS (off := O41 + j) 1 (j) V (fg2 F36) (fg0 F36) hv41 (by omega) k41 Try.underlying25 (by kernel_rfl) (congrArg _ (Nat.mul_one _))) ?_
  refine W_r V V (VR_ldC V (et V) ((sl_SlN (tr_at hy30 (S34.chq 0 V hcT_29r_34))).cell hv41 (map_get hy41)) Try.underlying3 V) ?_
  refine W_v V V (V_asg V (et V)) ?_
  refine W_end (gen_Q fun A42 E42 => ?_)
  have hsz42 := szq E42
  have F42 := fsE E42 (ck (cq2 F36 V) V V)
  clear E42 hsz36 F36
  refine tk H40 ?_
  refine region_in ?_
  refine W_v V V (V_mov V (fg4 F42)) (W_v V V (V_mov V (es V (fg0 F42))) ?_)
  have S43 := S34.sel [2, 1, 0] (by decide) (l' := [c23_34, c20_34, cT_29r_34]) V
  replace S43 : St w NoX [c23_34, c20_34, cT_29r_34] w34 := S43
  obtain ⟨Y44, hP44, hR44, hF44, hB44⟩ := St.call (pre := [c23_34, c20_34]) (fr := [cT_29r_34]) S43
  rw [hc23_34, hc20_34] at hP44
  refine W_callV V V V (es V (et V)) Try.func44 (by kernel_rfl) V (args1 (et V)) (ktk_c (wt := y41)  hP44 (by first | with_reducible assumption | omega)) ?_
  rintro _ w45 ⟨rfl, hP45⟩
  refine ⟨_, rfl, ?_⟩
  obtain ⟨cB_45, cE_45, hcB_45, hcE_45, hP45⟩ := gen2 hP45
  have S45 := hB44 _ _ hP45
  replace S45 : St w NoX [cB_45, cE_45, cT_29r_34] w45 := S45
  refine W_end (gen_Q fun A46 E46 => ?_)
  have hsz46 := szq E46
  have F46 := fsE E46 (cq3 F42 V)
  clear E46 hsz42 F42
  refine inb_n (tk H39 ?_)
  refine region_in ?_
  refine W_v V V (V_add V (fg1 F46) V (by omega) (by omega)) ?_
  refine W_v V V (V_mov V (et V)) ?_
  refine W_end (gen_Q fun A47 E47 => ?_)
  have hsz47 := szq E47
  have F47 := fsE E47 (ck (cq1 (fx1 F46) V) V V)
  clear E47 hsz46 F46
  have S48 : St w NoX [cT_29r_34, cE_45, cB_45] w45 := S45.sel [2, 1, 0] (by decide) V
  refine then_n ⟨y30.2.2.length - (j + 1), by simp only [hm34]; omega, hsz47, F47.d, (j + 1), (if (y41 : Int) = 1 then 0 else za), (if (y41 : Int) = 2 then 0 else zb), (if (y41 : Int) = 3 then 0 else zf), (if (y41 : Int) = 4 then 0 else zp), (if (y41 : Int) = 5 then 0 else zq), (if (y41 : Int) = 6 then 0 else zu), (if ((y41 : Int) = 1 ∧ badN za) ∨ ((y41 : Int) = 2 ∧ badN zb) ∨ ((y41 : Int) = 3 ∧ badN zf) ∨ ((y41 : Int) = 4 ∧ badN zp) ∨ ((y41 : Int) = 5 ∧ badN zq) then 7 else er), rfl, (by omega), (tkG_step hT hy41), (((fg0 F47)).trans (by first | rfl | (simp; done) | (congr 1; omega))), (((fg6 F47)).trans (fg5 F32).symm), (((fg5 F47)).trans (fg4 F32).symm), (((fg4 F47)).trans (fg3 F32).symm), (((fg3 F47)).trans (fg2 F32).symm), (((fg2 F47)).trans (fg1 F32).symm), (by subst hcT_29r_34 hcE_45 hcB_45; exact S48)⟩
 refine wp_exit (then_exit (then_exit ?_))
 refine inb_hit ?_
 refine tk H27 (wp_seq_k fun K49 H49 => ?_)
 refine wp_seq_k fun K50 H50 => region_in ?_
 refine W_r V V (VR_ldA V (fg5 F36) (S34.obj 2 V hc23_34) Try.underlying42 V (by kernel_rfl)) ?_
 refine W_v V V (xbS (n := 7) (z := .agg #[.int .i64 0, .int .i64 0, .int .i64 0, .int .i64 0, .int .i64 0, .int .i64 0, .int .u64 0]) V (parts0)) ?_
 refine W_v V V (V_neSt7 V (es V (et V)) (et V) (by kernel_rfl)) ?_
 refine W_end (gen_Q fun A51 E51 => ?_)
 have hsz51 := szq E51
 have F51 := fsE E51 (ck (cq2 F36 V) V V)
 clear E51 hsz36 F36
 have S52 : St w NoX [c20_34] w34 := S34.sel [1] (by decide) V
 refine tk H50 ?_
 refine cond_dec (fg0 F51) (fun c53 => ?_) (fun c53 => ?_)
 ·refine wp_seq_k fun K54 H54 => region_in ?_
  refine W_v V V (V_asg V V) ?_
  refine W_end (gen_Q fun A55 E55 => ?_)
  have hsz55 := szq E55
  have F55 := fsE E55 (ck F51 V V)
  clear E55 hsz51 F51
  have S56 : St w NoX [] w34 := S52.sel [] (by decide) V
  refine tk H54 (wp_ret (then_ret ?_))
  refine ret_in (results_1 Try.results27 (rv_tmp (fg0 F55))) F55.d ?_
  have hR := tkG_end hT (by omega)
  rw [hfd30] at hR
  have h : (opE (⟨kd, a, b, f, p, q, uu⟩ : OpC)) = 2 := op_ne (c := (⟨kd, a, b, f, p, q, uu⟩ : OpC)) (by simp only; omega) hR (by omega)
  rw [h]
  exact ⟨rfl, S56.fin0⟩
 refine wp_skip ?_
 refine tk H49 (wp_seq_k fun K57 H57 => region_in ?_)
 refine W_r V V (xlC (v := .int .i64 (er)) V (fg5 F51) (S52.obj 0 V hc20_34) Try.underlying28) ?_
 refine W_v V V (V_asg V (et V)) ?_
 refine W_end (gen_Q fun A58 E58 => ?_)
 have hsz58 := szq E58
 have F58 := fsE E58 (ck (cq1 F51 V) V V)
 clear E58 hsz51 F51
 have S59 : St w NoX [] w34 := S52.sel [] (by decide) V
 refine tk H57 (wp_ret ?_)
 refine ret_in (results_1 Try.results27 (rv_tmp (fg0 F58))) F58.d ?_
 have hR := tkG_end hT (by omega)
 rw [hfd30] at hR
 have h : (opE (⟨kd, a, b, f, p, q, uu⟩ : OpC)) = er := op_ok (c := (⟨kd, a, b, f, p, q, uu⟩ : OpC)) (by simp only; omega) hR (by omega)
 rw [h]
 exact ⟨rfl, S59.fin0⟩

set_option maxHeartbeats 4000000 in
theorem kan_c {kd : Int} {a : Int} {b : Int} {f : Int} {p : Int} {q : Int} {uu : Int} {er : Int} {ti : Bool} {v : Int} {w : World}  (hvr : 0 ≤ v ∧ v ≤ 18446744073709551615) :
  Calls Try.prog 33 #[.agg #[.int .i64 kd, .int .i64 a, .int .i64 b, .int .i64 f, .int .i64 p, .int .i64 q, .int .u64 uu], .agg #[.int .i64 er, .bool ti, .int .u64 v]] w fun e w' => e = .returned (.int .i64 (anE (⟨kd, a, b, f, p, q, uu⟩ : OpC) (⟨er, ti, v⟩ : AnC))) ∧ St w NoX [] w' := by
 refine calls_in 54 Try.func33 V V (by simp) (fun A0 Y0 hdf0 hargs => ?_)
 have l0_0 := hargs 0 (.agg #[.int .i64 kd, .int .i64 a, .int .i64 b, .int .i64 f, .int .i64 p, .int .i64 q, .int .u64 uu]) V
 have l1_0 := hargs 1 (.agg #[.int .i64 er, .bool ti, .int .u64 v]) V
 clear hargs; replace Y0 : SzN A0 54 := ⟨Y0⟩
 have hS := St.nil w
 refine wp_seq_k fun K1 H1 => region_in ?_
 refine W_boxS (zs := #[.int .i64 (kd), .int .i64 (a), .int .i64 (b), .int .i64 (f), .int .i64 (p), .int .i64 (q), .int .u64 (uu)]) hS V V V l0_0 (by rfl) (fun g2 w2 c2 hc2 S2 => ?_)
 replace S2 : St w NoX [c2] w2 := S2
 refine W_boxS (zs := #[.int .i64 (er), .bool (ti), .int .u64 (v)]) S2 V V V (es V l1_0) (by rfl) (fun g3 w3 c3 hc3 S3 => ?_)
 replace S3 : St w NoX [c3, c2] w3 := S3
 refine W_v V V (V_asg V V) ?_
 refine W_end (gen_Q fun A4 E4 => ?_)
 have Y4 := szq E4
 have F4 := fsE E4 (cq1 (ck (ck (FS.n hdf0) V V) V V) V)
 clear E4 Y0 hdf0 l0_0 l1_0
 refine tk H1 (wp_seq_k fun K5 H5 => ?_)
 refine wp_seq_k fun K6 H6 => region_in ?_
 refine W_r V V (VR_ldA V (fg1 F4) (S3.obj 1 V hc2) Try.underlying42 V (by kernel_rfl)) ?_
 refine W_call V V V Try.func27 (by kernel_rfl) V (args1 (et V)) (kopc_c (kd := kd) (a := a) (b := b) (f := f) (p := p) (q := q) (uu := uu)  ) ?_
 rintro _ w7 ⟨rfl, hP7⟩
 refine ⟨_, rfl, ?_⟩
 have S7 := S3.join hP7
 replace S7 : St w NoX [c3, c2] w7 := S7
 refine W_v V V (V_asg V (et V)) ?_
 refine W_end (gen_Q fun A8 E8 => ?_)
 have Y8 := szq E8
 have F8 := fsE E8 (ck (cq2 F4 V) V V)
 clear E8 Y4 F4
 refine tk H6 (wp_seq_k fun K9 H9 => region_in ?_)
 refine W_v V V (V_mov V (fg0 F8)) ?_
 refine W_v V V (V_neq V (et V) V) ?_
 refine W_end (gen_Q fun A10 E10 => ?_)
 have Y10 := szq E10
 have F10 := fsE E10 (ck (cq1 F8 V) V V)
 clear E10 Y8 F8
 refine tk H9 ?_
 refine cond_dec (fg0 F10) (fun c11 => ?_) (fun c11 => ?_)
 ·refine wp_seq_k fun K12 H12 => region_in ?_
  refine W_v V V (V_mov V (fg1 F10)) (W_v V V (V_asg V (et V)) ?_)
  refine W_end (gen_Q fun A13 E13 => ?_)
  have Y13 := szq E13
  have F13 := fsE E13 (ck (cq1 F10 V) V V)
  clear E13 Y10 F10
  have S14 : St w NoX [] w7 := S7.sel [] (by decide) V
  refine tk H12 (wp_ret (then_ret ?_))
  refine ret_in (results_1 Try.results33 (rv_tmp (fg0 F13))) F13.d ?_
  have h : (anE (⟨kd, a, b, f, p, q, uu⟩ : OpC) (⟨er, ti, v⟩ : AnC)) = (opE (⟨kd, a, b, f, p, q, uu⟩ : OpC)) := an_op c11
  rw [h]
  exact ⟨rfl, S14.fin0⟩
 refine wp_skip ?_
 refine tk H5 (wp_seq_k fun K15 H15 => ?_)
 refine wp_seq_k fun K16 H16 => region_in ?_
 refine W_v V V (V_fa (off' := 0) V (fg2 F10) Try.underlying44 V (by decide +kernel) V) ?_
 refine W_r V V (xlC (v := .int .i64 (er)) V (et V) (S7.obj 0 V hc3) Try.underlying28) ?_
 refine W_v V V (V_lss V (et V) V) ?_
 refine W_split V V (V_mov V (et V)) (fun c17 => ?_) (fun c17 => ?_)
 ·refine xof V V V (et V) (xof V V V (es V (et V)) (xof V V V (es2 V (et V)) ?_))
  refine W_v V V (V_pickT V (es3 V (et V)) V) ?_
  refine W_end (gen_Q fun A18 E18 => ?_)
  have Y18 := szq E18
  have F18 := fsE E18 (ck (cq7 F10 V) V V)
  clear E18 Y10 F10
  refine tk H16 ?_
  refine cond_t (fg0 F18) ?_
  refine wp_seq_k fun K19 H19 => region_in ?_
  refine W_v V V (V_asg V V) ?_
  refine W_end (gen_Q fun A20 E20 => ?_)
  have Y20 := szq E20
  have F20 := fsE E20 (ck F18 V V)
  clear E20 Y18 F18
  have S21 : St w NoX [] w7 := S7.sel [] (by decide) V
  refine tk H19 (wp_ret (then_ret ?_))
  refine ret_in (results_1 Try.results33 (rv_tmp (fg0 F20))) F20.d ?_
  have h : (anE (⟨kd, a, b, f, p, q, uu⟩ : OpC) (⟨er, ti, v⟩ : AnC)) = 7 := an_rng c11 (by simp only; omega)
  rw [h]
  exact ⟨rfl, S21.fin0⟩
 refine W_v V (xwt V V (et V)) (V_fa (off' := 0) V (es4 V (fg2 F10)) Try.underlying44 V (by decide +kernel) V) ?_
 refine W_r V (xwt V V (es V (et V))) (xlC (v := .int .i64 (er)) V (et V) (S7.obj 0 V hc3) Try.underlying28) ?_
 refine W_v V (xwt V V (es2 V (et V))) (V_gtr V (et V) V) ?_
 refine W_v V V (V_pickF V (es3 V (et V)) (et V)) ?_
 refine W_end (gen_Q fun A22 E22 => ?_)
 have Y22 := szq E22
 have F22 := fsE E22 (ck (cq7 F10 V) V V)
 clear E22 Y10 F10
 refine tk H16 ?_
 refine cond_dec (fg0 F22) (fun c23 => ?_) (fun c23 => ?_)
 ·refine wp_seq_k fun K24 H24 => region_in ?_
  refine W_v V V (V_asg V V) ?_
  refine W_end (gen_Q fun A25 E25 => ?_)
  have Y25 := szq E25
  have F25 := fsE E25 (ck F22 V V)
  clear E25 Y22 F22
  have S26 : St w NoX [] w7 := S7.sel [] (by decide) V
  refine tk H24 (wp_ret (then_ret ?_))
  refine ret_in (results_1 Try.results33 (rv_tmp (fg0 F25))) F25.d ?_
  have h : (anE (⟨kd, a, b, f, p, q, uu⟩ : OpC) (⟨er, ti, v⟩ : AnC)) = 7 := an_rng c11 (by simp only; omega)
  rw [h]
  exact ⟨rfl, S26.fin0⟩
 refine wp_skip ?_
 refine tk H15 (wp_seq_k fun K27 H27 => region_in ?_)
 refine W_r V V (VR_ldA V (fg3 F22) (S7.obj 0 V hc3) Try.underlying44 V (by kernel_rfl)) ?_
 refine W_allocS (z := .agg #[.int .i64 0, .bool false, .int .u64 0]) (zs := #[.int .i64 0, .bool false, .int .u64 0]) S7 V V V (by kernel_rfl) (by rfl) (fun g28 w28 c28 hc28 S28 => ?_)
 replace S28 : St w NoX [c28, c3, c2] w28 := S28
 refine xsA 0 S28 V hc28 V V V (et V) (es V (et V)) (fun w29 c29 hc29 S29 => ?_)
 replace S29 : St w NoX [c29, c3, c2] w29 := S29
 refine W_end (gen_Q fun A30 E30 => ?_)
 have Y30 := szq E30
 have F30 := fsE E30 (ck (cq1 F22 V) V V)
 clear E30 Y22 F22
 refine tk H27 (wp_seq_k fun K31 H31 => region_in ?_)
 refine W_v V V (V_fa (off' := 0) V (fg0 F30) Try.underlying44 V (by decide +kernel) V) ?_
 refine xsC (zs' := #[.int .i64 0, .bool (ti), .int .u64 (v)]) 0 S29 V hc29 V V V (et V) V (by rfl) (fun w32 c32 hc32 S32 => ?_)
 replace S32 : St w NoX [c32, c3, c2] w32 := S32
 refine W_end (gen_Q fun A33 E33 => ?_)
 have Y33 := szq E33
 have F33 := fsE E33 (cq1 F30 V)
 clear E33 Y30 F30
 refine tk H31 (wp_seq_k fun K34 H34 => ?_)
 refine wp_seq_k fun K35 H35 => region_in ?_
 refine W_v V V (V_fa (off' := 0) V (fg4 F33) Try.underlying44 V (by decide +kernel) V) ?_
 refine W_r V V (xlC (v := .int .i64 (er)) V (et V) (S32.obj 1 V hc3) Try.underlying28) ?_
 refine W_v V V (V_eql V (et V) V) ?_
 refine W_end (gen_Q fun A36 E36 => ?_)
 have Y36 := szq E36
 have F36 := fsE E36 (ck (cq2 F33 V) V V)
 clear E36 Y33 F33
 refine tk H35 ?_
 refine cond_dec (fg0 F36) (fun c37 => ?_) (fun c37 => ?_)
 ·refine wp_seq_k fun K38 H38 => region_in ?_
  refine W_v V V (V_fa (off' := 0) V (fg6 F36) Try.underlying42 V (by decide +kernel) V) ?_
  refine W_r V V (xlC (v := .int .i64 (kd)) V (et V) (S32.obj 2 V hc2) Try.underlying3) ?_
  refine W_end (gen_Q fun A39 E39 => ?_)
  have Y39 := szq E39
  have F39 := fsE E39 (ck (cq1 F36 V) V V)
  clear E39 Y36 F36
  have S40 : St w NoX [c32, c3] w32 := S32.sel [0, 1] (by decide) V
  refine tk H38 (wp_block ?_)
  refine wp_seq_k fun K41 H41 => ?_
  refine wp_seq_k fun K42 H42 => region_in ?_
  refine W_v V V (V_eql V (fg0 F39) V) ?_
  refine W_v V V (V_asg V (et V)) ?_
  refine W_end (gen_Q fun A43 E43 => ?_)
  have Y43 := szq E43
  have F43 := fsE E43 (ck (cq1 F39 V) V V)
  clear E43 Y39 F39
  refine tk H42 ?_
  refine cond_dec (fg0 F43) (fun c44 => ?_) (fun c44 => ?_)
  ·refine wp_skip (tk H41 ?_)
   refine cond_sure (fg0 F43) (by first | (simp [c44]; done) | exact decide_eq_true (by omega) | exact decide_eq_false (by omega)) ?_
   refine region_in ?_
   refine W_v V V (V_fa (off' := 1) V (fg3 F43) Try.underlying44 V (by decide +kernel) V) ?_
   refine xsC (zs' := #[.int .i64 0, .bool false, .int .u64 (v)]) 0 S40 V hc32 V V V (et V) V (by rfl) (fun w45 c45 hc45 S45 => ?_)
   replace S45 : St w NoX [c45, c3] w45 := S45
   refine W_end (gen_Q fun A46 E46 => ?_)
   have Y46 := szq E46
   have F46 := fsE E46 (cq1 F43 V)
   clear E46 Y43 F43
   have S47 : St w NoX [c45] w45 := S45.sel [0] (by decide) V
   refine inb_n ?_
   refine tk H34 (wp_seq_k fun K48 H48 => ?_)
   refine wp_seq_k fun K49 H49 => region_in ?_
   refine W_r V V (VR_ldA V (fg3 F46) (S47.obj 0 V hc45) Try.underlying44 V (by kernel_rfl)) ?_
   refine W_v V V (xbS (n := 3) (z := .agg #[.int .i64 0, .bool false, .int .u64 0]) V (parts0)) ?_
   refine W_v V V (V_neStA V (es V (et V)) (et V) (by kernel_rfl)) ?_
   refine W_end (gen_Q fun A50 E50 => ?_)
   have Y50 := szq E50
   have F50 := fsE E50 (ck (cq2 F46 V) V V)
   clear E50 Y46 F46
   have S51 : St w NoX [] w45 := S47.sel [] (by decide) V
   refine tk H49 ?_
   refine cond_dec (fg0 F50) (fun c52 => ?_) (fun c52 => ?_)
   ·refine wp_seq_k fun K53 H53 => region_in ?_
    refine W_v V V (V_asg V V) ?_
    refine W_end (gen_Q fun A54 E54 => ?_)
    have Y54 := szq E54
    have F54 := fsE E54 (ck F50 V V)
    clear E54 Y50 F50
    refine tk H53 (wp_ret (then_ret ?_))
    refine ret_in (results_1 Try.results33 (rv_tmp (fg0 F54))) F54.d ?_
    have h : (anE (⟨kd, a, b, f, p, q, uu⟩ : OpC) (⟨er, ti, v⟩ : AnC)) = 2 := an_bad c11 (by simp only; omega) (by have hc := c52; unfold anX; rcases (by cases ti <;> simp : ti = true ∨ ti = false) with q | q <;> simp [q] at hc ⊢ <;> omega)
    rw [h]
    exact ⟨rfl, S51.fin0⟩
   refine wp_skip ?_
   refine tk H48 (wp_seq_k fun K55 H55 => region_in ?_)
   refine W_v V V (V_asg V V) ?_
   refine W_end (gen_Q fun A56 E56 => ?_)
   have Y56 := szq E56
   have F56 := fsE E56 (ck F50 V V)
   clear E56 Y50 F50
   refine tk H55 (wp_ret ?_)
   refine ret_in (results_1 Try.results33 (rv_tmp (fg0 F56))) F56.d ?_
   have h : (anE (⟨kd, a, b, f, p, q, uu⟩ : OpC) (⟨er, ti, v⟩ : AnC)) = 0 := an_ok c11 (by simp only; omega) (by have hc := c52; unfold anX; rcases (by cases ti <;> simp : ti = true ∨ ti = false) with q | q <;> simp [q] at hc ⊢ <;> omega)
   rw [h]
   exact ⟨rfl, S51.fin0⟩
  refine region_in ?_
  refine W_v V V (V_eql V (fg1 F43) V) ?_
  refine W_v V V (V_asg V (et V)) ?_
  refine W_end (gen_Q fun A57 E57 => ?_)
  have Y57 := szq E57
  have F57 := fsE E57 (ck (cq1 (fx0 F43) V) V V)
  clear E57 Y43 F43
  refine tk H41 ?_
  refine cond_dec (fg0 F57) (fun c58 => ?_) (fun c58 => ?_)
  ·refine region_in ?_
   refine W_v V V (V_fa (off' := 1) V (fg3 F57) Try.underlying44 V (by decide +kernel) V) ?_
   refine xsC (zs' := #[.int .i64 0, .bool false, .int .u64 (v)]) 0 S40 V hc32 V V V (et V) V (by rfl) (fun w59 c59 hc59 S59 => ?_)
   replace S59 : St w NoX [c59, c3] w59 := S59
   refine W_end (gen_Q fun A60 E60 => ?_)
   have Y60 := szq E60
   have F60 := fsE E60 (cq1 F57 V)
   clear E60 Y57 F57
   have S61 : St w NoX [c59] w59 := S59.sel [0] (by decide) V
   refine inb_n ?_
   refine tk H34 (wp_seq_k fun K62 H62 => ?_)
   refine wp_seq_k fun K63 H63 => region_in ?_
   refine W_r V V (VR_ldA V (fg3 F60) (S61.obj 0 V hc59) Try.underlying44 V (by kernel_rfl)) ?_
   refine W_v V V (xbS (n := 3) (z := .agg #[.int .i64 0, .bool false, .int .u64 0]) V (parts0)) ?_
   refine W_v V V (V_neStA V (es V (et V)) (et V) (by kernel_rfl)) ?_
   refine W_end (gen_Q fun A64 E64 => ?_)
   have Y64 := szq E64
   have F64 := fsE E64 (ck (cq2 F60 V) V V)
   clear E64 Y60 F60
   have S65 : St w NoX [] w59 := S61.sel [] (by decide) V
   refine tk H63 ?_
   refine cond_dec (fg0 F64) (fun c66 => ?_) (fun c66 => ?_)
   ·refine wp_seq_k fun K67 H67 => region_in ?_
    refine W_v V V (V_asg V V) ?_
    refine W_end (gen_Q fun A68 E68 => ?_)
    have Y68 := szq E68
    have F68 := fsE E68 (ck F64 V V)
    clear E68 Y64 F64
    refine tk H67 (wp_ret (then_ret ?_))
    refine ret_in (results_1 Try.results33 (rv_tmp (fg0 F68))) F68.d ?_
    have h : (anE (⟨kd, a, b, f, p, q, uu⟩ : OpC) (⟨er, ti, v⟩ : AnC)) = 2 := an_bad c11 (by simp only; omega) (by have hc := c66; unfold anX; rcases (by cases ti <;> simp : ti = true ∨ ti = false) with q | q <;> simp [q] at hc ⊢ <;> omega)
    rw [h]
    exact ⟨rfl, S65.fin0⟩
   refine wp_skip ?_
   refine tk H62 (wp_seq_k fun K69 H69 => region_in ?_)
   refine W_v V V (V_asg V V) ?_
   refine W_end (gen_Q fun A70 E70 => ?_)
   have Y70 := szq E70
   have F70 := fsE E70 (ck F64 V V)
   clear E70 Y64 F64
   refine tk H69 (wp_ret ?_)
   refine ret_in (results_1 Try.results33 (rv_tmp (fg0 F70))) F70.d ?_
   have h : (anE (⟨kd, a, b, f, p, q, uu⟩ : OpC) (⟨er, ti, v⟩ : AnC)) = 0 := an_ok c11 (by simp only; omega) (by have hc := c66; unfold anX; rcases (by cases ti <;> simp : ti = true ∨ ti = false) with q | q <;> simp [q] at hc ⊢ <;> omega)
   rw [h]
   exact ⟨rfl, S65.fin0⟩
  refine wp_seq_k fun K71 H71 => region_in ?_
  refine W_v V V (V_eql V (fg1 F57) V) ?_
  refine W_v V V (V_asg V (et V)) ?_
  refine W_end (gen_Q fun A72 E72 => ?_)
  have Y72 := szq E72
  have F72 := fsE E72 (ck (cq1 F57 V) V V)
  clear E72 Y57 F57
  refine tk H71 ?_
  refine cond_dec (fg0 F72) (fun c73 => ?_) (fun c73 => ?_)
  ·refine region_in ?_
   refine W_v V V (V_fa (off' := 2) V (fg4 F72) Try.underlying44 V (by decide +kernel) V) ?_
   refine xsC (zs' := #[.int .i64 0, .bool (ti), .int .u64 0]) 0 S40 V hc32 V V V (et V) V (by rfl) (fun w74 c74 hc74 S74 => ?_)
   replace S74 : St w NoX [c74, c3] w74 := S74
   refine W_end (gen_Q fun A75 E75 => ?_)
   have Y75 := szq E75
   have F75 := fsE E75 (cq1 F72 V)
   clear E75 Y72 F72
   have S76 : St w NoX [c74] w74 := S74.sel [0] (by decide) V
   refine inb_n ?_
   refine tk H34 (wp_seq_k fun K77 H77 => ?_)
   refine wp_seq_k fun K78 H78 => region_in ?_
   refine W_r V V (VR_ldA V (fg4 F75) (S76.obj 0 V hc74) Try.underlying44 V (by kernel_rfl)) ?_
   refine W_v V V (xbS (n := 3) (z := .agg #[.int .i64 0, .bool false, .int .u64 0]) V (parts0)) ?_
   refine W_v V V (V_neStA V (es V (et V)) (et V) (by kernel_rfl)) ?_
   refine W_end (gen_Q fun A79 E79 => ?_)
   have Y79 := szq E79
   have F79 := fsE E79 (ck (cq2 F75 V) V V)
   clear E79 Y75 F75
   have S80 : St w NoX [] w74 := S76.sel [] (by decide) V
   refine tk H78 ?_
   refine cond_dec (fg0 F79) (fun c81 => ?_) (fun c81 => ?_)
   ·refine wp_seq_k fun K82 H82 => region_in ?_
    refine W_v V V (V_asg V V) ?_
    refine W_end (gen_Q fun A83 E83 => ?_)
    have Y83 := szq E83
    have F83 := fsE E83 (ck F79 V V)
    clear E83 Y79 F79
    refine tk H82 (wp_ret (then_ret ?_))
    refine ret_in (results_1 Try.results33 (rv_tmp (fg0 F83))) F83.d ?_
    have h : (anE (⟨kd, a, b, f, p, q, uu⟩ : OpC) (⟨er, ti, v⟩ : AnC)) = 2 := an_bad c11 (by simp only; omega) (by have hc := c81; unfold anX; rcases (by cases ti <;> simp : ti = true ∨ ti = false) with q | q <;> simp [q] at hc ⊢ <;> omega)
    rw [h]
    exact ⟨rfl, S80.fin0⟩
   refine wp_skip ?_
   refine tk H77 (wp_seq_k fun K84 H84 => region_in ?_)
   refine W_v V V (V_asg V V) ?_
   refine W_end (gen_Q fun A85 E85 => ?_)
   have Y85 := szq E85
   have F85 := fsE E85 (ck F79 V V)
   clear E85 Y79 F79
   refine tk H84 (wp_ret ?_)
   refine ret_in (results_1 Try.results33 (rv_tmp (fg0 F85))) F85.d ?_
   have h : (anE (⟨kd, a, b, f, p, q, uu⟩ : OpC) (⟨er, ti, v⟩ : AnC)) = 0 := an_ok c11 (by simp only; omega) (by have hc := c81; unfold anX; rcases (by cases ti <;> simp : ti = true ∨ ti = false) with q | q <;> simp [q] at hc ⊢ <;> omega)
   rw [h]
   exact ⟨rfl, S80.fin0⟩
  refine wp_seq_k fun K86 H86 => region_in ?_
  refine W_v V V (V_eql V (fg2 F72) V) ?_
  refine W_v V V (V_asg V (et V)) ?_
  refine W_end (gen_Q fun A87 E87 => ?_)
  have Y87 := szq E87
  have F87 := fsE E87 (ck (cq1 F72 V) V V)
  clear E87 Y72 F72
  refine tk H86 ?_
  refine cond_dec (fg0 F87) (fun c88 => ?_) (fun c88 => ?_)
  ·refine wp_seq_k fun K89 H89 => ?_
   refine region_monoS 8 8 [] (by kernel_rfl) (by kernel_rfl) ?_
   refine D_v V V (V_fa (off' := 2) V (fg9 F87) Try.underlying44 V (by decide +kernel) V) V V ?_
   refine D_r V V (by kernel_rfl) (fun sx hx hF => (VR_ldC V (et V) (cell_box (v := .int .u64 (v)) ((S40.grow hx).obj 1 V hc3) V) Try.underlying40 V)) V V ?_
   refine D_v V V (V_quo V (et V) V (by omega) (by omega) (wrap_u64 (by omega) (by omega))) V V ?_
   refine D_v V V (V_fa (off' := 2) V (es3 V (fg9 F87)) Try.underlying44 V (by decide +kernel) V) V V ?_
   refine D_r V V (by kernel_rfl) (fun sx hx hF => (VR_ldC V (et V) (cell_box (v := .int .u64 (v)) ((S40.grow hx).obj 1 V hc3) V) Try.underlying40 V)) V V ?_
   refine D_v V V (V_rem V (et V) V (by omega) (by omega) (wrap_u64 (by omega) (by omega))) V V ?_
   refine D_v V V (V_asg V (es3 V (et V))) V V ?_
   refine D_v V V (V_asg V (es V (et V))) V V ?_
   refine ZS_none S40 (Nat.le_refl _) (Nat.le_refl _) (fun s90 hJ90 hL90 hF90 => ?_)
   have S90 := hJ90.st; clear hF90 hJ90 hL90
   generalize s90.1 = w90 at *
   replace S90 : St w NoX [c32, c3] w90 := S90
   refine gen_Q (fun A91 E91 => ?_)
   have Y91 := szq E91
   have F91 := fsE E91 (ck (ck (cq6 F87 V) V V) V V)
   clear E91 Y87 F87
   have S92 : St w NoX [c32] w90 := S90.sel [0] (by decide) V
   refine tk H89 (wp_seq_k fun K93 H93 => region_in ?_)
   refine W_v V V (V_mov V (fg1 F91)) ?_
   refine W_v V V (V_leq V (et V) V) ?_
   refine W_split V V (V_mov V (et V)) (fun c94 => ?_) (fun c94 => ?_)
   ·refine W_v V (xwt V V (et V)) (V_mov V (es3 V (fg0 F91))) ?_
    refine W_v V (xwt V V (es V (et V))) (V_leq V (et V) V) ?_
    refine W_v V V (V_pickT V (es2 V (et V)) (et V)) ?_
    refine W_end (gen_Q fun A95 E95 => ?_)
    have Y95 := szq E95
    have F95 := fsE E95 (ck (cq5 F91 V) V V)
    clear E95 Y91 F91
    refine tk H93 ?_
    refine cond_dec (fg0 F95) (fun c96 => ?_) (fun c96 => ?_)
    ·refine region_in ?_
     refine W_v V V (V_fa (off' := 2) V (fg8 F95) Try.underlying44 V (by decide +kernel) V) ?_
     refine xsC (zs' := #[.int .i64 0, .bool (ti), .int .u64 0]) 0 S92 V hc32 V V V (et V) V (by rfl) (fun w97 c97 hc97 S97 => ?_)
     replace S97 : St w NoX [c97] w97 := S97
     refine W_end (gen_Q fun A98 E98 => ?_)
     have Y98 := szq E98
     have F98 := fsE E98 (cq1 F95 V)
     clear E98 Y95 F95
     refine inb_n ?_
     refine tk H34 (wp_seq_k fun K99 H99 => ?_)
     refine wp_seq_k fun K100 H100 => region_in ?_
     refine W_r V V (VR_ldA V (fg8 F98) (S97.obj 0 V hc97) Try.underlying44 V (by kernel_rfl)) ?_
     refine W_v V V (xbS (n := 3) (z := .agg #[.int .i64 0, .bool false, .int .u64 0]) V (parts0)) ?_
     refine W_v V V (V_neStA V (es V (et V)) (et V) (by kernel_rfl)) ?_
     refine W_end (gen_Q fun A101 E101 => ?_)
     have Y101 := szq E101
     have F101 := fsE E101 (ck (cq2 F98 V) V V)
     clear E101 Y98 F98
     have S102 : St w NoX [] w97 := S97.sel [] (by decide) V
     refine tk H100 ?_
     refine cond_dec (fg0 F101) (fun c103 => ?_) (fun c103 => ?_)
     ·refine wp_seq_k fun K104 H104 => region_in ?_
      refine W_v V V (V_asg V V) ?_
      refine W_end (gen_Q fun A105 E105 => ?_)
      have Y105 := szq E105
      have F105 := fsE E105 (ck F101 V V)
      clear E105 Y101 F101
      refine tk H104 (wp_ret (then_ret ?_))
      refine ret_in (results_1 Try.results33 (rv_tmp (fg0 F105))) F105.d ?_
      have h : (anE (⟨kd, a, b, f, p, q, uu⟩ : OpC) (⟨er, ti, v⟩ : AnC)) = 2 := an_bad c11 (by simp only; omega) (by have hc := c103; unfold anX; rcases (by cases ti <;> simp : ti = true ∨ ti = false) with q | q <;> simp [q] at hc ⊢ <;> omega)
      rw [h]
      exact ⟨rfl, S102.fin0⟩
     refine wp_skip ?_
     refine tk H99 (wp_seq_k fun K106 H106 => region_in ?_)
     refine W_v V V (V_asg V V) ?_
     refine W_end (gen_Q fun A107 E107 => ?_)
     have Y107 := szq E107
     have F107 := fsE E107 (ck F101 V V)
     clear E107 Y101 F101
     refine tk H106 (wp_ret ?_)
     refine ret_in (results_1 Try.results33 (rv_tmp (fg0 F107))) F107.d ?_
     have h : (anE (⟨kd, a, b, f, p, q, uu⟩ : OpC) (⟨er, ti, v⟩ : AnC)) = 0 := an_ok c11 (by simp only; omega) (by have hc := c103; unfold anX; rcases (by cases ti <;> simp : ti = true ∨ ti = false) with q | q <;> simp [q] at hc ⊢ <;> omega)
     rw [h]
     exact ⟨rfl, S102.fin0⟩
    refine wp_skip (inb_n ?_)
    refine tk H34 (wp_seq_k fun K108 H108 => ?_)
    refine wp_seq_k fun K109 H109 => region_in ?_
    refine W_r V V (VR_ldA V (fg8 F95) (S92.obj 0 V hc32) Try.underlying44 V (by kernel_rfl)) ?_
    refine W_v V V (xbS (n := 3) (z := .agg #[.int .i64 0, .bool false, .int .u64 0]) V (parts0)) ?_
    refine W_v V V (V_neStA V (es V (et V)) (et V) (by kernel_rfl)) ?_
    refine W_end (gen_Q fun A110 E110 => ?_)
    have Y110 := szq E110
    have F110 := fsE E110 (ck (cq2 F95 V) V V)
    clear E110 Y95 F95
    have S111 : St w NoX [] w90 := S92.sel [] (by decide) V
    refine tk H109 ?_
    refine cond_dec (fg0 F110) (fun c112 => ?_) (fun c112 => ?_)
    ·refine wp_seq_k fun K113 H113 => region_in ?_
     refine W_v V V (V_asg V V) ?_
     refine W_end (gen_Q fun A114 E114 => ?_)
     have Y114 := szq E114
     have F114 := fsE E114 (ck F110 V V)
     clear E114 Y110 F110
     refine tk H113 (wp_ret (then_ret ?_))
     refine ret_in (results_1 Try.results33 (rv_tmp (fg0 F114))) F114.d ?_
     have h : (anE (⟨kd, a, b, f, p, q, uu⟩ : OpC) (⟨er, ti, v⟩ : AnC)) = 2 := an_bad c11 (by simp only; omega) (by have hc := c112; unfold anX; rcases (by cases ti <;> simp : ti = true ∨ ti = false) with q | q <;> simp [q] at hc ⊢ <;> omega)
     rw [h]
     exact ⟨rfl, S111.fin0⟩
    refine wp_skip ?_
    refine tk H108 (wp_seq_k fun K115 H115 => region_in ?_)
    refine W_v V V (V_asg V V) ?_
    refine W_end (gen_Q fun A116 E116 => ?_)
    have Y116 := szq E116
    have F116 := fsE E116 (ck F110 V V)
    clear E116 Y110 F110
    refine tk H115 (wp_ret ?_)
    refine ret_in (results_1 Try.results33 (rv_tmp (fg0 F116))) F116.d ?_
    have h : (anE (⟨kd, a, b, f, p, q, uu⟩ : OpC) (⟨er, ti, v⟩ : AnC)) = 0 := an_ok c11 (by simp only; omega) (by have hc := c112; unfold anX; rcases (by cases ti <;> simp : ti = true ∨ ti = false) with q | q <;> simp [q] at hc ⊢ <;> omega)
    rw [h]
    exact ⟨rfl, S111.fin0⟩
   refine xof V V V (et V) (xof V V V (es V (et V)) ?_)
   refine W_v V V (V_pickF V (es2 V (et V)) V) ?_
   refine W_end (gen_Q fun A117 E117 => ?_)
   have Y117 := szq E117
   have F117 := fsE E117 (ck (cq5 F91 V) V V)
   clear E117 Y91 F91
   refine tk H93 ?_
   refine cond_f (fg0 F117) ?_
   refine wp_skip (inb_n ?_)
   refine tk H34 (wp_seq_k fun K118 H118 => ?_)
   refine wp_seq_k fun K119 H119 => region_in ?_
   refine W_r V V (VR_ldA V (fg8 F117) (S92.obj 0 V hc32) Try.underlying44 V (by kernel_rfl)) ?_
   refine W_v V V (xbS (n := 3) (z := .agg #[.int .i64 0, .bool false, .int .u64 0]) V (parts0)) ?_
   refine W_v V V (V_neStA V (es V (et V)) (et V) (by kernel_rfl)) ?_
   refine W_end (gen_Q fun A120 E120 => ?_)
   have Y120 := szq E120
   have F120 := fsE E120 (ck (cq2 F117 V) V V)
   clear E120 Y117 F117
   have S121 : St w NoX [] w90 := S92.sel [] (by decide) V
   refine tk H119 ?_
   refine cond_dec (fg0 F120) (fun c122 => ?_) (fun c122 => ?_)
   ·refine wp_seq_k fun K123 H123 => region_in ?_
    refine W_v V V (V_asg V V) ?_
    refine W_end (gen_Q fun A124 E124 => ?_)
    have Y124 := szq E124
    have F124 := fsE E124 (ck F120 V V)
    clear E124 Y120 F120
    refine tk H123 (wp_ret (then_ret ?_))
    refine ret_in (results_1 Try.results33 (rv_tmp (fg0 F124))) F124.d ?_
    have h : (anE (⟨kd, a, b, f, p, q, uu⟩ : OpC) (⟨er, ti, v⟩ : AnC)) = 2 := an_bad c11 (by simp only; omega) (by have hc := c122; unfold anX; rcases (by cases ti <;> simp : ti = true ∨ ti = false) with q | q <;> simp [q] at hc ⊢ <;> omega)
    rw [h]
    exact ⟨rfl, S121.fin0⟩
   refine wp_skip ?_
   refine tk H118 (wp_seq_k fun K125 H125 => region_in ?_)
   refine W_v V V (V_asg V V) ?_
   refine W_end (gen_Q fun A126 E126 => ?_)
   have Y126 := szq E126
   have F126 := fsE E126 (ck F120 V V)
   clear E126 Y120 F120
   refine tk H125 (wp_ret ?_)
   refine ret_in (results_1 Try.results33 (rv_tmp (fg0 F126))) F126.d ?_
   have h : (anE (⟨kd, a, b, f, p, q, uu⟩ : OpC) (⟨er, ti, v⟩ : AnC)) = 0 := an_ok c11 (by simp only; omega) (by have hc := c122; unfold anX; rcases (by cases ti <;> simp : ti = true ∨ ti = false) with q | q <;> simp [q] at hc ⊢ <;> omega)
   rw [h]
   exact ⟨rfl, S121.fin0⟩
  refine wp_skip (inb_n ?_)
  refine tk H34 (wp_seq_k fun K127 H127 => ?_)
  refine wp_seq_k fun K128 H128 => region_in ?_
  refine W_r V V (VR_ldA V (fg5 F87) (S40.obj 0 V hc32) Try.underlying44 V (by kernel_rfl)) ?_
  refine W_v V V (xbS (n := 3) (z := .agg #[.int .i64 0, .bool false, .int .u64 0]) V (parts0)) ?_
  refine W_v V V (V_neStA V (es V (et V)) (et V) (by kernel_rfl)) ?_
  refine W_end (gen_Q fun A129 E129 => ?_)
  have Y129 := szq E129
  have F129 := fsE E129 (ck (cq2 F87 V) V V)
  clear E129 Y87 F87
  have S130 : St w NoX [] w32 := S40.sel [] (by decide) V
  refine tk H128 ?_
  refine cond_dec (fg0 F129) (fun c131 => ?_) (fun c131 => ?_)
  ·refine wp_seq_k fun K132 H132 => region_in ?_
   refine W_v V V (V_asg V V) ?_
   refine W_end (gen_Q fun A133 E133 => ?_)
   have Y133 := szq E133
   have F133 := fsE E133 (ck F129 V V)
   clear E133 Y129 F129
   refine tk H132 (wp_ret (then_ret ?_))
   refine ret_in (results_1 Try.results33 (rv_tmp (fg0 F133))) F133.d ?_
   have h : (anE (⟨kd, a, b, f, p, q, uu⟩ : OpC) (⟨er, ti, v⟩ : AnC)) = 2 := an_bad c11 (by simp only; omega) (by have hc := c131; unfold anX; rcases (by cases ti <;> simp : ti = true ∨ ti = false) with q | q <;> simp [q] at hc ⊢ <;> omega)
   rw [h]
   exact ⟨rfl, S130.fin0⟩
  refine wp_skip ?_
  refine tk H127 (wp_seq_k fun K134 H134 => region_in ?_)
  refine W_v V V (V_asg V V) ?_
  refine W_end (gen_Q fun A135 E135 => ?_)
  have Y135 := szq E135
  have F135 := fsE E135 (ck F129 V V)
  clear E135 Y129 F129
  refine tk H134 (wp_ret ?_)
  refine ret_in (results_1 Try.results33 (rv_tmp (fg0 F135))) F135.d ?_
  have h : (anE (⟨kd, a, b, f, p, q, uu⟩ : OpC) (⟨er, ti, v⟩ : AnC)) = 0 := an_ok c11 (by simp only; omega) (by have hc := c131; unfold anX; rcases (by cases ti <;> simp : ti = true ∨ ti = false) with q | q <;> simp [q] at hc ⊢ <;> omega)
  rw [h]
  exact ⟨rfl, S130.fin0⟩
 refine wp_skip ?_
 refine tk H34 (wp_seq_k fun K136 H136 => ?_)
 refine wp_seq_k fun K137 H137 => region_in ?_
 refine W_r V V (VR_ldA V (fg1 F36) (S32.obj 0 V hc32) Try.underlying44 V (by kernel_rfl)) ?_
 refine W_v V V (xbS (n := 3) (z := .agg #[.int .i64 0, .bool false, .int .u64 0]) V (parts0)) ?_
 refine W_v V V (V_neStA V (es V (et V)) (et V) (by kernel_rfl)) ?_
 refine W_end (gen_Q fun A138 E138 => ?_)
 have Y138 := szq E138
 have F138 := fsE E138 (ck (cq2 F36 V) V V)
 clear E138 Y36 F36
 have S139 : St w NoX [] w32 := S32.sel [] (by decide) V
 refine tk H137 ?_
 refine cond_dec (fg0 F138) (fun c140 => ?_) (fun c140 => ?_)
 ·refine wp_seq_k fun K141 H141 => region_in ?_
  refine W_v V V (V_asg V V) ?_
  refine W_end (gen_Q fun A142 E142 => ?_)
  have Y142 := szq E142
  have F142 := fsE E142 (ck F138 V V)
  clear E142 Y138 F138
  refine tk H141 (wp_ret (then_ret ?_))
  refine ret_in (results_1 Try.results33 (rv_tmp (fg0 F142))) F142.d ?_
  have h : (anE (⟨kd, a, b, f, p, q, uu⟩ : OpC) (⟨er, ti, v⟩ : AnC)) = 2 := an_bad c11 (by simp only; omega) (by have hc := c140; unfold anX; rcases (by cases ti <;> simp : ti = true ∨ ti = false) with q | q <;> simp [q] at hc ⊢ <;> omega)
  rw [h]
  exact ⟨rfl, S139.fin0⟩
 refine wp_skip ?_
 refine tk H136 (wp_seq_k fun K143 H143 => region_in ?_)
 refine W_v V V (V_asg V V) ?_
 refine W_end (gen_Q fun A144 E144 => ?_)
 have Y144 := szq E144
 have F144 := fsE E144 (ck F138 V V)
 clear E144 Y138 F138
 refine tk H143 (wp_ret ?_)
 refine ret_in (results_1 Try.results33 (rv_tmp (fg0 F144))) F144.d ?_
 have h : (anE (⟨kd, a, b, f, p, q, uu⟩ : OpC) (⟨er, ti, v⟩ : AnC)) = 0 := an_ok c11 (by simp only; omega) (by have hc := c140; unfold anX; rcases (by cases ti <;> simp : ti = true ∨ ti = false) with q | q <;> simp [q] at hc ⊢ <;> omega)
 rw [h]
 exact ⟨rfl, S139.fin0⟩

end Go.Proofs.Ytpgkfndbfocibaa