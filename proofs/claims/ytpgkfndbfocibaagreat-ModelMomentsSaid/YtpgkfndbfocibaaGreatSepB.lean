import Derived.Test.YtpgkfndbfocibaaGreatSepQ
import Derived.Test.YtpgkfndbfocibaaGreatSepZ
namespace Go.Own
open Go Go.Sort
def sM (L : List Int) : List (Int × Value) := L.map fun q => (q, .bool true)
theorem mget_sM (L : List Int) (q : Int) : mget (sM L) q = if q ∈ L then some (.bool true) else none := by
  unfold mget sM
  induction L with
  | nil => rfl
  | cons p L ih =>
    by_cases h : p = q
    · subst h; simp
    · have h' : ¬ q = p := fun e => h e.symm
      simp [List.find?_cons, h, h'] at ih ⊢
      exact ih
abbrev ms (v : Value) (L : List Int) : HP := mo .i64 v (sM L)
section
variable {P : Program} {ops : Array Oper} {l : List Oper} {o : Oper} {A : Act} {Q : Exit → Act → World → Prop} {w w0 : World} {X : Nat → Prop} {cs : List HP} {c : HP} {d : Tmp} {x y z : Operand}
theorem VR_lookB {t kt et : TypeId} {k' : IntKind} {mv : Value} {L : List Int} {q : Int} (ho : o.op = .lookup t x y false) (hx : EV A x = mv) (hy : EV A y = .int .i64 q) (hm : (ms mv L).at w)
    (ht : P.underlying t = some (.map kt et)) (hk : P.underlying kt = some (.int k')) (hz : (P.info? et).map (·.zero) = some (some (.bool false))) :
    ValW P A o w (.bool (decide (q ∈ L))) := by
  have hzr : (zeroValue et).run P w = .ok (.bool false) w := by
    cases hi : P.info? et with
    | none => simp [hi] at hz
    | some i => have hz' : i.zero = some (.bool false) := by simpa [hi] using hz
                simp [zeroValue, typeInfo, hi, hz']
  have e : (mget (sM L) q).getD (.bool false) = .bool (decide (q ∈ L)) := by rw [mget_sM]; by_cases h : q ∈ L <;> simp [h]
  rw [← e]
  unfold ValW execOp
  obtain ⟨f, h | ⟨g, es, clock, h1, h2, h3, h4, _⟩⟩ := hm
  · obtain ⟨rfl, h2⟩ := h
    have : L = [] := by unfold sM at h2; simpa using h2
    subst this
    simp [ho, hx, hy, Instr.lookup, run_underlying ht w, checkKey_int _ _ _ hk, Instr.findKey, run_underlying hk w, Instr.findNow, hzr, mget, sM]
  · subst h1
    obtain ⟨r, g1, g2, _⟩ := findNow_enc ⟨k', rfl⟩ q es.toList (sM L) 0 h4
    cases r with
    | none => simp [ho, hx, hy, Instr.lookup, run_underlying ht w, checkKey_int _ _ _ hk, Instr.findKey, run_underlying hk w, g1, hzr, ← g2, run_getObj_m h3]
    | some r => simp [ho, hx, hy, Instr.lookup, run_underlying ht w, checkKey_int _ _ _ hk, Instr.findKey, run_underlying hk w, g1, ← g2, run_getObj_m h3]
theorem W_mapIns {t kt et : TypeId} {k k' : IntKind} {mv u : Value} {m : List (Int × Value)} {q : Int} {g : Nat} (i : Nat) (hS : St w0 X cs w) (hi : cs[i]? = some c) (hc : c = mo k mv m) (hv : mv = .map (some g)) (hd : o.dst = none) (hw : Region.wanted o (yielded ops A.tmps) = true)
    (ho : o.op = .insert t x y z) (hx : EV A x = mv) (hy : EV A y = .int k q) (hu : EV A z = u) (ht : P.underlying t = some (.map kt et)) (hk : P.underlying kt = some (.int k')) (hn : mget m q = none)
    (h : ∀ w' c', c' = mo k mv (m ++ [(q, u)]) → St w0 X (cs.set i c') w' → WX P ops Q l A w') : WX P ops Q (o :: l) A w := by
  subst hc
  obtain ⟨f, q1, q2, q3⟩ := hS.upd i hi
  rcases q1 with ⟨h1, _⟩ | ⟨g', es, clock, h1, h2, h3, h4, h5, h6⟩
  · rw [hv] at h1; cases h1
  · rw [hv] at h1
    simp only [Value.map.injEq, Option.some.injEq] at h1
    subst h1
    obtain ⟨r, g1, g2, _⟩ := findNow_enc ⟨k', rfl⟩ q es.toList m 0 h4
    have hr : r = none := by
      cases r with
      | none => rfl
      | some r => rw [hn] at g2; cases g2
    subst hr
    refine W_nov (w' := w.putObj g (.map (es.push { key := .int k q, val := u, born := clock }) (clock + 1))) hd hw ?_ (h _ _ rfl (q3 _ _ f (⟨rfl, rfl, rfl, by simp, fun k _ hk => World.putObj_heap_other fun e => hk (by rw [e]; exact h2)⟩) (.inr ⟨g, _, _, hv, h2, World.putObj_heap_same (q2 _ h2), ?_⟩) fun b hb => .inl hb))
    · unfold execOp
      simp [ho, hx, hy, hu, hv, Instr.mapUpdate, run_underlying ht w, checkKey_int _ _ _ hk, Instr.findKey, run_underlying hk w, g1, run_getObj_m h3, run_setObj_m _ h3]
    · exact mo_push h4 h5 h6
theorem sM_out {L : List Int} {q : Int} (h : q ∉ L) : mget (sM L) q = none := by rw [mget_sM, if_neg h]
theorem W_mapNewB {t kt et : TypeId} {k' : IntKind} {mv : Value} {L : List Int} {q : Int} {g : Nat} (i : Nat) (hS : St w0 X cs w) (hi : cs[i]? = some c) (hc : c = ms mv L) (hv : mv = .map (some g)) (hd : o.dst = none) (hw : Region.wanted o (yielded ops A.tmps) = true)
    (ho : o.op = .mapUpdate t x y z) (hx : EV A x = mv) (hy : EV A y = .int .i64 q) (hu : EV A z = .bool true) (ht : P.underlying t = some (.map kt et)) (hk : P.underlying kt = some (.int k')) (hn : q ∉ L)
    (h : ∀ w' c', c' = ms mv (L ++ [q]) → St w0 X (cs.set i c') w' → WX P ops Q l A w') : WX P ops Q (o :: l) A w :=
  W_mapNew i hS hi hc hv hd hw ho hx hy hu ht hk (sM_out hn) fun w' c' hc' => h w' c' (by rw [hc']; simp [ms, sM])
theorem W_mapInsB {t kt et : TypeId} {k' : IntKind} {mv : Value} {L : List Int} {q : Int} {g : Nat} (i : Nat) (hS : St w0 X cs w) (hi : cs[i]? = some c) (hc : c = ms mv L) (hv : mv = .map (some g)) (hd : o.dst = none) (hw : Region.wanted o (yielded ops A.tmps) = true)
    (ho : o.op = .insert t x y z) (hx : EV A x = mv) (hy : EV A y = .int .i64 q) (hu : EV A z = .bool true) (ht : P.underlying t = some (.map kt et)) (hk : P.underlying kt = some (.int k')) (hn : q ∉ L)
    (h : ∀ w' c', c' = ms mv (L ++ [q]) → St w0 X (cs.set i c') w' → WX P ops Q l A w') : WX P ops Q (o :: l) A w :=
  W_mapIns i hS hi hc hv hd hw ho hx hy hu ht hk (sM_out hn) fun w' c' hc' => h w' c' (by rw [hc']; simp [ms, sM])
end
end Go.Own
