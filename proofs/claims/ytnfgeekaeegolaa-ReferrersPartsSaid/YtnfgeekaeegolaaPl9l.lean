import Derived.Test.YtnfgeekaeegolaaPl7e
import Derived.Test.YtnfgeekaeegolaaPl9j
import Derived.Test.YtnfgeekaeegolaaPl9e
namespace Go.Own.S
open Go Go.Own Go.Own.R
/-! Good -/
def Sz (c : List Int) : Prop := usd c = adr c ∧ (c.length = 8 ∨ 3 * c.length < 8 * adr c)
/-! Purge -/
theorem pg1_pos {f t x : Int} (h : 0 < pg1 f t x) : pg1 f t x = x ∧ ¬ (f ≤ x ∧ x < t) := by
  unfold pg1 at h ⊢
  split at h
  · omega
  · rename_i q; rw [if_neg q]; exact ⟨rfl, by omega⟩
theorem pg1_nz {f t x : Int} (h : ¬ x = 0) : ¬ pg1 f t x = 0 := by unfold pg1; split <;> omega
theorem pg_cnt (f t : Int) : ∀ c : List Int, adr (c.map (pg1 f t)) + c.countP (pgB f t) = adr c ∧ usd (c.map (pg1 f t)) = usd c
  | [] => ⟨rfl, rfl⟩
  | x :: c => by
    obtain ⟨h1, h2⟩ := pg_cnt f t c
    unfold adr at h1
    unfold usd at h2
    unfold adr usd
    simp only [List.map_cons, List.countP_cons]
    by_cases q : 0 < x ∧ f ≤ x ∧ x < t
    · have e1 : pg1 f t x = -1 := if_pos q
      have e2 : pgB f t x = true := decide_eq_true q
      have e3 : decide (x ≠ 0) = true := by simp; omega
      have e4 : decide (0 < x) = true := by simp; omega
      rw [e1, e2, e3, e4]
      simp at h1 h2 ⊢; omega
    · have e1 : pg1 f t x = x := if_neg q
      have e2 : pgB f t x = false := decide_eq_false q
      rw [e1, e2]
      simp at h1 h2 ⊢; omega
theorem pg_good {c : List Int} (h : Gd c) (f t : Int) : Gd (c.map (pg1 f t)) ∧ (∀ y, 0 < y → (y ∈ c.map (pg1 f t) ↔ y ∈ c ∧ ¬ (f ≤ y ∧ y < t))) := by
  have hg : ∀ {i : Nat} {y : Int}, (c.map (pg1 f t))[i]? = some y → 0 < y → c[i]? = some y := by
    intro i y hi hy
    rw [List.getElem?_map] at hi
    cases e : c[i]? with
    | none => rw [e] at hi; cases hi
    | some x =>
      rw [e] at hi
      have : pg1 f t x = y := Option.some.inj hi
      subst this
      rw [(pg1_pos hy).1]
  have hcl : ∀ z k, ¬ cl c z k = 0 → ¬ cl (c.map (pg1 f t)) z k = 0 := by
    intro z k q
    unfold cl at q ⊢
    rw [List.length_map]
    rw [List.getD_eq_getElem?_getD] at q ⊢
    rw [List.getElem?_map]
    cases e : c[ps c.length z k]? with
    | none => rw [e] at q; exact absurd rfl q
    | some x => rw [e] at q; exact pg1_nz q
  refine ⟨⟨⟨fun y hy => ?_, fun i j x hi hj h0 => h.dst i j x (hg hi h0) (hg hj h0) h0, fun i x hi h0 => ?_⟩, by rw [List.length_map]; exact h.p2, by rw [List.length_map, (pg_cnt f t c).2]; exact h.full⟩, fun y hy => ⟨fun q => ?_, fun q => ?_⟩⟩
  · obtain ⟨x, hx, rfl⟩ := List.mem_map.1 hy
    have := h.rng x hx
    unfold pg1; split <;> omega
  · obtain ⟨j, hj, h1, h2⟩ := h.pth i x (hg hi h0) h0
    exact ⟨j, by rw [List.length_map]; exact hj, by rw [List.length_map]; exact h1, fun k hk => hcl _ _ (h2 k hk)⟩
  · obtain ⟨x, hx, rfl⟩ := List.mem_map.1 q
    have := pg1_pos hy
    rw [this.1]; exact ⟨hx, this.2⟩
  · exact List.mem_map.2 ⟨y, q.1, by unfold pg1; rw [if_neg (by omega)]⟩
/-- no address is left, and as many cells. -/
structure Zr (n : Nat) (x : List Int) : Prop where
  gd : Gd x
  no : adr x = 0
  len : x.length = n
def rvK (l : List Int) (i : Nat) : List Int := List.replicate (l.length - i) 0 ++ (l.take i).reverse
theorem lsT_len (c : List Int) : (lsT c).length ≤ 1600 := by
  unfold lsT; split
  · simp
  · exact tgK_len c 1600
/-! Sets -/
def acC (r : Int × Bool) : List Value := [.int .u16 r.1, .bool r.2]
structure SR (x : List Int) (b : List Bool) (n : Int) : Prop where
  gd : Gd x
  len : b.length = 61
  mem : ∀ a : Nat, 1 ≤ a → a ≤ 60 → b[a]? = some (decide ((a : Int) ∈ x))
  top : ∀ y ∈ x, y ≤ 60
  num : n = ((adr x : Nat) : Int)
end Go.Own.S

/-! the counts of a table are a good list; the counts of two parts add up -/
namespace Go.Own.F
open Go Go.Own Go.Own.R Go.Own.S
theorem cnF_mem {ws l : List Int} {x : Int × Int} (hx : x ∈ cnF ws l) : x.1 ≠ 0 ∧ x.2 = ((hoF ws l x.1).length : Int) ∧ ∃ a ∈ l, wA ws a = x.1 := by
  obtain ⟨h1, h2, h3⟩ := cnF_all ws l
  have h4 := nOf_mem h1 hx
  have h5 := h2 x hx
  rw [h3] at h4
  by_cases e : x.1 = 0
  · rw [if_pos e] at h4; omega
  · rw [if_neg e] at h4
    have h6 : hoF ws l x.1 ≠ [] := fun q => by rw [q] at h4; simp at h4; omega
    obtain ⟨a, ha⟩ := List.exists_mem_of_ne_nil _ h6
    unfold hoF at ha
    obtain ⟨q1, q2⟩ := List.mem_filter.1 ha
    exact ⟨e, h4.symm, a, q1, by simpa using q2⟩
theorem cnF_ck {ws l : List Int} (h1 : l.length ≤ 1600) (h2 : ∀ a ∈ l, 0 ≤ wA ws a ∧ wA ws a ≤ 1600) : (ckL (cnF ws l)).2 = 0 := by
  refine ckL_iff.2 ⟨Nat.le_trans (cnF_len ws l) h1, fun x hx => ?_, (cnF_all ws l).1⟩
  obtain ⟨q1, q2, a, q3, q4⟩ := cnF_mem hx
  have := h2 a q3
  have h5 := (cnF_all ws l).2.1 x hx
  have h6 := hoF_len ws l x.1
  unfold okC; omega
theorem hoF_app (ws l m : List Int) (t : Int) : hoF ws (l ++ m) t = hoF ws l t ++ hoF ws m t := by unfold hoF; exact List.filter_append ..
theorem cnF_app (ws l m : List Int) : plA (cnF ws l) (cnF ws m) = cnF ws (l ++ m) := by
  obtain ⟨a1, a2, a3⟩ := cnF_all ws l
  obtain ⟨b1, b2, b3⟩ := cnF_all ws m
  obtain ⟨c1, c2, c3⟩ := cnF_all ws (l ++ m)
  refine asc_nOf (plA_asc a1) c1 (plA_pos a2 b2) c2 fun t => ?_
  rw [plA_n a1, a3, c3, smN_nOf b1, b3, hoF_app, List.length_append]
  split <;> omega
theorem cnF_perm {ws l m : List Int} (h : l.Perm m) : cnF ws l = cnF ws m := by
  obtain ⟨a1, a2, a3⟩ := cnF_all ws l
  obtain ⟨b1, b2, b3⟩ := cnF_all ws m
  refine asc_nOf a1 b1 a2 b2 fun t => ?_
  rw [a3, b3]
  unfold hoF
  rw [(h.filter _).length_eq]
/-- two parts of the slots, put together again. -/
theorem parts_mg {ws l m n : List Int} (hp : (l ++ m).Perm n) (hn : n.length ≤ 1600) (h2 : ∀ a ∈ n, 0 ≤ wA ws a ∧ wA ws a ≤ 1600) : mgE (cnF ws l) (cnF ws m) = 0 ∧ mgT (cnF ws l) (cnF ws m) = cnF ws n := by
  have hlen := hp.length_eq
  rw [List.length_append] at hlen
  have hl := cnF_ck (ws := ws) (l := l) (by omega) fun a ha => h2 a (hp.mem_iff.1 (List.mem_append.2 (.inl ha)))
  have hm := cnF_ck (ws := ws) (l := m) (by omega) fun a ha => h2 a (hp.mem_iff.1 (List.mem_append.2 (.inr ha)))
  have he : plA (cnF ws l) (cnF ws m) = cnF ws n := by rw [cnF_app, cnF_perm hp]
  have hE : mgE (cnF ws l) (cnF ws m) = 0 := by
    unfold mgE
    rw [if_neg (by omega), if_neg (by omega), if_neg]
    intro q
    obtain ⟨x, hx, hd⟩ := List.any_eq_true.1 q
    rw [he] at hx
    obtain ⟨_, q2, _⟩ := cnF_mem hx
    have := hoF_len ws n x.1
    simp at hd; omega
  exact ⟨hE, by unfold mgT; rw [if_neg (by omega), he]⟩
end Go.Own.F

/-! the slots below t and those from t on -/
namespace Go.Own.F
open Go Go.Own Go.Own.R Go.Own.S
theorem lsT_nodup (c : List Int) : (lsT c).Nodup := by
  unfold lsT; split
  · simp
  · exact tgK_nodup c 1600
theorem ls_pg {c : List Int} (h : (ckS c).2 = 0) (f t : Int) : (ckS (pgT c f t)).2 = 0 ∧ ∀ y, y ∈ lsT (pgT c f t) ↔ y ∈ lsT c ∧ ¬ (f ≤ y ∧ y < t) := by
  have hg := ck_iff.1 h
  have e3 : pgT c f t = c.map (pg1 f t) := by unfold pgT; rw [if_neg (by simpa using h)]
  obtain ⟨g1, g2⟩ := pg_good hg f t
  have hk : (ckS (pgT c f t)).2 = 0 := by rw [e3]; exact ck_iff.2 g1
  refine ⟨hk, fun y => ?_⟩
  unfold lsT
  rw [if_neg (by simpa using hk), if_neg (by simpa using h), tgK_mem, tgK_mem, e3]
  constructor
  · rintro ⟨q1, q2, q3⟩
    have := (g2 y (by omega)).1 q3
    exact ⟨⟨q1, q2, this.1⟩, this.2⟩
  · rintro ⟨⟨q1, q2, q3⟩, q4⟩
    exact ⟨q1, q2, (g2 y (by omega)).2 ⟨q3, q4⟩⟩
theorem parts_pm {c : List Int} (h : (ckS c).2 = 0) (t : Int) : (lsT (pgT c t 1601) ++ lsT (pgT c 1 t)).Perm (lsT c) := by
  obtain ⟨_, a2⟩ := ls_pg h t 1601
  obtain ⟨_, b2⟩ := ls_pg h 1 t
  refine (List.perm_ext_iff_of_nodup ?_ (lsT_nodup c)).2 fun y => ?_
  · refine List.nodup_append.2 ⟨lsT_nodup _, lsT_nodup _, fun x hx y hy e => ?_⟩
    subst e
    have q1 := (a2 x).1 hx
    have q2 := (b2 x).1 hy
    have := lsT_rng q1.1
    omega
  · rw [List.mem_append, a2, b2]
    constructor
    · rintro (q | q) <;> exact q.1
    · intro q
      have := lsT_rng q
      by_cases e : t ≤ y
      · exact .inr ⟨q, by omega⟩
      · exact .inl ⟨q, by omega⟩
theorem sl_pg {ws c : List Int} (h : slE ws c = 0) (f t : Int) : slE ws (pgT c f t) = 0 := by
  obtain ⟨h1, h2, h3, h4⟩ := slE_zero h
  obtain ⟨g1, g2⟩ := ls_pg h2 f t
  rw [h1] at h4
  refine slE_ok (by omega) g1 fun a ha hb => ?_
  have := h4 a ((g2 a).1 ha).1
  unfold bdW at hb; rw [decide_eq_true_eq] at hb; omega
theorem wA_nn {ws : List Int} (hu : ∀ x ∈ ws, 0 ≤ x ∧ x ≤ 18446744073709551615) (a : Int) : 0 ≤ wA ws a := by
  unfold wA; rw [List.getD_eq_getElem?_getD]
  cases e : ws[a.toNat]? with
  | none => exact Int.le_refl _
  | some y => exact (hu y (List.mem_of_getElem? e)).1
/-- the law's tests, all of them. -/
theorem parts_law {ws c : List Int} (hu : ∀ x ∈ ws, 0 ≤ x ∧ x ≤ 18446744073709551615) (h : slE ws c = 0) (t : Int) :
    slE ws (pgT c t 1601) = 0 ∧ slE ws (pgT c 1 t) = 0 ∧ mgE (coT ws (pgT c t 1601)) (coT ws (pgT c 1 t)) = 0 ∧ mgE (coT ws (pgT c 1 t)) (coT ws (pgT c t 1601)) = 0 ∧
    mgT (coT ws (pgT c t 1601)) (coT ws (pgT c 1 t)) = coT ws c ∧ mgT (coT ws (pgT c 1 t)) (coT ws (pgT c t 1601)) = coT ws c := by
  obtain ⟨h1, h2, h3, h4⟩ := slE_zero h
  rw [h1] at h4
  have e : ∀ d, slE ws d = 0 → coT ws d = cnF ws (lsT d) := fun d hd => by unfold coT; rw [if_neg (by omega)]
  have p1 := sl_pg h t 1601
  have p2 := sl_pg h 1 t
  rw [e _ h, e _ p1, e _ p2]
  have hp := parts_pm h2 t
  have hw : ∀ a ∈ lsT c, 0 ≤ wA ws a ∧ wA ws a ≤ 1600 := fun a ha => ⟨wA_nn hu a, (h4 a ha).2.2.2⟩
  obtain ⟨q1, q2⟩ := parts_mg hp (F.lsT_len c) hw
  obtain ⟨r1, r2⟩ := parts_mg (List.perm_append_comm.trans hp) (F.lsT_len c) hw
  exact ⟨p1, p2, q1, r1, q2, r2⟩
end Go.Own.F
