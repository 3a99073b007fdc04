import Derived.Test.YtpgkfndbfocibaaGreatSepU
import Derived.Test.YtpgkfndbfocibaaGreatSepG
namespace Go.Own
open Go Go.RowKit
abbrev GV := (Value × List Ob) × (Value × List Int)
abbrev GA := List (List Int × List Int) × List Int
def gab (G : GV) : GA := (G.1.2.map ab, G.2.2)
def grC (G : GV) : List Value := [G.1.1, G.2.1]
theorem grC_len : ∀ G : GV, (grC G).length = 2 := fun _ => rfl
theorem nst_mono {w : World} {L : List Ob} {f g : Nat → Prop} (h : (nst L).p w f) (hfg : ∀ b, f b → g b) : (nst L).p w g := fun o ho => ⟨sl_mono (h o ho).1 hfg, sl_mono (h o ho).2 hfg⟩
def gls (L : List GV) : HP where
 p w f := ∀ G ∈ L, (rl 2 obC G.1.1 G.1.2).p w f ∧ (nst G.1.2).p w f ∧ (il .i64 G.2.1 G.2.2).p w f
 loc := fun h h1 h2 G hG => ⟨(rl 2 obC G.1.1 G.1.2).loc (h G hG).1 h1 h2, (nst G.1.2).loc (h G hG).2.1 h1 h2, (il .i64 G.2.1 G.2.2).loc (h G hG).2.2 h1 h2⟩
section
variable {w0 w : World} {X : Nat → Prop} {l : List HP} {L M : List GV} {G : GV} {f g : Nat → Prop}
theorem gls_mono (h : (gls L).p w f) (hfg : ∀ b, f b → g b) : (gls L).p w g := fun G hG => ⟨sl_mono (h G hG).1 hfg, nst_mono (h G hG).2.1 hfg, sl_mono (h G hG).2.2 hfg⟩
theorem gl_o (m : G ∈ L) (h : Ro w0 X (gls L)) : Ro w0 X (rl 2 obC G.1.1 G.1.2) := let ⟨f, h1, h2⟩ := h; ⟨f, (h1 G m).1, h2⟩
theorem gl_n (m : G ∈ L) (h : Ro w0 X (gls L)) : Ro w0 X (nst G.1.2) := let ⟨f, h1, h2⟩ := h; ⟨f, (h1 G m).2.1, h2⟩
theorem gl_r (m : G ∈ L) (h : Ro w0 X (gls L)) : Ro w0 X (il .i64 G.2.1 G.2.2) := let ⟨f, h1, h2⟩ := h; ⟨f, (h1 G m).2.2, h2⟩
theorem gl_oa (m : G ∈ L) (h : (gls L).at w) : (rl 2 obC G.1.1 G.1.2).at w := let ⟨f, h1⟩ := h; ⟨f, (h1 G m).1⟩
theorem gl_ra (m : G ∈ L) (h : (gls L).at w) : (il .i64 G.2.1 G.2.2).at w := let ⟨f, h1⟩ := h; ⟨f, (h1 G m).2.2⟩
theorem gl_mk {ov rv : Value} {O : List Ob} {rs : List Int} (h1 : Ro w0 X (rl 2 obC ov O)) (h2 : Ro w0 X (nst O)) (h3 : Ro w0 X (il .i64 rv rs)) : Ro w0 X (gls [((ov, O), (rv, rs))]) := by
 obtain ⟨f1, p1, q1⟩ := h1
 obtain ⟨f2, p2, q2⟩ := h2
 obtain ⟨f3, p3, q3⟩ := h3
 refine ⟨fun b => f1 b ∨ f2 b ∨ f3 b, fun G hG => ?_, fun b hb => hb.elim (q1 b) fun h => h.elim (q2 b) (q3 b)⟩
 rw [List.mem_singleton] at hG; subst hG
 exact ⟨sl_mono p1 fun b => .inl, nst_mono p2 fun b h => .inr (.inl h), sl_mono p3 fun b h => .inr (.inr h)⟩
theorem gl_mt (h : St w0 X l w) : St w0 X (gls [] :: l) w := h.emp fun G hG => (by cases hG)
theorem gl_app (h : St w0 X (gls L :: gls M :: l) w) : St w0 X (gls (L ++ M) :: l) w :=
 h.two fun f g h1 h2 _ => ⟨fun b => f b ∨ g b, fun G hG => by
  rcases List.mem_append.1 hG with q | q
  ·exact gls_mono h1 (fun b => .inl) G q
  ·exact gls_mono h2 (fun b => .inr) G q, fun _ h => h⟩
theorem St.conv {a b : HP} (h : St w0 X (a :: l) w) (hc : ∀ f : Nat → Prop, a.p w f → b.p w f) : St w0 X (b :: l) w := by
 obtain ⟨he, fs, h1, h2, h3⟩ := h
 refine ⟨he, fs, fun i d hd => ?_, fun i q hq => by simpa using h2 i q hq, h3⟩
 cases i with
 | zero => simp at hd; subst hd; exact hc _ (h1 0 a rfl)
 | succ i => exact h1 (i + 1) d (by simpa using hd)
theorem gl_subS (h : St w0 X (gls L :: l) w) (hs : ∀ G ∈ M, G ∈ L) : St w0 X (gls M :: l) w := h.conv fun f h G hG => h G (hs G hG)
theorem gl_of {hv qv : Value} {H : List Ob} {q : List Int} (h : St w0 X (ro 2 obC hv H :: owl .i64 (H.map fun o : Ob => o.1) :: owl .u64 (H.map fun o : Ob => o.2) :: io .i64 qv q :: l) w) : St w0 X (gls [((hv, H), (qv, q))] :: l) w := by
 have h2 : St w0 X ([owl .i64 (H.map fun o : Ob => o.1), owl .u64 (H.map fun o : Ob => o.2), ro 2 obC hv H, io .i64 qv q] ++ l) w := St.selR (l := [ro 2 obC hv H, owl .i64 (H.map fun o : Ob => o.1), owl .u64 (H.map fun o : Ob => o.2), io .i64 qv q]) (fr := l) h [1, 2, 0, 3] (by decide) (by rfl) rfl
 have h3 : St w0 X (nst H :: ro 2 obC hv H :: io .i64 qv q :: l) w := St.two h2 fun f g p1 p2 _ => ⟨fun b => f b ∨ g b, fun o ho => by
  obtain ⟨k, hk⟩ := List.mem_iff_getElem?.1 ho
  exact ⟨sl_mono (owl_rd (mapE hk) p1) fun b => .inl, sl_mono (owl_rd (mapE hk) p2) fun b => .inr⟩, fun _ h => h⟩
 have h4 : St w0 X ((nst H).and (rl 2 obC hv H) :: io .i64 qv q :: l) w := h3.two fun f g p1 p2 _ => ⟨fun b => f b ∨ g b, ⟨nst_mono p1 fun b => .inl, sl_mono (ow_sl p2) fun b => .inr⟩, fun _ h => h⟩
 exact h4.two fun f g p1 p2 _ => ⟨fun b => f b ∨ g b, fun G hG => by
  rw [List.mem_singleton] at hG; subst hG
  exact ⟨sl_mono p1.2 fun b => .inl, nst_mono p1.1 fun b => .inl, sl_mono (ow_sl p2) fun b => .inr⟩, fun _ h => h⟩
theorem glC {P : Program} {fn : FuncId} {args : Array Value} {F : Value → Value → Value} {OX : List (List Int × List Int)} {RX : List Int} {Y : Nat → Prop}
  (h : Calls P fn args w fun e w' => ∃ hv H qv, e = .returned (F hv qv) ∧ H.map ab = OX ∧ St w Y [ro 2 obC hv H, owl .i64 (H.map fun o : Ob => o.1), owl .u64 (H.map fun o : Ob => o.2), io .i64 qv RX] w') :
  Calls P fn args w fun e w' => ∃ (hv : Value) (H : List Ob) (qv : Value) (q : List Int), e = .returned (F hv qv) ∧ gab ((hv, H), (qv, q)) = (OX, RX) ∧ St w Y [gls [((hv, H), (qv, q))]] w' :=
 h.mono fun _ _ ⟨hv, H, qv, h1, h2, h3⟩ => ⟨hv, H, qv, RX, h1, by unfold gab; rw [← h2], gl_of h3⟩
theorem gl_oaR (m : G ∈ L) (h : Ro w0 X (gls L)) : Ro w0 X (rl 2 obC G.1.1 G.1.2) := gl_o m h
theorem gl_naR (m : G ∈ L) (h : Ro w0 X (gls L)) : Ro w0 X (nst G.1.2) := gl_n m h
theorem gl_raR (m : G ∈ L) (h : Ro w0 X (gls L)) : Ro w0 X (il .i64 G.2.1 G.2.2) := gl_r m h
theorem m1 {G : GV} : G ∈ [G] := List.mem_singleton.2 rfl
end
end Go.Own
