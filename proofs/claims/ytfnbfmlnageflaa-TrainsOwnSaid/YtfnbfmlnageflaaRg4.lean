import Derived.Test.YtfnbfmlnageflaaRg3
import Derived.Test.YtfnbfmlnageflaaGen4
import Derived.Test.YtfnbfmlnageflaaPl11c
namespace Go.Proofs.Ytfnbfmlnageflaa
open Go.RowKit Go.Own


set_option maxHeartbeats 4000000 in
theorem trained_c {u1 : Value} {a : List Int} {u2 : Value} {b : List Int} {w : World} (h_u1 : Ints w u1 a) (h_u2 : Ints w u2 b)  :
    Calls Try.prog 25 #[u1, u2] w fun e w' => e = .returned (.agg #[u1, u2]) ∧ Ext w w' := by
  refine calls_in 8 Try.func25 rfl rfl (by simp) (fun A0 hsz0 hdf0 hargs => ?_)
  have l0_0 := hargs 0 (u1) rfl
  have l1_0 := hargs 1 (u2) rfl
  clear hargs; replace hsz0 : SzN A0 8 := ⟨hsz0⟩
  have hE0 := Ext.rfl' w
  refine wp_seq_k (fun K1 hK1 => ?_)
  -- region 0
  refine region_in ?_
  refine W_alloc (z := .agg #[.slice none 0 0, .slice none 0 0]) (cs := #[.slice none 0 0, .slice none 0 0]) rfl rfl rfl (by kernel_rfl) rfl (fun g2 w2 hg2 hx2 b2 => ?_)
  have oB_2 : w.heap.size ≤ g2 := hg2 ▸ hE0.size
  have hE3 := Ext.tr hE0 hx2
  refine W_end ?_
  refine gen_Q (fun A4 hA4 => ?_)
  have hsz4 : SzN A4 8 := by rw [hA4]; infer_instance
  have hdf4 : A4.defers = [] := by rw [hA4]; simp only [df_put]; exact hdf0
  have l0_4 := lookE hA4 0 (es rfl l0_0)
  have l1_4 := lookE hA4 1 (es rfl l1_0)
  have l4_4 := lookE hA4 4 (et rfl)
  clear hA4 hsz0 hdf0 l0_0 l1_0
  refine then_n (hK1 _ _ ?_)
  clear hK1
  refine wp_seq_k (fun K5 hK5 => ?_)
  -- region 1
  refine region_in ?_
  refine W_v rfl rfl (V_mov rfl l0_4) ?_
  refine W_v rfl rfl (V_mov rfl (es rfl l1_4)) ?_
  refine W_v rfl rfl (V_bldS (n := 2) (z := .agg #[.slice none 0 0, .slice none 0 0]) rfl (parts2 (es rfl (et rfl)) (et rfl)) (by kernel_rfl) (by simp only [List.all_cons, List.all_nil, one_ints h_u1, one_ints h_u2, Bool.and_true] <;> rfl) (by kernel_rfl) (by simp only [List.foldl_cons, List.foldl_nil, Value.cells, List.setIfInBounds_toArray, List.set_cons_succ, List.set_cons_zero] <;> rfl)) ?_
  refine W_stA rfl rfl rfl (es rfl (es rfl (es rfl l4_4))) (et rfl) (by simp only [List.all_toArray, List.all_cons, List.all_nil, one_ints (h_u1.ext hE3), one_ints (h_u2.ext hE3)] <;> rfl) b2 (by rfl) (by kernel_rfl) (fun w6 ht6 hb6 => ?_)
  have hE7 := ext_tch hE3 ht6 oB_2
  replace b2 := hb6
  refine W_end ?_
  refine gen_Q (fun A8 hA8 => ?_)
  have hsz8 : SzN A8 8 := by rw [hA8]; infer_instance
  have hdf8 : A8.defers = [] := by rw [hA8]; simp only [df_put]; exact hdf4
  have l4_8 := lookE hA8 4 (es rfl (es rfl (es rfl l4_4)))
  clear hA8 hsz4 hdf4 l0_4 l1_4 l4_4
  refine then_n (hK5 _ _ ?_)
  clear hK5
  refine wp_ret ?_
  refine ret_in (results_1 Try.results25 (rv_cellA l4_8 b2 Try.underlying24 rfl (by kernel_rfl))) hdf8 ?_
  -- leaf 
  exact ⟨rfl, hE7⟩

end Go.Proofs.Ytfnbfmlnageflaa