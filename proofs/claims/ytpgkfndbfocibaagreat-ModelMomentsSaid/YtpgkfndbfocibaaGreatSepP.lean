import Derived.Test.YtpgkfndbfocibaaGreatSepG
import Derived.Laws.CopyRow
import Derived.Laws.IdiomCopy
import Derived.Scope
namespace Go.Own
open Go Go.RowKit
section
variable {P : Program} {r : Option Nat} {Q : Exit → Act → World → Prop} {A : Act} {w : World}
end
section
variable {w0 w w' : World} {X : Nat → Prop} {l l' fr : List HP} {c c' : HP}
theorem St.selR (h : St w0 X (l ++ fr) w) (is : List Nat) (hn : is.Nodup) (hlt : is.all (fun i => decide (i < l.length)) = true) (hl : is.map (fun i => l[i]?) = l'.map some) : St w0 X (l' ++ fr) w := by
 have hlt : ∀ i ∈ is, i < l.length := fun i hi => by simpa using List.all_eq_true.1 hlt i hi
 refine h.sel (is ++ (List.range fr.length).map (· + l.length)) ?_ ?_
 ·refine List.nodup_append.2 ⟨hn, ?_, fun a ha b hb => ?_⟩
  ·have := List.nodup_range (n := fr.length)
   exact List.pairwise_map.2 (this.imp fun h => by omega)
  ·obtain ⟨i, _, rfl⟩ := List.mem_map.1 hb
   have := hlt a ha; omega
 ·rw [List.map_append, List.map_append]
  congr 1
  ·rw [← hl]
   refine List.map_congr_left fun i hi => ?_
   rw [List.getElem?_append_left (hlt i hi)]
  ·apply List.ext_getElem
   ·simp
   ·intro i h1 h2
    simp at h1 h2 ⊢
    rw [List.getElem?_append_right (by omega), Nat.add_sub_cancel, List.getElem?_eq_getElem h2]
end
theorem ow_sl_at {w : World} {s n : Nat} {v : Value} {xs : List Value} (h : (ow s n v xs).at w) : (sl s n v xs).at w := let ⟨f, hf⟩ := h; ⟨f, ow_sl hf⟩
section
variable {P : Program} {ops : Array Oper} {l : List Oper} {o : Oper} {A : Act} {Q : Exit → Act → World → Prop} {w0 w : World} {X : Nat → Prop} {cs : List HP} {c : HP} {d : Tmp} {n : Nat} {v v1 : Value} {xs ys : List Value} {dx sx x : Operand} {dT sT el : TypeId}
end
end Go.Own
