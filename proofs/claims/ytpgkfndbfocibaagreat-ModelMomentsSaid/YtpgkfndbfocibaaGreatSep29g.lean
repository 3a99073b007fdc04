import Derived.Test.YtpgkfndbfocibaaGreatSepG
namespace Go.Own
open Go Go.RowKit
def Mid (G : Act → World → Prop) (e : Exit) (A : Act) (w : World) : Prop := e = .normal ∧ G A w
theorem Mid_n {G : Act → World → Prop} {A : Act} {w : World} (h : G A w) : Mid G .normal A w := ⟨rfl, h⟩
theorem wp_mid {P : Program} {c : Code} {Q : Exit → Act → World → Prop} {A : Act} {w : World} {G : Act → World → Prop} (h : c.wp P (Mid G) A w) (k : ∀ A' w', G A' w' → Q .normal A' w') : c.wp P Q A w := wp_mono h fun e a w ⟨h1, h2⟩ => by subst h1; exact k a w h2
theorem R_mid {P : Program} {r : Option Nat} {c : Code} {Q : Exit → Act → World → Prop} {A : Act} {w : World} {G : Act → World → Prop} (h : wpR r P c (Mid G) A w) (k : ∀ A' w', G A' w' → Q .normal A' w') : wpR r P c Q A w := wpIn_mono h fun e a w ⟨h1, h2⟩ => by subst h1; exact k a w h2
end Go.Own
