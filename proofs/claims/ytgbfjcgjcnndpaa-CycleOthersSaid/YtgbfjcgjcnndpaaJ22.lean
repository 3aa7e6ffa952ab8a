/- A cut of a part that is not followed by another one in its own place. Nothing is asked. -/
import Derived.Test.YtgbfjcgjcnndpaaJ21
set_option linter.unusedSimpArgs false
set_option linter.unusedVariables false
namespace Go.Proofs.Ytgbfjcgjcnndpaa
open Go.RowKit Go.Shelf
section
variable {X : Ctx} {P : Program} {st : Sto} {H : List Chunk} {R : World → Prop} {k : Kont}
theorem JC_cutE {γ : Type} {c : Code} (I : γ → Prop) (ov : γ → Sto) (Hv : γ → List Chunk) (Kn : γ → World → Prop) (D0 : List Chunk)
    (h1 : ∀ K : Act → World → Prop, (∀ g, I g → ∀ a w, Ok X (ov g ++ st) (Hv g ++ D0) (KAnd (Kn g) R) a w → K a w) → JC X P c (.thenP K k) st H R)
    (h2 : ∀ g, I g → JE X P .normal k (ov g ++ st) (Hv g ++ D0) (KAnd (Kn g) R)) : JC X P c k st H R := fun a w ho =>
  wpIn_mono (Q' := kden X P k) (h1 (kden X P k .normal) (fun g hg a w ho => h2 g hg a w ho) a w ho) fun e a w hq => by cases e <;> exact hq
end
end Go.Proofs.Ytgbfjcgjcnndpaa
