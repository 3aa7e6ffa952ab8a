/- The form of a slice of the call's own. Nothing is asked. -/
import Derived.Test.YtgbfjcgjcnndpaaJ23
set_option linter.unusedSimpArgs false
set_option linter.unusedVariables false
namespace Go.Proofs.Ytgbfjcgjcnndpaa
open Go.RowKit Go.Shelf
section
variable {X : Ctx} {P : Program} {st : Sto} {H H' : List Chunk} {R : World → Prop} {k : Kont}
theorem ok_formS {ac : Act} {w : World} {v : Value} {n T z : Nat} {xs : List Value} [hp : OwnAt H v T z n xs H'] (h : Ok X st H R ac w) : ∃ a cap, v = .slice a n cap := by
  obtain ⟨h1, M, Ds, h2, hm⟩ := h
  obtain ⟨A, B, e1, e2⟩ := hp.ex
  have := (hm.hold (ow v T z n xs) (by rw [e1]; simp)).now
  rcases this.2 with ⟨h2, h3⟩ | ⟨g, cap', cur, hv, _⟩
  · exact ⟨none, 0, by rw [h2, h3]⟩
  · exact ⟨_, cap', hv⟩
theorem JC_formS {c : Code} {n T z : Nat} {xs : List Value} (v : Value) [hp : OwnAt H v T z n xs H'] (h : ∀ a cap, v = .slice a n cap → JC X P c k st H R) : JC X P c k st H R := fun ac w ho => by
  obtain ⟨a, cap, e⟩ := ok_formS (v := v) ho
  exact h a cap e ac w ho
end
end Go.Proofs.Ytgbfjcgjcnndpaa
