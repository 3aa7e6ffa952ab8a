/- The statements about lend: LendFeet. -/
import Derived.Test.YtkmaafnbefpdjaaB10
set_option linter.unusedSimpArgs false
set_option linter.unusedVariables false
namespace Go.Proofs.Ytkmaafnbefpdjaa
open Go.RowKit Go.Shelf

theorem Thin_n (x : Hx) : Cv Try.prog 16 [.agg #[I x.h.lanes, .slice x.a x.h.shoes.length x.c], .slice none 0 0] (KHx x) (.bool (thinB x.h [])) :=
  (Thin_j x none 0 []).mono (pre' := KHx x) (fun w h => KSl_none w) (fun _ _ h => h)
theorem Lack_ca (x : Hx) (q : QH) (feet S : List Int) (c d : QH) : Cv Try.prog 47 [.agg #[I x.h.lanes, .slice q.1 x.h.shoes.length q.2], .slice c.1 feet.length c.2, .slice d.1 S.length d.2] (KAnd (KHx ⟨x.h, q.1, q.2⟩) (KAnd (KSl c.1 feet.length c.2 encI feet) (KSl d.1 S.length d.2 encI S))) (lackE x feet S) := Lack_c x q feet S c.1 d.1 c.2 d.2
end Go.Proofs.Ytkmaafnbefpdjaa
