/- Steps of a walk: a whole array that lies in a block, as a slice. Nothing is asked. -/
import Derived.Test.YtkmaafnbefpdjaaB4
set_option linter.unusedSimpArgs false
set_option linter.unusedVariables false
namespace Go.Proofs.Ytkmaafnbefpdjaa
open Go.RowKit Go.Shelf

section
variable {P : Program} {st : Sto} {d : Option Nat} {ty : TypeId} {pos : String} {af : Array Edge} {g : Option (Nat × Bool)}
theorem det_sliceArr {x : Operand} {t E b off n z : Nat} (hx : opnd st x = some (.pointer (some ⟨b, off, none⟩)))
    (hu : ∀ w, (underlying t).run P w = .ok (.array n E) w) (hS : ∀ w, (sizeOf E).run P w = .ok z w) : PDet P ⟨d, .slice t x none none none, ty, pos, af, g⟩ st (.slice (some ⟨b, off, none⟩) n n) := fun N ac w hst => by
  simp [execOp, hst.eval hx, Instr.sliceAt, Instr.sliceBounds, Sem.run_bind, Sem.run_pure, Result.andThen, hu, hS, Instr.sureAddr, addr_add]
end
end Go.Proofs.Ytkmaafnbefpdjaa
