/- Shifts; numbers without a sign. Nothing is asked. -/
import Derived.Test.YtgbfjcgjcnndpaaB9
set_option linter.unusedSimpArgs false
set_option linter.unusedVariables false
namespace Go.Proofs.Ytgbfjcgjcnndpaa
open Go.RowKit Go.Shelf
section
variable {P : Program} {st : Sto} {d : Option Nat} {ty : TypeId} {pos : String} {af : Array Edge} {g : Option (Nat × Bool)}
theorem det_shr {x y : Operand} {t t' : TypeId} {m j : Int} {k q : IntKind} (hx : opnd st x = some (.int k m)) (hy : opnd st y = some (.int q j)) (h : 0 ≤ j) : PDet P ⟨d, .binOp .shr t x y t', ty, pos, af, g⟩ st (.int k (m.fdiv (2 ^ min j.toNat k.bits))) := fun N a w hs => by
  have h2 : ¬ j < 0 := by omega
  simp [execOp, hs.eval hx, hs.eval hy, eqGuard, binOp, Op.shift, h2]
theorem det_shl {x y : Operand} {t t' : TypeId} {m j : Int} {q : IntKind} (hx : opnd st x = some (.int .i64 m)) (hy : opnd st y = some (.int q j)) (h : 0 ≤ j) (hi : InI (m * 2 ^ min j.toNat 64)) : PDet P ⟨d, .binOp .shl t x y t', ty, pos, af, g⟩ st (.int .i64 (m * 2 ^ min j.toNat 64)) := fun N a w hs => by
  have h2 : ¬ j < 0 := by omega
  have hb : IntKind.i64.bits = 64 := rfl
  simp [execOp, hs.eval hx, hs.eval hy, eqGuard, binOp, Op.shift, h2, hb, i64_wrap hi]
end
theorem u64_wrap {n : Int} (h : 0 ≤ n ∧ n ≤ 18446744073709551615) : IntKind.u64.wrap n = n := by
  simp [IntKind.wrap, IntKind.bits, IntKind.signed]; omega
end Go.Proofs.Ytgbfjcgjcnndpaa
