/- The end of a known slice. Nothing is asked. -/
import Derived.Test.YtgbfjcgjcnndpaaJ22
set_option linter.unusedSimpArgs false
set_option linter.unusedVariables false
namespace Go.Proofs.Ytgbfjcgjcnndpaa
open Go.RowKit Go.Shelf
/-- The address behind s[k:]. -/
def dropA (a : Option Addr) (k cap z : Nat) : Option Addr := if cap = k then a else a.map (·.add (k * z))
section
variable {X : Ctx} {P : Program} {st : Sto} {H : List Chunk} {R : World → Prop}
variable {d : Option Nat} {ty : TypeId} {pos : String} {af : Array Edge} {g : Option (Nat × Bool)}
theorem det_sliceF {x y : Operand} {t E n cap z : Nat} {a : Option Addr} {q : IntKind} {j : Int} (m : Nat) (hx : opnd st x = some (.slice a n cap)) (hy : opnd st y = some (.int q j)) (hj : j = (m : Int)) (hm : m ≤ n)
    (hu : ∀ w, (underlying t).run P w = .ok (.slice E) w) (hS : ∀ w, (sizeOf E).run P w = .ok z w) : PDet P ⟨d, .slice t x (some y) none none, ty, pos, af, g⟩ st (.slice (dropA a m cap z) (n - m) (cap - m)) := fun N ac w hst => by
  subst hj
  have e3 : (0 : Int) ≤ (m : Int) ∧ (m : Int) ≤ (n : Int) := by omega
  simp [execOp, hst.eval hx, hst.eval hy, Instr.sliceAt, Instr.slice, Instr.sliceBounds, Instr.sliceBound, asIntOf, Sem.run_bind, Sem.run_pure, Result.andThen, hu, hS, hm, e3, dropA]
theorem KSl_drop {α : Type} {enc : α → List Value} {z : Nat} [hz : Rec enc z] {a : Option Addr} {n cap : Nat} {xs : List α} {w : World} (h : KSl a n cap enc xs w) {m : Nat} (hm : m ≤ n) : KSl (dropA a m cap z) (n - m) (cap - m) enc (xs.drop m) w := by
  obtain ⟨⟨h1, h2, h3, h4⟩, h5⟩ := h
  have hl : ((xs.take m).flatMap enc).length = m * z := by rw [flatMap_len enc z hz.len, List.length_take]; congr 1; omega
  have e : xs.flatMap enc = (xs.take m).flatMap enc ++ (xs.drop m).flatMap enc := by rw [← List.flatMap_append, List.take_append_drop]
  refine ⟨⟨by omega, by omega, fun ha => ?_, fun hne => ?_⟩, by rw [List.length_drop]; omega⟩
  · have ha2 : a = none := by
      unfold dropA at ha
      split at ha
      · exact ha
      · cases a with
        | none => rfl
        | some p => cases ha
    have := h3 ha2; omega
  · have hne2 : xs.flatMap enc ≠ [] := fun e2 => by
      rw [e] at e2
      exact hne (List.append_eq_nil_iff.1 e2).2
    have hd : xs.drop m ≠ [] := fun e2 => hne (by rw [e2]; rfl)
    have hlt : m < xs.length := by
      apply Classical.byContradiction
      intro hge
      exact hd (List.drop_eq_nil_of_le (by omega))
    obtain ⟨b, off, q1, q2, q3⟩ := h4 hne2
    refine ⟨b, off + m * z, ?_, q2, fun i c hi => ?_⟩
    · unfold dropA
      rw [if_neg (by omega), q1]
      simp [Addr.add]
    · have := q3 (m * z + i) c (by rw [e, List.getElem?_append_right (by omega), hl, Nat.add_sub_cancel_left]; exact hi)
      rwa [← Nat.add_assoc] at this
end
end Go.Proofs.Ytgbfjcgjcnndpaa
