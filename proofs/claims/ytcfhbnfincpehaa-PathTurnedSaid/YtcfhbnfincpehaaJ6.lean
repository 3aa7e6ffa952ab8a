/- Structs built and taken apart, slices that are read, facts that are known. Nothing is asked. -/
import Derived.Test.YtcfhbnfincpehaaJ5
namespace Go.Proofs.Ytcfhbnfincpehaa
open Go.RowKit Go.Shelf

/-- A slice of records that is read: its parts and its records. -/
def KSl {α : Type} (a : Option Addr) (n cap : Nat) (enc : α → List Value) (xs : List α) : World → Prop := fun w => SlAt w a n cap (xs.flatMap enc) ∧ n = xs.length
class Sees (R : World → Prop) (a : Option Addr) (n cap : outParam Nat) (α : outParam Type) (enc : outParam (α → List Value)) (xs : outParam (List α)) : Prop where
  see : ∀ w, R w → KSl a n cap enc xs w
instance {α : Type} (a : Option Addr) (n cap : Nat) (enc : α → List Value) (xs : List α) : Sees (KSl a n cap enc xs) a n cap α enc xs := ⟨fun _ h => h⟩
instance {α : Type} (A B : World → Prop) (a : Option Addr) (n cap : Nat) (enc : α → List Value) (xs : List α) [h : Sees B a n cap α enc xs] : Sees (KAnd A B) a n cap α enc xs := ⟨fun w hw => h.see w hw.2⟩
instance {α : Type} (A B : World → Prop) (a : Option Addr) (n cap : Nat) (enc : α → List Value) (xs : List α) [h : Sees A a n cap α enc xs] : Sees (KAnd A B) a n cap α enc xs := ⟨fun w hw => h.see w hw.1⟩

/-- The address of a cell of a slice. -/
def eptr (a : Option Addr) (off : Nat) : Value := .pointer (a.map fun p => ⟨p.block, p.off + off, p.spot⟩)

def evP (st : Sto) : List (Nat × Operand) → Option (List (Nat × Value))
  | [] => some []
  | (i, x) :: l => match opnd st x with
    | none => none
    | some v => match evP st l with
      | none => none
      | some r => some ((i, v) :: r)
theorem StOk.evP {N : Nat} {a : Act} {st : Sto} (hs : StOk N st a) : ∀ {l : List (Nat × Operand)} {vs : List (Nat × Value)}, Go.Proofs.Ytcfhbnfincpehaa.evP st l = some vs → l.map (fun (i, x) => (i, a.eval x)) = vs
  | [], vs, h => by cases h; rfl
  | (i, x) :: l, vs, h => by
    simp only [Go.Proofs.Ytcfhbnfincpehaa.evP] at h
    cases hx : opnd st x with
    | none => simp [hx] at h
    | some v =>
      cases hl : Go.Proofs.Ytcfhbnfincpehaa.evP st l with
      | none => simp [hx, hl] at h
      | some r => simp [hx, hl] at h; rw [List.map_cons, StOk.evP hs hl, ← h, ← hs.eval hx]

section
variable {X : Ctx} {P : Program} {st : Sto} {H H' : List Chunk} {R R' : World → Prop} {k : Kont} {ops : Array Oper} {rest : List Oper} {Q : Exit → Act → World → Prop}
variable {d : Option Nat} {ty : TypeId} {pos : String} {af : Array Edge} {g : Option (Nat × Bool)}

theorem det_build {t : TypeId} {l : List (Nat × Operand)} {vs : List (Nat × Value)} {v : Value} (hl : evP st l = some vs) (hr : ∀ w, (Instr.build t vs.toArray).run P w = .ok v w) : PDet P ⟨d, .build t l.toArray, ty, pos, af, g⟩ st v := fun N a w hs => by
  have : (l.toArray.map fun (i, x) => (i, a.eval x)) = vs.toArray := by rw [List.map_toArray, hs.evP hl]
  simp only [execOp, this, Sem.run_bind, hr, Result.andThen_ok, Sem.run_pure]
theorem jo_buildSlice {t T : TypeId} {n : Nat} {l : List (Nat × Operand)} {vs : List (Nat × Value)} {cs : List Value} (hl : evP st l = some vs)
    (hr : ∀ w, (Instr.buildSlice t n vs.toArray).run P w = .ok (.slice (some ⟨w.heap.size, 0, none⟩) n n) (w.alloc (.cells cs.toArray T))) :
    JO X P ⟨d, .buildSlice t n l.toArray, ty, pos, af, g⟩ st H R (fun b : Nat => .slice (some ⟨b, 0, none⟩) n n) (fun b => bx b cs :: H) (fun _ => R) :=
  jo_alloc T (fun a w hs => by
    have : (l.toArray.map fun (i, x) => (i, a.eval x)) = vs.toArray := by rw [List.map_toArray, hs.evP hl]
    simp only [execOp, this, Sem.run_bind, hr, Result.andThen_ok, Sem.run_pure]) (by intro c h; cases h)
theorem det_field {x : Operand} {t f : Nat} {v u : Value} (hx : opnd st x = some v) (hr : ∀ w, (Instr.field t v f).run P w = .ok u w) : PDet P ⟨d, .field t x f, ty, pos, af, g⟩ st u := fun N a w hs => by
  simp only [execOp, hs.eval hx, Sem.run_bind, hr, Result.andThen_ok, Sem.run_pure]
end
end Go.Proofs.Ytcfhbnfincpehaa
