/- The statements about lend: words that came in. -/
import Derived.Test.YtkmaafnbefpdjaaE21
import Derived.Test.YtkmaafnbefpdjaaB3
set_option linter.unusedSimpArgs false
set_option linter.unusedVariables false
namespace Go.Proofs.Ytkmaafnbefpdjaa
open Go.ChangeShapes Go.WideShapes Go.ChangeAt Go.RowKit Go.Deep Go.Joins
abbrev Wf16 := { m : Int // (Lit.int .u16 m).wf = true }
def encWf (n : Wf16) : List Value := [.int .u16 n.1]
instance : Rec encWf 1 := ⟨fun _ => rfl, by decide⟩
theorem opensU : OpensTo Try.prog 96 encWf := (opens_wfint Try.underlying96).to id fun _ => rfl
set_option maxRecDepth 100000 in
theorem open_words {H : Type} {enc : TypeId × Value → H} {w : World} {r : Reach} {b0 base : Nat} {sp : Nat → Bool} {held : Bool} {v : Value} {d : DataW H} {p : List MemPlace} (hv : Value.okWide Try.prog w r b0 50 v) (h : DataW.Trod enc Try.prog w base sp held 50 v d p) :
    ∃ (ws : List Int) (a : Option Addr) (c : Nat), v = .slice a ws.length c ∧ wordsOk ws ∧ KSl a ws.length c encU ws w := by
  obtain ⟨a, c, xs, rfl, hk⟩ := open_slicev Try.underlying50 opensU (by kernel_rfl) hv h
  refine ⟨xs.map (·.1), a, c, by simp, ?_, ?_⟩
  · intro x hx
    obtain ⟨y, _, rfl⟩ := List.mem_map.1 hx
    have := y.2
    simpa [Lit.wf, IntKind.min, IntKind.max, IntKind.signed, IntKind.bits] using this
  · rw [List.length_map]; exact KSl_map (e := encWf) (e2 := encU) (fun x : Wf16 => x.1) (fun _ => rfl) hk
end Go.Proofs.Ytkmaafnbefpdjaa
