/- The statements about path: what came in, as plain values. -/
import Derived.Test.YtcfhbnfincpehaaX4
import Derived.Test.YtcfhbnfincpehaaOpen
import Derived.Lib.SmallJoins
namespace Go.Proofs.Ytcfhbnfincpehaa
open Go.ChangeShapes Go.WideShapes Go.ChangeAt Go.RowKit Go.Deep Go.Joins

theorem own : ownKnob Try.prog.godebug = none := by kernel_rfl
theorem laidOut : laidOutB Try.prog = true := by kernel_rfl
section
variable {H : Type} {enc : TypeId × Value → H} {P : Program}
theorem open_aggv {α : Type} {e : α → List Value} {t : TypeId} {fs : Array Field} {w : World} {r : Reach} {b0 base : Nat} {sp : Nat → Bool} {held : Bool} {v : Value} {d : DataW H} {p : List MemPlace} (hs : P.underlying t = some (.struct fs)) (hO : OpensTo P t e)
    (hv : Value.okWide P w r b0 t v) (h : DataW.Trod enc P w base sp held t v d p) : ∃ x, v = .agg (e x).toArray := by
  obtain ⟨cs, rfl, _⟩ := okWide_struct hs hv
  obtain ⟨fuel, hf⟩ := h
  obtain ⟨x, hx⟩ := hO _ _ _ _ _ _ _ _ _ hf
  refine ⟨x, ?_⟩
  simp only [Value.cells] at hx
  rw [← hx]
theorem open_slicev {α : Type} {e : α → List Value} {t E : TypeId} {z : Nat} {w : World} {r : Reach} {b0 base : Nat} {sp : Nat → Bool} {held : Bool} {v : Value} {d : DataW H} {p : List MemPlace} (hs : P.underlying t = some (.slice E)) (hE : OpensTo P E e) (hz : P.cellsOf E = z) [hr : Rec e z]
    (hv : Value.okWide P w r b0 t v) (h : DataW.Trod enc P w base sp held t v d p) : ∃ (a : Option Addr) (cap : Nat) (xs : List α), v = .slice a xs.length cap ∧ KSl a xs.length cap e xs w := by
  obtain ⟨a, n, cap, rfl⟩ := okWide_slice hs hv
  obtain ⟨fuel, hf⟩ := h
  obtain ⟨a', cap', xs, h1, h2⟩ := opens_slice hs hE hz hf
  simp only [Value.cells, List.cons.injEq, and_true] at h1
  exact ⟨a', cap', xs, h1, h2⟩
end
theorem opensI : OpensTo Try.prog 3 encI := (opens_int Try.underlying3).to id fun _ => rfl
theorem opensRg : OpensTo Try.prog 53 encRg :=
  (opens_struct2 Try.underlying53 opensI opensI rfl (by kernel_rfl) (by kernel_rfl)).to (fun p => ⟨p.1, p.2⟩) fun _ => rfl
set_option maxRecDepth 100000 in
theorem opensPa : OpensTo Try.prog 89 encPa :=
  (opens_struct3 Try.underlying89 opensRg opensRg opensI rfl (by kernel_rfl) (by kernel_rfl) (by kernel_rfl)).to (fun p => ⟨p.1, p.2.1, p.2.2⟩) fun _ => rfl
theorem opensSt : OpensTo Try.prog 27 encSt :=
  (opens_struct2 Try.underlying27 opensI opensI rfl (by kernel_rfl) (by kernel_rfl)).to (fun p => ⟨p.1, p.2⟩) fun _ => rfl
def encPk (p : Pk) : List Value := [I p.boards.lo, I p.boards.hi, I p.dirs.lo, I p.dirs.hi]
theorem opensPk : OpensTo Try.prog 57 encPk :=
  (opens_struct2 Try.underlying57 opensRg opensRg rfl (by kernel_rfl) (by kernel_rfl)).to (fun p => ⟨p.1, p.2⟩) fun _ => rfl
set_option maxRecDepth 100000 in
theorem open_lane {H : Type} {enc : TypeId × Value → H} {w : World} {r : Reach} {b0 base : Nat} {sp : Nat → Bool} {held : Bool} {v : Value} {d : DataW H} {p : List MemPlace} (hv : Value.okWide Try.prog w r b0 25 v) (h : DataW.Trod enc Try.prog w base sp held 25 v d p) :
    ∃ (l : La) (ha pa : Option Addr) (hc pc : Nat), v = .agg #[I l.boards, I l.rows, .slice ha l.hooks.length hc, .slice pa l.patches.length pc] ∧ KLane l ha hc pa pc w := by
  obtain ⟨v0, v1, v2, v3, y0, y1, y2, y3, n, rfl, _, _, t0, t1, t2, t3⟩ := open_agg4 Try.underlying25 (by kernel_rfl) (by kernel_rfl) hv h
  obtain ⟨b, e0, _⟩ := DataW.trod_int Try.underlying3 t0
  obtain ⟨r', e1, _⟩ := DataW.trod_int Try.underlying3 t1
  obtain ⟨ha, hc, hs, e2, k2⟩ := opens_slice Try.underlying22 opensRg (by kernel_rfl) t2
  obtain ⟨pa, pc, ps, e3, k3⟩ := opens_slice Try.underlying23 opensPa (by kernel_rfl) t3
  simp only [List.cons.injEq, and_true] at e0 e1 e2 e3
  subst e0 e1 e2 e3
  exact ⟨⟨b, r', hs, ps⟩, ha, pa, hc, pc, rfl, k2, k3⟩
theorem KLane.below {l : La} {ha pa : Option Addr} {hc pc : Nat} {w w' : World} (h : KLane l ha hc pa pc w) (hb : Below w.heap.size w w') : KLane l ha hc pa pc w' := ⟨h.1.below hb, h.2.below hb⟩
end Go.Proofs.Ytcfhbnfincpehaa
