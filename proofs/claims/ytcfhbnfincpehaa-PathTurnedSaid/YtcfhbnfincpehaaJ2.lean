/- The operations, each by what it needs and what it leaves: slots, numbers, boxes. Nothing is asked. -/
import Derived.Test.YtcfhbnfincpehaaJ
import Derived.IntWalk
namespace Go.Proofs.Ytcfhbnfincpehaa
open Go.RowKit Go.Shelf

section
variable {X : Ctx} {P : Program} {st : Sto} {H H' : List Chunk} {R R' : World → Prop} {k : Kont} {ops : Array Oper} {rest : List Oper} {Q : Exit → Act → World → Prop}
variable {d : Option Nat} {ty : TypeId} {pos : String} {af : Array Edge} {g : Option (Nat × Bool)}

theorem det_move {x : Operand} {v : Value} (hx : opnd st x = some v) : PDet P ⟨d, .move x, ty, pos, af, g⟩ st v := fun N a w hs => by
  simp [execOp, hs.eval hx]
theorem det_assign {x : Operand} {v : Value} (hx : opnd st x = some v) : PDet P ⟨d, .assign x, ty, pos, af, g⟩ st v := fun N a w hs => by
  simp [execOp, hs.eval hx]
theorem det_pick {c x y : Operand} {b : Bool} {u v : Value} (hc : opnd st c = some (.bool b)) (hx : opnd st x = some u) (hy : opnd st y = some v) : PDet P ⟨d, .pick c x y, ty, pos, af, g⟩ st (if b then u else v) := fun N a w hs => by
  simp [execOp, hs.eval hx, hs.eval hy, hs.eval hc, asBool, Result.andThen]
theorem det_pick_t {c x y : Operand} {b : Bool} {u : Value} (hc : opnd st c = some (.bool b)) (hb : b = true) (hx : opnd st x = some u) : PDet P ⟨d, .pick c x y, ty, pos, af, g⟩ st u := fun N a w hs => by
  simp [execOp, hs.eval hx, hs.eval hc, asBool, Result.andThen, hb]
theorem det_pick_f {c x y : Operand} {b : Bool} {u : Value} (hc : opnd st c = some (.bool b)) (hb : b = false) (hy : opnd st y = some u) : PDet P ⟨d, .pick c x y, ty, pos, af, g⟩ st u := fun N a w hs => by
  simp [execOp, hs.eval hy, hs.eval hc, asBool, Result.andThen, hb]
theorem det_extract {x : Operand} {i : Nat} {vs : List Value} {v : Value} (hx : opnd st x = some (.tuple vs.toArray)) (hi : vs[i]? = some v) : PDet P ⟨d, .extract x i, ty, pos, af, g⟩ st v := fun N a w hs => by
  simp [execOp, hs.eval hx, Instr.extract, hi]
theorem det_makeFunc {fn : Fn} {first captured : List Operand} {us vs : List Value} (hu : first.mapM (opnd st) = some us) (hv : captured.mapM (opnd st) = some vs) :
    PDet P ⟨d, .makeFunc fn first.toArray captured.toArray, ty, pos, af, g⟩ st (.func fn us.toArray vs.toArray) := fun N a w hs => by
  have key : ∀ (l : List Operand) (us : List Value), l.mapM (opnd st) = some us → l.map a.eval = us := by
    intro l
    induction l with
    | nil => intro us h; simp at h; simp [h]
    | cons x l ih =>
      intro us h
      rw [List.mapM_cons] at h
      cases hx : opnd st x with
      | none => simp [hx] at h
      | some u =>
        cases hl : l.mapM (opnd st) with
        | none => simp [hx, hl] at h
        | some us' =>
          simp [hx, hl] at h
          rw [List.map_cons, hs.eval hx, ih us' hl, h]
  simp [execOp, Instr.makeFunc, key _ _ hu, key _ _ hv]
theorem det_nilCheck {x : Operand} {p : Addr} (hx : opnd st x = some (.pointer (some p))) : PDet P ⟨d, .nilCheck x, ty, pos, af, g⟩ st (.pointer (some p)) := fun N a w hs => by
  simp [execOp, hs.eval hx]
theorem det_not {x : Operand} {b : Bool} {t : TypeId} (hx : opnd st x = some (.bool b)) : PDet P ⟨d, .unOp .not t x, ty, pos, af, g⟩ st (.bool (!b)) := fun N a w hs => by
  simp [execOp, hs.eval hx, Op.unary]

/-- The range of int. -/
def InI (n : Int) : Prop := -9223372036854775808 ≤ n ∧ n ≤ 9223372036854775807
theorem i64_wrap {n : Int} (h : InI n) : IntKind.i64.wrap n = n := by
  unfold InI at h; simp [IntKind.wrap, IntKind.bits, IntKind.signed]; omega
theorem det_add {x y : Operand} {t t' : TypeId} {m n : Int} (hx : opnd st x = some (.int .i64 m)) (hy : opnd st y = some (.int .i64 n)) (h : InI (m + n)) : PDet P ⟨d, .binOp .add t x y t', ty, pos, af, g⟩ st (.int .i64 (m + n)) := fun N a w hs => by
  simp [execOp, hs.eval hx, hs.eval hy, eqGuard, binOp, Op.intArith, i64_wrap h]
theorem det_sub {x y : Operand} {t t' : TypeId} {m n : Int} (hx : opnd st x = some (.int .i64 m)) (hy : opnd st y = some (.int .i64 n)) (h : InI (m - n)) : PDet P ⟨d, .binOp .sub t x y t', ty, pos, af, g⟩ st (.int .i64 (m - n)) := fun N a w hs => by
  simp [execOp, hs.eval hx, hs.eval hy, eqGuard, binOp, Op.intArith, i64_wrap h]
theorem det_mul {x y : Operand} {t t' : TypeId} {m n : Int} (hx : opnd st x = some (.int .i64 m)) (hy : opnd st y = some (.int .i64 n)) (h : InI (m * n)) : PDet P ⟨d, .binOp .mul t x y t', ty, pos, af, g⟩ st (.int .i64 (m * n)) := fun N a w hs => by
  simp [execOp, hs.eval hx, hs.eval hy, eqGuard, binOp, Op.intArith, i64_wrap h]
theorem det_neg {x : Operand} {t : TypeId} {m : Int} (hx : opnd st x = some (.int .i64 m)) (h : InI (-m)) : PDet P ⟨d, .unOp .neg t x, ty, pos, af, g⟩ st (.int .i64 (-m)) := fun N a w hs => by
  have e : (0 : Int) - m = -m := by omega
  simp [execOp, hs.eval hx, Op.unary, Op.intArith, e, i64_wrap h]
theorem det_lss {x y : Operand} {t t' : TypeId} {m n : Int} {q : IntKind} (hx : opnd st x = some (.int q m)) (hy : opnd st y = some (.int q n)) : PDet P ⟨d, .binOp .lss t x y t', ty, pos, af, g⟩ st (.bool (decide (m < n))) := fun N a w hs => by
  simp [execOp, hs.eval hx, hs.eval hy, eqGuard, binOp, Op.intCmp]
theorem det_leq {x y : Operand} {t t' : TypeId} {m n : Int} {q : IntKind} (hx : opnd st x = some (.int q m)) (hy : opnd st y = some (.int q n)) : PDet P ⟨d, .binOp .leq t x y t', ty, pos, af, g⟩ st (.bool (decide (m ≤ n))) := fun N a w hs => by
  simp [execOp, hs.eval hx, hs.eval hy, eqGuard, binOp, Op.intCmp]
theorem det_gtr {x y : Operand} {t t' : TypeId} {m n : Int} {q : IntKind} (hx : opnd st x = some (.int q m)) (hy : opnd st y = some (.int q n)) : PDet P ⟨d, .binOp .gtr t x y t', ty, pos, af, g⟩ st (.bool (decide (n < m))) := fun N a w hs => by
  simp [execOp, hs.eval hx, hs.eval hy, eqGuard, binOp, Op.intCmp]
theorem det_geq {x y : Operand} {t t' : TypeId} {m n : Int} {q : IntKind} (hx : opnd st x = some (.int q m)) (hy : opnd st y = some (.int q n)) : PDet P ⟨d, .binOp .geq t x y t', ty, pos, af, g⟩ st (.bool (decide (n ≤ m))) := fun N a w hs => by
  simp [execOp, hs.eval hx, hs.eval hy, eqGuard, binOp, Op.intCmp]
theorem det_eql {x y : Operand} {t t' : TypeId} {m n : Int} {q : IntKind} (hx : opnd st x = some (.int q m)) (hy : opnd st y = some (.int q n)) : PDet P ⟨d, .binOp .eql t x y t', ty, pos, af, g⟩ st (.bool (decide (m = n))) := fun N a w hs => by
  have e : (m == n) = decide (m = n) := by rw [Bool.eq_iff_iff]; simp
  have e2 : (m != n) = !decide (m = n) := by rw [bne, e]
  simp [execOp, hs.eval hx, hs.eval hy, eqGuard, binOp, Op.intCmp, e, e2]
theorem det_neq {x y : Operand} {t t' : TypeId} {m n : Int} {q : IntKind} (hx : opnd st x = some (.int q m)) (hy : opnd st y = some (.int q n)) : PDet P ⟨d, .binOp .neq t x y t', ty, pos, af, g⟩ st (.bool (!decide (m = n))) := fun N a w hs => by
  have e : (m == n) = decide (m = n) := by rw [Bool.eq_iff_iff]; simp
  have e2 : (m != n) = !decide (m = n) := by rw [bne, e]
  simp [execOp, hs.eval hx, hs.eval hy, eqGuard, binOp, Op.intCmp, e, e2]

/-! Boxes. -/
theorem cells_run {w : World} {b : Nat} {cs : List Value} (h : Box w b cs) (off n : Nat) (vs : List Value) (hv : (cs.drop off).take n = vs) (hn : vs.length = n) :
    (loadCells ⟨b, off, none⟩ n).run P w = .ok vs.toArray w := by
  have := run_loadCells (P := P) (w := w) ⟨b, off, none⟩ n (fun j => vs.getD j undef) (fun j hj => by
    have hj' : cs[off + j]? = some (vs.getD j undef) := by
      rw [← hv, List.getD_eq_getElem?_getD, List.getElem?_take_of_lt hj, List.getElem?_drop]
      have : off + j < cs.length := by
        have := congrArg List.length hv
        rw [List.length_take, List.length_drop, hn] at this; omega
      rw [List.getElem?_eq_getElem this]; rfl
    have := h.cell _ hj'
    rcases j with _ | j <;> simpa [Addr.add] using this)
  rw [this]
  congr 1
  apply Array.ext
  · simp [hn]
  · intro i h1 h2; simp at h1 h2; simp [List.getD_eq_getElem?_getD, h2]
theorem det_load {x : Operand} {t : TypeId} {b off : Nat} {cs : List Value} {v : Value} (hx : opnd st x = some (.pointer (some ⟨b, off, none⟩))) [hb : BoxAt H b cs] (hA : ∀ w, (isAgg t).run P w = .ok false w) (hc : cs[off]? = some v) :
    Det X P ⟨d, .load t x, ty, pos, af, g⟩ st H R v := fun a w M Ds hs hm => by
  have hbx : Box w b cs := (hm.hold _ hb.mem).now
  have := run_load (P := P) (w := w) ⟨b, off, none⟩ .plain
  simp [execOp, hs.eval hx, Instr.loadAt, Instr.sureAddr, loadVar, Sem.run_bind, hA, Result.andThen, hbx.cell off hc, this]
theorem det_loadA {x : Operand} {t : TypeId} {b off n : Nat} {cs vs : List Value} (hx : opnd st x = some (.pointer (some ⟨b, off, none⟩))) [hb : BoxAt H b cs] (hA : ∀ w, (isAgg t).run P w = .ok true w) (hS : ∀ w, (sizeOf t).run P w = .ok n w) (hv : (cs.drop off).take n = vs) (hn : vs.length = n) :
    Det X P ⟨d, .load t x, ty, pos, af, g⟩ st H R (.agg vs.toArray) := fun a w M Ds hs hm => by
  have hbx : Box w b cs := (hm.hold _ hb.mem).now
  have hr := cells_run (P := P) hbx off n vs hv hn
  simp [execOp, hs.eval hx, Instr.loadAt, Instr.sureAddr, loadVar, Sem.run_bind, hA, hS, Result.andThen, hr]
theorem addr_add (b off k : Nat) : (⟨b, off, none⟩ : Addr).add k = ⟨b, off + k, none⟩ := by
  cases k <;> simp [Addr.add]
/-- Where a field lies. -/
def FieldOff (P : Program) (s f k : Nat) : Prop := ∀ (p : Addr) (w : World), (Instr.fieldAt s (.pointer (some p)) f).run P w = .ok (.pointer (some (p.add k))) w
theorem det_fieldAddr {x : Operand} {s f k b off : Nat} (hx : opnd st x = some (.pointer (some ⟨b, off, none⟩))) (hf : FieldOff P s f k) : PDet P ⟨d, .fieldAddr s x f, ty, pos, af, g⟩ st (.pointer (some ⟨b, off + k, none⟩)) := fun N a w hs => by
  have := hf ⟨b, off, none⟩ w
  rw [addr_add] at this
  simp [execOp, hs.eval hx, this]

theorem jo_new {o : Oper} (ob : Obj) (vf : Nat → Value) (c : Nat → Chunk) (hx : ∀ a w, StOk X.N st a → (execOp a.eval o).run P w = .ok (.value (vf w.heap.size)) (w.alloc ob))
    (hc : ∀ w : World, (c w.heap.size).holds (w.alloc ob)) (ho : ∀ n b, (c n).own b → b = n) (hd : ∀ c, o.op ≠ .defer c) : JO X P o st H R vf (fun b => c b :: H) (fun _ => R) := by
  intro a w M Ds K Q hs hm hK
  refine ⟨fun f _ => fof_fn _ f, ?_⟩
  rw [semAt_plain _ _ _ hd, hx a w hs]
  refine hK w.heap.size _ (fun b => M b ∨ b = w.heap.size) ?_
  have := hm.swap (C := []) (D := H) (C' := [c w.heap.size]) (R' := fun _ => True) (w' := w.alloc ob) (fun b => M b ∨ b = w.heap.size)
    (Moves.of_below ((Below.refl _ _).alloc (Nat.le_refl _) _)) (fun b hb => .inl hb) (fun b hb => hb.imp id (fun e => by omega)) (fun b hb => by
      rw [World.size_alloc]; rcases hb with hb | rfl
      · have := hm.bd b hb; omega
      · omega)
    (by intro c hc'; simp at hc'; subst hc'; exact hc w) (by intro c hc' b hb; simp at hc'; subst hc'; have := ho _ _ hb; subst this; exact ⟨.inr rfl, .inr (Nat.le_refl _)⟩) (by simp) (fun _ _ => trivial)
  exact this.know fun w h => h.2
theorem jo_alloc {o : Oper} (t : TypeId) {cs : List Value} {vf : Nat → Value} (hx : ∀ a w, StOk X.N st a → (execOp a.eval o).run P w = .ok (.value (vf w.heap.size)) (w.alloc (.cells cs.toArray t)))
    (hd : ∀ c, o.op ≠ .defer c) : JO X P o st H R vf (fun b => bx b cs :: H) (fun _ => R) :=
  jo_new (.cells cs.toArray t) vf (fun b => bx b cs) hx (fun w => bx_holds (Box.new _ _ _)) (fun _ _ h => h) hd
theorem run_newRow (P : Program) (w : World) (t : TypeId) (cs : Array Value) : (newRow t cs).run P w = .ok ⟨w.heap.size, 0, none⟩ (w.alloc (.cells cs t)) := by
  rfl
theorem jo_box {x : Operand} {t : TypeId} {v : Value} {cs : List Value} (hx : opnd st x = some v) (hc : v.cells = cs.toArray) : JO X P ⟨d, .box t x, ty, pos, af, g⟩ st H R (fun b : Nat => .pointer (some ⟨b, 0, none⟩)) (fun b => bx b cs :: H) (fun _ => R) :=
  jo_alloc t (fun a w hs => by
    simp [execOp, hs.eval hx, Instr.box, newVar, Sem.run_bind, run_newRow, Result.andThen, hc]) (by intro c h; cases h)
theorem jo_alloc0 {t : TypeId} {z : Value} {cs : List Value} (hz : ∀ w, (zeroValue t).run P w = .ok z w) (hc : z.cells = cs.toArray) : JO X P ⟨d, .alloc t, ty, pos, af, g⟩ st H R (fun b : Nat => .pointer (some ⟨b, 0, none⟩)) (fun b => bx b cs :: H) (fun _ => R) :=
  jo_alloc t (fun a w hs => by
    simp [execOp, Instr.alloc, newVar, Sem.run_bind, run_newRow, hz, Result.andThen, hc]) (by intro c h; cases h)

end
end Go.Proofs.Ytcfhbnfincpehaa
