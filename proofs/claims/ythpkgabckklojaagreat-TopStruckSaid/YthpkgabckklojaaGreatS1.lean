/- Own texts, laid together: Kit KitM KitR KitS. Nothing is asked. -/
import Derived.WalkKit
import Derived.WalkLawsBesides
import Derived.WalkSpells
import Derived.Lib.Hide
import Derived.Shelf.Abstract
import Derived.Deep.QuietTactic
import Derived.BigQuiet
import Derived.StillTailTactics
import Derived.Deep.LoopGhost
import Derived.Deep.DeepCutAuto
import Derived.Maps.OwnSet
import Derived.Maps.OwnIn
import Derived.Laws.StructEq
import Derived.Maps.RangeRun
import Derived.RangeFuncNested
import Derived.RangeFuncBound
import Derived.RangeFuncCalls
import Derived.RangeFuncLeaves
import Derived.OwnWalkIn
import Derived.TacticsInMore
import Derived.LoopNIn
import Derived.LoopIn
import Derived.Deep.AppendLies
set_option linter.unusedSimpArgs false
set_option linter.unusedVariables false
/- Plain words for the walks: records of integers as values, slices that read as lists. Nothing is asked. -/
namespace Go.Proofs.YthpkgabckklojaaGreat
open Go.RowKit Go.Shelf

abbrev I (n : Int) : Value := .int .i64 n

/-- The cells from (b, o) on are those of the list. -/
def CellsAt (w : World) (b o : Nat) (cs : List Value) : Prop := ∀ i c, cs[i]? = some c → w.cell? ⟨b, o + i, none⟩ = some c

/-- A slice's parts: its cells read as the list. -/
def SlAt (w : World) (a : Option Addr) (n cap : Nat) (cs : List Value) : Prop :=
  n ≤ cap ∧ cap ≤ maxLen ∧ (a = none → n = 0 ∧ cap = 0) ∧ (cs ≠ [] → ∃ b o, a = some ⟨b, o, none⟩ ∧ b < w.heap.size ∧ CellsAt w b o cs)

/-- A slice's value reads as a list of records. -/
def SlOf {α : Type} (enc : α → List Value) (w : World) (v : Value) (xs : List α) : Prop :=
  ∃ a cap, v = .slice a xs.length cap ∧ SlAt w a xs.length cap (xs.flatMap enc)

theorem CellsAt.below {w w' : World} {b o B : Nat} {cs : List Value} (h : CellsAt w b o cs) (hb : Below B w w') (hB : b < B) : CellsAt w' b o cs :=
  fun i c hc => (hb.cell (p := ⟨b, o + i, none⟩) hB).trans (h i c hc)

theorem SlAt.below {w w' : World} {a : Option Addr} {n cap B : Nat} {cs : List Value} (h : SlAt w a n cap cs) (hb : Below B w w') (hB : w.heap.size ≤ B) : SlAt w' a n cap cs := by
  refine ⟨h.1, h.2.1, h.2.2.1, fun hne => ?_⟩
  obtain ⟨b, o, ha, hlt, hc⟩ := h.2.2.2 hne
  exact ⟨b, o, ha, Nat.lt_of_lt_of_le hlt hb.size, hc.below hb (Nat.lt_of_lt_of_le hlt hB)⟩

theorem SlAt.bd {w : World} {a : Option Addr} {n cap : Nat} {cs : List Value} (h : SlAt w a n cap cs) : n ≤ 9223372036854775807 := by
  have h1 := h.1; have h2 := h.2.1; unfold maxLen at h2; omega

theorem SlOf.below {α : Type} {enc : α → List Value} {w w' : World} {v : Value} {xs : List α} {B : Nat} (h : SlOf enc w v xs) (hb : Below B w w') (hB : w.heap.size ≤ B) : SlOf enc w' v xs := by
  obtain ⟨a, cap, hv, hs⟩ := h
  exact ⟨a, cap, hv, hs.below hb hB⟩

theorem flatMap_get {α : Type} (enc : α → List Value) (k : Nat) (hk : ∀ x, (enc x).length = k) : ∀ (xs : List α) (i j : Nat) (x : α), xs[i]? = some x → j < k → (xs.flatMap enc)[i * k + j]? = (enc x)[j]?
  | [], i, j, x, h, _ => by simp at h
  | y :: ys, 0, j, x, h, hj => by
    simp at h; subst h
    rw [List.flatMap_cons, List.getElem?_append_left (by rw [hk]; omega)]; simp
  | y :: ys, i + 1, j, x, h, hj => by
    simp only [List.getElem?_cons_succ] at h
    rw [List.flatMap_cons, List.getElem?_append_right (by rw [hk, Nat.add_mul]; omega), hk]
    rw [show (i + 1) * k + j - k = i * k + j from by rw [Nat.add_mul]; omega]
    exact flatMap_get enc k hk ys i j x h hj

theorem flatMap_len {α : Type} (enc : α → List Value) (k : Nat) (hk : ∀ x, (enc x).length = k) (xs : List α) : (xs.flatMap enc).length = xs.length * k := by
  induction xs with
  | nil => simp
  | cons x xs ih => simp [List.flatMap_cons, hk, ih, Nat.add_mul]; omega

/-- The cells of the i-th record. -/
theorem SlAt.rec {α : Type} {enc : α → List Value} {w : World} {a : Option Addr} {n cap : Nat} {xs : List α} (h : SlAt w a n cap (xs.flatMap enc)) (k : Nat) (hk : ∀ x, (enc x).length = k) (hk0 : 0 < k) (i : Nat) (hi : i < xs.length) :
    ∃ b o, a = some ⟨b, o, none⟩ ∧ b < w.heap.size ∧ ∀ j c, (enc xs[i])[j]? = some c → w.cell? ⟨b, o + i * k + j, none⟩ = some c := by
  have hne : xs.flatMap enc ≠ [] := by
    intro e
    have := flatMap_len enc k hk xs
    rw [e] at this
    have h2 : 0 < xs.length * k := Nat.mul_pos (by omega) hk0
    simp only [List.length_nil] at this
    omega
  obtain ⟨b, o, ha, hlt, hc⟩ := h.2.2.2 hne
  refine ⟨b, o, ha, hlt, fun j c hj => ?_⟩
  have hj' : j < k := by rw [← hk xs[i]]; exact (List.getElem?_eq_some_iff.1 hj).1
  have := hc (i * k + j) c (by rw [flatMap_get enc k hk xs i j xs[i] (by simp) hj']; exact hj)
  rwa [← Nat.add_assoc] at this

/-- What a contract's world gives, in the walk's own words. -/
theorem bcell {W w1 : World} (hb : Below W.heap.size W w1) : (∀ b o, b < W.heap.size → w1.cell? ⟨b, o, none⟩ = W.cell? ⟨b, o, none⟩) ∧ (∀ b o, b < W.heap.size → w1.frozen? ⟨b, o, none⟩ = W.frozen? ⟨b, o, none⟩) ∧ W.heap.size ≤ w1.heap.size :=
  ⟨fun b o h => hb.cell (p := ⟨b, o, none⟩) h, fun b o h => hb.frozen (p := ⟨b, o, none⟩) h, hb.size⟩

/-- A block of the call's own, known whole. -/
def Box (w : World) (b : Nat) (cs : List Value) : Prop := ∃ T, w.heap[b]? = some (.cells cs.toArray T (0, 0))
theorem Box.lt {w : World} {b : Nat} {cs : List Value} (h : Box w b cs) : b < w.heap.size := by
  obtain ⟨T, h⟩ := h; exact (Array.getElem?_eq_some_iff.1 h).1
theorem Box.cell {w : World} {b : Nat} {cs : List Value} (h : Box w b cs) (i : Nat) {c : Value} (hc : cs[i]? = some c) : w.cell? ⟨b, i, none⟩ = some c := by
  obtain ⟨T, h⟩ := h; simp [World.cell?, h, hc]
theorem Box.free {w : World} {b : Nat} {cs : List Value} (h : Box w b cs) (i : Nat) : w.frozen? ⟨b, i, none⟩ = false := by
  obtain ⟨T, h⟩ := h; simp [World.frozen?, h]
theorem Box.below {w w' : World} {b B : Nat} {cs : List Value} (h : Box w b cs) (hb : Below B w w') (hB : b < B) : Box w' b cs := by
  obtain ⟨T, h⟩ := h; exact ⟨T, (hb.block b hB).trans h⟩
theorem Box.later {w w' : World} {b : Nat} {cs : List Value} (h : Box w b cs) (hb : Below w.heap.size w w') : Box w' b cs := h.below hb h.lt
theorem Box.alloc {w : World} {b : Nat} {cs : List Value} (h : Box w b cs) (o : Obj) : Box (w.alloc o) b cs := h.later ((Below.refl _ _).alloc (Nat.le_refl _) _)
theorem Box.new (w : World) (cs : List Value) (T : TypeId) : Box (w.alloc (.cells cs.toArray T)) w.heap.size cs := ⟨T, heap_alloc_new w _⟩
theorem Box.new' {w : World} {b : Nat} (cs : List Value) (T : TypeId) (h : b = w.heap.size) : Box (w.alloc (.cells cs.toArray T)) b cs := h ▸ Box.new w cs T
theorem Box.set {w : World} {b : Nat} {cs : List Value} (h : Box w b cs) (i : Nat) (v : Value) : Box (w.setCell ⟨b, i, none⟩ v) b (cs.set i v) := by
  obtain ⟨T, h⟩ := h
  refine ⟨T, ?_⟩
  simp only [World.setCell, Array.getElem?_modify, if_true, h]
  simp
theorem Box.other {w : World} {b : Nat} {cs : List Value} (h : Box w b cs) {a : Addr} (ha : a.block ≠ b) (v : Value) : Box (w.setCell a v) b cs := by
  obtain ⟨T, h⟩ := h; exact ⟨T, (Below.heap_setCell w a v b (fun e => ha e.symm)).trans h⟩

theorem Box.drew {w : World} {b : Nat} {cs : List Value} (h : Box w b cs) : Box w.drew b cs := h
/-- For the walk's own set: sizes. -/
theorem lt_step {a b c : Nat} (h : a < b) : a < b + c := Nat.lt_add_right c h
theorem le_step {a b : Nat} (h : a < b) : a ≤ b := Nat.le_of_lt h

theorem below_set {B : Nat} {a w : World} {b i : Nat} {u : Value} (h : Below B a w) (hp : B ≤ b) : Below B a (w.setCell ⟨b, i, none⟩ u) := h.setCell (p := ⟨b, i, none⟩) hp u
theorem ret_bool {a b : Bool} (h : a = b) : Ending.returned (.bool a) = .returned (.bool b) := by rw [h]
theorem ret_int {k : IntKind} {a b : Int} (h : a = b) : Ending.returned (.int k a) = .returned (.int k b) := by rw [h]
theorem ret_agg2 {a b c d : Int} (h : a = c) (h' : b = d) : Ending.returned (.agg #[I a, I b]) = .returned (.agg #[I c, I d]) := by rw [h, h']

/-- Where the first element lies of which p holds; -1. -/
def idxOf {α : Type} (p : α → Bool) (xs : List α) : Int := match xs.findIdx? p with | some k => k | none => -1
theorem idxOf_hit {α : Type} {p : α → Bool} {xs : List α} {k : Nat} (hk : k < xs.length) (hb : (xs.take k).any p = false) (hp : p xs[k] = true) : idxOf p xs = k := by
  have : xs.findIdx? p = some k := by
    rw [List.findIdx?_eq_some_iff_getElem]
    refine ⟨hk, hp, fun j hj => ?_⟩
    rw [List.any_eq_false] at hb
    have := hb (xs[j]) (by rw [List.mem_take_iff_getElem]; exact ⟨j, by omega, rfl⟩)
    simpa using this
  simp [idxOf, this]
theorem idxOf_none {α : Type} {p : α → Bool} {xs : List α} (hb : xs.any p = false) : idxOf p xs = -1 := by
  have : xs.findIdx? p = none := by
    rw [List.findIdx?_eq_none_iff]
    intro x hx
    rw [List.any_eq_false] at hb
    simpa using hb x hx
  simp [idxOf, this]
theorem idxOf_any {α : Type} {p : α → Bool} {xs : List α} : decide (0 ≤ idxOf p xs) = xs.any p := by
  cases h : xs.any p with
  | false => rw [idxOf_none h]; rfl
  | true =>
    cases hf : xs.findIdx? p with
    | none =>
      rw [List.findIdx?_eq_none_iff] at hf
      rw [List.any_eq_true] at h
      obtain ⟨x, hx, hpx⟩ := h
      have := hf x hx
      rw [hpx] at this; cases this
    | some k => simp [idxOf, hf]
theorem any_take_succ {α : Type} {p : α → Bool} {xs : List α} {k : Nat} (hk : k < xs.length) (hb : (xs.take k).any p = false) (hp : p xs[k] = false) : (xs.take (k + 1)).any p = false := by
  rw [List.take_succ_eq_append_getElem hk, List.any_append, hb]; simp [hp]

/-- Results that lie in a block of the call's own. -/
theorem res_cell {P : Program} {fn : Func} {p : Tmp} {ty : TypeId} {b : Nat} {cs : List Value} {w : World} {d : TypeDesc} (h : fn.results = #[.cell p ty]) (tmps : Array Value) (hp : tmps.getD p undef = .pointer (some ⟨b, 0, none⟩)) (hx : Box w b cs)
    (hu : P.underlying ty = some d) (hd : (match d with | .struct _ | .array _ _ => true | _ => false) = true) (hi : (P.info? ty).map (·.size) = some cs.length) :
    (results fn tmps).run P w = .ok (.agg cs.toArray) w := by
  obtain ⟨T, hx⟩ := hx
  have := run_loadVar_row (P := P) w b T ty cs.toArray (0, 0) d hx hu hd (by simpa using hi)
  have hp' : tmps[p]?.getD undef = .pointer (some ⟨b, 0, none⟩) := by simpa using hp
  simp only [results, h]
  simp [Sem.run_bind, hp', asAddr, this, Result.andThen]
theorem res_cell_tmp {P : Program} {fn : Func} {p u : Tmp} {ty : TypeId} {b : Nat} {cs : List Value} {w : World} {d : TypeDesc} (h : fn.results = #[.cell p ty, .tmp u]) (tmps : Array Value) (hp : tmps.getD p undef = .pointer (some ⟨b, 0, none⟩)) (hx : Box w b cs)
    (hu : P.underlying ty = some d) (hd : (match d with | .struct _ | .array _ _ => true | _ => false) = true) (hi : (P.info? ty).map (·.size) = some cs.length) :
    (results fn tmps).run P w = .ok (.tuple #[.agg cs.toArray, tmps.getD u undef]) w := by
  obtain ⟨T, hx⟩ := hx
  have := run_loadVar_row (P := P) w b T ty cs.toArray (0, 0) d hx hu hd (by simpa using hi)
  have hp' : tmps[p]?.getD undef = .pointer (some ⟨b, 0, none⟩) := by simpa using hp
  simp only [results, h]
  simp [Sem.run_bind, hp', asAddr, this, Result.andThen]
theorem res_cell_tmp2 {P : Program} {fn : Func} {p u v : Tmp} {ty : TypeId} {b : Nat} {cs : List Value} {w : World} {d : TypeDesc} (h : fn.results = #[.cell p ty, .tmp u, .tmp v]) (tmps : Array Value) (hp : tmps.getD p undef = .pointer (some ⟨b, 0, none⟩)) (hx : Box w b cs)
    (hu : P.underlying ty = some d) (hd : (match d with | .struct _ | .array _ _ => true | _ => false) = true) (hi : (P.info? ty).map (·.size) = some cs.length) :
    (results fn tmps).run P w = .ok (.tuple #[.agg cs.toArray, tmps.getD u undef, tmps.getD v undef]) w := by
  obtain ⟨T, hx⟩ := hx
  have := run_loadVar_row (P := P) w b T ty cs.toArray (0, 0) d hx hu hd (by simpa using hi)
  have hp' : tmps[p]?.getD undef = .pointer (some ⟨b, 0, none⟩) := by simpa using hp
  simp only [results, h]
  simp [Sem.run_bind, hp', asAddr, this, Result.andThen]

/-- 'make([]T, n)', n a variable, T of several cells. -/
theorem run_make_rowN {P : Program} (t e : TypeId) (i : TypeInfo) (z : Value) (ht : P.underlying t = some (.slice e)) (hi : P.info? e = some i) (hz : i.zero = some z)
    (kl kc : IntKind) (n c : Nat) (hnc : n ≤ c) (hbytes : i.bytes * c ≤ 281474976710656) (h63 : c ≤ 9223372036854775807) (w : World) :
    (Instr.makeSlice t (.int kl (n : Int)) (.int kc (c : Int))).run P w = .ok (.slice (some ⟨w.heap.size, 0, none⟩) n c) (w.alloc (.cells (madeCells z.cells (c * i.size)) e)) := by
  have hb : (i.bytes : Int) * (c : Int) ≤ 281474976710656 := by
    have h : ((i.bytes * c : Nat) : Int) ≤ 281474976710656 := by omega
    rwa [Int.natCast_mul] at h
  have hr := run_make (P := P) w t e i z ht hi hz kl kc n c (by omega) (by omega) hb (by omega)
  simp only [Int.toNat_natCast] at hr
  exact hr

end Go.Proofs.YthpkgabckklojaaGreat

/- Maps that the call makes: which keys are there, and what stands at them, as a function. Nothing is asked. -/
namespace Go.Proofs.YthpkgabckklojaaGreat
open Go.RowKit Go.Shelf

/-- Which blocks may have turned. -/
structure Moves (Bs : Nat → Prop) (w w' : World) : Prop where
  os : w'.os = w.os
  tape : w'.tape = w.tape
  output : w'.output = w.output
  size : w.heap.size ≤ w'.heap.size
  block : ∀ k, k < w.heap.size → ¬ Bs k → w'.heap[k]? = w.heap[k]?
theorem Moves.refl {Bs : Nat → Prop} (w : World) : Moves Bs w w := ⟨rfl, rfl, rfl, Nat.le_refl _, fun _ _ _ => rfl⟩
theorem Moves.trans {Bs Bs' : Nat → Prop} {a b c : World} (h : Moves Bs a b) (k : Moves Bs' b c) (hs : ∀ i, i < a.heap.size → Bs' i → Bs i) : Moves Bs a c :=
  ⟨k.os.trans h.os, k.tape.trans h.tape, k.output.trans h.output, Nat.le_trans h.size k.size, fun i hi hn => (k.block i (Nat.lt_of_lt_of_le hi h.size) (fun hb => hn (hs i hi hb))).trans (h.block i hi hn)⟩
theorem Moves.weaken {Bs Bs' : Nat → Prop} {a b : World} (h : Moves Bs a b) (hs : ∀ i, i < a.heap.size → Bs i → Bs' i) : Moves Bs' a b :=
  ⟨h.os, h.tape, h.output, h.size, fun i hi hn => h.block i hi (fun hb => hn (hs i hi hb))⟩
theorem Moves.of_below {Bs : Nat → Prop} {w w' : World} (h : Below w.heap.size w w') : Moves Bs w w' := ⟨h.os, h.tape, h.output, h.size, fun k hk _ => h.block k hk⟩
theorem Moves.below {Bs : Nat → Prop} {w w' : World} {B : Nat} (h : Moves Bs w w') (hB : B ≤ w.heap.size) (hs : ∀ i, i < B → ¬ Bs i) : Below B w w' := ⟨h.os, h.tape, h.output, h.size, fun k hk => h.block k (Nat.lt_of_lt_of_le hk hB) (hs k hk)⟩
theorem Moves.alloc {Bs : Nat → Prop} {a w : World} (h : Moves Bs a w) (o : Obj) : Moves Bs a (w.alloc o) := h.trans (Moves.of_below (Bs := fun _ => False) ((Below.refl _ _).alloc (Nat.le_refl _) o)) (fun _ _ h => h.elim)
theorem Moves.drew {Bs : Nat → Prop} {a w : World} (h : Moves Bs a w) : Moves Bs a w.drew := ⟨h.os, h.tape, h.output, h.size, h.block⟩
theorem Moves.set {Bs : Nat → Prop} {a w : World} {b i : Nat} {u : Value} (h : Moves Bs a w) (hb : b < a.heap.size → Bs b) : Moves Bs a (w.setCell ⟨b, i, none⟩ u) :=
  ⟨h.os, h.tape, h.output, by simpa [World.setCell] using h.size, fun k hk hn => (Below.heap_setCell w ⟨b, i, none⟩ u k (fun e => hn (by cases e; exact hb hk))).trans (h.block k hk hn)⟩
theorem Moves.grown {Bs : Nat → Prop} {a w w' : World} {row : Option Nat} (h : Moves Bs a w) (hg : w.grownBy w' row) (hr : ∀ r, row = some r → r < a.heap.size → Bs r) : Moves Bs a w' :=
  ⟨hg.os.trans h.os, hg.tape.trans h.tape, hg.output.trans h.output, Nat.le_trans h.size hg.size, fun k hk hn => (hg.block k (Nat.lt_of_lt_of_le hk h.size) (fun e => hn (hr k e.symm hk))).trans (h.block k hk hn)⟩
theorem Moves.box {Bs : Nat → Prop} {w w' : World} {b : Nat} {cs : List Value} (h : Moves Bs w w') (hx : Box w b cs) (hb : ¬ Bs b) : Box w' b cs := by
  obtain ⟨T, hx⟩ := hx
  exact ⟨T, (h.block b (Array.getElem?_eq_some_iff.1 hx).1 hb).trans hx⟩

section
variable {P : Program} {κ ν : Type}

/-- The keys of a map's type, as values. -/
structure GoodKey (P : Program) (K : TypeId) (ek : κ → Value) : Prop where
  check : ∀ (b : Bool) (k : κ) (w : World), (Instr.checkKey b 10000 K (ek k)).run P w = .ok () w
  find : ∀ (k : κ) (es : List MapEntry) (w : World), (∀ e ∈ es, ∃ k', e.key = ek k') → ∃ r, (Instr.findKey K (ek k) es).run P w = .ok r w ∧
    ((r = none ∧ ∀ e ∈ es, e.key ≠ ek k) ∨ ∃ i e, r = some (i, e.val) ∧ es[i]? = some e ∧ e.key = ek k)
  bits : ∀ k, Instr.sameBits 10000 (ek k) (ek k) = true
  inj : ∀ a b, ek a = ek b → a = b

theorem findAsking_run [DecidableEq κ] {K : TypeId} {ek : κ → Value} (inj : ∀ a b, ek a = ek b → a = b) (heq : ∀ a b w, (Op.equal K (ek a) (ek b)).run P w = .ok (decide (a = b)) w) (k : κ) (w : World) :
    ∀ (es : List MapEntry) (i : Nat), (∀ e ∈ es, ∃ k', e.key = ek k') → ∃ r, (Instr.findAsking K (ek k) es i).run P w = .ok r w ∧
      ((r = none ∧ ∀ e ∈ es, e.key ≠ ek k) ∨ ∃ j e, r = some (i + j, e.val) ∧ es[j]? = some e ∧ e.key = ek k)
  | [], i, _ => ⟨none, by simp [Instr.findAsking], .inl ⟨rfl, by simp⟩⟩
  | e :: es, i, h => by
    obtain ⟨k', hk'⟩ := h e (by simp)
    by_cases hkk : k = k'
    · subst hkk
      exact ⟨some (i, e.val), by simp [Instr.findAsking, hk', Sem.run_bind, heq, Result.andThen], .inr ⟨0, e, by simp, by simp, hk'⟩⟩
    · obtain ⟨r, hr, hc⟩ := findAsking_run inj heq k w es (i + 1) (fun x hx => h x (by simp [hx]))
      refine ⟨r, by simp [Instr.findAsking, hk', Sem.run_bind, heq, Result.andThen, hkk, hr], ?_⟩
      rcases hc with ⟨h1, h2⟩ | ⟨j, x, h1, h2, h3⟩
      · refine .inl ⟨h1, fun x hx => ?_⟩
        rcases List.mem_cons.1 hx with rfl | hx
        · rw [hk']; exact fun e' => hkk (inj _ _ e').symm
        · exact h2 x hx
      · exact .inr ⟨j + 1, x, by rw [h1]; congr 2; omega, by simpa using h2, h3⟩

/-- A struct's keys, out of '==' on them. -/
theorem GoodKey.of_struct [DecidableEq κ] {K : TypeId} {ek : κ → Value} {fs : Array Field} (hK : P.underlying K = some (.struct fs))
    (check : ∀ (b : Bool) (k : κ) (w : World), (Instr.checkKey b 10000 K (ek k)).run P w = .ok () w)
    (heq : ∀ a b w, (Op.equal K (ek a) (ek b)).run P w = .ok (decide (a = b)) w) (bits : ∀ k, Instr.sameBits 10000 (ek k) (ek k) = true) (inj : ∀ a b, ek a = ek b → a = b) : GoodKey P K ek := by
  refine ⟨check, fun k es w h => ?_, bits, inj⟩
  cases es with
  | nil => exact ⟨none, by simp [Instr.findKey, run_underlying hK, Instr.findNow], .inl ⟨rfl, by simp⟩⟩
  | cons e es =>
    obtain ⟨r, hr, hc⟩ := findAsking_run inj heq k w (e :: es) 0 h
    have hn : Instr.findNow (.struct fs) (ek k) (e :: es) 0 = none := by
      simp [Instr.findNow, Instr.sameNow]
    refine ⟨r, ?_, ?_⟩
    · simp [Instr.findKey, Sem.run_bind, run_underlying hK, hn, hr]
    · simpa using hc

/-- Block b is a map: at the key k stands m k. -/
def MapIs (w : World) (b : Nat) (ek : κ → Value) (ev : ν → Value) (m : κ → Option ν) : Prop :=
  ∃ (es : Array MapEntry) (clock : Nat), w.heap[b]? = some (.map es clock) ∧
    (∀ (i j : Nat) (ei ej : MapEntry), es.toList[i]? = some ei → es.toList[j]? = some ej → (ei.key = ej.key ∨ ei.born = ej.born) → i = j) ∧
    (∀ e ∈ es.toList, e.born < clock) ∧ (∀ e ∈ es.toList, ∃ k v, e.key = ek k ∧ e.val = ev v ∧ m k = some v) ∧
    (∀ k v, m k = some v → ∃ e ∈ es.toList, e.key = ek k ∧ e.val = ev v)

theorem MapIs.lt {w : World} {b : Nat} {ek : κ → Value} {ev : ν → Value} {m : κ → Option ν} (h : MapIs w b ek ev m) : b < w.heap.size := by
  obtain ⟨es, clock, hb, _⟩ := h; exact (Array.getElem?_eq_some_iff.1 hb).1
theorem MapIs.at_ {w w' : World} {b : Nat} {ek : κ → Value} {ev : ν → Value} {m : κ → Option ν} (h : MapIs w b ek ev m) (e : w'.heap[b]? = w.heap[b]?) : MapIs w' b ek ev m := by
  obtain ⟨es, clock, hb, hr⟩ := h; exact ⟨es, clock, e.trans hb, hr⟩
theorem MapIs.later {w w' : World} {b : Nat} {ek : κ → Value} {ev : ν → Value} {m : κ → Option ν} (h : MapIs w b ek ev m) (hb : Below w.heap.size w w') : MapIs w' b ek ev m := h.at_ (hb.block b h.lt)
theorem MapIs.moves {Bs : Nat → Prop} {w w' : World} {b : Nat} {ek : κ → Value} {ev : ν → Value} {m : κ → Option ν} (h : MapIs w b ek ev m) (hm : Moves Bs w w') (hb : ¬ Bs b) : MapIs w' b ek ev m := h.at_ (hm.block b h.lt hb)
theorem MapIs.alloc {w : World} {b : Nat} {ek : κ → Value} {ev : ν → Value} {m : κ → Option ν} (h : MapIs w b ek ev m) (o : Obj) : MapIs (w.alloc o) b ek ev m := h.at_ (Below.heap_alloc _ _ _ h.lt)
theorem MapIs.set {w : World} {b c i : Nat} {u : Value} {ek : κ → Value} {ev : ν → Value} {m : κ → Option ν} (h : MapIs w b ek ev m) (hn : b ≠ c) : MapIs (w.setCell ⟨c, i, none⟩ u) b ek ev m := h.at_ (Below.heap_setCell w ⟨c, i, none⟩ u b hn)
theorem MapIs.made (w : World) (ek : κ → Value) (ev : ν → Value) : MapIs (w.alloc (.map #[] 0)) w.heap.size ek ev (fun _ => none) :=
  ⟨#[], 0, heap_alloc_new w _, by simp, by simp, by simp, by simp⟩
theorem MapIs.made' {w : World} {b : Nat} (ek : κ → Value) (ev : ν → Value) (h : b = w.heap.size) : MapIs (w.alloc (.map #[] 0)) b ek ev (fun _ => none) := h ▸ MapIs.made w ek ev

variable {w : World} {b : Nat} {K E T : TypeId} {ek : κ → Value} {ev : ν → Value} {m : κ → Option ν}

theorem MapIs.lookup (h : MapIs w b ek ev m) (G : GoodKey P K ek) (hT : P.underlying T = some (.map K E)) {z : Value} (hz : (zeroValue E).run P w = .ok z w) (k : κ) (ok : Bool) :
    (Instr.lookup T (.map (some b)) (ek k) ok).run P w = .ok (if ok then .tuple #[(m k).elim z ev, .bool (m k).isSome] else (m k).elim z ev) w := by
  obtain ⟨es, clock, hb, h1, h2, h3, h4⟩ := h
  obtain ⟨r, hr, hc⟩ := G.find k es.toList w (fun e he => by obtain ⟨k', v, hk, _⟩ := h3 e he; exact ⟨k', hk⟩)
  have hg : (getObj b).run P w = .ok (.map es clock) w := by simp [getObj, Sem.run, hb]
  rcases hc with ⟨rfl, hno⟩ | ⟨i, e, rfl, hi, hk⟩
  · have hm : m k = none := by
      cases hm : m k with
      | none => rfl
      | some v => obtain ⟨e, he, hk, _⟩ := h4 k v hm; exact absurd hk (hno e he)
    simp [Instr.lookup, Sem.run_bind, run_underlying hT, hg, Result.andThen, G.check, hr, hz, hm]
  · obtain ⟨k', v, hk', hv, hm⟩ := h3 e (List.mem_of_getElem? hi)
    have : k' = k := G.inj _ _ (hk'.symm.trans hk)
    subst this
    simp [Instr.lookup, Sem.run_bind, run_underlying hT, hg, Result.andThen, G.check, hr, hm, hv]

/-- m with v at k. -/
def upd [DecidableEq κ] (m : κ → Option ν) (k : κ) (v : ν) : κ → Option ν := fun x => if x = k then some v else m x

theorem MapIs.update [DecidableEq κ] (h : MapIs w b ek ev m) (G : GoodKey P K ek) (hT : P.underlying T = some (.map K E)) (k : κ) (v : ν) :
    ∃ w', (Instr.mapUpdate T (.map (some b)) (ek k) (ev v)).run P w = .ok () w' ∧ MapIs w' b ek ev (upd m k v) ∧ Moves (· = b) w w' ∧ w'.heap.size = w.heap.size := by
  obtain ⟨es, clock, hb, h1, h2, h3, h4⟩ := h
  have hlt := (Array.getElem?_eq_some_iff.1 hb).1
  obtain ⟨r, hr, hc⟩ := G.find k es.toList w (fun e he => by obtain ⟨k', v, hk, _⟩ := h3 e he; exact ⟨k', hk⟩)
  have hg : (getObj b).run P w = .ok (.map es clock) w := by simp [getObj, Sem.run, hb]
  have hset : ∀ o, (setObj b o).run P w = .ok () { w with heap := w.heap.setIfInBounds b o } := by intro o; simp [setObj, Sem.run, hb]
  have hmv : ∀ o, Moves (· = b) w { w with heap := w.heap.setIfInBounds b o } := fun o => ⟨rfl, rfl, rfl, by simp, fun i hi hn => by simp [Ne.symm hn]⟩
  rcases hc with ⟨rfl, hno⟩ | ⟨i, e, rfl, hi, hk⟩
  · refine ⟨{ w with heap := w.heap.setIfInBounds b (.map (es.push { key := ek k, val := ev v, born := clock }) (clock + 1)) }, by simp [Instr.mapUpdate, Sem.run_bind, run_underlying hT, hg, Result.andThen, G.check, hr, hset], ⟨_, _, by simp [hlt]; exact ⟨rfl, rfl⟩, ?_, ?_, ?_, ?_⟩, hmv _, by simp⟩
    · intro i j ei ej hi hj hij
      simp only [Array.toList_push] at hi hj
      rw [List.getElem?_append] at hi hj
      split at hi <;> split at hj
      · exact h1 i j ei ej hi hj hij
      · rename_i ha hb'
        have : j = es.toList.length := by
          have := (List.getElem?_eq_some_iff.1 hj).1; simp at this; simp; simp at hb'; omega
        subst this
        simp at hj; subst hj
        have hm := List.mem_of_getElem? hi
        rcases hij with e | e
        · exact absurd e (hno ei hm)
        · have := h2 ei hm; simp at e; omega
      · rename_i ha hb'
        have : i = es.toList.length := by
          have := (List.getElem?_eq_some_iff.1 hi).1; simp at this; simp; simp at ha; omega
        subst this
        simp at hi; subst hi
        have hm := List.mem_of_getElem? hj
        rcases hij with e | e
        · exact absurd e.symm (hno ej hm)
        · have := h2 ej hm; simp at e; omega
      · rename_i ha hb'
        have a1 := (List.getElem?_eq_some_iff.1 hi).1
        have a2 := (List.getElem?_eq_some_iff.1 hj).1
        simp at a1 a2 ha hb'; omega
    · intro e he
      simp at he
      rcases he with he | rfl
      · have := h2 e (by simpa using he); omega
      · simp
    · intro e he
      simp at he
      rcases he with he | rfl
      · obtain ⟨k', v', hk', hv', hm'⟩ := h3 e (by simpa using he)
        refine ⟨k', v', hk', hv', ?_⟩
        have : k' ≠ k := fun e' => hno e (by simpa using he) (by rw [hk', e'])
        simp [upd, this, hm']
      · exact ⟨k, v, rfl, rfl, by simp [upd]⟩
    · intro k' v' hm'
      by_cases e : k' = k
      · subst e; simp [upd] at hm'; subst hm'
        exact ⟨{ key := ek k', val := ev v, born := clock }, by simp, rfl, rfl⟩
      · simp [upd, e] at hm'
        obtain ⟨x, hx, h⟩ := h4 k' v' hm'
        exact ⟨x, by simp at hx; simp [hx], h⟩
  · have hil : i < es.size := by have := (List.getElem?_eq_some_iff.1 hi).1; simpa using this
    have hes : es[i]? = some e := by simpa using hi
    have hks : (Instr.keyThatStays (((es[i]?).map (·.key)).getD (ek k)) (ek k)).run P w = .ok (ek k) w := by
      simp [hes, hk, Instr.keyThatStays, G.bits]
    have hget : ∀ j x, (es.modify i fun e => { e with key := ek k, val := ev v }).toList[j]? = some x → ∃ y, es.toList[j]? = some y ∧ x.born = y.born ∧ x.key = y.key ∧ (j ≠ i → x = y) ∧ (j = i → x.val = ev v) := by
      intro j x hx
      simp only [Array.toList_modify, List.getElem?_modify] at hx
      cases hy : es.toList[j]? with
      | none => simp [hy] at hx
      | some y =>
        simp [hy] at hx
        by_cases e' : i = j
        · subst e'
          have : y = e := by rw [hi] at hy; cases hy; rfl
          subst this
          simp at hx; subst hx
          exact ⟨y, rfl, rfl, hk.symm, by simp, by simp⟩
        · simp [e'] at hx; subst hx
          exact ⟨y, rfl, rfl, rfl, fun _ => rfl, fun e2 => absurd e2.symm e'⟩
    refine ⟨{ w with heap := w.heap.setIfInBounds b (.map (es.modify i fun e => { e with key := ek k, val := ev v }) clock) }, ?_, ⟨_, _, by simp [hlt]; exact ⟨rfl, rfl⟩, ?_, ?_, ?_, ?_⟩, hmv _, by simp⟩
    · simp only [Instr.mapUpdate, Sem.run_bind, run_underlying hT, hg, Result.andThen, G.check, hr]
      simp only [hks, hset]
    · intro a c ea ec hea hec hac
      obtain ⟨ya, q1, q2, q3, _⟩ := hget a ea hea
      obtain ⟨yc, r1, r2, r3, _⟩ := hget c ec hec
      exact h1 a c ya yc q1 r1 (by rcases hac with e | e; exact .inl (by rw [← q3, ← r3, e]); exact .inr (by rw [← q2, ← r2, e]))
    · intro x hx
      obtain ⟨j, hj⟩ := List.getElem?_of_mem hx
      obtain ⟨y, q1, q2, _⟩ := hget j x hj
      rw [q2]; exact h2 y (List.mem_of_getElem? q1)
    · intro x hx
      obtain ⟨j, hj⟩ := List.getElem?_of_mem hx
      obtain ⟨y, q1, q2, q3, q4, q5⟩ := hget j x hj
      obtain ⟨k', v', hk', hv', hm'⟩ := h3 y (List.mem_of_getElem? q1)
      by_cases e' : j = i
      · subst e'
        have : y = e := by rw [hi] at q1; cases q1; rfl
        subst this
        exact ⟨k, v, by rw [q3, hk], q5 rfl, by simp [upd]⟩
      · have := q4 e'; subst this
        refine ⟨k', v', hk', hv', ?_⟩
        have : k' ≠ k := fun e2 => e' (h1 j i x e q1 hi (.inl (by rw [hk', e2, hk])))
        simp [upd, this, hm']
    · intro k' v' hm'
      have hat : ∀ j y, es.toList[j]? = some y → (es.modify i fun e => { e with key := ek k, val := ev v }).toList[j]? = some (if i = j then { y with key := ek k, val := ev v } else y) := by
        intro j y hy
        simp only [Array.toList_modify, List.getElem?_modify, hy]
        simp
      by_cases e' : k' = k
      · subst e'; simp [upd] at hm'; subst hm'
        exact ⟨_, List.mem_of_getElem? (hat i e hi), by simp, by simp⟩
      · simp [upd, e'] at hm'
        obtain ⟨x, hx, hxk, hxv⟩ := h4 k' v' hm'
        obtain ⟨j, hj⟩ := List.getElem?_of_mem hx
        have hne : i ≠ j := by
          intro e2; subst e2
          rw [hi] at hj; cases hj
          exact e' (G.inj _ _ (hxk.symm.trans hk))
        have := hat j x hj
        rw [if_neg hne] at this
        exact ⟨x, List.mem_of_getElem? this, hxk, hxv⟩

/-- Block r walks over the map in block b: ls are the keys that are still to come. -/
def WalkIs (w : World) (b r : Nat) (ek : κ → Value) (ev : ν → Value) (m : κ → Option ν) (ls : List κ) : Prop :=
  ∃ (es : Array MapEntry) (clock since c0 : Nat) (seen : Array Nat), w.heap[b]? = some (.map es clock) ∧ w.heap[r]? = some (.mapIter (some b) since seen c0) ∧ since ≤ c0 ∧ since ≤ clock ∧ (∀ x ∈ es.toList, x.born < since) ∧
    (∀ (i j : Nat) (ei ej : MapEntry), es.toList[i]? = some ei → es.toList[j]? = some ej → (ei.key = ej.key ∨ ei.born = ej.born) → i = j) ∧ (∀ e ∈ es.toList, ∃ k v, e.key = ek k ∧ e.val = ev v ∧ m k = some v) ∧
    (leftOf es seen).toList.map (·.key) = ls.map ek

theorem WalkIs.at_ {w w' : World} {b r : Nat} {ls : List κ} (h : WalkIs w b r ek ev m ls) (e1 : w'.heap[b]? = w.heap[b]?) (e2 : w'.heap[r]? = w.heap[r]?) : WalkIs w' b r ek ev m ls := by
  obtain ⟨es, clock, since, c0, seen, hb, hr, hx⟩ := h
  exact ⟨es, clock, since, c0, seen, e1.trans hb, e2.trans hr, hx⟩
theorem WalkIs.lt {w : World} {b r : Nat} {ls : List κ} (h : WalkIs w b r ek ev m ls) : b < w.heap.size ∧ r < w.heap.size := by
  obtain ⟨es, clock, since, c0, seen, hb, hr, hx⟩ := h
  exact ⟨(Array.getElem?_eq_some_iff.1 hb).1, (Array.getElem?_eq_some_iff.1 hr).1⟩
theorem WalkIs.moves {Bs : Nat → Prop} {w w' : World} {b r : Nat} {ls : List κ} (h : WalkIs w b r ek ev m ls) (hm : Moves Bs w w') (hb : ¬ Bs b) (hr : ¬ Bs r) : WalkIs w' b r ek ev m ls :=
  h.at_ (hm.block b h.lt.1 hb) (hm.block r h.lt.2 hr)

theorem nodup_map_of {α β : Type} (f : α → β) (l : List α) (h : ∀ (i j : Nat) (x y : α), l[i]? = some x → l[j]? = some y → f x = f y → i = j) : (l.map f).Nodup := by
  rw [List.Nodup, List.pairwise_map, List.pairwise_iff_getElem]
  intro i j hi hj hij e
  have := h i j l[i] l[j] (by simp) (by simp) e
  omega
theorem nodup_born {es : Array MapEntry} (h1 : ∀ (i j : Nat) (ei ej : MapEntry), es.toList[i]? = some ei → es.toList[j]? = some ej → (ei.key = ej.key ∨ ei.born = ej.born) → i = j) : (es.toList.map (·.born)).Nodup :=
  nodup_map_of _ _ fun i j x y hx hy e => h1 i j x y hx hy (.inr e)
theorem walk_left [DecidableEq κ] {ek : κ → Value} (inj : ∀ a b, ek a = ek b → a = b) (bn : Nat) (k : κ) : ∀ (L : List MapEntry) (ls : List κ), L.map (·.key) = ls.map ek → (∀ x ∈ L, x.born = bn ↔ x.key = ek k) →
    (L.filter (fun x => !(x.born == bn))).map (·.key) = (ls.filter (fun x => decide (x ≠ k))).map ek
  | [], [], _, _ => rfl
  | [], _ :: _, h, _ => by simp at h
  | _ :: _, [], h, _ => by simp at h
  | x :: L, y :: ls, h, hb => by
    simp only [List.map_cons, List.cons.injEq] at h
    have ih := walk_left inj bn k L ls h.2 (fun z hz => hb z (by simp [hz]))
    have hx := hb x (by simp)
    by_cases e : y = k
    · have : x.born = bn := hx.2 (by rw [h.1, e])
      rw [List.filter_cons_of_neg (by simp [this]), List.filter_cons_of_neg (by simp [e])]
      exact ih
    · have : ¬ x.born = bn := fun e' => e (inj _ _ (h.1.symm.trans (hx.1 e')))
      rw [List.filter_cons_of_pos (by simp [this]), List.filter_cons_of_pos (by simp [e]), List.map_cons, List.map_cons, ih, h.1]

theorem MapIs.walk [DecidableEq κ] (h : MapIs w b ek ev m) (inj : ∀ a b, ek a = ek b → a = b) (hT : P.underlying T = some (.map K E)) :
    (Instr.range T (.map (some b))).run P w = .ok (.pointer (some ⟨w.heap.size, 0, none⟩)) (w.alloc (match w.heap[b]? with | some (.map _ clock) => .mapIter (some b) clock #[] clock | _ => .mapIter none 0 #[] 0)) ∧
    ∃ ls : List κ, WalkIs (w.alloc (match w.heap[b]? with | some (.map _ clock) => .mapIter (some b) clock #[] clock | _ => .mapIter none 0 #[] 0)) b w.heap.size ek ev m ls ∧ ls.Nodup ∧ ∀ k, k ∈ ls ↔ (m k).isSome = true := by
  have hlt := h.lt
  obtain ⟨es, clock, hb, h1, h2, h3, h4⟩ := h
  simp only [hb]
  refine ⟨?_, ?_⟩
  · have hg : (getObj b).run P w = .ok (.map es clock) w := by simp [getObj, Sem.run, hb]
    simp [Instr.range, Sem.run_bind, run_underlying hT, hg, Result.andThen]
  · have hkeys : ∀ l : List MapEntry, (∀ e ∈ l, ∃ k v, e.key = ek k ∧ e.val = ev v ∧ m k = some v) → ∃ ls : List κ, l.map (·.key) = ls.map ek := by
      intro l
      induction l with
      | nil => exact fun _ => ⟨[], rfl⟩
      | cons e l ih =>
        intro hl
        obtain ⟨ls, hls⟩ := ih (fun x hx => hl x (by simp [hx]))
        obtain ⟨k, v, hk, _⟩ := hl e (by simp)
        exact ⟨k :: ls, by simp [hk, hls]⟩
    obtain ⟨ls, hls⟩ := hkeys es.toList h3
    have hleft : leftOf es #[] = es := by
      unfold leftOf; simp
    refine ⟨ls, ⟨es, clock, clock, clock, #[], ?_, heap_alloc_new w _, Nat.le_refl _, Nat.le_refl _, h2, h1, h3, by rw [hleft]; exact hls⟩, ?_, fun k => ⟨fun hk => ?_, fun hk => ?_⟩⟩
    · exact (Below.heap_alloc w _ b hlt).trans hb
    · have hn : (es.toList.map (·.key)).Nodup := nodup_map_of _ _ fun i j x y hx hy e => h1 i j x y hx hy (.inl e)
      rw [hls, List.Nodup, List.pairwise_map] at hn
      exact hn.imp fun h e => h (congrArg ek e)
    · have : ek k ∈ es.toList.map (·.key) := by rw [hls]; exact List.mem_map.2 ⟨k, hk, rfl⟩
      obtain ⟨e, he, hek⟩ := List.mem_map.1 this
      obtain ⟨k', v, hk', _, hm⟩ := h3 e he
      have : k' = k := inj _ _ (hk'.symm.trans hek)
      subst this; simp [hm]
    · obtain ⟨v, hv⟩ := Option.isSome_iff_exists.1 hk
      obtain ⟨e, he, hek, _⟩ := h4 k v hv
      have : ek k ∈ es.toList.map (·.key) := List.mem_map.2 ⟨e, he, hek⟩
      rw [hls] at this
      obtain ⟨k', hk', e'⟩ := List.mem_map.1 this
      have := inj _ _ e'
      subst this; exact hk'

theorem WalkIs.done {r : Nat} (h : WalkIs w b r ek ev m []) (ty : TypeId) : (Instr.next (.pointer (some ⟨r, 0, none⟩)) false ty).run P w = .ok (.tuple #[.bool false]) w := by
  obtain ⟨es, clock, since, c0, seen, hb, hr, hc, hc2, ho, h1, h3, hl⟩ := h
  rcases run_next_at (P := P) w ty r b since c0 seen es clock hr hb ho hc with ⟨_, h⟩ | ⟨e, he, _⟩
  · exact h
  · have : e.key ∈ (leftOf es seen).toList.map (·.key) := List.mem_map.2 ⟨e, he, rfl⟩
    rw [hl] at this; simp at this

theorem WalkIs.step [DecidableEq κ] {r : Nat} {ls : List κ} (h : WalkIs w b r ek ev m ls) (hne : ls ≠ []) (inj : ∀ a b, ek a = ek b → a = b) (ty : TypeId) :
    ∃ k v w', k ∈ ls ∧ m k = some v ∧ (Instr.next (.pointer (some ⟨r, 0, none⟩)) false ty).run P w = .ok (.tuple #[.bool true, ek k, ev v]) w' ∧ WalkIs w' b r ek ev m (ls.filter (fun x => decide (x ≠ k))) ∧ Moves (· = r) w w' ∧ w'.heap.size = w.heap.size ∧
      ∀ W : World, W.heap[b]? = w'.heap[b]? → W.heap[r]? = w'.heap[r]? → (Instr.entry (.pointer (some ⟨r, 0, none⟩))).run P W = .ok (.tuple #[ek k, ev v]) W := by
  have hlt := h.lt
  obtain ⟨es, clock, since, c0, seen, hb, hr, hc, hc2, ho, h1, h3, hl⟩ := h
  have hbr : b ≠ r := by rintro rfl; rw [hb] at hr; cases hr
  rcases run_next_at (P := P) w ty r b since c0 seen es clock hr hb ho hc with ⟨h0, _⟩ | ⟨e, he, w1, hw1, hrun⟩
  · exfalso
    have : (leftOf es seen).toList = [] := by
      rw [← List.length_eq_zero_iff]; simpa using h0
    rw [this] at hl
    cases ls with
    | nil => exact hne rfl
    | cons => simp at hl
  · have hes : e ∈ es.toList := by simp [leftOf] at he; simpa using he.1
    obtain ⟨k, v, hk, hv, hm⟩ := h3 e hes
    have hkl : k ∈ ls := by
      have : e.key ∈ (leftOf es seen).toList.map (·.key) := List.mem_map.2 ⟨e, he, rfl⟩
      rw [hl, hk] at this
      obtain ⟨k', hk', e'⟩ := List.mem_map.1 this
      have := inj _ _ e'; subst this; exact hk'
    have hw1b : w1.heap = w.heap ∧ w1.os = w.os ∧ w1.tape = w.tape ∧ w1.output = w.output := by rcases hw1 with rfl | rfl <;> exact ⟨rfl, rfl, rfl, rfl⟩
    have hB : (Go.ChangeMaps.setBlock w1 r (.mapIter (some b) since (seen.push e.born) clock)).heap[b]? = some (.map es clock) := by
      simp only [Go.ChangeMaps.setBlock, Array.getElem?_setIfInBounds, hw1b.1, hb]; rw [if_neg (Ne.symm hbr)]
    have hR : (Go.ChangeMaps.setBlock w1 r (.mapIter (some b) since (seen.push e.born) clock)).heap[r]? = some (.mapIter (some b) since (seen.push e.born) clock) := by
      simp [Go.ChangeMaps.setBlock, hw1b.1, hlt.2]
    refine ⟨k, v, _, hkl, hm, by rw [hrun, hk, hv], ⟨es, clock, since, clock, seen.push e.born, hB, hR, hc2, hc2, ho, h1, h3, ?_⟩, ?_, ?_, ?_⟩
    · have hpush : (leftOf es (seen.push e.born)).toList = (leftOf es seen).toList.filter (fun x => !(x.born == e.born)) := by
        simp only [leftOf, Array.toList_filter, List.filter_filter]
        congr 1
        funext x
        rw [Bool.eq_iff_iff]
        simp
        constructor
        · rintro ⟨h1, h2⟩; exact ⟨h2, h1⟩
        · rintro ⟨h1, h2⟩; exact ⟨h2, h1⟩
      rw [hpush]
      refine walk_left inj e.born k _ ls hl fun x hx => ?_
      have hxs : x ∈ es.toList := by simp [leftOf] at hx; simpa using hx.1
      obtain ⟨i, hi⟩ := List.getElem?_of_mem hxs
      obtain ⟨j, hj⟩ := List.getElem?_of_mem hes
      constructor
      · intro e'
        have := h1 i j x e hi hj (.inr e'); subst this
        rw [hi] at hj; cases hj; exact hk
      · intro e'
        have := h1 i j x e hi hj (.inl (e'.trans hk.symm)); subst this
        rw [hi] at hj; cases hj; rfl
    · refine ⟨by simp [Go.ChangeMaps.setBlock, hw1b], by simp [Go.ChangeMaps.setBlock, hw1b], by simp [Go.ChangeMaps.setBlock, hw1b], by simp [Go.ChangeMaps.setBlock, hw1b], fun i hi hn => ?_⟩
      simp only [Go.ChangeMaps.setBlock, Array.getElem?_setIfInBounds, hw1b.1]; rw [if_neg (fun e => hn e.symm)]
    · simp [Go.ChangeMaps.setBlock, hw1b]
    · intro W e1 e2
      rw [← hk, ← hv]
      exact run_entry_at W r b since seen es clock e (e2.trans hR) (e1.trans hB) hes (nodup_born h1)
theorem wpList_lookupM {ops : Array Oper} {rest : List Oper} {o : Oper} {a : Act} {Q : Exit → Act → World → Prop} (hg : o.guard = none) (x y : Operand) (t : TypeId) (ok : Bool) (hop : o.op = Op.lookup t x y ok) (K E : TypeId) (hT : P.underlying t = some (.map K E)) (G : GoodKey P K ek) {z : Value} (hz : (zeroValue E).run P w = .ok z w) (b : Nat) (hx : a.eval x = .map (some b)) (h : MapIs w b ek ev m) (k : κ) (hy : a.eval y = ek k)
    (hK : wpList P ops Q rest (a.put o.dst (if ok then .tuple #[(m k).elim z ev, .bool (m k).isSome] else (m k).elim z ev)) w) : wpList P ops Q (o :: rest) a w := by
  refine wpList_plain hg fun K' hK' => ?_
  have hrun := h.lookup G hT hz k ok
  unfold Oper.wp
  simp only [execOp, hop, hx, hy, Sem.run_bind, hrun, Result.andThen_ok, Sem.run_pure]
  exact hK' _ _ hK

theorem wpListIn_lookupM {F : Fence} {nF : Nat} {ops : Array Oper} {rest : List Oper} {o : Oper} {a : Act} {Q : Exit → Act → World → Prop} (hg : o.guard = none) (x y : Operand) (t : TypeId) (ok : Bool) (hop : o.op = Op.lookup t x y ok) (K E : TypeId) (hT : P.underlying t = some (.map K E)) (G : GoodKey P K ek) {z : Value} (hz : (zeroValue E).run P w = .ok z w) (b : Nat) (hx : a.eval x = .map (some b)) (h : MapIs w b ek ev m) (k : κ) (hy : a.eval y = ek k)
    (hK : wpListIn F nF P ops Q rest (a.put o.dst (if ok then .tuple #[(m k).elim z ev, .bool (m k).isSome] else (m k).elim z ev)) w) : wpListIn F nF P ops Q (o :: rest) a w := by
  refine wpListIn_plain hg fun K' hK' => ?_
  have hrun := h.lookup G hT hz k ok
  unfold Oper.wpIn
  refine ⟨by simp [Oper.about, hop], ?_⟩
  rw [Oper.semAt_plain F _ _ (by rw [hop]; intro c hc'; cases hc')]
  simp only [execOp, hop, hx, hy, Sem.run_bind, hrun, Result.andThen_ok, Sem.run_pure]
  exact hK' _ _ hK

theorem wpList_updateM {ops : Array Oper} {rest : List Oper} {o : Oper} {a : Act} {Q : Exit → Act → World → Prop} (hg : o.guard = none) [DecidableEq κ] (x y z : Operand) (t : TypeId) (hop : o.op = Op.mapUpdate t x y z) (K E : TypeId) (hT : P.underlying t = some (.map K E)) (G : GoodKey P K ek) (b : Nat) (hx : a.eval x = .map (some b)) (h : MapIs w b ek ev m) (k : κ) (hy : a.eval y = ek k) (v : ν) (hz : a.eval z = ev v)
    (hK : ∀ w', MapIs w' b ek ev (upd m k v) → Moves (· = b) w w' → w'.heap.size = w.heap.size → wpList P ops Q rest (a.put o.dst undef) w') : wpList P ops Q (o :: rest) a w := by
  refine wpList_plain hg fun K' hK' => ?_
  obtain ⟨w', hrun, r1, r2, r3⟩ := h.update G hT k v
  unfold Oper.wp
  simp only [execOp, hop, hx, hy, hz, Sem.run_bind, hrun, Result.andThen_ok, Sem.run_pure]
  exact hK' _ _ (hK w' r1 r2 r3)

theorem wpListIn_updateM {F : Fence} {nF : Nat} {ops : Array Oper} {rest : List Oper} {o : Oper} {a : Act} {Q : Exit → Act → World → Prop} (hg : o.guard = none) [DecidableEq κ] (x y z : Operand) (t : TypeId) (hop : o.op = Op.mapUpdate t x y z) (K E : TypeId) (hT : P.underlying t = some (.map K E)) (G : GoodKey P K ek) (b : Nat) (hx : a.eval x = .map (some b)) (h : MapIs w b ek ev m) (k : κ) (hy : a.eval y = ek k) (v : ν) (hz : a.eval z = ev v)
    (hK : ∀ w', MapIs w' b ek ev (upd m k v) → Moves (· = b) w w' → w'.heap.size = w.heap.size → wpListIn F nF P ops Q rest (a.put o.dst undef) w') : wpListIn F nF P ops Q (o :: rest) a w := by
  refine wpListIn_plain hg fun K' hK' => ?_
  obtain ⟨w', hrun, r1, r2, r3⟩ := h.update G hT k v
  unfold Oper.wpIn
  refine ⟨by simp [Oper.about, hop], ?_⟩
  rw [Oper.semAt_plain F _ _ (by rw [hop]; intro c hc'; cases hc')]
  simp only [execOp, hop, hx, hy, hz, Sem.run_bind, hrun, Result.andThen_ok, Sem.run_pure]
  exact hK' _ _ (hK w' r1 r2 r3)

theorem wpList_insertM {ops : Array Oper} {rest : List Oper} {o : Oper} {a : Act} {Q : Exit → Act → World → Prop} (hg : o.guard = none) [DecidableEq κ] (x y z : Operand) (t : TypeId) (hop : o.op = Op.insert t x y z) (K E : TypeId) (hT : P.underlying t = some (.map K E)) (G : GoodKey P K ek) (b : Nat) (hx : a.eval x = .map (some b)) (h : MapIs w b ek ev m) (k : κ) (hy : a.eval y = ek k) (v : ν) (hz : a.eval z = ev v)
    (hK : ∀ w', MapIs w' b ek ev (upd m k v) → Moves (· = b) w w' → w'.heap.size = w.heap.size → wpList P ops Q rest (a.put o.dst undef) w') : wpList P ops Q (o :: rest) a w := by
  refine wpList_plain hg fun K' hK' => ?_
  obtain ⟨w', hrun, r1, r2, r3⟩ := h.update G hT k v
  unfold Oper.wp
  simp only [execOp, hop, hx, hy, hz, Sem.run_bind, hrun, Result.andThen_ok, Sem.run_pure]
  exact hK' _ _ (hK w' r1 r2 r3)

theorem wpListIn_insertM {F : Fence} {nF : Nat} {ops : Array Oper} {rest : List Oper} {o : Oper} {a : Act} {Q : Exit → Act → World → Prop} (hg : o.guard = none) [DecidableEq κ] (x y z : Operand) (t : TypeId) (hop : o.op = Op.insert t x y z) (K E : TypeId) (hT : P.underlying t = some (.map K E)) (G : GoodKey P K ek) (b : Nat) (hx : a.eval x = .map (some b)) (h : MapIs w b ek ev m) (k : κ) (hy : a.eval y = ek k) (v : ν) (hz : a.eval z = ev v)
    (hK : ∀ w', MapIs w' b ek ev (upd m k v) → Moves (· = b) w w' → w'.heap.size = w.heap.size → wpListIn F nF P ops Q rest (a.put o.dst undef) w') : wpListIn F nF P ops Q (o :: rest) a w := by
  refine wpListIn_plain hg fun K' hK' => ?_
  obtain ⟨w', hrun, r1, r2, r3⟩ := h.update G hT k v
  unfold Oper.wpIn
  refine ⟨by simp [Oper.about, hop], ?_⟩
  rw [Oper.semAt_plain F _ _ (by rw [hop]; intro c hc'; cases hc')]
  simp only [execOp, hop, hx, hy, hz, Sem.run_bind, hrun, Result.andThen_ok, Sem.run_pure]
  exact hK' _ _ (hK w' r1 r2 r3)

theorem wpList_rangeM {ops : Array Oper} {rest : List Oper} {o : Oper} {a : Act} {Q : Exit → Act → World → Prop} (hg : o.guard = none) [DecidableEq κ] (x : Operand) (t : TypeId) (hop : o.op = Op.range t x) (K E : TypeId) (hT : P.underlying t = some (.map K E)) (inj : ∀ a b, ek a = ek b → a = b) (b : Nat) (hx : a.eval x = .map (some b)) (h : MapIs w b ek ev m)
    (hK : ∀ (ls : List κ) (w' : World), WalkIs w' b w.heap.size ek ev m ls → ls.Nodup → (∀ k, k ∈ ls ↔ (m k).isSome = true) → Below w.heap.size w w' → w'.heap.size = w.heap.size + 1 → wpList P ops Q rest (a.put o.dst (.pointer (some ⟨w.heap.size, 0, none⟩))) w') : wpList P ops Q (o :: rest) a w := by
  refine wpList_plain hg fun K' hK' => ?_
  obtain ⟨hrun, ls, h1, h2, h3⟩ := h.walk (P := P) inj hT
  unfold Oper.wp
  simp only [execOp, hop, hx, Sem.run_bind, hrun, Result.andThen_ok, Sem.run_pure]
  exact hK' _ _ (hK ls _ h1 h2 h3 ((Below.refl _ _).alloc (Nat.le_refl _) _) (by simp))

theorem wpListIn_rangeM {F : Fence} {nF : Nat} {ops : Array Oper} {rest : List Oper} {o : Oper} {a : Act} {Q : Exit → Act → World → Prop} (hg : o.guard = none) [DecidableEq κ] (x : Operand) (t : TypeId) (hop : o.op = Op.range t x) (K E : TypeId) (hT : P.underlying t = some (.map K E)) (inj : ∀ a b, ek a = ek b → a = b) (b : Nat) (hx : a.eval x = .map (some b)) (h : MapIs w b ek ev m)
    (hK : ∀ (ls : List κ) (w' : World), WalkIs w' b w.heap.size ek ev m ls → ls.Nodup → (∀ k, k ∈ ls ↔ (m k).isSome = true) → Below w.heap.size w w' → w'.heap.size = w.heap.size + 1 → wpListIn F nF P ops Q rest (a.put o.dst (.pointer (some ⟨w.heap.size, 0, none⟩))) w') : wpListIn F nF P ops Q (o :: rest) a w := by
  refine wpListIn_plain hg fun K' hK' => ?_
  obtain ⟨hrun, ls, h1, h2, h3⟩ := h.walk (P := P) inj hT
  unfold Oper.wpIn
  refine ⟨by simp [Oper.about, hop], ?_⟩
  rw [Oper.semAt_plain F _ _ (by rw [hop]; intro c hc'; cases hc')]
  simp only [execOp, hop, hx, Sem.run_bind, hrun, Result.andThen_ok, Sem.run_pure]
  exact hK' _ _ (hK ls _ h1 h2 h3 ((Below.refl _ _).alloc (Nat.le_refl _) _) (by simp))

theorem wpList_nextM {ops : Array Oper} {rest : List Oper} {o : Oper} {a : Act} {Q : Exit → Act → World → Prop} (hg : o.guard = none) [DecidableEq κ] (x : Operand) (hop : o.op = Op.next x false) (inj : ∀ a b, ek a = ek b → a = b) (b r : Nat) (hx : a.eval x = .pointer (some ⟨r, 0, none⟩)) (ls : List κ) (h : WalkIs w b r ek ev m ls) (hne : ls ≠ [])
    (hK : ∀ (k : κ) (v : ν) (w' : World), k ∈ ls → m k = some v → WalkIs w' b r ek ev m (ls.filter (fun x => decide (x ≠ k))) → Moves (· = r) w w' → w'.heap.size = w.heap.size → (Instr.entry (.pointer (some ⟨r, 0, none⟩))).run P w' = .ok (.tuple #[ek k, ev v]) w' → wpList P ops Q rest (a.put o.dst (.tuple #[.bool true, ek k, ev v])) w') : wpList P ops Q (o :: rest) a w := by
  refine wpList_plain hg fun K' hK' => ?_
  obtain ⟨k, v, w', h1, h2, hrun, h3, h4, h5, h6⟩ := h.step (P := P) hne inj o.type
  unfold Oper.wp
  simp only [execOp, hop, hx, Sem.run_bind, hrun, Result.andThen_ok, Sem.run_pure]
  exact hK' _ _ (hK k v w' h1 h2 h3 h4 h5 (h6 w' rfl rfl))

theorem wpListIn_nextM {F : Fence} {nF : Nat} {ops : Array Oper} {rest : List Oper} {o : Oper} {a : Act} {Q : Exit → Act → World → Prop} (hg : o.guard = none) [DecidableEq κ] (x : Operand) (hop : o.op = Op.next x false) (inj : ∀ a b, ek a = ek b → a = b) (b r : Nat) (hx : a.eval x = .pointer (some ⟨r, 0, none⟩)) (ls : List κ) (h : WalkIs w b r ek ev m ls) (hne : ls ≠ [])
    (hK : ∀ (k : κ) (v : ν) (w' : World), k ∈ ls → m k = some v → WalkIs w' b r ek ev m (ls.filter (fun x => decide (x ≠ k))) → Moves (· = r) w w' → w'.heap.size = w.heap.size → (Instr.entry (.pointer (some ⟨r, 0, none⟩))).run P w' = .ok (.tuple #[ek k, ev v]) w' → wpListIn F nF P ops Q rest (a.put o.dst (.tuple #[.bool true, ek k, ev v])) w') : wpListIn F nF P ops Q (o :: rest) a w := by
  refine wpListIn_plain hg fun K' hK' => ?_
  obtain ⟨k, v, w', h1, h2, hrun, h3, h4, h5, h6⟩ := h.step (P := P) hne inj o.type
  unfold Oper.wpIn
  refine ⟨by simp [Oper.about, hop], ?_⟩
  rw [Oper.semAt_plain F _ _ (by rw [hop]; intro c hc'; cases hc')]
  simp only [execOp, hop, hx, Sem.run_bind, hrun, Result.andThen_ok, Sem.run_pure]
  exact hK' _ _ (hK k v w' h1 h2 h3 h4 h5 (h6 w' rfl rfl))

end
end Go.Proofs.YthpkgabckklojaaGreat

/- Ranges over functions: the marks that such a loop leaves on its activation, and the law in the plain walk's form. Nothing is asked. -/
namespace Go.Proofs.YthpkgabckklojaaGreat
open Go.RowKit Go.Shelf

/-- The mark that a range over a function leaves. -/
def Mark (D : Nat) : Deferred := { target := .collected D, args := #[] }
/-- The blocks of the marks: from B on, each once, with no deferred call. -/
def MarksIn (B : Nat) (w : World) (Ds : List Nat) : Prop := Ds.Nodup ∧ ∀ D ∈ Ds, B ≤ D ∧ w.heap[D]? = some (.deferred (some []))
theorem MarksIn.nil (B : Nat) (w : World) : MarksIn B w [] := ⟨List.nodup_nil, by simp⟩
theorem MarksIn.later {B : Nat} {w w' : World} {Ds : List Nat} (h : MarksIn B w Ds) (hb : Below w.heap.size w w') : MarksIn B w' Ds :=
  ⟨h.1, fun D hD => ⟨(h.2 D hD).1, (hb.block D (Array.getElem?_eq_some_iff.1 (h.2 D hD).2).1).trans (h.2 D hD).2⟩⟩
theorem MarksIn.moves {Bs : Nat → Prop} {B : Nat} {w w' : World} {Ds : List Nat} (h : MarksIn B w Ds) (hm : Moves Bs w w') (hn : ∀ D ∈ Ds, ¬ Bs D) : MarksIn B w' Ds :=
  ⟨h.1, fun D hD => ⟨(h.2 D hD).1, (hm.block D (Array.getElem?_eq_some_iff.1 (h.2 D hD).2).1 (hn D hD)).trans (h.2 D hD).2⟩⟩
theorem MarksIn.push {B : Nat} {w W : World} {Ds : List Nat} {D : Nat} (h : MarksIn B w Ds) (h2 : MarksIn B W Ds) (hD : w.heap.size ≤ D) (hB : B ≤ D) (hk : W.heap[D]? = some (.deferred (some []))) : MarksIn B W (D :: Ds) := by
  refine ⟨List.nodup_cons.2 ⟨fun hm => ?_, h.1⟩, fun x hx => ?_⟩
  · have := (Array.getElem?_eq_some_iff.1 (h.2 D hm).2).1; omega
  · rcases List.mem_cons.1 hx with rfl | hx
    · exact ⟨hB, hk⟩
    · exact h2.2 x hx

/-- Behind the marks: their blocks are taken, all else is as it was. -/
structure Wiped (B : Nat) (w w' : World) : Prop where
  os : w'.os = w.os
  tape : w'.tape = w.tape
  output : w'.output = w.output
  size : w'.heap.size = w.heap.size
  same : ∀ k, k < B ∨ (∀ x, w.heap[k]? ≠ some (.deferred x)) → w'.heap[k]? = w.heap[k]?
theorem Wiped.refl (B : Nat) (w : World) : Wiped B w w := ⟨rfl, rfl, rfl, rfl, fun _ _ => rfl⟩
theorem Wiped.below {B B0 : Nat} {w0 w w' : World} (h : Wiped B w w') (hb : Below B0 w0 w) (hB : B0 ≤ B) : Below B0 w0 w' :=
  ⟨h.os.trans hb.os, h.tape.trans hb.tape, h.output.trans hb.output, by rw [h.size]; exact hb.size, fun k hk => (h.same k (.inl (by omega))).trans (hb.block k hk)⟩
theorem Wiped.moves {Bs : Nat → Prop} {B : Nat} {w0 w w' : World} (h : Wiped B w w') (hb : Moves Bs w0 w) (hB : w0.heap.size ≤ B) : Moves Bs w0 w' :=
  ⟨h.os.trans hb.os, h.tape.trans hb.tape, h.output.trans hb.output, by rw [h.size]; exact hb.size, fun k hk hn => (h.same k (.inl (by omega))).trans (hb.block k hk hn)⟩
theorem Wiped.box {B : Nat} {w w' : World} {b : Nat} {cs : List Value} (h : Wiped B w w') (hx : Box w b cs) : Box w' b cs := by
  obtain ⟨T, hx⟩ := hx
  exact ⟨T, (h.same b (.inr fun x e => by rw [hx] at e; cases e)).trans hx⟩
theorem Wiped.map {κ ν : Type} {B : Nat} {w w' : World} {b : Nat} {ek : κ → Value} {ev : ν → Value} {m : κ → Option ν} (h : Wiped B w w') (hx : MapIs w b ek ev m) : MapIs w' b ek ev m := by
  refine hx.at_ (h.same b (.inr fun x e => ?_))
  obtain ⟨es, clock, hb, _⟩ := hx
  rw [hb] at e; cases e
theorem Wiped.cell {B : Nat} {w w' : World} {a : Addr} {v : Value} (h : Wiped B w w') (hx : w.cell? a = some v) : w'.cell? a = some v := by
  have : w'.heap[a.block]? = w.heap[a.block]? := h.same a.block (.inr fun x e => by simp [World.cell?, e] at hx)
  rw [← hx]; exact World.cell?_of_block this

/-- What a body with marks must achieve. -/
def bodyPostC (P : Program) (fn : Func) (B : Nat) (R : Ending → World → Prop) : Exit → Act → World → Prop
  | .normal, a, w | .ret, a, w => ∃ Ds, a.defers = Ds.map Mark ∧ MarksIn B w Ds ∧ ∀ w', Wiped B w w' → ∃ v, (results fn a.tmps).run P w' = .ok v w' ∧ R (.returned v) w'
  | _, _, _ => False

theorem leaves_of_marks {P : Program} {n : Nat} {fn : Func} {tmps : Array Value} {R : Ending → World → Prop} {B : Nat} (w0 : World) : ∀ (Ds : List Nat) (w : World), MarksIn B w Ds → Wiped B w0 w →
    (∀ w', Wiped B w0 w' → ∃ v, (results fn tmps).run P w' = .ok v w' ∧ R (.returned v) w') → LeavesInM Fence.wide n P fn tmps R (Ds.map Mark) .returning w
  | [], w, _, hw, h => h w hw
  | D :: Ds, w, hm, hw, h => by
    have hD := hm.2 D (by simp)
    have hlt := (Array.getElem?_eq_some_iff.1 hD.2).1
    refine ⟨by simp, .inl ⟨D, _, rfl, run_takeDeferred hD.2, leaves_of_marks w0 Ds _ ⟨(List.nodup_cons.1 hm.1).2, fun x hx => ⟨(hm.2 x (by simp [hx])).1, ?_⟩⟩ ?_ h⟩⟩
    · have hne : x ≠ D := fun e => (List.nodup_cons.1 hm.1).1 (e ▸ hx)
      rw [World.putObj_heap_other hne]; exact (hm.2 x (by simp [hx])).2
    · refine ⟨hw.os, hw.tape, hw.output, by simp [World.putObj, hw.size], fun k hk => ?_⟩
      have hne : k ≠ D := by
        rintro rfl
        rcases hk with hk | hk
        · omega
        · have h1 := hw.same k (.inr hk)
          exact hk (some []) (h1.symm.trans hD.2)
      rw [World.putObj_heap_other hne]; exact hw.same k hk

/-- A function's contract out of its body's walk, where the body ranges over functions. -/
theorem calls_of_wpC {P : Program} {f : FuncId} {fn : Func} {c : Code} {args : Array Value} {w : World} {R : Ending → World → Prop} (hf : P.funcs[f]? = some fn) (hb : fn.body = some c) (B : Nat)
    (h : c.wp P (bodyPostC P fn B R) { tmps := args ++ Array.replicate (fn.ntmps - args.size) undef, defers := [] } w) : Calls P f args w R := by
  refine (callsIn_wide (n := 3)).1 (callsIn_of_wp_marks hf hb trivial (wpIn_mono (wpIn_wide.2 h) ?_) rfl)
  intro e a w hq
  cases e with
  | normal => obtain ⟨Ds, hd, hm, hr⟩ := hq; show LeavesInM _ _ _ _ _ _ a.defers _ _; rw [hd]; exact leaves_of_marks w Ds w hm (Wiped.refl _ _) hr
  | ret => obtain ⟨Ds, hd, hm, hr⟩ := hq; show LeavesInM _ _ _ _ _ _ a.defers _ _; rw [hd]; exact leaves_of_marks w Ds w hm (Wiped.refl _ _) hr
  | exit => exact hq.elim
  | goto => exact hq.elim
  | panic => exact hq.elim
  | outgrown => exact hq.elim

/-- How a round's body may be left: only blocks in Bs, and new ones, have turned. -/
def postM {α : Type} (Bs : Nat → Prop) (I : List α → World → Prop) (Ix : Code → List α → World → Prop) (xs : List α) (W : World) : Exit → Act → World → Prop
  | .normal, _, W' => Moves Bs W W' ∧ I xs W'
  | .ret, _, W' => Moves Bs W W' ∧ Ix .ret xs W'
  | .exit id, _, W' => Moves Bs W W' ∧ Ix (.exit id) xs W'
  | .goto t, _, W' => Moves Bs W W' ∧ Ix (.goto t) xs W'
  | .panic _, _, _ => False
  | .outgrown, _, _ => False

/-- The blocks in Ks lie as they lay. -/
def KeptKs (Ks : List Nat) (A B : World) : Prop := ∀ b ∈ Ks, B.heap[b]? = A.heap[b]?

theorem keepsFrom_of_moves {Bs : Nat → Prop} {B : Nat} {W W' : World} (h : Moves Bs W W') (hB : ∀ k, Bs k → k < B) : KeepsFrom B W W' :=
  ⟨h.size, fun k o hk ho _ => (h.block k (Array.getElem?_eq_some_iff.1 ho).1 (fun hb => by have := hB k hb; omega)).trans ho⟩

set_option maxHeartbeats 400000 in
/-- The law for 'for .. := range f', in the plain walk's form. -/
theorem wp_range {α : Type} {P : Program} {g : Operand} {ps : Array Tmp} {assign body : Code} {Q : Exit → Act → World → Prop} {a : Act} {w : World} {gf : Nat} {lb : Array Value}
    (hg : a.eval g = .func (.func gf) #[] lb) (eg : ∀ args w, (callFunc gf args).run P w = .ok (.enter gf args) w) {encs : α → Array Value} {S Sp : List α → Prop} {N : Nat} {w0 : World}
    (Ks : List Nat) (Bs : Nat → Prop) (hKs : ∀ b ∈ Ks, b < w.heap.size ∧ ¬ Bs b) (hBs : ∀ k, Bs k → k < w.heap.size)
    (hseq : SeqStopsK Fence.wide 2 P gf lb encs (KeptKs Ks) S Sp N w0) (hb0 : Below w0.heap.size w0 w) (hps : ∀ x, (encs x).size = ps.size)
    (I : List α → World → Prop) (Ix : Code → List α → World → Prop) (hI : OwnFrom w.heap.size I) (hIx : ∀ c, OwnFrom w.heap.size (Ix c)) (h0 : I [] w) (Ax : α → Act → World → Prop) (hAx : ∀ x a', OwnFrom w.heap.size (fun (_ : Unit) W => Ax x a' W))
    (hassign : ∀ (l : Nat) (pre : List α) (x : α) (W : World) (K : Act → World → Prop), Moves Bs w W → I pre W → (∀ a' W', Moves (fun _ => False) W W' → I pre W' → Ax x a' W' → K a' W') →
      assign.wpIn (Fence.wide.inRound l) 1 P (Exit.then K (fun _ _ _ => False)) { tmps := (ps.zip (encs x)).foldl (fun t (p, v) => t.setIfInBounds p v) a.tmps, defers := [] } W)
    (hbody : ∀ (l : Nat) (pre : List α) (x : α) (a' : Act) (W : World), Moves Bs w W → I pre W → Ax x a' W → pre.length < N → body.wpIn (Fence.wide.inRound l) 1 P (postM Bs I Ix (pre ++ [x]) W) a' W)
    (hdone : ∀ (D : Nat) (xs : List α) (W : World), w.heap.size ≤ D → Moves Bs w W → S xs → I xs W → W.heap[D]? = some (.deferred (some [])) → Q .normal { a with defers := Mark D :: a.defers } W)
    (hstop : ∀ (D : Nat) (c : Code) (pre : List α) (W : World), w.heap.size ≤ D → Moves Bs w W → Sp pre → Ix c pre W → W.heap[D]? = some (.deferred (some [])) → c.wp P Q { a with defers := Mark D :: a.defers } W) :
    (Code.rangeFunc g ps assign body).wp P Q a w := by
  have hM : ∀ (β : Type), OwnFrom w.heap.size (fun (_ : β) W => Moves Bs w W) := fun β s A B row hs hg' hr => hs.grown hg' (fun r e hlt => by have := (hr r e).1; omega)
  refine (wpIn_wide (n := 3)).1 (wpIn_rangeFunc_ownH (F := Fence.wide) (n := 3) rfl (by omega) hg trivial eg hseq (fun h1 h2 b hb => (h2 b hb).trans (h1 b hb))
    (fun W l o o' hl _ _ _ b hb => World.putObj_heap_other (by have := (hKs b hb).1; omega)) hb0 hps
    (fun pre W => Moves Bs w W ∧ I pre W) (fun c pre W => Moves Bs w W ∧ Ix c pre W)
    (fun s A B row hs hg' hr => ⟨hM Unit () A B row hs.1 hg' hr, hI s A B row hs.2 hg' hr⟩) (fun c s A B row hs hg' hr => ⟨hM Unit () A B row hs.1 hg' hr, hIx c s A B row hs.2 hg' hr⟩) ⟨Moves.refl w, h0⟩ Ax hAx ?_ ?_ ?_ ?_)
  · rintro l pre x W K ⟨hm, hi⟩ hK
    refine hassign l pre x W K hm hi (fun a' W' hmv hi' hax => hK a' W' (keepsFrom_of_moves hmv (fun k h => h.elim)) (fun b hb => hmv.block b (Nat.lt_of_lt_of_le (hKs b hb).1 hm.size) (fun h => h)) ⟨hm.trans hmv (fun _ _ h => h.elim), hi'⟩ hax)
  · rintro l pre x a' W hl _ ⟨hm, hi⟩ hax hlen
    refine wpIn_mono (hbody l pre x a' W hm hi hax hlen) ?_
    intro e a2 W2 hp
    cases e with
    | normal => exact ⟨keepsFrom_of_moves hp.1 hBs, fun b hb => hp.1.block b (Nat.lt_of_lt_of_le (hKs b hb).1 hm.size) (hKs b hb).2, hm.trans hp.1 (fun _ _ h => h), hp.2⟩
    | ret => exact ⟨keepsFrom_of_moves hp.1 hBs, hm.trans hp.1 (fun _ _ h => h), hp.2⟩
    | exit id => exact ⟨keepsFrom_of_moves hp.1 hBs, hm.trans hp.1 (fun _ _ h => h), hp.2⟩
    | goto t => exact ⟨keepsFrom_of_moves hp.1 hBs, hm.trans hp.1 (fun _ _ h => h), hp.2⟩
    | panic _ => exact hp.elim
    | outgrown => exact hp.elim
  · rintro D xs W hD hS ⟨hm, hi⟩ hk
    exact hdone D xs W hD hm hS hi hk
  · rintro D c pre W hD hS ⟨hm, hi⟩ hk
    exact wpIn_wide.2 (hstop D c pre W hD hm hS hi hk)

end Go.Proofs.YthpkgabckklojaaGreat

/- Rows that the call makes and appends to. Nothing is asked. -/
namespace Go.Proofs.YthpkgabckklojaaGreat
open Go.RowKit Go.Shelf

theorem ex_arrow {α : Type} {p : α → Prop} {b : Prop} (h : ∀ x, p x → b) : (∃ x, p x) → b := fun ⟨x, hx⟩ => h x hx
/-- The walk stops here. -/
def Stopped (p : Prop) : Prop := p
theorem Stopped.mk {p : Prop} (h : Stopped p) : p := h
/-- A slice that the call owns, from its row's head on: n elements of z cells each. -/
def Row (w : World) (B : Nat) (T : TypeId) (z : Nat) (g n cap : Nat) (cs : List Value) : Prop := w.ownsRow B T z (.slice (some ⟨g, 0, none⟩) n cap) n cs
theorem Row.lt {w : World} {B : Nat} {T : TypeId} {z g n cap : Nat} {cs : List Value} (h : Row w B T z g n cap cs) : g < w.heap.size := (World.ownsRow.lt h g rfl).2
theorem Row.ge {w : World} {B : Nat} {T : TypeId} {z g n cap : Nat} {cs : List Value} (h : Row w B T z g n cap cs) : B ≤ g := (World.ownsRow.lt h g rfl).1
theorem Row.len {w : World} {B : Nat} {T : TypeId} {z g n cap : Nat} {cs : List Value} (h : Row w B T z g n cap cs) : cs.length = n * z := h.1
theorem Row.at_ {w w' : World} {B : Nat} {T : TypeId} {z g n cap : Nat} {cs : List Value} (h : Row w B T z g n cap cs) (e : w'.heap[g]? = w.heap[g]?) : Row w' B T z g n cap cs := by
  refine ⟨h.1, .inr ?_⟩
  rcases h.2 with ⟨h2, _⟩ | ⟨g', cap', cur, hv, h3, h4, h5⟩
  · cases h2
  · cases hv; exact ⟨g, cap, cur, rfl, h3, e.trans h4, h5⟩
theorem Row.cell {w : World} {B : Nat} {T : TypeId} {z g n cap : Nat} {cs : List Value} (h : Row w B T z g n cap cs) (j : Nat) {u : Value} (hu : cs[j]? = some u) : w.cell? ⟨g, j, none⟩ = some u := by
  have hj := (List.getElem?_eq_some_iff.1 hu).1
  rw [h.len] at hj
  exact (World.ownsRow.cellAt h j hj).trans hu
theorem Row.free {w : World} {B : Nat} {T : TypeId} {z g n cap : Nat} {cs : List Value} (h : Row w B T z g n cap cs) (j : Nat) : w.frozen? ⟨g, j, none⟩ = false := World.ownsRow.frozenAt h j
theorem Row.kind {w : World} {B : Nat} {T : TypeId} {z g n cap : Nat} {cs : List Value} (h : Row w B T z g n cap cs) : ∃ cur, w.heap[g]? = some (.cells cur T (0, 0)) := by
  rcases h.2 with ⟨h2, _⟩ | ⟨g', cap', cur, hv, h3, h4, h5⟩
  · cases h2
  · cases hv; exact ⟨cur, h4⟩
theorem Row.later {w w' : World} {B : Nat} {T : TypeId} {z g n cap : Nat} {cs : List Value} (h : Row w B T z g n cap cs) (hb : Below w.heap.size w w') : Row w' B T z g n cap cs := h.at_ (hb.block g h.lt)
theorem Row.moves {Bs : Nat → Prop} {w w' : World} {B : Nat} {T : TypeId} {z g n cap : Nat} {cs : List Value} (h : Row w B T z g n cap cs) (hb : Moves Bs w w') (hn : ¬ Bs g) : Row w' B T z g n cap cs := h.at_ (hb.block g h.lt hn)
theorem Row.alloc {w : World} {B : Nat} {T : TypeId} {z g n cap : Nat} {cs : List Value} (h : Row w B T z g n cap cs) (o : Obj) : Row (w.alloc o) B T z g n cap cs := h.later ((Below.refl _ _).alloc (Nat.le_refl _) _)
theorem Row.wiped {w w' : World} {B B0 : Nat} {T : TypeId} {z g n cap : Nat} {cs : List Value} (h : Row w B T z g n cap cs) (hw : Wiped B0 w w') : Row w' B T z g n cap cs := by
  obtain ⟨cur, hk⟩ := h.kind
  exact h.at_ (hw.same g (.inr fun x e => by rw [hk] at e; cases e))
theorem Row.low {w : World} {B B' : Nat} {T : TypeId} {z g n cap : Nat} {cs : List Value} (h : Row w B T z g n cap cs) (hB : B' ≤ g) : Row w B' T z g n cap cs := by
  refine ⟨h.1, .inr ?_⟩
  rcases h.2 with ⟨h2, _⟩ | ⟨g', cap', cur, hv, h3, h4, h5⟩
  · cases h2
  · cases hv; exact ⟨g, cap, cur, rfl, hB, h4, h5⟩
/-- A map's block is no row's. -/
theorem Row.no_map {w : World} {B : Nat} {T : TypeId} {z g n cap : Nat} {cs : List Value} (h : Row w B T z g n cap cs) {κ ν : Type} {b : Nat} {ek : κ → Value} {ev : ν → Value} {m : κ → Option ν} (hm : MapIs w b ek ev m) : b ≠ g := by
  rintro rfl
  obtain ⟨cur, hk⟩ := h.kind
  obtain ⟨es, clock, hb, _⟩ := hm
  rw [hk] at hb; cases hb

theorem MapIs.no_box {w : World} {b c : Nat} {cs : List Value} {κ ν : Type} {ek : κ → Value} {ev : ν → Value} {m : κ → Option ν} (hm : MapIs w b ek ev m) (hx : Box w c cs) : b ≠ c := by
  rintro rfl
  obtain ⟨T, hk⟩ := hx
  obtain ⟨es, clock, hb, _⟩ := hm
  rw [hk] at hb; cases hb
theorem MarksIn.no_row {w : World} {B B0 : Nat} {T : TypeId} {z g n cap : Nat} {cs : List Value} {Ds : List Nat} (hm : MarksIn B0 w Ds) (h : Row w B T z g n cap cs) : ∀ D ∈ Ds, D ≠ g := by
  rintro D hD rfl
  obtain ⟨cur, hk⟩ := h.kind
  have := (hm.2 D hD).2
  rw [hk] at this; cases this
theorem MarksIn.no_box {w : World} {B0 c : Nat} {cs : List Value} {Ds : List Nat} (hm : MarksIn B0 w Ds) (h : Box w c cs) : ∀ D ∈ Ds, D ≠ c := by
  rintro D hD rfl
  obtain ⟨T, hk⟩ := h
  have := (hm.2 D hD).2
  rw [hk] at this; cases this
theorem MarksIn.no_map {w : World} {B0 b : Nat} {Ds : List Nat} (hm : MarksIn B0 w Ds) {κ ν : Type} {ek : κ → Value} {ev : ν → Value} {m : κ → Option ν} (h : MapIs w b ek ev m) : ∀ D ∈ Ds, D ≠ b := by
  rintro D hD rfl
  obtain ⟨es, clock, hb, _⟩ := h
  have := (hm.2 D hD).2
  rw [hb] at this; cases this
theorem own_box {β : Type} {B b : Nat} {cs : List Value} : OwnFrom B (fun (_ : β) W => Box W b cs) := by
  rintro s W W' row ⟨T, h⟩ hg hr
  refine ⟨T, (hg.block b (Array.getElem?_eq_some_iff.1 h).1 ?_).trans h⟩
  intro e
  obtain ⟨_, o, ho, hc⟩ := hr b e.symm
  rw [h] at ho; cases ho; simp [Obj.isCells] at hc
theorem zip_two (p q : Tmp) (x y : Value) (t : Array Value) : (Array.zip (#[p, q] : Array Tmp) #[x, y]).foldl (fun t (p, v) => t.setIfInBounds p v) t = (t.setIfInBounds p x).setIfInBounds q y := by simp
theorem zip_one (p : Tmp) (x : Value) (t : Array Value) : (Array.zip (#[p] : Array Tmp) #[x]).foldl (fun t (p, v) => t.setIfInBounds p v) t = t.setIfInBounds p x := by simp
theorem owns_moves {Bs : Nat → Prop} {w w' : World} {B : Nat} {T : TypeId} {z n : Nat} {v : Value} {cs : List Value} (h : w.ownsRow B T z v n cs) (hm : Moves Bs w w') (hn : ∀ k, v.ownBlock = some k → ¬ Bs k) : w'.ownsRow B T z v n cs := by
  refine ⟨h.1, h.2.imp id ?_⟩
  rintro ⟨g, cap, cur, hv, hb, hg, rest⟩
  exact ⟨g, cap, cur, hv, hb, (hm.block g (Array.getElem?_eq_some_iff.1 hg).1 (hn g (by rw [hv]; rfl))).trans hg, rest⟩
theorem owns_ge {w : World} {B : Nat} {T : TypeId} {z n : Nat} {v : Value} {cs : List Value} (h : w.ownsRow B T z v n cs) : ∀ k, v.ownBlock = some k → B ≤ k ∧ k < w.heap.size := World.ownsRow.lt h
/-- The element type of a slice type. -/
structure ElemOf (P : Program) (t e : TypeId) (size bytes : Nat) : Prop where
  ht : P.underlying t = some (.slice e)
  ex : ∃ i z, P.info? e = some i ∧ i.zero = some z ∧ i.size = size ∧ i.bytes = bytes ∧ z.cells.size = size
  pos : 0 < size
  small : bytes ≤ 4096
theorem ElemOf.mk' {P : Program} {t e : TypeId} {size bytes : Nat} {z : Value} (ht : P.underlying t = some (.slice e)) (h : (P.info? e).map (fun i => (i.zero, i.size, i.bytes)) = some (some z, size, bytes)) (hz : z.cells.size = size) (pos : 0 < size) (small : bytes ≤ 4096) : ElemOf P t e size bytes := by
  obtain ⟨i, h1, h2, h3, h4⟩ := info_parts h
  exact ⟨ht, ⟨i, z, h1, h2, h3, h4, hz⟩, pos, small⟩

section
variable {P : Program} {w : World} {ops : Array Oper} {rest : List Oper} {o : Oper} {a : Act} {Q : Exit → Act → World → Prop}
theorem wpList_appendR (hgd : o.guard = none) (s x : Operand) (t : TypeId) (ho : o.op = .call { callee := .builtin .append, args := #[s, x], argTypes := #[t, t] }) (e : TypeId) (size bytes : Nat) (E : ElemOf P t e size bytes)
    (base : Nat) (v : Value) (n : Nat) (xs : List Value) (hs : a.eval s = v) (hown : w.ownsRow base e size v n xs) (b c : Nat) (news : List Value) (hx : a.eval x = .slice (some ⟨b, 0, none⟩) 1 c) (hl : news.length = size)
    (hb : Box w b news) (h1 : ∀ u ∈ news, u.oneCell' = true) (hn : n ≤ 1000000) (hbase : base ≤ w.heap.size)
    (h : ∀ g cap w', Row w' base e size g (n + 1) cap (xs ++ news) → Moves (fun k => v.ownBlock = some k) w w' → (v.ownBlock = some g ∨ w.heap.size ≤ g) → w.heap.size ≤ w'.heap.size → wpList P ops Q rest (a.put o.dst (.slice (some ⟨g, 0, none⟩) (n + 1) cap)) w') : wpList P ops Q (o :: rest) a w := by
  obtain ⟨i, z, i1, i2, i3, i4, i5⟩ := E.ex
  have hsm := E.small
  refine wpList_append_lies w hgd s x t ho base e i z size bytes E.ht i1 i2 i3 i4 i5 E.pos v n xs hs hown ⟨b, 0, none⟩ 1 c news hx (by omega) (fun j u hu => ?_) h1 (by omega) (by have : maxLen = 9223372036854775807 := rfl; omega) ?_ hbase _ rfl ?_
  · have := hb.cell j hu; rcases j with _ | j <;> simpa [Addr.add] using this
  · have : (n + 1) * bytes ≤ 1000001 * 4096 := Nat.mul_le_mul (by omega) hsm
    omega
  · intro g cap w' h2 h3 h4 h5
    exact h g cap w' h2 ⟨h3.os, h3.tape, h3.output, h3.size, fun k hk hn' => h3.block k hk (fun e => hn' e.symm)⟩ (h4.imp id (fun e => by omega)) h3.size
end
end Go.Proofs.YthpkgabckklojaaGreat
