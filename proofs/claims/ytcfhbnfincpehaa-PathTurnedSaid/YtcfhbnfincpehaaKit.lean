/- Plain words for the walks: records of integers as values, slices that read as lists. Nothing is asked. -/
import Derived.WalkKit
import Derived.WalkLawsBesides
import Derived.WalkSpells
import Derived.Lib.Hide
import Derived.Shelf.Abstract
import Derived.Deep.QuietTactic
import Derived.BigQuiet
import Derived.StillTailTactics
import Derived.Deep.LoopGhost
import Derived.Deep.DeepCutAuto
namespace Go.Proofs.Ytcfhbnfincpehaa
open Go.RowKit Go.Shelf

abbrev I (n : Int) : Value := .int .i64 n

/-- The cells from (b, o) on are those of the list. -/
def CellsAt (w : World) (b o : Nat) (cs : List Value) : Prop := ∀ i c, cs[i]? = some c → w.cell? ⟨b, o + i, none⟩ = some c

/-- A slice's parts: its cells read as the list. -/
def SlAt (w : World) (a : Option Addr) (n cap : Nat) (cs : List Value) : Prop :=
  n ≤ cap ∧ cap ≤ maxLen ∧ (a = none → n = 0 ∧ cap = 0) ∧ (cs ≠ [] → ∃ b o, a = some ⟨b, o, none⟩ ∧ b < w.heap.size ∧ CellsAt w b o cs)

/-- A slice's value reads as a list of records. -/
def SlOf {α : Type} (enc : α → List Value) (w : World) (v : Value) (xs : List α) : Prop :=
  ∃ a cap, v = .slice a xs.length cap ∧ SlAt w a xs.length cap (xs.flatMap enc)

theorem CellsAt.below {w w' : World} {b o B : Nat} {cs : List Value} (h : CellsAt w b o cs) (hb : Below B w w') (hB : b < B) : CellsAt w' b o cs :=
  fun i c hc => (hb.cell (p := ⟨b, o + i, none⟩) hB).trans (h i c hc)

theorem SlAt.below {w w' : World} {a : Option Addr} {n cap B : Nat} {cs : List Value} (h : SlAt w a n cap cs) (hb : Below B w w') (hB : w.heap.size ≤ B) : SlAt w' a n cap cs := by
  refine ⟨h.1, h.2.1, h.2.2.1, fun hne => ?_⟩
  obtain ⟨b, o, ha, hlt, hc⟩ := h.2.2.2 hne
  exact ⟨b, o, ha, Nat.lt_of_lt_of_le hlt hb.size, hc.below hb (Nat.lt_of_lt_of_le hlt hB)⟩

theorem SlAt.bd {w : World} {a : Option Addr} {n cap : Nat} {cs : List Value} (h : SlAt w a n cap cs) : n ≤ 9223372036854775807 := by
  have h1 := h.1; have h2 := h.2.1; unfold maxLen at h2; omega

theorem SlOf.below {α : Type} {enc : α → List Value} {w w' : World} {v : Value} {xs : List α} {B : Nat} (h : SlOf enc w v xs) (hb : Below B w w') (hB : w.heap.size ≤ B) : SlOf enc w' v xs := by
  obtain ⟨a, cap, hv, hs⟩ := h
  exact ⟨a, cap, hv, hs.below hb hB⟩

theorem flatMap_get {α : Type} (enc : α → List Value) (k : Nat) (hk : ∀ x, (enc x).length = k) : ∀ (xs : List α) (i j : Nat) (x : α), xs[i]? = some x → j < k → (xs.flatMap enc)[i * k + j]? = (enc x)[j]?
  | [], i, j, x, h, _ => by simp at h
  | y :: ys, 0, j, x, h, hj => by
    simp at h; subst h
    rw [List.flatMap_cons, List.getElem?_append_left (by rw [hk]; omega)]; simp
  | y :: ys, i + 1, j, x, h, hj => by
    simp only [List.getElem?_cons_succ] at h
    rw [List.flatMap_cons, List.getElem?_append_right (by rw [hk, Nat.add_mul]; omega), hk]
    rw [show (i + 1) * k + j - k = i * k + j from by rw [Nat.add_mul]; omega]
    exact flatMap_get enc k hk ys i j x h hj

theorem flatMap_len {α : Type} (enc : α → List Value) (k : Nat) (hk : ∀ x, (enc x).length = k) (xs : List α) : (xs.flatMap enc).length = xs.length * k := by
  induction xs with
  | nil => simp
  | cons x xs ih => simp [List.flatMap_cons, hk, ih, Nat.add_mul]; omega

/-- The cells of the i-th record. -/
theorem SlAt.rec {α : Type} {enc : α → List Value} {w : World} {a : Option Addr} {n cap : Nat} {xs : List α} (h : SlAt w a n cap (xs.flatMap enc)) (k : Nat) (hk : ∀ x, (enc x).length = k) (hk0 : 0 < k) (i : Nat) (hi : i < xs.length) :
    ∃ b o, a = some ⟨b, o, none⟩ ∧ b < w.heap.size ∧ ∀ j c, (enc xs[i])[j]? = some c → w.cell? ⟨b, o + i * k + j, none⟩ = some c := by
  have hne : xs.flatMap enc ≠ [] := by
    intro e
    have := flatMap_len enc k hk xs
    rw [e] at this
    have h2 : 0 < xs.length * k := Nat.mul_pos (by omega) hk0
    simp only [List.length_nil] at this
    omega
  obtain ⟨b, o, ha, hlt, hc⟩ := h.2.2.2 hne
  refine ⟨b, o, ha, hlt, fun j c hj => ?_⟩
  have hj' : j < k := by rw [← hk xs[i]]; exact (List.getElem?_eq_some_iff.1 hj).1
  have := hc (i * k + j) c (by rw [flatMap_get enc k hk xs i j xs[i] (by simp) hj']; exact hj)
  rwa [← Nat.add_assoc] at this

/-- What a contract's world gives, in the walk's own words. -/
theorem bcell {W w1 : World} (hb : Below W.heap.size W w1) : (∀ b o, b < W.heap.size → w1.cell? ⟨b, o, none⟩ = W.cell? ⟨b, o, none⟩) ∧ (∀ b o, b < W.heap.size → w1.frozen? ⟨b, o, none⟩ = W.frozen? ⟨b, o, none⟩) ∧ W.heap.size ≤ w1.heap.size :=
  ⟨fun b o h => hb.cell (p := ⟨b, o, none⟩) h, fun b o h => hb.frozen (p := ⟨b, o, none⟩) h, hb.size⟩

/-- A block of the call's own, known whole. -/
def Box (w : World) (b : Nat) (cs : List Value) : Prop := ∃ T, w.heap[b]? = some (.cells cs.toArray T (0, 0))
theorem Box.lt {w : World} {b : Nat} {cs : List Value} (h : Box w b cs) : b < w.heap.size := by
  obtain ⟨T, h⟩ := h; exact (Array.getElem?_eq_some_iff.1 h).1
theorem Box.cell {w : World} {b : Nat} {cs : List Value} (h : Box w b cs) (i : Nat) {c : Value} (hc : cs[i]? = some c) : w.cell? ⟨b, i, none⟩ = some c := by
  obtain ⟨T, h⟩ := h; simp [World.cell?, h, hc]
theorem Box.free {w : World} {b : Nat} {cs : List Value} (h : Box w b cs) (i : Nat) : w.frozen? ⟨b, i, none⟩ = false := by
  obtain ⟨T, h⟩ := h; simp [World.frozen?, h]
theorem Box.below {w w' : World} {b B : Nat} {cs : List Value} (h : Box w b cs) (hb : Below B w w') (hB : b < B) : Box w' b cs := by
  obtain ⟨T, h⟩ := h; exact ⟨T, (hb.block b hB).trans h⟩
theorem Box.later {w w' : World} {b : Nat} {cs : List Value} (h : Box w b cs) (hb : Below w.heap.size w w') : Box w' b cs := h.below hb h.lt
theorem Box.alloc {w : World} {b : Nat} {cs : List Value} (h : Box w b cs) (o : Obj) : Box (w.alloc o) b cs := h.later ((Below.refl _ _).alloc (Nat.le_refl _) _)
theorem Box.new (w : World) (cs : List Value) (T : TypeId) : Box (w.alloc (.cells cs.toArray T)) w.heap.size cs := ⟨T, heap_alloc_new w _⟩
theorem Box.new' {w : World} {b : Nat} (cs : List Value) (T : TypeId) (h : b = w.heap.size) : Box (w.alloc (.cells cs.toArray T)) b cs := h ▸ Box.new w cs T
theorem Box.set {w : World} {b : Nat} {cs : List Value} (h : Box w b cs) (i : Nat) (v : Value) : Box (w.setCell ⟨b, i, none⟩ v) b (cs.set i v) := by
  obtain ⟨T, h⟩ := h
  refine ⟨T, ?_⟩
  simp only [World.setCell, Array.getElem?_modify, if_true, h]
  simp
theorem Box.other {w : World} {b : Nat} {cs : List Value} (h : Box w b cs) {a : Addr} (ha : a.block ≠ b) (v : Value) : Box (w.setCell a v) b cs := by
  obtain ⟨T, h⟩ := h; exact ⟨T, (Below.heap_setCell w a v b (fun e => ha e.symm)).trans h⟩

theorem Box.drew {w : World} {b : Nat} {cs : List Value} (h : Box w b cs) : Box w.drew b cs := h
/-- For the walk's own set: sizes. -/
theorem lt_step {a b c : Nat} (h : a < b) : a < b + c := Nat.lt_add_right c h
theorem le_step {a b : Nat} (h : a < b) : a ≤ b := Nat.le_of_lt h

theorem below_set {B : Nat} {a w : World} {b i : Nat} {u : Value} (h : Below B a w) (hp : B ≤ b) : Below B a (w.setCell ⟨b, i, none⟩ u) := h.setCell (p := ⟨b, i, none⟩) hp u
theorem ret_bool {a b : Bool} (h : a = b) : Ending.returned (.bool a) = .returned (.bool b) := by rw [h]
theorem ret_int {k : IntKind} {a b : Int} (h : a = b) : Ending.returned (.int k a) = .returned (.int k b) := by rw [h]
theorem ret_agg2 {a b c d : Int} (h : a = c) (h' : b = d) : Ending.returned (.agg #[I a, I b]) = .returned (.agg #[I c, I d]) := by rw [h, h']

/-- Where the first element lies of which p holds; -1. -/
def idxOf {α : Type} (p : α → Bool) (xs : List α) : Int := match xs.findIdx? p with | some k => k | none => -1
theorem idxOf_hit {α : Type} {p : α → Bool} {xs : List α} {k : Nat} (hk : k < xs.length) (hb : (xs.take k).any p = false) (hp : p xs[k] = true) : idxOf p xs = k := by
  have : xs.findIdx? p = some k := by
    rw [List.findIdx?_eq_some_iff_getElem]
    refine ⟨hk, hp, fun j hj => ?_⟩
    rw [List.any_eq_false] at hb
    have := hb (xs[j]) (by rw [List.mem_take_iff_getElem]; exact ⟨j, by omega, rfl⟩)
    simpa using this
  simp [idxOf, this]
theorem idxOf_none {α : Type} {p : α → Bool} {xs : List α} (hb : xs.any p = false) : idxOf p xs = -1 := by
  have : xs.findIdx? p = none := by
    rw [List.findIdx?_eq_none_iff]
    intro x hx
    rw [List.any_eq_false] at hb
    simpa using hb x hx
  simp [idxOf, this]
theorem idxOf_any {α : Type} {p : α → Bool} {xs : List α} : decide (0 ≤ idxOf p xs) = xs.any p := by
  cases h : xs.any p with
  | false => rw [idxOf_none h]; rfl
  | true =>
    cases hf : xs.findIdx? p with
    | none =>
      rw [List.findIdx?_eq_none_iff] at hf
      rw [List.any_eq_true] at h
      obtain ⟨x, hx, hpx⟩ := h
      have := hf x hx
      rw [hpx] at this; cases this
    | some k => simp [idxOf, hf]
theorem any_take_succ {α : Type} {p : α → Bool} {xs : List α} {k : Nat} (hk : k < xs.length) (hb : (xs.take k).any p = false) (hp : p xs[k] = false) : (xs.take (k + 1)).any p = false := by
  rw [List.take_succ_eq_append_getElem hk, List.any_append, hb]; simp [hp]

/-- Results that lie in a block of the call's own. -/
theorem res_cell {P : Program} {fn : Func} {p : Tmp} {ty : TypeId} {b : Nat} {cs : List Value} {w : World} {d : TypeDesc} (h : fn.results = #[.cell p ty]) (tmps : Array Value) (hp : tmps.getD p undef = .pointer (some ⟨b, 0, none⟩)) (hx : Box w b cs)
    (hu : P.underlying ty = some d) (hd : (match d with | .struct _ | .array _ _ => true | _ => false) = true) (hi : (P.info? ty).map (·.size) = some cs.length) :
    (results fn tmps).run P w = .ok (.agg cs.toArray) w := by
  obtain ⟨T, hx⟩ := hx
  have := run_loadVar_row (P := P) w b T ty cs.toArray (0, 0) d hx hu hd (by simpa using hi)
  have hp' : tmps[p]?.getD undef = .pointer (some ⟨b, 0, none⟩) := by simpa using hp
  simp only [results, h]
  simp [Sem.run_bind, hp', asAddr, this, Result.andThen]
theorem res_cell_tmp {P : Program} {fn : Func} {p u : Tmp} {ty : TypeId} {b : Nat} {cs : List Value} {w : World} {d : TypeDesc} (h : fn.results = #[.cell p ty, .tmp u]) (tmps : Array Value) (hp : tmps.getD p undef = .pointer (some ⟨b, 0, none⟩)) (hx : Box w b cs)
    (hu : P.underlying ty = some d) (hd : (match d with | .struct _ | .array _ _ => true | _ => false) = true) (hi : (P.info? ty).map (·.size) = some cs.length) :
    (results fn tmps).run P w = .ok (.tuple #[.agg cs.toArray, tmps.getD u undef]) w := by
  obtain ⟨T, hx⟩ := hx
  have := run_loadVar_row (P := P) w b T ty cs.toArray (0, 0) d hx hu hd (by simpa using hi)
  have hp' : tmps[p]?.getD undef = .pointer (some ⟨b, 0, none⟩) := by simpa using hp
  simp only [results, h]
  simp [Sem.run_bind, hp', asAddr, this, Result.andThen]
theorem res_cell_tmp2 {P : Program} {fn : Func} {p u v : Tmp} {ty : TypeId} {b : Nat} {cs : List Value} {w : World} {d : TypeDesc} (h : fn.results = #[.cell p ty, .tmp u, .tmp v]) (tmps : Array Value) (hp : tmps.getD p undef = .pointer (some ⟨b, 0, none⟩)) (hx : Box w b cs)
    (hu : P.underlying ty = some d) (hd : (match d with | .struct _ | .array _ _ => true | _ => false) = true) (hi : (P.info? ty).map (·.size) = some cs.length) :
    (results fn tmps).run P w = .ok (.tuple #[.agg cs.toArray, tmps.getD u undef, tmps.getD v undef]) w := by
  obtain ⟨T, hx⟩ := hx
  have := run_loadVar_row (P := P) w b T ty cs.toArray (0, 0) d hx hu hd (by simpa using hi)
  have hp' : tmps[p]?.getD undef = .pointer (some ⟨b, 0, none⟩) := by simpa using hp
  simp only [results, h]
  simp [Sem.run_bind, hp', asAddr, this, Result.andThen]

/-- 'make([]T, n)', n a variable, T of several cells. -/
theorem run_make_rowN {P : Program} (t e : TypeId) (i : TypeInfo) (z : Value) (ht : P.underlying t = some (.slice e)) (hi : P.info? e = some i) (hz : i.zero = some z)
    (kl kc : IntKind) (n c : Nat) (hnc : n ≤ c) (hbytes : i.bytes * c ≤ 281474976710656) (h63 : c ≤ 9223372036854775807) (w : World) :
    (Instr.makeSlice t (.int kl (n : Int)) (.int kc (c : Int))).run P w = .ok (.slice (some ⟨w.heap.size, 0, none⟩) n c) (w.alloc (.cells (madeCells z.cells (c * i.size)) e)) := by
  have hb : (i.bytes : Int) * (c : Int) ≤ 281474976710656 := by
    have h : ((i.bytes * c : Nat) : Int) ≤ 281474976710656 := by omega
    rwa [Int.natCast_mul] at h
  have hr := run_make (P := P) w t e i z ht hi hz kl kc n c (by omega) (by omega) hb (by omega)
  simp only [Int.toNat_natCast] at hr
  exact hr

end Go.Proofs.Ytcfhbnfincpehaa
