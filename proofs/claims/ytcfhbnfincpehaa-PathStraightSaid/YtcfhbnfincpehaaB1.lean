/- Own texts, laid together: Kit Spec RefA PathA PathB PathC PathD KitM KitR PathE Keys KitS SpecR PathG. Nothing is asked. -/
import Derived.WalkKit
import Derived.WalkLawsBesides
import Derived.WalkSpells
import Derived.Lib.Hide
import Derived.Shelf.Abstract
import Derived.Deep.QuietTactic
import Derived.BigQuiet
import Derived.StillTailTactics
import Derived.Deep.LoopGhost
import Derived.Deep.DeepCutAuto
import Derived.Test.YtcfhbnfincpehaaChecked
import Derived.Maps.OwnSet
import Derived.Maps.OwnIn
import Derived.Laws.StructEq
import Derived.Maps.RangeRun
import Derived.RangeFuncNested
import Derived.RangeFuncBound
import Derived.RangeFuncCalls
import Derived.RangeFuncLeaves
import Derived.OwnWalkIn
import Derived.TacticsInMore
import Derived.LoopNIn
import Derived.LoopIn
import Derived.Deep.AppendLies
set_option linter.unusedSimpArgs false
set_option linter.unusedVariables false
/- Plain words for the walks: records of integers as values, slices that read as lists. Nothing is asked. -/
namespace Go.Proofs.Ytcfhbnfincpehaa
open Go.RowKit Go.Shelf

abbrev I (n : Int) : Value := .int .i64 n

/-- The cells from (b, o) on are those of the list. -/
def CellsAt (w : World) (b o : Nat) (cs : List Value) : Prop := ∀ i c, cs[i]? = some c → w.cell? ⟨b, o + i, none⟩ = some c

/-- A slice's parts: its cells read as the list. -/
def SlAt (w : World) (a : Option Addr) (n cap : Nat) (cs : List Value) : Prop :=
  n ≤ cap ∧ cap ≤ maxLen ∧ (a = none → n = 0 ∧ cap = 0) ∧ (cs ≠ [] → ∃ b o, a = some ⟨b, o, none⟩ ∧ b < w.heap.size ∧ CellsAt w b o cs)

/-- A slice's value reads as a list of records. -/
def SlOf {α : Type} (enc : α → List Value) (w : World) (v : Value) (xs : List α) : Prop :=
  ∃ a cap, v = .slice a xs.length cap ∧ SlAt w a xs.length cap (xs.flatMap enc)

theorem CellsAt.below {w w' : World} {b o B : Nat} {cs : List Value} (h : CellsAt w b o cs) (hb : Below B w w') (hB : b < B) : CellsAt w' b o cs :=
  fun i c hc => (hb.cell (p := ⟨b, o + i, none⟩) hB).trans (h i c hc)

theorem SlAt.below {w w' : World} {a : Option Addr} {n cap B : Nat} {cs : List Value} (h : SlAt w a n cap cs) (hb : Below B w w') (hB : w.heap.size ≤ B) : SlAt w' a n cap cs := by
  refine ⟨h.1, h.2.1, h.2.2.1, fun hne => ?_⟩
  obtain ⟨b, o, ha, hlt, hc⟩ := h.2.2.2 hne
  exact ⟨b, o, ha, Nat.lt_of_lt_of_le hlt hb.size, hc.below hb (Nat.lt_of_lt_of_le hlt hB)⟩

theorem SlAt.bd {w : World} {a : Option Addr} {n cap : Nat} {cs : List Value} (h : SlAt w a n cap cs) : n ≤ 9223372036854775807 := by
  have h1 := h.1; have h2 := h.2.1; unfold maxLen at h2; omega

theorem SlOf.below {α : Type} {enc : α → List Value} {w w' : World} {v : Value} {xs : List α} {B : Nat} (h : SlOf enc w v xs) (hb : Below B w w') (hB : w.heap.size ≤ B) : SlOf enc w' v xs := by
  obtain ⟨a, cap, hv, hs⟩ := h
  exact ⟨a, cap, hv, hs.below hb hB⟩

theorem flatMap_get {α : Type} (enc : α → List Value) (k : Nat) (hk : ∀ x, (enc x).length = k) : ∀ (xs : List α) (i j : Nat) (x : α), xs[i]? = some x → j < k → (xs.flatMap enc)[i * k + j]? = (enc x)[j]?
  | [], i, j, x, h, _ => by simp at h
  | y :: ys, 0, j, x, h, hj => by
    simp at h; subst h
    rw [List.flatMap_cons, List.getElem?_append_left (by rw [hk]; omega)]; simp
  | y :: ys, i + 1, j, x, h, hj => by
    simp only [List.getElem?_cons_succ] at h
    rw [List.flatMap_cons, List.getElem?_append_right (by rw [hk, Nat.add_mul]; omega), hk]
    rw [show (i + 1) * k + j - k = i * k + j from by rw [Nat.add_mul]; omega]
    exact flatMap_get enc k hk ys i j x h hj

theorem flatMap_len {α : Type} (enc : α → List Value) (k : Nat) (hk : ∀ x, (enc x).length = k) (xs : List α) : (xs.flatMap enc).length = xs.length * k := by
  induction xs with
  | nil => simp
  | cons x xs ih => simp [List.flatMap_cons, hk, ih, Nat.add_mul]; omega

/-- The cells of the i-th record. -/
theorem SlAt.rec {α : Type} {enc : α → List Value} {w : World} {a : Option Addr} {n cap : Nat} {xs : List α} (h : SlAt w a n cap (xs.flatMap enc)) (k : Nat) (hk : ∀ x, (enc x).length = k) (hk0 : 0 < k) (i : Nat) (hi : i < xs.length) :
    ∃ b o, a = some ⟨b, o, none⟩ ∧ b < w.heap.size ∧ ∀ j c, (enc xs[i])[j]? = some c → w.cell? ⟨b, o + i * k + j, none⟩ = some c := by
  have hne : xs.flatMap enc ≠ [] := by
    intro e
    have := flatMap_len enc k hk xs
    rw [e] at this
    have h2 : 0 < xs.length * k := Nat.mul_pos (by omega) hk0
    simp only [List.length_nil] at this
    omega
  obtain ⟨b, o, ha, hlt, hc⟩ := h.2.2.2 hne
  refine ⟨b, o, ha, hlt, fun j c hj => ?_⟩
  have hj' : j < k := by rw [← hk xs[i]]; exact (List.getElem?_eq_some_iff.1 hj).1
  have := hc (i * k + j) c (by rw [flatMap_get enc k hk xs i j xs[i] (by simp) hj']; exact hj)
  rwa [← Nat.add_assoc] at this

/-- What a contract's world gives, in the walk's own words. -/
theorem bcell {W w1 : World} (hb : Below W.heap.size W w1) : (∀ b o, b < W.heap.size → w1.cell? ⟨b, o, none⟩ = W.cell? ⟨b, o, none⟩) ∧ (∀ b o, b < W.heap.size → w1.frozen? ⟨b, o, none⟩ = W.frozen? ⟨b, o, none⟩) ∧ W.heap.size ≤ w1.heap.size :=
  ⟨fun b o h => hb.cell (p := ⟨b, o, none⟩) h, fun b o h => hb.frozen (p := ⟨b, o, none⟩) h, hb.size⟩

/-- A block of the call's own, known whole. -/
def Box (w : World) (b : Nat) (cs : List Value) : Prop := ∃ T, w.heap[b]? = some (.cells cs.toArray T (0, 0))
theorem Box.lt {w : World} {b : Nat} {cs : List Value} (h : Box w b cs) : b < w.heap.size := by
  obtain ⟨T, h⟩ := h; exact (Array.getElem?_eq_some_iff.1 h).1
theorem Box.cell {w : World} {b : Nat} {cs : List Value} (h : Box w b cs) (i : Nat) {c : Value} (hc : cs[i]? = some c) : w.cell? ⟨b, i, none⟩ = some c := by
  obtain ⟨T, h⟩ := h; simp [World.cell?, h, hc]
theorem Box.free {w : World} {b : Nat} {cs : List Value} (h : Box w b cs) (i : Nat) : w.frozen? ⟨b, i, none⟩ = false := by
  obtain ⟨T, h⟩ := h; simp [World.frozen?, h]
theorem Box.below {w w' : World} {b B : Nat} {cs : List Value} (h : Box w b cs) (hb : Below B w w') (hB : b < B) : Box w' b cs := by
  obtain ⟨T, h⟩ := h; exact ⟨T, (hb.block b hB).trans h⟩
theorem Box.later {w w' : World} {b : Nat} {cs : List Value} (h : Box w b cs) (hb : Below w.heap.size w w') : Box w' b cs := h.below hb h.lt
theorem Box.alloc {w : World} {b : Nat} {cs : List Value} (h : Box w b cs) (o : Obj) : Box (w.alloc o) b cs := h.later ((Below.refl _ _).alloc (Nat.le_refl _) _)
theorem Box.new (w : World) (cs : List Value) (T : TypeId) : Box (w.alloc (.cells cs.toArray T)) w.heap.size cs := ⟨T, heap_alloc_new w _⟩
theorem Box.new' {w : World} {b : Nat} (cs : List Value) (T : TypeId) (h : b = w.heap.size) : Box (w.alloc (.cells cs.toArray T)) b cs := h ▸ Box.new w cs T
theorem Box.set {w : World} {b : Nat} {cs : List Value} (h : Box w b cs) (i : Nat) (v : Value) : Box (w.setCell ⟨b, i, none⟩ v) b (cs.set i v) := by
  obtain ⟨T, h⟩ := h
  refine ⟨T, ?_⟩
  simp only [World.setCell, Array.getElem?_modify, if_true, h]
  simp
theorem Box.other {w : World} {b : Nat} {cs : List Value} (h : Box w b cs) {a : Addr} (ha : a.block ≠ b) (v : Value) : Box (w.setCell a v) b cs := by
  obtain ⟨T, h⟩ := h; exact ⟨T, (Below.heap_setCell w a v b (fun e => ha e.symm)).trans h⟩

theorem Box.drew {w : World} {b : Nat} {cs : List Value} (h : Box w b cs) : Box w.drew b cs := h
/-- For the walk's own set: sizes. -/
theorem lt_step {a b c : Nat} (h : a < b) : a < b + c := Nat.lt_add_right c h
theorem le_step {a b : Nat} (h : a < b) : a ≤ b := Nat.le_of_lt h

theorem below_set {B : Nat} {a w : World} {b i : Nat} {u : Value} (h : Below B a w) (hp : B ≤ b) : Below B a (w.setCell ⟨b, i, none⟩ u) := h.setCell (p := ⟨b, i, none⟩) hp u
theorem ret_bool {a b : Bool} (h : a = b) : Ending.returned (.bool a) = .returned (.bool b) := by rw [h]
theorem ret_int {k : IntKind} {a b : Int} (h : a = b) : Ending.returned (.int k a) = .returned (.int k b) := by rw [h]
theorem ret_agg2 {a b c d : Int} (h : a = c) (h' : b = d) : Ending.returned (.agg #[I a, I b]) = .returned (.agg #[I c, I d]) := by rw [h, h']

/-- Where the first element lies of which p holds; -1. -/
def idxOf {α : Type} (p : α → Bool) (xs : List α) : Int := match xs.findIdx? p with | some k => k | none => -1
theorem idxOf_hit {α : Type} {p : α → Bool} {xs : List α} {k : Nat} (hk : k < xs.length) (hb : (xs.take k).any p = false) (hp : p xs[k] = true) : idxOf p xs = k := by
  have : xs.findIdx? p = some k := by
    rw [List.findIdx?_eq_some_iff_getElem]
    refine ⟨hk, hp, fun j hj => ?_⟩
    rw [List.any_eq_false] at hb
    have := hb (xs[j]) (by rw [List.mem_take_iff_getElem]; exact ⟨j, by omega, rfl⟩)
    simpa using this
  simp [idxOf, this]
theorem idxOf_none {α : Type} {p : α → Bool} {xs : List α} (hb : xs.any p = false) : idxOf p xs = -1 := by
  have : xs.findIdx? p = none := by
    rw [List.findIdx?_eq_none_iff]
    intro x hx
    rw [List.any_eq_false] at hb
    simpa using hb x hx
  simp [idxOf, this]
theorem idxOf_any {α : Type} {p : α → Bool} {xs : List α} : decide (0 ≤ idxOf p xs) = xs.any p := by
  cases h : xs.any p with
  | false => rw [idxOf_none h]; rfl
  | true =>
    cases hf : xs.findIdx? p with
    | none =>
      rw [List.findIdx?_eq_none_iff] at hf
      rw [List.any_eq_true] at h
      obtain ⟨x, hx, hpx⟩ := h
      have := hf x hx
      rw [hpx] at this; cases this
    | some k => simp [idxOf, hf]
theorem any_take_succ {α : Type} {p : α → Bool} {xs : List α} {k : Nat} (hk : k < xs.length) (hb : (xs.take k).any p = false) (hp : p xs[k] = false) : (xs.take (k + 1)).any p = false := by
  rw [List.take_succ_eq_append_getElem hk, List.any_append, hb]; simp [hp]

/-- Results that lie in a block of the call's own. -/
theorem res_cell {P : Program} {fn : Func} {p : Tmp} {ty : TypeId} {b : Nat} {cs : List Value} {w : World} {d : TypeDesc} (h : fn.results = #[.cell p ty]) (tmps : Array Value) (hp : tmps.getD p undef = .pointer (some ⟨b, 0, none⟩)) (hx : Box w b cs)
    (hu : P.underlying ty = some d) (hd : (match d with | .struct _ | .array _ _ => true | _ => false) = true) (hi : (P.info? ty).map (·.size) = some cs.length) :
    (results fn tmps).run P w = .ok (.agg cs.toArray) w := by
  obtain ⟨T, hx⟩ := hx
  have := run_loadVar_row (P := P) w b T ty cs.toArray (0, 0) d hx hu hd (by simpa using hi)
  have hp' : tmps[p]?.getD undef = .pointer (some ⟨b, 0, none⟩) := by simpa using hp
  simp only [results, h]
  simp [Sem.run_bind, hp', asAddr, this, Result.andThen]
theorem res_cell_tmp {P : Program} {fn : Func} {p u : Tmp} {ty : TypeId} {b : Nat} {cs : List Value} {w : World} {d : TypeDesc} (h : fn.results = #[.cell p ty, .tmp u]) (tmps : Array Value) (hp : tmps.getD p undef = .pointer (some ⟨b, 0, none⟩)) (hx : Box w b cs)
    (hu : P.underlying ty = some d) (hd : (match d with | .struct _ | .array _ _ => true | _ => false) = true) (hi : (P.info? ty).map (·.size) = some cs.length) :
    (results fn tmps).run P w = .ok (.tuple #[.agg cs.toArray, tmps.getD u undef]) w := by
  obtain ⟨T, hx⟩ := hx
  have := run_loadVar_row (P := P) w b T ty cs.toArray (0, 0) d hx hu hd (by simpa using hi)
  have hp' : tmps[p]?.getD undef = .pointer (some ⟨b, 0, none⟩) := by simpa using hp
  simp only [results, h]
  simp [Sem.run_bind, hp', asAddr, this, Result.andThen]
theorem res_cell_tmp2 {P : Program} {fn : Func} {p u v : Tmp} {ty : TypeId} {b : Nat} {cs : List Value} {w : World} {d : TypeDesc} (h : fn.results = #[.cell p ty, .tmp u, .tmp v]) (tmps : Array Value) (hp : tmps.getD p undef = .pointer (some ⟨b, 0, none⟩)) (hx : Box w b cs)
    (hu : P.underlying ty = some d) (hd : (match d with | .struct _ | .array _ _ => true | _ => false) = true) (hi : (P.info? ty).map (·.size) = some cs.length) :
    (results fn tmps).run P w = .ok (.tuple #[.agg cs.toArray, tmps.getD u undef, tmps.getD v undef]) w := by
  obtain ⟨T, hx⟩ := hx
  have := run_loadVar_row (P := P) w b T ty cs.toArray (0, 0) d hx hu hd (by simpa using hi)
  have hp' : tmps[p]?.getD undef = .pointer (some ⟨b, 0, none⟩) := by simpa using hp
  simp only [results, h]
  simp [Sem.run_bind, hp', asAddr, this, Result.andThen]

/-- 'make([]T, n)', n a variable, T of several cells. -/
theorem run_make_rowN {P : Program} (t e : TypeId) (i : TypeInfo) (z : Value) (ht : P.underlying t = some (.slice e)) (hi : P.info? e = some i) (hz : i.zero = some z)
    (kl kc : IntKind) (n c : Nat) (hnc : n ≤ c) (hbytes : i.bytes * c ≤ 281474976710656) (h63 : c ≤ 9223372036854775807) (w : World) :
    (Instr.makeSlice t (.int kl (n : Int)) (.int kc (c : Int))).run P w = .ok (.slice (some ⟨w.heap.size, 0, none⟩) n c) (w.alloc (.cells (madeCells z.cells (c * i.size)) e)) := by
  have hb : (i.bytes : Int) * (c : Int) ≤ 281474976710656 := by
    have h : ((i.bytes * c : Nat) : Int) ≤ 281474976710656 := by omega
    rwa [Int.natCast_mul] at h
  have hr := run_make (P := P) w t e i z ht hi hz kl kc n c (by omega) (by omega) hb (by omega)
  simp only [Int.toNat_natCast] at hr
  exact hr

end Go.Proofs.Ytcfhbnfincpehaa

/- Plain functions on balls, lanes and pockets: what the walks say the Go functions compute. No program stands here. -/
namespace Go.Proofs.Ytcfhbnfincpehaa
open Go.RowKit

structure Rg where
  lo : Int
  hi : Int
  deriving DecidableEq
structure Pa where
  rows : Rg
  boards : Rg
  level : Int
  deriving DecidableEq
structure La where
  boards : Int
  rows : Int
  hooks : List Rg
  patches : List Pa
  deriving DecidableEq
structure St where
  b : Int
  d : Int
  deriving DecidableEq
structure Pk where
  boards : Rg
  dirs : Rg
  deriving DecidableEq
instance : Inhabited Rg := ⟨⟨0, 0⟩⟩
instance : Inhabited St := ⟨⟨0, 0⟩⟩
instance : Inhabited Pa := ⟨⟨default, default, 0⟩⟩

def encRg (r : Rg) : List Value := [I r.lo, I r.hi]
theorem encRg_len (r : Rg) : (encRg r).length = 2 := rfl
def encPa (p : Pa) : List Value := [I p.rows.lo, I p.rows.hi, I p.boards.lo, I p.boards.hi, I p.level]
theorem encPa_len (p : Pa) : (encPa p).length = 5 := rfl
def encSt (s : St) : List Value := [I s.b, I s.d]
theorem encSt_len (s : St) : (encSt s).length = 2 := rfl
def encI (n : Int) : List Value := [I n]
theorem encI_len (n : Int) : (encI n).length = 1 := rfl

/-- Is a number in a range? -/
def inR (n : Int) (r : Rg) : Bool := decide (r.lo ≤ n ∧ n ≤ r.hi)
def okRg (r : Rg) (lo hi : Int) : Bool := decide (lo ≤ r.lo ∧ r.lo ≤ r.hi ∧ r.hi ≤ hi)
def okPa (l : La) (p : Pa) : Bool := okRg p.rows 0 (l.rows - 1) && okRg p.boards 1 l.boards && decide (0 ≤ p.level ∧ p.level ≤ (l.hooks.length : Int) - 1)

/-- The error of a lane. -/
def fault (l : La) : Int :=
  if 8 < l.patches.length ∨ 4 < l.hooks.length then 3 else
  if ¬ (1 ≤ l.boards ∧ l.boards ≤ 40) ∨ ¬ (1 ≤ l.rows ∧ l.rows ≤ 12) ∨ l.hooks.length = 0 then 1 else
  if l.hooks.all (fun h => okRg h (-3) 3) = false then 1 else
  if l.patches.all (okPa l) = false then 1 else 0

structure Valid (l : La) : Prop where
  np : l.patches.length ≤ 8
  nh : l.hooks.length ≤ 4
  b1 : 1 ≤ l.boards
  b2 : l.boards ≤ 40
  r1 : 1 ≤ l.rows
  r2 : l.rows ≤ 12
  h0 : 0 < l.hooks.length
  hk : ∀ h ∈ l.hooks, -3 ≤ h.lo ∧ h.lo ≤ h.hi ∧ h.hi ≤ 3
  pk : ∀ p ∈ l.patches, (0 ≤ p.rows.lo ∧ p.rows.lo ≤ p.rows.hi ∧ p.rows.hi ≤ l.rows - 1) ∧ (1 ≤ p.boards.lo ∧ p.boards.lo ≤ p.boards.hi ∧ p.boards.hi ≤ l.boards) ∧ 0 ≤ p.level ∧ p.level ≤ (l.hooks.length : Int) - 1

theorem fault_valid {l : La} (h : fault l = 0) : Valid l := by
  unfold fault at h
  split at h
  · omega
  · split at h
    · omega
    · split at h
      · omega
      · split at h
        · omega
        · rename_i h1 h2 h3 h4
          simp only [Bool.not_eq_false, List.all_eq_true] at h3 h4
          refine ⟨by omega, by omega, by omega, by omega, by omega, by omega, by omega, fun x hx => by simpa [okRg] using h3 x hx, fun x hx => ?_⟩
          have := h4 x hx
          simp [okPa, okRg] at this
          omega

theorem valid_fault {l : La} (h : Valid l) : fault l = 0 := by
  obtain ⟨h1, h2, h3, h4, h5, h6, h7, h8, h9⟩ := h
  unfold fault
  rw [if_neg (by omega), if_neg (by omega), if_neg, if_neg]
  · simp only [Bool.not_eq_false, List.all_eq_true]
    intro x hx
    have := h9 x hx
    simp [okPa, okRg]
    omega
  · simp only [Bool.not_eq_false, List.all_eq_true]
    intro x hx
    have := h8 x hx
    simp [okRg]
    omega

def isStart (l : La) (s : St) : Bool := decide (1 ≤ s.b ∧ s.b ≤ l.boards ∧ -5 ≤ s.d ∧ s.d ≤ 5)
def isPocket (p : Pk) : Bool := decide (p.boards.lo ≤ p.boards.hi ∧ p.dirs.lo ≤ p.dirs.hi)
def onL (l : La) (s : St) : Bool := decide (1 ≤ s.b ∧ s.b ≤ l.boards)

/-- The level of a board in a row, of the patches told so far; the hooks. -/
def levelOf (ps : List Pa) (row board : Int) : Int :=
  ps.foldl (fun lv p => if inR row p.rows && inR board p.boards then p.level else lv) 0
def hookOf (l : La) (row board : Int) : Rg := l.hooks.getD (levelOf l.patches row board).toNat default
def clamp (n : Int) : Int := max (-5) (min 5 n)
def nextS (s : St) (t : Int) : St := ⟨s.b + clamp (s.d + t), clamp (s.d + t)⟩

def verdict (n m : Int) : Int := if n = 0 then 0 else if n = m then 2 else 1
def lessS (s t : St) : Bool := decide (s.b < t.b ∨ s.b = t.b ∧ s.d < t.d)

theorem clamp_bd (n : Int) : -5 ≤ clamp n ∧ clamp n ≤ 5 := by unfold clamp; omega

theorem levelOf_snoc (ps : List Pa) (p : Pa) (row board : Int) : levelOf (ps ++ [p]) row board = if inR row p.rows && inR board p.boards then p.level else levelOf ps row board := by
  unfold levelOf; rw [List.foldl_append]; rfl

theorem levelOf_bd {l : La} (h : Valid l) (row board : Int) : 0 ≤ levelOf l.patches row board ∧ levelOf l.patches row board ≤ (l.hooks.length : Int) - 1 := by
  have key : ∀ (ps : List Pa) (a : Int), (0 ≤ a ∧ a ≤ (l.hooks.length : Int) - 1) → (∀ p ∈ ps, 0 ≤ p.level ∧ p.level ≤ (l.hooks.length : Int) - 1) →
      0 ≤ ps.foldl (fun lv p => if inR row p.rows && inR board p.boards then p.level else lv) a ∧ ps.foldl (fun lv p => if inR row p.rows && inR board p.boards then p.level else lv) a ≤ (l.hooks.length : Int) - 1 := by
    intro ps
    induction ps with
    | nil => intro a ha _; exact ha
    | cons p ps ih =>
      intro a ha hp
      rw [List.foldl_cons]
      refine ih _ ?_ (fun q hq => hp q (by simp [hq]))
      split
      · exact hp p (by simp)
      · exact ha
  refine key l.patches 0 ⟨by omega, ?_⟩ (fun p hp => (h.pk p hp).2.2)
  have := h.h0
  omega

theorem hookOf_mem {l : La} (h : Valid l) (row board : Int) : hookOf l row board ∈ l.hooks := by
  have := levelOf_bd h row board
  unfold hookOf
  rw [List.getD_eq_getElem?_getD, List.getElem?_eq_getElem (by omega)]
  simp

theorem hookOf_bd {l : La} (h : Valid l) (row board : Int) : -3 ≤ (hookOf l row board).lo ∧ (hookOf l row board).lo ≤ (hookOf l row board).hi ∧ (hookOf l row board).hi ≤ 3 := h.hk _ (hookOf_mem h row board)

/-- The levels, while a patch is being laid: up to (r, c). -/
def painted (ps : List Pa) (p : Pa) (r c : Int) (row board : Int) : Int :=
  if inR row p.rows && inR board p.boards && decide (row < r ∨ row = r ∧ board < c) then p.level else levelOf ps row board
theorem painted_start (ps : List Pa) (p : Pa) (row board : Int) : painted ps p p.rows.lo p.boards.lo row board = levelOf ps row board := by
  unfold painted; rw [if_neg]; simp [inR]; omega
theorem painted_row (ps : List Pa) (p : Pa) (r c : Int) (hc : c = p.boards.hi + 1) (row board : Int) : painted ps p r c row board = painted ps p (r + 1) p.boards.lo row board := by
  unfold painted
  have : (inR row p.rows && inR board p.boards && decide (row < r ∨ row = r ∧ board < c)) = (inR row p.rows && inR board p.boards && decide (row < r + 1 ∨ row = r + 1 ∧ board < p.boards.lo)) := by
    rw [Bool.eq_iff_iff]; simp [inR]; omega
  rw [this]
theorem painted_end (ps : List Pa) (p : Pa) (r c : Int) (hr : r = p.rows.hi + 1) (row board : Int) : painted ps p r c row board = levelOf (ps ++ [p]) row board := by
  rw [levelOf_snoc]
  unfold painted
  have : (inR row p.rows && inR board p.boards && decide (row < r ∨ row = r ∧ board < c)) = (inR row p.rows && inR board p.boards) := by
    rw [Bool.eq_iff_iff]; simp [inR]; omega
  rw [this]
theorem painted_step (ps : List Pa) (p : Pa) (r c : Int) (h1 : inR r p.rows = true) (h2 : inR c p.boards = true) (row board : Int) :
    painted ps p r (c + 1) row board = if row = r ∧ board = c then p.level else painted ps p r c row board := by
  unfold painted
  simp [inR] at h1 h2
  by_cases h : row = r ∧ board = c
  · rw [if_pos h, if_pos]; simp [inR]; omega
  · rw [if_neg h]
    have : (inR row p.rows && inR board p.boards && decide (row < r ∨ row = r ∧ board < c + 1)) = (inR row p.rows && inR board p.boards && decide (row < r ∨ row = r ∧ board < c)) := by
      rw [Bool.eq_iff_iff]; simp [inR]; omega
    rw [this]

/-- A grid of 41 numbers a row, in cells. -/
def GridOf (cs : List Value) (R : Nat) (f : Int → Int → Int) : Prop := cs.length = R * 41 ∧ ∀ r c : Nat, r < R → c < 41 → cs[r * 41 + c]? = some (I (f r c))
theorem GridOf.congr {cs : List Value} {R : Nat} {f g : Int → Int → Int} (h : GridOf cs R f) (e : ∀ row board, f row board = g row board) : GridOf cs R g :=
  ⟨h.1, fun r c hr hc => by rw [h.2 r c hr hc, e]⟩
theorem GridOf.zero (R : Nat) : GridOf (List.replicate (R * 41) (I 0)) R (levelOf []) :=
  ⟨by simp, fun r c hr hc => by rw [List.getElem?_replicate, if_pos (by omega)]; rfl⟩
theorem GridOf.set {cs : List Value} {R : Nat} {f : Int → Int → Int} (h : GridOf cs R f) (r c : Nat) (hr : r < R) (hc : c < 41) (v : Int) :
    GridOf (cs.set (r * 41 + c) (I v)) R (fun row board => if row = r ∧ board = c then v else f row board) := by
  refine ⟨by rw [List.length_set]; exact h.1, fun r' c' hr' hc' => ?_⟩
  rw [List.getElem?_set]
  by_cases e : r' = r ∧ c' = c
  · obtain ⟨rfl, rfl⟩ := e
    rw [if_pos rfl, if_pos (by rw [h.1]; omega)]
    simp
  · rw [if_neg (by omega), h.2 r' c' hr' hc']
    simp only
    rw [if_neg (by omega)]

/-- The error of a lane with a start. -/
def startErr (l : La) (s : St) : Int := if fault l ≠ 0 then fault l else if isStart l s then 0 else 2

end Go.Proofs.Ytcfhbnfincpehaa

/- The walks of the reference's small functions (kingpinref04): In, span, Fault, IsStart, IsPocket, Hook, Next, Verdict, Less. Nothing is asked but how the arguments lie. -/
namespace Go.Proofs.Ytcfhbnfincpehaa
open Go.RowKit
attribute [local go_sem] lt_step le_step

/-- How the lists of a lane lie. -/
def LaneAt (w : World) (l : La) (ha : Option Addr) (hc : Nat) (pa : Option Addr) (pc : Nat) : Prop :=
  SlAt w ha l.hooks.length hc (l.hooks.flatMap encRg) ∧ SlAt w pa l.patches.length pc (l.patches.flatMap encPa)
theorem LaneAt.below {w w' : World} {l : La} {ha : Option Addr} {hc : Nat} {pa : Option Addr} {pc B : Nat} (h : LaneAt w l ha hc pa pc) (hb : Below B w w') (hB : w.heap.size ≤ B) : LaneAt w' l ha hc pa pc :=
  ⟨h.1.below hb hB, h.2.below hb hB⟩

theorem In_any (n lo hi : Int) (w : World) :
    Calls Try.prog 22 #[I n, I lo, I hi] w fun e w' => e = .returned (.bool (decide (lo ≤ n ∧ n ≤ hi))) ∧ w = w' := by
  go_enter Try.func22, Try.ntmps22
  go_wp2
  all_goals (go_ret; refine ⟨ret_bool ?_, rfl⟩; rw [Bool.eq_iff_iff]; simp <;> omega)

theorem span_any (a b lo hi : Int) (w : World) :
    Calls Try.prog 70 #[.agg #[I a, I b], I lo, I hi] w fun e w' => e = .returned (.bool (okRg ⟨a, b⟩ lo hi)) ∧ Below w.heap.size w w' := by
  go_enter Try.func70, Try.ntmps70
  go_wp2_with (go_at_call 22; refine Calls.mono (In_any _ _ _ _) ?_; rintro e w' ⟨rfl, rfl⟩)
  all_goals (go_ret; refine ⟨ret_bool ?_, (Below.refl _ _).alloc (Nat.le_refl _) _⟩; rw [Bool.eq_iff_iff]; simp [okRg] <;> omega)

set_option maxHeartbeats 800000 in
theorem Fault_any (l : La) (ha pa : Option Addr) (hc pc : Nat) (w : World) (H : LaneAt w l ha hc pa pc) :
    Calls Try.prog 28 #[.agg #[I l.boards, I l.rows, .slice ha l.hooks.length hc, .slice pa l.patches.length pc]] w fun e w' => e = .returned (I (fault l)) ∧ Below w.heap.size w w' := by
  have H2 := Lib.hid H
  clear H
  by_cases g1 : 8 < l.patches.length ∨ 4 < l.hooks.length ∨ ¬ (1 ≤ l.boards ∧ l.boards ≤ 40) ∨ ¬ (1 ≤ l.rows ∧ l.rows ≤ 12) ∨ l.hooks.length = 0
  · by_cases g2 : l.hooks.length = 0
    all_goals
      have e0 : ((l.hooks.length : Int) == 0) = decide (l.hooks.length = 0) := by rw [Bool.eq_iff_iff]; simp
      simp only [g2, decide_true, decide_false] at e0
      go_enter Try.func28, Try.ntmps28
      go_wp2_with (first | (go_at_call 22; refine Calls.mono (In_any _ _ _ _) ?_; rintro e w' ⟨rfl, rfl⟩) | fail)
      all_goals (first | (exfalso; omega) | (go_ret; refine ⟨ret_int ?_, (Below.refl _ _).alloc (Nat.le_refl _) _⟩; unfold fault; split <;> first | rfl | omega | (split <;> first | rfl | omega)))
  · have e0 : ((l.hooks.length : Int) == 0) = false := by simp; intro e; apply g1; simp [e]
    have p1 : l.patches.length ≤ 8 := by omega
    have p2 : l.hooks.length ≤ 4 := by omega
    have p3 : 1 ≤ l.boards := by omega
    have p4 : l.boards ≤ 40 := by omega
    have p5 : 1 ≤ l.rows := by omega
    have p6 : l.rows ≤ 12 := by omega
    clear g1
    have hF : Hid (fault l = if l.hooks.all (fun h => okRg h (-3) 3) = false then 1 else if l.patches.all (okPa l) = false then 1 else 0) := by
      have e1 : l.hooks.length ≠ 0 := by intro e; simp [e] at e0
      show fault l = _
      unfold fault; rw [if_neg (by omega), if_neg (by omega)]
    go_enter Try.func28, Try.ntmps28
    go_wp2_with (first | (go_at_call 22; refine Calls.mono (In_any _ _ _ _) ?_; rintro e w' ⟨rfl, rfl⟩) | fail)
    go_loopw [3] (fun i wr => ∃ k : Nat, i = I k ∧ k ≤ l.hooks.length ∧ (l.hooks.take k).all (fun h => okRg h (-3) 3) = true ∧ Below w.heap.size w wr ∧ Box wr w.heap.size [I l.boards, I l.rows, .slice ha l.hooks.length hc, .slice pa l.patches.length pc]) (fun i _ => l.hooks.length - (intOf i).toNat)
    case atStart => exact ⟨0, rfl, by omega, rfl, (Below.refl _ _).alloc (Nat.le_refl _) _, Box.new _ _ _⟩
    case round =>
      obtain ⟨k, rfl, hk, hok, hb, hx⟩ := hrel
      have hOK := Lib.hid hok
      clear hok
      have x2 := hx.cell 2 rfl
      have x3 := hx.cell 3 rfl
      have hz := hx.lt
      by_cases hlt : k < l.hooks.length
      · obtain ⟨b, o, rfl, hbl, hce⟩ := (H2.out.1.below hb (Nat.le_refl _)).rec 2 encRg_len (by decide) k hlt
        have c0 := hce 0 _ rfl
        have c1 := hce 1 _ rfl
        rw [Nat.add_zero] at c0
        clear hce
        go_wp2_with (first | (go_at_call 70; refine (span_any _ _ _ _ _).mono ?_; rintro e w1 ⟨rfl, hb1⟩) | fail)
        · go_ret
          refine ⟨ret_int ?_, hb.trans (hb1.mono hb.size)⟩
          rw [hF.out, if_pos]
          rename_i hno
          rw [List.all_eq_false]
          exact ⟨l.hooks[k], by simp, by simpa using hno⟩
        · rename_i hyes
          go_roundw
          case rel => exact ⟨k + 1, by go_num, by omega, by rw [List.take_succ_eq_append_getElem hlt, List.all_append, hOK.out]; simpa using hyes, hb.trans (hb1.mono hb.size), hx.later hb1⟩
          case measure => simp [intOf]; omega
      · have hO2 : Hid (l.hooks.all (fun h => okRg h (-3) 3) = true) := by have := hOK.out; rwa [List.take_of_length_le (by omega)] at this
        clear hOK
        go_wp2_with (first | (go_at_call 22; refine Calls.mono (In_any _ _ _ _) ?_; rintro e w' ⟨rfl, rfl⟩) | fail)
        go_loopw [4] (fun i wr => ∃ k : Nat, i = I k ∧ k ≤ l.patches.length ∧ (l.patches.take k).all (okPa l) = true ∧ Below w.heap.size w wr ∧ Box wr w.heap.size [I l.boards, I l.rows, .slice ha l.hooks.length hc, .slice pa l.patches.length pc]) (fun i _ => l.patches.length - (intOf i).toNat)
        case atStart => exact ⟨0, rfl, by omega, rfl, hb, hx⟩
        case round =>
          clear hb hx x2 x3 hz
          obtain ⟨j, rfl, hj, hok, hb, hx⟩ := hrel
          have hOK := Lib.hid hok
          clear hok
          have x0 := hx.cell 0 rfl
          have x1 := hx.cell 1 rfl
          have x2 := hx.cell 2 rfl
          have x3 := hx.cell 3 rfl
          have hz := hx.lt
          by_cases hlj : j < l.patches.length
          · obtain ⟨b, o, rfl, hbl, hce⟩ := (H2.out.2.below hb (Nat.le_refl _)).rec 5 encPa_len (by decide) j hlj
            have c0 := hce 0 _ rfl
            have c1 := hce 1 _ rfl
            have c2 := hce 2 _ rfl
            have c3 := hce 3 _ rfl
            have c4 := hce 4 _ rfl
            rw [Nat.add_zero] at c0
            clear hce
            go_wp2_with (first | (go_at_call 22; refine Calls.mono (In_any _ _ _ _) ?_; rintro e w' ⟨rfl, rfl⟩) | (go_at_call 70; refine Calls.mono (span_any _ _ _ _ _) ?_; rintro e w1 ⟨rfl, hbw1⟩; obtain ⟨hcw1, hfw1, hzw1⟩ := bcell hbw1; (try simp only [World.size_alloc] at hzw1); have := fun o => hcw1 (w.heap.size) o (by first | omega | (simp only [World.size_alloc]; omega) | (simp; done)); have := fun o => hfw1 (w.heap.size) o (by first | omega | (simp only [World.size_alloc]; omega) | (simp; done)); have := fun o => hcw1 (wr.heap.size) o (by first | omega | (simp only [World.size_alloc]; omega) | (simp; done)); have := fun o => hfw1 (wr.heap.size) o (by first | omega | (simp only [World.size_alloc]; omega) | (simp; done)); have := fun o => hcw1 (b) o (by first | omega | (simp only [World.size_alloc]; omega) | (simp; done)); have := fun o => hfw1 (b) o (by first | omega | (simp only [World.size_alloc]; omega) | (simp; done)); clear hcw1 hfw1) | fail)
            case roundEnd =>
              have e1 : okRg ⟨l.patches[j].rows.lo, l.patches[j].rows.hi⟩ 0 (l.rows - 1) = true := by assumption
              have e2 : okRg ⟨l.patches[j].boards.lo, l.patches[j].boards.hi⟩ 1 l.boards = true := by assumption
              rename_i e3
              go_roundw
              case rel =>
                refine ⟨j + 1, by go_num, by omega, ?_, ?_, ?_⟩
                · rw [List.take_succ_eq_append_getElem hlj, List.all_append, hOK.out]
                  simp at e3
                  simp [okPa, e1, e2]
                  omega
                · (repeat (first | assumption | exact Below.refl _ _ | refine Below.alloc ?_ (by first | omega | (simp only [World.size_alloc]; omega) | (simp; done)) _ | refine Below.trans ?_ (Below.mono (by assumption) (by first | omega | (simp only [World.size_alloc]; omega) | (simp; done)))))
                · exact hx.below (B := w.heap.size + 1) (w := wr) (by (repeat (first | assumption | exact Below.refl _ _ | refine Below.alloc ?_ (by first | omega | (simp only [World.size_alloc]; omega) | (simp; done)) _ | refine Below.trans ?_ (Below.mono (by assumption) (by first | omega | (simp only [World.size_alloc]; omega) | (simp; done)))))) (by omega)
              case measure => simp [intOf]; omega
            all_goals
              go_ret
              refine ⟨ret_int ?_, by (repeat (first | assumption | exact Below.refl _ _ | refine Below.alloc ?_ (by first | omega | (simp only [World.size_alloc]; omega) | (simp; done)) _ | refine Below.trans ?_ (Below.mono (by assumption) (by first | omega | (simp only [World.size_alloc]; omega) | (simp; done)))))⟩
              rw [hF.out, if_neg (by rw [hO2.out]; simp), if_pos]
              rw [List.all_eq_false]
              refine ⟨l.patches[j], by simp, ?_⟩
              intro hA
              have hA2 : (okRg l.patches[j].rows 0 (l.rows - 1) = true ∧ okRg l.patches[j].boards 1 l.boards = true) ∧ (0 ≤ l.patches[j].level ∧ l.patches[j].level ≤ (l.hooks.length : Int) - 1) := by simpa [okPa] using hA
              obtain ⟨⟨a1, a2⟩, a3⟩ := hA2
              first
                | exact absurd a1 (by assumption)
                | exact absurd a2 (by assumption)
                | (rename_i hno; simp at hno; omega)
          · go_wp2
            go_ret
            exact ⟨ret_int (by rw [hF.out, if_neg (by rw [hO2.out]; simp), if_neg]; have := hOK.out; rw [List.take_of_length_le (by omega)] at this; simp [this]), hb⟩

theorem IsStart_any (l : La) (s : St) (ha pa : Option Addr) (hc pc : Nat) (w : World) :
    Calls Try.prog 60 #[.agg #[I l.boards, I l.rows, .slice ha l.hooks.length hc, .slice pa l.patches.length pc], .agg #[I s.b, I s.d]] w fun e w' => e = .returned (.bool (isStart l s)) ∧ Below w.heap.size w w' := by
  go_enter Try.func60, Try.ntmps60
  go_wp2_with (go_at_call 22; refine Calls.mono (In_any _ _ _ _) ?_; rintro e w' ⟨rfl, rfl⟩)
  all_goals (go_ret; refine ⟨ret_bool ?_, by (repeat (first | assumption | exact Below.refl _ _ | refine Below.alloc ?_ (by first | omega | (simp only [World.size_alloc]; omega) | (simp; done)) _ | refine Below.trans ?_ (Below.mono (by assumption) (by first | omega | (simp only [World.size_alloc]; omega) | (simp; done)))))⟩; rw [Bool.eq_iff_iff]; simp [isStart] <;> omega)

theorem IsPocket_any (p : Pk) (w : World) :
    Calls Try.prog 33 #[.agg #[I p.boards.lo, I p.boards.hi, I p.dirs.lo, I p.dirs.hi]] w fun e w' => e = .returned (.bool (isPocket p)) ∧ Below w.heap.size w w' := by
  go_enter Try.func33, Try.ntmps33
  go_wp2
  all_goals (go_ret; refine ⟨ret_bool ?_, by (repeat (first | assumption | exact Below.refl _ _ | refine Below.alloc ?_ (by first | omega | (simp only [World.size_alloc]; omega) | (simp; done)) _ | refine Below.trans ?_ (Below.mono (by assumption) (by first | omega | (simp only [World.size_alloc]; omega) | (simp; done)))))⟩; rw [Bool.eq_iff_iff]; simp [isPocket] <;> omega)

theorem Next_any (s : St) (t : Int) (w : World) (h1 : -5 ≤ s.d) (h2 : s.d ≤ 5) (h3 : -3 ≤ t) (h4 : t ≤ 3) (h5 : -1000 ≤ s.b) (h6 : s.b ≤ 1000) :
    Calls Try.prog 38 #[.agg #[I s.b, I s.d], I t] w fun e w' => e = .returned (.agg #[I (nextS s t).b, I (nextS s t).d]) ∧ Below w.heap.size w w' := by
  obtain ⟨c, hc⟩ : ∃ c, c = clamp (s.d + t) := ⟨_, rfl⟩
  have c1 := clamp_bd (s.d + t)
  have HN : Hid (nextS s t = ⟨s.b + c, c⟩ ∧ c = max (-5) (min 5 (s.d + t))) := ⟨by rw [hc]; rfl, by rw [hc]; rfl⟩
  rw [← hc] at c1
  clear hc
  go_enter Try.func38, Try.ntmps38
  go_wp2
  all_goals
    rw [HN.out.1]
    have e := HN.out.2
    refine bodyPost_ret (v := .agg #[I (s.b + c), I c]) ?_ rfl ⟨rfl, by (repeat (first | assumption | exact Below.refl _ _ | refine Below.alloc ?_ (by first | omega | (simp only [World.size_alloc]; omega) | (simp; done)) _ | refine Below.trans ?_ (Below.mono (by assumption) (by first | omega | (simp only [World.size_alloc]; omega) | (simp; done)))))⟩
    simp [results, Try.results38, go_sem]
    omega

theorem Less_any (s t : St) (w : World) :
    Calls Try.prog 62 #[.agg #[I s.b, I s.d], .agg #[I t.b, I t.d]] w fun e w' => e = .returned (.bool (lessS s t)) ∧ Below w.heap.size w w' := by
  go_enter Try.func62, Try.ntmps62
  go_wp2
  all_goals (go_ret; refine ⟨ret_bool ?_, by (repeat (first | assumption | exact Below.refl _ _ | refine Below.alloc ?_ (by first | omega | (simp only [World.size_alloc]; omega) | (simp; done)) _ | refine Below.trans ?_ (Below.mono (by assumption) (by first | omega | (simp only [World.size_alloc]; omega) | (simp; done)))))⟩; rw [Bool.eq_iff_iff]; simp [lessS] <;> omega)

theorem Verdict_any (n m : Int) (w : World) :
    Calls Try.prog 63 #[I n, I m] w fun e w' => e = .returned (.int .u8 (verdict n m)) ∧ w = w' := by
  go_enter Try.func63, Try.ntmps63
  go_wp2
  all_goals (go_ret; refine ⟨ret_int ?_, rfl⟩; simp_all [verdict])

end Go.Proofs.Ytcfhbnfincpehaa

/- The walks of package path: ranges, lanes. -/
namespace Go.Proofs.Ytcfhbnfincpehaa
open Go.RowKit Go.Shelf
attribute [local go_sem] lt_step le_step

theorem within_any (n lo hi : Int) (w : World) :
    Calls Try.prog 57 #[I n, I lo, I hi] w fun e w' => e = .returned (.bool (decide (lo ≤ n ∧ n ≤ hi))) ∧ w = w' := by
  go_enter Try.func57, Try.ntmps57
  go_wp2
  all_goals (go_ret; refine ⟨ret_bool ?_, rfl⟩; rw [Bool.eq_iff_iff]; simp <;> omega)

theorem inside_any (r : Rg) (lo hi : Int) (w : World) :
    Calls Try.prog 95 #[.agg #[I r.lo, I r.hi], I lo, I hi] w fun e w' => e = .returned (.bool (okRg r lo hi)) ∧ Below w.heap.size w w' := by
  go_enter Try.func95, Try.ntmps95
  go_wp2
  all_goals (go_ret; refine ⟨ret_bool ?_, by (repeat (first | assumption | exact Below.refl _ _ | refine Below.alloc ?_ (by first | omega | (simp only [World.size_alloc]; omega) | (simp; done)) _ | refine Below.trans ?_ (Below.mono (by assumption) (by first | omega | (simp only [World.size_alloc]; omega) | (simp; done)))))⟩; rw [Bool.eq_iff_iff]; simp [okRg] <;> omega)

theorem has_any (r : Rg) (n : Int) (w : World) :
    Calls Try.prog 81 #[.agg #[I r.lo, I r.hi], I n] w fun e w' => e = .returned (.bool (inR n r)) ∧ Below w.heap.size w w' := by
  go_enter Try.func81, Try.ntmps81
  go_wp2_with (go_at_call 57; refine Calls.mono (within_any _ _ _ _) ?_; rintro e w' ⟨rfl, rfl⟩)
  all_goals (go_ret; refine ⟨ret_bool ?_, by (repeat (first | assumption | exact Below.refl _ _ | refine Below.alloc ?_ (by first | omega | (simp only [World.size_alloc]; omega) | (simp; done)) _ | refine Below.trans ?_ (Below.mono (by assumption) (by first | omega | (simp only [World.size_alloc]; omega) | (simp; done)))))⟩; simp [inR])

theorem hook_any (r : Rg) (w : World) :
    Calls Try.prog 77 #[.agg #[I r.lo, I r.hi]] w fun e w' => e = .returned (.bool (okRg r (-3) 3)) ∧ Below w.heap.size w w' := by
  go_enter Try.func77, Try.ntmps77
  go_wp2_with (go_at_call 95; refine Calls.mono (inside_any _ _ _ _) ?_; rintro e w1 ⟨rfl, hbw1⟩; obtain ⟨hcw1, hfw1, hzw1⟩ := bcell hbw1; (try simp only [World.size_alloc] at hzw1); clear hcw1 hfw1)
  all_goals (go_ret; exact ⟨rfl, by (repeat (first | assumption | exact Below.refl _ _ | refine Below.alloc ?_ (by first | omega | (simp only [World.size_alloc]; omega) | (simp; done)) _ | refine Below.trans ?_ (Below.mono (by assumption) (by first | omega | (simp only [World.size_alloc]; omega) | (simp; done)))))⟩)

theorem on_any (l : La) (s : St) (ha pa : Option Addr) (hc pc : Nat) (w : World) :
    Calls Try.prog 65 #[.agg #[I l.boards, I l.rows, .slice ha l.hooks.length hc, .slice pa l.patches.length pc], .agg #[I s.b, I s.d]] w fun e w' => e = .returned (.bool (onL l s)) ∧ Below w.heap.size w w' := by
  go_enter Try.func65, Try.ntmps65
  go_wp2_with (go_at_call 57; refine Calls.mono (within_any _ _ _ _) ?_; rintro e w' ⟨rfl, rfl⟩)
  all_goals (go_ret; refine ⟨ret_bool ?_, by (repeat (first | assumption | exact Below.refl _ _ | refine Below.alloc ?_ (by first | omega | (simp only [World.size_alloc]; omega) | (simp; done)) _ | refine Below.trans ?_ (Below.mono (by assumption) (by first | omega | (simp only [World.size_alloc]; omega) | (simp; done)))))⟩; simp [onL])

set_option maxHeartbeats 400000 in
theorem patch_any (l : La) (p : Pa) (ha pa : Option Addr) (hc pc : Nat) (w : World) (h1 : 1 ≤ l.rows) (h2 : l.rows ≤ 12) (h3 : 0 < l.hooks.length) (h4 : l.hooks.length ≤ 4) :
    Calls Try.prog 79 #[.agg #[I l.boards, I l.rows, .slice ha l.hooks.length hc, .slice pa l.patches.length pc], .agg #[I p.rows.lo, I p.rows.hi, I p.boards.lo, I p.boards.hi, I p.level]] w fun e w' => e = .returned (.bool (okPa l p)) ∧ Below w.heap.size w w' := by
  go_enter Try.func79, Try.ntmps79
  go_wp2_with (first | (go_at_call 57; refine Calls.mono (within_any _ _ _ _) ?_; rintro e w' ⟨rfl, rfl⟩) | (go_at_call 95; refine Calls.mono (inside_any ⟨_, _⟩ _ _ _) ?_; rintro e w1 ⟨rfl, hbw1⟩; obtain ⟨hcw1, hfw1, hzw1⟩ := bcell hbw1; (try simp only [World.size_alloc] at hzw1); have := fun o => hcw1 (w.heap.size) o (by first | omega | (simp only [World.size_alloc]; omega) | (simp; done)); have := fun o => hfw1 (w.heap.size) o (by first | omega | (simp only [World.size_alloc]; omega) | (simp; done)); have := fun o => hcw1 (w.heap.size+1) o (by first | omega | (simp only [World.size_alloc]; omega) | (simp; done)); have := fun o => hfw1 (w.heap.size+1) o (by first | omega | (simp only [World.size_alloc]; omega) | (simp; done)); clear hcw1 hfw1))
  all_goals
    go_ret
    refine ⟨ret_bool ?_, by (repeat (first | assumption | exact Below.refl _ _ | refine Below.alloc ?_ (by first | omega | (simp only [World.size_alloc]; omega) | (simp; done)) _ | refine Below.trans ?_ (Below.mono (by assumption) (by first | omega | (simp only [World.size_alloc]; omega) | (simp; done)))))⟩
    rw [Bool.eq_iff_iff]
    simp_all [okPa]

theorem IndexFuncR_any (xs : List Rg) (p : Rg → Bool) (g : FuncId) (fa cb : Array Value) (a : Option Addr) (cap : Nat) (w : World) (H : SlAt w a xs.length cap (xs.flatMap encRg))
    (eg : ∀ args w, (callFunc g args).run Try.prog w = .ok (.enter g args) w)
    (hp : ∀ (x : Rg) (W : World), x ∈ xs → Below w.heap.size w W → Calls Try.prog g (fa ++ #[.agg #[I x.lo, I x.hi]] ++ cb) W fun e w' => e = .returned (.bool (p x)) ∧ Below W.heap.size W w') :
    Calls Try.prog 101 #[.slice a xs.length cap, .func (.func g) fa cb] w fun e w' => e = .returned (I (idxOf p xs)) ∧ Below w.heap.size w w' := by
  have hbd := H.bd
  have H2 := Lib.hid H
  have hp2 := Lib.hid hp
  clear H hp
  go_enter Try.func101, Try.ntmps101
  go_wp2_with fail
  go_loopw [8] (fun i wr => ∃ k : Nat, i = I k ∧ k ≤ xs.length ∧ (xs.take k).any p = false ∧ Below w.heap.size w wr) (fun i _ => xs.length - (intOf i).toNat)
  case atStart => exact ⟨0, rfl, by omega, rfl, Below.refl _ _⟩
  case round =>
    obtain ⟨k, rfl, hk, hno, hb⟩ := hrel
    have hNO := Lib.hid hno
    clear hno
    by_cases hlt : k < xs.length
    · obtain ⟨b, o, rfl, hbl, hce⟩ := (H2.out.below hb (Nat.le_refl _)).rec 2 encRg_len (by decide) k hlt
      have c0 := hce 0 _ rfl
      have c1 := hce 1 _ rfl
      rw [Nat.add_zero] at c0
      clear hce
      go_wp2_with fail
      refine (hp2.out xs[k] wr (by simp) hb).mono ?_
      rintro e w1 ⟨rfl, hb1⟩
      have hb2 := hb.trans (hb1.mono hb.size)
      cases hpx : p xs[k]
      · have hx := any_take_succ hlt hNO.out hpx
        have HX := Lib.hid hx
        clear hx hpx
        go_wp2
        go_roundw
        case rel => exact ⟨k + 1, by go_num, by omega, HX.out, hb2⟩
        case measure => simp [intOf]; omega
      · have hx := idxOf_hit hlt hNO.out hpx
        have HX := Lib.hid hx
        clear hx hpx
        go_wp2
        go_ret
        exact ⟨ret_int (by rw [HX.out]), hb2⟩
    · have hx : idxOf p xs = -1 := idxOf_none (by have := hNO.out; rwa [List.take_of_length_le (by omega)] at this)
      have HX := Lib.hid hx
      clear hx
      go_wp2
      go_ret
      exact ⟨ret_int (by rw [HX.out]), hb⟩

theorem ContainsFuncR_any (xs : List Rg) (p : Rg → Bool) (g : FuncId) (fa cb : Array Value) (a : Option Addr) (cap : Nat) (w : World) (H : SlAt w a xs.length cap (xs.flatMap encRg))
    (eg : ∀ args w, (callFunc g args).run Try.prog w = .ok (.enter g args) w)
    (hp : ∀ (x : Rg) (W : World), x ∈ xs → Below w.heap.size w W → Calls Try.prog g (fa ++ #[.agg #[I x.lo, I x.hi]] ++ cb) W fun e w' => e = .returned (.bool (p x)) ∧ Below W.heap.size W w') :
    Calls Try.prog 93 #[.slice a xs.length cap, .func (.func g) fa cb] w fun e w' => e = .returned (.bool (xs.any p)) ∧ Below w.heap.size w w' := by
  have hI := IndexFuncR_any xs p g fa cb a cap w H eg hp
  have HI := Lib.hid hI
  have HA := Lib.hid (idxOf_any (p := p) (xs := xs))
  clear hI H hp
  go_enter Try.func93, Try.ntmps93
  go_wp2_with (go_at_call 101; refine HI.out.mono ?_; rintro e w1 ⟨rfl, hb1⟩)
  all_goals (go_ret; exact ⟨ret_bool (by rw [← HA.out]), hb1⟩)

/-- all: each element is right, 'right' a function that reads. -/
theorem allR_any (xs : List Rg) (p : Rg → Bool) (g : FuncId) (fa cb : Array Value) (a : Option Addr) (cap : Nat) (w : World) (H : SlAt w a xs.length cap (xs.flatMap encRg))
    (eg : ∀ args w, (callFunc g args).run Try.prog w = .ok (.enter g args) w)
    (hp : ∀ (x : Rg) (W : World), x ∈ xs → Below w.heap.size w W → Calls Try.prog g (fa ++ #[.agg #[I x.lo, I x.hi]] ++ cb) W fun e w' => e = .returned (.bool (p x)) ∧ Below W.heap.size W w') :
    Calls Try.prog 76 #[.slice a xs.length cap, .func (.func g) fa cb] w fun e w' => e = .returned (.bool (xs.all p)) ∧ Below w.heap.size w w' := by
  have hC := ContainsFuncR_any xs (fun x => !p x) 94 #[] #[.pointer (some ⟨w.heap.size, 0, none⟩)] a cap (w.alloc (.cells #[.func (.func g) fa cb] 140)) (H.below ((Below.refl _ _).alloc (Nat.le_refl _) _) (Nat.le_refl _)) (enters_of Try.func94 (by kernel_rfl) rfl) (by
    intro x W hx hb
    have hc : W.cell? ⟨w.heap.size, 0, none⟩ = some (.func (.func g) fa cb) := by
      rw [hb.cell (p := ⟨w.heap.size, 0, none⟩) (by simp)]; simp
    have hlt : w.heap.size < W.heap.size := by have := hb.size; simp at this; omega
    have hq := fun o => hp x (W.alloc o) hx ((((Below.refl _ _).alloc (Nat.le_refl _) _).trans (hb.mono (by simp))).alloc (by omega) o)
    have HQ := Lib.hid hq
    clear hq hp H hb
    show Calls Try.prog 94 #[.agg #[I x.lo, I x.hi], .pointer (some ⟨w.heap.size, 0, none⟩)] W _
    go_enter Try.func94, Try.ntmps94
    go_wp2_with fail
    refine (HQ.out _).mono ?_
    rintro e w1 ⟨rfl, hb1⟩
    go_wp2
    go_ret
    exact ⟨rfl, by (repeat (first | assumption | exact Below.refl _ _ | refine Below.alloc ?_ (by first | omega | (simp only [World.size_alloc]; omega) | (simp; done)) _ | refine Below.trans ?_ (Below.mono (by assumption) (by first | omega | (simp only [World.size_alloc]; omega) | (simp; done)))))⟩)
  have HC := Lib.hid hC
  clear hC hp H
  go_enter Try.func76, Try.ntmps76
  go_wp2_with (go_at_call 93; refine HC.out.mono ?_; rintro e w1 ⟨rfl, hb1⟩)
  go_ret
  refine ⟨ret_bool ?_, by (repeat (first | assumption | exact Below.refl _ _ | refine Below.alloc ?_ (by first | omega | (simp only [World.size_alloc]; omega) | (simp; done)) _ | refine Below.trans ?_ (Below.mono (by assumption) (by first | omega | (simp only [World.size_alloc]; omega) | (simp; done)))))⟩
  rw [List.all_eq_not_any_not]

theorem IndexFuncP_any (xs : List Pa) (p : Pa → Bool) (g : FuncId) (fa cb : Array Value) (a : Option Addr) (cap : Nat) (w : World) (H : SlAt w a xs.length cap (xs.flatMap encPa))
    (eg : ∀ args w, (callFunc g args).run Try.prog w = .ok (.enter g args) w)
    (hp : ∀ (x : Pa) (W : World), x ∈ xs → Below w.heap.size w W → Calls Try.prog g (fa ++ #[.agg #[I x.rows.lo, I x.rows.hi, I x.boards.lo, I x.boards.hi, I x.level]] ++ cb) W fun e w' => e = .returned (.bool (p x)) ∧ Below W.heap.size W w') :
    Calls Try.prog 102 #[.slice a xs.length cap, .func (.func g) fa cb] w fun e w' => e = .returned (I (idxOf p xs)) ∧ Below w.heap.size w w' := by
  have hbd := H.bd
  have H2 := Lib.hid H
  have hp2 := Lib.hid hp
  clear H hp
  go_enter Try.func102, Try.ntmps102
  go_wp2_with fail
  go_loopw [8] (fun i wr => ∃ k : Nat, i = I k ∧ k ≤ xs.length ∧ (xs.take k).any p = false ∧ Below w.heap.size w wr) (fun i _ => xs.length - (intOf i).toNat)
  case atStart => exact ⟨0, rfl, by omega, rfl, Below.refl _ _⟩
  case round =>
    obtain ⟨k, rfl, hk, hno, hb⟩ := hrel
    have hNO := Lib.hid hno
    clear hno
    by_cases hlt : k < xs.length
    · obtain ⟨b, o, rfl, hbl, hce⟩ := (H2.out.below hb (Nat.le_refl _)).rec 5 encPa_len (by decide) k hlt
      have c0 := hce 0 _ rfl
      have c1 := hce 1 _ rfl
      have c2 := hce 2 _ rfl
      have c3 := hce 3 _ rfl
      have c4 := hce 4 _ rfl
      rw [Nat.add_zero] at c0
      clear hce
      go_wp2_with fail
      refine (hp2.out xs[k] wr (by simp) hb).mono ?_
      rintro e w1 ⟨rfl, hb1⟩
      have hb2 := hb.trans (hb1.mono hb.size)
      cases hpx : p xs[k]
      · have hx := any_take_succ hlt hNO.out hpx
        have HX := Lib.hid hx
        clear hx hpx
        go_wp2
        go_roundw
        case rel => exact ⟨k + 1, by go_num, by omega, HX.out, hb2⟩
        case measure => simp [intOf]; omega
      · have hx := idxOf_hit hlt hNO.out hpx
        have HX := Lib.hid hx
        clear hx hpx
        go_wp2
        go_ret
        exact ⟨ret_int (by rw [HX.out]), hb2⟩
    · have hx : idxOf p xs = -1 := idxOf_none (by have := hNO.out; rwa [List.take_of_length_le (by omega)] at this)
      have HX := Lib.hid hx
      clear hx
      go_wp2
      go_ret
      exact ⟨ret_int (by rw [HX.out]), hb⟩

theorem ContainsFuncP_any (xs : List Pa) (p : Pa → Bool) (g : FuncId) (fa cb : Array Value) (a : Option Addr) (cap : Nat) (w : World) (H : SlAt w a xs.length cap (xs.flatMap encPa))
    (eg : ∀ args w, (callFunc g args).run Try.prog w = .ok (.enter g args) w)
    (hp : ∀ (x : Pa) (W : World), x ∈ xs → Below w.heap.size w W → Calls Try.prog g (fa ++ #[.agg #[I x.rows.lo, I x.rows.hi, I x.boards.lo, I x.boards.hi, I x.level]] ++ cb) W fun e w' => e = .returned (.bool (p x)) ∧ Below W.heap.size W w') :
    Calls Try.prog 96 #[.slice a xs.length cap, .func (.func g) fa cb] w fun e w' => e = .returned (.bool (xs.any p)) ∧ Below w.heap.size w w' := by
  have hI := IndexFuncP_any xs p g fa cb a cap w H eg hp
  have HI := Lib.hid hI
  have HA := Lib.hid (idxOf_any (p := p) (xs := xs))
  clear hI H hp
  go_enter Try.func96, Try.ntmps96
  go_wp2_with (go_at_call 102; refine HI.out.mono ?_; rintro e w1 ⟨rfl, hb1⟩)
  all_goals (go_ret; exact ⟨ret_bool (by rw [← HA.out]), hb1⟩)

/-- all: each element is right, 'right' a function that reads. -/
theorem allP_any (xs : List Pa) (p : Pa → Bool) (g : FuncId) (fa cb : Array Value) (a : Option Addr) (cap : Nat) (w : World) (H : SlAt w a xs.length cap (xs.flatMap encPa))
    (eg : ∀ args w, (callFunc g args).run Try.prog w = .ok (.enter g args) w)
    (hp : ∀ (x : Pa) (W : World), x ∈ xs → Below w.heap.size w W → Calls Try.prog g (fa ++ #[.agg #[I x.rows.lo, I x.rows.hi, I x.boards.lo, I x.boards.hi, I x.level]] ++ cb) W fun e w' => e = .returned (.bool (p x)) ∧ Below W.heap.size W w') :
    Calls Try.prog 78 #[.slice a xs.length cap, .func (.func g) fa cb] w fun e w' => e = .returned (.bool (xs.all p)) ∧ Below w.heap.size w w' := by
  have hC := ContainsFuncP_any xs (fun x => !p x) 97 #[] #[.pointer (some ⟨w.heap.size, 0, none⟩)] a cap (w.alloc (.cells #[.func (.func g) fa cb] 142)) (H.below ((Below.refl _ _).alloc (Nat.le_refl _) _) (Nat.le_refl _)) (enters_of Try.func97 (by kernel_rfl) rfl) (by
    intro x W hx hb
    have hc : W.cell? ⟨w.heap.size, 0, none⟩ = some (.func (.func g) fa cb) := by
      rw [hb.cell (p := ⟨w.heap.size, 0, none⟩) (by simp)]; simp
    have hlt : w.heap.size < W.heap.size := by have := hb.size; simp at this; omega
    have hq := fun o => hp x (W.alloc o) hx ((((Below.refl _ _).alloc (Nat.le_refl _) _).trans (hb.mono (by simp))).alloc (by omega) o)
    have HQ := Lib.hid hq
    clear hq hp H hb
    show Calls Try.prog 97 #[.agg #[I x.rows.lo, I x.rows.hi, I x.boards.lo, I x.boards.hi, I x.level], .pointer (some ⟨w.heap.size, 0, none⟩)] W _
    go_enter Try.func97, Try.ntmps97
    go_wp2_with fail
    refine (HQ.out _).mono ?_
    rintro e w1 ⟨rfl, hb1⟩
    go_wp2
    go_ret
    exact ⟨rfl, by (repeat (first | assumption | exact Below.refl _ _ | refine Below.alloc ?_ (by first | omega | (simp only [World.size_alloc]; omega) | (simp; done)) _ | refine Below.trans ?_ (Below.mono (by assumption) (by first | omega | (simp only [World.size_alloc]; omega) | (simp; done)))))⟩)
  have HC := Lib.hid hC
  clear hC hp H
  go_enter Try.func78, Try.ntmps78
  go_wp2_with (go_at_call 96; refine HC.out.mono ?_; rintro e w1 ⟨rfl, hb1⟩)
  go_ret
  refine ⟨ret_bool ?_, by (repeat (first | assumption | exact Below.refl _ _ | refine Below.alloc ?_ (by first | omega | (simp only [World.size_alloc]; omega) | (simp; done)) _ | refine Below.trans ?_ (Below.mono (by assumption) (by first | omega | (simp only [World.size_alloc]; omega) | (simp; done)))))⟩
  rw [List.all_eq_not_any_not]

end Go.Proofs.Ytcfhbnfincpehaa

/- The walks of package path: CheckLane, least, greatest, next. -/
namespace Go.Proofs.Ytcfhbnfincpehaa
open Go.RowKit Go.Shelf

set_option maxHeartbeats 800000 in
theorem CheckLane_any (l : La) (ha pa : Option Addr) (hc pc : Nat) (w : World) (H : LaneAt w l ha hc pa pc) :
    Calls Try.prog 41 #[.agg #[I l.boards, I l.rows, .slice ha l.hooks.length hc, .slice pa l.patches.length pc]] w fun e w' => e = .returned (I (fault l)) ∧ Below w.heap.size w w' := by
  have H2 := Lib.hid H
  clear H
  by_cases g1 : 8 < l.patches.length ∨ 4 < l.hooks.length ∨ ¬ (1 ≤ l.boards ∧ l.boards ≤ 40) ∨ ¬ (1 ≤ l.rows ∧ l.rows ≤ 12) ∨ l.hooks.length = 0
  · by_cases g2 : l.hooks.length = 0
    all_goals
      have e0 : ((l.hooks.length : Int) == 0) = decide (l.hooks.length = 0) := by rw [Bool.eq_iff_iff]; simp
      simp only [g2, decide_true, decide_false] at e0
      go_enter Try.func41, Try.ntmps41
      go_wp2_with (first | (go_at_call 57; refine Calls.mono (within_any _ _ _ _) ?_; rintro e w' ⟨rfl, rfl⟩) | fail)
      all_goals (first | (exfalso; omega) | (go_ret; refine ⟨ret_int ?_, by (repeat (first | assumption | exact Below.refl _ _ | refine Below.alloc ?_ (by first | omega | (simp only [World.size_alloc]; omega) | (simp; done)) _ | refine Below.trans ?_ (Below.mono (by assumption) (by first | omega | (simp only [World.size_alloc]; omega) | (simp; done)))))⟩; unfold fault; split <;> first | rfl | omega | (split <;> first | rfl | omega)))
  · have e0 : ((l.hooks.length : Int) == 0) = false := by simp; intro e; apply g1; simp [e]
    have p1 : l.patches.length ≤ 8 := by omega
    have p2 : l.hooks.length ≤ 4 := by omega
    have p3 : 1 ≤ l.boards := by omega
    have p4 : l.boards ≤ 40 := by omega
    have p5 : 1 ≤ l.rows := by omega
    have p6 : l.rows ≤ 12 := by omega
    have p7 : 0 < l.hooks.length := by omega
    clear g1
    have hF : Hid (fault l = if l.hooks.all (fun h => okRg h (-3) 3) = false then 1 else if l.patches.all (okPa l) = false then 1 else 0) := by
      show fault l = _
      unfold fault; rw [if_neg (by omega), if_neg (by omega)]
    have hA1 : ∀ W : World, Below w.heap.size w W → Calls Try.prog 76 #[.slice ha l.hooks.length hc, .func (.func 77) #[] #[]] W fun e w' => e = .returned (.bool (l.hooks.all fun h => okRg h (-3) 3)) ∧ Below W.heap.size W w' :=
      fun W hb => allR_any l.hooks (fun h => okRg h (-3) 3) 77 #[] #[] ha hc W (H2.out.1.below hb (Nat.le_refl _)) (enters_of Try.func77 (by kernel_rfl) rfl) (fun x W _ _ => hook_any x W)
    have HA1 := Lib.hid hA1
    clear hA1
    cases g5 : l.hooks.all (fun h => okRg h (-3) 3)
    · have G5 := Lib.hid g5
      clear g5
      go_enter Try.func41, Try.ntmps41
      go_wp2_with (first | (go_at_call 57; refine Calls.mono (within_any _ _ _ _) ?_; rintro e w' ⟨rfl, rfl⟩) | fail)
      refine Calls.mono (HA1.out _ (by (repeat (first | assumption | exact Below.refl _ _ | refine Below.alloc ?_ (by first | omega | (simp only [World.size_alloc]; omega) | (simp; done)) _ | refine Below.trans ?_ (Below.mono (by assumption) (by first | omega | (simp only [World.size_alloc]; omega) | (simp; done))))))) ?_
      rw [G5.out]
      rintro e w1 ⟨rfl, hb1⟩
      go_wp2
      go_ret
      exact ⟨ret_int (by rw [hF.out, G5.out]; rfl), by (repeat (first | assumption | exact Below.refl _ _ | refine Below.alloc ?_ (by first | omega | (simp only [World.size_alloc]; omega) | (simp; done)) _ | refine Below.trans ?_ (Below.mono (by assumption) (by first | omega | (simp only [World.size_alloc]; omega) | (simp; done)))))⟩
    · have G5 := Lib.hid g5
      clear g5
      go_enter Try.func41, Try.ntmps41
      go_wp2_with (first | (go_at_call 57; refine Calls.mono (within_any _ _ _ _) ?_; rintro e w' ⟨rfl, rfl⟩) | fail)
      refine Calls.mono (HA1.out _ (by (repeat (first | assumption | exact Below.refl _ _ | refine Below.alloc ?_ (by first | omega | (simp only [World.size_alloc]; omega) | (simp; done)) _ | refine Below.trans ?_ (Below.mono (by assumption) (by first | omega | (simp only [World.size_alloc]; omega) | (simp; done))))))) ?_
      rw [G5.out]
      rintro e w1 ⟨rfl, hb1⟩
      obtain ⟨hc1, hf1, hz1⟩ := bcell hb1
      simp only [World.size_alloc] at hz1
      have := fun o => hc1 w.heap.size o (by simp)
      clear hc1 hf1
      have hA2 : Calls Try.prog 78 #[.slice pa l.patches.length pc, .func (.func 79) #[.agg #[I l.boards, I l.rows, .slice ha l.hooks.length hc, .slice pa l.patches.length pc]] #[]] w1 fun e w' => e = .returned (.bool (l.patches.all (okPa l))) ∧ Below w1.heap.size w1 w' :=
        allP_any l.patches (okPa l) 79 #[.agg #[I l.boards, I l.rows, .slice ha l.hooks.length hc, .slice pa l.patches.length pc]] #[] pa pc w1 (H2.out.2.below (show Below w.heap.size w w1 by (repeat (first | assumption | exact Below.refl _ _ | refine Below.alloc ?_ (by first | omega | (simp only [World.size_alloc]; omega) | (simp; done)) _ | refine Below.trans ?_ (Below.mono (by assumption) (by first | omega | (simp only [World.size_alloc]; omega) | (simp; done)))))) (Nat.le_refl _)) (enters_of Try.func79 (by kernel_rfl) rfl) (fun x W _ _ => patch_any l x ha pa hc pc W p5 p6 p7 p2)
      have HA2 := Lib.hid hA2
      clear hA2
      go_wp2_with fail
      refine Calls.mono HA2.out ?_
      cases g6 : l.patches.all (okPa l)
      all_goals
        have G6 := Lib.hid g6
        clear g6
        rintro e w2 ⟨rfl, hb2⟩
        go_wp2
        go_ret
        exact ⟨ret_int (by rw [hF.out, G5.out, G6.out]; rfl), by (repeat (first | assumption | exact Below.refl _ _ | refine Below.alloc ?_ (by first | omega | (simp only [World.size_alloc]; omega) | (simp; done)) _ | refine Below.trans ?_ (Below.mono (by assumption) (by first | omega | (simp only [World.size_alloc]; omega) | (simp; done)))))⟩

theorem Max_two (x y : Int) (b : Nat) (w : World) (h0 : w.cell? ⟨b, 0, none⟩ = some (I x)) (h1 : w.cell? ⟨b, 1, none⟩ = some (I y)) :
    Calls Try.prog 90 #[.slice (some ⟨b, 0, none⟩) 2 2] w fun e w' => e = .returned (I (max x y)) ∧ w = w' := by
  go_enter Try.func90, Try.ntmps90
  go_wp2
  go_loop [3, 4] (fun m i => (m = I x ∧ i = I 1) ∨ (∃ z, m = I z ∧ i = I 2 ∧ Hid (z = max x y))) (fun _ i => 2 - (intOf i).toNat)
  case atStart => exact .inl ⟨rfl, rfl⟩
  case round =>
    rcases hrel with ⟨rfl, rfl⟩ | ⟨z, rfl, rfl, hz⟩
    · go_wp2
      all_goals
        go_round
        case rel => exact .inr ⟨_, rfl, by go_num, by show _ = max x y; omega⟩
        case measure => simp [intOf]
    · go_wp2
      go_ret
      exact ⟨ret_int hz.out, rfl⟩

theorem Min_two (x y : Int) (b : Nat) (w : World) (h0 : w.cell? ⟨b, 0, none⟩ = some (I x)) (h1 : w.cell? ⟨b, 1, none⟩ = some (I y)) :
    Calls Try.prog 89 #[.slice (some ⟨b, 0, none⟩) 2 2] w fun e w' => e = .returned (I (min x y)) ∧ w = w' := by
  go_enter Try.func89, Try.ntmps89
  go_wp2
  go_loop [3, 4] (fun m i => (m = I x ∧ i = I 1) ∨ (∃ z, m = I z ∧ i = I 2 ∧ Hid (z = min x y))) (fun _ i => 2 - (intOf i).toNat)
  case atStart => exact .inl ⟨rfl, rfl⟩
  case round =>
    rcases hrel with ⟨rfl, rfl⟩ | ⟨z, rfl, rfl, hz⟩
    · go_wp2
      all_goals
        go_round
        case rel => exact .inr ⟨_, rfl, by go_num, by show _ = min x y; omega⟩
        case measure => simp [intOf]
    · go_wp2
      go_ret
      exact ⟨ret_int hz.out, rfl⟩

theorem greatest_two (x y : Int) (b : Nat) (w : World) (h0 : w.cell? ⟨b, 0, none⟩ = some (I x)) (h1 : w.cell? ⟨b, 1, none⟩ = some (I y)) :
    Calls Try.prog 68 #[.slice (some ⟨b, 0, none⟩) 2 2] w fun e w' => e = .returned (I (max x y)) ∧ w = w' := by
  have H := Lib.hid (Max_two x y b w h0 h1)
  go_enter Try.func68, Try.ntmps68
  go_wp2_with (go_at_call 90; refine H.out.mono ?_; rintro e w' ⟨rfl, rfl⟩)
  go_ret
  exact ⟨rfl, rfl⟩

theorem least_two (x y : Int) (b : Nat) (w : World) (h0 : w.cell? ⟨b, 0, none⟩ = some (I x)) (h1 : w.cell? ⟨b, 1, none⟩ = some (I y)) :
    Calls Try.prog 67 #[.slice (some ⟨b, 0, none⟩) 2 2] w fun e w' => e = .returned (I (min x y)) ∧ w = w' := by
  have H := Lib.hid (Min_two x y b w h0 h1)
  go_enter Try.func67, Try.ntmps67
  go_wp2_with (go_at_call 89; refine H.out.mono ?_; rintro e w' ⟨rfl, rfl⟩)
  go_ret
  exact ⟨rfl, rfl⟩

theorem next_any (s : St) (t : Int) (w : World) (h1 : -5 ≤ s.d) (h2 : s.d ≤ 5) (h3 : -3 ≤ t) (h4 : t ≤ 3) (h5 : -1000 ≤ s.b) (h6 : s.b ≤ 1000) :
    Calls Try.prog 82 #[.agg #[I s.b, I s.d], I t] w fun e w' => e = .returned (.agg #[I (nextS s t).b, I (nextS s t).d]) ∧ Below w.heap.size w w' := by
  obtain ⟨c, hc⟩ : ∃ c, c = clamp (s.d + t) := ⟨_, rfl⟩
  have c1 := clamp_bd (s.d + t)
  have HN : Hid (nextS s t = ⟨s.b + c, c⟩ ∧ c = max (-5) (min 5 (s.d + t))) := ⟨by rw [hc]; rfl, by rw [hc]; rfl⟩
  rw [← hc] at c1
  clear hc
  go_enter Try.func82, Try.ntmps82
  go_wp2_with fail
  refine Calls.mono (least_two 5 (s.d + t) _ _ (by simp [go_sem]) (by simp [go_sem])) ?_
  rintro e w' ⟨rfl, rfl⟩
  go_wp2_with fail
  refine Calls.mono (greatest_two (-5) (min 5 (s.d + t)) _ _ (by simp [go_sem]) (by simp [go_sem])) ?_
  rintro e w' ⟨rfl, rfl⟩
  rw [show max (-5) (min 5 (s.d + t)) = c from HN.out.2.symm]
  go_wp2
  rw [HN.out.1]
  refine bodyPost_ret (v := .agg #[I (s.b + c), I c]) ?_ rfl ⟨rfl, by (repeat (first | assumption | exact Below.refl _ _ | refine Below.alloc ?_ (by first | omega | (simp only [World.size_alloc]; omega) | (simp; done)) _ | refine Below.trans ?_ (Below.mono (by assumption) (by first | omega | (simp only [World.size_alloc]; omega) | (simp; done)))))⟩
  simp [results, Try.results82, go_sem]
end Go.Proofs.Ytcfhbnfincpehaa

/- The walks of package path: ball, hooks, started. -/
namespace Go.Proofs.Ytcfhbnfincpehaa
open Go.RowKit Go.Shelf

theorem infoLv : (Try.prog.info? 152).map (fun i => (i.zero, i.size, i.bytes)) = some (some (.agg (Array.replicate 41 (I 0))), 41, 328) := by kernel_rfl

theorem madeLv (R : Nat) : madeCells (Value.agg (Array.replicate 41 (I 0))).cells (R * 41) = (List.replicate (R * 41) (I 0)).toArray := by
  apply Array.ext
  · simp [madeCells]
  · intro i h1 h2
    simp [madeCells, Value.cells, Nat.mod_lt]

/-- What holds while a ball's levels are laid. -/
def InBall (B : Int) (R : Nat) (hooks : List Rg) (patches : List Pa) (ha : Option Addr) (hc : Nat) (pa : Option Addr) (pc : Nat) (w : World) (g v : Nat) (f : Int → Int → Int) (wr : World) : Prop :=
  Box wr v [I B, I R, .slice ha hooks.length hc, .slice pa patches.length pc, .slice (some ⟨g, 0, none⟩) R R] ∧ Box wr w.heap.size [I B, I R, .slice ha hooks.length hc, .slice pa patches.length pc] ∧
  (∃ cs, Box wr g cs ∧ GridOf cs R f) ∧ Below w.heap.size w wr ∧ (∃ r0 r1 r2 r3 r4, Box wr (w.heap.size + 1) [r0, r1, r2, r3, r4])
theorem InBall.later {B : Int} {R : Nat} {hooks : List Rg} {patches : List Pa} {ha pa : Option Addr} {hc pc : Nat} {w wr wr' : World} {g v : Nat} {f : Int → Int → Int} (h : InBall B R hooks patches ha hc pa pc w g v f wr) (hb : Below wr.heap.size wr wr') : InBall B R hooks patches ha hc pa pc w g v f wr' := by
  obtain ⟨h1, h2, ⟨cs, h3, h4⟩, h5, r0, r1, r2, r3, r4, h6⟩ := h
  exact ⟨h1.later hb, h2.later hb, ⟨cs, h3.later hb, h4⟩, h5.trans (hb.mono h5.size), r0, r1, r2, r3, r4, h6.later hb⟩
theorem InBall.congr {B : Int} {R : Nat} {hooks : List Rg} {patches : List Pa} {ha pa : Option Addr} {hc pc : Nat} {w wr : World} {g v : Nat} {f f' : Int → Int → Int} (h : InBall B R hooks patches ha hc pa pc w g v f wr) (e : ∀ row board, f row board = f' row board) : InBall B R hooks patches ha hc pa pc w g v f' wr := by
  obtain ⟨h1, h2, ⟨cs, h3, h4⟩, h5, h6⟩ := h
  exact ⟨h1, h2, ⟨cs, h3, h4.congr e⟩, h5, h6⟩

set_option maxRecDepth 100000 in
set_option maxHeartbeats 1000000 in
theorem ball_any (B : Int) (R : Nat) (hooks : List Rg) (patches : List Pa) (ha pa : Option Addr) (hc pc : Nat) (w : World) (H : LaneAt w ⟨B, R, hooks, patches⟩ ha hc pa pc) (V : Valid ⟨B, R, hooks, patches⟩) :
    Calls Try.prog 72 #[.agg #[I B, I R, .slice ha hooks.length hc, .slice pa patches.length pc]] w fun e w' => ∃ (g : Nat) (cs : List Value), e = .returned (.agg #[I B, I R, .slice ha hooks.length hc, .slice pa patches.length pc, .slice (some ⟨g, 0, none⟩) R R]) ∧ w.heap.size ≤ g ∧ Box w' g cs ∧ GridOf cs R (levelOf patches) ∧ Below w.heap.size w w' := by
  have H2 := Lib.hid H
  have V2 := Lib.hid V
  have p5 : 1 ≤ R := by have := V.r1; simp at this; omega
  have p6 : R ≤ 12 := by have := V.r2; simp at this; omega
  have p7 : patches.length ≤ 8 := V.np
  clear H V
  obtain ⟨i, hi, hz0, hz1, hz2⟩ := info_parts infoLv
  have hmk := fun w => run_make_rowN (P := Try.prog) 105 152 i _ Try.underlying105 hi hz0 .i64 .i64 R R (Nat.le_refl _) (by rw [hz2]; omega) (by omega) w
  rw [hz1, madeLv] at hmk
  go_enter Try.func72, Try.ntmps72
  go_upto_region 1 with fail
  go_cut [3] (fun s3 wx => ∃ g v : Nat, s3 = .pointer (some ⟨v, 0, none⟩) ∧ InBall B R hooks patches ha hc pa pc w g v (levelOf []) wx ∧ w.heap.size < g ∧ w.heap.size < v ∧ v ≠ g ∧ w.heap.size + 1 ≠ g ∧ w.heap.size + 1 ≠ v)
  case first =>
    go_region
    all_goals
      go_wp2_with fail
      go_meet
    · refine ⟨w.heap.size + 1 + 1, w.heap.size + 1 + 1 + 1, rfl, ⟨?_, ?_, ⟨_, ?_, GridOf.zero R⟩, ?_, I 0, I 0, .slice none 0 0, .slice none 0 0, .slice none 0 0, ?_⟩, by omega, by omega, by omega, by omega, by omega⟩
      · exact (Box.new' _ _ (by simp)).drew
      · exact ((((Box.new' _ _ rfl).alloc _).alloc _).alloc _).drew
      · exact ((Box.new' _ _ (by simp)).alloc _).drew
      · exact (((((Below.refl _ _).alloc (Nat.le_refl _) _).alloc (by simp) _).alloc (by simp; omega) _).alloc (by simp; omega) _).drew
      · exact (((Box.new' _ _ (by simp)).alloc _).alloc _).drew
    · refine ⟨w.heap.size + 1 + 1 + 1, w.heap.size + 1 + 1, rfl, ⟨?_, ?_, ⟨_, ?_, GridOf.zero R⟩, ?_, I 0, I 0, .slice none 0 0, .slice none 0 0, .slice none 0 0, ?_⟩, by omega, by omega, by omega, by omega, by omega⟩
      · exact ((Box.new' _ _ (by simp)).alloc _).drew
      · exact ((((Box.new' _ _ rfl).alloc _).alloc _).alloc _).drew
      · exact (Box.new' _ _ (by simp)).drew
      · exact (((((Below.refl _ _).alloc (Nat.le_refl _) _).alloc (by simp) _).alloc (by simp; omega) _).alloc (by simp; omega) _).drew
      · exact (((Box.new' _ _ (by simp)).alloc _).alloc _).drew
  case rest =>
    obtain ⟨g, v, rfl, hin, n1, n2, n3, n4, n5⟩ := hcut
    have x3 := hin.2.1.cell 3 rfl
    clear hmk hz0 hz1 hz2 hi
    go_wp2_with fail
    go_loopw [16] (fun s16 wr => ∃ k : Nat, s16 = I k ∧ k ≤ patches.length ∧ InBall B R hooks patches ha hc pa pc w g v (levelOf (patches.take k)) wr) (fun i _ => patches.length - (intOf i).toNat)
    case atStart => exact ⟨0, rfl, by omega, hin⟩
    case round =>
      clear hin x3
      obtain ⟨k, rfl, hk, hin⟩ := hrel
      by_cases hlt : k < patches.length
      · obtain ⟨b, o, rfl, hbl, hce⟩ := (H2.out.2.below hin.2.2.2.1 (Nat.le_refl _)).rec 5 encPa_len (by decide) k hlt
        have c0 := hce 0 _ rfl
        have c1 := hce 1 _ rfl
        have c2 := hce 2 _ rfl
        have c3 := hce 3 _ rfl
        have c4 := hce 4 _ rfl
        rw [Nat.add_zero] at c0
        clear hce
        obtain ⟨wo, rfl⟩ : ∃ wo : World, wo = wr := ⟨_, rfl⟩
        obtain ⟨p, hp⟩ : ∃ p, patches[k] = p := ⟨_, rfl⟩
        have vp := V2.out.pk p (by rw [← hp]; simp)
        simp only [hp] at c0 c1 c2 c3 c4
        have HP := Lib.hid hp
        clear hp
        obtain ⟨⟨q1, q2, q3⟩, ⟨q4, q5, q6⟩, q7, q8⟩ := vp
        have q9 : B ≤ 40 := V2.out.b2
        simp only at q3 q6
        have hg1 := hin.1.lt
        have hg2 : g < wo.heap.size := by obtain ⟨_, _, ⟨_, h, _⟩, _⟩ := hin; exact h.lt
        go_wp2_with fail
        go_loopw [6, 7] (fun s6 s7 wq => ∃ r : Nat, s6 = I r ∧ p.rows.lo ≤ r ∧ r ≤ p.rows.hi + 1 ∧ InBall B R hooks patches ha hc (some ⟨b, o, none⟩) pc w g v (painted (patches.take k) p r p.boards.lo) wq ∧ Box wq wo.heap.size [I p.rows.lo, I p.rows.hi, I p.boards.lo, I p.boards.hi, I p.level]) (fun s6 _ _ => (p.rows.hi + 1 - intOf s6).toNat)
        case atStart =>
          refine ⟨p.rows.lo.toNat, by go_num, by omega, by omega, ?_, Box.new _ _ _⟩
          refine (hin.later ((Below.refl _ _).alloc (Nat.le_refl _) _)).congr fun row board => ?_
          rw [show ((p.rows.lo.toNat : Nat) : Int) = p.rows.lo by omega, painted_start]
        case round =>
          obtain ⟨r, rfl, hr1, hr2, hin2, hpb⟩ := hrel
          have b0 := hpb.cell 0 rfl
          have b1 := hpb.cell 1 rfl
          have b2 := hpb.cell 2 rfl
          have b3 := hpb.cell 3 rfl
          by_cases hlr : (r : Int) ≤ p.rows.hi
          · go_wp2_with fail
            go_loopw [7] (fun s7 ws => ∃ c : Nat, s7 = I c ∧ p.boards.lo ≤ c ∧ c ≤ p.boards.hi + 1 ∧ InBall B R hooks patches ha hc (some ⟨b, o, none⟩) pc w g v (painted (patches.take k) p r c) ws ∧ Box ws wo.heap.size [I p.rows.lo, I p.rows.hi, I p.boards.lo, I p.boards.hi, I p.level]) (fun s7 _ => (p.boards.hi + 1 - intOf s7).toNat)
            case atStart =>
              refine ⟨p.boards.lo.toNat, by go_num, by omega, by omega, ?_, hpb⟩
              rw [show ((p.boards.lo.toNat : Nat) : Int) = p.boards.lo by omega]
              exact hin2
            case round =>
              clear b0 b1 b2 b3
              obtain ⟨c, rfl, hc1, hc2, hin3, hpb3⟩ := hrel
              have b2 := hpb3.cell 2 rfl
              have b3 := hpb3.cell 3 rfl
              have b4 := hpb3.cell 4 rfl
              by_cases hlc : (c : Int) ≤ p.boards.hi
              · have hin3' := hin3
                obtain ⟨i1, i2, ⟨cs, i3, i4⟩, i5, i6⟩ := hin3'
                have v4 := i1.cell 4 rfl
                have gc := i3.cell (r * 41 + c) (i4.2 r c (by omega) (by omega))
                have gf := i3.free (r * 41 + c)
                clear i1 i2 i4 i5 i6
                have hst := fun (W : World) => painted_step (patches.take k) p r c (by simp [inR]; omega) (by simp [inR]; omega)
                have HST := Lib.hid hst
                clear hst
                go_wp2_with fail
                go_region
                go_wp2_with fail
                go_roundw
                case rel =>
                  refine ⟨c + 1, by go_num, by omega, by omega, ?_, (hpb3.other (by show g ≠ _; omega) _).drew⟩
                  obtain ⟨i1, i2, ⟨cs, i3, i4⟩, i5, r0', r1', r2', r3', r4', i6⟩ := hin3
                  refine ⟨(i1.other (by show g ≠ v; omega) _).drew, (i2.other (by show g ≠ _; omega) _).drew, ⟨_, (i3.set _ _).drew, ?_⟩, (i5.setCell (by show _ ≤ g; omega) _).drew, _, _, _, _, _, (i6.other (by show g ≠ _; omega) _).drew⟩
                  refine (i4.set r c (by omega) (by omega) p.level).congr fun row board => ?_
                  have := HST.out w row board
                  simpa using this.symm
                case measure => simp [intOf]; omega
              · go_wp2_with fail
                go_roundw
                case rel =>
                  refine ⟨r + 1, by go_num, by omega, by omega, ?_, hpb3⟩
                  exact hin3.congr fun row board => painted_row _ _ _ _ (by omega) row board
                case measure => simp [intOf]; omega
          · go_wp2_with fail
            go_roundw
            case rel =>
              refine ⟨k + 1, by go_num, by omega, ?_⟩
              refine hin2.congr fun row board => ?_
              rw [painted_end _ _ _ _ (by omega), List.take_succ_eq_append_getElem hlt, HP.out]
            case measure => simp [intOf]; omega
      · obtain ⟨i1, i2, ⟨cs, i3, i4⟩, i5, r0', r1', r2', r3', r4', i6⟩ := hin
        have v0 := i1.cell 0 rfl
        have v1 := i1.cell 1 rfl
        have v2 := i1.cell 2 rfl
        have v3 := i1.cell 3 rfl
        have v4 := i1.cell 4 rfl
        have y0 := i6.cell 0 rfl
        have y1 := i6.cell 1 rfl
        have y2 := i6.cell 2 rfl
        have y3 := i6.cell 3 rfl
        have y4 := i6.cell 4 rfl
        have f0 := i6.free 0
        have f1 := i6.free 1
        have f2 := i6.free 2
        have f3 := i6.free 3
        have f4 := i6.free 4
        rw [List.take_of_length_le (by omega)] at i4
        go_wp2_with fail
        refine bodyPost_ret (v := .agg #[I B, I R, .slice ha hooks.length hc, .slice pa patches.length pc, .slice (some ⟨g, 0, none⟩) R R]) ?_ rfl ⟨g, cs, rfl, by omega, ?_, i4, ?_⟩
        · simp [results, Try.results72, go_sem, y0, y1, y2, y3, y4]
        · exact ((((i3.other (by simp; omega) _).other (by simp; omega) _).other (by simp; omega) _).other (by simp; omega) _).other (by simp; omega) _
        · exact ((((i5.setCell (by simp) _).setCell (by simp) _).setCell (by simp) _).setCell (by simp) _).setCell (by simp) _
end Go.Proofs.Ytcfhbnfincpehaa

/- The walks of package path: hooks, follow, started. -/
namespace Go.Proofs.Ytcfhbnfincpehaa
open Go.RowKit Go.Shelf

/-- How a ball lies: its lane's lists, its levels. -/
structure BallAt (w : World) (l : La) (ha : Option Addr) (hc : Nat) (pa : Option Addr) (pc : Nat) (g : Nat) : Prop where
  lane : LaneAt w l ha hc pa pc
  valid : Valid l
  grid : ∃ cs, Box w g cs ∧ GridOf cs l.rows.toNat (levelOf l.patches)
theorem BallAt.later {w w' : World} {l : La} {ha : Option Addr} {hc : Nat} {pa : Option Addr} {pc g : Nat} (h : BallAt w l ha hc pa pc g) (hb : Below w.heap.size w w') : BallAt w' l ha hc pa pc g := by
  obtain ⟨h1, h2, cs, h3, h4⟩ := h
  exact ⟨h1.below hb (Nat.le_refl _), h2, cs, h3.later hb, h4⟩
theorem Valid.rows_eq {l : La} (h : Valid l) : ((l.rows.toNat : Nat) : Int) = l.rows := by have := h.r1; omega

theorem balls_any (l : La) (ha pa : Option Addr) (hc pc : Nat) (w : World) (H : LaneAt w l ha hc pa pc) (V : Valid l) :
    Calls Try.prog 72 #[.agg #[I l.boards, I l.rows, .slice ha l.hooks.length hc, .slice pa l.patches.length pc]] w fun e w' => ∃ g : Nat, e = .returned (.agg #[I l.boards, I l.rows, .slice ha l.hooks.length hc, .slice pa l.patches.length pc, .slice (some ⟨g, 0, none⟩) l.rows.toNat l.rows.toNat]) ∧ w.heap.size ≤ g ∧ BallAt w' l ha hc pa pc g ∧ Below w.heap.size w w' := by
  obtain ⟨B, R0, hooks, patches⟩ := l
  obtain ⟨R, rfl⟩ : ∃ R : Nat, R0 = R := ⟨R0.toNat, by have := V.r1; simp at this; omega⟩
  refine (ball_any B R hooks patches ha pa hc pc w H V).mono ?_
  rintro e w' ⟨g, cs, rfl, hg, hx, hgr, hb⟩
  exact ⟨g, by simp, hg, ⟨H.below hb (Nat.le_refl _), V, cs, hx, by simpa using hgr⟩, hb⟩

set_option maxRecDepth 100000 in
theorem hooks_any (l : La) (row : Int) (s : St) (ha pa : Option Addr) (hc pc g : Nat) (w : World) (H : BallAt w l ha hc pa pc g) (h1 : 0 ≤ row) (h2 : row < l.rows) (h3 : onL l s = true) :
    Calls Try.prog 80 #[.agg #[I l.boards, I l.rows, .slice ha l.hooks.length hc, .slice pa l.patches.length pc, .slice (some ⟨g, 0, none⟩) l.rows.toNat l.rows.toNat], I row, .agg #[I s.b, I s.d]] w fun e w' => e = .returned (.agg #[I (hookOf l row s.b).lo, I (hookOf l row s.b).hi]) ∧ Below w.heap.size w w' := by
  obtain ⟨hl, hv, cs, hx, hg⟩ := H
  have q1 := hv.b2
  have q2 := hv.r2
  have q4 := hv.nh
  have q3 : 1 ≤ s.b ∧ s.b ≤ l.boards := by simpa [onL] using h3
  obtain ⟨r, rfl⟩ : ∃ r : Nat, row = r := ⟨row.toNat, by omega⟩
  obtain ⟨sb, sd⟩ := s
  simp only at q3
  obtain ⟨c, rfl⟩ : ∃ c : Nat, sb = c := ⟨sb.toNat, by omega⟩
  obtain ⟨lv, hlv⟩ : ∃ lv, levelOf l.patches r c = lv := ⟨_, rfl⟩
  have q5 := levelOf_bd hv r c
  rw [hlv] at q5
  obtain ⟨lv, rfl⟩ : ∃ n : Nat, lv = n := ⟨lv.toNat, by omega⟩
  have hlt : lv < l.hooks.length := by omega
  have cg : w.cell? ⟨g, r * 41 + c, none⟩ = some (I lv) := by rw [← hlv]; exact hx.cell _ (hg.2 r c (by omega) (by omega))
  have hgl := hx.lt
  obtain ⟨b, o, rfl, hbl, hce⟩ := hl.1.rec 2 encRg_len (by decide) lv hlt
  have c0 := hce 0 _ rfl
  have c1 := hce 1 _ rfl
  rw [Nat.add_zero] at c0
  have hh : hookOf l r c = l.hooks[lv] := by
    unfold hookOf
    rw [hlv, List.getD_eq_getElem?_getD, Int.toNat_natCast, List.getElem?_eq_getElem hlt]; rfl
  have HH := Lib.hid hh
  have hrt : r < l.rows.toNat := by omega
  (have o1g : g < w.heap.size + 1 := by omega); (have o2g : g < w.heap.size + 1 + 1 := by omega); (have o3g : g < w.heap.size + 1 + 1 + 1 := by omega)
  (have o1b : b < w.heap.size + 1 := by omega); (have o2b : b < w.heap.size + 1 + 1 := by omega); (have o3b : b < w.heap.size + 1 + 1 + 1 := by omega)
  clear hce hx hg hlv hl hh h3
  go_enter Try.func80, Try.ntmps80
  go_wp2_with fail
  go_region
  all_goals
    go_wp2_with fail
    rw [HH.out]
    refine bodyPost_ret (v := .agg #[I l.hooks[lv].lo, I l.hooks[lv].hi]) ?_ rfl ⟨rfl, ?_⟩
    · simp [results, Try.results80, go_sem]
    · refine Below.drew ?_
      (repeat (first | assumption | exact Below.refl _ _ | refine Below.alloc ?_ (by first | omega | (simp only [World.size_alloc]; omega) | (simp; done)) _ | refine Below.trans ?_ (Below.mono (by assumption) (by first | omega | (simp only [World.size_alloc]; omega) | (simp; done)))))

/-- follow: the iterator, over two boxes of its own: the hooks, and the state. -/
theorem follow_any (l : La) (row : Int) (s : St) (ha pa : Option Addr) (hc pc g : Nat) (w : World) (H : BallAt w l ha hc pa pc g) (h1 : 0 ≤ row) (h2 : row < l.rows) (h3 : onL l s = true) :
    Calls Try.prog 66 #[.agg #[I l.boards, I l.rows, .slice ha l.hooks.length hc, .slice pa l.patches.length pc, .slice (some ⟨g, 0, none⟩) l.rows.toNat l.rows.toNat], I row, .agg #[I s.b, I s.d]] w fun e w' => ∃ hb sb : Nat, e = .returned (.func (.func 88) #[] #[.pointer (some ⟨hb, 0, none⟩), .pointer (some ⟨sb, 0, none⟩)]) ∧
      w.heap.size ≤ hb ∧ w.heap.size ≤ sb ∧ Box w' hb [I (hookOf l row s.b).lo, I (hookOf l row s.b).hi] ∧ Box w' sb [I s.b, I s.d] ∧ Below w.heap.size w w' := by
  obtain ⟨hk, hhk⟩ : ∃ hk, hookOf l row s.b = hk := ⟨_, rfl⟩
  have hC : ∀ o1 o2, Calls Try.prog 80 #[.agg #[I l.boards, I l.rows, .slice ha l.hooks.length hc, .slice pa l.patches.length pc, .slice (some ⟨g, 0, none⟩) l.rows.toNat l.rows.toNat], I row, .agg #[I s.b, I s.d]] ((w.alloc o1).alloc o2) fun e w' => e = .returned (.agg #[I hk.lo, I hk.hi]) ∧ Below ((w.alloc o1).alloc o2).heap.size ((w.alloc o1).alloc o2) w' := by
    intro o1 o2
    rw [← hhk]
    exact hooks_any l row s ha pa hc pc g _ (H.later (((Below.refl _ _).alloc (Nat.le_refl _) _).alloc (by simp) _)) h1 h2 h3
  have HC := Lib.hid hC
  rw [hhk]
  clear hC hhk H
  go_enter Try.func66, Try.ntmps66
  go_wp2_with fail
  refine (HC.out _ _).mono ?_
  rintro e w1 ⟨rfl, hb1⟩
  have hz := hb1.size
  simp only [World.size_alloc] at hz
  go_wp2_with fail
  go_ret
  refine ⟨w1.heap.size, w.heap.size + 1, rfl, by omega, by omega, Box.new _ _ _, ?_, ?_⟩
  · exact (Box.later (Box.new' _ _ (by simp)) hb1).alloc _
  · (repeat (first | assumption | exact Below.refl _ _ | refine Below.alloc ?_ (by first | omega | (simp only [World.size_alloc]; omega) | (simp; done)) _ | refine Below.trans ?_ (Below.mono (by assumption) (by first | omega | (simp only [World.size_alloc]; omega) | (simp; done)))))

def zeroBall : Value := .agg #[I 0, I 0, .slice none 0 0, .slice none 0 0, .slice none 0 0]

theorem started_err (l : La) (s : St) (ha pa : Option Addr) (hc pc : Nat) (w : World) (H : LaneAt w l ha hc pa pc) (he : startErr l s ≠ 0) :
    Calls Try.prog 56 #[.agg #[I l.boards, I l.rows, .slice ha l.hooks.length hc, .slice pa l.patches.length pc], .agg #[I s.b, I s.d]] w fun e w' => e = .returned (.tuple #[.agg #[I 0, I 0, .slice none 0 0, .slice none 0 0, .slice none 0 0], I (startErr l s)]) ∧ Below w.heap.size w w' := by
  have hC := fun o1 o2 o3 => CheckLane_any l ha pa hc pc (((w.alloc o1).alloc o2).alloc o3) (H.below ((((Below.refl _ _).alloc (Nat.le_refl _) _).alloc (by simp) _).alloc (by simp; omega) _) (Nat.le_refl _))
  have HC := Lib.hid hC
  have HE := Lib.hid he
  clear hC H he
  by_cases hf : fault l = 0
  · have h2 : isStart l s = false := by
      cases h : isStart l s
      · rfl
      · exact absurd (by simp [startErr, hf, h]) HE.out
    have he2 : startErr l s = 2 := by simp [startErr, hf, h2]
    rw [he2]
    have H2 := Lib.hid h2
    have HF := Lib.hid hf
    clear hf h2 he2
    go_enter Try.func56, Try.ntmps56
    go_wp2_with fail
    refine Calls.mono (HC.out _ _ _) ?_
    rw [HF.out]
    rintro e w1 ⟨rfl, hb1⟩
    obtain ⟨hc1, hf1, hz1⟩ := bcell hb1
    simp only [World.size_alloc] at hz1
    have y0 := fun o => hc1 w.heap.size o (by simp; omega)
    have y1 := fun o => hc1 (w.heap.size + 1) o (by simp)
    have y2 := fun o => hc1 (w.heap.size + 1 + 1) o (by simp)
    have z2 := fun o => hf1 (w.heap.size + 1 + 1) o (by simp)
    have X2 := Lib.hid (Box.later (Box.new' (b := w.heap.size + 1 + 1) [I 0, I 0, .slice none 0 0, .slice none 0 0, .slice none 0 0] 107 (by simp)) hb1)
    have hB1 := Lib.hid (show Below w.heap.size w w1 by (repeat (first | assumption | exact Below.refl _ _ | refine Below.alloc ?_ (by first | omega | (simp only [World.size_alloc]; omega) | (simp; done)) _ | refine Below.trans ?_ (Below.mono (by assumption) (by first | omega | (simp only [World.size_alloc]; omega) | (simp; done))))))
    clear hc1 hf1
    go_wp2_with (first | (go_at_call 57; refine Calls.mono (within_any _ _ _ _) ?_; rintro e w' ⟨rfl, rfl⟩) | (go_at_call 65; refine Calls.mono (on_any _ _ _ _ _ _ _) ?_; rintro e w2 ⟨rfl, hbw2⟩; obtain ⟨hcw2, hfw2, hzw2⟩ := bcell hbw2; (try simp only [World.size_alloc] at hzw2); have := fun o => hcw2 (w.heap.size) o (by first | omega | (simp only [World.size_alloc]; omega) | (simp; done)); have := fun o => hfw2 (w.heap.size) o (by first | omega | (simp only [World.size_alloc]; omega) | (simp; done)); have := fun o => hcw2 (w.heap.size+1) o (by first | omega | (simp only [World.size_alloc]; omega) | (simp; done)); have := fun o => hfw2 (w.heap.size+1) o (by first | omega | (simp only [World.size_alloc]; omega) | (simp; done)); have := fun o => hcw2 (w.heap.size+1+1) o (by first | omega | (simp only [World.size_alloc]; omega) | (simp; done)); have := fun o => hfw2 (w.heap.size+1+1) o (by first | omega | (simp only [World.size_alloc]; omega) | (simp; done)); clear hcw2 hfw2))
    all_goals first
      | (exfalso
         have g1 : onL l s = true := by assumption
         have g2 : (!decide (-5 ≤ s.d)) = false ∧ (!decide (s.d ≤ 5)) = false := by assumption
         have g3 : isStart l s = true := by
           simp at g2; simp [onL] at g1; simp [isStart]; omega
         rw [H2.out] at g3
         cases g3)
      | (refine bodyPost_ret (res_cell_tmp rfl _ rfl ((X2.out.later hbw2).set 0 (I 0) |>.set 1 (I 0) |>.set 2 (.slice none 0 0) |>.set 3 (.slice none 0 0) |>.set 4 (.slice none 0 0)) Try.underlying107 rfl (by kernel_rfl)) rfl ⟨rfl, ?_⟩
         refine (hB1.out.trans (hbw2.mono hB1.out.size)).trans ?_
         repeat refine below_set ?_ (by omega)
         exact Below.refl _ _)
  · have he2 : startErr l s = fault l := by simp [startErr, hf]
    have hfb : (fault l != 0) = true := by simp [hf]
    rw [he2]
    have HF := Lib.hid hf
    clear hf he2
    go_enter Try.func56, Try.ntmps56
    go_wp2_with fail
    refine Calls.mono (HC.out _ _ _) ?_
    rintro e w1 ⟨rfl, hb1⟩
    obtain ⟨hc1, hf1, hz1⟩ := bcell hb1
    simp only [World.size_alloc] at hz1
    have y0 := fun o => hc1 w.heap.size o (by simp; omega)
    have y1 := fun o => hc1 (w.heap.size + 1) o (by simp)
    have y2 := fun o => hc1 (w.heap.size + 1 + 1) o (by simp)
    have z2 := fun o => hf1 (w.heap.size + 1 + 1) o (by simp)
    have X2 := Lib.hid (Box.later (Box.new' (b := w.heap.size + 1 + 1) [I 0, I 0, .slice none 0 0, .slice none 0 0, .slice none 0 0] 107 (by simp)) hb1)
    clear hc1 hf1
    go_wp2_with fail
    refine bodyPost_ret (res_cell_tmp rfl _ rfl (X2.out.set 0 (I 0) |>.set 1 (I 0) |>.set 2 (.slice none 0 0) |>.set 3 (.slice none 0 0) |>.set 4 (.slice none 0 0)) Try.underlying107 rfl (by kernel_rfl)) rfl ⟨rfl, ?_⟩
    refine (show Below w.heap.size w w1 by (repeat (first | assumption | exact Below.refl _ _ | refine Below.alloc ?_ (by first | omega | (simp only [World.size_alloc]; omega) | (simp; done)) _ | refine Below.trans ?_ (Below.mono (by assumption) (by first | omega | (simp only [World.size_alloc]; omega) | (simp; done)))))).trans ?_
    repeat refine below_set ?_ (by omega)
    exact Below.refl _ _

theorem started_ok (l : La) (s : St) (ha pa : Option Addr) (hc pc : Nat) (w : World) (H : LaneAt w l ha hc pa pc) (he : startErr l s = 0) :
    Calls Try.prog 56 #[.agg #[I l.boards, I l.rows, .slice ha l.hooks.length hc, .slice pa l.patches.length pc], .agg #[I s.b, I s.d]] w fun e w' => ∃ g : Nat, e = .returned (.tuple #[.agg #[I l.boards, I l.rows, .slice ha l.hooks.length hc, .slice pa l.patches.length pc, .slice (some ⟨g, 0, none⟩) l.rows.toNat l.rows.toNat], I 0]) ∧ w.heap.size ≤ g ∧ BallAt w' l ha hc pa pc g ∧ Below w.heap.size w w' := by
  have hf : fault l = 0 := by
    unfold startErr at he; split at he
    · omega
    · simp_all
  have hs : isStart l s = true := by
    cases h : isStart l s
    · simp [startErr, hf, h] at he
    · rfl
  have hV := fault_valid hf
  have hC := fun o1 o2 o3 => CheckLane_any l ha pa hc pc (((w.alloc o1).alloc o2).alloc o3) (H.below ((((Below.refl _ _).alloc (Nat.le_refl _) _).alloc (by simp) _).alloc (by simp; omega) _) (Nat.le_refl _))
  have HC := Lib.hid hC
  have HV := Lib.hid hV
  have HH := Lib.hid H
  have hon : onL l s = true := by simp [onL]; simp [isStart] at hs; omega
  have d1 : -5 ≤ s.d := by simp [isStart] at hs; omega
  have d2 : s.d ≤ 5 := by simp [isStart] at hs; omega
  have HF := Lib.hid hf
  clear hC H he hs hV hf
  go_enter Try.func56, Try.ntmps56
  go_wp2_with fail
  refine Calls.mono (HC.out _ _ _) ?_
  rw [HF.out]
  rintro e w1 ⟨rfl, hb1⟩
  obtain ⟨hc1, hf1, hz1⟩ := bcell hb1
  simp only [World.size_alloc] at hz1
  have y0 := fun o => hc1 w.heap.size o (by simp; omega)
  have y1 := fun o => hc1 (w.heap.size + 1) o (by simp)
  have y2 := fun o => hc1 (w.heap.size + 1 + 1) o (by simp)
  have z2 := fun o => hf1 (w.heap.size + 1 + 1) o (by simp)
  have X2 := Lib.hid (Box.later (Box.new' (b := w.heap.size + 1 + 1) [I 0, I 0, .slice none 0 0, .slice none 0 0, .slice none 0 0] 107 (by simp)) hb1)
  have hB1 := Lib.hid (show Below w.heap.size w w1 by (repeat (first | assumption | exact Below.refl _ _ | refine Below.alloc ?_ (by first | omega | (simp only [World.size_alloc]; omega) | (simp; done)) _ | refine Below.trans ?_ (Below.mono (by assumption) (by first | omega | (simp only [World.size_alloc]; omega) | (simp; done))))))
  clear hc1 hf1
  go_wp2_with (first | (go_at_call 57; refine Calls.mono (within_any _ _ _ _) ?_; rintro e w' ⟨rfl, rfl⟩) | (go_at_call 65; refine Calls.mono (on_any _ _ _ _ _ _ _) ?_; rintro e w2 ⟨rfl, hbw2⟩; obtain ⟨hcw2, hfw2, hzw2⟩ := bcell hbw2; (try simp only [World.size_alloc] at hzw2); have := fun o => hcw2 (w.heap.size) o (by first | omega | (simp only [World.size_alloc]; omega) | (simp; done)); have := fun o => hfw2 (w.heap.size) o (by first | omega | (simp only [World.size_alloc]; omega) | (simp; done)); have := fun o => hcw2 (w.heap.size+1) o (by first | omega | (simp only [World.size_alloc]; omega) | (simp; done)); have := fun o => hfw2 (w.heap.size+1) o (by first | omega | (simp only [World.size_alloc]; omega) | (simp; done)); have := fun o => hcw2 (w.heap.size+1+1) o (by first | omega | (simp only [World.size_alloc]; omega) | (simp; done)); have := fun o => hfw2 (w.heap.size+1+1) o (by first | omega | (simp only [World.size_alloc]; omega) | (simp; done)); clear hcw2 hfw2))
  have hB2 : Below w.heap.size w w2 := hB1.out.trans (hbw2.mono (by omega))
  refine Calls.mono (balls_any l ha pa hc pc _ (HH.out.below hB2 (Nat.le_refl _)) HV.out) ?_
  rintro e w3 ⟨g, rfl, hg, hball, hb3⟩
  obtain ⟨hc3, hf3, hz3⟩ := bcell hb3
  have u2 := fun o => hc3 (w.heap.size + 1 + 1) o (by omega)
  have v2 := fun o => hf3 (w.heap.size + 1 + 1) o (by omega)
  have HB := Lib.hid hball
  have X3 := Lib.hid ((X2.out.later hbw2).later hb3)
  clear hc3 hf3 hball
  go_wp2_with fail
  refine bodyPost_ret (res_cell_tmp rfl _ rfl (X3.out.set 0 (I l.boards) |>.set 1 (I l.rows) |>.set 2 (.slice ha l.hooks.length hc) |>.set 3 (.slice pa l.patches.length pc) |>.set 4 (.slice (some ⟨g, 0, none⟩) l.rows.toNat l.rows.toNat)) Try.underlying107 rfl (by kernel_rfl)) rfl ⟨g, rfl, by omega, ?_, ?_⟩
  · obtain ⟨b1, b2, cs, b3, b4⟩ := HB.out
    have hbb : Below w.heap.size w (w3.setCell ⟨w.heap.size + 1 + 1, 0, none⟩ (I l.boards) |>.setCell ⟨w.heap.size + 1 + 1, 1, none⟩ (I l.rows) |>.setCell ⟨w.heap.size + 1 + 1, 2, none⟩ (.slice ha l.hooks.length hc) |>.setCell ⟨w.heap.size + 1 + 1, 3, none⟩ (.slice pa l.patches.length pc) |>.setCell ⟨w.heap.size + 1 + 1, 4, none⟩ (.slice (some ⟨g, 0, none⟩) l.rows.toNat l.rows.toNat)) := by
      repeat refine below_set ?_ (by omega)
      exact hB2.trans (hb3.mono hB2.size)
    refine ⟨HH.out.below hbb (Nat.le_refl _), HV.out, cs, ?_, b4⟩
    exact ((((b3.other (by show w.heap.size + 1 + 1 ≠ g; omega) _).other (by show w.heap.size + 1 + 1 ≠ g; omega) _).other (by show w.heap.size + 1 + 1 ≠ g; omega) _).other (by show w.heap.size + 1 + 1 ≠ g; omega) _).other (by show w.heap.size + 1 + 1 ≠ g; omega) _
  · repeat refine below_set ?_ (by omega)
    exact hB2.trans (hb3.mono hB2.size)
end Go.Proofs.Ytcfhbnfincpehaa

/- Maps that the call makes: which keys are there, and what stands at them, as a function. Nothing is asked. -/
namespace Go.Proofs.Ytcfhbnfincpehaa
open Go.RowKit Go.Shelf

/-- Which blocks may have turned. -/
structure Moves (Bs : Nat → Prop) (w w' : World) : Prop where
  os : w'.os = w.os
  tape : w'.tape = w.tape
  output : w'.output = w.output
  size : w.heap.size ≤ w'.heap.size
  block : ∀ k, k < w.heap.size → ¬ Bs k → w'.heap[k]? = w.heap[k]?
theorem Moves.refl {Bs : Nat → Prop} (w : World) : Moves Bs w w := ⟨rfl, rfl, rfl, Nat.le_refl _, fun _ _ _ => rfl⟩
theorem Moves.trans {Bs Bs' : Nat → Prop} {a b c : World} (h : Moves Bs a b) (k : Moves Bs' b c) (hs : ∀ i, i < a.heap.size → Bs' i → Bs i) : Moves Bs a c :=
  ⟨k.os.trans h.os, k.tape.trans h.tape, k.output.trans h.output, Nat.le_trans h.size k.size, fun i hi hn => (k.block i (Nat.lt_of_lt_of_le hi h.size) (fun hb => hn (hs i hi hb))).trans (h.block i hi hn)⟩
theorem Moves.weaken {Bs Bs' : Nat → Prop} {a b : World} (h : Moves Bs a b) (hs : ∀ i, i < a.heap.size → Bs i → Bs' i) : Moves Bs' a b :=
  ⟨h.os, h.tape, h.output, h.size, fun i hi hn => h.block i hi (fun hb => hn (hs i hi hb))⟩
theorem Moves.of_below {Bs : Nat → Prop} {w w' : World} (h : Below w.heap.size w w') : Moves Bs w w' := ⟨h.os, h.tape, h.output, h.size, fun k hk _ => h.block k hk⟩
theorem Moves.below {Bs : Nat → Prop} {w w' : World} {B : Nat} (h : Moves Bs w w') (hB : B ≤ w.heap.size) (hs : ∀ i, i < B → ¬ Bs i) : Below B w w' := ⟨h.os, h.tape, h.output, h.size, fun k hk => h.block k (Nat.lt_of_lt_of_le hk hB) (hs k hk)⟩
theorem Moves.alloc {Bs : Nat → Prop} {a w : World} (h : Moves Bs a w) (o : Obj) : Moves Bs a (w.alloc o) := h.trans (Moves.of_below (Bs := fun _ => False) ((Below.refl _ _).alloc (Nat.le_refl _) o)) (fun _ _ h => h.elim)
theorem Moves.drew {Bs : Nat → Prop} {a w : World} (h : Moves Bs a w) : Moves Bs a w.drew := ⟨h.os, h.tape, h.output, h.size, h.block⟩
theorem Moves.set {Bs : Nat → Prop} {a w : World} {b i : Nat} {u : Value} (h : Moves Bs a w) (hb : b < a.heap.size → Bs b) : Moves Bs a (w.setCell ⟨b, i, none⟩ u) :=
  ⟨h.os, h.tape, h.output, by simpa [World.setCell] using h.size, fun k hk hn => (Below.heap_setCell w ⟨b, i, none⟩ u k (fun e => hn (by cases e; exact hb hk))).trans (h.block k hk hn)⟩
theorem Moves.grown {Bs : Nat → Prop} {a w w' : World} {row : Option Nat} (h : Moves Bs a w) (hg : w.grownBy w' row) (hr : ∀ r, row = some r → r < a.heap.size → Bs r) : Moves Bs a w' :=
  ⟨hg.os.trans h.os, hg.tape.trans h.tape, hg.output.trans h.output, Nat.le_trans h.size hg.size, fun k hk hn => (hg.block k (Nat.lt_of_lt_of_le hk h.size) (fun e => hn (hr k e.symm hk))).trans (h.block k hk hn)⟩
theorem Moves.box {Bs : Nat → Prop} {w w' : World} {b : Nat} {cs : List Value} (h : Moves Bs w w') (hx : Box w b cs) (hb : ¬ Bs b) : Box w' b cs := by
  obtain ⟨T, hx⟩ := hx
  exact ⟨T, (h.block b (Array.getElem?_eq_some_iff.1 hx).1 hb).trans hx⟩

section
variable {P : Program} {κ ν : Type}

/-- The keys of a map's type, as values. -/
structure GoodKey (P : Program) (K : TypeId) (ek : κ → Value) : Prop where
  check : ∀ (b : Bool) (k : κ) (w : World), (Instr.checkKey b 10000 K (ek k)).run P w = .ok () w
  find : ∀ (k : κ) (es : List MapEntry) (w : World), (∀ e ∈ es, ∃ k', e.key = ek k') → ∃ r, (Instr.findKey K (ek k) es).run P w = .ok r w ∧
    ((r = none ∧ ∀ e ∈ es, e.key ≠ ek k) ∨ ∃ i e, r = some (i, e.val) ∧ es[i]? = some e ∧ e.key = ek k)
  bits : ∀ k, Instr.sameBits 10000 (ek k) (ek k) = true
  inj : ∀ a b, ek a = ek b → a = b

theorem findAsking_run [DecidableEq κ] {K : TypeId} {ek : κ → Value} (inj : ∀ a b, ek a = ek b → a = b) (heq : ∀ a b w, (Op.equal K (ek a) (ek b)).run P w = .ok (decide (a = b)) w) (k : κ) (w : World) :
    ∀ (es : List MapEntry) (i : Nat), (∀ e ∈ es, ∃ k', e.key = ek k') → ∃ r, (Instr.findAsking K (ek k) es i).run P w = .ok r w ∧
      ((r = none ∧ ∀ e ∈ es, e.key ≠ ek k) ∨ ∃ j e, r = some (i + j, e.val) ∧ es[j]? = some e ∧ e.key = ek k)
  | [], i, _ => ⟨none, by simp [Instr.findAsking], .inl ⟨rfl, by simp⟩⟩
  | e :: es, i, h => by
    obtain ⟨k', hk'⟩ := h e (by simp)
    by_cases hkk : k = k'
    · subst hkk
      exact ⟨some (i, e.val), by simp [Instr.findAsking, hk', Sem.run_bind, heq, Result.andThen], .inr ⟨0, e, by simp, by simp, hk'⟩⟩
    · obtain ⟨r, hr, hc⟩ := findAsking_run inj heq k w es (i + 1) (fun x hx => h x (by simp [hx]))
      refine ⟨r, by simp [Instr.findAsking, hk', Sem.run_bind, heq, Result.andThen, hkk, hr], ?_⟩
      rcases hc with ⟨h1, h2⟩ | ⟨j, x, h1, h2, h3⟩
      · refine .inl ⟨h1, fun x hx => ?_⟩
        rcases List.mem_cons.1 hx with rfl | hx
        · rw [hk']; exact fun e' => hkk (inj _ _ e').symm
        · exact h2 x hx
      · exact .inr ⟨j + 1, x, by rw [h1]; congr 2; omega, by simpa using h2, h3⟩

/-- A struct's keys, out of '==' on them. -/
theorem GoodKey.of_struct [DecidableEq κ] {K : TypeId} {ek : κ → Value} {fs : Array Field} (hK : P.underlying K = some (.struct fs))
    (check : ∀ (b : Bool) (k : κ) (w : World), (Instr.checkKey b 10000 K (ek k)).run P w = .ok () w)
    (heq : ∀ a b w, (Op.equal K (ek a) (ek b)).run P w = .ok (decide (a = b)) w) (bits : ∀ k, Instr.sameBits 10000 (ek k) (ek k) = true) (inj : ∀ a b, ek a = ek b → a = b) : GoodKey P K ek := by
  refine ⟨check, fun k es w h => ?_, bits, inj⟩
  cases es with
  | nil => exact ⟨none, by simp [Instr.findKey, run_underlying hK, Instr.findNow], .inl ⟨rfl, by simp⟩⟩
  | cons e es =>
    obtain ⟨r, hr, hc⟩ := findAsking_run inj heq k w (e :: es) 0 h
    have hn : Instr.findNow (.struct fs) (ek k) (e :: es) 0 = none := by
      simp [Instr.findNow, Instr.sameNow]
    refine ⟨r, ?_, ?_⟩
    · simp [Instr.findKey, Sem.run_bind, run_underlying hK, hn, hr]
    · simpa using hc

/-- Block b is a map: at the key k stands m k. -/
def MapIs (w : World) (b : Nat) (ek : κ → Value) (ev : ν → Value) (m : κ → Option ν) : Prop :=
  ∃ (es : Array MapEntry) (clock : Nat), w.heap[b]? = some (.map es clock) ∧
    (∀ (i j : Nat) (ei ej : MapEntry), es.toList[i]? = some ei → es.toList[j]? = some ej → (ei.key = ej.key ∨ ei.born = ej.born) → i = j) ∧
    (∀ e ∈ es.toList, e.born < clock) ∧ (∀ e ∈ es.toList, ∃ k v, e.key = ek k ∧ e.val = ev v ∧ m k = some v) ∧
    (∀ k v, m k = some v → ∃ e ∈ es.toList, e.key = ek k ∧ e.val = ev v)

theorem MapIs.lt {w : World} {b : Nat} {ek : κ → Value} {ev : ν → Value} {m : κ → Option ν} (h : MapIs w b ek ev m) : b < w.heap.size := by
  obtain ⟨es, clock, hb, _⟩ := h; exact (Array.getElem?_eq_some_iff.1 hb).1
theorem MapIs.at_ {w w' : World} {b : Nat} {ek : κ → Value} {ev : ν → Value} {m : κ → Option ν} (h : MapIs w b ek ev m) (e : w'.heap[b]? = w.heap[b]?) : MapIs w' b ek ev m := by
  obtain ⟨es, clock, hb, hr⟩ := h; exact ⟨es, clock, e.trans hb, hr⟩
theorem MapIs.later {w w' : World} {b : Nat} {ek : κ → Value} {ev : ν → Value} {m : κ → Option ν} (h : MapIs w b ek ev m) (hb : Below w.heap.size w w') : MapIs w' b ek ev m := h.at_ (hb.block b h.lt)
theorem MapIs.moves {Bs : Nat → Prop} {w w' : World} {b : Nat} {ek : κ → Value} {ev : ν → Value} {m : κ → Option ν} (h : MapIs w b ek ev m) (hm : Moves Bs w w') (hb : ¬ Bs b) : MapIs w' b ek ev m := h.at_ (hm.block b h.lt hb)
theorem MapIs.alloc {w : World} {b : Nat} {ek : κ → Value} {ev : ν → Value} {m : κ → Option ν} (h : MapIs w b ek ev m) (o : Obj) : MapIs (w.alloc o) b ek ev m := h.at_ (Below.heap_alloc _ _ _ h.lt)
theorem MapIs.set {w : World} {b c i : Nat} {u : Value} {ek : κ → Value} {ev : ν → Value} {m : κ → Option ν} (h : MapIs w b ek ev m) (hn : b ≠ c) : MapIs (w.setCell ⟨c, i, none⟩ u) b ek ev m := h.at_ (Below.heap_setCell w ⟨c, i, none⟩ u b hn)
theorem MapIs.made (w : World) (ek : κ → Value) (ev : ν → Value) : MapIs (w.alloc (.map #[] 0)) w.heap.size ek ev (fun _ => none) :=
  ⟨#[], 0, heap_alloc_new w _, by simp, by simp, by simp, by simp⟩
theorem MapIs.made' {w : World} {b : Nat} (ek : κ → Value) (ev : ν → Value) (h : b = w.heap.size) : MapIs (w.alloc (.map #[] 0)) b ek ev (fun _ => none) := h ▸ MapIs.made w ek ev

variable {w : World} {b : Nat} {K E T : TypeId} {ek : κ → Value} {ev : ν → Value} {m : κ → Option ν}

theorem MapIs.lookup (h : MapIs w b ek ev m) (G : GoodKey P K ek) (hT : P.underlying T = some (.map K E)) {z : Value} (hz : (zeroValue E).run P w = .ok z w) (k : κ) (ok : Bool) :
    (Instr.lookup T (.map (some b)) (ek k) ok).run P w = .ok (if ok then .tuple #[(m k).elim z ev, .bool (m k).isSome] else (m k).elim z ev) w := by
  obtain ⟨es, clock, hb, h1, h2, h3, h4⟩ := h
  obtain ⟨r, hr, hc⟩ := G.find k es.toList w (fun e he => by obtain ⟨k', v, hk, _⟩ := h3 e he; exact ⟨k', hk⟩)
  have hg : (getObj b).run P w = .ok (.map es clock) w := by simp [getObj, Sem.run, hb]
  rcases hc with ⟨rfl, hno⟩ | ⟨i, e, rfl, hi, hk⟩
  · have hm : m k = none := by
      cases hm : m k with
      | none => rfl
      | some v => obtain ⟨e, he, hk, _⟩ := h4 k v hm; exact absurd hk (hno e he)
    simp [Instr.lookup, Sem.run_bind, run_underlying hT, hg, Result.andThen, G.check, hr, hz, hm]
  · obtain ⟨k', v, hk', hv, hm⟩ := h3 e (List.mem_of_getElem? hi)
    have : k' = k := G.inj _ _ (hk'.symm.trans hk)
    subst this
    simp [Instr.lookup, Sem.run_bind, run_underlying hT, hg, Result.andThen, G.check, hr, hm, hv]

/-- m with v at k. -/
def upd [DecidableEq κ] (m : κ → Option ν) (k : κ) (v : ν) : κ → Option ν := fun x => if x = k then some v else m x

theorem MapIs.update [DecidableEq κ] (h : MapIs w b ek ev m) (G : GoodKey P K ek) (hT : P.underlying T = some (.map K E)) (k : κ) (v : ν) :
    ∃ w', (Instr.mapUpdate T (.map (some b)) (ek k) (ev v)).run P w = .ok () w' ∧ MapIs w' b ek ev (upd m k v) ∧ Moves (· = b) w w' ∧ w'.heap.size = w.heap.size := by
  obtain ⟨es, clock, hb, h1, h2, h3, h4⟩ := h
  have hlt := (Array.getElem?_eq_some_iff.1 hb).1
  obtain ⟨r, hr, hc⟩ := G.find k es.toList w (fun e he => by obtain ⟨k', v, hk, _⟩ := h3 e he; exact ⟨k', hk⟩)
  have hg : (getObj b).run P w = .ok (.map es clock) w := by simp [getObj, Sem.run, hb]
  have hset : ∀ o, (setObj b o).run P w = .ok () { w with heap := w.heap.setIfInBounds b o } := by intro o; simp [setObj, Sem.run, hb]
  have hmv : ∀ o, Moves (· = b) w { w with heap := w.heap.setIfInBounds b o } := fun o => ⟨rfl, rfl, rfl, by simp, fun i hi hn => by simp [Ne.symm hn]⟩
  rcases hc with ⟨rfl, hno⟩ | ⟨i, e, rfl, hi, hk⟩
  · refine ⟨{ w with heap := w.heap.setIfInBounds b (.map (es.push { key := ek k, val := ev v, born := clock }) (clock + 1)) }, by simp [Instr.mapUpdate, Sem.run_bind, run_underlying hT, hg, Result.andThen, G.check, hr, hset], ⟨_, _, by simp [hlt]; exact ⟨rfl, rfl⟩, ?_, ?_, ?_, ?_⟩, hmv _, by simp⟩
    · intro i j ei ej hi hj hij
      simp only [Array.toList_push] at hi hj
      rw [List.getElem?_append] at hi hj
      split at hi <;> split at hj
      · exact h1 i j ei ej hi hj hij
      · rename_i ha hb'
        have : j = es.toList.length := by
          have := (List.getElem?_eq_some_iff.1 hj).1; simp at this; simp; simp at hb'; omega
        subst this
        simp at hj; subst hj
        have hm := List.mem_of_getElem? hi
        rcases hij with e | e
        · exact absurd e (hno ei hm)
        · have := h2 ei hm; simp at e; omega
      · rename_i ha hb'
        have : i = es.toList.length := by
          have := (List.getElem?_eq_some_iff.1 hi).1; simp at this; simp; simp at ha; omega
        subst this
        simp at hi; subst hi
        have hm := List.mem_of_getElem? hj
        rcases hij with e | e
        · exact absurd e.symm (hno ej hm)
        · have := h2 ej hm; simp at e; omega
      · rename_i ha hb'
        have a1 := (List.getElem?_eq_some_iff.1 hi).1
        have a2 := (List.getElem?_eq_some_iff.1 hj).1
        simp at a1 a2 ha hb'; omega
    · intro e he
      simp at he
      rcases he with he | rfl
      · have := h2 e (by simpa using he); omega
      · simp
    · intro e he
      simp at he
      rcases he with he | rfl
      · obtain ⟨k', v', hk', hv', hm'⟩ := h3 e (by simpa using he)
        refine ⟨k', v', hk', hv', ?_⟩
        have : k' ≠ k := fun e' => hno e (by simpa using he) (by rw [hk', e'])
        simp [upd, this, hm']
      · exact ⟨k, v, rfl, rfl, by simp [upd]⟩
    · intro k' v' hm'
      by_cases e : k' = k
      · subst e; simp [upd] at hm'; subst hm'
        exact ⟨{ key := ek k', val := ev v, born := clock }, by simp, rfl, rfl⟩
      · simp [upd, e] at hm'
        obtain ⟨x, hx, h⟩ := h4 k' v' hm'
        exact ⟨x, by simp at hx; simp [hx], h⟩
  · have hil : i < es.size := by have := (List.getElem?_eq_some_iff.1 hi).1; simpa using this
    have hes : es[i]? = some e := by simpa using hi
    have hks : (Instr.keyThatStays (((es[i]?).map (·.key)).getD (ek k)) (ek k)).run P w = .ok (ek k) w := by
      simp [hes, hk, Instr.keyThatStays, G.bits]
    have hget : ∀ j x, (es.modify i fun e => { e with key := ek k, val := ev v }).toList[j]? = some x → ∃ y, es.toList[j]? = some y ∧ x.born = y.born ∧ x.key = y.key ∧ (j ≠ i → x = y) ∧ (j = i → x.val = ev v) := by
      intro j x hx
      simp only [Array.toList_modify, List.getElem?_modify] at hx
      cases hy : es.toList[j]? with
      | none => simp [hy] at hx
      | some y =>
        simp [hy] at hx
        by_cases e' : i = j
        · subst e'
          have : y = e := by rw [hi] at hy; cases hy; rfl
          subst this
          simp at hx; subst hx
          exact ⟨y, rfl, rfl, hk.symm, by simp, by simp⟩
        · simp [e'] at hx; subst hx
          exact ⟨y, rfl, rfl, rfl, fun _ => rfl, fun e2 => absurd e2.symm e'⟩
    refine ⟨{ w with heap := w.heap.setIfInBounds b (.map (es.modify i fun e => { e with key := ek k, val := ev v }) clock) }, ?_, ⟨_, _, by simp [hlt]; exact ⟨rfl, rfl⟩, ?_, ?_, ?_, ?_⟩, hmv _, by simp⟩
    · simp only [Instr.mapUpdate, Sem.run_bind, run_underlying hT, hg, Result.andThen, G.check, hr]
      simp only [hks, hset]
    · intro a c ea ec hea hec hac
      obtain ⟨ya, q1, q2, q3, _⟩ := hget a ea hea
      obtain ⟨yc, r1, r2, r3, _⟩ := hget c ec hec
      exact h1 a c ya yc q1 r1 (by rcases hac with e | e; exact .inl (by rw [← q3, ← r3, e]); exact .inr (by rw [← q2, ← r2, e]))
    · intro x hx
      obtain ⟨j, hj⟩ := List.getElem?_of_mem hx
      obtain ⟨y, q1, q2, _⟩ := hget j x hj
      rw [q2]; exact h2 y (List.mem_of_getElem? q1)
    · intro x hx
      obtain ⟨j, hj⟩ := List.getElem?_of_mem hx
      obtain ⟨y, q1, q2, q3, q4, q5⟩ := hget j x hj
      obtain ⟨k', v', hk', hv', hm'⟩ := h3 y (List.mem_of_getElem? q1)
      by_cases e' : j = i
      · subst e'
        have : y = e := by rw [hi] at q1; cases q1; rfl
        subst this
        exact ⟨k, v, by rw [q3, hk], q5 rfl, by simp [upd]⟩
      · have := q4 e'; subst this
        refine ⟨k', v', hk', hv', ?_⟩
        have : k' ≠ k := fun e2 => e' (h1 j i x e q1 hi (.inl (by rw [hk', e2, hk])))
        simp [upd, this, hm']
    · intro k' v' hm'
      have hat : ∀ j y, es.toList[j]? = some y → (es.modify i fun e => { e with key := ek k, val := ev v }).toList[j]? = some (if i = j then { y with key := ek k, val := ev v } else y) := by
        intro j y hy
        simp only [Array.toList_modify, List.getElem?_modify, hy]
        simp
      by_cases e' : k' = k
      · subst e'; simp [upd] at hm'; subst hm'
        exact ⟨_, List.mem_of_getElem? (hat i e hi), by simp, by simp⟩
      · simp [upd, e'] at hm'
        obtain ⟨x, hx, hxk, hxv⟩ := h4 k' v' hm'
        obtain ⟨j, hj⟩ := List.getElem?_of_mem hx
        have hne : i ≠ j := by
          intro e2; subst e2
          rw [hi] at hj; cases hj
          exact e' (G.inj _ _ (hxk.symm.trans hk))
        have := hat j x hj
        rw [if_neg hne] at this
        exact ⟨x, List.mem_of_getElem? this, hxk, hxv⟩

/-- Block r walks over the map in block b: ls are the keys that are still to come. -/
def WalkIs (w : World) (b r : Nat) (ek : κ → Value) (ev : ν → Value) (m : κ → Option ν) (ls : List κ) : Prop :=
  ∃ (es : Array MapEntry) (clock since c0 : Nat) (seen : Array Nat), w.heap[b]? = some (.map es clock) ∧ w.heap[r]? = some (.mapIter (some b) since seen c0) ∧ since ≤ c0 ∧ since ≤ clock ∧ (∀ x ∈ es.toList, x.born < since) ∧
    (∀ (i j : Nat) (ei ej : MapEntry), es.toList[i]? = some ei → es.toList[j]? = some ej → (ei.key = ej.key ∨ ei.born = ej.born) → i = j) ∧ (∀ e ∈ es.toList, ∃ k v, e.key = ek k ∧ e.val = ev v ∧ m k = some v) ∧
    (leftOf es seen).toList.map (·.key) = ls.map ek

theorem WalkIs.at_ {w w' : World} {b r : Nat} {ls : List κ} (h : WalkIs w b r ek ev m ls) (e1 : w'.heap[b]? = w.heap[b]?) (e2 : w'.heap[r]? = w.heap[r]?) : WalkIs w' b r ek ev m ls := by
  obtain ⟨es, clock, since, c0, seen, hb, hr, hx⟩ := h
  exact ⟨es, clock, since, c0, seen, e1.trans hb, e2.trans hr, hx⟩
theorem WalkIs.lt {w : World} {b r : Nat} {ls : List κ} (h : WalkIs w b r ek ev m ls) : b < w.heap.size ∧ r < w.heap.size := by
  obtain ⟨es, clock, since, c0, seen, hb, hr, hx⟩ := h
  exact ⟨(Array.getElem?_eq_some_iff.1 hb).1, (Array.getElem?_eq_some_iff.1 hr).1⟩
theorem WalkIs.moves {Bs : Nat → Prop} {w w' : World} {b r : Nat} {ls : List κ} (h : WalkIs w b r ek ev m ls) (hm : Moves Bs w w') (hb : ¬ Bs b) (hr : ¬ Bs r) : WalkIs w' b r ek ev m ls :=
  h.at_ (hm.block b h.lt.1 hb) (hm.block r h.lt.2 hr)

theorem nodup_map_of {α β : Type} (f : α → β) (l : List α) (h : ∀ (i j : Nat) (x y : α), l[i]? = some x → l[j]? = some y → f x = f y → i = j) : (l.map f).Nodup := by
  rw [List.Nodup, List.pairwise_map, List.pairwise_iff_getElem]
  intro i j hi hj hij e
  have := h i j l[i] l[j] (by simp) (by simp) e
  omega
theorem nodup_born {es : Array MapEntry} (h1 : ∀ (i j : Nat) (ei ej : MapEntry), es.toList[i]? = some ei → es.toList[j]? = some ej → (ei.key = ej.key ∨ ei.born = ej.born) → i = j) : (es.toList.map (·.born)).Nodup :=
  nodup_map_of _ _ fun i j x y hx hy e => h1 i j x y hx hy (.inr e)
theorem walk_left [DecidableEq κ] {ek : κ → Value} (inj : ∀ a b, ek a = ek b → a = b) (bn : Nat) (k : κ) : ∀ (L : List MapEntry) (ls : List κ), L.map (·.key) = ls.map ek → (∀ x ∈ L, x.born = bn ↔ x.key = ek k) →
    (L.filter (fun x => !(x.born == bn))).map (·.key) = (ls.filter (fun x => decide (x ≠ k))).map ek
  | [], [], _, _ => rfl
  | [], _ :: _, h, _ => by simp at h
  | _ :: _, [], h, _ => by simp at h
  | x :: L, y :: ls, h, hb => by
    simp only [List.map_cons, List.cons.injEq] at h
    have ih := walk_left inj bn k L ls h.2 (fun z hz => hb z (by simp [hz]))
    have hx := hb x (by simp)
    by_cases e : y = k
    · have : x.born = bn := hx.2 (by rw [h.1, e])
      rw [List.filter_cons_of_neg (by simp [this]), List.filter_cons_of_neg (by simp [e])]
      exact ih
    · have : ¬ x.born = bn := fun e' => e (inj _ _ (h.1.symm.trans (hx.1 e')))
      rw [List.filter_cons_of_pos (by simp [this]), List.filter_cons_of_pos (by simp [e]), List.map_cons, List.map_cons, ih, h.1]

theorem MapIs.walk [DecidableEq κ] (h : MapIs w b ek ev m) (inj : ∀ a b, ek a = ek b → a = b) (hT : P.underlying T = some (.map K E)) :
    (Instr.range T (.map (some b))).run P w = .ok (.pointer (some ⟨w.heap.size, 0, none⟩)) (w.alloc (match w.heap[b]? with | some (.map _ clock) => .mapIter (some b) clock #[] clock | _ => .mapIter none 0 #[] 0)) ∧
    ∃ ls : List κ, WalkIs (w.alloc (match w.heap[b]? with | some (.map _ clock) => .mapIter (some b) clock #[] clock | _ => .mapIter none 0 #[] 0)) b w.heap.size ek ev m ls ∧ ls.Nodup ∧ ∀ k, k ∈ ls ↔ (m k).isSome = true := by
  have hlt := h.lt
  obtain ⟨es, clock, hb, h1, h2, h3, h4⟩ := h
  simp only [hb]
  refine ⟨?_, ?_⟩
  · have hg : (getObj b).run P w = .ok (.map es clock) w := by simp [getObj, Sem.run, hb]
    simp [Instr.range, Sem.run_bind, run_underlying hT, hg, Result.andThen]
  · have hkeys : ∀ l : List MapEntry, (∀ e ∈ l, ∃ k v, e.key = ek k ∧ e.val = ev v ∧ m k = some v) → ∃ ls : List κ, l.map (·.key) = ls.map ek := by
      intro l
      induction l with
      | nil => exact fun _ => ⟨[], rfl⟩
      | cons e l ih =>
        intro hl
        obtain ⟨ls, hls⟩ := ih (fun x hx => hl x (by simp [hx]))
        obtain ⟨k, v, hk, _⟩ := hl e (by simp)
        exact ⟨k :: ls, by simp [hk, hls]⟩
    obtain ⟨ls, hls⟩ := hkeys es.toList h3
    have hleft : leftOf es #[] = es := by
      unfold leftOf; simp
    refine ⟨ls, ⟨es, clock, clock, clock, #[], ?_, heap_alloc_new w _, Nat.le_refl _, Nat.le_refl _, h2, h1, h3, by rw [hleft]; exact hls⟩, ?_, fun k => ⟨fun hk => ?_, fun hk => ?_⟩⟩
    · exact (Below.heap_alloc w _ b hlt).trans hb
    · have hn : (es.toList.map (·.key)).Nodup := nodup_map_of _ _ fun i j x y hx hy e => h1 i j x y hx hy (.inl e)
      rw [hls, List.Nodup, List.pairwise_map] at hn
      exact hn.imp fun h e => h (congrArg ek e)
    · have : ek k ∈ es.toList.map (·.key) := by rw [hls]; exact List.mem_map.2 ⟨k, hk, rfl⟩
      obtain ⟨e, he, hek⟩ := List.mem_map.1 this
      obtain ⟨k', v, hk', _, hm⟩ := h3 e he
      have : k' = k := inj _ _ (hk'.symm.trans hek)
      subst this; simp [hm]
    · obtain ⟨v, hv⟩ := Option.isSome_iff_exists.1 hk
      obtain ⟨e, he, hek, _⟩ := h4 k v hv
      have : ek k ∈ es.toList.map (·.key) := List.mem_map.2 ⟨e, he, hek⟩
      rw [hls] at this
      obtain ⟨k', hk', e'⟩ := List.mem_map.1 this
      have := inj _ _ e'
      subst this; exact hk'

theorem WalkIs.done {r : Nat} (h : WalkIs w b r ek ev m []) (ty : TypeId) : (Instr.next (.pointer (some ⟨r, 0, none⟩)) false ty).run P w = .ok (.tuple #[.bool false]) w := by
  obtain ⟨es, clock, since, c0, seen, hb, hr, hc, hc2, ho, h1, h3, hl⟩ := h
  rcases run_next_at (P := P) w ty r b since c0 seen es clock hr hb ho hc with ⟨_, h⟩ | ⟨e, he, _⟩
  · exact h
  · have : e.key ∈ (leftOf es seen).toList.map (·.key) := List.mem_map.2 ⟨e, he, rfl⟩
    rw [hl] at this; simp at this

theorem WalkIs.step [DecidableEq κ] {r : Nat} {ls : List κ} (h : WalkIs w b r ek ev m ls) (hne : ls ≠ []) (inj : ∀ a b, ek a = ek b → a = b) (ty : TypeId) :
    ∃ k v w', k ∈ ls ∧ m k = some v ∧ (Instr.next (.pointer (some ⟨r, 0, none⟩)) false ty).run P w = .ok (.tuple #[.bool true, ek k, ev v]) w' ∧ WalkIs w' b r ek ev m (ls.filter (fun x => decide (x ≠ k))) ∧ Moves (· = r) w w' ∧ w'.heap.size = w.heap.size ∧
      ∀ W : World, W.heap[b]? = w'.heap[b]? → W.heap[r]? = w'.heap[r]? → (Instr.entry (.pointer (some ⟨r, 0, none⟩))).run P W = .ok (.tuple #[ek k, ev v]) W := by
  have hlt := h.lt
  obtain ⟨es, clock, since, c0, seen, hb, hr, hc, hc2, ho, h1, h3, hl⟩ := h
  have hbr : b ≠ r := by rintro rfl; rw [hb] at hr; cases hr
  rcases run_next_at (P := P) w ty r b since c0 seen es clock hr hb ho hc with ⟨h0, _⟩ | ⟨e, he, w1, hw1, hrun⟩
  · exfalso
    have : (leftOf es seen).toList = [] := by
      rw [← List.length_eq_zero_iff]; simpa using h0
    rw [this] at hl
    cases ls with
    | nil => exact hne rfl
    | cons => simp at hl
  · have hes : e ∈ es.toList := by simp [leftOf] at he; simpa using he.1
    obtain ⟨k, v, hk, hv, hm⟩ := h3 e hes
    have hkl : k ∈ ls := by
      have : e.key ∈ (leftOf es seen).toList.map (·.key) := List.mem_map.2 ⟨e, he, rfl⟩
      rw [hl, hk] at this
      obtain ⟨k', hk', e'⟩ := List.mem_map.1 this
      have := inj _ _ e'; subst this; exact hk'
    have hw1b : w1.heap = w.heap ∧ w1.os = w.os ∧ w1.tape = w.tape ∧ w1.output = w.output := by rcases hw1 with rfl | rfl <;> exact ⟨rfl, rfl, rfl, rfl⟩
    have hB : (Go.ChangeMaps.setBlock w1 r (.mapIter (some b) since (seen.push e.born) clock)).heap[b]? = some (.map es clock) := by
      simp only [Go.ChangeMaps.setBlock, Array.getElem?_setIfInBounds, hw1b.1, hb]; rw [if_neg (Ne.symm hbr)]
    have hR : (Go.ChangeMaps.setBlock w1 r (.mapIter (some b) since (seen.push e.born) clock)).heap[r]? = some (.mapIter (some b) since (seen.push e.born) clock) := by
      simp [Go.ChangeMaps.setBlock, hw1b.1, hlt.2]
    refine ⟨k, v, _, hkl, hm, by rw [hrun, hk, hv], ⟨es, clock, since, clock, seen.push e.born, hB, hR, hc2, hc2, ho, h1, h3, ?_⟩, ?_, ?_, ?_⟩
    · have hpush : (leftOf es (seen.push e.born)).toList = (leftOf es seen).toList.filter (fun x => !(x.born == e.born)) := by
        simp only [leftOf, Array.toList_filter, List.filter_filter]
        congr 1
        funext x
        rw [Bool.eq_iff_iff]
        simp
        constructor
        · rintro ⟨h1, h2⟩; exact ⟨h2, h1⟩
        · rintro ⟨h1, h2⟩; exact ⟨h2, h1⟩
      rw [hpush]
      refine walk_left inj e.born k _ ls hl fun x hx => ?_
      have hxs : x ∈ es.toList := by simp [leftOf] at hx; simpa using hx.1
      obtain ⟨i, hi⟩ := List.getElem?_of_mem hxs
      obtain ⟨j, hj⟩ := List.getElem?_of_mem hes
      constructor
      · intro e'
        have := h1 i j x e hi hj (.inr e'); subst this
        rw [hi] at hj; cases hj; exact hk
      · intro e'
        have := h1 i j x e hi hj (.inl (e'.trans hk.symm)); subst this
        rw [hi] at hj; cases hj; rfl
    · refine ⟨by simp [Go.ChangeMaps.setBlock, hw1b], by simp [Go.ChangeMaps.setBlock, hw1b], by simp [Go.ChangeMaps.setBlock, hw1b], by simp [Go.ChangeMaps.setBlock, hw1b], fun i hi hn => ?_⟩
      simp only [Go.ChangeMaps.setBlock, Array.getElem?_setIfInBounds, hw1b.1]; rw [if_neg (fun e => hn e.symm)]
    · simp [Go.ChangeMaps.setBlock, hw1b]
    · intro W e1 e2
      rw [← hk, ← hv]
      exact run_entry_at W r b since seen es clock e (e2.trans hR) (e1.trans hB) hes (nodup_born h1)
theorem wpList_lookupM {ops : Array Oper} {rest : List Oper} {o : Oper} {a : Act} {Q : Exit → Act → World → Prop} (hg : o.guard = none) (x y : Operand) (t : TypeId) (ok : Bool) (hop : o.op = Op.lookup t x y ok) (K E : TypeId) (hT : P.underlying t = some (.map K E)) (G : GoodKey P K ek) {z : Value} (hz : (zeroValue E).run P w = .ok z w) (b : Nat) (hx : a.eval x = .map (some b)) (h : MapIs w b ek ev m) (k : κ) (hy : a.eval y = ek k)
    (hK : wpList P ops Q rest (a.put o.dst (if ok then .tuple #[(m k).elim z ev, .bool (m k).isSome] else (m k).elim z ev)) w) : wpList P ops Q (o :: rest) a w := by
  refine wpList_plain hg fun K' hK' => ?_
  have hrun := h.lookup G hT hz k ok
  unfold Oper.wp
  simp only [execOp, hop, hx, hy, Sem.run_bind, hrun, Result.andThen_ok, Sem.run_pure]
  exact hK' _ _ hK

theorem wpListIn_lookupM {F : Fence} {nF : Nat} {ops : Array Oper} {rest : List Oper} {o : Oper} {a : Act} {Q : Exit → Act → World → Prop} (hg : o.guard = none) (x y : Operand) (t : TypeId) (ok : Bool) (hop : o.op = Op.lookup t x y ok) (K E : TypeId) (hT : P.underlying t = some (.map K E)) (G : GoodKey P K ek) {z : Value} (hz : (zeroValue E).run P w = .ok z w) (b : Nat) (hx : a.eval x = .map (some b)) (h : MapIs w b ek ev m) (k : κ) (hy : a.eval y = ek k)
    (hK : wpListIn F nF P ops Q rest (a.put o.dst (if ok then .tuple #[(m k).elim z ev, .bool (m k).isSome] else (m k).elim z ev)) w) : wpListIn F nF P ops Q (o :: rest) a w := by
  refine wpListIn_plain hg fun K' hK' => ?_
  have hrun := h.lookup G hT hz k ok
  unfold Oper.wpIn
  refine ⟨by simp [Oper.about, hop], ?_⟩
  rw [Oper.semAt_plain F _ _ (by rw [hop]; intro c hc'; cases hc')]
  simp only [execOp, hop, hx, hy, Sem.run_bind, hrun, Result.andThen_ok, Sem.run_pure]
  exact hK' _ _ hK

theorem wpList_updateM {ops : Array Oper} {rest : List Oper} {o : Oper} {a : Act} {Q : Exit → Act → World → Prop} (hg : o.guard = none) [DecidableEq κ] (x y z : Operand) (t : TypeId) (hop : o.op = Op.mapUpdate t x y z) (K E : TypeId) (hT : P.underlying t = some (.map K E)) (G : GoodKey P K ek) (b : Nat) (hx : a.eval x = .map (some b)) (h : MapIs w b ek ev m) (k : κ) (hy : a.eval y = ek k) (v : ν) (hz : a.eval z = ev v)
    (hK : ∀ w', MapIs w' b ek ev (upd m k v) → Moves (· = b) w w' → w'.heap.size = w.heap.size → wpList P ops Q rest (a.put o.dst undef) w') : wpList P ops Q (o :: rest) a w := by
  refine wpList_plain hg fun K' hK' => ?_
  obtain ⟨w', hrun, r1, r2, r3⟩ := h.update G hT k v
  unfold Oper.wp
  simp only [execOp, hop, hx, hy, hz, Sem.run_bind, hrun, Result.andThen_ok, Sem.run_pure]
  exact hK' _ _ (hK w' r1 r2 r3)

theorem wpListIn_updateM {F : Fence} {nF : Nat} {ops : Array Oper} {rest : List Oper} {o : Oper} {a : Act} {Q : Exit → Act → World → Prop} (hg : o.guard = none) [DecidableEq κ] (x y z : Operand) (t : TypeId) (hop : o.op = Op.mapUpdate t x y z) (K E : TypeId) (hT : P.underlying t = some (.map K E)) (G : GoodKey P K ek) (b : Nat) (hx : a.eval x = .map (some b)) (h : MapIs w b ek ev m) (k : κ) (hy : a.eval y = ek k) (v : ν) (hz : a.eval z = ev v)
    (hK : ∀ w', MapIs w' b ek ev (upd m k v) → Moves (· = b) w w' → w'.heap.size = w.heap.size → wpListIn F nF P ops Q rest (a.put o.dst undef) w') : wpListIn F nF P ops Q (o :: rest) a w := by
  refine wpListIn_plain hg fun K' hK' => ?_
  obtain ⟨w', hrun, r1, r2, r3⟩ := h.update G hT k v
  unfold Oper.wpIn
  refine ⟨by simp [Oper.about, hop], ?_⟩
  rw [Oper.semAt_plain F _ _ (by rw [hop]; intro c hc'; cases hc')]
  simp only [execOp, hop, hx, hy, hz, Sem.run_bind, hrun, Result.andThen_ok, Sem.run_pure]
  exact hK' _ _ (hK w' r1 r2 r3)

theorem wpList_insertM {ops : Array Oper} {rest : List Oper} {o : Oper} {a : Act} {Q : Exit → Act → World → Prop} (hg : o.guard = none) [DecidableEq κ] (x y z : Operand) (t : TypeId) (hop : o.op = Op.insert t x y z) (K E : TypeId) (hT : P.underlying t = some (.map K E)) (G : GoodKey P K ek) (b : Nat) (hx : a.eval x = .map (some b)) (h : MapIs w b ek ev m) (k : κ) (hy : a.eval y = ek k) (v : ν) (hz : a.eval z = ev v)
    (hK : ∀ w', MapIs w' b ek ev (upd m k v) → Moves (· = b) w w' → w'.heap.size = w.heap.size → wpList P ops Q rest (a.put o.dst undef) w') : wpList P ops Q (o :: rest) a w := by
  refine wpList_plain hg fun K' hK' => ?_
  obtain ⟨w', hrun, r1, r2, r3⟩ := h.update G hT k v
  unfold Oper.wp
  simp only [execOp, hop, hx, hy, hz, Sem.run_bind, hrun, Result.andThen_ok, Sem.run_pure]
  exact hK' _ _ (hK w' r1 r2 r3)

theorem wpListIn_insertM {F : Fence} {nF : Nat} {ops : Array Oper} {rest : List Oper} {o : Oper} {a : Act} {Q : Exit → Act → World → Prop} (hg : o.guard = none) [DecidableEq κ] (x y z : Operand) (t : TypeId) (hop : o.op = Op.insert t x y z) (K E : TypeId) (hT : P.underlying t = some (.map K E)) (G : GoodKey P K ek) (b : Nat) (hx : a.eval x = .map (some b)) (h : MapIs w b ek ev m) (k : κ) (hy : a.eval y = ek k) (v : ν) (hz : a.eval z = ev v)
    (hK : ∀ w', MapIs w' b ek ev (upd m k v) → Moves (· = b) w w' → w'.heap.size = w.heap.size → wpListIn F nF P ops Q rest (a.put o.dst undef) w') : wpListIn F nF P ops Q (o :: rest) a w := by
  refine wpListIn_plain hg fun K' hK' => ?_
  obtain ⟨w', hrun, r1, r2, r3⟩ := h.update G hT k v
  unfold Oper.wpIn
  refine ⟨by simp [Oper.about, hop], ?_⟩
  rw [Oper.semAt_plain F _ _ (by rw [hop]; intro c hc'; cases hc')]
  simp only [execOp, hop, hx, hy, hz, Sem.run_bind, hrun, Result.andThen_ok, Sem.run_pure]
  exact hK' _ _ (hK w' r1 r2 r3)

theorem wpList_rangeM {ops : Array Oper} {rest : List Oper} {o : Oper} {a : Act} {Q : Exit → Act → World → Prop} (hg : o.guard = none) [DecidableEq κ] (x : Operand) (t : TypeId) (hop : o.op = Op.range t x) (K E : TypeId) (hT : P.underlying t = some (.map K E)) (inj : ∀ a b, ek a = ek b → a = b) (b : Nat) (hx : a.eval x = .map (some b)) (h : MapIs w b ek ev m)
    (hK : ∀ (ls : List κ) (w' : World), WalkIs w' b w.heap.size ek ev m ls → ls.Nodup → (∀ k, k ∈ ls ↔ (m k).isSome = true) → Below w.heap.size w w' → w'.heap.size = w.heap.size + 1 → wpList P ops Q rest (a.put o.dst (.pointer (some ⟨w.heap.size, 0, none⟩))) w') : wpList P ops Q (o :: rest) a w := by
  refine wpList_plain hg fun K' hK' => ?_
  obtain ⟨hrun, ls, h1, h2, h3⟩ := h.walk (P := P) inj hT
  unfold Oper.wp
  simp only [execOp, hop, hx, Sem.run_bind, hrun, Result.andThen_ok, Sem.run_pure]
  exact hK' _ _ (hK ls _ h1 h2 h3 ((Below.refl _ _).alloc (Nat.le_refl _) _) (by simp))

theorem wpListIn_rangeM {F : Fence} {nF : Nat} {ops : Array Oper} {rest : List Oper} {o : Oper} {a : Act} {Q : Exit → Act → World → Prop} (hg : o.guard = none) [DecidableEq κ] (x : Operand) (t : TypeId) (hop : o.op = Op.range t x) (K E : TypeId) (hT : P.underlying t = some (.map K E)) (inj : ∀ a b, ek a = ek b → a = b) (b : Nat) (hx : a.eval x = .map (some b)) (h : MapIs w b ek ev m)
    (hK : ∀ (ls : List κ) (w' : World), WalkIs w' b w.heap.size ek ev m ls → ls.Nodup → (∀ k, k ∈ ls ↔ (m k).isSome = true) → Below w.heap.size w w' → w'.heap.size = w.heap.size + 1 → wpListIn F nF P ops Q rest (a.put o.dst (.pointer (some ⟨w.heap.size, 0, none⟩))) w') : wpListIn F nF P ops Q (o :: rest) a w := by
  refine wpListIn_plain hg fun K' hK' => ?_
  obtain ⟨hrun, ls, h1, h2, h3⟩ := h.walk (P := P) inj hT
  unfold Oper.wpIn
  refine ⟨by simp [Oper.about, hop], ?_⟩
  rw [Oper.semAt_plain F _ _ (by rw [hop]; intro c hc'; cases hc')]
  simp only [execOp, hop, hx, Sem.run_bind, hrun, Result.andThen_ok, Sem.run_pure]
  exact hK' _ _ (hK ls _ h1 h2 h3 ((Below.refl _ _).alloc (Nat.le_refl _) _) (by simp))

theorem wpList_nextM {ops : Array Oper} {rest : List Oper} {o : Oper} {a : Act} {Q : Exit → Act → World → Prop} (hg : o.guard = none) [DecidableEq κ] (x : Operand) (hop : o.op = Op.next x false) (inj : ∀ a b, ek a = ek b → a = b) (b r : Nat) (hx : a.eval x = .pointer (some ⟨r, 0, none⟩)) (ls : List κ) (h : WalkIs w b r ek ev m ls) (hne : ls ≠ [])
    (hK : ∀ (k : κ) (v : ν) (w' : World), k ∈ ls → m k = some v → WalkIs w' b r ek ev m (ls.filter (fun x => decide (x ≠ k))) → Moves (· = r) w w' → w'.heap.size = w.heap.size → (Instr.entry (.pointer (some ⟨r, 0, none⟩))).run P w' = .ok (.tuple #[ek k, ev v]) w' → wpList P ops Q rest (a.put o.dst (.tuple #[.bool true, ek k, ev v])) w') : wpList P ops Q (o :: rest) a w := by
  refine wpList_plain hg fun K' hK' => ?_
  obtain ⟨k, v, w', h1, h2, hrun, h3, h4, h5, h6⟩ := h.step (P := P) hne inj o.type
  unfold Oper.wp
  simp only [execOp, hop, hx, Sem.run_bind, hrun, Result.andThen_ok, Sem.run_pure]
  exact hK' _ _ (hK k v w' h1 h2 h3 h4 h5 (h6 w' rfl rfl))

theorem wpListIn_nextM {F : Fence} {nF : Nat} {ops : Array Oper} {rest : List Oper} {o : Oper} {a : Act} {Q : Exit → Act → World → Prop} (hg : o.guard = none) [DecidableEq κ] (x : Operand) (hop : o.op = Op.next x false) (inj : ∀ a b, ek a = ek b → a = b) (b r : Nat) (hx : a.eval x = .pointer (some ⟨r, 0, none⟩)) (ls : List κ) (h : WalkIs w b r ek ev m ls) (hne : ls ≠ [])
    (hK : ∀ (k : κ) (v : ν) (w' : World), k ∈ ls → m k = some v → WalkIs w' b r ek ev m (ls.filter (fun x => decide (x ≠ k))) → Moves (· = r) w w' → w'.heap.size = w.heap.size → (Instr.entry (.pointer (some ⟨r, 0, none⟩))).run P w' = .ok (.tuple #[ek k, ev v]) w' → wpListIn F nF P ops Q rest (a.put o.dst (.tuple #[.bool true, ek k, ev v])) w') : wpListIn F nF P ops Q (o :: rest) a w := by
  refine wpListIn_plain hg fun K' hK' => ?_
  obtain ⟨k, v, w', h1, h2, hrun, h3, h4, h5, h6⟩ := h.step (P := P) hne inj o.type
  unfold Oper.wpIn
  refine ⟨by simp [Oper.about, hop], ?_⟩
  rw [Oper.semAt_plain F _ _ (by rw [hop]; intro c hc'; cases hc')]
  simp only [execOp, hop, hx, Sem.run_bind, hrun, Result.andThen_ok, Sem.run_pure]
  exact hK' _ _ (hK k v w' h1 h2 h3 h4 h5 (h6 w' rfl rfl))

end
end Go.Proofs.Ytcfhbnfincpehaa

/- Ranges over functions: the marks that such a loop leaves on its activation, and the law in the plain walk's form. Nothing is asked. -/
namespace Go.Proofs.Ytcfhbnfincpehaa
open Go.RowKit Go.Shelf

/-- The mark that a range over a function leaves. -/
def Mark (D : Nat) : Deferred := { target := .collected D, args := #[] }
/-- The blocks of the marks: from B on, each once, with no deferred call. -/
def MarksIn (B : Nat) (w : World) (Ds : List Nat) : Prop := Ds.Nodup ∧ ∀ D ∈ Ds, B ≤ D ∧ w.heap[D]? = some (.deferred (some []))
theorem MarksIn.nil (B : Nat) (w : World) : MarksIn B w [] := ⟨List.nodup_nil, by simp⟩
theorem MarksIn.later {B : Nat} {w w' : World} {Ds : List Nat} (h : MarksIn B w Ds) (hb : Below w.heap.size w w') : MarksIn B w' Ds :=
  ⟨h.1, fun D hD => ⟨(h.2 D hD).1, (hb.block D (Array.getElem?_eq_some_iff.1 (h.2 D hD).2).1).trans (h.2 D hD).2⟩⟩
theorem MarksIn.moves {Bs : Nat → Prop} {B : Nat} {w w' : World} {Ds : List Nat} (h : MarksIn B w Ds) (hm : Moves Bs w w') (hn : ∀ D ∈ Ds, ¬ Bs D) : MarksIn B w' Ds :=
  ⟨h.1, fun D hD => ⟨(h.2 D hD).1, (hm.block D (Array.getElem?_eq_some_iff.1 (h.2 D hD).2).1 (hn D hD)).trans (h.2 D hD).2⟩⟩
theorem MarksIn.push {B : Nat} {w W : World} {Ds : List Nat} {D : Nat} (h : MarksIn B w Ds) (h2 : MarksIn B W Ds) (hD : w.heap.size ≤ D) (hB : B ≤ D) (hk : W.heap[D]? = some (.deferred (some []))) : MarksIn B W (D :: Ds) := by
  refine ⟨List.nodup_cons.2 ⟨fun hm => ?_, h.1⟩, fun x hx => ?_⟩
  · have := (Array.getElem?_eq_some_iff.1 (h.2 D hm).2).1; omega
  · rcases List.mem_cons.1 hx with rfl | hx
    · exact ⟨hB, hk⟩
    · exact h2.2 x hx

/-- Behind the marks: their blocks are taken, all else is as it was. -/
structure Wiped (B : Nat) (w w' : World) : Prop where
  os : w'.os = w.os
  tape : w'.tape = w.tape
  output : w'.output = w.output
  size : w'.heap.size = w.heap.size
  same : ∀ k, k < B ∨ (∀ x, w.heap[k]? ≠ some (.deferred x)) → w'.heap[k]? = w.heap[k]?
theorem Wiped.refl (B : Nat) (w : World) : Wiped B w w := ⟨rfl, rfl, rfl, rfl, fun _ _ => rfl⟩
theorem Wiped.below {B B0 : Nat} {w0 w w' : World} (h : Wiped B w w') (hb : Below B0 w0 w) (hB : B0 ≤ B) : Below B0 w0 w' :=
  ⟨h.os.trans hb.os, h.tape.trans hb.tape, h.output.trans hb.output, by rw [h.size]; exact hb.size, fun k hk => (h.same k (.inl (by omega))).trans (hb.block k hk)⟩
theorem Wiped.moves {Bs : Nat → Prop} {B : Nat} {w0 w w' : World} (h : Wiped B w w') (hb : Moves Bs w0 w) (hB : w0.heap.size ≤ B) : Moves Bs w0 w' :=
  ⟨h.os.trans hb.os, h.tape.trans hb.tape, h.output.trans hb.output, by rw [h.size]; exact hb.size, fun k hk hn => (h.same k (.inl (by omega))).trans (hb.block k hk hn)⟩
theorem Wiped.box {B : Nat} {w w' : World} {b : Nat} {cs : List Value} (h : Wiped B w w') (hx : Box w b cs) : Box w' b cs := by
  obtain ⟨T, hx⟩ := hx
  exact ⟨T, (h.same b (.inr fun x e => by rw [hx] at e; cases e)).trans hx⟩
theorem Wiped.map {κ ν : Type} {B : Nat} {w w' : World} {b : Nat} {ek : κ → Value} {ev : ν → Value} {m : κ → Option ν} (h : Wiped B w w') (hx : MapIs w b ek ev m) : MapIs w' b ek ev m := by
  refine hx.at_ (h.same b (.inr fun x e => ?_))
  obtain ⟨es, clock, hb, _⟩ := hx
  rw [hb] at e; cases e
theorem Wiped.cell {B : Nat} {w w' : World} {a : Addr} {v : Value} (h : Wiped B w w') (hx : w.cell? a = some v) : w'.cell? a = some v := by
  have : w'.heap[a.block]? = w.heap[a.block]? := h.same a.block (.inr fun x e => by simp [World.cell?, e] at hx)
  rw [← hx]; exact World.cell?_of_block this

/-- What a body with marks must achieve. -/
def bodyPostC (P : Program) (fn : Func) (B : Nat) (R : Ending → World → Prop) : Exit → Act → World → Prop
  | .normal, a, w | .ret, a, w => ∃ Ds, a.defers = Ds.map Mark ∧ MarksIn B w Ds ∧ ∀ w', Wiped B w w' → ∃ v, (results fn a.tmps).run P w' = .ok v w' ∧ R (.returned v) w'
  | _, _, _ => False

theorem leaves_of_marks {P : Program} {n : Nat} {fn : Func} {tmps : Array Value} {R : Ending → World → Prop} {B : Nat} (w0 : World) : ∀ (Ds : List Nat) (w : World), MarksIn B w Ds → Wiped B w0 w →
    (∀ w', Wiped B w0 w' → ∃ v, (results fn tmps).run P w' = .ok v w' ∧ R (.returned v) w') → LeavesInM Fence.wide n P fn tmps R (Ds.map Mark) .returning w
  | [], w, _, hw, h => h w hw
  | D :: Ds, w, hm, hw, h => by
    have hD := hm.2 D (by simp)
    have hlt := (Array.getElem?_eq_some_iff.1 hD.2).1
    refine ⟨by simp, .inl ⟨D, _, rfl, run_takeDeferred hD.2, leaves_of_marks w0 Ds _ ⟨(List.nodup_cons.1 hm.1).2, fun x hx => ⟨(hm.2 x (by simp [hx])).1, ?_⟩⟩ ?_ h⟩⟩
    · have hne : x ≠ D := fun e => (List.nodup_cons.1 hm.1).1 (e ▸ hx)
      rw [World.putObj_heap_other hne]; exact (hm.2 x (by simp [hx])).2
    · refine ⟨hw.os, hw.tape, hw.output, by simp [World.putObj, hw.size], fun k hk => ?_⟩
      have hne : k ≠ D := by
        rintro rfl
        rcases hk with hk | hk
        · omega
        · have h1 := hw.same k (.inr hk)
          exact hk (some []) (h1.symm.trans hD.2)
      rw [World.putObj_heap_other hne]; exact hw.same k hk

/-- A function's contract out of its body's walk, where the body ranges over functions. -/
theorem calls_of_wpC {P : Program} {f : FuncId} {fn : Func} {c : Code} {args : Array Value} {w : World} {R : Ending → World → Prop} (hf : P.funcs[f]? = some fn) (hb : fn.body = some c) (B : Nat)
    (h : c.wp P (bodyPostC P fn B R) { tmps := args ++ Array.replicate (fn.ntmps - args.size) undef, defers := [] } w) : Calls P f args w R := by
  refine (callsIn_wide (n := 3)).1 (callsIn_of_wp_marks hf hb trivial (wpIn_mono (wpIn_wide.2 h) ?_) rfl)
  intro e a w hq
  cases e with
  | normal => obtain ⟨Ds, hd, hm, hr⟩ := hq; show LeavesInM _ _ _ _ _ _ a.defers _ _; rw [hd]; exact leaves_of_marks w Ds w hm (Wiped.refl _ _) hr
  | ret => obtain ⟨Ds, hd, hm, hr⟩ := hq; show LeavesInM _ _ _ _ _ _ a.defers _ _; rw [hd]; exact leaves_of_marks w Ds w hm (Wiped.refl _ _) hr
  | exit => exact hq.elim
  | goto => exact hq.elim
  | panic => exact hq.elim
  | outgrown => exact hq.elim

/-- How a round's body may be left: only blocks in Bs, and new ones, have turned. -/
def postM {α : Type} (Bs : Nat → Prop) (I : List α → World → Prop) (Ix : Code → List α → World → Prop) (xs : List α) (W : World) : Exit → Act → World → Prop
  | .normal, _, W' => Moves Bs W W' ∧ I xs W'
  | .ret, _, W' => Moves Bs W W' ∧ Ix .ret xs W'
  | .exit id, _, W' => Moves Bs W W' ∧ Ix (.exit id) xs W'
  | .goto t, _, W' => Moves Bs W W' ∧ Ix (.goto t) xs W'
  | .panic _, _, _ => False
  | .outgrown, _, _ => False

/-- The blocks in Ks lie as they lay. -/
def KeptKs (Ks : List Nat) (A B : World) : Prop := ∀ b ∈ Ks, B.heap[b]? = A.heap[b]?

theorem keepsFrom_of_moves {Bs : Nat → Prop} {B : Nat} {W W' : World} (h : Moves Bs W W') (hB : ∀ k, Bs k → k < B) : KeepsFrom B W W' :=
  ⟨h.size, fun k o hk ho _ => (h.block k (Array.getElem?_eq_some_iff.1 ho).1 (fun hb => by have := hB k hb; omega)).trans ho⟩

set_option maxHeartbeats 400000 in
/-- The law for 'for .. := range f', in the plain walk's form. -/
theorem wp_range {α : Type} {P : Program} {g : Operand} {ps : Array Tmp} {assign body : Code} {Q : Exit → Act → World → Prop} {a : Act} {w : World} {gf : Nat} {lb : Array Value}
    (hg : a.eval g = .func (.func gf) #[] lb) (eg : ∀ args w, (callFunc gf args).run P w = .ok (.enter gf args) w) {encs : α → Array Value} {S Sp : List α → Prop} {N : Nat} {w0 : World}
    (Ks : List Nat) (Bs : Nat → Prop) (hKs : ∀ b ∈ Ks, b < w.heap.size ∧ ¬ Bs b) (hBs : ∀ k, Bs k → k < w.heap.size)
    (hseq : SeqStopsK Fence.wide 2 P gf lb encs (KeptKs Ks) S Sp N w0) (hb0 : Below w0.heap.size w0 w) (hps : ∀ x, (encs x).size = ps.size)
    (I : List α → World → Prop) (Ix : Code → List α → World → Prop) (hI : OwnFrom w.heap.size I) (hIx : ∀ c, OwnFrom w.heap.size (Ix c)) (h0 : I [] w) (Ax : α → Act → World → Prop) (hAx : ∀ x a', OwnFrom w.heap.size (fun (_ : Unit) W => Ax x a' W))
    (hassign : ∀ (l : Nat) (pre : List α) (x : α) (W : World) (K : Act → World → Prop), Moves Bs w W → I pre W → (∀ a' W', Moves (fun _ => False) W W' → I pre W' → Ax x a' W' → K a' W') →
      assign.wpIn (Fence.wide.inRound l) 1 P (Exit.then K (fun _ _ _ => False)) { tmps := (ps.zip (encs x)).foldl (fun t (p, v) => t.setIfInBounds p v) a.tmps, defers := [] } W)
    (hbody : ∀ (l : Nat) (pre : List α) (x : α) (a' : Act) (W : World), Moves Bs w W → I pre W → Ax x a' W → pre.length < N → body.wpIn (Fence.wide.inRound l) 1 P (postM Bs I Ix (pre ++ [x]) W) a' W)
    (hdone : ∀ (D : Nat) (xs : List α) (W : World), w.heap.size ≤ D → Moves Bs w W → S xs → I xs W → W.heap[D]? = some (.deferred (some [])) → Q .normal { a with defers := Mark D :: a.defers } W)
    (hstop : ∀ (D : Nat) (c : Code) (pre : List α) (W : World), w.heap.size ≤ D → Moves Bs w W → Sp pre → Ix c pre W → W.heap[D]? = some (.deferred (some [])) → c.wp P Q { a with defers := Mark D :: a.defers } W) :
    (Code.rangeFunc g ps assign body).wp P Q a w := by
  have hM : ∀ (β : Type), OwnFrom w.heap.size (fun (_ : β) W => Moves Bs w W) := fun β s A B row hs hg' hr => hs.grown hg' (fun r e hlt => by have := (hr r e).1; omega)
  refine (wpIn_wide (n := 3)).1 (wpIn_rangeFunc_ownH (F := Fence.wide) (n := 3) rfl (by omega) hg trivial eg hseq (fun h1 h2 b hb => (h2 b hb).trans (h1 b hb))
    (fun W l o o' hl _ _ _ b hb => World.putObj_heap_other (by have := (hKs b hb).1; omega)) hb0 hps
    (fun pre W => Moves Bs w W ∧ I pre W) (fun c pre W => Moves Bs w W ∧ Ix c pre W)
    (fun s A B row hs hg' hr => ⟨hM Unit () A B row hs.1 hg' hr, hI s A B row hs.2 hg' hr⟩) (fun c s A B row hs hg' hr => ⟨hM Unit () A B row hs.1 hg' hr, hIx c s A B row hs.2 hg' hr⟩) ⟨Moves.refl w, h0⟩ Ax hAx ?_ ?_ ?_ ?_)
  · rintro l pre x W K ⟨hm, hi⟩ hK
    refine hassign l pre x W K hm hi (fun a' W' hmv hi' hax => hK a' W' (keepsFrom_of_moves hmv (fun k h => h.elim)) (fun b hb => hmv.block b (Nat.lt_of_lt_of_le (hKs b hb).1 hm.size) (fun h => h)) ⟨hm.trans hmv (fun _ _ h => h.elim), hi'⟩ hax)
  · rintro l pre x a' W hl _ ⟨hm, hi⟩ hax hlen
    refine wpIn_mono (hbody l pre x a' W hm hi hax hlen) ?_
    intro e a2 W2 hp
    cases e with
    | normal => exact ⟨keepsFrom_of_moves hp.1 hBs, fun b hb => hp.1.block b (Nat.lt_of_lt_of_le (hKs b hb).1 hm.size) (hKs b hb).2, hm.trans hp.1 (fun _ _ h => h), hp.2⟩
    | ret => exact ⟨keepsFrom_of_moves hp.1 hBs, hm.trans hp.1 (fun _ _ h => h), hp.2⟩
    | exit id => exact ⟨keepsFrom_of_moves hp.1 hBs, hm.trans hp.1 (fun _ _ h => h), hp.2⟩
    | goto t => exact ⟨keepsFrom_of_moves hp.1 hBs, hm.trans hp.1 (fun _ _ h => h), hp.2⟩
    | panic _ => exact hp.elim
    | outgrown => exact hp.elim
  · rintro D xs W hD hS ⟨hm, hi⟩ hk
    exact hdone D xs W hD hm hS hi hk
  · rintro D c pre W hD hS ⟨hm, hi⟩ hk
    exact wpIn_wide.2 (hstop D c pre W hD hm hS hi hk)

end Go.Proofs.Ytcfhbnfincpehaa

/- The walks of package path: the iterator of follow. -/
namespace Go.Proofs.Ytcfhbnfincpehaa
open Go.RowKit Go.Shelf
attribute [local go_sem] Oper.semAt_some

/-- The turns of a range, from the least on. -/
def turnsOf (r : Rg) : List Int := (List.range (r.hi - r.lo + 1).toNat).map fun i : Nat => r.lo + (i : Int)
theorem turnsOf_len (r : Rg) : (turnsOf r).length = (r.hi - r.lo + 1).toNat := by simp [turnsOf]
theorem turnsOf_get (r : Rg) (k : Nat) (h : k < (turnsOf r).length) : (turnsOf r)[k] = r.lo + k := by simp [turnsOf]
theorem mem_turnsOf {r : Rg} {t : Int} : t ∈ turnsOf r ↔ r.lo ≤ t ∧ t ≤ r.hi := by
  simp only [turnsOf, List.mem_map, List.mem_range]
  constructor
  · rintro ⟨i, hi, rfl⟩; omega
  · rintro ⟨h1, h2⟩; exact ⟨(t - r.lo).toNat, by omega, by omega⟩

/-- What the iterator hands out: a turn of the hooks, and the state behind it. -/
abbrev Turned (hk : Rg) (s : St) := { x : Int × St // hk.lo ≤ x.1 ∧ x.1 ≤ hk.hi ∧ x.2 = nextS s x.1 }
def encT {hk : Rg} {s : St} (x : Turned hk s) : Array Value := #[I x.1.1, .agg #[I x.1.2.b, I x.1.2.d]]
def turnAt {hk : Rg} {s : St} (t : Int) (h : hk.lo ≤ t ∧ t ≤ hk.hi) : Turned hk s := ⟨(t, nextS s t), h.1, h.2, rfl⟩

set_option maxRecDepth 100000 in
set_option maxHeartbeats 1000000 in
theorem follow_stops (hk : Rg) (s : St) (hb sb : Nat) (w : World) (b1 : -3 ≤ hk.lo) (b2 : hk.hi ≤ 3) (b3 : -5 ≤ s.d) (b4 : s.d ≤ 5) (b5 : -1000 ≤ s.b) (b6 : s.b ≤ 1000)
    (hx : Box w hb [I hk.lo, I hk.hi]) (hs : Box w sb [I s.b, I s.d]) :
    SeqStopsK Fence.wide 2 Try.prog 88 #[.pointer (some ⟨hb, 0, none⟩), .pointer (some ⟨sb, 0, none⟩)] (encT (hk := hk) (s := s)) (KeptKs [hb, sb])
      (fun xs => xs.map (fun x => x.1.1) = turnsOf hk) (fun pre => ∃ k, k ≤ (turnsOf hk).length ∧ pre.map (fun x => x.1.1) = (turnsOf hk).take k) (turnsOf hk).length w := by
  intro l J Jx W hW hJ hJx hY h0
  have hx' := hx.later hW
  have hs' := hs.later hW
  refine callsIn_of_wp Try.func88 rfl trivial ?_ rfl
  simp only [Try.ntmps88, List.size_toArray, List.length_cons, List.length_nil, Nat.reduceAdd, Nat.reduceSub, Array.replicate_succ, Array.replicate_zero, List.push_toArray, List.append_toArray, List.nil_append, List.cons_append]
  have y0 := hx'.cell 0 rfl
  gi_wp2_with fail
  gi_loopw [4] (fun i wr => ∃ k : Nat, ∃ pre : List (Turned hk s), i = I (hk.lo + k) ∧ k ≤ (turnsOf hk).length ∧ pre.map (fun x => x.1.1) = (turnsOf hk).take k ∧ J pre wr ∧ Box wr hb [I hk.lo, I hk.hi] ∧ Box wr sb [I s.b, I s.d])
    (fun i _ => (hk.hi + 1 - intOf i).toNat)
  case atStart => exact ⟨0, [], by simp, by omega, rfl, h0, hx', hs'⟩
  case round =>
    clear y0 hx' hs' h0
    obtain ⟨k, pre, rfl, hkl, hpre, hj, hx', hs'⟩ := hrel
    have y0 := hx'.cell 0 rfl
    have y1 := hx'.cell 1 rfl
    have z0 := hs'.cell 0 rfl
    have z1 := hs'.cell 1 rfl
    rw [turnsOf_len] at hkl
    by_cases hlt : hk.lo + k ≤ hk.hi
    · have hplen : pre.length = k := by
        have := congrArg List.length hpre
        rw [List.length_map, List.length_take, turnsOf_len] at this; omega
      have hN := fun (W1 : World) => next_any s (hk.lo + k) W1 b3 b4 (by omega) (by omega) b5 b6
      have HN := Lib.hid hN
      have HP := Lib.hid hpre
      clear hN hpre
      gi_wp2_with fail
      refine ⟨trivial, (callsIn_wide.2 (HN.out wr)).mono ?_⟩
      rintro e w1 ⟨rfl, hb1⟩
      have hj1 : J pre w1 := hJ pre wr w1 none hj ⟨hb1.os, hb1.tape, hb1.output, hb1.size, fun k hk _ => hb1.block k hk⟩ (fun r h => by cases h)
      have hx1 := hx'.later hb1
      have hs1 := hs'.later hb1
      obtain ⟨fn, tmps, assign, body, hy, hR⟩ := hY pre (turnAt (hk.lo + k) ⟨by omega, hlt⟩) w1 hj1 (by rw [turnsOf_len]; omega)
      simp only [encT, turnAt] at hy
      clear y0 y1 z0 z1
      gi_wp2_with fail
      refine hR.mono ?_
      have hpre2 : (pre ++ [turnAt (hk := hk) (s := s) (hk.lo + k) ⟨by omega, hlt⟩]).map (fun x => x.1.1) = (turnsOf hk).take (k + 1) := by
        rw [List.map_append, HP.out, List.take_succ_eq_append_getElem (by rw [turnsOf_len]; omega), turnsOf_get]; rfl
      rintro e W3 (⟨rfl, hJ3, hk3⟩ | ⟨rfl, hJx3⟩)
      · have e1 := hk3 hb (by simp)
        have e2 := hk3 sb (by simp)
        have hx3 : Box W3 hb [I hk.lo, I hk.hi] := by obtain ⟨T, h⟩ := hx1; exact ⟨T, e1.trans h⟩
        have hs3 : Box W3 sb [I s.b, I s.d] := by obtain ⟨T, h⟩ := hs1; exact ⟨T, e2.trans h⟩
        have HP2 := Lib.hid hpre2
        clear hpre2 hk3 e1 e2
        gi_wp2_with fail
        go_roundw
        case rel => exact ⟨k + 1, _, by go_num, by rw [turnsOf_len]; omega, HP2.out, hJ3, hx3, hs3⟩
        case measure => simp [intOf]; omega
      · have HP2 := Lib.hid hpre2
        clear hpre2
        gi_wp2_with fail
        refine bodyPost_ret (results_none rfl _ _ _) rfl ?_
        exact ⟨⟨_, rfl⟩, .inr ⟨_, ⟨k + 1, by rw [turnsOf_len]; omega, HP2.out⟩, hJx3⟩⟩
    · have HP := Lib.hid hpre
      clear hpre
      gi_wp2_with fail
      go_end0
      exact ⟨⟨_, rfl⟩, .inl ⟨pre, by rw [HP.out, List.take_of_length_le (by rw [turnsOf_len]; omega)], hj⟩⟩
end Go.Proofs.Ytcfhbnfincpehaa

/- States and spots as keys of maps; '==' on states. -/
namespace Go.Proofs.Ytcfhbnfincpehaa
open Go.RowKit Go.Shelf

def ekSt (s : St) : Value := .agg #[I s.b, I s.d]
def ekSp (x : Int × St) : Value := .agg #[I x.1, I x.2.b, I x.2.d]
theorem heldSt : Try.prog.stoodInHeld 39 = false := by kernel_rfl
theorem heldSp : Try.prog.stoodInHeld 126 = false := by kernel_rfl
theorem St.ext' {a b : St} : a = b ↔ a.b = b.b ∧ a.d = b.d := by cases a; cases b; simp
theorem eqSt_run (d : Nat) (a b c e : Int) (w : World) : (Op.equalIn (d + 2) 39 (.agg #[I a, I b]) (.agg #[I c, I e])).run Try.prog w = .ok (decide (a = c ∧ b = e)) w := by
  have ht : Try.prog.underlying 39 = some (.struct (Try.prog.fieldsOf 39)) := by simp [Program.fieldsOf]
  rw [run_equalIn_struct w (d + 1) 39 _ _ ht heldSt]
  clear ht
  simp [go_sem]
  by_cases h1 : a = c <;> by_cases h2 : b = e <;> simp [h1, h2]
theorem eqSp_run (d : Nat) (r a b r' c e : Int) (w : World) : (Op.equalIn (d + 3) 126 (.agg #[I r, I a, I b]) (.agg #[I r', I c, I e])).run Try.prog w = .ok (decide (r = r' ∧ a = c ∧ b = e)) w := by
  have ht : Try.prog.underlying 126 = some (.struct (Try.prog.fieldsOf 126)) := by simp [Program.fieldsOf]
  rw [run_equalIn_struct w (d + 2) 126 _ _ ht heldSp]
  clear ht
  have h := eqSt_run d a b c e w
  simp [go_sem]
  simp only [I] at h
  by_cases h1 : r = r'
  · simp [h1, h]
    by_cases h2 : a = c <;> by_cases h3 : b = e <;> simp [h2, h3]
  · simp [h1]
theorem chkSt_run (n : Nat) (e : Bool) (a : St) (w : World) : (Instr.checkKey e (n + 2) 39 (ekSt a)).run Try.prog w = .ok () w := by
  unfold ekSt
  simp [Instr.checkKey, go_sem]
theorem chkSp_run (n : Nat) (e : Bool) (a : Int × St) (w : World) : (Instr.checkKey e (n + 3) 126 (ekSp a)).run Try.prog w = .ok () w := by
  unfold ekSp
  simp [Instr.checkKey, go_sem]

theorem goodSt : GoodKey Try.prog 39 ekSt := by
  refine GoodKey.of_struct Try.underlying39 (fun b k w => chkSt_run 9998 b k w) (fun a b w => ?_) (fun k => ?_) (fun a b h => ?_)
  · show (Op.equalIn (9998 + 2) 39 (ekSt a) (ekSt b)).run Try.prog w = _
    rw [show ekSt a = .agg #[I a.b, I a.d] from rfl, show ekSt b = .agg #[I b.b, I b.d] from rfl, eqSt_run]
    congr 1; exact decide_eq_decide.2 St.ext'.symm
  · show Instr.sameBits (9999 + 1) _ _ = true
    simp [ekSt, Instr.sameBits]
  · simp [ekSt] at h; exact St.ext'.2 h
theorem goodSp : GoodKey Try.prog 126 ekSp := by
  refine GoodKey.of_struct Try.underlying126 (fun b k w => chkSp_run 9997 b k w) (fun a b w => ?_) (fun k => ?_) (fun a b h => ?_)
  · show (Op.equalIn (9997 + 3) 126 (ekSp a) (ekSp b)).run Try.prog w = _
    rw [show ekSp a = .agg #[I a.1, I a.2.b, I a.2.d] from rfl, show ekSp b = .agg #[I b.1, I b.2.b, I b.2.d] from rfl, eqSp_run]
    congr 1; refine decide_eq_decide.2 ?_
    obtain ⟨r, s⟩ := a
    obtain ⟨r', s'⟩ := b
    simp [St.ext']
  · show Instr.sameBits (9999 + 1) _ _ = true
    simp [ekSp, Instr.sameBits]
  · obtain ⟨r, s⟩ := a
    obtain ⟨r', s'⟩ := b
    simp [ekSp] at h; simp [St.ext', h]
end Go.Proofs.Ytcfhbnfincpehaa

/- Rows that the call makes and appends to. Nothing is asked. -/
namespace Go.Proofs.Ytcfhbnfincpehaa
open Go.RowKit Go.Shelf

theorem ex_arrow {α : Type} {p : α → Prop} {b : Prop} (h : ∀ x, p x → b) : (∃ x, p x) → b := fun ⟨x, hx⟩ => h x hx
/-- The walk stops here. -/
def Stopped (p : Prop) : Prop := p
theorem Stopped.mk {p : Prop} (h : Stopped p) : p := h
/-- A slice that the call owns, from its row's head on: n elements of z cells each. -/
def Row (w : World) (B : Nat) (T : TypeId) (z : Nat) (g n cap : Nat) (cs : List Value) : Prop := w.ownsRow B T z (.slice (some ⟨g, 0, none⟩) n cap) n cs
theorem Row.lt {w : World} {B : Nat} {T : TypeId} {z g n cap : Nat} {cs : List Value} (h : Row w B T z g n cap cs) : g < w.heap.size := (World.ownsRow.lt h g rfl).2
theorem Row.ge {w : World} {B : Nat} {T : TypeId} {z g n cap : Nat} {cs : List Value} (h : Row w B T z g n cap cs) : B ≤ g := (World.ownsRow.lt h g rfl).1
theorem Row.len {w : World} {B : Nat} {T : TypeId} {z g n cap : Nat} {cs : List Value} (h : Row w B T z g n cap cs) : cs.length = n * z := h.1
theorem Row.at_ {w w' : World} {B : Nat} {T : TypeId} {z g n cap : Nat} {cs : List Value} (h : Row w B T z g n cap cs) (e : w'.heap[g]? = w.heap[g]?) : Row w' B T z g n cap cs := by
  refine ⟨h.1, .inr ?_⟩
  rcases h.2 with ⟨h2, _⟩ | ⟨g', cap', cur, hv, h3, h4, h5⟩
  · cases h2
  · cases hv; exact ⟨g, cap, cur, rfl, h3, e.trans h4, h5⟩
theorem Row.cell {w : World} {B : Nat} {T : TypeId} {z g n cap : Nat} {cs : List Value} (h : Row w B T z g n cap cs) (j : Nat) {u : Value} (hu : cs[j]? = some u) : w.cell? ⟨g, j, none⟩ = some u := by
  have hj := (List.getElem?_eq_some_iff.1 hu).1
  rw [h.len] at hj
  exact (World.ownsRow.cellAt h j hj).trans hu
theorem Row.free {w : World} {B : Nat} {T : TypeId} {z g n cap : Nat} {cs : List Value} (h : Row w B T z g n cap cs) (j : Nat) : w.frozen? ⟨g, j, none⟩ = false := World.ownsRow.frozenAt h j
theorem Row.kind {w : World} {B : Nat} {T : TypeId} {z g n cap : Nat} {cs : List Value} (h : Row w B T z g n cap cs) : ∃ cur, w.heap[g]? = some (.cells cur T (0, 0)) := by
  rcases h.2 with ⟨h2, _⟩ | ⟨g', cap', cur, hv, h3, h4, h5⟩
  · cases h2
  · cases hv; exact ⟨cur, h4⟩
theorem Row.later {w w' : World} {B : Nat} {T : TypeId} {z g n cap : Nat} {cs : List Value} (h : Row w B T z g n cap cs) (hb : Below w.heap.size w w') : Row w' B T z g n cap cs := h.at_ (hb.block g h.lt)
theorem Row.moves {Bs : Nat → Prop} {w w' : World} {B : Nat} {T : TypeId} {z g n cap : Nat} {cs : List Value} (h : Row w B T z g n cap cs) (hb : Moves Bs w w') (hn : ¬ Bs g) : Row w' B T z g n cap cs := h.at_ (hb.block g h.lt hn)
theorem Row.alloc {w : World} {B : Nat} {T : TypeId} {z g n cap : Nat} {cs : List Value} (h : Row w B T z g n cap cs) (o : Obj) : Row (w.alloc o) B T z g n cap cs := h.later ((Below.refl _ _).alloc (Nat.le_refl _) _)
theorem Row.wiped {w w' : World} {B B0 : Nat} {T : TypeId} {z g n cap : Nat} {cs : List Value} (h : Row w B T z g n cap cs) (hw : Wiped B0 w w') : Row w' B T z g n cap cs := by
  obtain ⟨cur, hk⟩ := h.kind
  exact h.at_ (hw.same g (.inr fun x e => by rw [hk] at e; cases e))
theorem Row.low {w : World} {B B' : Nat} {T : TypeId} {z g n cap : Nat} {cs : List Value} (h : Row w B T z g n cap cs) (hB : B' ≤ g) : Row w B' T z g n cap cs := by
  refine ⟨h.1, .inr ?_⟩
  rcases h.2 with ⟨h2, _⟩ | ⟨g', cap', cur, hv, h3, h4, h5⟩
  · cases h2
  · cases hv; exact ⟨g, cap, cur, rfl, hB, h4, h5⟩
/-- A map's block is no row's. -/
theorem Row.no_map {w : World} {B : Nat} {T : TypeId} {z g n cap : Nat} {cs : List Value} (h : Row w B T z g n cap cs) {κ ν : Type} {b : Nat} {ek : κ → Value} {ev : ν → Value} {m : κ → Option ν} (hm : MapIs w b ek ev m) : b ≠ g := by
  rintro rfl
  obtain ⟨cur, hk⟩ := h.kind
  obtain ⟨es, clock, hb, _⟩ := hm
  rw [hk] at hb; cases hb

theorem MapIs.no_box {w : World} {b c : Nat} {cs : List Value} {κ ν : Type} {ek : κ → Value} {ev : ν → Value} {m : κ → Option ν} (hm : MapIs w b ek ev m) (hx : Box w c cs) : b ≠ c := by
  rintro rfl
  obtain ⟨T, hk⟩ := hx
  obtain ⟨es, clock, hb, _⟩ := hm
  rw [hk] at hb; cases hb
theorem MarksIn.no_row {w : World} {B B0 : Nat} {T : TypeId} {z g n cap : Nat} {cs : List Value} {Ds : List Nat} (hm : MarksIn B0 w Ds) (h : Row w B T z g n cap cs) : ∀ D ∈ Ds, D ≠ g := by
  rintro D hD rfl
  obtain ⟨cur, hk⟩ := h.kind
  have := (hm.2 D hD).2
  rw [hk] at this; cases this
theorem MarksIn.no_box {w : World} {B0 c : Nat} {cs : List Value} {Ds : List Nat} (hm : MarksIn B0 w Ds) (h : Box w c cs) : ∀ D ∈ Ds, D ≠ c := by
  rintro D hD rfl
  obtain ⟨T, hk⟩ := h
  have := (hm.2 D hD).2
  rw [hk] at this; cases this
theorem MarksIn.no_map {w : World} {B0 b : Nat} {Ds : List Nat} (hm : MarksIn B0 w Ds) {κ ν : Type} {ek : κ → Value} {ev : ν → Value} {m : κ → Option ν} (h : MapIs w b ek ev m) : ∀ D ∈ Ds, D ≠ b := by
  rintro D hD rfl
  obtain ⟨es, clock, hb, _⟩ := h
  have := (hm.2 D hD).2
  rw [hb] at this; cases this
theorem own_box {β : Type} {B b : Nat} {cs : List Value} : OwnFrom B (fun (_ : β) W => Box W b cs) := by
  rintro s W W' row ⟨T, h⟩ hg hr
  refine ⟨T, (hg.block b (Array.getElem?_eq_some_iff.1 h).1 ?_).trans h⟩
  intro e
  obtain ⟨_, o, ho, hc⟩ := hr b e.symm
  rw [h] at ho; cases ho; simp [Obj.isCells] at hc
theorem zip_two (p q : Tmp) (x y : Value) (t : Array Value) : (Array.zip (#[p, q] : Array Tmp) #[x, y]).foldl (fun t (p, v) => t.setIfInBounds p v) t = (t.setIfInBounds p x).setIfInBounds q y := by simp
theorem zip_one (p : Tmp) (x : Value) (t : Array Value) : (Array.zip (#[p] : Array Tmp) #[x]).foldl (fun t (p, v) => t.setIfInBounds p v) t = t.setIfInBounds p x := by simp
theorem owns_moves {Bs : Nat → Prop} {w w' : World} {B : Nat} {T : TypeId} {z n : Nat} {v : Value} {cs : List Value} (h : w.ownsRow B T z v n cs) (hm : Moves Bs w w') (hn : ∀ k, v.ownBlock = some k → ¬ Bs k) : w'.ownsRow B T z v n cs := by
  refine ⟨h.1, h.2.imp id ?_⟩
  rintro ⟨g, cap, cur, hv, hb, hg, rest⟩
  exact ⟨g, cap, cur, hv, hb, (hm.block g (Array.getElem?_eq_some_iff.1 hg).1 (hn g (by rw [hv]; rfl))).trans hg, rest⟩
theorem owns_ge {w : World} {B : Nat} {T : TypeId} {z n : Nat} {v : Value} {cs : List Value} (h : w.ownsRow B T z v n cs) : ∀ k, v.ownBlock = some k → B ≤ k ∧ k < w.heap.size := World.ownsRow.lt h
/-- The element type of a slice type. -/
structure ElemOf (P : Program) (t e : TypeId) (size bytes : Nat) : Prop where
  ht : P.underlying t = some (.slice e)
  ex : ∃ i z, P.info? e = some i ∧ i.zero = some z ∧ i.size = size ∧ i.bytes = bytes ∧ z.cells.size = size
  pos : 0 < size
  small : bytes ≤ 4096
theorem ElemOf.mk' {P : Program} {t e : TypeId} {size bytes : Nat} {z : Value} (ht : P.underlying t = some (.slice e)) (h : (P.info? e).map (fun i => (i.zero, i.size, i.bytes)) = some (some z, size, bytes)) (hz : z.cells.size = size) (pos : 0 < size) (small : bytes ≤ 4096) : ElemOf P t e size bytes := by
  obtain ⟨i, h1, h2, h3, h4⟩ := info_parts h
  exact ⟨ht, ⟨i, z, h1, h2, h3, h4, hz⟩, pos, small⟩

section
variable {P : Program} {w : World} {ops : Array Oper} {rest : List Oper} {o : Oper} {a : Act} {Q : Exit → Act → World → Prop}
theorem wpList_appendR (hgd : o.guard = none) (s x : Operand) (t : TypeId) (ho : o.op = .call { callee := .builtin .append, args := #[s, x], argTypes := #[t, t] }) (e : TypeId) (size bytes : Nat) (E : ElemOf P t e size bytes)
    (base : Nat) (v : Value) (n : Nat) (xs : List Value) (hs : a.eval s = v) (hown : w.ownsRow base e size v n xs) (b c : Nat) (news : List Value) (hx : a.eval x = .slice (some ⟨b, 0, none⟩) 1 c) (hl : news.length = size)
    (hb : Box w b news) (h1 : ∀ u ∈ news, u.oneCell' = true) (hn : n ≤ 1000000) (hbase : base ≤ w.heap.size)
    (h : ∀ g cap w', Row w' base e size g (n + 1) cap (xs ++ news) → Moves (fun k => v.ownBlock = some k) w w' → (v.ownBlock = some g ∨ w.heap.size ≤ g) → w.heap.size ≤ w'.heap.size → wpList P ops Q rest (a.put o.dst (.slice (some ⟨g, 0, none⟩) (n + 1) cap)) w') : wpList P ops Q (o :: rest) a w := by
  obtain ⟨i, z, i1, i2, i3, i4, i5⟩ := E.ex
  have hsm := E.small
  refine wpList_append_lies w hgd s x t ho base e i z size bytes E.ht i1 i2 i3 i4 i5 E.pos v n xs hs hown ⟨b, 0, none⟩ 1 c news hx (by omega) (fun j u hu => ?_) h1 (by omega) (by have : maxLen = 9223372036854775807 := rfl; omega) ?_ hbase _ rfl ?_
  · have := hb.cell j hu; rcases j with _ | j <;> simpa [Addr.add] using this
  · have : (n + 1) * bytes ≤ 1000001 * 4096 := Nat.mul_le_mul (by omega) hsm
    omega
  · intro g cap w' h2 h3 h4 h5
    exact h g cap w' h2 ⟨h3.os, h3.tape, h3.output, h3.size, fun k hk hn' => h3.block k hk (fun e => hn' e.symm)⟩ (h4.imp id (fun e => by omega)) h3.size
end
end Go.Proofs.Ytcfhbnfincpehaa

/- Which states a ball has in a row, and whether it can be in the gutter: plain. -/
namespace Go.Proofs.Ytcfhbnfincpehaa
open Go.RowKit

/-- The states behind a state in a row. -/
def stepsOf (l : La) (row : Int) (s : St) : List St := (turnsOf (hookOf l row s.b)).map (nextS s)
/-- The ball has the state t in the row k, in some truth. -/
def Rch (l : La) (s0 : St) : Nat → St → Prop
  | 0, t => t = s0
  | k + 1, t => onL l t = true ∧ ∃ s, Rch l s0 k s ∧ t ∈ stepsOf l k s
/-- From the row k it can go into the gutter. -/
def Gut (l : La) (s0 : St) (k : Nat) : Prop := ∃ s, Rch l s0 k s ∧ ∃ t ∈ stepsOf l k s, onL l t = false

/-- Block b is a set of states. -/
def SetIs (w : World) (b : Nat) (P : St → Prop) : Prop := ∃ m : St → Option Unit, MapIs w b ekSt (fun _ => .bool true) m ∧ ∀ t, (m t).isSome = true ↔ P t
theorem SetIs.later {w w' : World} {b : Nat} {P : St → Prop} (h : SetIs w b P) (hb : Below w.heap.size w w') : SetIs w' b P := by
  obtain ⟨m, h1, h2⟩ := h; exact ⟨m, h1.later hb, h2⟩
theorem SetIs.moves {Bs : Nat → Prop} {w w' : World} {b : Nat} {P : St → Prop} (h : SetIs w b P) (hm : Moves Bs w w') (hb : ¬ Bs b) : SetIs w' b P := by
  obtain ⟨m, h1, h2⟩ := h; exact ⟨m, h1.moves hm hb, h2⟩
theorem SetIs.congr {w : World} {b : Nat} {P Q : St → Prop} (h : SetIs w b P) (e : ∀ t, P t ↔ Q t) : SetIs w b Q := by
  obtain ⟨m, h1, h2⟩ := h; exact ⟨m, h1, fun t => (h2 t).trans (e t)⟩
theorem SetIs.lt {w : World} {b : Nat} {P : St → Prop} (h : SetIs w b P) : b < w.heap.size := by obtain ⟨m, h1, _⟩ := h; exact h1.lt

theorem Rch.on {l : La} {s0 : St} (h0 : onL l s0 = true) : ∀ {k : Nat} {t : St}, Rch l s0 k t → onL l t = true
  | 0, t, h => by cases h; exact h0
  | k + 1, t, h => h.1
theorem nextS_d (s : St) (t : Int) : -5 ≤ (nextS s t).d ∧ (nextS s t).d ≤ 5 := clamp_bd _
theorem Rch.d {l : La} {s0 : St} (h0 : -5 ≤ s0.d ∧ s0.d ≤ 5) : ∀ {k : Nat} {t : St}, Rch l s0 k t → -5 ≤ t.d ∧ t.d ≤ 5
  | 0, t, h => by cases h; exact h0
  | k + 1, t, h => by
    obtain ⟨_, s, _, ht⟩ := h
    obtain ⟨x, _, rfl⟩ := List.mem_map.1 ht
    exact nextS_d s x

/-- The least row behind which it can be in the gutter. -/
def GutIs (R : Int) (P : Nat → Prop) (γ : Int) : Prop := (γ = R ∨ ∃ j : Nat, P j ∧ γ = j + 1) ∧ (∀ j : Nat, P j → γ ≤ j + 1) ∧ γ ≤ R ∧ 0 ≤ γ
theorem GutIs.start {R : Int} (h : 0 ≤ R) : GutIs R (fun _ => False) R := ⟨.inl rfl, fun _ h => h.elim, by omega, h⟩
theorem GutIs.congr {R : Int} {P Q : Nat → Prop} {γ : Int} (h : GutIs R P γ) (e : ∀ j, P j ↔ Q j) : GutIs R Q γ :=
  ⟨h.1.imp id (fun ⟨j, h1, h2⟩ => ⟨j, (e j).1 h1, h2⟩), fun j hj => h.2.1 j ((e j).2 hj), h.2.2⟩
theorem GutIs.add {R : Int} {P : Nat → Prop} {γ : Int} (h : GutIs R P γ) (k : Nat) : GutIs R (fun j => P j ∨ j = k) (min γ (k + 1)) := by
  obtain ⟨h1, h2, h3, h4⟩ := h
  refine ⟨?_, ?_, by omega, by omega⟩
  · rcases Int.le_total γ (k + 1) with hle | hle
    · rw [Int.min_eq_left hle]
      exact h1.imp id (fun ⟨j, a, b⟩ => ⟨j, .inl a, b⟩)
    · rw [Int.min_eq_right hle]; exact .inr ⟨k, .inr rfl, rfl⟩
  · rintro j (hj | rfl)
    · have := h2 j hj; omega
    · omega
theorem GutIs.le {R : Int} {P : Nat → Prop} {γ : Int} (h : GutIs R P γ) (row : Nat) (hr : (row : Int) < R) : γ ≤ row ↔ ∃ j, j < row ∧ P j := by
  obtain ⟨h1, h2, h3, h4⟩ := h
  constructor
  · intro hle
    rcases h1 with h1 | ⟨j, hj, e⟩
    · omega
    · exact ⟨j, by omega, hj⟩
  · rintro ⟨j, hj, hp⟩; have := h2 j hp; omega
theorem SetIs.at_ {w w' : World} {b : Nat} {P : St → Prop} (h : SetIs w b P) (e : w'.heap[b]? = w.heap[b]?) : SetIs w' b P := by
  obtain ⟨m, h1, h2⟩ := h; exact ⟨m, h1.at_ e, h2⟩
theorem SetIs.alloc {w : World} {b : Nat} {P : St → Prop} (h : SetIs w b P) (o : Obj) : SetIs (w.alloc o) b P := by
  obtain ⟨m, h1, h2⟩ := h; exact ⟨m, h1.alloc o, h2⟩
theorem onL_start {l : La} {s : St} (h : isStart l s = true) : onL l s = true := by
  simp only [isStart, decide_eq_true_eq] at h
  simp [onL]; omega
theorem start_d {l : La} {s : St} (h : isStart l s = true) : -5 ≤ s.d ∧ s.d ≤ 5 := by
  simp only [isStart, decide_eq_true_eq] at h; omega
theorem SetIs.own {W W' : World} {b B : Nat} {P : St → Prop} {row : Option Nat} (h : SetIs W b P) (hg : W.grownBy W' row) (hr : ∀ r, row = some r → B ≤ r ∧ ∃ o : Obj, W.heap[r]? = some o ∧ o.isCells = false) (hb : b < B) : SetIs W' b P :=
  h.at_ (hg.block b h.lt (fun e => by have := (hr b e.symm).1; omega))
theorem SetIs.set {w : World} {b c i : Nat} {u : Value} {P : St → Prop} (h : SetIs w b P) (hn : b ≠ c) : SetIs (w.setCell ⟨c, i, none⟩ u) b P := by
  obtain ⟨m, h1, h2⟩ := h; exact ⟨m, h1.set hn, h2⟩
theorem SetIs.no_box {w : World} {b c : Nat} {cs : List Value} {P : St → Prop} (h : SetIs w b P) (hx : Box w c cs) : b ≠ c := by
  obtain ⟨m, h1, h2⟩ := h; exact h1.no_box hx
theorem SetIs.no_row {w : World} {B : Nat} {T : TypeId} {z g n cap : Nat} {cs : List Value} {b : Nat} {P : St → Prop} (h : SetIs w b P) (hx : Row w B T z g n cap cs) : b ≠ g := by
  obtain ⟨m, h1, h2⟩ := h; exact hx.no_map h1
theorem left_iff {R : St → Prop} {ls : List St} {s : St} (hs : R s) (A : St → Prop) : ((∃ s', (R s' ∧ s' ∉ ls) ∧ A s') ∨ A s) ↔ ∃ s', (R s' ∧ s' ∉ ls.filter (fun x => decide (x ≠ s))) ∧ A s' := by
  constructor
  · rintro (⟨s', ⟨h1, h2⟩, h3⟩ | h)
    · exact ⟨s', ⟨h1, fun hm => h2 (List.mem_filter.1 hm).1⟩, h3⟩
    · exact ⟨s, ⟨hs, by simp⟩, h⟩
  · rintro ⟨s', ⟨h1, h2⟩, h3⟩
    by_cases e : s' = s
    · subst e; exact .inr h3
    · exact .inl ⟨s', ⟨h1, fun hm => h2 (List.mem_filter.2 ⟨hm, by simpa using e⟩)⟩, h3⟩
theorem MarksIn.no_walk {w : World} {B0 b r : Nat} {Ds : List Nat} (hm : MarksIn B0 w Ds) {κ ν : Type} {ek : κ → Value} {ev : ν → Value} {m : κ → Option ν} {ls : List κ} (h : WalkIs w b r ek ev m ls) : ∀ D ∈ Ds, D ≠ r := by
  rintro D hD rfl
  obtain ⟨es, clock, since, c0, seen, _, hb, _⟩ := h
  have := (hm.2 D hD).2
  rw [hb] at this; cases this
theorem MarksIn.no_set {w : World} {B0 b : Nat} {Ds : List Nat} (hm : MarksIn B0 w Ds) {P : St → Prop} (h : SetIs w b P) : ∀ D ∈ Ds, D ≠ b := by
  obtain ⟨m, h, _⟩ := h; exact hm.no_map h
/-- What 'reached' hands back. -/
structure ReachedAt (w w' : World) (l : La) (s0 : St) (A cap : Nat) (ms : List Nat) (γ : Int) : Prop where
  len : ms.length = l.rows.toNat
  row : Row w' w.heap.size 114 1 A l.rows.toNat cap (ms.map fun b => .map (some b))
  sets : ∀ (j : Nat) (h : j < ms.length), w.heap.size ≤ ms[j] ∧ SetIs w' ms[j] (Rch l s0 j)
  gut : GutIs l.rows (fun j => j + 1 < l.rows.toNat ∧ Gut l s0 j) γ
  below : Below w.heap.size w w'
theorem SetIs.wiped {B : Nat} {w w' : World} {b : Nat} {P : St → Prop} (h : SetIs w b P) (hw : Wiped B w w') : SetIs w' b P := by
  obtain ⟨m, h1, h2⟩ := h; exact ⟨m, hw.map h1, h2⟩
end Go.Proofs.Ytcfhbnfincpehaa

/- The walk of package path: reached. -/
namespace Go.Proofs.Ytcfhbnfincpehaa
open Go.RowKit Go.Shelf
attribute [local go_sem] Oper.semAt_some

theorem zeroBool (w : World) : (zeroValue 4).run Try.prog w = .ok (.bool false) w := by kernel_rfl
theorem enter_follow (args : Array Value) (w : World) : (callFunc 88 args).run Try.prog w = .ok (.enter 88 args) w := by kernel_rfl
theorem elemSets : ElemOf Try.prog 110 114 1 8 := .mk' (z := .map none) Try.underlying110 (by kernel_rfl) rfl (by decide) (by decide)

theorem seen_iff {l : La} {k : Int} {s : St} {xs : List (Turned (hookOf l k s.b) s)} (h : xs.map (fun x => x.1.1) = turnsOf (hookOf l k s.b)) (A : St → Prop) : (∃ x ∈ xs, A x.1.2) ↔ ∃ t ∈ stepsOf l k s, A t := by
  constructor
  · rintro ⟨x, hx, ha⟩
    refine ⟨x.1.2, List.mem_map.2 ⟨x.1.1, ?_, x.2.2.2.symm⟩, ha⟩
    rw [← h]; exact List.mem_map.2 ⟨x, hx, rfl⟩
  · rintro ⟨t, ht, ha⟩
    obtain ⟨u, hu, rfl⟩ := List.mem_map.1 ht
    rw [← h] at hu
    obtain ⟨x, hx, rfl⟩ := List.mem_map.1 hu
    exact ⟨x, hx, by rw [x.2.2.2]; exact ha⟩
/-- What holds ahead of a round. -/
structure RInv (w W : World) (l : La) (s0 : St) (ha : Option Addr) (hc : Nat) (pa : Option Addr) (pc g k g4 cap4 : Nat) (ms : List Nat) (γ : Int) : Prop where
  b : Box W w.heap.size [I l.boards, I l.rows, .slice ha l.hooks.length hc, .slice pa l.patches.length pc, .slice (some ⟨g, 0, none⟩) l.rows.toNat l.rows.toNat]
  s : Box W (w.heap.size + 1) [I s0.b, I s0.d]
  γb : Box W (w.heap.size + 1 + 1) [I γ]
  len : ms.length = k + 1
  row : Row W (w.heap.size + 3) 114 1 g4 (k + 1) cap4 (ms.map fun b => .map (some b))
  sets : ∀ (j : Nat) (h : j < ms.length), w.heap.size ≤ ms[j] ∧ SetIs W ms[j] (Rch l s0 j)
  gut : GutIs l.rows (fun j => j < k ∧ Gut l s0 j) γ
  below : Below w.heap.size w W

/-- What holds ahead of a round of the inner loop. -/
structure SInv (w1 W : World) (l : La) (s0 : St) (m : St → Option Unit) (gb nb bm r k : Nat) (ls : List St) (γ : Int) : Prop where
  walk : WalkIs W bm r ekSt (fun _ : Unit => .bool true) m ls
  next : SetIs W nb (fun t => onL l t = true ∧ ∃ s, (Rch l s0 k s ∧ s ∉ ls) ∧ t ∈ stepsOf l k s)
  γb : Box W gb [I γ]
  gut : GutIs l.rows (fun j => (j < k ∧ Gut l s0 j) ∨ (j = k ∧ ∃ s, (Rch l s0 k s ∧ s ∉ ls) ∧ ∃ t ∈ stepsOf l k s, onL l t = false)) γ
  mv : Moves (fun b => b = gb ∨ b = nb ∨ b = r) w1 W
  sub : ∀ s, s ∈ ls → Rch l s0 k s

/-- What holds ahead of a round of the innermost loop. -/
def IInv (l : La) (s0 : St) (gb nb k : Nat) (ls : List St) {hk : Rg} {s : St} (pre : List (Turned hk s)) (W : World) : Prop := ∃ γ : Int,
  SetIs W nb (fun t => (onL l t = true ∧ ∃ s, (Rch l s0 k s ∧ s ∉ ls) ∧ t ∈ stepsOf l k s) ∨ (onL l t = true ∧ ∃ x ∈ pre, x.1.2 = t)) ∧ Box W gb [I γ] ∧
  GutIs l.rows (fun j => ((j < k ∧ Gut l s0 j) ∨ (j = k ∧ ∃ s, (Rch l s0 k s ∧ s ∉ ls) ∧ ∃ t ∈ stepsOf l k s, onL l t = false)) ∨ (j = k ∧ ∃ x ∈ pre, onL l x.1.2 = false)) γ
theorem IInv.own (l : La) (s0 : St) (gb nb k B : Nat) (ls : List St) {hk : Rg} {s : St} (hn : nb < B) : OwnFrom B (IInv l s0 gb nb k ls (hk := hk) (s := s)) := by
  rintro pre W W' row ⟨γ, h1, h2, h3⟩ hg hr
  exact ⟨γ, h1.own hg hr hn, own_box (β := Unit) () W W' row h2 hg hr, h3⟩

set_option maxRecDepth 100000 in
set_option maxHeartbeats 1000000 in
theorem reached_any (l : La) (s0 : St) (ha pa : Option Addr) (hc pc g : Nat) (w : World) (H : BallAt w l ha hc pa pc g) (h0 : isStart l s0 = true) :
    Calls Try.prog 58 #[.agg #[I l.boards, I l.rows, .slice ha l.hooks.length hc, .slice pa l.patches.length pc, .slice (some ⟨g, 0, none⟩) l.rows.toNat l.rows.toNat], .agg #[I s0.b, I s0.d]] w fun e w' => ∃ (A cap : Nat) (ms : List Nat) (γ : Int), e = .returned (.tuple #[.slice (some ⟨A, 0, none⟩) l.rows.toNat cap, I γ]) ∧ ReachedAt w w' l s0 A cap ms γ := by
  have hmm := @run_makeMap Try.prog
  have V := H.valid
  have r1 := V.r1
  have r2 := V.r2
  refine calls_of_wpC Try.func58 rfl w.heap.size ?_
  simp only [Try.ntmps58, List.size_toArray, List.length_cons, List.length_nil, Nat.reduceAdd, Nat.reduceSub, Array.replicate_succ, Array.replicate_zero, List.push_toArray, List.append_toArray, List.nil_append, List.cons_append]
  go_wp2_with (first
    | (((with_reducible show wpList _ _ _ (⟨_, Op.insert _ _ _ _, _, _, _, _⟩ :: _) _ _); (refine wpList_insertM rfl _ _ _ 114 rfl _ _ rfl goodSt _ rfl (MapIs.made' (ν := Unit) ekSt (fun _ => .bool true) (by simp)) (s0) rfl (()) rfl ?_); intro w1 hMw1 hvw1 hzw1)
       have xb : Box w1 w.heap.size [I l.boards, I l.rows, .slice ha l.hooks.length hc, .slice pa l.patches.length pc, .slice (some ⟨g, 0, none⟩) l.rows.toNat l.rows.toNat] := hvw1.box ((((Box.new w _ _).alloc _).alloc _).alloc _) (by omega)
       have xs : Box w1 (w.heap.size + 1) [I s0.b, I s0.d] := hvw1.box (((Box.new' _ _ (by simp)).alloc _).alloc _) (by omega)
       have xg : Box w1 (w.heap.size + 1 + 1) [I 0] := hvw1.box ((Box.new' _ _ (by simp)).alloc _) (by omega)
       have hs1 : w1.heap.size = w.heap.size + 1 + 1 + 1 + 1 := by rw [hzw1]; simp)
    | ((at_builtin; (refine wpList_appendR rfl _ _ 110 rfl _ _ _ elemSets (w.heap.size + 3) (.slice none 0 0) (0) ([]) rfl (World.ownsRow_nil _ _ _ _) _ _ ([.map (some (w.heap.size + 1 + 1 + 1))]) rfl rfl (Box.new' _ _ hs1.symm) (by simp [Value.oneCell']) (by omega) (by first | omega | (simp only [World.size_alloc]; omega) | (simp; done)) ?_); intro g4 cap4 w2 hR hv2 hd2 hz2)
       simp only [World.size_alloc, Value.ownBlock, reduceCtorEq, false_or] at hd2 hz2
       have ub : Box w2 w.heap.size [I l.boards, I l.rows, .slice ha l.hooks.length hc, .slice pa l.patches.length pc, .slice (some ⟨g, 0, none⟩) l.rows.toNat l.rows.toNat] := hv2.box (xb.alloc _) (by simp [Value.ownBlock])
       have us : Box w2 (w.heap.size + 1) [I s0.b, I s0.d] := hv2.box (xs.alloc _) (by simp [Value.ownBlock])
       have ug : Box w2 (w.heap.size + 1 + 1) [I 0] := hv2.box (xg.alloc _) (by simp [Value.ownBlock])
       have yb := fun i c h => ub.cell i (c := c) h
       have yb1 := yb 1 _ rfl
       have yg := ug.cell 0 rfl
       have yf := ug.free 0
       clear yb))
  clear yb1 yg yf
  refine wp_loop_ghost_k (fun n a' w' => ∃ (k : Nat) (γ : Int) (ms : List Nat) (g4 cap4 : Nat), ∃ (Ds : List Nat), ∃ u1 u6 u7 u8 u9 u10 u11 u12 u13 u14 u15 u16 u17 u18 u19 u20 u21 u22 u25 u26 u27 u28 u29 u30 u31 u32 u33 u34 u35 u36 u37 u38 u39 u40 u41 u42 u43 u44 u45 u46 u47 u48 u49 u50 u51 u52 u53 u54 u55 u56 u57 u58 u59 u60, (n + k + 1 = l.rows.toNat ∧ RInv w w' l s0 ha hc pa pc g k g4 cap4 ms γ) ∧ MarksIn w.heap.size w' Ds ∧ a' = ⟨#[.agg #[I l.boards, I l.rows, .slice ha l.hooks.length hc, .slice pa l.patches.length pc, .slice (some ⟨g, 0, none⟩) l.rows.toNat l.rows.toNat], u1, .pointer (some ⟨w.heap.size, 0, none⟩), .pointer (some ⟨w.heap.size + 1, 0, none⟩), .slice (some ⟨g4, 0, none⟩) (k + 1) cap4, .pointer (some ⟨w.heap.size + 1 + 1, 0, none⟩), u6, u7, u8, u9, u10, u11, u12, u13, u14, u15, u16, u17, u18, u19, u20, u21, u22, I (l.rows - 1), I k, u25, u26, u27, u28, u29, u30, u31, u32, u33, u34, u35, u36, u37, u38, u39, u40, u41, u42, u43, u44, u45, u46, u47, u48, u49, u50, u51, u52, u53, u54, u55, u56, u57, u58, u59, u60], Ds.map Mark⟩) (l.rows.toNat - 1) ?start ?round
  case start =>
    refine ⟨0, l.rows, [w.heap.size + 3], g4, cap4, [], ?_⟩
    (repeat apply Exists.intro)
    refine ⟨⟨by omega, ?_⟩, .nil _ _, rfl⟩
    have hset : SetIs w1 (w.heap.size + 1 + 1 + 1) (Rch l s0 0) := ⟨_, hMw1, fun t => by by_cases e : t = s0 <;> simp [upd, e, Rch]⟩
    have hne : ¬ (w.heap.size + 1 + 1 + 1 = w.heap.size + 1 + 1) := by omega
    have hb1 : Below w.heap.size w w1 := Below.trans (by (repeat (first | assumption | exact Below.refl _ _ | refine Below.alloc ?_ (by first | omega | (simp only [World.size_alloc]; omega) | (simp; done) | (simp; omega)) _ | refine Below.setCell ?_ (by first | omega | (simp only [World.size_alloc]; omega) | (simp; done) | (simp; omega)) _))) (hvw1.below (by simp; omega) (fun i hi => by omega))
    have hb2 : Below w.heap.size w w2 := hb1.trans ((hv2.below (B := w1.heap.size) (by simp) (fun i hi => by simp [Value.ownBlock])).mono (by omega) |> fun h => ((Below.refl _ w1).alloc (by omega) _).trans h)
    refine ⟨ub.other (by show w.heap.size + 1 + 1 ≠ w.heap.size; omega) _, us.other (by show w.heap.size + 1 + 1 ≠ w.heap.size + 1; omega) _, ug.set 0 _, rfl, ?_, ?_, (GutIs.start (by omega)).congr (by simp), hb2.setCell (p := ⟨w.heap.size + 1 + 1, 0, none⟩) (by show w.heap.size ≤ w.heap.size + 1 + 1; omega) _⟩
    · exact hR.at_ (Below.heap_setCell w2 ⟨w.heap.size + 1 + 1, 0, none⟩ _ g4 (by have := hR.ge; show g4 ≠ w.heap.size + 1 + 1; omega))
    · intro j hj
      have : j = 0 := by simpa using hj
      subst this
      exact ⟨by show w.heap.size ≤ w.heap.size + 3; omega, ((hset.alloc _).moves hv2 (by simp [Value.ownBlock])).set hne⟩
  rintro n a1 wr ⟨k, γ, ms, g4, cap4, hI⟩ J K hJ hK
  have HJ := Lib.hid hJ
  clear hJ
  revert hI; refine ex_arrow fun Ds => ex_arrow fun u1 => ex_arrow fun u6 => ex_arrow fun u7 => ex_arrow fun u8 => ex_arrow fun u9 => ex_arrow fun u10 => ex_arrow fun u11 => ex_arrow fun u12 => ex_arrow fun u13 => ex_arrow fun u14 => ex_arrow fun u15 => ex_arrow fun u16 => ex_arrow fun u17 => ex_arrow fun u18 => ex_arrow fun u19 => ex_arrow fun u20 => ex_arrow fun u21 => ex_arrow fun u22 => ex_arrow fun u25 => ex_arrow fun u26 => ex_arrow fun u27 => ex_arrow fun u28 => ex_arrow fun u29 => ex_arrow fun u30 => ex_arrow fun u31 => ex_arrow fun u32 => ex_arrow fun u33 => ex_arrow fun u34 => ex_arrow fun u35 => ex_arrow fun u36 => ex_arrow fun u37 => ex_arrow fun u38 => ex_arrow fun u39 => ex_arrow fun u40 => ex_arrow fun u41 => ex_arrow fun u42 => ex_arrow fun u43 => ex_arrow fun u44 => ex_arrow fun u45 => ex_arrow fun u46 => ex_arrow fun u47 => ex_arrow fun u48 => ex_arrow fun u49 => ex_arrow fun u50 => ex_arrow fun u51 => ex_arrow fun u52 => ex_arrow fun u53 => ex_arrow fun u54 => ex_arrow fun u55 => ex_arrow fun u56 => ex_arrow fun u57 => ex_arrow fun u58 => ex_arrow fun u59 => ex_arrow fun u60 => ?_; rintro ⟨⟨hn, R⟩, hDs, rfl⟩
  have hk0 : k < ms.length := by rw [R.len]; omega
  have yr : wr.cell? ⟨g4, k, none⟩ = some (.map (some ms[k])) := R.row.cell k (by simp)
  by_cases hlt : (k : Int) < l.rows - 1
  · obtain ⟨bm, hbm⟩ : ∃ bm, ms[k] = bm := ⟨_, rfl⟩
    rw [hbm] at yr
    obtain ⟨sz, m, hm, hmP⟩ := R.sets k hk0
    rw [hbm] at sz hm
    have o1 := R.row.lt
    have o2 : g4 < wr.heap.size + 1 := by omega
    have o3 : g4 < wr.heap.size + 1 + 1 := by omega
    have o4 : bm < wr.heap.size := hm.lt
    have o5 := R.b.lt
    have o6 := R.s.lt
    have o7 := R.γb.lt
    have o8 := R.row.ge
    have RR := Lib.hid R
    have HmP := Lib.hid hmP
    have HD := Lib.hid hDs
    clear R hmP hDs
    go_wp2_with (
       ((with_reducible show wpList _ _ _ (⟨_, Op.range _ _, _, _, _, _⟩ :: _) _ _); (refine wpList_rangeM rfl _ 114 rfl _ _ rfl goodSt.inj _ rfl (((hm.alloc _).alloc _).alloc _) ?_); intro ls w1 hW hN hls hbw1 hz1)
       simp only [World.size_alloc] at hW hz1
       have c6 : Box w1 wr.heap.size [I k] := (((Box.new wr _ _).alloc _).alloc _).later hbw1
       have cN : SetIs w1 (wr.heap.size + 1) (fun _ => False) := ⟨fun _ => none, (((MapIs.made' (ν := Unit) ekSt (fun _ => .bool true) (by simp)).alloc _).later hbw1), by simp⟩
       have c7 : Box w1 (wr.heap.size + 1 + 1) [.map (some (wr.heap.size + 1))] := (Box.new' _ _ (by simp)).later hbw1
       have hbW : Below wr.heap.size wr w1 := Below.trans (by (repeat (first | assumption | exact Below.refl _ _ | refine Below.alloc ?_ (by first | omega | (simp only [World.size_alloc]; omega) | (simp; done) | (simp; omega)) _ | refine Below.setCell ?_ (by first | omega | (simp only [World.size_alloc]; omega) | (simp; done) | (simp; omega)) _))) (hbw1.mono (by simp; omega))
       have HN := Lib.hid hN
       have Hls := Lib.hid hls
       have Hz1 := Lib.hid hz1
       clear hN hls hz1)
    refine wp_loop_ghost_k (fun n a' w' => ∃ (ls : List St) (γ : Int), ∃ (Ds : List Nat), ∃ u1 u8 u9 u10 u11 u12 u13 u14 u15 u16 u17 u18 u19 u20 u21 u22 u25 u26 u27 u28 u29 u30 u31 u33 u34 u35 u36 u37 u38 u39 u40 u41 u42 u43 u44 u45 u46 u47 u48 u49 u50 u51 u52 u53 u54 u55 u56 u57 u58 u59 u60, (n = ls.length ∧ SInv w1 w' l s0 m (w.heap.size + 1 + 1) (wr.heap.size + 1) bm (wr.heap.size + 1 + 1 + 1) k ls γ) ∧ MarksIn w.heap.size w' Ds ∧ a' = ⟨#[.agg #[I l.boards, I l.rows, .slice ha l.hooks.length hc, .slice pa l.patches.length pc, .slice (some ⟨g, 0, none⟩) l.rows.toNat l.rows.toNat], u1, .pointer (some ⟨w.heap.size, 0, none⟩), .pointer (some ⟨w.heap.size + 1, 0, none⟩), .slice (some ⟨g4, 0, none⟩) (k + 1) cap4, .pointer (some ⟨w.heap.size + 1 + 1, 0, none⟩), .pointer (some ⟨wr.heap.size, 0, none⟩), .pointer (some ⟨wr.heap.size + 1 + 1, 0, none⟩), u8, u9, u10, u11, u12, u13, u14, u15, u16, u17, u18, u19, u20, u21, u22, I (l.rows - 1), I k, u25, u26, u27, u28, u29, u30, u31, .pointer (some ⟨wr.heap.size + 1 + 1 + 1, 0, none⟩), u33, u34, u35, u36, u37, u38, u39, u40, u41, u42, u43, u44, u45, u46, u47, u48, u49, u50, u51, u52, u53, u54, u55, u56, u57, u58, u59, u60], Ds.map Mark⟩) ls.length ?start2 ?round2
    case start2 =>
      refine ⟨ls, γ, Ds, ?_⟩
      (repeat apply Exists.intro)
      refine ⟨⟨rfl, ?_⟩, HD.out.later hbW, rfl⟩
      exact ⟨hW, cN.congr (fun t => ⟨fun h => h.elim, fun ⟨_, s, ⟨h1, h2⟩, _⟩ => h2 ((Hls.out s).2 ((HmP.out s).2 h1))⟩), RR.out.γb.later hbW, RR.out.gut.congr (fun j => ⟨fun h => .inl h, fun h => h.elim id (fun ⟨_, s, ⟨h1, h2⟩, _⟩ => (h2 ((Hls.out s).2 ((HmP.out s).2 h1))).elim)⟩), Moves.refl _, fun s hs => (HmP.out s).1 ((Hls.out s).1 hs)⟩
    clear hW cN
    clear u1 u8 u9 u10
    rintro n2 a2 w2 ⟨ls2, γ2, hI2⟩ J2 K2 hJ2 hK2
    have HJ2 := Lib.hid hJ2
    clear hJ2
    revert hI2; refine ex_arrow fun Ds => ex_arrow fun u1 => ex_arrow fun u8 => ex_arrow fun u9 => ex_arrow fun u10 => ex_arrow fun u11 => ex_arrow fun u12 => ex_arrow fun u13 => ex_arrow fun u14 => ex_arrow fun u15 => ex_arrow fun u16 => ex_arrow fun u17 => ex_arrow fun u18 => ex_arrow fun u19 => ex_arrow fun u20 => ex_arrow fun u21 => ex_arrow fun u22 => ex_arrow fun u25 => ex_arrow fun u26 => ex_arrow fun u27 => ex_arrow fun u28 => ex_arrow fun u29 => ex_arrow fun u30 => ex_arrow fun u31 => ex_arrow fun u33 => ex_arrow fun u34 => ex_arrow fun u35 => ex_arrow fun u36 => ex_arrow fun u37 => ex_arrow fun u38 => ex_arrow fun u39 => ex_arrow fun u40 => ex_arrow fun u41 => ex_arrow fun u42 => ex_arrow fun u43 => ex_arrow fun u44 => ex_arrow fun u45 => ex_arrow fun u46 => ex_arrow fun u47 => ex_arrow fun u48 => ex_arrow fun u49 => ex_arrow fun u50 => ex_arrow fun u51 => ex_arrow fun u52 => ex_arrow fun u53 => ex_arrow fun u54 => ex_arrow fun u55 => ex_arrow fun u56 => ex_arrow fun u57 => ex_arrow fun u58 => ex_arrow fun u59 => ex_arrow fun u60 => ?_; rintro ⟨⟨hn2, S⟩, hDs, rfl⟩
    have hz1 := Hz1.out
    have t6 : Box w2 wr.heap.size [I k] := S.mv.box c6 (by first | omega | (intro hh; simp only [Value.ownBlock, Option.some.injEq, reduceCtorEq] at hh; omega) | (intro hh; rcases hh with hh | hh | hh <;> omega))
    have t7 : Box w2 (wr.heap.size + 1 + 1) [.map (some (wr.heap.size + 1))] := S.mv.box c7 (by first | omega | (intro hh; simp only [Value.ownBlock, Option.some.injEq, reduceCtorEq] at hh; omega) | (intro hh; rcases hh with hh | hh | hh <;> omega))
    have tb : Box w2 w.heap.size [I l.boards, I l.rows, .slice ha l.hooks.length hc, .slice pa l.patches.length pc, .slice (some ⟨g, 0, none⟩) l.rows.toNat l.rows.toNat] := S.mv.box (RR.out.b.later hbW) (by first | omega | (intro hh; simp only [Value.ownBlock, Option.some.injEq, reduceCtorEq] at hh; omega) | (intro hh; rcases hh with hh | hh | hh <;> omega))
    have ts : Box w2 (w.heap.size + 1) [I s0.b, I s0.d] := S.mv.box (RR.out.s.later hbW) (by first | omega | (intro hh; simp only [Value.ownBlock, Option.some.injEq, reduceCtorEq] at hh; omega) | (intro hh; rcases hh with hh | hh | hh <;> omega))
    have tr : Row w2 (w.heap.size + 3) 114 1 g4 (k + 1) cap4 (ms.map fun b => .map (some b)) := (RR.out.row.later hbW).moves S.mv (by first | omega | (intro hh; simp only [Value.ownBlock, Option.some.injEq, reduceCtorEq] at hh; omega) | (intro hh; rcases hh with hh | hh | hh <;> omega))
    have hz2 := S.mv.size
    have hbw : Below w.heap.size w w2 := RR.out.below.trans ((hbW.mono RR.out.below.size).trans (S.mv.below (by omega) (fun i hi hh => by rcases hh with hh | hh | hh <;> omega)))
    have y7 := t7.cell 0 rfl
    have y6 := t6.cell 0 rfl
    have HsO := Lib.hid (fun s (h : s ∈ ls2) => Rch.on (onL_start h0) (S.sub s h))
    have SS := Lib.hid S
    have HDs := Lib.hid hDs
    have RL := tr.len
    clear hDs
    by_cases hne : ls2 = []
    · subst hne
      have hdn := fun ty => S.walk.done (P := Try.prog) ty
      clear S
      go_wp2_with (
        (at_builtin; (refine wpList_appendR rfl _ _ 110 rfl _ _ _ elemSets (w.heap.size + 3) (.slice (some ⟨g4, 0, none⟩) (k + 1) cap4) (k + 1) (ms.map fun b => .map (some b)) rfl (tr.alloc _) _ _ ([.map (some (wr.heap.size + 1))]) rfl rfl (Box.new' _ _ rfl) (by simp [Value.oneCell']) (by omega) (by first | omega | (simp only [World.size_alloc]; omega) | (simp; done)) ?_); intro g5 cap5 w5 hR5 hv5 hd5 hz5)
        simp only [World.size_alloc, Value.ownBlock, Option.some.injEq] at hd5 hz5)
      refine Handed.intro (n - 1) (by omega) (HJ.out _ _ _ ?_)
      refine ⟨k + 1, γ2, ms ++ [wr.heap.size + 1], g5, cap5, Ds, ?_⟩
      (repeat apply Exists.intro)
      refine ⟨⟨by omega, ?_⟩, ?_, by go_num⟩
      · have n1 : w.heap.size < g4 := by omega
        have nb : ¬ (wr.heap.size + 1 = g4) := by omega
        have bx : ∀ {b : Nat} {cs : List Value}, Box w2 b cs → b ≠ g4 → Box w5 b cs := fun h hn => hv5.box (h.alloc _) (by simp only [Value.ownBlock, Option.some.injEq]; exact fun e => hn e.symm)
        have st : ∀ {b : Nat} {P : St → Prop}, SetIs w2 b P → b ≠ g4 → SetIs w5 b P := fun h hn => (h.alloc _).moves hv5 (by simp only [Value.ownBlock, Option.some.injEq]; exact fun e => hn e.symm)
        refine ⟨bx tb (by omega), bx ts (by omega), bx SS.out.γb (by omega), by simp [RR.out.len], by simpa using hR5, ?_, SS.out.gut.congr fun j => ?_, hbw.trans (((Below.refl _ w2).alloc hbw.size _).trans (hv5.below (by simp; omega) (fun i hi => by simp only [Value.ownBlock, Option.some.injEq]; omega)))⟩
        · intro j hj
          by_cases e : j < ms.length
          · have h1 := RR.out.sets j e
            rw [List.getElem_append_left e]
            have h2 : SetIs w2 ms[j] (Rch l s0 j) := (h1.2.later hbW).moves SS.out.mv (by have a1 := h1.2.lt; have a2 := h1.2.no_box RR.out.γb; intro hh; rcases hh with hh | hh | hh <;> omega)
            exact ⟨h1.1, st h2 (h2.no_row tr)⟩
          · have e1 : j = ms.length := by simp at hj; omega
            subst e1
            rw [List.getElem_append_right (Nat.le_refl _)]
            simp only [Nat.sub_self, List.getElem_cons_zero]
            refine ⟨by omega, ?_⟩
            have hl := RR.out.len
            rw [hl]
            refine (st SS.out.next nb).congr fun t => ?_
            simp [Rch]
        · simp only [List.not_mem_nil, not_false_eq_true, and_true]
          constructor
          · rintro (⟨h1, h2⟩ | ⟨rfl, s, h1, t, h2, h3⟩)
            · exact ⟨by omega, h2⟩
            · exact ⟨by omega, s, h1, t, h2, h3⟩
          · rintro ⟨h1, h2⟩
            by_cases e : j < k
            · exact .inl ⟨e, h2⟩
            · have : j = k := by omega
              subst this
              obtain ⟨s, h1, t, h2, h3⟩ := h2
              exact .inr ⟨rfl, s, h1, t, h2, h3⟩
      · exact (HDs.out.later ((Below.refl _ _).alloc (Nat.le_refl _) _)).moves hv5 (fun d hd => by have := HDs.out.no_row tr d hd; simp only [Value.ownBlock, Option.some.injEq]; omega)
    · have hB : ∀ W, Below w.heap.size w W → BallAt W l ha hc pa pc g := fun W hb => H.later hb
      have HB := Lib.hid hB
      clear hB
      have p1 : w.heap.size < w2.heap.size := by omega
      have p2 : wr.heap.size < w2.heap.size := by omega
      have ke : ∀ s : St, ekSt s = .agg #[I s.b, I s.d] := fun _ => rfl
      go_wp2_with (first
        | (((with_reducible show wpList _ _ _ (⟨_, Op.next _ _, _, _, _, _⟩ :: _) _ _); (refine wpList_nextM rfl _ rfl goodSt.inj _ _ rfl _ S.walk hne ?_); intro s v w3 hs hv hW3 hm3 hz3 hent)
           have v7 := hm3.box t7 (by first | omega | (intro hh; simp only [Value.ownBlock, Option.some.injEq, reduceCtorEq] at hh; omega) | (intro hh; rcases hh with hh | hh | hh <;> omega))
           have v6 := hm3.box t6 (by first | omega | (intro hh; simp only [Value.ownBlock, Option.some.injEq, reduceCtorEq] at hh; omega) | (intro hh; rcases hh with hh | hh | hh <;> omega))
           have vb := hm3.box tb (by first | omega | (intro hh; simp only [Value.ownBlock, Option.some.injEq, reduceCtorEq] at hh; omega) | (intro hh; rcases hh with hh | hh | hh <;> omega))
           have hb3 : Below w.heap.size w w3 := hbw.trans (hm3.below (by omega) (fun i hi hh => by omega))
           have x7 := v7.cell 0 rfl
           have x6 := v6.cell 0 rfl
           have xb := fun i c h => vb.cell i (c := c) h
           have xb0 := xb 0 _ rfl
           have xb1 := xb 1 _ rfl
           have xb2 := xb 2 _ rfl
           have xb3 := xb 3 _ rfl
           have xb4 := xb 4 _ rfl
           clear xb)
        | (go_at_call 66; refine Calls.mono (follow_any l k s ha pa hc pc g _ (HB.out _ (hb3.alloc (by first | omega | (simp only [World.size_alloc]; omega) | (simp; done) | (simp; omega)) _)) (by omega) (by omega) (HsO.out s hs)) ?_; rintro e w4 ⟨hb, sb, rfl, q1, q2, q3, q4, hb4⟩))
      have zb4 := hb4.size
      simp only [World.size_alloc] at zb4 q1 q2
      have Hhk := Lib.hid (hookOf_bd V (k : Int) s.b)
      refine wp_range (P := Try.prog) (encs := encT (hk := hookOf l k s.b) (s := s)) rfl enter_follow [hb, sb]
        (fun b => b = w.heap.size + 1 + 1 ∨ b = wr.heap.size + 1) ?hKs ?hBs (follow_stops (hookOf l k s.b) s hb sb w4 ?b1 ?b2 ?b3 ?b4 ?b5 ?b6 q3 q4) (Below.refl _ _) (fun _ => rfl)
        (IInv l s0 (w.heap.size + 1 + 1) (wr.heap.size + 1) k ls2 (hk := hookOf l k s.b) (s := s)) (fun _ _ _ => False) (IInv.own _ _ _ _ _ _ _ (by omega)) (fun _ _ _ _ _ h => h.elim) ?h0
        (fun x a' W => ∃ (t10 : Nat) (u : Nat → Value), w4.heap.size ≤ t10 ∧ Box W t10 [I x.1.2.b, I x.1.2.d] ∧ a' = ⟨#[.agg #[I l.boards, I l.rows, .slice ha l.hooks.length hc, .slice pa l.patches.length pc, .slice (some ⟨g, 0, none⟩) l.rows.toNat l.rows.toNat], u 1, .pointer (some ⟨w.heap.size, 0, none⟩), .pointer (some ⟨w.heap.size + 1, 0, none⟩), .slice (some ⟨g4, 0, none⟩) (k + 1) cap4, .pointer (some ⟨w.heap.size + 1 + 1, 0, none⟩), .pointer (some ⟨wr.heap.size, 0, none⟩), .pointer (some ⟨wr.heap.size + 1 + 1, 0, none⟩), u 8, u 9, .pointer (some ⟨t10, 0, none⟩), u 11, u 12, u 13, u 14, u 15, u 16, u 17, u 18, u 19, u 20, u 21, u 22, u 23, u 24, u 25, u 26, u 27, u 28, u 29, u 30, u 31, u 32, u 33, u 34, u 35, u 36, u 37, u 38, u 39, u 40, u 41, u 42, u 43, u 44, u 45, u 46, u 47, u 48, u 49, u 50, u 51, u 52, u 53, u 54, u 55, u 56, u 57, u 58, u 59, u 60], []⟩) ?hAx ?assign ?body ?done ?stop
      case hKs => intro b hb'; simp only [List.mem_cons, List.not_mem_nil, or_false] at hb'; rcases hb' with rfl | rfl <;> constructor <;> first | exact q3.lt | exact q4.lt | omega
      case hBs => rintro b (rfl | rfl) <;> omega
      case b1 => exact Hhk.out.1
      case b2 => exact Hhk.out.2.2
      case b3 => exact (Rch.d (start_d h0) (SS.out.sub s hs)).1
      case b4 => exact (Rch.d (start_d h0) (SS.out.sub s hs)).2
      case b5 =>
                  have h1 : 1 ≤ s.b ∧ s.b ≤ l.boards := by simpa [onL] using HsO.out s hs
                  have := V.b2; omega
      case b6 =>
                  have h1 : 1 ≤ s.b ∧ s.b ≤ l.boards := by simpa [onL] using HsO.out s hs
                  have := V.b2; omega
      case h0 =>
        have hm4 : Moves (fun b => b = wr.heap.size + 1 + 1 + 1) w2 w4 := (hm3.alloc _).trans (Moves.of_below (Bs := fun _ => False) hb4) (fun _ _ h => h.elim)
        exact ⟨γ2, (SS.out.next.moves hm4 (by first | omega | (intro hh; simp only [Value.ownBlock, Option.some.injEq, reduceCtorEq] at hh; omega) | (intro hh; rcases hh with hh | hh | hh <;> omega))).congr (by simp), hm4.box SS.out.γb (by first | omega | (intro hh; simp only [Value.ownBlock, Option.some.injEq, reduceCtorEq] at hh; omega) | (intro hh; rcases hh with hh | hh | hh <;> omega)), SS.out.gut.congr (by simp)⟩
      case hAx =>
        rintro x a' _ W W' row ⟨t10, u, h1, h2, h3⟩ hg hr
        exact ⟨t10, u, h1, own_box (β := Unit) () W W' row h2 hg hr, h3⟩
      case assign =>
        rintro l' pre x W K3 hm hI hK3
        rw [show encT x = #[I x.1.1, .agg #[I x.1.2.b, I x.1.2.d]] from rfl, zip_two]
        simp only [List.setIfInBounds_toArray, List.set_cons_succ, List.set_cons_zero]
        gi_wp2_with fail
        refine hK3 _ _ ((Moves.refl W).alloc _) ((IInv.own _ _ _ _ _ w4.heap.size _ (by omega)).alloc _ hI) ⟨W.heap.size, fun i => #[undef, u1, undef, undef, undef, undef, undef, undef, .pointer (some ⟨w2.heap.size, 0, none⟩), u9, undef, u11, u12, u13, u14, u15, u16, u17, u18, u19, u20, u21, u22, I (l.rows - 1), I k, u25, u26, u27, u28, u29, u30, u31, .pointer (some ⟨wr.heap.size + 1 + 1 + 1, 0, none⟩), .tuple #[.bool true, .agg #[I s.b, I s.d], .bool true], .bool true, .tuple #[.agg #[I s.b, I s.d], .bool true], .agg #[I s.b, I s.d], .agg #[I l.boards, I l.rows, .slice ha l.hooks.length hc, .slice pa l.patches.length pc, .slice (some ⟨g, 0, none⟩) l.rows.toNat l.rows.toNat], I k, .agg #[I s.b, I s.d], .func (.func 88) #[] #[.pointer (some ⟨hb, 0, none⟩), .pointer (some ⟨sb, 0, none⟩)], I x.1.1, .agg #[I x.1.2.b, I x.1.2.d], u43, u44, u45, u46, u47, u48, u49, u50, u51, u52, u53, u54, u55, u56, u57, u58, u59, u60].getD i undef, hm.size, Box.new _ _ _, rfl⟩
      case body =>
        rintro l' pre x a' W hm hI ⟨t10, u, ht, hx10, rfl⟩ hlen
        obtain ⟨γ3, i1, i2, i3⟩ := hI
        have hm4 : Moves (fun b => b = w.heap.size + 1 + 1 ∨ b = wr.heap.size + 1 ∨ b = wr.heap.size + 1 + 1 + 1) w2 W := (((hm3.alloc _).trans (Moves.of_below (Bs := fun _ => False) hb4) (fun _ _ h => h.elim)).weaken (fun _ _ h => .inr (.inr h))).trans hm (fun _ _ h => by rcases h with h | h <;> simp [h])
        have v7 := hm4.box t7 (by first | omega | (intro hh; simp only [Value.ownBlock, Option.some.injEq, reduceCtorEq] at hh; omega) | (intro hh; rcases hh with hh | hh | hh <;> omega))
        have v6 := hm4.box t6 (by first | omega | (intro hh; simp only [Value.ownBlock, Option.some.injEq, reduceCtorEq] at hh; omega) | (intro hh; rcases hh with hh | hh | hh <;> omega))
        have vb := hm4.box tb (by first | omega | (intro hh; simp only [Value.ownBlock, Option.some.injEq, reduceCtorEq] at hh; omega) | (intro hh; rcases hh with hh | hh | hh <;> omega))
        have x7 := v7.cell 0 rfl
        have x6 := v6.cell 0 rfl
        have xb := fun i c h => vb.cell i (c := c) h
        have xb0 := xb 0 _ rfl
        have xb1 := xb 1 _ rfl
        have xb2 := xb 2 _ rfl
        have xb3 := xb 3 _ rfl
        have x10 := hx10.cell 0 rfl
        have x11 := hx10.cell 1 rfl
        have xg := i2.cell 0 rfl
        have xf := i2.free 0
        clear xb y6 y7
        have hW1 := hm.size
        by_cases hon : onL l x.1.2 = true
        · gi_wp2_with (first
            | (refine ⟨trivial, ?_⟩; gi_at_call 65; refine (CallsIn.inRound l' (callsIn_wide.2 (on_any l x.1.2 ha pa hc pc _))).mono ?_; rintro e w5 ⟨rfl, hb5⟩
               have n7 := (v7.later hb5).cell 0 rfl
               have n10 := (hx10.later hb5).cell 0 rfl
               have n11 := (hx10.later hb5).cell 1 rfl
               obtain ⟨m5, hm5, hP5⟩ := i1.later hb5)
            | ((with_reducible show wpListIn _ _ _ _ _ (⟨_, Op.mapUpdate _ _ _ _, _, _, _, _⟩ :: _) _ _); (refine wpListIn_updateM rfl _ _ _ 114 rfl _ _ rfl goodSt _ rfl hm5 (x.1.2) rfl (()) rfl ?_); intro w6 hMw6 hvw6 hzw6))
          refine ⟨(Moves.of_below hb5).trans hvw6 (fun _ _ h => .inr h), γ3, ⟨_, hMw6, fun t => ?_⟩, hvw6.box (i2.later hb5) (by first | omega | (intro hh; simp only [Value.ownBlock, Option.some.injEq, reduceCtorEq] at hh; omega) | (intro hh; rcases hh with hh | hh | hh <;> omega)), i3.congr (by simp [hon])⟩
          by_cases e : t = x.1.2
          · subst e; simp [upd, hon]
          · simp [upd, e, hP5, Ne.symm e]
        · simp only [Bool.not_eq_true] at hon
          gi_wp2_with (first
            | (refine ⟨trivial, ?_⟩; gi_at_call 65; refine (CallsIn.inRound l' (callsIn_wide.2 (on_any l x.1.2 ha pa hc pc _))).mono ?_; rintro e w5 ⟨rfl, hb5⟩
               have n6 := (v6.later hb5).cell 0 rfl
               have ng := (i2.later hb5).cell 0 rfl
               have nf := (i2.later hb5).free 0
               have hz5 : w.heap.size + 1 + 1 < w5.heap.size := by have := hb5.size; omega)
            | (refine ⟨trivial, ?_⟩; gi_at_call 67; refine (CallsIn.inRound l' (callsIn_wide.2 (least_two γ3 (k + 1) _ _ (by simp [go_sem]) (by simp [go_sem])))).mono ?_; rintro e w6 ⟨rfl, rfl⟩))
          refine ⟨((Moves.of_below hb5).set (fun _ => .inl rfl)).alloc _, _, (((i1.later hb5).set (by omega)).alloc _).congr (fun t => ?_), (((i2.later hb5).set 0 _).alloc _), (i3.add k).congr fun j => ?_⟩
          · refine or_congr Iff.rfl (and_congr_right fun ht => ?_)
            constructor
            · rintro ⟨y, hy, rfl⟩; exact ⟨y, by simp [hy], rfl⟩
            · rintro ⟨y, hy, rfl⟩
              rcases List.mem_append.1 hy with hy | hy
              · exact ⟨y, hy, rfl⟩
              · rw [List.mem_singleton.1 hy, hon] at ht; cases ht
          · rw [or_assoc]
            refine or_congr Iff.rfl ⟨?_, ?_⟩
            · rintro (⟨rfl, y, hy, ho⟩ | rfl)
              · exact ⟨rfl, y, by simp [hy], ho⟩
              · exact ⟨rfl, x, by simp, hon⟩
            · rintro ⟨rfl, _⟩; exact .inr rfl
      case done =>
        rintro D xs W hD hmD hS ⟨γ3, i1, i2, i3⟩ hk
        go_wp2_with fail
        have hRs := SS.out.sub s hs
        have hlen : (ls2.filter (fun x => decide (x ≠ s))).length < n2 := by
          rw [hn2]; exact List.length_filter_lt_length_iff_exists.2 ⟨s, hs, by simp⟩
        have hm3W : Moves (fun b => b = w.heap.size + 1 + 1 ∨ b = wr.heap.size + 1) w3 W := (((Moves.refl w3).alloc _).trans (Moves.of_below (Bs := fun _ => False) hb4) (fun _ _ h => h.elim)).trans hmD (fun _ _ h => h)
        have hm4 : Moves (fun b => b = w.heap.size + 1 + 1 ∨ b = wr.heap.size + 1 ∨ b = wr.heap.size + 1 + 1 + 1) w2 W := (hm3.weaken (Bs' := fun b => b = w.heap.size + 1 + 1 ∨ b = wr.heap.size + 1 ∨ b = wr.heap.size + 1 + 1 + 1) (fun _ _ h => .inr (.inr h))).trans hm3W (fun _ _ h => by rcases h with h | h <;> simp [h])
        have hg0 : bm ≠ w.heap.size + 1 + 1 := hm.no_box RR.out.γb
        refine Handed.intro _ hlen (HJ2.out _ _ _ ?_)
        refine ⟨ls2.filter (fun x => decide (x ≠ s)), γ3, D :: Ds, ?_⟩
        (repeat apply Exists.intro)
        refine ⟨⟨rfl, ?_⟩, ?_, rfl⟩
        · refine ⟨hW3.moves hm3W (by first | omega | (intro hh; simp only [Value.ownBlock, Option.some.injEq, reduceCtorEq] at hh; omega) | (intro hh; rcases hh with hh | hh | hh <;> omega)) (by first | omega | (intro hh; simp only [Value.ownBlock, Option.some.injEq, reduceCtorEq] at hh; omega) | (intro hh; rcases hh with hh | hh | hh <;> omega)), i1.congr fun t => ?_, i2, i3.congr fun j => ?_, SS.out.mv.trans hm4 (fun _ _ h => h), fun s' hs' => SS.out.sub s' (List.mem_filter.1 hs').1⟩
          · rw [← and_or_left]
            refine and_congr_right fun _ => ?_
            rw [seen_iff hS (fun u => u = t), ← left_iff hRs (fun s' => t ∈ stepsOf l k s')]
            simp
          · rw [or_assoc, ← and_or_left, seen_iff hS (fun u => onL l u = false), left_iff hRs (fun s' => ∃ t ∈ stepsOf l k s', onL l t = false)]
        · refine HDs.out.push (HDs.out.moves hm4 fun d hd => ?_) (by first | omega | (simp only [World.size_alloc]; omega) | (simp; done) | (simp; omega)) (by first | omega | (simp only [World.size_alloc]; omega) | (simp; done) | (simp; omega)) hk
          have d1 := HDs.out.no_box SS.out.γb d hd
          have d2 := HDs.out.no_set SS.out.next d hd
          have d3 := HDs.out.no_walk SS.out.walk d hd
          intro hh; rcases hh with hh | hh | hh <;> omega
      case stop => exact fun _ _ _ _ _ _ _ h => h.elim
  · have yg := R.γb.cell 0 rfl
    have yf := R.γb.free 0
    have hke : k + 1 = l.rows.toNat := by omega
    have RR := Lib.hid R
    have HDs := Lib.hid hDs
    clear R hDs
    go_wp2_with fail
    go_region
    go_wp2_with fail
    have xg : Box (wr.setCell ⟨w.heap.size + 1 + 1, 0, none⟩ (I γ)).drew (w.heap.size + 1 + 1) [I γ] := (RR.out.γb.set 0 (I γ)).drew
    have hmv : Moves (fun b => b = w.heap.size + 1 + 1) wr (wr.setCell ⟨w.heap.size + 1 + 1, 0, none⟩ (I γ)).drew := ((Moves.refl (Bs := fun b => b = w.heap.size + 1 + 1) wr).set (fun _ => rfl)).drew
    refine ⟨Ds, rfl, ?_, fun w' hw => ⟨.tuple #[.slice (some ⟨g4, 0, none⟩) l.rows.toNat cap4, I γ], ?_, g4, cap4, ms, γ, rfl, ?_⟩⟩
    · exact HDs.out.moves hmv (HDs.out.no_box RR.out.γb)
    · have yc := (hw.box xg).cell 0 rfl
      simp [results, Try.results58, go_sem, yc]
    · have hr := (RR.out.row.moves hmv (by have := RR.out.row.ge; omega)).wiped hw
      rw [hke] at hr
      refine ⟨RR.out.len.trans hke, hr.low (by have := RR.out.row.ge; omega), fun j hj => ?_, RR.out.gut.congr (fun j => ?_), hw.below (RR.out.below.trans (Moves.below hmv RR.out.below.size (fun i hi => by omega))) (Nat.le_refl _)⟩
      · have h1 := RR.out.sets j hj
        exact ⟨h1.1, (h1.2.moves hmv (h1.2.no_box RR.out.γb)).wiped hw⟩
      · constructor <;> rintro ⟨h1, h2⟩ <;> exact ⟨by omega, h2⟩
end Go.Proofs.Ytcfhbnfincpehaa
