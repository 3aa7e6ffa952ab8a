/- Which states a ball has in a row, and whether it can be in the gutter: plain. -/
import Derived.Test.YtcfhbnfincpehaaKeys
import Derived.Test.YtcfhbnfincpehaaKitS
namespace Go.Proofs.Ytcfhbnfincpehaa
open Go.RowKit

/-- The states behind a state in a row. -/
def stepsOf (l : La) (row : Int) (s : St) : List St := (turnsOf (hookOf l row s.b)).map (nextS s)
/-- The ball has the state t in the row k, in some truth. -/
def Rch (l : La) (s0 : St) : Nat → St → Prop
  | 0, t => t = s0
  | k + 1, t => onL l t = true ∧ ∃ s, Rch l s0 k s ∧ t ∈ stepsOf l k s
/-- From the row k it can go into the gutter. -/
def Gut (l : La) (s0 : St) (k : Nat) : Prop := ∃ s, Rch l s0 k s ∧ ∃ t ∈ stepsOf l k s, onL l t = false

/-- Block b is a set of states. -/
def SetIs (w : World) (b : Nat) (P : St → Prop) : Prop := ∃ m : St → Option Unit, MapIs w b ekSt (fun _ => .bool true) m ∧ ∀ t, (m t).isSome = true ↔ P t
theorem SetIs.later {w w' : World} {b : Nat} {P : St → Prop} (h : SetIs w b P) (hb : Below w.heap.size w w') : SetIs w' b P := by
  obtain ⟨m, h1, h2⟩ := h; exact ⟨m, h1.later hb, h2⟩
theorem SetIs.moves {Bs : Nat → Prop} {w w' : World} {b : Nat} {P : St → Prop} (h : SetIs w b P) (hm : Moves Bs w w') (hb : ¬ Bs b) : SetIs w' b P := by
  obtain ⟨m, h1, h2⟩ := h; exact ⟨m, h1.moves hm hb, h2⟩
theorem SetIs.congr {w : World} {b : Nat} {P Q : St → Prop} (h : SetIs w b P) (e : ∀ t, P t ↔ Q t) : SetIs w b Q := by
  obtain ⟨m, h1, h2⟩ := h; exact ⟨m, h1, fun t => (h2 t).trans (e t)⟩
theorem SetIs.lt {w : World} {b : Nat} {P : St → Prop} (h : SetIs w b P) : b < w.heap.size := by obtain ⟨m, h1, _⟩ := h; exact h1.lt

theorem Rch.on {l : La} {s0 : St} (h0 : onL l s0 = true) : ∀ {k : Nat} {t : St}, Rch l s0 k t → onL l t = true
  | 0, t, h => by cases h; exact h0
  | k + 1, t, h => h.1
theorem nextS_d (s : St) (t : Int) : -5 ≤ (nextS s t).d ∧ (nextS s t).d ≤ 5 := clamp_bd _
theorem Rch.d {l : La} {s0 : St} (h0 : -5 ≤ s0.d ∧ s0.d ≤ 5) : ∀ {k : Nat} {t : St}, Rch l s0 k t → -5 ≤ t.d ∧ t.d ≤ 5
  | 0, t, h => by cases h; exact h0
  | k + 1, t, h => by
    obtain ⟨_, s, _, ht⟩ := h
    obtain ⟨x, _, rfl⟩ := List.mem_map.1 ht
    exact nextS_d s x

/-- The least row behind which it can be in the gutter. -/
def GutIs (R : Int) (P : Nat → Prop) (γ : Int) : Prop := (γ = R ∨ ∃ j : Nat, P j ∧ γ = j + 1) ∧ (∀ j : Nat, P j → γ ≤ j + 1) ∧ γ ≤ R ∧ 0 ≤ γ
theorem GutIs.start {R : Int} (h : 0 ≤ R) : GutIs R (fun _ => False) R := ⟨.inl rfl, fun _ h => h.elim, by omega, h⟩
theorem GutIs.congr {R : Int} {P Q : Nat → Prop} {γ : Int} (h : GutIs R P γ) (e : ∀ j, P j ↔ Q j) : GutIs R Q γ :=
  ⟨h.1.imp id (fun ⟨j, h1, h2⟩ => ⟨j, (e j).1 h1, h2⟩), fun j hj => h.2.1 j ((e j).2 hj), h.2.2⟩
theorem GutIs.add {R : Int} {P : Nat → Prop} {γ : Int} (h : GutIs R P γ) (k : Nat) : GutIs R (fun j => P j ∨ j = k) (min γ (k + 1)) := by
  obtain ⟨h1, h2, h3, h4⟩ := h
  refine ⟨?_, ?_, by omega, by omega⟩
  · rcases Int.le_total γ (k + 1) with hle | hle
    · rw [Int.min_eq_left hle]
      exact h1.imp id (fun ⟨j, a, b⟩ => ⟨j, .inl a, b⟩)
    · rw [Int.min_eq_right hle]; exact .inr ⟨k, .inr rfl, rfl⟩
  · rintro j (hj | rfl)
    · have := h2 j hj; omega
    · omega
theorem GutIs.le {R : Int} {P : Nat → Prop} {γ : Int} (h : GutIs R P γ) (row : Nat) (hr : (row : Int) < R) : γ ≤ row ↔ ∃ j, j < row ∧ P j := by
  obtain ⟨h1, h2, h3, h4⟩ := h
  constructor
  · intro hle
    rcases h1 with h1 | ⟨j, hj, e⟩
    · omega
    · exact ⟨j, by omega, hj⟩
  · rintro ⟨j, hj, hp⟩; have := h2 j hp; omega
theorem SetIs.at_ {w w' : World} {b : Nat} {P : St → Prop} (h : SetIs w b P) (e : w'.heap[b]? = w.heap[b]?) : SetIs w' b P := by
  obtain ⟨m, h1, h2⟩ := h; exact ⟨m, h1.at_ e, h2⟩
theorem SetIs.alloc {w : World} {b : Nat} {P : St → Prop} (h : SetIs w b P) (o : Obj) : SetIs (w.alloc o) b P := by
  obtain ⟨m, h1, h2⟩ := h; exact ⟨m, h1.alloc o, h2⟩
theorem onL_start {l : La} {s : St} (h : isStart l s = true) : onL l s = true := by
  simp only [isStart, decide_eq_true_eq] at h
  simp [onL]; omega
theorem start_d {l : La} {s : St} (h : isStart l s = true) : -5 ≤ s.d ∧ s.d ≤ 5 := by
  simp only [isStart, decide_eq_true_eq] at h; omega
theorem SetIs.own {W W' : World} {b B : Nat} {P : St → Prop} {row : Option Nat} (h : SetIs W b P) (hg : W.grownBy W' row) (hr : ∀ r, row = some r → B ≤ r ∧ ∃ o : Obj, W.heap[r]? = some o ∧ o.isCells = false) (hb : b < B) : SetIs W' b P :=
  h.at_ (hg.block b h.lt (fun e => by have := (hr b e.symm).1; omega))
theorem SetIs.set {w : World} {b c i : Nat} {u : Value} {P : St → Prop} (h : SetIs w b P) (hn : b ≠ c) : SetIs (w.setCell ⟨c, i, none⟩ u) b P := by
  obtain ⟨m, h1, h2⟩ := h; exact ⟨m, h1.set hn, h2⟩
theorem SetIs.no_box {w : World} {b c : Nat} {cs : List Value} {P : St → Prop} (h : SetIs w b P) (hx : Box w c cs) : b ≠ c := by
  obtain ⟨m, h1, h2⟩ := h; exact h1.no_box hx
theorem SetIs.no_row {w : World} {B : Nat} {T : TypeId} {z g n cap : Nat} {cs : List Value} {b : Nat} {P : St → Prop} (h : SetIs w b P) (hx : Row w B T z g n cap cs) : b ≠ g := by
  obtain ⟨m, h1, h2⟩ := h; exact hx.no_map h1
theorem left_iff {R : St → Prop} {ls : List St} {s : St} (hs : R s) (A : St → Prop) : ((∃ s', (R s' ∧ s' ∉ ls) ∧ A s') ∨ A s) ↔ ∃ s', (R s' ∧ s' ∉ ls.filter (fun x => decide (x ≠ s))) ∧ A s' := by
  constructor
  · rintro (⟨s', ⟨h1, h2⟩, h3⟩ | h)
    · exact ⟨s', ⟨h1, fun hm => h2 (List.mem_filter.1 hm).1⟩, h3⟩
    · exact ⟨s, ⟨hs, by simp⟩, h⟩
  · rintro ⟨s', ⟨h1, h2⟩, h3⟩
    by_cases e : s' = s
    · subst e; exact .inr h3
    · exact .inl ⟨s', ⟨h1, fun hm => h2 (List.mem_filter.2 ⟨hm, by simpa using e⟩)⟩, h3⟩
theorem MarksIn.no_walk {w : World} {B0 b r : Nat} {Ds : List Nat} (hm : MarksIn B0 w Ds) {κ ν : Type} {ek : κ → Value} {ev : ν → Value} {m : κ → Option ν} {ls : List κ} (h : WalkIs w b r ek ev m ls) : ∀ D ∈ Ds, D ≠ r := by
  rintro D hD rfl
  obtain ⟨es, clock, since, c0, seen, _, hb, _⟩ := h
  have := (hm.2 D hD).2
  rw [hb] at this; cases this
theorem MarksIn.no_set {w : World} {B0 b : Nat} {Ds : List Nat} (hm : MarksIn B0 w Ds) {P : St → Prop} (h : SetIs w b P) : ∀ D ∈ Ds, D ≠ b := by
  obtain ⟨m, h, _⟩ := h; exact hm.no_map h
/-- What 'reached' hands back. -/
structure ReachedAt (w w' : World) (l : La) (s0 : St) (A cap : Nat) (ms : List Nat) (γ : Int) : Prop where
  len : ms.length = l.rows.toNat
  row : Row w' w.heap.size 114 1 A l.rows.toNat cap (ms.map fun b => .map (some b))
  sets : ∀ (j : Nat) (h : j < ms.length), w.heap.size ≤ ms[j] ∧ SetIs w' ms[j] (Rch l s0 j)
  gut : GutIs l.rows (fun j => j + 1 < l.rows.toNat ∧ Gut l s0 j) γ
  below : Below w.heap.size w w'
theorem SetIs.wiped {B : Nat} {w w' : World} {b : Nat} {P : St → Prop} (h : SetIs w b P) (hw : Wiped B w w') : SetIs w' b P := by
  obtain ⟨m, h1, h2⟩ := h; exact ⟨m, hw.map h1, h2⟩
end Go.Proofs.Ytcfhbnfincpehaa
