/- Maps that the call makes: which keys are there, and what stands at them, as a function. Nothing is asked. -/
import Derived.Test.YtcfhbnfincpehaaKit
import Derived.Maps.OwnSet
import Derived.Maps.OwnIn
import Derived.Laws.StructEq
import Derived.Maps.RangeRun
namespace Go.Proofs.Ytcfhbnfincpehaa
open Go.RowKit Go.Shelf

/-- Which blocks may have turned. -/
structure Moves (Bs : Nat → Prop) (w w' : World) : Prop where
  os : w'.os = w.os
  tape : w'.tape = w.tape
  output : w'.output = w.output
  size : w.heap.size ≤ w'.heap.size
  block : ∀ k, k < w.heap.size → ¬ Bs k → w'.heap[k]? = w.heap[k]?
theorem Moves.refl {Bs : Nat → Prop} (w : World) : Moves Bs w w := ⟨rfl, rfl, rfl, Nat.le_refl _, fun _ _ _ => rfl⟩
theorem Moves.trans {Bs Bs' : Nat → Prop} {a b c : World} (h : Moves Bs a b) (k : Moves Bs' b c) (hs : ∀ i, i < a.heap.size → Bs' i → Bs i) : Moves Bs a c :=
  ⟨k.os.trans h.os, k.tape.trans h.tape, k.output.trans h.output, Nat.le_trans h.size k.size, fun i hi hn => (k.block i (Nat.lt_of_lt_of_le hi h.size) (fun hb => hn (hs i hi hb))).trans (h.block i hi hn)⟩
theorem Moves.weaken {Bs Bs' : Nat → Prop} {a b : World} (h : Moves Bs a b) (hs : ∀ i, i < a.heap.size → Bs i → Bs' i) : Moves Bs' a b :=
  ⟨h.os, h.tape, h.output, h.size, fun i hi hn => h.block i hi (fun hb => hn (hs i hi hb))⟩
theorem Moves.of_below {Bs : Nat → Prop} {w w' : World} (h : Below w.heap.size w w') : Moves Bs w w' := ⟨h.os, h.tape, h.output, h.size, fun k hk _ => h.block k hk⟩
theorem Moves.below {Bs : Nat → Prop} {w w' : World} {B : Nat} (h : Moves Bs w w') (hB : B ≤ w.heap.size) (hs : ∀ i, i < B → ¬ Bs i) : Below B w w' := ⟨h.os, h.tape, h.output, h.size, fun k hk => h.block k (Nat.lt_of_lt_of_le hk hB) (hs k hk)⟩
theorem Moves.alloc {Bs : Nat → Prop} {a w : World} (h : Moves Bs a w) (o : Obj) : Moves Bs a (w.alloc o) := h.trans (Moves.of_below (Bs := fun _ => False) ((Below.refl _ _).alloc (Nat.le_refl _) o)) (fun _ _ h => h.elim)
theorem Moves.drew {Bs : Nat → Prop} {a w : World} (h : Moves Bs a w) : Moves Bs a w.drew := ⟨h.os, h.tape, h.output, h.size, h.block⟩
theorem Moves.set {Bs : Nat → Prop} {a w : World} {b i : Nat} {u : Value} (h : Moves Bs a w) (hb : b < a.heap.size → Bs b) : Moves Bs a (w.setCell ⟨b, i, none⟩ u) :=
  ⟨h.os, h.tape, h.output, by simpa [World.setCell] using h.size, fun k hk hn => (Below.heap_setCell w ⟨b, i, none⟩ u k (fun e => hn (by cases e; exact hb hk))).trans (h.block k hk hn)⟩
theorem Moves.grown {Bs : Nat → Prop} {a w w' : World} {row : Option Nat} (h : Moves Bs a w) (hg : w.grownBy w' row) (hr : ∀ r, row = some r → r < a.heap.size → Bs r) : Moves Bs a w' :=
  ⟨hg.os.trans h.os, hg.tape.trans h.tape, hg.output.trans h.output, Nat.le_trans h.size hg.size, fun k hk hn => (hg.block k (Nat.lt_of_lt_of_le hk h.size) (fun e => hn (hr k e.symm hk))).trans (h.block k hk hn)⟩
theorem Moves.box {Bs : Nat → Prop} {w w' : World} {b : Nat} {cs : List Value} (h : Moves Bs w w') (hx : Box w b cs) (hb : ¬ Bs b) : Box w' b cs := by
  obtain ⟨T, hx⟩ := hx
  exact ⟨T, (h.block b (Array.getElem?_eq_some_iff.1 hx).1 hb).trans hx⟩

section
variable {P : Program} {κ ν : Type}

/-- The keys of a map's type, as values. -/
structure GoodKey (P : Program) (K : TypeId) (ek : κ → Value) : Prop where
  check : ∀ (b : Bool) (k : κ) (w : World), (Instr.checkKey b 10000 K (ek k)).run P w = .ok () w
  find : ∀ (k : κ) (es : List MapEntry) (w : World), (∀ e ∈ es, ∃ k', e.key = ek k') → ∃ r, (Instr.findKey K (ek k) es).run P w = .ok r w ∧
    ((r = none ∧ ∀ e ∈ es, e.key ≠ ek k) ∨ ∃ i e, r = some (i, e.val) ∧ es[i]? = some e ∧ e.key = ek k)
  bits : ∀ k, Instr.sameBits 10000 (ek k) (ek k) = true
  inj : ∀ a b, ek a = ek b → a = b

theorem findAsking_run [DecidableEq κ] {K : TypeId} {ek : κ → Value} (inj : ∀ a b, ek a = ek b → a = b) (heq : ∀ a b w, (Op.equal K (ek a) (ek b)).run P w = .ok (decide (a = b)) w) (k : κ) (w : World) :
    ∀ (es : List MapEntry) (i : Nat), (∀ e ∈ es, ∃ k', e.key = ek k') → ∃ r, (Instr.findAsking K (ek k) es i).run P w = .ok r w ∧
      ((r = none ∧ ∀ e ∈ es, e.key ≠ ek k) ∨ ∃ j e, r = some (i + j, e.val) ∧ es[j]? = some e ∧ e.key = ek k)
  | [], i, _ => ⟨none, by simp [Instr.findAsking], .inl ⟨rfl, by simp⟩⟩
  | e :: es, i, h => by
    obtain ⟨k', hk'⟩ := h e (by simp)
    by_cases hkk : k = k'
    · subst hkk
      exact ⟨some (i, e.val), by simp [Instr.findAsking, hk', Sem.run_bind, heq, Result.andThen], .inr ⟨0, e, by simp, by simp, hk'⟩⟩
    · obtain ⟨r, hr, hc⟩ := findAsking_run inj heq k w es (i + 1) (fun x hx => h x (by simp [hx]))
      refine ⟨r, by simp [Instr.findAsking, hk', Sem.run_bind, heq, Result.andThen, hkk, hr], ?_⟩
      rcases hc with ⟨h1, h2⟩ | ⟨j, x, h1, h2, h3⟩
      · refine .inl ⟨h1, fun x hx => ?_⟩
        rcases List.mem_cons.1 hx with rfl | hx
        · rw [hk']; exact fun e' => hkk (inj _ _ e').symm
        · exact h2 x hx
      · exact .inr ⟨j + 1, x, by rw [h1]; congr 2; omega, by simpa using h2, h3⟩

/-- A struct's keys, out of '==' on them. -/
theorem GoodKey.of_struct [DecidableEq κ] {K : TypeId} {ek : κ → Value} {fs : Array Field} (hK : P.underlying K = some (.struct fs))
    (check : ∀ (b : Bool) (k : κ) (w : World), (Instr.checkKey b 10000 K (ek k)).run P w = .ok () w)
    (heq : ∀ a b w, (Op.equal K (ek a) (ek b)).run P w = .ok (decide (a = b)) w) (bits : ∀ k, Instr.sameBits 10000 (ek k) (ek k) = true) (inj : ∀ a b, ek a = ek b → a = b) : GoodKey P K ek := by
  refine ⟨check, fun k es w h => ?_, bits, inj⟩
  cases es with
  | nil => exact ⟨none, by simp [Instr.findKey, run_underlying hK, Instr.findNow], .inl ⟨rfl, by simp⟩⟩
  | cons e es =>
    obtain ⟨r, hr, hc⟩ := findAsking_run inj heq k w (e :: es) 0 h
    have hn : Instr.findNow (.struct fs) (ek k) (e :: es) 0 = none := by
      simp [Instr.findNow, Instr.sameNow]
    refine ⟨r, ?_, ?_⟩
    · simp [Instr.findKey, Sem.run_bind, run_underlying hK, hn, hr]
    · simpa using hc

/-- Block b is a map: at the key k stands m k. -/
def MapIs (w : World) (b : Nat) (ek : κ → Value) (ev : ν → Value) (m : κ → Option ν) : Prop :=
  ∃ (es : Array MapEntry) (clock : Nat), w.heap[b]? = some (.map es clock) ∧
    (∀ (i j : Nat) (ei ej : MapEntry), es.toList[i]? = some ei → es.toList[j]? = some ej → (ei.key = ej.key ∨ ei.born = ej.born) → i = j) ∧
    (∀ e ∈ es.toList, e.born < clock) ∧ (∀ e ∈ es.toList, ∃ k v, e.key = ek k ∧ e.val = ev v ∧ m k = some v) ∧
    (∀ k v, m k = some v → ∃ e ∈ es.toList, e.key = ek k ∧ e.val = ev v)

theorem MapIs.lt {w : World} {b : Nat} {ek : κ → Value} {ev : ν → Value} {m : κ → Option ν} (h : MapIs w b ek ev m) : b < w.heap.size := by
  obtain ⟨es, clock, hb, _⟩ := h; exact (Array.getElem?_eq_some_iff.1 hb).1
theorem MapIs.at_ {w w' : World} {b : Nat} {ek : κ → Value} {ev : ν → Value} {m : κ → Option ν} (h : MapIs w b ek ev m) (e : w'.heap[b]? = w.heap[b]?) : MapIs w' b ek ev m := by
  obtain ⟨es, clock, hb, hr⟩ := h; exact ⟨es, clock, e.trans hb, hr⟩
theorem MapIs.later {w w' : World} {b : Nat} {ek : κ → Value} {ev : ν → Value} {m : κ → Option ν} (h : MapIs w b ek ev m) (hb : Below w.heap.size w w') : MapIs w' b ek ev m := h.at_ (hb.block b h.lt)
theorem MapIs.moves {Bs : Nat → Prop} {w w' : World} {b : Nat} {ek : κ → Value} {ev : ν → Value} {m : κ → Option ν} (h : MapIs w b ek ev m) (hm : Moves Bs w w') (hb : ¬ Bs b) : MapIs w' b ek ev m := h.at_ (hm.block b h.lt hb)
theorem MapIs.alloc {w : World} {b : Nat} {ek : κ → Value} {ev : ν → Value} {m : κ → Option ν} (h : MapIs w b ek ev m) (o : Obj) : MapIs (w.alloc o) b ek ev m := h.at_ (Below.heap_alloc _ _ _ h.lt)
theorem MapIs.set {w : World} {b c i : Nat} {u : Value} {ek : κ → Value} {ev : ν → Value} {m : κ → Option ν} (h : MapIs w b ek ev m) (hn : b ≠ c) : MapIs (w.setCell ⟨c, i, none⟩ u) b ek ev m := h.at_ (Below.heap_setCell w ⟨c, i, none⟩ u b hn)
theorem MapIs.made (w : World) (ek : κ → Value) (ev : ν → Value) : MapIs (w.alloc (.map #[] 0)) w.heap.size ek ev (fun _ => none) :=
  ⟨#[], 0, heap_alloc_new w _, by simp, by simp, by simp, by simp⟩
theorem MapIs.made' {w : World} {b : Nat} (ek : κ → Value) (ev : ν → Value) (h : b = w.heap.size) : MapIs (w.alloc (.map #[] 0)) b ek ev (fun _ => none) := h ▸ MapIs.made w ek ev

variable {w : World} {b : Nat} {K E T : TypeId} {ek : κ → Value} {ev : ν → Value} {m : κ → Option ν}

theorem MapIs.lookup (h : MapIs w b ek ev m) (G : GoodKey P K ek) (hT : P.underlying T = some (.map K E)) {z : Value} (hz : (zeroValue E).run P w = .ok z w) (k : κ) (ok : Bool) :
    (Instr.lookup T (.map (some b)) (ek k) ok).run P w = .ok (if ok then .tuple #[(m k).elim z ev, .bool (m k).isSome] else (m k).elim z ev) w := by
  obtain ⟨es, clock, hb, h1, h2, h3, h4⟩ := h
  obtain ⟨r, hr, hc⟩ := G.find k es.toList w (fun e he => by obtain ⟨k', v, hk, _⟩ := h3 e he; exact ⟨k', hk⟩)
  have hg : (getObj b).run P w = .ok (.map es clock) w := by simp [getObj, Sem.run, hb]
  rcases hc with ⟨rfl, hno⟩ | ⟨i, e, rfl, hi, hk⟩
  · have hm : m k = none := by
      cases hm : m k with
      | none => rfl
      | some v => obtain ⟨e, he, hk, _⟩ := h4 k v hm; exact absurd hk (hno e he)
    simp [Instr.lookup, Sem.run_bind, run_underlying hT, hg, Result.andThen, G.check, hr, hz, hm]
  · obtain ⟨k', v, hk', hv, hm⟩ := h3 e (List.mem_of_getElem? hi)
    have : k' = k := G.inj _ _ (hk'.symm.trans hk)
    subst this
    simp [Instr.lookup, Sem.run_bind, run_underlying hT, hg, Result.andThen, G.check, hr, hm, hv]

/-- m with v at k. -/
def upd [DecidableEq κ] (m : κ → Option ν) (k : κ) (v : ν) : κ → Option ν := fun x => if x = k then some v else m x

theorem MapIs.update [DecidableEq κ] (h : MapIs w b ek ev m) (G : GoodKey P K ek) (hT : P.underlying T = some (.map K E)) (k : κ) (v : ν) :
    ∃ w', (Instr.mapUpdate T (.map (some b)) (ek k) (ev v)).run P w = .ok () w' ∧ MapIs w' b ek ev (upd m k v) ∧ Moves (· = b) w w' ∧ w'.heap.size = w.heap.size := by
  obtain ⟨es, clock, hb, h1, h2, h3, h4⟩ := h
  have hlt := (Array.getElem?_eq_some_iff.1 hb).1
  obtain ⟨r, hr, hc⟩ := G.find k es.toList w (fun e he => by obtain ⟨k', v, hk, _⟩ := h3 e he; exact ⟨k', hk⟩)
  have hg : (getObj b).run P w = .ok (.map es clock) w := by simp [getObj, Sem.run, hb]
  have hset : ∀ o, (setObj b o).run P w = .ok () { w with heap := w.heap.setIfInBounds b o } := by intro o; simp [setObj, Sem.run, hb]
  have hmv : ∀ o, Moves (· = b) w { w with heap := w.heap.setIfInBounds b o } := fun o => ⟨rfl, rfl, rfl, by simp, fun i hi hn => by simp [Ne.symm hn]⟩
  rcases hc with ⟨rfl, hno⟩ | ⟨i, e, rfl, hi, hk⟩
  · refine ⟨{ w with heap := w.heap.setIfInBounds b (.map (es.push { key := ek k, val := ev v, born := clock }) (clock + 1)) }, by simp [Instr.mapUpdate, Sem.run_bind, run_underlying hT, hg, Result.andThen, G.check, hr, hset], ⟨_, _, by simp [hlt]; exact ⟨rfl, rfl⟩, ?_, ?_, ?_, ?_⟩, hmv _, by simp⟩
    · intro i j ei ej hi hj hij
      simp only [Array.toList_push] at hi hj
      rw [List.getElem?_append] at hi hj
      split at hi <;> split at hj
      · exact h1 i j ei ej hi hj hij
      · rename_i ha hb'
        have : j = es.toList.length := by
          have := (List.getElem?_eq_some_iff.1 hj).1; simp at this; simp; simp at hb'; omega
        subst this
        simp at hj; subst hj
        have hm := List.mem_of_getElem? hi
        rcases hij with e | e
        · exact absurd e (hno ei hm)
        · have := h2 ei hm; simp at e; omega
      · rename_i ha hb'
        have : i = es.toList.length := by
          have := (List.getElem?_eq_some_iff.1 hi).1; simp at this; simp; simp at ha; omega
        subst this
        simp at hi; subst hi
        have hm := List.mem_of_getElem? hj
        rcases hij with e | e
        · exact absurd e.symm (hno ej hm)
        · have := h2 ej hm; simp at e; omega
      · rename_i ha hb'
        have a1 := (List.getElem?_eq_some_iff.1 hi).1
        have a2 := (List.getElem?_eq_some_iff.1 hj).1
        simp at a1 a2 ha hb'; omega
    · intro e he
      simp at he
      rcases he with he | rfl
      · have := h2 e (by simpa using he); omega
      · simp
    · intro e he
      simp at he
      rcases he with he | rfl
      · obtain ⟨k', v', hk', hv', hm'⟩ := h3 e (by simpa using he)
        refine ⟨k', v', hk', hv', ?_⟩
        have : k' ≠ k := fun e' => hno e (by simpa using he) (by rw [hk', e'])
        simp [upd, this, hm']
      · exact ⟨k, v, rfl, rfl, by simp [upd]⟩
    · intro k' v' hm'
      by_cases e : k' = k
      · subst e; simp [upd] at hm'; subst hm'
        exact ⟨{ key := ek k', val := ev v, born := clock }, by simp, rfl, rfl⟩
      · simp [upd, e] at hm'
        obtain ⟨x, hx, h⟩ := h4 k' v' hm'
        exact ⟨x, by simp at hx; simp [hx], h⟩
  · have hil : i < es.size := by have := (List.getElem?_eq_some_iff.1 hi).1; simpa using this
    have hes : es[i]? = some e := by simpa using hi
    have hks : (Instr.keyThatStays (((es[i]?).map (·.key)).getD (ek k)) (ek k)).run P w = .ok (ek k) w := by
      simp [hes, hk, Instr.keyThatStays, G.bits]
    have hget : ∀ j x, (es.modify i fun e => { e with key := ek k, val := ev v }).toList[j]? = some x → ∃ y, es.toList[j]? = some y ∧ x.born = y.born ∧ x.key = y.key ∧ (j ≠ i → x = y) ∧ (j = i → x.val = ev v) := by
      intro j x hx
      simp only [Array.toList_modify, List.getElem?_modify] at hx
      cases hy : es.toList[j]? with
      | none => simp [hy] at hx
      | some y =>
        simp [hy] at hx
        by_cases e' : i = j
        · subst e'
          have : y = e := by rw [hi] at hy; cases hy; rfl
          subst this
          simp at hx; subst hx
          exact ⟨y, rfl, rfl, hk.symm, by simp, by simp⟩
        · simp [e'] at hx; subst hx
          exact ⟨y, rfl, rfl, rfl, fun _ => rfl, fun e2 => absurd e2.symm e'⟩
    refine ⟨{ w with heap := w.heap.setIfInBounds b (.map (es.modify i fun e => { e with key := ek k, val := ev v }) clock) }, ?_, ⟨_, _, by simp [hlt]; exact ⟨rfl, rfl⟩, ?_, ?_, ?_, ?_⟩, hmv _, by simp⟩
    · simp only [Instr.mapUpdate, Sem.run_bind, run_underlying hT, hg, Result.andThen, G.check, hr]
      simp only [hks, hset]
    · intro a c ea ec hea hec hac
      obtain ⟨ya, q1, q2, q3, _⟩ := hget a ea hea
      obtain ⟨yc, r1, r2, r3, _⟩ := hget c ec hec
      exact h1 a c ya yc q1 r1 (by rcases hac with e | e; exact .inl (by rw [← q3, ← r3, e]); exact .inr (by rw [← q2, ← r2, e]))
    · intro x hx
      obtain ⟨j, hj⟩ := List.getElem?_of_mem hx
      obtain ⟨y, q1, q2, _⟩ := hget j x hj
      rw [q2]; exact h2 y (List.mem_of_getElem? q1)
    · intro x hx
      obtain ⟨j, hj⟩ := List.getElem?_of_mem hx
      obtain ⟨y, q1, q2, q3, q4, q5⟩ := hget j x hj
      obtain ⟨k', v', hk', hv', hm'⟩ := h3 y (List.mem_of_getElem? q1)
      by_cases e' : j = i
      · subst e'
        have : y = e := by rw [hi] at q1; cases q1; rfl
        subst this
        exact ⟨k, v, by rw [q3, hk], q5 rfl, by simp [upd]⟩
      · have := q4 e'; subst this
        refine ⟨k', v', hk', hv', ?_⟩
        have : k' ≠ k := fun e2 => e' (h1 j i x e q1 hi (.inl (by rw [hk', e2, hk])))
        simp [upd, this, hm']
    · intro k' v' hm'
      have hat : ∀ j y, es.toList[j]? = some y → (es.modify i fun e => { e with key := ek k, val := ev v }).toList[j]? = some (if i = j then { y with key := ek k, val := ev v } else y) := by
        intro j y hy
        simp only [Array.toList_modify, List.getElem?_modify, hy]
        simp
      by_cases e' : k' = k
      · subst e'; simp [upd] at hm'; subst hm'
        exact ⟨_, List.mem_of_getElem? (hat i e hi), by simp, by simp⟩
      · simp [upd, e'] at hm'
        obtain ⟨x, hx, hxk, hxv⟩ := h4 k' v' hm'
        obtain ⟨j, hj⟩ := List.getElem?_of_mem hx
        have hne : i ≠ j := by
          intro e2; subst e2
          rw [hi] at hj; cases hj
          exact e' (G.inj _ _ (hxk.symm.trans hk))
        have := hat j x hj
        rw [if_neg hne] at this
        exact ⟨x, List.mem_of_getElem? this, hxk, hxv⟩

/-- Block r walks over the map in block b: ls are the keys that are still to come. -/
def WalkIs (w : World) (b r : Nat) (ek : κ → Value) (ev : ν → Value) (m : κ → Option ν) (ls : List κ) : Prop :=
  ∃ (es : Array MapEntry) (clock since c0 : Nat) (seen : Array Nat), w.heap[b]? = some (.map es clock) ∧ w.heap[r]? = some (.mapIter (some b) since seen c0) ∧ since ≤ c0 ∧ since ≤ clock ∧ (∀ x ∈ es.toList, x.born < since) ∧
    (∀ (i j : Nat) (ei ej : MapEntry), es.toList[i]? = some ei → es.toList[j]? = some ej → (ei.key = ej.key ∨ ei.born = ej.born) → i = j) ∧ (∀ e ∈ es.toList, ∃ k v, e.key = ek k ∧ e.val = ev v ∧ m k = some v) ∧
    (leftOf es seen).toList.map (·.key) = ls.map ek

theorem WalkIs.at_ {w w' : World} {b r : Nat} {ls : List κ} (h : WalkIs w b r ek ev m ls) (e1 : w'.heap[b]? = w.heap[b]?) (e2 : w'.heap[r]? = w.heap[r]?) : WalkIs w' b r ek ev m ls := by
  obtain ⟨es, clock, since, c0, seen, hb, hr, hx⟩ := h
  exact ⟨es, clock, since, c0, seen, e1.trans hb, e2.trans hr, hx⟩
theorem WalkIs.lt {w : World} {b r : Nat} {ls : List κ} (h : WalkIs w b r ek ev m ls) : b < w.heap.size ∧ r < w.heap.size := by
  obtain ⟨es, clock, since, c0, seen, hb, hr, hx⟩ := h
  exact ⟨(Array.getElem?_eq_some_iff.1 hb).1, (Array.getElem?_eq_some_iff.1 hr).1⟩
theorem WalkIs.moves {Bs : Nat → Prop} {w w' : World} {b r : Nat} {ls : List κ} (h : WalkIs w b r ek ev m ls) (hm : Moves Bs w w') (hb : ¬ Bs b) (hr : ¬ Bs r) : WalkIs w' b r ek ev m ls :=
  h.at_ (hm.block b h.lt.1 hb) (hm.block r h.lt.2 hr)

theorem nodup_map_of {α β : Type} (f : α → β) (l : List α) (h : ∀ (i j : Nat) (x y : α), l[i]? = some x → l[j]? = some y → f x = f y → i = j) : (l.map f).Nodup := by
  rw [List.Nodup, List.pairwise_map, List.pairwise_iff_getElem]
  intro i j hi hj hij e
  have := h i j l[i] l[j] (by simp) (by simp) e
  omega
theorem nodup_born {es : Array MapEntry} (h1 : ∀ (i j : Nat) (ei ej : MapEntry), es.toList[i]? = some ei → es.toList[j]? = some ej → (ei.key = ej.key ∨ ei.born = ej.born) → i = j) : (es.toList.map (·.born)).Nodup :=
  nodup_map_of _ _ fun i j x y hx hy e => h1 i j x y hx hy (.inr e)
theorem walk_left [DecidableEq κ] {ek : κ → Value} (inj : ∀ a b, ek a = ek b → a = b) (bn : Nat) (k : κ) : ∀ (L : List MapEntry) (ls : List κ), L.map (·.key) = ls.map ek → (∀ x ∈ L, x.born = bn ↔ x.key = ek k) →
    (L.filter (fun x => !(x.born == bn))).map (·.key) = (ls.filter (fun x => decide (x ≠ k))).map ek
  | [], [], _, _ => rfl
  | [], _ :: _, h, _ => by simp at h
  | _ :: _, [], h, _ => by simp at h
  | x :: L, y :: ls, h, hb => by
    simp only [List.map_cons, List.cons.injEq] at h
    have ih := walk_left inj bn k L ls h.2 (fun z hz => hb z (by simp [hz]))
    have hx := hb x (by simp)
    by_cases e : y = k
    · have : x.born = bn := hx.2 (by rw [h.1, e])
      rw [List.filter_cons_of_neg (by simp [this]), List.filter_cons_of_neg (by simp [e])]
      exact ih
    · have : ¬ x.born = bn := fun e' => e (inj _ _ (h.1.symm.trans (hx.1 e')))
      rw [List.filter_cons_of_pos (by simp [this]), List.filter_cons_of_pos (by simp [e]), List.map_cons, List.map_cons, ih, h.1]

theorem MapIs.walk [DecidableEq κ] (h : MapIs w b ek ev m) (inj : ∀ a b, ek a = ek b → a = b) (hT : P.underlying T = some (.map K E)) :
    (Instr.range T (.map (some b))).run P w = .ok (.pointer (some ⟨w.heap.size, 0, none⟩)) (w.alloc (match w.heap[b]? with | some (.map _ clock) => .mapIter (some b) clock #[] clock | _ => .mapIter none 0 #[] 0)) ∧
    ∃ ls : List κ, WalkIs (w.alloc (match w.heap[b]? with | some (.map _ clock) => .mapIter (some b) clock #[] clock | _ => .mapIter none 0 #[] 0)) b w.heap.size ek ev m ls ∧ ls.Nodup ∧ ∀ k, k ∈ ls ↔ (m k).isSome = true := by
  have hlt := h.lt
  obtain ⟨es, clock, hb, h1, h2, h3, h4⟩ := h
  simp only [hb]
  refine ⟨?_, ?_⟩
  · have hg : (getObj b).run P w = .ok (.map es clock) w := by simp [getObj, Sem.run, hb]
    simp [Instr.range, Sem.run_bind, run_underlying hT, hg, Result.andThen]
  · have hkeys : ∀ l : List MapEntry, (∀ e ∈ l, ∃ k v, e.key = ek k ∧ e.val = ev v ∧ m k = some v) → ∃ ls : List κ, l.map (·.key) = ls.map ek := by
      intro l
      induction l with
      | nil => exact fun _ => ⟨[], rfl⟩
      | cons e l ih =>
        intro hl
        obtain ⟨ls, hls⟩ := ih (fun x hx => hl x (by simp [hx]))
        obtain ⟨k, v, hk, _⟩ := hl e (by simp)
        exact ⟨k :: ls, by simp [hk, hls]⟩
    obtain ⟨ls, hls⟩ := hkeys es.toList h3
    have hleft : leftOf es #[] = es := by
      unfold leftOf; simp
    refine ⟨ls, ⟨es, clock, clock, clock, #[], ?_, heap_alloc_new w _, Nat.le_refl _, Nat.le_refl _, h2, h1, h3, by rw [hleft]; exact hls⟩, ?_, fun k => ⟨fun hk => ?_, fun hk => ?_⟩⟩
    · exact (Below.heap_alloc w _ b hlt).trans hb
    · have hn : (es.toList.map (·.key)).Nodup := nodup_map_of _ _ fun i j x y hx hy e => h1 i j x y hx hy (.inl e)
      rw [hls, List.Nodup, List.pairwise_map] at hn
      exact hn.imp fun h e => h (congrArg ek e)
    · have : ek k ∈ es.toList.map (·.key) := by rw [hls]; exact List.mem_map.2 ⟨k, hk, rfl⟩
      obtain ⟨e, he, hek⟩ := List.mem_map.1 this
      obtain ⟨k', v, hk', _, hm⟩ := h3 e he
      have : k' = k := inj _ _ (hk'.symm.trans hek)
      subst this; simp [hm]
    · obtain ⟨v, hv⟩ := Option.isSome_iff_exists.1 hk
      obtain ⟨e, he, hek, _⟩ := h4 k v hv
      have : ek k ∈ es.toList.map (·.key) := List.mem_map.2 ⟨e, he, hek⟩
      rw [hls] at this
      obtain ⟨k', hk', e'⟩ := List.mem_map.1 this
      have := inj _ _ e'
      subst this; exact hk'

theorem WalkIs.done {r : Nat} (h : WalkIs w b r ek ev m []) (ty : TypeId) : (Instr.next (.pointer (some ⟨r, 0, none⟩)) false ty).run P w = .ok (.tuple #[.bool false]) w := by
  obtain ⟨es, clock, since, c0, seen, hb, hr, hc, hc2, ho, h1, h3, hl⟩ := h
  rcases run_next_at (P := P) w ty r b since c0 seen es clock hr hb ho hc with ⟨_, h⟩ | ⟨e, he, _⟩
  · exact h
  · have : e.key ∈ (leftOf es seen).toList.map (·.key) := List.mem_map.2 ⟨e, he, rfl⟩
    rw [hl] at this; simp at this

theorem WalkIs.step [DecidableEq κ] {r : Nat} {ls : List κ} (h : WalkIs w b r ek ev m ls) (hne : ls ≠ []) (inj : ∀ a b, ek a = ek b → a = b) (ty : TypeId) :
    ∃ k v w', k ∈ ls ∧ m k = some v ∧ (Instr.next (.pointer (some ⟨r, 0, none⟩)) false ty).run P w = .ok (.tuple #[.bool true, ek k, ev v]) w' ∧ WalkIs w' b r ek ev m (ls.filter (fun x => decide (x ≠ k))) ∧ Moves (· = r) w w' ∧ w'.heap.size = w.heap.size ∧
      ∀ W : World, W.heap[b]? = w'.heap[b]? → W.heap[r]? = w'.heap[r]? → (Instr.entry (.pointer (some ⟨r, 0, none⟩))).run P W = .ok (.tuple #[ek k, ev v]) W := by
  have hlt := h.lt
  obtain ⟨es, clock, since, c0, seen, hb, hr, hc, hc2, ho, h1, h3, hl⟩ := h
  have hbr : b ≠ r := by rintro rfl; rw [hb] at hr; cases hr
  rcases run_next_at (P := P) w ty r b since c0 seen es clock hr hb ho hc with ⟨h0, _⟩ | ⟨e, he, w1, hw1, hrun⟩
  · exfalso
    have : (leftOf es seen).toList = [] := by
      rw [← List.length_eq_zero_iff]; simpa using h0
    rw [this] at hl
    cases ls with
    | nil => exact hne rfl
    | cons => simp at hl
  · have hes : e ∈ es.toList := by simp [leftOf] at he; simpa using he.1
    obtain ⟨k, v, hk, hv, hm⟩ := h3 e hes
    have hkl : k ∈ ls := by
      have : e.key ∈ (leftOf es seen).toList.map (·.key) := List.mem_map.2 ⟨e, he, rfl⟩
      rw [hl, hk] at this
      obtain ⟨k', hk', e'⟩ := List.mem_map.1 this
      have := inj _ _ e'; subst this; exact hk'
    have hw1b : w1.heap = w.heap ∧ w1.os = w.os ∧ w1.tape = w.tape ∧ w1.output = w.output := by rcases hw1 with rfl | rfl <;> exact ⟨rfl, rfl, rfl, rfl⟩
    have hB : (Go.ChangeMaps.setBlock w1 r (.mapIter (some b) since (seen.push e.born) clock)).heap[b]? = some (.map es clock) := by
      simp only [Go.ChangeMaps.setBlock, Array.getElem?_setIfInBounds, hw1b.1, hb]; rw [if_neg (Ne.symm hbr)]
    have hR : (Go.ChangeMaps.setBlock w1 r (.mapIter (some b) since (seen.push e.born) clock)).heap[r]? = some (.mapIter (some b) since (seen.push e.born) clock) := by
      simp [Go.ChangeMaps.setBlock, hw1b.1, hlt.2]
    refine ⟨k, v, _, hkl, hm, by rw [hrun, hk, hv], ⟨es, clock, since, clock, seen.push e.born, hB, hR, hc2, hc2, ho, h1, h3, ?_⟩, ?_, ?_, ?_⟩
    · have hpush : (leftOf es (seen.push e.born)).toList = (leftOf es seen).toList.filter (fun x => !(x.born == e.born)) := by
        simp only [leftOf, Array.toList_filter, List.filter_filter]
        congr 1
        funext x
        rw [Bool.eq_iff_iff]
        simp
        constructor
        · rintro ⟨h1, h2⟩; exact ⟨h2, h1⟩
        · rintro ⟨h1, h2⟩; exact ⟨h2, h1⟩
      rw [hpush]
      refine walk_left inj e.born k _ ls hl fun x hx => ?_
      have hxs : x ∈ es.toList := by simp [leftOf] at hx; simpa using hx.1
      obtain ⟨i, hi⟩ := List.getElem?_of_mem hxs
      obtain ⟨j, hj⟩ := List.getElem?_of_mem hes
      constructor
      · intro e'
        have := h1 i j x e hi hj (.inr e'); subst this
        rw [hi] at hj; cases hj; exact hk
      · intro e'
        have := h1 i j x e hi hj (.inl (e'.trans hk.symm)); subst this
        rw [hi] at hj; cases hj; rfl
    · refine ⟨by simp [Go.ChangeMaps.setBlock, hw1b], by simp [Go.ChangeMaps.setBlock, hw1b], by simp [Go.ChangeMaps.setBlock, hw1b], by simp [Go.ChangeMaps.setBlock, hw1b], fun i hi hn => ?_⟩
      simp only [Go.ChangeMaps.setBlock, Array.getElem?_setIfInBounds, hw1b.1]; rw [if_neg (fun e => hn e.symm)]
    · simp [Go.ChangeMaps.setBlock, hw1b]
    · intro W e1 e2
      rw [← hk, ← hv]
      exact run_entry_at W r b since seen es clock e (e2.trans hR) (e1.trans hB) hes (nodup_born h1)
theorem wpList_lookupM {ops : Array Oper} {rest : List Oper} {o : Oper} {a : Act} {Q : Exit → Act → World → Prop} (hg : o.guard = none) (x y : Operand) (t : TypeId) (ok : Bool) (hop : o.op = Op.lookup t x y ok) (K E : TypeId) (hT : P.underlying t = some (.map K E)) (G : GoodKey P K ek) {z : Value} (hz : (zeroValue E).run P w = .ok z w) (b : Nat) (hx : a.eval x = .map (some b)) (h : MapIs w b ek ev m) (k : κ) (hy : a.eval y = ek k)
    (hK : wpList P ops Q rest (a.put o.dst (if ok then .tuple #[(m k).elim z ev, .bool (m k).isSome] else (m k).elim z ev)) w) : wpList P ops Q (o :: rest) a w := by
  refine wpList_plain hg fun K' hK' => ?_
  have hrun := h.lookup G hT hz k ok
  unfold Oper.wp
  simp only [execOp, hop, hx, hy, Sem.run_bind, hrun, Result.andThen_ok, Sem.run_pure]
  exact hK' _ _ hK

theorem wpListIn_lookupM {F : Fence} {nF : Nat} {ops : Array Oper} {rest : List Oper} {o : Oper} {a : Act} {Q : Exit → Act → World → Prop} (hg : o.guard = none) (x y : Operand) (t : TypeId) (ok : Bool) (hop : o.op = Op.lookup t x y ok) (K E : TypeId) (hT : P.underlying t = some (.map K E)) (G : GoodKey P K ek) {z : Value} (hz : (zeroValue E).run P w = .ok z w) (b : Nat) (hx : a.eval x = .map (some b)) (h : MapIs w b ek ev m) (k : κ) (hy : a.eval y = ek k)
    (hK : wpListIn F nF P ops Q rest (a.put o.dst (if ok then .tuple #[(m k).elim z ev, .bool (m k).isSome] else (m k).elim z ev)) w) : wpListIn F nF P ops Q (o :: rest) a w := by
  refine wpListIn_plain hg fun K' hK' => ?_
  have hrun := h.lookup G hT hz k ok
  unfold Oper.wpIn
  refine ⟨by simp [Oper.about, hop], ?_⟩
  rw [Oper.semAt_plain F _ _ (by rw [hop]; intro c hc'; cases hc')]
  simp only [execOp, hop, hx, hy, Sem.run_bind, hrun, Result.andThen_ok, Sem.run_pure]
  exact hK' _ _ hK

theorem wpList_updateM {ops : Array Oper} {rest : List Oper} {o : Oper} {a : Act} {Q : Exit → Act → World → Prop} (hg : o.guard = none) [DecidableEq κ] (x y z : Operand) (t : TypeId) (hop : o.op = Op.mapUpdate t x y z) (K E : TypeId) (hT : P.underlying t = some (.map K E)) (G : GoodKey P K ek) (b : Nat) (hx : a.eval x = .map (some b)) (h : MapIs w b ek ev m) (k : κ) (hy : a.eval y = ek k) (v : ν) (hz : a.eval z = ev v)
    (hK : ∀ w', MapIs w' b ek ev (upd m k v) → Moves (· = b) w w' → w'.heap.size = w.heap.size → wpList P ops Q rest (a.put o.dst undef) w') : wpList P ops Q (o :: rest) a w := by
  refine wpList_plain hg fun K' hK' => ?_
  obtain ⟨w', hrun, r1, r2, r3⟩ := h.update G hT k v
  unfold Oper.wp
  simp only [execOp, hop, hx, hy, hz, Sem.run_bind, hrun, Result.andThen_ok, Sem.run_pure]
  exact hK' _ _ (hK w' r1 r2 r3)

theorem wpListIn_updateM {F : Fence} {nF : Nat} {ops : Array Oper} {rest : List Oper} {o : Oper} {a : Act} {Q : Exit → Act → World → Prop} (hg : o.guard = none) [DecidableEq κ] (x y z : Operand) (t : TypeId) (hop : o.op = Op.mapUpdate t x y z) (K E : TypeId) (hT : P.underlying t = some (.map K E)) (G : GoodKey P K ek) (b : Nat) (hx : a.eval x = .map (some b)) (h : MapIs w b ek ev m) (k : κ) (hy : a.eval y = ek k) (v : ν) (hz : a.eval z = ev v)
    (hK : ∀ w', MapIs w' b ek ev (upd m k v) → Moves (· = b) w w' → w'.heap.size = w.heap.size → wpListIn F nF P ops Q rest (a.put o.dst undef) w') : wpListIn F nF P ops Q (o :: rest) a w := by
  refine wpListIn_plain hg fun K' hK' => ?_
  obtain ⟨w', hrun, r1, r2, r3⟩ := h.update G hT k v
  unfold Oper.wpIn
  refine ⟨by simp [Oper.about, hop], ?_⟩
  rw [Oper.semAt_plain F _ _ (by rw [hop]; intro c hc'; cases hc')]
  simp only [execOp, hop, hx, hy, hz, Sem.run_bind, hrun, Result.andThen_ok, Sem.run_pure]
  exact hK' _ _ (hK w' r1 r2 r3)

theorem wpList_insertM {ops : Array Oper} {rest : List Oper} {o : Oper} {a : Act} {Q : Exit → Act → World → Prop} (hg : o.guard = none) [DecidableEq κ] (x y z : Operand) (t : TypeId) (hop : o.op = Op.insert t x y z) (K E : TypeId) (hT : P.underlying t = some (.map K E)) (G : GoodKey P K ek) (b : Nat) (hx : a.eval x = .map (some b)) (h : MapIs w b ek ev m) (k : κ) (hy : a.eval y = ek k) (v : ν) (hz : a.eval z = ev v)
    (hK : ∀ w', MapIs w' b ek ev (upd m k v) → Moves (· = b) w w' → w'.heap.size = w.heap.size → wpList P ops Q rest (a.put o.dst undef) w') : wpList P ops Q (o :: rest) a w := by
  refine wpList_plain hg fun K' hK' => ?_
  obtain ⟨w', hrun, r1, r2, r3⟩ := h.update G hT k v
  unfold Oper.wp
  simp only [execOp, hop, hx, hy, hz, Sem.run_bind, hrun, Result.andThen_ok, Sem.run_pure]
  exact hK' _ _ (hK w' r1 r2 r3)

theorem wpListIn_insertM {F : Fence} {nF : Nat} {ops : Array Oper} {rest : List Oper} {o : Oper} {a : Act} {Q : Exit → Act → World → Prop} (hg : o.guard = none) [DecidableEq κ] (x y z : Operand) (t : TypeId) (hop : o.op = Op.insert t x y z) (K E : TypeId) (hT : P.underlying t = some (.map K E)) (G : GoodKey P K ek) (b : Nat) (hx : a.eval x = .map (some b)) (h : MapIs w b ek ev m) (k : κ) (hy : a.eval y = ek k) (v : ν) (hz : a.eval z = ev v)
    (hK : ∀ w', MapIs w' b ek ev (upd m k v) → Moves (· = b) w w' → w'.heap.size = w.heap.size → wpListIn F nF P ops Q rest (a.put o.dst undef) w') : wpListIn F nF P ops Q (o :: rest) a w := by
  refine wpListIn_plain hg fun K' hK' => ?_
  obtain ⟨w', hrun, r1, r2, r3⟩ := h.update G hT k v
  unfold Oper.wpIn
  refine ⟨by simp [Oper.about, hop], ?_⟩
  rw [Oper.semAt_plain F _ _ (by rw [hop]; intro c hc'; cases hc')]
  simp only [execOp, hop, hx, hy, hz, Sem.run_bind, hrun, Result.andThen_ok, Sem.run_pure]
  exact hK' _ _ (hK w' r1 r2 r3)

theorem wpList_rangeM {ops : Array Oper} {rest : List Oper} {o : Oper} {a : Act} {Q : Exit → Act → World → Prop} (hg : o.guard = none) [DecidableEq κ] (x : Operand) (t : TypeId) (hop : o.op = Op.range t x) (K E : TypeId) (hT : P.underlying t = some (.map K E)) (inj : ∀ a b, ek a = ek b → a = b) (b : Nat) (hx : a.eval x = .map (some b)) (h : MapIs w b ek ev m)
    (hK : ∀ (ls : List κ) (w' : World), WalkIs w' b w.heap.size ek ev m ls → ls.Nodup → (∀ k, k ∈ ls ↔ (m k).isSome = true) → Below w.heap.size w w' → w'.heap.size = w.heap.size + 1 → wpList P ops Q rest (a.put o.dst (.pointer (some ⟨w.heap.size, 0, none⟩))) w') : wpList P ops Q (o :: rest) a w := by
  refine wpList_plain hg fun K' hK' => ?_
  obtain ⟨hrun, ls, h1, h2, h3⟩ := h.walk (P := P) inj hT
  unfold Oper.wp
  simp only [execOp, hop, hx, Sem.run_bind, hrun, Result.andThen_ok, Sem.run_pure]
  exact hK' _ _ (hK ls _ h1 h2 h3 ((Below.refl _ _).alloc (Nat.le_refl _) _) (by simp))

theorem wpListIn_rangeM {F : Fence} {nF : Nat} {ops : Array Oper} {rest : List Oper} {o : Oper} {a : Act} {Q : Exit → Act → World → Prop} (hg : o.guard = none) [DecidableEq κ] (x : Operand) (t : TypeId) (hop : o.op = Op.range t x) (K E : TypeId) (hT : P.underlying t = some (.map K E)) (inj : ∀ a b, ek a = ek b → a = b) (b : Nat) (hx : a.eval x = .map (some b)) (h : MapIs w b ek ev m)
    (hK : ∀ (ls : List κ) (w' : World), WalkIs w' b w.heap.size ek ev m ls → ls.Nodup → (∀ k, k ∈ ls ↔ (m k).isSome = true) → Below w.heap.size w w' → w'.heap.size = w.heap.size + 1 → wpListIn F nF P ops Q rest (a.put o.dst (.pointer (some ⟨w.heap.size, 0, none⟩))) w') : wpListIn F nF P ops Q (o :: rest) a w := by
  refine wpListIn_plain hg fun K' hK' => ?_
  obtain ⟨hrun, ls, h1, h2, h3⟩ := h.walk (P := P) inj hT
  unfold Oper.wpIn
  refine ⟨by simp [Oper.about, hop], ?_⟩
  rw [Oper.semAt_plain F _ _ (by rw [hop]; intro c hc'; cases hc')]
  simp only [execOp, hop, hx, Sem.run_bind, hrun, Result.andThen_ok, Sem.run_pure]
  exact hK' _ _ (hK ls _ h1 h2 h3 ((Below.refl _ _).alloc (Nat.le_refl _) _) (by simp))

theorem wpList_nextM {ops : Array Oper} {rest : List Oper} {o : Oper} {a : Act} {Q : Exit → Act → World → Prop} (hg : o.guard = none) [DecidableEq κ] (x : Operand) (hop : o.op = Op.next x false) (inj : ∀ a b, ek a = ek b → a = b) (b r : Nat) (hx : a.eval x = .pointer (some ⟨r, 0, none⟩)) (ls : List κ) (h : WalkIs w b r ek ev m ls) (hne : ls ≠ [])
    (hK : ∀ (k : κ) (v : ν) (w' : World), k ∈ ls → m k = some v → WalkIs w' b r ek ev m (ls.filter (fun x => decide (x ≠ k))) → Moves (· = r) w w' → w'.heap.size = w.heap.size → (Instr.entry (.pointer (some ⟨r, 0, none⟩))).run P w' = .ok (.tuple #[ek k, ev v]) w' → wpList P ops Q rest (a.put o.dst (.tuple #[.bool true, ek k, ev v])) w') : wpList P ops Q (o :: rest) a w := by
  refine wpList_plain hg fun K' hK' => ?_
  obtain ⟨k, v, w', h1, h2, hrun, h3, h4, h5, h6⟩ := h.step (P := P) hne inj o.type
  unfold Oper.wp
  simp only [execOp, hop, hx, Sem.run_bind, hrun, Result.andThen_ok, Sem.run_pure]
  exact hK' _ _ (hK k v w' h1 h2 h3 h4 h5 (h6 w' rfl rfl))

theorem wpListIn_nextM {F : Fence} {nF : Nat} {ops : Array Oper} {rest : List Oper} {o : Oper} {a : Act} {Q : Exit → Act → World → Prop} (hg : o.guard = none) [DecidableEq κ] (x : Operand) (hop : o.op = Op.next x false) (inj : ∀ a b, ek a = ek b → a = b) (b r : Nat) (hx : a.eval x = .pointer (some ⟨r, 0, none⟩)) (ls : List κ) (h : WalkIs w b r ek ev m ls) (hne : ls ≠ [])
    (hK : ∀ (k : κ) (v : ν) (w' : World), k ∈ ls → m k = some v → WalkIs w' b r ek ev m (ls.filter (fun x => decide (x ≠ k))) → Moves (· = r) w w' → w'.heap.size = w.heap.size → (Instr.entry (.pointer (some ⟨r, 0, none⟩))).run P w' = .ok (.tuple #[ek k, ev v]) w' → wpListIn F nF P ops Q rest (a.put o.dst (.tuple #[.bool true, ek k, ev v])) w') : wpListIn F nF P ops Q (o :: rest) a w := by
  refine wpListIn_plain hg fun K' hK' => ?_
  obtain ⟨k, v, w', h1, h2, hrun, h3, h4, h5, h6⟩ := h.step (P := P) hne inj o.type
  unfold Oper.wpIn
  refine ⟨by simp [Oper.about, hop], ?_⟩
  rw [Oper.semAt_plain F _ _ (by rw [hop]; intro c hc'; cases hc')]
  simp only [execOp, hop, hx, Sem.run_bind, hrun, Result.andThen_ok, Sem.run_pure]
  exact hK' _ _ (hK k v w' h1 h2 h3 h4 h5 (h6 w' rfl rfl))

end
end Go.Proofs.Ytcfhbnfincpehaa
