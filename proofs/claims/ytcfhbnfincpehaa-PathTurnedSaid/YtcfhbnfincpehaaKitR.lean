/- Ranges over functions: the marks that such a loop leaves on its activation, and the law in the plain walk's form. Nothing is asked. -/
import Derived.Test.YtcfhbnfincpehaaKitM
import Derived.RangeFuncNested
import Derived.RangeFuncBound
import Derived.RangeFuncCalls
import Derived.RangeFuncLeaves
import Derived.OwnWalkIn
import Derived.TacticsInMore
import Derived.LoopNIn
import Derived.LoopIn
namespace Go.Proofs.Ytcfhbnfincpehaa
open Go.RowKit Go.Shelf

/-- The mark that a range over a function leaves. -/
def Mark (D : Nat) : Deferred := { target := .collected D, args := #[] }
/-- The blocks of the marks: from B on, each once, with no deferred call. -/
def MarksIn (B : Nat) (w : World) (Ds : List Nat) : Prop := Ds.Nodup ∧ ∀ D ∈ Ds, B ≤ D ∧ w.heap[D]? = some (.deferred (some []))
theorem MarksIn.nil (B : Nat) (w : World) : MarksIn B w [] := ⟨List.nodup_nil, by simp⟩
theorem MarksIn.later {B : Nat} {w w' : World} {Ds : List Nat} (h : MarksIn B w Ds) (hb : Below w.heap.size w w') : MarksIn B w' Ds :=
  ⟨h.1, fun D hD => ⟨(h.2 D hD).1, (hb.block D (Array.getElem?_eq_some_iff.1 (h.2 D hD).2).1).trans (h.2 D hD).2⟩⟩
theorem MarksIn.moves {Bs : Nat → Prop} {B : Nat} {w w' : World} {Ds : List Nat} (h : MarksIn B w Ds) (hm : Moves Bs w w') (hn : ∀ D ∈ Ds, ¬ Bs D) : MarksIn B w' Ds :=
  ⟨h.1, fun D hD => ⟨(h.2 D hD).1, (hm.block D (Array.getElem?_eq_some_iff.1 (h.2 D hD).2).1 (hn D hD)).trans (h.2 D hD).2⟩⟩
theorem MarksIn.push {B : Nat} {w W : World} {Ds : List Nat} {D : Nat} (h : MarksIn B w Ds) (h2 : MarksIn B W Ds) (hD : w.heap.size ≤ D) (hB : B ≤ D) (hk : W.heap[D]? = some (.deferred (some []))) : MarksIn B W (D :: Ds) := by
  refine ⟨List.nodup_cons.2 ⟨fun hm => ?_, h.1⟩, fun x hx => ?_⟩
  · have := (Array.getElem?_eq_some_iff.1 (h.2 D hm).2).1; omega
  · rcases List.mem_cons.1 hx with rfl | hx
    · exact ⟨hB, hk⟩
    · exact h2.2 x hx

/-- Behind the marks: their blocks are taken, all else is as it was. -/
structure Wiped (B : Nat) (w w' : World) : Prop where
  os : w'.os = w.os
  tape : w'.tape = w.tape
  output : w'.output = w.output
  size : w'.heap.size = w.heap.size
  same : ∀ k, k < B ∨ (∀ x, w.heap[k]? ≠ some (.deferred x)) → w'.heap[k]? = w.heap[k]?
theorem Wiped.refl (B : Nat) (w : World) : Wiped B w w := ⟨rfl, rfl, rfl, rfl, fun _ _ => rfl⟩
theorem Wiped.below {B B0 : Nat} {w0 w w' : World} (h : Wiped B w w') (hb : Below B0 w0 w) (hB : B0 ≤ B) : Below B0 w0 w' :=
  ⟨h.os.trans hb.os, h.tape.trans hb.tape, h.output.trans hb.output, by rw [h.size]; exact hb.size, fun k hk => (h.same k (.inl (by omega))).trans (hb.block k hk)⟩
theorem Wiped.moves {Bs : Nat → Prop} {B : Nat} {w0 w w' : World} (h : Wiped B w w') (hb : Moves Bs w0 w) (hB : w0.heap.size ≤ B) : Moves Bs w0 w' :=
  ⟨h.os.trans hb.os, h.tape.trans hb.tape, h.output.trans hb.output, by rw [h.size]; exact hb.size, fun k hk hn => (h.same k (.inl (by omega))).trans (hb.block k hk hn)⟩
theorem Wiped.box {B : Nat} {w w' : World} {b : Nat} {cs : List Value} (h : Wiped B w w') (hx : Box w b cs) : Box w' b cs := by
  obtain ⟨T, hx⟩ := hx
  exact ⟨T, (h.same b (.inr fun x e => by rw [hx] at e; cases e)).trans hx⟩
theorem Wiped.map {κ ν : Type} {B : Nat} {w w' : World} {b : Nat} {ek : κ → Value} {ev : ν → Value} {m : κ → Option ν} (h : Wiped B w w') (hx : MapIs w b ek ev m) : MapIs w' b ek ev m := by
  refine hx.at_ (h.same b (.inr fun x e => ?_))
  obtain ⟨es, clock, hb, _⟩ := hx
  rw [hb] at e; cases e
theorem Wiped.cell {B : Nat} {w w' : World} {a : Addr} {v : Value} (h : Wiped B w w') (hx : w.cell? a = some v) : w'.cell? a = some v := by
  have : w'.heap[a.block]? = w.heap[a.block]? := h.same a.block (.inr fun x e => by simp [World.cell?, e] at hx)
  rw [← hx]; exact World.cell?_of_block this

/-- What a body with marks must achieve. -/
def bodyPostC (P : Program) (fn : Func) (B : Nat) (R : Ending → World → Prop) : Exit → Act → World → Prop
  | .normal, a, w | .ret, a, w => ∃ Ds, a.defers = Ds.map Mark ∧ MarksIn B w Ds ∧ ∀ w', Wiped B w w' → ∃ v, (results fn a.tmps).run P w' = .ok v w' ∧ R (.returned v) w'
  | _, _, _ => False

theorem leaves_of_marks {P : Program} {n : Nat} {fn : Func} {tmps : Array Value} {R : Ending → World → Prop} {B : Nat} (w0 : World) : ∀ (Ds : List Nat) (w : World), MarksIn B w Ds → Wiped B w0 w →
    (∀ w', Wiped B w0 w' → ∃ v, (results fn tmps).run P w' = .ok v w' ∧ R (.returned v) w') → LeavesInM Fence.wide n P fn tmps R (Ds.map Mark) .returning w
  | [], w, _, hw, h => h w hw
  | D :: Ds, w, hm, hw, h => by
    have hD := hm.2 D (by simp)
    have hlt := (Array.getElem?_eq_some_iff.1 hD.2).1
    refine ⟨by simp, .inl ⟨D, _, rfl, run_takeDeferred hD.2, leaves_of_marks w0 Ds _ ⟨(List.nodup_cons.1 hm.1).2, fun x hx => ⟨(hm.2 x (by simp [hx])).1, ?_⟩⟩ ?_ h⟩⟩
    · have hne : x ≠ D := fun e => (List.nodup_cons.1 hm.1).1 (e ▸ hx)
      rw [World.putObj_heap_other hne]; exact (hm.2 x (by simp [hx])).2
    · refine ⟨hw.os, hw.tape, hw.output, by simp [World.putObj, hw.size], fun k hk => ?_⟩
      have hne : k ≠ D := by
        rintro rfl
        rcases hk with hk | hk
        · omega
        · have h1 := hw.same k (.inr hk)
          exact hk (some []) (h1.symm.trans hD.2)
      rw [World.putObj_heap_other hne]; exact hw.same k hk

/-- A function's contract out of its body's walk, where the body ranges over functions. -/
theorem calls_of_wpC {P : Program} {f : FuncId} {fn : Func} {c : Code} {args : Array Value} {w : World} {R : Ending → World → Prop} (hf : P.funcs[f]? = some fn) (hb : fn.body = some c) (B : Nat)
    (h : c.wp P (bodyPostC P fn B R) { tmps := args ++ Array.replicate (fn.ntmps - args.size) undef, defers := [] } w) : Calls P f args w R := by
  refine (callsIn_wide (n := 3)).1 (callsIn_of_wp_marks hf hb trivial (wpIn_mono (wpIn_wide.2 h) ?_) rfl)
  intro e a w hq
  cases e with
  | normal => obtain ⟨Ds, hd, hm, hr⟩ := hq; show LeavesInM _ _ _ _ _ _ a.defers _ _; rw [hd]; exact leaves_of_marks w Ds w hm (Wiped.refl _ _) hr
  | ret => obtain ⟨Ds, hd, hm, hr⟩ := hq; show LeavesInM _ _ _ _ _ _ a.defers _ _; rw [hd]; exact leaves_of_marks w Ds w hm (Wiped.refl _ _) hr
  | exit => exact hq.elim
  | goto => exact hq.elim
  | panic => exact hq.elim
  | outgrown => exact hq.elim

/-- How a round's body may be left: only blocks in Bs, and new ones, have turned. -/
def postM {α : Type} (Bs : Nat → Prop) (I : List α → World → Prop) (Ix : Code → List α → World → Prop) (xs : List α) (W : World) : Exit → Act → World → Prop
  | .normal, _, W' => Moves Bs W W' ∧ I xs W'
  | .ret, _, W' => Moves Bs W W' ∧ Ix .ret xs W'
  | .exit id, _, W' => Moves Bs W W' ∧ Ix (.exit id) xs W'
  | .goto t, _, W' => Moves Bs W W' ∧ Ix (.goto t) xs W'
  | .panic _, _, _ => False
  | .outgrown, _, _ => False

/-- The blocks in Ks lie as they lay. -/
def KeptKs (Ks : List Nat) (A B : World) : Prop := ∀ b ∈ Ks, B.heap[b]? = A.heap[b]?

theorem keepsFrom_of_moves {Bs : Nat → Prop} {B : Nat} {W W' : World} (h : Moves Bs W W') (hB : ∀ k, Bs k → k < B) : KeepsFrom B W W' :=
  ⟨h.size, fun k o hk ho _ => (h.block k (Array.getElem?_eq_some_iff.1 ho).1 (fun hb => by have := hB k hb; omega)).trans ho⟩

set_option maxHeartbeats 400000 in
/-- The law for 'for .. := range f', in the plain walk's form. -/
theorem wp_range {α : Type} {P : Program} {g : Operand} {ps : Array Tmp} {assign body : Code} {Q : Exit → Act → World → Prop} {a : Act} {w : World} {gf : Nat} {lb : Array Value}
    (hg : a.eval g = .func (.func gf) #[] lb) (eg : ∀ args w, (callFunc gf args).run P w = .ok (.enter gf args) w) {encs : α → Array Value} {S Sp : List α → Prop} {N : Nat} {w0 : World}
    (Ks : List Nat) (Bs : Nat → Prop) (hKs : ∀ b ∈ Ks, b < w.heap.size ∧ ¬ Bs b) (hBs : ∀ k, Bs k → k < w.heap.size)
    (hseq : SeqStopsK Fence.wide 2 P gf lb encs (KeptKs Ks) S Sp N w0) (hb0 : Below w0.heap.size w0 w) (hps : ∀ x, (encs x).size = ps.size)
    (I : List α → World → Prop) (Ix : Code → List α → World → Prop) (hI : OwnFrom w.heap.size I) (hIx : ∀ c, OwnFrom w.heap.size (Ix c)) (h0 : I [] w) (Ax : α → Act → World → Prop) (hAx : ∀ x a', OwnFrom w.heap.size (fun (_ : Unit) W => Ax x a' W))
    (hassign : ∀ (l : Nat) (pre : List α) (x : α) (W : World) (K : Act → World → Prop), Moves Bs w W → I pre W → (∀ a' W', Moves (fun _ => False) W W' → I pre W' → Ax x a' W' → K a' W') →
      assign.wpIn (Fence.wide.inRound l) 1 P (Exit.then K (fun _ _ _ => False)) { tmps := (ps.zip (encs x)).foldl (fun t (p, v) => t.setIfInBounds p v) a.tmps, defers := [] } W)
    (hbody : ∀ (l : Nat) (pre : List α) (x : α) (a' : Act) (W : World), Moves Bs w W → I pre W → Ax x a' W → pre.length < N → body.wpIn (Fence.wide.inRound l) 1 P (postM Bs I Ix (pre ++ [x]) W) a' W)
    (hdone : ∀ (D : Nat) (xs : List α) (W : World), w.heap.size ≤ D → Moves Bs w W → S xs → I xs W → W.heap[D]? = some (.deferred (some [])) → Q .normal { a with defers := Mark D :: a.defers } W)
    (hstop : ∀ (D : Nat) (c : Code) (pre : List α) (W : World), w.heap.size ≤ D → Moves Bs w W → Sp pre → Ix c pre W → W.heap[D]? = some (.deferred (some [])) → c.wp P Q { a with defers := Mark D :: a.defers } W) :
    (Code.rangeFunc g ps assign body).wp P Q a w := by
  have hM : ∀ (β : Type), OwnFrom w.heap.size (fun (_ : β) W => Moves Bs w W) := fun β s A B row hs hg' hr => hs.grown hg' (fun r e hlt => by have := (hr r e).1; omega)
  refine (wpIn_wide (n := 3)).1 (wpIn_rangeFunc_ownH (F := Fence.wide) (n := 3) rfl (by omega) hg trivial eg hseq (fun h1 h2 b hb => (h2 b hb).trans (h1 b hb))
    (fun W l o o' hl _ _ _ b hb => World.putObj_heap_other (by have := (hKs b hb).1; omega)) hb0 hps
    (fun pre W => Moves Bs w W ∧ I pre W) (fun c pre W => Moves Bs w W ∧ Ix c pre W)
    (fun s A B row hs hg' hr => ⟨hM Unit () A B row hs.1 hg' hr, hI s A B row hs.2 hg' hr⟩) (fun c s A B row hs hg' hr => ⟨hM Unit () A B row hs.1 hg' hr, hIx c s A B row hs.2 hg' hr⟩) ⟨Moves.refl w, h0⟩ Ax hAx ?_ ?_ ?_ ?_)
  · rintro l pre x W K ⟨hm, hi⟩ hK
    refine hassign l pre x W K hm hi (fun a' W' hmv hi' hax => hK a' W' (keepsFrom_of_moves hmv (fun k h => h.elim)) (fun b hb => hmv.block b (Nat.lt_of_lt_of_le (hKs b hb).1 hm.size) (fun h => h)) ⟨hm.trans hmv (fun _ _ h => h.elim), hi'⟩ hax)
  · rintro l pre x a' W hl _ ⟨hm, hi⟩ hax hlen
    refine wpIn_mono (hbody l pre x a' W hm hi hax hlen) ?_
    intro e a2 W2 hp
    cases e with
    | normal => exact ⟨keepsFrom_of_moves hp.1 hBs, fun b hb => hp.1.block b (Nat.lt_of_lt_of_le (hKs b hb).1 hm.size) (hKs b hb).2, hm.trans hp.1 (fun _ _ h => h), hp.2⟩
    | ret => exact ⟨keepsFrom_of_moves hp.1 hBs, hm.trans hp.1 (fun _ _ h => h), hp.2⟩
    | exit id => exact ⟨keepsFrom_of_moves hp.1 hBs, hm.trans hp.1 (fun _ _ h => h), hp.2⟩
    | goto t => exact ⟨keepsFrom_of_moves hp.1 hBs, hm.trans hp.1 (fun _ _ h => h), hp.2⟩
    | panic _ => exact hp.elim
    | outgrown => exact hp.elim
  · rintro D xs W hD hS ⟨hm, hi⟩ hk
    exact hdone D xs W hD hm hS hi hk
  · rintro D c pre W hD hS ⟨hm, hi⟩ hk
    exact wpIn_wide.2 (hstop D c pre W hD hm hS hi hk)

end Go.Proofs.Ytcfhbnfincpehaa
