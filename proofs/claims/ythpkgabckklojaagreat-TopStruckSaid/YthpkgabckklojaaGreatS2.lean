/- Own texts, laid together: J J2 J3 J4 J5 J6 J7 J8 J9. Nothing is asked. -/
import Derived.Test.YthpkgabckklojaaGreatS1
import Derived.Scope
import Derived.IntWalk
import Derived.Sort.LoopGhostIn
import Derived.OrdersIn
import Derived.OrdersHeld
set_option linter.unusedSimpArgs false
set_option linter.unusedVariables false
/- Walks with the world out of sight: a state is what some slots hold, which blocks are the call's own and what stands in them, and what is known of all else. Nothing is asked. -/
namespace Go.Proofs.YthpkgabckklojaaGreat
open Go.RowKit Go.Shelf

abbrev Sto := List (Nat × Value)
/-- What a slot holds. -/
def look : Sto → Nat → Option Value
  | [], _ => none
  | (k, v) :: r, t => bif Nat.beq k t then some v else look r t
def opnd (st : Sto) : Operand → Option Value
  | .tmp t => look st t
  | .const v => some v
  | .global g => some (.pointer (some ⟨g, 0, none⟩))
  | .func f => some (.func (.func f) #[] #[])

/-- Two things known. -/
def KAnd (A B : World → Prop) : World → Prop := fun w => A w ∧ B w
class Knows (R F : World → Prop) : Prop where
  know : ∀ w, R w → F w
instance (F : World → Prop) : Knows F F := ⟨fun _ h => h⟩
instance (A B F : World → Prop) [h : Knows B F] : Knows (KAnd A B) F := ⟨fun w hw => h.know w hw.2⟩
instance (A B F : World → Prop) [h : Knows A F] : Knows (KAnd A B) F := ⟨fun w hw => h.know w hw.1⟩
instance (A B C : World → Prop) [h1 : Knows C A] [h2 : Knows C B] : Knows C (KAnd A B) := ⟨fun w hw => ⟨h1.know w hw, h2.know w hw⟩⟩
/-- Nothing known. -/
def KTrue : World → Prop := fun _ => True
instance (R : World → Prop) : Knows R KTrue := ⟨fun _ _ => trivial⟩

/-- A piece of memory of the call's own: its blocks, and what it says of the world. -/
structure Chunk where
  own : Nat → Prop
  says : World → Prop
structure Chunk.holds (c : Chunk) (w : World) : Prop where
  bd : ∀ b, c.own b → b < w.heap.size
  says : ∀ w', w.heap.size ≤ w'.heap.size → (∀ b, c.own b → w'.heap[b]? = w.heap[b]?) → c.says w'
theorem Chunk.holds.now {c : Chunk} {w : World} (h : c.holds w) : c.says w := h.says w (Nat.le_refl _) fun _ _ => rfl
theorem Chunk.holds.later {c : Chunk} {w w' : World} (h : c.holds w) (hz : w.heap.size ≤ w'.heap.size) (he : ∀ b, c.own b → w'.heap[b]? = w.heap[b]?) : c.holds w' :=
  ⟨fun b hb => Nat.lt_of_lt_of_le (h.bd b hb) hz, fun w2 h2 e2 => h.says w2 (Nat.le_trans hz h2) fun b hb => (e2 b hb).trans (he b hb)⟩

def bx (b : Nat) (cs : List Value) : Chunk := ⟨(· = b), fun w => Box w b cs⟩
def mp {κ ν : Type} (b : Nat) (ek : κ → Value) (ev : ν → Value) (m : κ → Option ν) : Chunk := ⟨(· = b), fun w => MapIs w b ek ev m⟩
def ow (v : Value) (T : TypeId) (z n : Nat) (xs : List Value) : Chunk := ⟨fun k => v.ownBlock = some k, fun w => w.ownsRow 0 T z v n xs⟩
theorem bx_holds {w : World} {b : Nat} {cs : List Value} (h : Box w b cs) : (bx b cs).holds w :=
  ⟨fun x hx => by cases hx; exact h.lt, fun w' _ he => by obtain ⟨T, h⟩ := h; exact ⟨T, (he b rfl).trans h⟩⟩
theorem mp_holds {κ ν : Type} {w : World} {b : Nat} {ek : κ → Value} {ev : ν → Value} {m : κ → Option ν} (h : MapIs w b ek ev m) : (mp b ek ev m).holds w :=
  ⟨fun x hx => by cases hx; exact h.lt, fun w' _ he => h.at_ (he b rfl)⟩
theorem ow_holds {w : World} {v : Value} {T : TypeId} {z n : Nat} {xs : List Value} (h : w.ownsRow 0 T z v n xs) : (ow v T z n xs).holds w := by
  refine ⟨fun x hx => (World.ownsRow.lt h x hx).2, fun w' _ he => ⟨h.1, ?_⟩⟩
  rcases h.2 with h2 | ⟨g, cap, cur, hv, h3, h4, h5⟩
  · exact .inl h2
  · exact .inr ⟨g, cap, cur, hv, h3, (he g (by show v.ownBlock = some g; rw [hv]; rfl)).trans h4, h5⟩

/-- What a call's walk never turns: its depth, its fence's round, how many slots there are, the world it began in, whose blocks it may write, and which were somebody's own. -/
structure Ctx where
  n : Nat
  ro : Option Nat
  N : Nat
  w0 : World
  Fp : Nat → Prop
  M0 : Nat → Prop
  nd : Bool := false
def Fof : Option Nat → Fence
  | none => Fence.wide
  | some l => Fence.wide.inRound l

structure Mem (X : Ctx) (M : Nat → Prop) (Ds : List Nat) (H : List Chunk) (R : World → Prop) (w : World) : Prop where
  bd : ∀ b, M b → b < w.heap.size
  hold : ∀ c ∈ H, c.holds w
  own : ∀ c ∈ H, ∀ b, c.own b → M b
  fp : ∀ c ∈ H, ∀ b, c.own b → X.Fp b ∨ X.w0.heap.size ≤ b
  dis : H.Pairwise fun c d => ∀ b, c.own b → ¬ d.own b
  keep : ∀ w', Moves M w w' → R w'
  mv : Moves X.Fp X.w0 w
  m0 : ∀ b, X.M0 b → M b
  m1 : ∀ b, M b → X.M0 b ∨ X.w0.heap.size ≤ b
  mks : MarksIn X.w0.heap.size w Ds
  mkM : ∀ D ∈ Ds, M D
  mkH : ∀ D ∈ Ds, ∀ c ∈ H, ¬ c.own D
  m2 : ∀ b, X.M0 b → b < X.w0.heap.size
  mk0 : X.nd = true → Ds = []
structure StOk (N : Nat) (st : Sto) (a : Act) : Prop where
  size : a.tmps.size = N
  get : ∀ t v, look st t = some v → a.tmps.getD t undef = v
structure Ok (X : Ctx) (st : Sto) (H : List Chunk) (R : World → Prop) (a : Act) (w : World) : Prop where
  st : StOk X.N st a
  mem : ∃ M Ds, a.defers = Ds.map Mark ∧ Mem X M Ds H R w

theorem StOk.eval {N : Nat} {st : Sto} {a : Act} (h : StOk N st a) {x : Operand} {v : Value} (hx : opnd st x = some v) : a.eval x = v := by
  cases x with
  | tmp t => exact h.get t v hx
  | const _ => cases hx; rfl
  | global _ => cases hx; rfl
  | func _ => cases hx; rfl
theorem beq_no {a b : Nat} (h : a ≠ b) : Nat.beq a b = false := by
  cases e : Nat.beq a b
  · rfl
  · exact absurd (Nat.eq_of_beq_eq_true e) h
theorem no_beq {a b : Nat} (h : Nat.beq a b = false) : a ≠ b := by
  rintro rfl; simp at h
theorem blt_lt {a b : Nat} (h : Nat.blt a b = true) : a < b := Nat.le_of_ble_eq_true h
theorem StOk.put {N : Nat} {st : Sto} {a : Act} (h : StOk N st a) {d : Nat} (hd : d < N) (v : Value) : StOk N ((d, v) :: st) (a.put (some d) v) := by
  refine ⟨by simp [Act.put, h.size], fun t u hu => ?_⟩
  simp only [look] at hu
  by_cases e : d = t
  · subst e
    rw [show Nat.beq d d = true from by simp] at hu
    simp only [cond_true, Option.some.injEq] at hu
    simp [Act.put, h.size, hd, hu]
  · rw [beq_no e] at hu
    simp only [cond_false] at hu
    rw [← h.get t u hu]
    simp [Act.put, e]
theorem StOk.put_none {N : Nat} {st : Sto} {a : Act} (h : StOk N st a) (v : Value) : StOk N st (a.put none v) := h
theorem Act.put_defers' (a : Act) (d : Option Tmp) (v : Value) : (a.put d v).defers = a.defers := by cases d <;> rfl

section mem
variable {X : Ctx} {M : Nat → Prop} {Ds : List Nat} {H C D C' : List Chunk} {R R' : World → Prop} {w w' : World}
theorem Mem.r (h : Mem X M Ds H R w) : R w := h.keep w (Moves.refl w)
theorem Mem.perm (h : Mem X M Ds H R w) (hp : H.Perm D) : Mem X M Ds D R w :=
  ⟨h.bd, fun c hc => h.hold c (hp.mem_iff.2 hc), fun c hc => h.own c (hp.mem_iff.2 hc), fun c hc => h.fp c (hp.mem_iff.2 hc),
   hp.pairwise h.dis (fun hs b hb hc => hs b hc hb), h.keep, h.mv, h.m0, h.m1, h.mks, h.mkM, fun x hx c hc => h.mkH x hx c (hp.mem_iff.2 hc), h.m2, h.mk0⟩
theorem Mem.drop (h : Mem X M Ds (C ++ D) R w) : Mem X M Ds D R w :=
  ⟨h.bd, fun c hc => h.hold c (List.mem_append.2 (.inr hc)), fun c hc => h.own c (List.mem_append.2 (.inr hc)), fun c hc => h.fp c (List.mem_append.2 (.inr hc)),
   (List.pairwise_append.1 h.dis).2.1, h.keep, h.mv, h.m0, h.m1, h.mks, h.mkM, fun x hx c hc => h.mkH x hx c (List.mem_append.2 (.inr hc)), h.m2, h.mk0⟩
theorem Mem.know (h : Mem X M Ds H R w) (hr : ∀ w, R w → R' w) : Mem X M Ds H R' w :=
  ⟨h.bd, h.hold, h.own, h.fp, h.dis, fun w' hw => hr w' (h.keep w' hw), h.mv, h.m0, h.m1, h.mks, h.mkM, h.mkH, h.m2, h.mk0⟩
/-- Some own pieces are taken, others handed back; all else lies as it lay. -/
theorem Mem.swap (h : Mem X M Ds (C ++ D) R w) (M' : Nat → Prop) (hmv : Moves (fun b => ∃ c ∈ C, c.own b) w w')
    (hM : ∀ b, M b → M' b) (hM' : ∀ b, M' b → M b ∨ w.heap.size ≤ b) (hbd : ∀ b, M' b → b < w'.heap.size)
    (hh : ∀ c ∈ C', c.holds w') (ho : ∀ c ∈ C', ∀ b, c.own b → M' b ∧ ((∃ c0 ∈ C, c0.own b) ∨ w.heap.size ≤ b)) (hd : C'.Pairwise fun c d => ∀ b, c.own b → ¬ d.own b)
    (hR' : ∀ w2, Moves M' w' w2 → R' w2) : Mem X M' Ds (C' ++ D) (fun w => R' w ∧ R w) w' := by
  have hcd := List.pairwise_append.1 h.dis
  have hCM : ∀ b, (∃ c ∈ C, c.own b) → M b := fun b ⟨c, hc, hb⟩ => h.own c (List.mem_append.2 (.inl hc)) b hb
  have hMw : Moves M w w' := hmv.weaken fun i _ hi => hCM i hi
  have hDk : ∀ c ∈ D, ∀ b, c.own b → w'.heap[b]? = w.heap[b]? := fun c hc b hb => hmv.block b ((h.hold c (List.mem_append.2 (.inr hc))).bd b hb) fun ⟨c0, hc0, hb0⟩ => hcd.2.2 c0 hc0 c hc b hb0 hb
  have hfp : ∀ b, ((∃ c0 ∈ C, c0.own b) ∨ w.heap.size ≤ b) → X.Fp b ∨ X.w0.heap.size ≤ b := by
    rintro b (⟨c0, hc0, hb0⟩ | hb)
    · exact h.fp c0 (List.mem_append.2 (.inl hc0)) b hb0
    · exact .inr (Nat.le_trans h.mv.size hb)
  refine ⟨hbd, fun c hc => ?_, fun c hc b hb => ?_, fun c hc b hb => ?_, ?_, fun w2 h2 => ⟨hR' w2 h2, h.keep w2 (hMw.trans h2 fun i hi hb => ?_)⟩, ?_, fun b hb => hM b (h.m0 b hb), fun b hb => ?_, ?_, fun x hx => hM x (h.mkM x hx), fun x hx c hc hb => ?_, h.m2, h.mk0⟩
  · rcases List.mem_append.1 hc with hc | hc
    · exact hh c hc
    · exact (h.hold c (List.mem_append.2 (.inr hc))).later hmv.size (hDk c hc)
  · rcases List.mem_append.1 hc with hc | hc
    · exact (ho c hc b hb).1
    · exact hM b (h.own c (List.mem_append.2 (.inr hc)) b hb)
  · rcases List.mem_append.1 hc with hc | hc
    · exact hfp b (ho c hc b hb).2
    · exact h.fp c (List.mem_append.2 (.inr hc)) b hb
  · refine List.pairwise_append.2 ⟨hd, hcd.2.1, fun c hc d hd' b hb hb' => ?_⟩
    have hlt := (h.hold d (List.mem_append.2 (.inr hd'))).bd b hb'
    rcases (ho c hc b hb).2 with ⟨c0, hc0, hb0⟩ | hb0
    · exact hcd.2.2 c0 hc0 d hd' b hb0 hb'
    · omega
  · exact (hM' i hb).resolve_right (by omega)
  · exact h.mv.trans hmv fun i hi ⟨c, hc, hb⟩ => (h.fp c (List.mem_append.2 (.inl hc)) i hb).resolve_right (by omega)
  · rcases hM' b hb with hb | hb
    · exact h.m1 b hb
    · exact .inr (Nat.le_trans h.mv.size hb)
  · exact h.mks.moves hmv fun x hx ⟨c, hc, hb⟩ => h.mkH x hx c (List.mem_append.2 (.inl hc)) hb
  · have hlt := h.bd x (h.mkM x hx)
    rcases List.mem_append.1 hc with hc | hc
    · rcases (ho c hc x hb).2 with ⟨c0, hc0, hb0⟩ | hb0
      · exact h.mkH x hx c0 (List.mem_append.2 (.inl hc0)) hb0
      · omega
    · exact h.mkH x hx c (List.mem_append.2 (.inr hc)) hb
end mem

/-! Finding a piece in the list, and turning it where it stands. -/
class BoxAt (H : List Chunk) (b : Nat) (cs : outParam (List Value)) : Prop where
  mem : bx b cs ∈ H
instance (H : List Chunk) (b : Nat) (cs : List Value) : BoxAt (bx b cs :: H) b cs := ⟨by simp⟩
instance (H : List Chunk) (b : Nat) (cs : List Value) (c : Chunk) [h : BoxAt H b cs] : BoxAt (c :: H) b cs := ⟨List.mem_cons_of_mem _ h.mem⟩
class BoxUpd (H : List Chunk) (b : Nat) (cs : List Value) (H' : outParam (List Chunk)) : Prop where
  ex : ∃ A B cs0, H = A ++ bx b cs0 :: B ∧ H' = A ++ bx b cs :: B
instance (H : List Chunk) (b : Nat) (cs0 cs : List Value) : BoxUpd (bx b cs0 :: H) b cs (bx b cs :: H) := ⟨[], H, cs0, rfl, rfl⟩
instance (H H' : List Chunk) (b : Nat) (cs : List Value) (c : Chunk) [h : BoxUpd H b cs H'] : BoxUpd (c :: H) b cs (c :: H') := by
  obtain ⟨A, B, cs0, h1, h2⟩ := h.ex
  exact ⟨c :: A, B, cs0, by rw [h1]; rfl, by rw [h2]; rfl⟩
class MapAt (H : List Chunk) (b : Nat) (κ ν : outParam Type) (ek : outParam (κ → Value)) (ev : outParam (ν → Value)) (m : outParam (κ → Option ν)) : Prop where
  mem : mp b ek ev m ∈ H
instance {κ ν : Type} (H : List Chunk) (b : Nat) (ek : κ → Value) (ev : ν → Value) (m : κ → Option ν) : MapAt (mp b ek ev m :: H) b κ ν ek ev m := ⟨by simp⟩
instance {κ ν : Type} (H : List Chunk) (b : Nat) (ek : κ → Value) (ev : ν → Value) (m : κ → Option ν) (c : Chunk) [h : MapAt H b κ ν ek ev m] : MapAt (c :: H) b κ ν ek ev m := ⟨List.mem_cons_of_mem _ h.mem⟩
class MapUpd {κ ν : Type} (H : List Chunk) (b : Nat) (ek : κ → Value) (ev : ν → Value) (m : κ → Option ν) (H' : outParam (List Chunk)) : Prop where
  ex : ∃ A B m0, H = A ++ mp b ek ev m0 :: B ∧ H' = A ++ mp b ek ev m :: B
instance {κ ν : Type} (H : List Chunk) (b : Nat) (ek : κ → Value) (ev : ν → Value) (m0 m : κ → Option ν) : MapUpd (mp b ek ev m0 :: H) b ek ev m (mp b ek ev m :: H) := ⟨[], H, m0, rfl, rfl⟩
instance {κ ν : Type} (H H' : List Chunk) (b : Nat) (ek : κ → Value) (ev : ν → Value) (m : κ → Option ν) (c : Chunk) [h : MapUpd H b ek ev m H'] : MapUpd (c :: H) b ek ev m (c :: H') := by
  obtain ⟨A, B, cs0, h1, h2⟩ := h.ex
  exact ⟨c :: A, B, cs0, by rw [h1]; rfl, by rw [h2]; rfl⟩
/-- An own slice is taken out of the list. -/
class OwnAt (H : List Chunk) (v : Value) (T z n : outParam Nat) (xs : outParam (List Value)) (H' : outParam (List Chunk)) : Prop where
  ex : ∃ A B, H = A ++ ow v T z n xs :: B ∧ H' = A ++ B
instance (H : List Chunk) (v : Value) (T z n : Nat) (xs : List Value) : OwnAt (ow v T z n xs :: H) v T z n xs H := ⟨[], H, rfl, rfl⟩
instance (H H' : List Chunk) (v : Value) (T z n : Nat) (xs : List Value) (c : Chunk) [h : OwnAt H v T z n xs H'] : OwnAt (c :: H) v T z n xs (c :: H') := by
  obtain ⟨A, B, h1, h2⟩ := h.ex
  exact ⟨c :: A, B, by rw [h1]; rfl, by rw [h2]; rfl⟩

instance (A B : List Chunk) (b : Nat) (cs : List Value) [h : BoxAt B b cs] : BoxAt (A ++ B) b cs := ⟨List.mem_append.2 (.inr h.mem)⟩
instance (A B : List Chunk) (b : Nat) (cs : List Value) [h : BoxAt A b cs] : BoxAt (A ++ B) b cs := ⟨List.mem_append.2 (.inl h.mem)⟩
instance (A B B' : List Chunk) (b : Nat) (cs : List Value) [h : BoxUpd B b cs B'] : BoxUpd (A ++ B) b cs (A ++ B') := by
  obtain ⟨C, D, cs0, h1, h2⟩ := h.ex
  exact ⟨A ++ C, D, cs0, by rw [h1, List.append_assoc], by rw [h2, List.append_assoc]⟩
instance (A A' B : List Chunk) (b : Nat) (cs : List Value) [h : BoxUpd A b cs A'] : BoxUpd (A ++ B) b cs (A' ++ B) := by
  obtain ⟨C, D, cs0, h1, h2⟩ := h.ex
  exact ⟨C, D ++ B, cs0, by rw [h1, List.append_assoc, List.cons_append], by rw [h2, List.append_assoc, List.cons_append]⟩
instance {κ ν : Type} (A B : List Chunk) (b : Nat) (ek : κ → Value) (ev : ν → Value) (m : κ → Option ν) [h : MapAt B b κ ν ek ev m] : MapAt (A ++ B) b κ ν ek ev m := ⟨List.mem_append.2 (.inr h.mem)⟩
instance {κ ν : Type} (A B : List Chunk) (b : Nat) (ek : κ → Value) (ev : ν → Value) (m : κ → Option ν) [h : MapAt A b κ ν ek ev m] : MapAt (A ++ B) b κ ν ek ev m := ⟨List.mem_append.2 (.inl h.mem)⟩
instance {κ ν : Type} (A B B' : List Chunk) (b : Nat) (ek : κ → Value) (ev : ν → Value) (m : κ → Option ν) [h : MapUpd B b ek ev m B'] : MapUpd (A ++ B) b ek ev m (A ++ B') := by
  obtain ⟨C, D, cs0, h1, h2⟩ := h.ex
  exact ⟨A ++ C, D, cs0, by rw [h1, List.append_assoc], by rw [h2, List.append_assoc]⟩
instance {κ ν : Type} (A A' B : List Chunk) (b : Nat) (ek : κ → Value) (ev : ν → Value) (m : κ → Option ν) [h : MapUpd A b ek ev m A'] : MapUpd (A ++ B) b ek ev m (A' ++ B) := by
  obtain ⟨C, D, cs0, h1, h2⟩ := h.ex
  exact ⟨C, D ++ B, cs0, by rw [h1, List.append_assoc, List.cons_append], by rw [h2, List.append_assoc, List.cons_append]⟩
instance (A B B' : List Chunk) (v : Value) (T z n : Nat) (xs : List Value) [h : OwnAt B v T z n xs B'] : OwnAt (A ++ B) v T z n xs (A ++ B') := by
  obtain ⟨C, D, h1, h2⟩ := h.ex
  exact ⟨A ++ C, D, by rw [h1, List.append_assoc], by rw [h2, List.append_assoc]⟩
instance (A A' B : List Chunk) (v : Value) (T z n : Nat) (xs : List Value) [h : OwnAt A v T z n xs A'] : OwnAt (A ++ B) v T z n xs (A' ++ B) := by
  obtain ⟨C, D, h1, h2⟩ := h.ex
  exact ⟨C, D ++ B, by rw [h1, List.append_assoc, List.cons_append], by rw [h2, List.append_assoc]⟩

theorem mid_perm {α : Type} (A B : List α) (c : α) : (A ++ c :: B).Perm ([c] ++ (A ++ B)) := List.perm_middle

section judge
variable (X : Ctx) (P : Program)
/-- One operation yields a value, and turns nothing. -/
def Det (o : Oper) (st : Sto) (H : List Chunk) (R : World → Prop) (v : Value) : Prop :=
  ∀ a w M Ds, StOk X.N st a → Mem X M Ds H R w → (execOp a.eval o).run P w = .ok (.value v) w
/-- It yields a value whatever memory holds. -/
def PDet (P : Program) (o : Oper) (st : Sto) (v : Value) : Prop := ∀ N a w, StOk N st a → (execOp a.eval o).run P w = .ok (.value v) w
/-- One operation, by what holds ahead of it and behind it. -/
def JO (o : Oper) (st : Sto) (H : List Chunk) (R : World → Prop) {α : Type} (v : α → Value) (H' : α → List Chunk) (R' : α → World → Prop) : Prop :=
  ∀ a w M Ds (K : Act → World → Prop) (Q : Exit → Act → World → Prop), StOk X.N st a → Mem X M Ds H R w → (∀ x w' M', Mem X M' Ds (H' x) (R' x) w' → K (a.put o.dst (v x)) w') → o.wpIn (Fof X.ro) X.n P a w K Q
def JL (ops : Array Oper) (Q : Exit → Act → World → Prop) (rest : List Oper) (st : Sto) (H : List Chunk) (R : World → Prop) : Prop :=
  ∀ a w, Ok X st H R a w → wpListIn (Fof X.ro) X.n P ops Q rest a w

/-- What is still to be done. -/
inductive Kont where
  | done (Q : Exit → Act → World → Prop)
  | seq (c : Code) (k : Kont)
  | block (id : Nat) (k : Kont)
  | thenP (K : Act → World → Prop) (k : Kont)
  | scope (k : Kont)
def kden : Kont → Exit → Act → World → Prop
  | .done Q => Q
  | .seq c k => Exit.then (c.wpIn (Fof X.ro) X.n P (kden k)) (kden k)
  | .block id k => Exit.inBlock id (kden k)
  | .thenP K k => Exit.then K (kden k)
  | .scope k => Exit.noGoto (kden k)
def JC (c : Code) (k : Kont) (st : Sto) (H : List Chunk) (R : World → Prop) : Prop := ∀ a w, Ok X st H R a w → c.wpIn (Fof X.ro) X.n P (kden X P k) a w
def JE (e : Exit) (k : Kont) (st : Sto) (H : List Chunk) (R : World → Prop) : Prop := ∀ a w, Ok X st H R a w → kden X P k e a w
end judge

section rules
variable {X : Ctx} {P : Program} {st : Sto} {H H' : List Chunk} {R R' : World → Prop} {k : Kont} {ops : Array Oper} {rest : List Oper} {Q : Exit → Act → World → Prop}
theorem JC_seq {c d : Code} (h : JC X P c (.seq d k) st H R) : JC X P (.seq c d) k st H R := fun a w ho => wpIn_seq (h a w ho)
theorem JE_seq {c : Code} (h : JC X P c k st H R) : JE X P .normal (.seq c k) st H R := fun a w ho => h a w ho
theorem JE_seq_ret {c : Code} (h : JE X P .ret k st H R) : JE X P .ret (.seq c k) st H R := fun a w ho => h a w ho
theorem JE_seq_exit {c : Code} {id : Nat} (h : JE X P (.exit id) k st H R) : JE X P (.exit id) (.seq c k) st H R := fun a w ho => h a w ho
theorem JE_then_ret {K : Act → World → Prop} (h : JE X P .ret k st H R) : JE X P .ret (.thenP K k) st H R := fun a w ho => h a w ho
theorem JE_then_exit {K : Act → World → Prop} {id : Nat} (h : JE X P (.exit id) k st H R) : JE X P (.exit id) (.thenP K k) st H R := fun a w ho => h a w ho
theorem JE_block {id : Nat} (h : JE X P .normal k st H R) : JE X P .normal (.block id k) st H R := fun a w ho => h a w ho
theorem JE_block_ret {id : Nat} (h : JE X P .ret k st H R) : JE X P .ret (.block id k) st H R := fun a w ho => h a w ho
theorem JE_block_here {id : Nat} (h : JE X P .normal k st H R) : JE X P (.exit id) (.block id k) st H R := fun a w ho => by
  show (if id = id then _ else _); rw [if_pos rfl]; exact h a w ho
theorem JE_block_on {id i : Nat} (hne : Nat.beq i id = false) (h : JE X P (.exit i) k st H R) : JE X P (.exit i) (.block id k) st H R := fun a w ho => by
  show (if i = id then _ else _); rw [if_neg (no_beq hne)]; exact h a w ho
theorem JC_scope {c : Code} (hro : X.ro = none) (h : JC X P c (.scope k) st H R) : JC X P (.scope c) k st H R := fun a w ho => by
  have h1 := h a w ho
  have hF : Fof X.ro = Fence.wide := by rw [hro]; rfl
  rw [hF] at h1 ⊢
  exact wpIn_wide.2 (wp_scope_straight (wpIn_wide.1 h1))
theorem JE_scope (h : JE X P .normal k st H R) : JE X P .normal (.scope k) st H R := fun a w ho => h a w ho
theorem JE_scope_ret (h : JE X P .ret k st H R) : JE X P .ret (.scope k) st H R := fun a w ho => h a w ho
theorem JE_scope_exit {id : Nat} (h : JE X P (.exit id) k st H R) : JE X P (.exit id) (.scope k) st H R := fun a w ho => h a w ho
theorem JC_label {l : Nat} (h : JE X P .normal k st H R) : JC X P (.label l) k st H R := fun a w ho => wpIn_label (h a w ho)
theorem JC_skip (h : JE X P .normal k st H R) : JC X P .skip k st H R := fun a w ho => wpIn_skip (h a w ho)
theorem JC_ret (h : JE X P .ret k st H R) : JC X P .ret k st H R := fun a w ho => wpIn_ret (h a w ho)
theorem JC_exit {id : Nat} (h : JE X P (.exit id) k st H R) : JC X P (.exit id) k st H R := fun a w ho => wpIn_exit (h a w ho)
theorem JC_block {id : Nat} {c : Code} (h : JC X P c (.block id k) st H R) : JC X P (.block id c) k st H R := fun a w ho => wpIn_block (h a w ho)
theorem JC_region {id : Nat} {l : List Oper} (h : JL X P l.toArray (kden X P k) l st H R) : JC X P (.region id l.toArray false) k st H R := fun a w ho => wpIn_region_lit (h a w ho)
theorem JL_nil (h : JE X P .normal k st H R) : JL X P ops (kden X P k) [] st H R := fun a w ho => wpListIn_nil (h a w ho)
theorem JC_cond {c : Operand} {x y : Code} {b : Bool} (hc : opnd st c = some (.bool b)) (ht : b = true → JC X P x k st H R) (hf : b = false → JC X P y k st H R) : JC X P (.cond c x y) k st H R :=
  fun a w ho => wpIn_cond_split (ho.st.eval hc) (fun e => ht e a w ho) (fun e => hf e a w ho)
theorem JC_if {c : Operand} {x y : Code} {p : Prop} [Decidable p] (hc : opnd st c = some (.bool (decide p))) (ht : p → JC X P x k st H R) (hf : ¬ p → JC X P y k st H R) : JC X P (.cond c x y) k st H R :=
  JC_cond hc (fun e => ht (of_decide_eq_true e)) (fun e => hf (of_decide_eq_false e))
theorem JC_ifn {c : Operand} {x y : Code} {p : Prop} [Decidable p] (hc : opnd st c = some (.bool (!decide p))) (ht : ¬ p → JC X P x k st H R) (hf : p → JC X P y k st H R) : JC X P (.cond c x y) k st H R :=
  JC_cond hc (fun e => ht (by simpa using e)) (fun e => hf (by simpa using e))

/-- What is known may be forgotten, or said otherwise. -/
theorem Ok.know {a : Act} {w : World} (h : Ok X st H R a w) (hr : ∀ w, R w → R' w) : Ok X st H R' a w := by
  obtain ⟨h1, M, Ds, h2, h3⟩ := h; exact ⟨h1, M, Ds, h2, h3.know hr⟩
theorem Ok.r {a : Act} {w : World} (h : Ok X st H R a w) : R w := by obtain ⟨h1, M, Ds, h2, h3⟩ := h; exact h3.r
theorem JC_pure {c : Code} {p : Prop} (hp : ∀ w, R w → p) (h : p → JC X P c k st H R) : JC X P c k st H R := fun a w ho => h (hp w ho.r) a w ho
theorem JL_pure {p : Prop} (hp : ∀ w, R w → p) (h : p → JL X P ops Q rest st H R) : JL X P ops Q rest st H R := fun a w ho => h (hp w ho.r) a w ho
theorem JE_pure {e : Exit} {p : Prop} (hp : ∀ w, R w → p) (h : p → JE X P e k st H R) : JE X P e k st H R := fun a w ho => h (hp w ho.r) a w ho
theorem JC_know {c : Code} (hr : ∀ w, R w → R' w) (h : JC X P c k st H R') : JC X P c k st H R := fun a w ho => h a w (ho.know hr)
theorem JL_know (hr : ∀ w, R w → R' w) (h : JL X P ops Q rest st H R') : JL X P ops Q rest st H R := fun a w ho => h a w (ho.know hr)

theorem semAt_plain (ro : Option Nat) (ρ : Operand → Value) (o : Oper) (h : ∀ c, o.op ≠ .defer c) : Oper.semAt (Fof ro).round ρ o = execOp ρ o := by
  cases ro with
  | none => rfl
  | some l => exact Oper.semAt_some l ρ o h
theorem fof_fn (ro : Option Nat) (f : FuncId) : (Fof ro).fn f := by cases ro <;> trivial
theorem fof_depth (ro : Option Nat) : (Fof ro).depth.isSome = true → 1 ≤ X.n := by cases ro <;> (intro h; cases h)
theorem fof_calls {ro : Option Nat} {n : Nat} {f : FuncId} {args : Array Value} {w : World} {R : Ending → World → Prop} (h : Calls P f args w R) : CallsIn (Fof ro) n P f args w R := by
  cases ro with
  | none => exact callsIn_wide.2 h
  | some l => exact CallsIn.inRound l (callsIn_wide.2 h)
theorem Det.jo {o : Oper} {v : Value} (h : Det X P o st H R v) (hd : ∀ c, o.op ≠ .defer c) : JO X P o st H R (fun _ : Unit => v) (fun _ => H) (fun _ => R) := by
  intro a w M Ds K Q hs hm hK
  refine ⟨fun f _ => fof_fn _ f, ?_⟩
  rw [semAt_plain _ _ _ hd, h a w M Ds hs hm]
  exact hK () w M hm

theorem PDet.det {o : Oper} {v : Value} (h : PDet P o st v) : Det X P o st H R v := fun a w _ _ hs _ => h _ a w hs
theorem JL_step {o : Oper} {d : Nat} {α : Type} {v : α → Value} {Hx : α → List Chunk} {Rx : α → World → Prop} (hg : o.guard = none) (hd : o.dst = some d) (hN : Nat.blt d X.N = true)
    (h : JO X P o st H R v Hx Rx) (hr : ∀ x, JL X P ops Q rest ((d, v x) :: st) (Hx x) (Rx x)) : JL X P ops Q (o :: rest) st H R := by
  intro a w ⟨hs, M, Ds, h1, hm⟩
  refine wpListIn_plain hg fun K hK => h a w M Ds K Q hs hm fun x w' M' hm' => hK _ _ (hr x _ _ ⟨?_, M', Ds, ?_, hm'⟩)
  · rw [hd]; exact hs.put (blt_lt hN) _
  · rw [hd]; exact h1
theorem JL_step0 {o : Oper} {α : Type} {v : α → Value} {Hx : α → List Chunk} {Rx : α → World → Prop} (hg : o.guard = none) (hd : o.dst = none)
    (h : JO X P o st H R v Hx Rx) (hr : ∀ x, JL X P ops Q rest st (Hx x) (Rx x)) : JL X P ops Q (o :: rest) st H R := by
  intro a w ⟨hs, M, Ds, h1, hm⟩
  refine wpListIn_plain hg fun K hK => h a w M Ds K Q hs hm fun x w' M' hm' => hK _ _ (hr x _ _ ⟨?_, M', Ds, ?_, hm'⟩)
  · rw [hd]; exact hs
  · rw [hd]; exact h1
theorem JL_det {d : Nat} {op : Op} {ty : TypeId} {pos : String} {af : Array Edge} {v : Value} (hN : Nat.blt d X.N = true) (hnd : ∀ c, op ≠ .defer c)
    (h : Det X P ⟨some d, op, ty, pos, af, none⟩ st H R v) (hr : JL X P ops Q rest ((d, v) :: st) H R) : JL X P ops Q (⟨some d, op, ty, pos, af, none⟩ :: rest) st H R :=
  JL_step rfl rfl hN (h.jo hnd) fun _ => hr

theorem JL_pd {d : Nat} {op : Op} {ty : TypeId} {pos : String} {af : Array Edge} {v : Value} (hN : Nat.blt d X.N = true)
    (h : PDet P ⟨some d, op, ty, pos, af, none⟩ st v) (hr : JL X P ops Q rest ((d, v) :: st) H R) (hnd : (match op with | .defer _ => false | _ => true) = true := by rfl) : JL X P ops Q (⟨some d, op, ty, pos, af, none⟩ :: rest) st H R :=
  JL_step rfl rfl hN (h.det.jo (by intro c e; cases (show op = _ from e); cases hnd)) fun _ => hr
theorem JL_dt {d : Nat} {op : Op} {ty : TypeId} {pos : String} {af : Array Edge} {v : Value} (hN : Nat.blt d X.N = true)
    (h : Det X P ⟨some d, op, ty, pos, af, none⟩ st H R v) (hr : JL X P ops Q rest ((d, v) :: st) H R) (hnd : (match op with | .defer _ => false | _ => true) = true := by rfl) : JL X P ops Q (⟨some d, op, ty, pos, af, none⟩ :: rest) st H R :=
  JL_step rfl rfl hN (h.jo (by intro c e; cases (show op = _ from e); cases hnd)) fun _ => hr
end rules
end Go.Proofs.YthpkgabckklojaaGreat

/- The operations, each by what it needs and what it leaves: slots, numbers, boxes. Nothing is asked. -/
namespace Go.Proofs.YthpkgabckklojaaGreat
open Go.RowKit Go.Shelf

section
variable {X : Ctx} {P : Program} {st : Sto} {H H' : List Chunk} {R R' : World → Prop} {k : Kont} {ops : Array Oper} {rest : List Oper} {Q : Exit → Act → World → Prop}
variable {d : Option Nat} {ty : TypeId} {pos : String} {af : Array Edge} {g : Option (Nat × Bool)}

theorem det_move {x : Operand} {v : Value} (hx : opnd st x = some v) : PDet P ⟨d, .move x, ty, pos, af, g⟩ st v := fun N a w hs => by
  simp [execOp, hs.eval hx]
theorem det_assign {x : Operand} {v : Value} (hx : opnd st x = some v) : PDet P ⟨d, .assign x, ty, pos, af, g⟩ st v := fun N a w hs => by
  simp [execOp, hs.eval hx]
theorem det_pick {c x y : Operand} {b : Bool} {u v : Value} (hc : opnd st c = some (.bool b)) (hx : opnd st x = some u) (hy : opnd st y = some v) : PDet P ⟨d, .pick c x y, ty, pos, af, g⟩ st (if b then u else v) := fun N a w hs => by
  simp [execOp, hs.eval hx, hs.eval hy, hs.eval hc, asBool, Result.andThen]
theorem det_pick_t {c x y : Operand} {b : Bool} {u : Value} (hc : opnd st c = some (.bool b)) (hb : b = true) (hx : opnd st x = some u) : PDet P ⟨d, .pick c x y, ty, pos, af, g⟩ st u := fun N a w hs => by
  simp [execOp, hs.eval hx, hs.eval hc, asBool, Result.andThen, hb]
theorem det_pick_f {c x y : Operand} {b : Bool} {u : Value} (hc : opnd st c = some (.bool b)) (hb : b = false) (hy : opnd st y = some u) : PDet P ⟨d, .pick c x y, ty, pos, af, g⟩ st u := fun N a w hs => by
  simp [execOp, hs.eval hy, hs.eval hc, asBool, Result.andThen, hb]
theorem det_extract {x : Operand} {i : Nat} {vs : List Value} {v : Value} (hx : opnd st x = some (.tuple vs.toArray)) (hi : vs[i]? = some v) : PDet P ⟨d, .extract x i, ty, pos, af, g⟩ st v := fun N a w hs => by
  simp [execOp, hs.eval hx, Instr.extract, hi]
theorem det_makeFunc {fn : Fn} {first captured : List Operand} {us vs : List Value} (hu : first.mapM (opnd st) = some us) (hv : captured.mapM (opnd st) = some vs) :
    PDet P ⟨d, .makeFunc fn first.toArray captured.toArray, ty, pos, af, g⟩ st (.func fn us.toArray vs.toArray) := fun N a w hs => by
  have key : ∀ (l : List Operand) (us : List Value), l.mapM (opnd st) = some us → l.map a.eval = us := by
    intro l
    induction l with
    | nil => intro us h; simp at h; simp [h]
    | cons x l ih =>
      intro us h
      rw [List.mapM_cons] at h
      cases hx : opnd st x with
      | none => simp [hx] at h
      | some u =>
        cases hl : l.mapM (opnd st) with
        | none => simp [hx, hl] at h
        | some us' =>
          simp [hx, hl] at h
          rw [List.map_cons, hs.eval hx, ih us' hl, h]
  simp [execOp, Instr.makeFunc, key _ _ hu, key _ _ hv]
theorem det_nilCheck {x : Operand} {p : Addr} (hx : opnd st x = some (.pointer (some p))) : PDet P ⟨d, .nilCheck x, ty, pos, af, g⟩ st (.pointer (some p)) := fun N a w hs => by
  simp [execOp, hs.eval hx]
theorem det_not {x : Operand} {b : Bool} {t : TypeId} (hx : opnd st x = some (.bool b)) : PDet P ⟨d, .unOp .not t x, ty, pos, af, g⟩ st (.bool (!b)) := fun N a w hs => by
  simp [execOp, hs.eval hx, Op.unary]

/-- The range of int. -/
def InI (n : Int) : Prop := -9223372036854775808 ≤ n ∧ n ≤ 9223372036854775807
theorem i64_wrap {n : Int} (h : InI n) : IntKind.i64.wrap n = n := by
  unfold InI at h; simp [IntKind.wrap, IntKind.bits, IntKind.signed]; omega
theorem det_add {x y : Operand} {t t' : TypeId} {m n : Int} (hx : opnd st x = some (.int .i64 m)) (hy : opnd st y = some (.int .i64 n)) (h : InI (m + n)) : PDet P ⟨d, .binOp .add t x y t', ty, pos, af, g⟩ st (.int .i64 (m + n)) := fun N a w hs => by
  simp [execOp, hs.eval hx, hs.eval hy, eqGuard, binOp, Op.intArith, i64_wrap h]
theorem det_sub {x y : Operand} {t t' : TypeId} {m n : Int} (hx : opnd st x = some (.int .i64 m)) (hy : opnd st y = some (.int .i64 n)) (h : InI (m - n)) : PDet P ⟨d, .binOp .sub t x y t', ty, pos, af, g⟩ st (.int .i64 (m - n)) := fun N a w hs => by
  simp [execOp, hs.eval hx, hs.eval hy, eqGuard, binOp, Op.intArith, i64_wrap h]
theorem det_mul {x y : Operand} {t t' : TypeId} {m n : Int} (hx : opnd st x = some (.int .i64 m)) (hy : opnd st y = some (.int .i64 n)) (h : InI (m * n)) : PDet P ⟨d, .binOp .mul t x y t', ty, pos, af, g⟩ st (.int .i64 (m * n)) := fun N a w hs => by
  simp [execOp, hs.eval hx, hs.eval hy, eqGuard, binOp, Op.intArith, i64_wrap h]
theorem det_neg {x : Operand} {t : TypeId} {m : Int} (hx : opnd st x = some (.int .i64 m)) (h : InI (-m)) : PDet P ⟨d, .unOp .neg t x, ty, pos, af, g⟩ st (.int .i64 (-m)) := fun N a w hs => by
  have e : (0 : Int) - m = -m := by omega
  simp [execOp, hs.eval hx, Op.unary, Op.intArith, e, i64_wrap h]
theorem det_lss {x y : Operand} {t t' : TypeId} {m n : Int} {q : IntKind} (hx : opnd st x = some (.int q m)) (hy : opnd st y = some (.int q n)) : PDet P ⟨d, .binOp .lss t x y t', ty, pos, af, g⟩ st (.bool (decide (m < n))) := fun N a w hs => by
  simp [execOp, hs.eval hx, hs.eval hy, eqGuard, binOp, Op.intCmp]
theorem det_leq {x y : Operand} {t t' : TypeId} {m n : Int} {q : IntKind} (hx : opnd st x = some (.int q m)) (hy : opnd st y = some (.int q n)) : PDet P ⟨d, .binOp .leq t x y t', ty, pos, af, g⟩ st (.bool (decide (m ≤ n))) := fun N a w hs => by
  simp [execOp, hs.eval hx, hs.eval hy, eqGuard, binOp, Op.intCmp]
theorem det_gtr {x y : Operand} {t t' : TypeId} {m n : Int} {q : IntKind} (hx : opnd st x = some (.int q m)) (hy : opnd st y = some (.int q n)) : PDet P ⟨d, .binOp .gtr t x y t', ty, pos, af, g⟩ st (.bool (decide (n < m))) := fun N a w hs => by
  simp [execOp, hs.eval hx, hs.eval hy, eqGuard, binOp, Op.intCmp]
theorem det_geq {x y : Operand} {t t' : TypeId} {m n : Int} {q : IntKind} (hx : opnd st x = some (.int q m)) (hy : opnd st y = some (.int q n)) : PDet P ⟨d, .binOp .geq t x y t', ty, pos, af, g⟩ st (.bool (decide (n ≤ m))) := fun N a w hs => by
  simp [execOp, hs.eval hx, hs.eval hy, eqGuard, binOp, Op.intCmp]
theorem det_eql {x y : Operand} {t t' : TypeId} {m n : Int} {q : IntKind} (hx : opnd st x = some (.int q m)) (hy : opnd st y = some (.int q n)) : PDet P ⟨d, .binOp .eql t x y t', ty, pos, af, g⟩ st (.bool (decide (m = n))) := fun N a w hs => by
  have e : (m == n) = decide (m = n) := by rw [Bool.eq_iff_iff]; simp
  have e2 : (m != n) = !decide (m = n) := by rw [bne, e]
  simp [execOp, hs.eval hx, hs.eval hy, eqGuard, binOp, Op.intCmp, e, e2]
theorem det_neq {x y : Operand} {t t' : TypeId} {m n : Int} {q : IntKind} (hx : opnd st x = some (.int q m)) (hy : opnd st y = some (.int q n)) : PDet P ⟨d, .binOp .neq t x y t', ty, pos, af, g⟩ st (.bool (!decide (m = n))) := fun N a w hs => by
  have e : (m == n) = decide (m = n) := by rw [Bool.eq_iff_iff]; simp
  have e2 : (m != n) = !decide (m = n) := by rw [bne, e]
  simp [execOp, hs.eval hx, hs.eval hy, eqGuard, binOp, Op.intCmp, e, e2]

/-! Boxes. -/
theorem cells_run {w : World} {b : Nat} {cs : List Value} (h : Box w b cs) (off n : Nat) (vs : List Value) (hv : (cs.drop off).take n = vs) (hn : vs.length = n) :
    (loadCells ⟨b, off, none⟩ n).run P w = .ok vs.toArray w := by
  have := run_loadCells (P := P) (w := w) ⟨b, off, none⟩ n (fun j => vs.getD j undef) (fun j hj => by
    have hj' : cs[off + j]? = some (vs.getD j undef) := by
      rw [← hv, List.getD_eq_getElem?_getD, List.getElem?_take_of_lt hj, List.getElem?_drop]
      have : off + j < cs.length := by
        have := congrArg List.length hv
        rw [List.length_take, List.length_drop, hn] at this; omega
      rw [List.getElem?_eq_getElem this]; rfl
    have := h.cell _ hj'
    rcases j with _ | j <;> simpa [Addr.add] using this)
  rw [this]
  congr 1
  apply Array.ext
  · simp [hn]
  · intro i h1 h2; simp at h1 h2; simp [List.getD_eq_getElem?_getD, h2]
theorem det_load {x : Operand} {t : TypeId} {b off : Nat} {cs : List Value} {v : Value} (hx : opnd st x = some (.pointer (some ⟨b, off, none⟩))) [hb : BoxAt H b cs] (hA : ∀ w, (isAgg t).run P w = .ok false w) (hc : cs[off]? = some v) :
    Det X P ⟨d, .load t x, ty, pos, af, g⟩ st H R v := fun a w M Ds hs hm => by
  have hbx : Box w b cs := (hm.hold _ hb.mem).now
  have := run_load (P := P) (w := w) ⟨b, off, none⟩ .plain
  simp [execOp, hs.eval hx, Instr.loadAt, Instr.sureAddr, loadVar, Sem.run_bind, hA, Result.andThen, hbx.cell off hc, this]
theorem det_loadA {x : Operand} {t : TypeId} {b off n : Nat} {cs vs : List Value} (hx : opnd st x = some (.pointer (some ⟨b, off, none⟩))) [hb : BoxAt H b cs] (hA : ∀ w, (isAgg t).run P w = .ok true w) (hS : ∀ w, (sizeOf t).run P w = .ok n w) (hv : (cs.drop off).take n = vs) (hn : vs.length = n) :
    Det X P ⟨d, .load t x, ty, pos, af, g⟩ st H R (.agg vs.toArray) := fun a w M Ds hs hm => by
  have hbx : Box w b cs := (hm.hold _ hb.mem).now
  have hr := cells_run (P := P) hbx off n vs hv hn
  simp [execOp, hs.eval hx, Instr.loadAt, Instr.sureAddr, loadVar, Sem.run_bind, hA, hS, Result.andThen, hr]
theorem addr_add (b off k : Nat) : (⟨b, off, none⟩ : Addr).add k = ⟨b, off + k, none⟩ := by
  cases k <;> simp [Addr.add]
/-- Where a field lies. -/
def FieldOff (P : Program) (s f k : Nat) : Prop := ∀ (p : Addr) (w : World), (Instr.fieldAt s (.pointer (some p)) f).run P w = .ok (.pointer (some (p.add k))) w
theorem det_fieldAddr {x : Operand} {s f k b off : Nat} (hx : opnd st x = some (.pointer (some ⟨b, off, none⟩))) (hf : FieldOff P s f k) : PDet P ⟨d, .fieldAddr s x f, ty, pos, af, g⟩ st (.pointer (some ⟨b, off + k, none⟩)) := fun N a w hs => by
  have := hf ⟨b, off, none⟩ w
  rw [addr_add] at this
  simp [execOp, hs.eval hx, this]

theorem jo_new {o : Oper} (ob : Obj) (vf : Nat → Value) (c : Nat → Chunk) (hx : ∀ a w, StOk X.N st a → (execOp a.eval o).run P w = .ok (.value (vf w.heap.size)) (w.alloc ob))
    (hc : ∀ w : World, (c w.heap.size).holds (w.alloc ob)) (ho : ∀ n b, (c n).own b → b = n) (hd : ∀ c, o.op ≠ .defer c) : JO X P o st H R vf (fun b => c b :: H) (fun _ => R) := by
  intro a w M Ds K Q hs hm hK
  refine ⟨fun f _ => fof_fn _ f, ?_⟩
  rw [semAt_plain _ _ _ hd, hx a w hs]
  refine hK w.heap.size _ (fun b => M b ∨ b = w.heap.size) ?_
  have := hm.swap (C := []) (D := H) (C' := [c w.heap.size]) (R' := fun _ => True) (w' := w.alloc ob) (fun b => M b ∨ b = w.heap.size)
    (Moves.of_below ((Below.refl _ _).alloc (Nat.le_refl _) _)) (fun b hb => .inl hb) (fun b hb => hb.imp id (fun e => by omega)) (fun b hb => by
      rw [World.size_alloc]; rcases hb with hb | rfl
      · have := hm.bd b hb; omega
      · omega)
    (by intro c hc'; simp at hc'; subst hc'; exact hc w) (by intro c hc' b hb; simp at hc'; subst hc'; have := ho _ _ hb; subst this; exact ⟨.inr rfl, .inr (Nat.le_refl _)⟩) (by simp) (fun _ _ => trivial)
  exact this.know fun w h => h.2
theorem jo_alloc {o : Oper} (t : TypeId) {cs : List Value} {vf : Nat → Value} (hx : ∀ a w, StOk X.N st a → (execOp a.eval o).run P w = .ok (.value (vf w.heap.size)) (w.alloc (.cells cs.toArray t)))
    (hd : ∀ c, o.op ≠ .defer c) : JO X P o st H R vf (fun b => bx b cs :: H) (fun _ => R) :=
  jo_new (.cells cs.toArray t) vf (fun b => bx b cs) hx (fun w => bx_holds (Box.new _ _ _)) (fun _ _ h => h) hd
theorem run_newRow (P : Program) (w : World) (t : TypeId) (cs : Array Value) : (newRow t cs).run P w = .ok ⟨w.heap.size, 0, none⟩ (w.alloc (.cells cs t)) := by
  rfl
theorem jo_box {x : Operand} {t : TypeId} {v : Value} {cs : List Value} (hx : opnd st x = some v) (hc : v.cells = cs.toArray) : JO X P ⟨d, .box t x, ty, pos, af, g⟩ st H R (fun b : Nat => .pointer (some ⟨b, 0, none⟩)) (fun b => bx b cs :: H) (fun _ => R) :=
  jo_alloc t (fun a w hs => by
    simp [execOp, hs.eval hx, Instr.box, newVar, Sem.run_bind, run_newRow, Result.andThen, hc]) (by intro c h; cases h)
theorem jo_alloc0 {t : TypeId} {z : Value} {cs : List Value} (hz : ∀ w, (zeroValue t).run P w = .ok z w) (hc : z.cells = cs.toArray) : JO X P ⟨d, .alloc t, ty, pos, af, g⟩ st H R (fun b : Nat => .pointer (some ⟨b, 0, none⟩)) (fun b => bx b cs :: H) (fun _ => R) :=
  jo_alloc t (fun a w hs => by
    simp [execOp, Instr.alloc, newVar, Sem.run_bind, run_newRow, hz, Result.andThen, hc]) (by intro c h; cases h)

end
end Go.Proofs.YthpkgabckklojaaGreat

/- Stores, calls, ways in and out, loops. Nothing is asked. -/
namespace Go.Proofs.YthpkgabckklojaaGreat
open Go.RowKit Go.Shelf

/-- A value put over some cells. -/
def splice : List Value → Nat → List Value → List Value
  | cs, _, [] => cs
  | cs, o, v :: vs => splice (cs.set o v) (o + 1) vs
theorem splice_len : ∀ (vs : List Value) (cs : List Value) (o : Nat), (splice cs o vs).length = cs.length
  | [], _, _ => rfl
  | v :: vs, cs, o => by rw [splice, splice_len vs, List.length_set]

section
variable {X : Ctx} {P : Program} {st : Sto} {H H' : List Chunk} {R R' : World → Prop} {k : Kont} {ops : Array Oper} {rest : List Oper} {Q : Exit → Act → World → Prop}
variable {d : Option Nat} {ty : TypeId} {pos : String} {af : Array Edge} {g : Option (Nat × Bool)}

theorem storeCells_run (b off : Nat) : ∀ (vs : List Value) (i : Nat) (w : World) (cs : List Value), Box w b cs → off + i + vs.length ≤ cs.length → (∀ v ∈ vs, v.oneCell' = true) →
    ∃ w', (storeCells ⟨b, off, none⟩ vs i).run P w = .ok () w' ∧ Box w' b (splice cs (off + i) vs) ∧ Moves (· = b) w w' ∧ w'.heap.size = w.heap.size
  | [], i, w, cs, h, _, _ => ⟨w, rfl, h, Moves.refl _, rfl⟩
  | v :: vs, i, w, cs, h, hl, h1 => by
    simp only [List.length_cons] at hl
    have hc : w.cell? ⟨b, off + i, none⟩ = some cs[off + i] := h.cell _ (List.getElem?_eq_getElem (by omega))
    have hf := h.free (off + i)
    have hs := run_store P w ⟨b, off + i, none⟩ v .plain (h1 v (by simp))
    rw [hc] at hs
    simp only [hf, Bool.false_eq_true, if_false] at hs
    obtain ⟨w', e1, e2, e3, e4⟩ := storeCells_run b off vs (i + 1) (w.setCell ⟨b, off + i, none⟩ v) _ (h.set (off + i) v) (by rw [List.length_set]; omega) (fun u hu => h1 u (by simp [hu]))
    refine ⟨w', ?_, ?_, ?_, ?_⟩
    · rw [storeCells, addr_add]; simp [Sem.run_bind, hs, Result.andThen, e1]
    · rw [splice, Nat.add_assoc]; exact e2
    · exact ((Moves.refl (Bs := (· = b)) w).set (fun _ => rfl)).trans e3 (fun _ _ h => h)
    · rw [e4]; simp [World.setCell]
theorem storeVar_run {w : World} {b : Nat} {cs vs : List Value} (h : Box w b cs) (t off : Nat) (v : Value) (hv : v.cells = vs.toArray) (hS : ∀ w, (sizeOf t).run P w = .ok vs.length w) (hl : off + vs.length ≤ cs.length) (h1 : vs.all (·.oneCell') = true) :
    ∃ w', (storeVar t ⟨b, off, none⟩ v).run P w = .ok () w' ∧ Box w' b (splice cs off vs) ∧ Moves (· = b) w w' ∧ w'.heap.size = w.heap.size := by
  obtain ⟨w', e1, e2⟩ := storeCells_run (P := P) b off vs 0 w cs h hl (fun v hv => List.all_eq_true.1 h1 v hv)
  refine ⟨w', ?_, e2⟩
  unfold storeVar
  simp only [Sem.run_bind, hS, hv, Result.andThen_ok]
  simpa using e1

theorem jo_store {x y : Operand} {t b off : Nat} {cs cs' vs : List Value} {v : Value} (hx : opnd st x = some (.pointer (some ⟨b, off, none⟩))) (hy : opnd st y = some v) (hv : v.cells = vs.toArray) [ha : BoxAt H b cs] (hcs : splice cs off vs = cs') [hu : BoxUpd H b cs' H']
    (hS : ∀ w, (sizeOf t).run P w = .ok vs.length w) (hl : Nat.ble (off + vs.length) cs.length = true) (h1 : vs.all (·.oneCell') = true) :
    JO X P ⟨d, .store t x y, ty, pos, af, g⟩ st H R (fun _ : Unit => undef) (fun _ => H') (fun _ => R) := by
  intro a w M Ds K Q hs hm hK
  subst hcs
  obtain ⟨A, B, cs0, e1, e2⟩ := hu.ex
  subst e1 e2
  have hbx : Box w b cs := (hm.hold _ ha.mem).now
  have hm2 := hm.perm (mid_perm A B _)
  obtain ⟨w', r1, r2, r3, r4⟩ := storeVar_run (P := P) hbx t off v hv hS (Nat.le_of_ble_eq_true hl) h1
  refine ⟨fun f _ => fof_fn _ f, ?_⟩
  rw [semAt_plain _ _ _ (by intro c h; cases h)]
  have hrun : (execOp a.eval ⟨d, .store t x y, ty, pos, af, g⟩).run P w = .ok .skip w' := by
    simp [execOp, hs.eval hx, hs.eval hy, Instr.storeAt, Instr.sureAddr, Sem.run_bind, r1, Result.andThen]
  rw [hrun]
  refine hK () w' M ?_
  have := hm2.swap (C' := [bx b (splice cs off vs)]) (R' := fun _ => True) M (r3.weaken fun i _ hi => ⟨bx b cs0, by simp, hi⟩) (fun _ h => h) (fun _ h => .inl h)
    (fun b hb => by rw [r4]; exact hm.bd b hb) (by intro c hc; simp at hc; subst hc; exact bx_holds r2)
    (by intro c hc b' hb'; simp at hc; subst hc; cases hb'; exact ⟨hm2.own (bx _ cs0) (by simp) _ rfl, .inl ⟨bx _ cs0, by simp, rfl⟩⟩) (by simp) (fun _ _ => trivial)
  exact (this.know fun w h => h.2).perm (mid_perm A B _).symm

/-- What the operands are. -/
def evs (st : Sto) : List Operand → Option (List Value)
  | [] => some []
  | x :: l => match opnd st x with
    | none => none
    | some v => match evs st l with
      | none => none
      | some r => some (v :: r)
theorem StOk.evs {N : Nat} {a : Act} (hs : StOk N st a) : ∀ {l : List Operand} {vs : List Value}, evs st l = some vs → l.map a.eval = vs
  | [], vs, h => by cases h; rfl
  | x :: l, vs, h => by
    simp only [Go.Proofs.YthpkgabckklojaaGreat.evs] at h
    cases hx : opnd st x with
    | none => simp [hx] at h
    | some v =>
      cases hl : Go.Proofs.YthpkgabckklojaaGreat.evs st l with
      | none => simp [hx, hl] at h
      | some r => simp [hx, hl] at h; rw [List.map_cons, hs.eval hx, StOk.evs hs hl, h]

/-- What a call leaves: its result, the pieces that it hands back, what is known then. -/
def CxPost (M : Nat → Prop) (w : World) (Hp : List Chunk) {α : Type} (ret : α → Value) (Hq : α → List Chunk) (post : α → World → Prop) (e : Ending) (w' : World) : Prop :=
  ∃ (x : α) (M' : Nat → Prop), e = .returned (ret x) ∧ Moves (fun b => ∃ c ∈ Hp, c.own b) w w' ∧ (∀ b, M b → M' b) ∧ (∀ b, M' b → M b ∨ w.heap.size ≤ b) ∧ (∀ b, M' b → b < w'.heap.size) ∧
      (∀ c ∈ Hq x, c.holds w' ∧ ∀ b, c.own b → M' b ∧ ((∃ c0 ∈ Hp, c0.own b) ∨ w.heap.size ≤ b)) ∧ ((Hq x).Pairwise fun c d => ∀ b, c.own b → ¬ d.own b) ∧ (∀ w2, Moves M' w' w2 → post x w2)
/-- A function's contract: the pieces it takes, what it must know; its results, the pieces it hands back, what is known then. -/
def Cx (P : Program) (f : FuncId) (args : List Value) (Hp : List Chunk) (pre : World → Prop) {α : Type} (ret : α → Value) (Hq : α → List Chunk) (post : α → World → Prop) : Prop :=
  ∀ (M : Nat → Prop) (w : World), (∀ b, M b → b < w.heap.size) → (∀ c ∈ Hp, c.holds w ∧ ∀ b, c.own b → M b) → (Hp.Pairwise fun c d => ∀ b, c.own b → ¬ d.own b) → (∀ w', Moves M w w' → pre w') →
    Calls P f args.toArray w (CxPost M w Hp ret Hq post)
/-- A contract of a function that makes nothing that is written later. -/
abbrev Cr (P : Program) (f : FuncId) (args : List Value) (pre : World → Prop) {α : Type} (ret : α → Value) (post : α → World → Prop) : Prop := Cx P f args [] pre ret (fun _ => []) post
/-- A contract of a function that only answers. -/
abbrev Cv (P : Program) (f : FuncId) (args : List Value) (pre : World → Prop) (v : Value) : Prop := Cx P f args [] pre (fun _ : Unit => v) (fun _ => []) (fun _ => KTrue)

theorem jo_callx {x : Operand} {l : List Operand} {ts : Array TypeId} {f : FuncId} {F C vs args : List Value} {Hp D : List Chunk} {pre : World → Prop} {α : Type} {ret : α → Value} {Hq : α → List Chunk} {post : α → World → Prop}
    (hx : opnd st x = some (.func (.func f) F.toArray C.toArray)) (hl : evs st l = some vs) (eg : ∀ args w, (callFunc f args).run P w = .ok (.enter f args) w) (hargs : F ++ vs ++ C = args)
    (hc : Cx P f args Hp pre ret Hq post) (hH : H.Perm (Hp ++ D)) [hk : Knows R pre] :
    JO X P ⟨d, .call ⟨.value x, l.toArray, ts⟩, ty, pos, af, g⟩ st H R ret (fun x => Hq x ++ D) (fun x => KAnd (post x) R) := by
  intro a w M Ds K Q hs hm hK
  refine ⟨fun f _ => fof_fn _ f, ?_⟩
  rw [semAt_plain _ _ _ (by intro c h; cases h)]
  have hrun : (execOp a.eval ⟨d, .call ⟨.value x, l.toArray, ts⟩, ty, pos, af, g⟩).run P w = .ok (.enter f args.toArray) w := by
    have hm : l.toArray.map a.eval = vs.toArray := by rw [List.map_toArray, hs.evs hl]
    simp only [execOp, resolve, hs.eval hx, hm, Deferred.ofValue, Sem.run_bind, Sem.run_pure, Result.andThen_ok, invoke]
    rw [eg, ← hargs]; simp
  rw [hrun]
  have hm2 := hm.perm hH
  refine ⟨fof_depth _, fof_calls (Calls.mono (hc M w hm2.bd (fun c hc => ⟨hm2.hold c (List.mem_append.2 (.inl hc)), hm2.own c (List.mem_append.2 (.inl hc))⟩) (List.pairwise_append.1 hm2.dis).1 (fun w' hw => hk.know w' (hm2.keep w' hw))) ?_)⟩
  rintro e w' ⟨y, M', rfl, h1, h2, h3, h4, h5, h6, h7⟩
  exact hK y w' M' (hm2.swap M' h1 h2 h3 h4 (fun c hc => (h5 c hc).1) (fun c hc => (h5 c hc).2) h6 h7)
theorem jo_call {x : Operand} {l : List Operand} {ts : Array TypeId} {f : FuncId} {F C vs args : List Value} {pre : World → Prop} {α : Type} {ret : α → Value} {Hq : α → List Chunk} {post : α → World → Prop}
    (hx : opnd st x = some (.func (.func f) F.toArray C.toArray)) (hl : evs st l = some vs) (eg : ∀ args w, (callFunc f args).run P w = .ok (.enter f args) w) (hargs : F ++ vs ++ C = args)
    (hc : Cx P f args [] pre ret Hq post) [hk : Knows R pre] :
    JO X P ⟨d, .call ⟨.value x, l.toArray, ts⟩, ty, pos, af, g⟩ st H R ret (fun x => Hq x ++ H) (fun x => KAnd (post x) R) :=
  jo_callx hx hl eg hargs hc (List.Perm.refl _)
/-- A call that only answers. -/
theorem jo_callv {x : Operand} {l : List Operand} {ts : Array TypeId} {f : FuncId} {F C vs args : List Value} {pre : World → Prop} {v : Value}
    (hx : opnd st x = some (.func (.func f) F.toArray C.toArray)) (hl : evs st l = some vs) (eg : ∀ args w, (callFunc f args).run P w = .ok (.enter f args) w) (hargs : F ++ vs ++ C = args)
    (hc : Cv P f args pre v) [hk : Knows R pre] :
    JO X P ⟨d, .call ⟨.value x, l.toArray, ts⟩, ty, pos, af, g⟩ st H R (fun _ : Unit => v) (fun _ => H) (fun _ => R) := by
  intro a w M Ds K Q hs hm hK
  exact jo_call hx hl eg hargs hc a w M Ds K Q hs hm fun y w' M' hm' => hK y w' M' (hm'.know fun _ h => h.2)
theorem Cx.mono {f : FuncId} {args : List Value} {Hp : List Chunk} {pre pre' : World → Prop} {α : Type} {ret : α → Value} {Hq : α → List Chunk} {post post' : α → World → Prop}
    (h : Cx P f args Hp pre ret Hq post) (h1 : ∀ w, pre' w → pre w) (h2 : ∀ x w, post x w → post' x w) : Cx P f args Hp pre' ret Hq post' := by
  intro M w a1 a2 a3 a4
  refine Calls.mono (h M w a1 a2 a3 fun w' hw => h1 _ (a4 w' hw)) ?_
  rintro e w' ⟨x, M', b1, b2, b3, b4, b5, b6, b7, b8⟩
  exact ⟨x, M', b1, b2, b3, b4, b5, b6, b7, fun w2 hw => h2 _ _ (b8 w2 hw)⟩

/-! The way in, and out. -/
def mkX (N : Nat) (w0 : World) (Fp M0 : Nat → Prop) : Ctx := ⟨3, none, N, w0, Fp, M0, false⟩
def params : List Value → Nat → Sto
  | [], _ => []
  | v :: l, i => (i, v) :: params l (i + 1)
theorem look_params : ∀ (l : List Value) (i t : Nat) (v : Value), look (params l i) t = some v → i ≤ t ∧ l[t - i]? = some v
  | [], i, t, v, h => by cases h
  | u :: l, i, t, v, h => by
    simp only [params, look] at h
    by_cases e : i = t
    · subst e; simp at h; simp [h]
    · rw [beq_no e] at h
      obtain ⟨h1, h2⟩ := look_params l (i + 1) t v h
      refine ⟨by omega, ?_⟩
      rw [show t - i = (t - (i + 1)) + 1 by omega, List.getElem?_cons_succ]; exact h2
/-- What a result is, behind the marks. -/
def rres (tmps : Array Value) : ResultVar → Sem Value
  | .tmp t => pure (tmps.getD t undef)
  | .cell a t => do loadVar t (← asAddr (tmps.getD a undef))
theorem results_rres (fn : Func) (tmps : Array Value) : results fn tmps = (do let vs ← fn.results.mapM (rres tmps); pure (if h : vs.size = 1 then vs[0] else .tuple vs)) := by
  unfold results
  congr 2
def Res (P : Program) (st : Sto) (H : List Chunk) (rv : ResultVar) (v : Value) : Prop := ∀ (N : Nat) (a : Act) (w : World), StOk N st a → (∀ c ∈ H, c.holds w) → (rres a.tmps rv).run P w = .ok v w
theorem res_tmp {t : Nat} {v : Value} (h : look st t = some v) : Res P st H (.tmp t) v := fun N a w hs _ => by
  show (Sem.pure _).run P w = _
  rw [hs.get t v h]; rfl
theorem res_box {t b n : Nat} {cs : List Value} {T : TypeId} (h : look st t = some (.pointer (some ⟨b, 0, none⟩))) [hb : BoxAt H b cs] (hA : ∀ w, (isAgg T).run P w = .ok true w) (hS : ∀ w, (sizeOf T).run P w = .ok n w) (hn : cs.length = n) : Res P st H (.cell t T) (.agg cs.toArray) := fun N a w hs hH => by
  have hbx : Box w b cs := (hH _ hb.mem).now
  have hr := cells_run (P := P) hbx 0 n cs (by simp [← hn]) hn
  have hg := hs.get t _ h
  simp only [Array.getD_eq_getD_getElem?] at hg
  simp [rres, hg, asAddr, loadVar, Sem.run_bind, hA, hS, Result.andThen, hr]
theorem res_cell1 {t b : Nat} {v : Value} {T : TypeId} (h : look st t = some (.pointer (some ⟨b, 0, none⟩))) [hb : BoxAt H b [v]] (hA : ∀ w, (isAgg T).run P w = .ok false w) : Res P st H (.cell t T) v := fun N a w hs hH => by
  have hbx : Box w b [v] := (hH _ hb.mem).now
  have hg := hs.get t _ h
  simp only [Array.getD_eq_getD_getElem?] at hg
  have := run_load (P := P) (w := w) ⟨b, 0, none⟩ .plain
  simp [rres, hg, asAddr, loadVar, Sem.run_bind, hA, Result.andThen, hbx.cell 0 rfl, this]
/-- All results together. -/
def Results (P : Program) (st : Sto) (H : List Chunk) (fn : Func) (v : Value) : Prop := ∀ (N : Nat) (a : Act) (w : World), StOk N st a → (∀ c ∈ H, c.holds w) → (results fn a.tmps).run P w = .ok v w
theorem results0 {fn : Func} (h : fn.results = #[]) : Results P st H fn (.tuple #[]) := fun N a w hs hH => by simp [results, h]
theorem results1 {fn : Func} {r : ResultVar} {v : Value} (h : fn.results = #[r]) (hr : Res P st H r v) : Results P st H fn v := fun N a w hs hH => by
  have h1 := hr N a w hs hH
  rw [results_rres, h]; simp [Sem.run_bind, Result.andThen, h1]
theorem results2 {fn : Func} {r s : ResultVar} {u v : Value} (h : fn.results = #[r, s]) (hr : Res P st H r u) (hs' : Res P st H s v) : Results P st H fn (.tuple #[u, v]) := fun N a w hs hH => by
  have h1 := hr N a w hs hH
  have h2 := hs' N a w hs hH
  rw [results_rres, h]; simp [Sem.run_bind, Result.andThen, h1, h2]
theorem results3 {fn : Func} {r s t : ResultVar} {u v x : Value} (h : fn.results = #[r, s, t]) (hr : Res P st H r u) (hs' : Res P st H s v) (ht : Res P st H t x) : Results P st H fn (.tuple #[u, v, x]) := fun N a w hs hH => by
  have h1 := hr N a w hs hH
  have h2 := hs' N a w hs hH
  have h3 := ht N a w hs hH
  rw [results_rres, h]; simp [Sem.run_bind, Result.andThen, h1, h2, h3]
end
end Go.Proofs.YthpkgabckklojaaGreat

/- Ways in and out, loops, cuts, guards. Nothing is asked. -/
namespace Go.Proofs.YthpkgabckklojaaGreat
open Go.RowKit Go.Shelf

theorem leaves_marks {P : Program} {n : Nat} {fn : Func} {tmps : Array Value} {R : Ending → World → Prop} {Bs : Nat → Prop} (w0 : World) : ∀ (Ds : List Nat) (w : World), Ds.Nodup → (∀ D ∈ Ds, Bs D ∧ w.heap[D]? = some (.deferred (some []))) → Moves Bs w0 w →
    (∀ w', Moves Bs w0 w' → ∃ v, (results fn tmps).run P w' = .ok v w' ∧ R (.returned v) w') → LeavesInM Fence.wide n P fn tmps R (Ds.map Mark) .returning w
  | [], w, _, _, hw, h => h w hw
  | D :: Ds, w, hn, hm, hw, h => by
    have hD := hm D (by simp)
    refine ⟨by simp, .inl ⟨D, _, rfl, run_takeDeferred hD.2, leaves_marks w0 Ds _ (List.nodup_cons.1 hn).2 (fun x hx => ⟨(hm x (by simp [hx])).1, ?_⟩) ?_ h⟩⟩
    · have hne : x ≠ D := fun e => (List.nodup_cons.1 hn).1 (e ▸ hx)
      rw [World.putObj_heap_other hne]; exact (hm x (by simp [hx])).2
    · refine hw.trans (Bs' := Bs) ⟨rfl, rfl, rfl, by simp [World.putObj], fun k hk hb => ?_⟩ (fun _ _ h => h)
      exact World.putObj_heap_other (fun e => hb (e ▸ hD.1))

section
variable {X : Ctx} {P : Program} {st st2 : Sto} {H H2 H' D : List Chunk} {R R' : World → Prop} {k : Kont} {ops : Array Oper} {rest : List Oper} {Q : Exit → Act → World → Prop}

/-- What a function's body must come to. -/
abbrev RetK (P : Program) (fn : Func) (M : Nat → Prop) (w : World) (Hp : List Chunk) {α : Type} (ret : α → Value) (Hq : α → List Chunk) (post : α → World → Prop) : Kont :=
  .done (bodyPostM Fence.wide 3 P fn (CxPost M w Hp ret Hq post))
abbrev OwnOf (Hp : List Chunk) : Nat → Prop := fun b => ∃ c ∈ Hp, c.own b

theorem JE_out {e : Exit} (he : e = .ret ∨ e = .normal) {N : Nat} {w0 : World} {M0 : Nat → Prop} {fn : Func} {Hp : List Chunk} {α : Type} {ret : α → Value} {Hq : α → List Chunk} {post : α → World → Prop} {v : Value} (x : α)
    (hres : Results P st H fn v) (hv : v = ret x) (hH : H.Perm (Hq x ++ D)) (hR : ∀ w, R w → post x w) :
    JE (mkX N w0 (OwnOf Hp) M0) P e (RetK P fn M0 w0 Hp ret Hq post) st H R := by
  subst hv
  intro a w ⟨hs, M, Ds, hd, hm⟩
  have hmain : LeavesInM Fence.wide 3 P fn a.tmps (CxPost M0 w0 Hp ret Hq post) a.defers .returning w := by
    rw [hd]
    refine leaves_marks (Bs := (· ∈ Ds)) w Ds w hm.mks.1 (fun D hD => ⟨hD, (hm.mks.2 D hD).2⟩) (Moves.refl w) fun w' hw => ?_
    have hMw : Moves M w w' := hw.weaken fun i _ hi => hm.mkM i hi
    have hh : ∀ c ∈ H, c.holds w' := fun c hc => (hm.hold c hc).later hw.size fun b hb => hw.block b ((hm.hold c hc).bd b hb) fun hD => hm.mkH b hD c hc hb
    have hsub : ∀ c ∈ Hq x, c ∈ H := fun c hc => hH.mem_iff.2 (List.mem_append.2 (.inl hc))
    refine ⟨ret x, hres N a w' hs hh, x, M, rfl, ?_, hm.m0, hm.m1, fun b hb => Nat.lt_of_lt_of_le (hm.bd b hb) hw.size, fun c hc => ⟨hh c (hsub c hc), fun b hb => ⟨hm.own c (hsub c hc) b hb, ?_⟩⟩, ?_, fun w2 h2 => hR w2 (hm.keep w2 (hMw.trans h2 fun _ _ h => h))⟩
    · exact (show Moves (OwnOf Hp) w0 w from hm.mv).trans hw fun i hi hD => by
        have h1 := (hm.mks.2 i hD).1
        have h2 : w0.heap.size ≤ i := h1
        omega
    · exact hm.fp c (hsub c hc) b hb
    · exact (List.pairwise_append.1 (hH.pairwise hm.dis (fun hs b hb hc => hs b hc hb))).1
  rcases he with rfl | rfl <;> exact hmain

theorem Cx_of {f : FuncId} {fn : Func} {c : Code} {N : Nat} {args : List Value} {Hp : List Chunk} {pre : World → Prop} {α : Type} {ret : α → Value} {Hq : α → List Chunk} {post : α → World → Prop}
    (hf : P.funcs[f]? = some fn) (hb : fn.body = some c) (hN : fn.ntmps = N) (ha : Nat.ble args.length N = true)
    (h : ∀ (w0 : World) (M0 : Nat → Prop), JC (mkX N w0 (OwnOf Hp) M0) P c (RetK P fn M0 w0 Hp ret Hq post) (params args 0) Hp pre) : Cx P f args Hp pre ret Hq post := by
  intro M w h1 h2 h3 h4
  have ha' := Nat.le_of_ble_eq_true ha
  refine (callsIn_wide (n := 3)).1 (callsIn_of_wp_marks hf hb trivial (h w M _ _ ⟨⟨?_, ?_⟩, M, [], rfl, ?_⟩) rfl)
  · show (args.toArray ++ Array.replicate (fn.ntmps - args.toArray.size) undef).size = N
    simp [hN]; omega
  · intro t v hv
    obtain ⟨_, hv⟩ := look_params args 0 t v hv
    simp only [Nat.sub_zero] at hv
    have hlt := (List.getElem?_eq_some_iff.1 hv).1
    simp only [Array.getD_eq_getD_getElem?]
    rw [Array.getElem?_append_left (by simpa using hlt)]
    simp [hv]
  · exact ⟨h1, fun c hc => (h2 c hc).1, fun c hc => (h2 c hc).2, fun c hc b hb => .inl ⟨c, hc, hb⟩, h3, h4, Moves.refl w, fun _ h => h, fun _ h => .inl h, MarksIn.nil _ _, by simp, by simp, h1, fun _ => rfl⟩

/-! Weaker states. -/
def StSub (st st2 : Sto) : Prop := ∀ t v, look st2 t = some v → look st t = some v
theorem stsub_nil : StSub st [] := fun t v h => by cases h
theorem stsub_cons {t : Nat} {v : Value} (h : look st t = some v) (h2 : StSub st st2) : StSub st ((t, v) :: st2) := fun t' v' h' => by
  simp only [look] at h'
  by_cases e : t = t'
  · subst e; simp at h'; rw [← h']; exact h
  · rw [beq_no e] at h'; exact h2 t' v' h'
theorem stsub_refl : StSub st st := fun _ _ h => h
def HSub (H H2 : List Chunk) : Prop := ∃ D, H.Perm (H2 ++ D)
theorem hsub_refl : HSub H H := ⟨[], by simp⟩
theorem hsub_drop (n : Nat) (h : H.drop n = H2) : HSub H H2 := ⟨H.take n, by
  have e := List.perm_append_comm (l₁ := H.take n) (l₂ := H.drop n)
  rw [List.take_append_drop, h] at e; exact e⟩
theorem hsub_nil : HSub H [] := ⟨H, by simp⟩
class Pick (H : List Chunk) (c : Chunk) (H' : outParam (List Chunk)) : Prop where
  perm : H.Perm (c :: H')
instance (H : List Chunk) (c : Chunk) : Pick (c :: H) c H := ⟨List.Perm.refl _⟩
instance (H H' : List Chunk) (c e : Chunk) [h : Pick H c H'] : Pick (e :: H) c (e :: H') := ⟨(h.perm.cons e).trans (List.Perm.swap c e H')⟩
instance (A B B' : List Chunk) (c : Chunk) [h : Pick B c B'] : Pick (A ++ B) c (A ++ B') := ⟨(h.perm.append_left A).trans List.perm_middle⟩
instance (A A' B : List Chunk) (c : Chunk) [h : Pick A c A'] : Pick (A ++ B) c (A' ++ B) := ⟨h.perm.append_right B⟩
theorem hsub_cons {c : Chunk} [h : Pick H c H'] (h2 : HSub H' H2) : HSub H (c :: H2) := by
  obtain ⟨D, hD⟩ := h2
  exact ⟨D, h.perm.trans (hD.cons c)⟩
theorem Ok.weak {a : Act} {w : World} (h : Ok X st H R a w) (hs : StSub st st2) (hH : HSub H H2) (hR : ∀ w, R w → R' w) : Ok X st2 H2 R' a w := by
  obtain ⟨D, hD⟩ := hH
  obtain ⟨h1, M, Ds, h2, h3⟩ := h
  exact ⟨⟨h1.size, fun t v ht => h1.get t v (hs t v ht)⟩, M, Ds, h2, ((h3.perm (hD.trans List.perm_append_comm)).drop).know hR⟩
theorem JC_weak {c : Code} (hs : StSub st st2) (hH : HSub H H2) (hR : ∀ w, R w → R' w) (h : JC X P c k st2 H2 R') : JC X P c k st H R := fun a w ho => h a w (ho.weak hs hH hR)
theorem JE_weak {e : Exit} (hs : StSub st st2) (hH : HSub H H2) (hR : ∀ w, R w → R' w) (h : JE X P e k st2 H2 R') : JE X P e k st H R := fun a w ho => h a w (ho.weak hs hH hR)
theorem JL_weak (hs : StSub st st2) (hH : HSub H H2) (hR : ∀ w, R w → R' w) (h : JL X P ops Q rest st2 H2 R') : JL X P ops Q rest st H R := fun a w ho => h a w (ho.weak hs hH hR)

/-! Loops and cuts. -/
theorem JC_loop {γ : Type} {body : Code} (I : γ → Prop) (st' : γ → Sto) (H' : γ → List Chunk) (R' : γ → World → Prop) (μ : γ → Nat) (g0 : γ) (hI : I g0) (hs : StSub st (st' g0)) (hH : HSub H (H' g0)) (hR : ∀ w, R w → R' g0 w)
    (round : ∀ g, I g → ∀ K : Act → World → Prop, (∀ g', I g' → μ g' < μ g → ∀ a w, Ok X (st' g') (H' g') (R' g') a w → K a w) → JC X P body (.thenP K k) (st' g) (H' g) (R' g)) : JC X P (.loop body) k st H R := by
  intro a w ho
  refine wpIn_loop_ghost (fun n a w => ∃ g, μ g = n ∧ I g ∧ Ok X (st' g) (H' g) (R' g) a w) (μ g0) ⟨g0, rfl, hI, ho.weak hs hH hR⟩ ?_
  rintro n a w ⟨g, rfl, hg, ho⟩
  exact round g hg _ (fun g' hg' hlt a w ho' => ⟨μ g', hlt, g', rfl, hg', ho'⟩) a w ho
theorem JE_round {γ : Type} {I : γ → Prop} {st' : γ → Sto} {H' : γ → List Chunk} {R' : γ → World → Prop} {μ : γ → Nat} {g : γ} {K : Act → World → Prop} (hK : ∀ g', I g' → μ g' < μ g → ∀ a w, Ok X (st' g') (H' g') (R' g') a w → K a w)
    (g' : γ) (hI : I g') (hlt : μ g' < μ g) (hs : StSub st (st' g')) (hH : HSub H (H' g')) (hR : ∀ w, R w → R' g' w) : JE X P .normal (.thenP K k) st H R :=
  fun a w ho => hK g' hI hlt a w (ho.weak hs hH hR)
theorem JC_cut {γ : Type} {c1 c2 : Code} (I : γ → Prop) (st' : γ → Sto) (H' : γ → List Chunk) (R' : γ → World → Prop)
    (h1 : ∀ K : Act → World → Prop, (∀ g, I g → ∀ a w, Ok X (st' g) (H' g) (R' g) a w → K a w) → JC X P c1 (.thenP K k) st H R)
    (h2 : ∀ g, I g → JC X P c2 k (st' g) (H' g) (R' g)) : JC X P (.seq c1 c2) k st H R :=
  fun a w ho => wpIn_seq (h1 _ (fun g hg a w ho => h2 g hg a w ho) a w ho)
theorem JC_cut2 {γ : Type} {c1 c2 : Code} (I : γ → Prop) (st' : γ → Sto) (H' : γ → List Chunk) (R' : γ → World → Prop)
    (h1 : ∀ K : Act → World → Prop, (∀ g, I g → ∀ a w, Ok X (st' g) (H' g) (R' g) a w → K a w) → JC X P c1 (.thenP K k) st H R)
    (h2 : ∀ g, I g → JC X P c2 k (st' g) (H' g) (R' g)) : JC X P c1 (.seq c2 k) st H R :=
  fun a w ho => h1 _ (fun g hg a w ho => h2 g hg a w ho) a w ho
theorem JE_cut {γ : Type} {I : γ → Prop} {st' : γ → Sto} {H' : γ → List Chunk} {R' : γ → World → Prop} {K : Act → World → Prop} (hK : ∀ g, I g → ∀ a w, Ok X (st' g) (H' g) (R' g) a w → K a w)
    (g : γ) (hI : I g) (hs : StSub st (st' g)) (hH : HSub H (H' g)) (hR : ∀ w, R w → R' g w) : JE X P .normal (.thenP K k) st H R :=
  fun a w ho => hK g hI a w (ho.weak hs hH hR)

/-! Guards. -/
def dstOf (ops : Array Oper) (j : Nat) : Option Nat := (ops[j]?).bind (·.dst)
theorem yielded_of {N : Nat} {a : Act} (hs : StOk N st a) {j d0 : Nat} {b : Bool} (hj : dstOf ops j = some d0) (hb : look st d0 = some (.bool b)) : yielded ops a.tmps j = some b := by
  have h1 := hs.get _ _ hb
  unfold dstOf at hj
  unfold yielded
  rw [hj]
  simp only [Option.bind_some]
  simp only [Array.getD_eq_getD_getElem?] at h1
  cases hq : a.tmps[d0]? with
  | none => rw [hq] at h1; cases h1
  | some v => rw [hq] at h1; simp at h1; rw [h1]
theorem JL_guard {d : Option Nat} {op : Op} {ty : TypeId} {pos : String} {af : Array Edge} {j d0 : Nat} {want b : Bool} (hj : dstOf ops j = some d0) (hb : look st d0 = some (.bool b)) (hw : b = want)
    (h : JL X P ops Q (⟨d, op, ty, pos, af, none⟩ :: rest) st H R) : JL X P ops Q (⟨d, op, ty, pos, af, some (j, want)⟩ :: rest) st H R := by
  intro a w ho
  have hy := yielded_of ho.st hj hb
  have h1 := h a w ho
  rw [wpListIn, if_pos (by simp [Region.wanted])] at h1
  rw [wpListIn, if_pos (by simp [Region.wanted, hy, hw])]
  exact h1
theorem JL_skip {d : Nat} {op : Op} {ty : TypeId} {pos : String} {af : Array Edge} {j d0 : Nat} {want b : Bool} (hj : dstOf ops j = some d0) (hb : look st d0 = some (.bool b)) (hw : b = !want) (hN : Nat.blt d X.N = true)
    (h : JL X P ops Q rest ((d, undef) :: st) H R) : JL X P ops Q (⟨some d, op, ty, pos, af, some (j, want)⟩ :: rest) st H R := by
  intro a w ⟨hs, M, Ds, hd, hm⟩
  have hy := yielded_of hs hj hb
  have := h (a.put (some d) undef) w ⟨hs.put (blt_lt hN) _, M, Ds, hd, hm⟩
  rw [wpListIn, if_neg (by simp [Region.wanted, hy, hw])]
  exact ⟨fun f _ => fof_fn _ f, this⟩
theorem JL_cases {b : Bool} (ht : b = true → JL X P ops Q rest st H R) (hf : b = false → JL X P ops Q rest st H R) : JL X P ops Q rest st H R := by
  cases b
  · exact hf rfl
  · exact ht rfl
end
end Go.Proofs.YthpkgabckklojaaGreat

/- Regions whose order is open: what only reads goes first, what makes or calls goes where nothing else can. Nothing is asked. -/
namespace Go.Proofs.YthpkgabckklojaaGreat
open Go.RowKit Go.Shelf

section
variable {F : Fence} {n : Nat} {P : Program} {ops : Array Oper} {Q : Exit → Act → World → Prop} {S : World → Prop}
/-- No select, no deferred call. -/
def plainOps (ops : Array Oper) : Bool := ops.all fun o => match o.op with | .select .. => false | .defer _ => false | _ => true
theorem plainOps_spec (h : plainOps ops = true) {j : Nat} {o : Oper} (ho : ops[j]? = some o) : (∀ cs b, o.op ≠ .select cs b) ∧ (∀ c, o.op ≠ .defer c) := by
  obtain ⟨hj, rfl⟩ := Array.getElem?_eq_some_iff.1 ho
  have := Array.all_eq_true.1 h j hj
  constructor
  · intro cs b e; simp [e] at this
  · intro c e; simp [e] at this
theorem semAt_any {ro : Option Nat} {ρ : Operand → Value} {o : Oper} (h : ∀ c, o.op ≠ .defer c) : Oper.semAt ro ρ o = execOp ρ o := by
  cases ro with
  | none => rfl
  | some l => exact Oper.semAt_some l ρ o h
theorem yieldsIf_wpOpIn {i : Nat} {o : Oper} {v : Value} {a : Act} (hF : ∀ f, F.fn f) (hnd : ∀ c, o.op ≠ .defer c) (hi : ops[i]? = some o) (hy : YieldsIf P ops S o v a)
    {K : Act → World → Prop} {w : World} (hS : S w) (h : K (a.put o.dst v) w) : wpOpIn F n P ops Q i K a w := by
  unfold Go.wpOpIn
  simp only [hi]
  rcases hy with ⟨hw, hv⟩ | ⟨hw, rfl⟩
  · simp only [hw, if_true, Oper.wpIn, semAt_any hnd, hv w hS, Oper.uponIn]; exact ⟨fun f _ => hF f, h⟩
  · simp only [hw, Bool.false_eq_true, if_false]; exact ⟨fun f _ => hF f, h⟩
theorem wpOpIn_putIf {j : Nat} {oi oj : Oper} {v : Value} (hF : ∀ f, F.fn f) (hj : ops[j]? = some oj) (hap : oi.apart ops oj = true)
    (hsi : ∀ cs b, oi.op ≠ .select cs b) (hsj : ∀ cs b, oj.op ≠ .select cs b) (hnd : ∀ c, oj.op ≠ .defer c)
    (hQ : ∀ c a w, Q (.panic c) (a.put oi.dst v) w → Q (.panic c) a w) {K : Act → World → Prop} {a : Act} {w : World}
    (hy : YieldsIf P ops S oi v a) (h : wpOpIn F n P ops Q j K (a.put oi.dst v) w) :
    wpOpIn F n P ops Q j (fun a' w' => YieldsIf P ops S oi v a' ∧ K (a'.put oi.dst v) w') a w := by
  obtain ⟨h1, h2, h3⟩ := Oper.apart_spec hap
  have keep : ∀ (a : Act), YieldsIf P ops S oi v a → ∀ u, YieldsIf P ops S oi v (a.put oj.dst u) := fun a hy u =>
    hy.of_same (execOp_put oi hsi a oj.dst u h3) (wanted_put oi a oj.dst u h3)
  unfold Go.wpOpIn at *
  simp only [hj] at *
  rw [wanted_put oj a oi.dst v h1] at h
  split
  · rename_i hw
    simp only [hw, if_true] at h
    unfold Oper.wpIn at *
    refine ⟨fun f _ => hF f, ?_⟩
    have h := h.2
    rw [semAt_any hnd, execOp_put oj hsj a oi.dst v h1] at h
    rw [semAt_any hnd]
    generalize (execOp a.eval oj).run P w = r at *
    cases r with
    | ok x w' =>
      cases x <;> simp only [Oper.uponIn] at h ⊢
      case value u => exact ⟨keep a hy u, by rw [← Act.put_comm a v u h2]; exact h⟩
      case skip => exact ⟨keep a hy _, by rw [← Act.put_comm a v undef h2]; exact h⟩
      case defer d =>
        refine ⟨keep { a with defers := d :: a.defers } (hy.of_same rfl rfl) _, ?_⟩
        rw [← Act.put_comm _ v undef h2, ← Act.put_defers]
        exact h
      case enter f args =>
        refine ⟨h.1, CallsIn.mono h.2 fun e w'' he => ?_⟩
        cases e with
        | returned u => exact ⟨keep a hy u, by rw [← Act.put_comm a v u h2]; exact he⟩
        | panicked c => exact hQ _ _ _ he
        | outgrown => exact he
      case row row args => exact ⟨h.1, RowsIn.mono h.2 fun u w'' he => ⟨keep a hy u, by rw [← Act.put_comm a v u h2]; exact he⟩⟩
      case round l f tmps assign body =>
        refine ⟨h.1, RoundIn.mono h.2 fun e w'' he => ?_⟩
        cases e with
        | returned u => exact ⟨keep a hy u, by rw [← Act.put_comm a v u h2]; exact he⟩
        | panicked c => exact hQ _ _ _ he
        | outgrown => exact he
    | halt x w' =>
      cases x <;> simp only [Oper.uponIn] at h ⊢
      case panic u => exact hQ _ _ _ h
  · rename_i hw
    simp only [hw] at h
    exact ⟨fun f _ => hF f, keep a hy _, by rw [← Act.put_comm a v undef h2]; exact h.2⟩

/-- Whatever order is picked, and S holds until one of the tail has come. -/
def upTo (tl : List Nat) (S : World → Prop) (listed : Array Bool) (w : World) : Prop := (∃ t ∈ tl, listed.getD t false = true) ∨ S w
def wpAnyHI (F : Fence) (n : Nat) (P : Program) (ops : Array Oper) (Q : Exit → Act → World → Prop) (S : World → Prop) (tl : List Nat) : Nat → Array Bool → Act → World → Prop
  | 0, listed, a, w => Region.ready .any ops listed = [] ∧ Q .normal a w
  | fuel + 1, listed, a, w =>
    (Region.ready .any ops listed = [] → Q .normal a w) ∧
    ∀ i ∈ Region.ready .any ops listed, wpOpIn F n P ops Q i (fun a' w' => upTo tl S (listed.setIfInBounds i true) w' ∧ wpAnyHI F n P ops Q S tl fuel (listed.setIfInBounds i true) a' w') a w
theorem wpAnyIn_of_HI {tl : List Nat} : ∀ (fuel : Nat) (listed : Array Bool) (a : Act) (w : World), wpAnyHI F n P ops Q S tl fuel listed a w → wpAnyIn F n P .any ops Q fuel listed a w
  | 0, _, _, _, h => h
  | fuel + 1, _, _, _, h => ⟨h.1, fun i hi => wpOpIn_mono (fun a' w' h' => wpAnyIn_of_HI fuel _ a' w' h'.2) (h.2 i hi)⟩
theorem upTo.set {tl : List Nat} {listed : Array Bool} {w : World} (h : upTo tl S listed w) (i : Nat) : upTo tl S (listed.setIfInBounds i true) w :=
  h.imp (fun ⟨t, h1, h2⟩ => ⟨t, h1, getD_set_true h2⟩) id
theorem upTo.unset {tl : List Nat} {listed : Array Bool} {w : World} {i : Nat} (hi : i ∉ tl) (h : upTo tl S (listed.setIfInBounds i true) w) : upTo tl S listed w :=
  h.imp (fun ⟨t, h1, h2⟩ => ⟨t, h1, by rwa [getD_set_ne false (by rintro rfl; exact hi h1)] at h2⟩) id
theorem wpAnyHI_first {i : Nat} {oi : Oper} {v : Value} {tl : List Nat} {S' : World → Prop} {G : Array Bool → Prop} (hF : ∀ f, F.fn f) (hi : ops[i]? = some oi) (hp : plainOps ops = true)
    (hQ : ∀ c a w, Q (.panic c) (a.put oi.dst v) w → Q (.panic c) a w) (hti : i ∉ tl)
    (hG : ∀ listed j oj, G listed → j ∈ Region.ready .any ops listed → ops[j]? = some oj → (∀ e ∈ oj.after, Region.binds .any e = true → e.on ≠ i) → G (listed.setIfInBounds j true))
    (hGS : ∀ listed w', G listed → upTo tl S listed w' → S' w') :
    ∀ (fuel : Nat) (listed : Array Bool) (a : Act) (w : World),
      (∀ j oj, ops[j]? = some oj → j ≠ i → listed.getD j true = false → (∀ e ∈ oj.after, Region.binds .any e = true → e.on ≠ i) → oi.apart ops oj = true) →
      i ∈ Region.ready .any ops listed → YieldsIf P ops S' oi v a → G listed → upTo tl S listed w →
      wpAnyHI F n P ops Q S tl fuel (listed.setIfInBounds i true) (a.put oi.dst v) w → wpAnyHI F n P ops Q S tl (fuel + 1) listed a w := by
  intro fuel
  induction fuel with
  | zero =>
    intro listed a w _ hr hy hg hu H
    refine ⟨fun h => (by rw [h] at hr; cases hr), fun j hj => ?_⟩
    by_cases hji : j = i
    · subst hji; exact yieldsIf_wpOpIn hF (plainOps_spec hp hi).2 hi hy (hGS _ w hg hu) ⟨hu.set _, H⟩
    · have := ready_mono hj hji
      rw [H.1] at this
      cases this
  | succ fuel ih =>
    intro listed a w hfree hr hy hg hu H
    refine ⟨fun h => (by rw [h] at hr; cases hr), fun j hj => ?_⟩
    by_cases hji : j = i
    · subst hji; exact yieldsIf_wpOpIn hF (plainOps_spec hp hi).2 hi hy (hGS _ w hg hu) ⟨hu.set _, H⟩
    · have h1 := H.2 j (ready_mono hj hji)
      obtain ⟨hjun, oj, hoj, hall⟩ := mem_ready.1 hj
      have hnot : ∀ e ∈ oj.after, Region.binds .any e = true → e.on ≠ i := fun e he hb heq => by
        have h1 := hall e he hb
        have h0 := (mem_ready.1 hr).1
        rw [heq] at h1
        rcases Nat.lt_or_ge i listed.size with h' | h'
        · simp [h'] at h0 h1; rw [h0] at h1; cases h1
        · simp [Array.getElem?_eq_none h'] at h1
      have h2 := wpOpIn_putIf hF hoj (hfree j oj hoj hji hjun hnot) (plainOps_spec hp hi).1 (plainOps_spec hp hoj).1 (plainOps_spec hp hoj).2 hQ hy h1
      have hfree' : ∀ k ok, ops[k]? = some ok → k ≠ i → (listed.setIfInBounds j true).getD k true = false →
          (∀ e ∈ ok.after, Region.binds .any e = true → e.on ≠ i) → oi.apart ops ok = true := fun k ok hk hki hun hno => by
        refine hfree k ok hk hki ?_ hno
        by_cases hjk : j = k
        · subst hjk; exact hjun
        · rw [getD_set_ne true hjk] at hun; exact hun
      refine wpOpIn_mono (fun a' w' h3 => ?_) h2
      have h4 := h3.2.1
      rw [Array.setIfInBounds_comm _ _ (Ne.symm hji)] at h4
      have h5 := h4.unset hti
      refine ⟨h5, ih (listed.setIfInBounds j true) a' w' hfree' (ready_mono hr (Ne.symm hji)) h3.1 (hG _ _ _ hg hj hoj hnot) h5 ?_⟩
      rw [Array.setIfInBounds_comm _ _ hji]
      exact h3.2.2
end

/-- A way out that is no panic. -/
def NoPan (Q : Exit → Act → World → Prop) : Exit → Act → World → Prop
  | .panic _, _, _ => False
  | e, a, w => Q e a w
section
variable {X : Ctx} {P : Program} {st : Sto} {H H0 : List Chunk} {R R0 : World → Prop} {k : Kont} {ops : Array Oper} {fuel : Nat} {listed : Array Bool} {tl : List Nat}
/-- What stays so throughout the region. -/
def Stays (X : Ctx) (H0 : List Chunk) (R0 : World → Prop) (w : World) : Prop := ∃ M Ds, Mem X M Ds H0 R0 w
/-- The operations that are not listed yet, in whatever order, ahead of the tail; and behind it. -/
def JA (X : Ctx) (P : Program) (ops : Array Oper) (k : Kont) (tl : List Nat) (H0 : List Chunk) (R0 : World → Prop) (fuel : Nat) (listed : Array Bool) (st : Sto) (H : List Chunk) (R : World → Prop) : Prop :=
  (HSub H H0 ∧ ∀ w, R w → R0 w) → ∀ a w, Ok X st H R a w → wpAnyHI (Fof X.ro) X.n P ops (NoPan (kden X P k)) (Stays X H0 R0) tl fuel listed a w
def JT (X : Ctx) (P : Program) (ops : Array Oper) (k : Kont) (tl : List Nat) (H0 : List Chunk) (R0 : World → Prop) (fuel : Nat) (listed : Array Bool) (st : Sto) (H : List Chunk) (R : World → Prop) : Prop :=
  (∃ t ∈ tl, listed.getD t false = true) → ∀ a w, Ok X st H R a w → wpAnyHI (Fof X.ro) X.n P ops (NoPan (kden X P k)) (Stays X H0 R0) tl fuel listed a w
theorem Ok.stays {a : Act} {w : World} (h : Ok X st H R a w) (hs : HSub H H0 ∧ ∀ w, R w → R0 w) : Stays X H0 R0 w := by
  obtain ⟨_, M, Ds, _, hm⟩ := h.weak (st2 := st) stsub_refl hs.1 hs.2
  exact ⟨M, Ds, hm⟩
theorem Ok.drawn {a : Act} {w : World} (h : Ok X st H R a w) : Ok X st H R a { w with drawn := w.drawn + 1 } := by
  obtain ⟨h1, M, Ds, h2, h3⟩ := h
  have hmv : Moves (fun _ => False) w { w with drawn := w.drawn + 1 } := (Moves.refl w).drew
  have := h3.swap (C := []) (D := H) (C' := []) (R' := fun _ => True) (w' := { w with drawn := w.drawn + 1 }) M (hmv.weaken fun _ _ h => h.elim) (fun _ h => h) (fun _ h => .inl h) (fun b hb => h3.bd b hb) (by simp) (by simp) (by simp) (fun _ _ => trivial)
  exact ⟨h1, M, Ds, h2, this.know fun _ h => h.2⟩
theorem JC_draw (tl : List Nat) {id : Nat} {l : List Oper} (hm : P.follows .mixedOrders = true) (h : JA X P l.toArray k tl H R l.length (Array.replicate l.length false) st H R) : JC X P (.region id l.toArray true) k st H R := by
  intro a w ho
  refine wpIn_mono (Q' := kden X P k) (wpIn_region_any (Q := NoPan (kden X P k)) hm ?_) (fun e a w hq => by cases e <;> first | exact hq | exact hq.elim)
  have := wpAnyIn_of_HI _ _ _ _ (h ⟨hsub_refl, fun _ h => h⟩ a _ ho.drawn)
  simpa using this
theorem JA_done (hr : Region.ready .any ops listed = []) (h : JE X P .normal k st H R) : JA X P ops k tl H0 R0 fuel listed st H R := by
  intro _ a w ho
  cases fuel with
  | zero => exact ⟨hr, h a w ho⟩
  | succ f => exact ⟨fun _ => h a w ho, by rw [hr]; simp⟩
theorem JT_done (hr : Region.ready .any ops listed = []) (h : JE X P .normal k st H R) : JT X P ops k tl H0 R0 fuel listed st H R := by
  intro _ a w ho
  cases fuel with
  | zero => exact ⟨hr, h a w ho⟩
  | succ f => exact ⟨fun _ => h a w ho, by rw [hr]; simp⟩
/-- Who waits for i, straight or by others. -/
def waiters (ops : Array Oper) (i : Nat) : List Bool :=
  ops.toList.foldl (fun W o => W ++ [o.after.any fun e => Region.binds .any e && (Nat.beq e.on i || W.getD e.on false)]) []
/-- Nobody of the tail has come, and all of it waits for i. -/
def tailWaits (ops : Array Oper) (tl : List Nat) (listed : Array Bool) (i : Nat) : Bool :=
  let W := waiters ops i
  tl.all (fun t => W.getD t false) && (List.range ops.size).all (fun j => !W.getD j false || (!listed.getD j false && match ops[j]? with | some o => o.after.any (fun e => Region.binds .any e && (Nat.beq e.on i || W.getD e.on false)) | none => false)) && Nat.beq W.length ops.size
theorem tailWaits_spec {ops : Array Oper} {tl : List Nat} {listed : Array Bool} {i : Nat} (h : tailWaits ops tl listed i = true) : ∃ W : Nat → Bool, (∀ t ∈ tl, W t = true) ∧ ∀ j, W j = true → listed.getD j false = false ∧ ∃ o, ops[j]? = some o ∧ ∃ e ∈ o.after, Region.binds .any e = true ∧ (e.on = i ∨ W e.on = true) := by
  simp only [tailWaits, Bool.and_eq_true] at h
  refine ⟨fun j => (waiters ops i).getD j false, fun t ht => List.all_eq_true.1 h.1.1 t ht, fun j hj => ?_⟩
  have hj : (waiters ops i).getD j false = true := hj
  have hlt : j < ops.size := by
    rw [← Nat.eq_of_beq_eq_true h.2]
    rcases Nat.lt_or_ge j (waiters ops i).length with h' | h'
    · exact h'
    · rw [List.getD_eq_getElem?_getD, List.getElem?_eq_none h'] at hj; cases hj
  have := List.all_eq_true.1 h.1.2 j (List.mem_range.2 hlt)
  rw [hj] at this
  simp only [Bool.not_true, Bool.false_or, Bool.and_eq_true, Bool.not_eq_true'] at this
  refine ⟨this.1, ?_⟩
  cases ho : ops[j]? with
  | none => rw [ho] at this; cases this.2
  | some o =>
    rw [ho] at this
    obtain ⟨e, he, hb⟩ := Array.any_eq_true'.1 this.2
    simp only [Bool.and_eq_true, Bool.or_eq_true] at hb
    exact ⟨o, rfl, e, he, hb.1, hb.2.imp Nat.eq_of_beq_eq_true id⟩
/-- The checks that let an operation go first. -/
def mayGo (ops : Array Oper) (listed : Array Bool) (i : Nat) : Bool := plainOps ops && Region.free .any ops listed i && (Region.ready .any ops listed).contains i
theorem ja_first {i d : Nat} {o : Oper} {v : Value} (hi : ops[i]? = some o) (hd : o.dst = some d) (hgo : mayGo ops listed i = true) (ht : tailWaits ops tl listed i = true) (hit : i ∉ tl) (hN : Nat.blt d X.N = true)
    (h : ∀ a, StOk X.N st a → YieldsIf P ops (Stays X H0 R0) o v a) (hn : JA X P ops k tl H0 R0 fuel (listed.setIfInBounds i true) ((d, v) :: st) H R) : JA X P ops k tl H0 R0 (fuel + 1) listed st H R := by
  intro hs a w ho
  simp only [mayGo, Bool.and_eq_true] at hgo
  obtain ⟨W, hW1, hW2⟩ := tailWaits_spec ht
  refine wpAnyHI_first (v := v) (S' := Stays X H0 R0) (G := fun l => ∀ j, W j = true → l.getD j false = false) (fof_fn _) hi hgo.1.1 (fun _ _ _ h => h) hit ?_ ?_ fuel listed a w (Region.free_spec hi hgo.1.2) (by simpa using hgo.2) (h a ho.st) ?_ (.inr (ho.stays hs)) ?_
  · intro l j oj hg hrd hj hno t htt
    by_cases e : j = t
    · subst e
      obtain ⟨_, o, ho2, e, he, hb, hc⟩ := hW2 j htt
      rw [hj] at ho2
      cases ho2
      rcases hc with hc | hc
      · exact absurd hc (hno e he hb)
      · have h1 := hg _ hc
        obtain ⟨_, oj', hoj', hall⟩ := mem_ready.1 hrd
        rw [hj] at hoj'; cases hoj'
        have h2 := hall e he hb
        rw [h1] at h2; cases h2
    · rw [getD_set_ne false e]; exact hg t htt
  · rintro l w' hg (⟨t, h1, h2⟩ | h2)
    · rw [hg t (hW1 t h1)] at h2; cases h2
    · exact h2
  · intro j hj; exact (hW2 j hj).1
  · obtain ⟨h1, M, Ds, h2, h3⟩ := ho
    exact hn hs _ w ⟨by rw [hd]; exact h1.put (blt_lt hN) v, M, Ds, by rw [hd]; exact h2, h3⟩
theorem ja_firstP {i d : Nat} {o : Oper} {v : Value} (hi : ops[i]? = some o) (hd : o.dst = some d) (hgo : mayGo ops listed i = true) (hit : i ∉ tl) (hN : Nat.blt d X.N = true)
    (h : ∀ a, StOk X.N st a → YieldsIf P ops (fun _ => True) o v a) (hn : JA X P ops k tl H0 R0 fuel (listed.setIfInBounds i true) ((d, v) :: st) H R) : JA X P ops k tl H0 R0 (fuel + 1) listed st H R := by
  intro hs a w ho
  simp only [mayGo, Bool.and_eq_true] at hgo
  refine wpAnyHI_first (v := v) (S' := fun _ => True) (G := fun _ => True) (fof_fn _) hi hgo.1.1 (fun _ _ _ h => h) hit (fun _ _ _ _ _ _ _ => trivial) (fun _ _ _ _ => trivial) fuel listed a w (Region.free_spec hi hgo.1.2) (by simpa using hgo.2) (h a ho.st) trivial (.inr (ho.stays hs)) ?_
  obtain ⟨h1, M, Ds, h2, h3⟩ := ho
  exact hn hs _ w ⟨by rw [hd]; exact h1.put (blt_lt hN) v, M, Ds, by rw [hd]; exact h2, h3⟩
theorem jt_firstP {i d : Nat} {o : Oper} {v : Value} (hi : ops[i]? = some o) (hd : o.dst = some d) (hgo : mayGo ops listed i = true) (hit : i ∉ tl) (hN : Nat.blt d X.N = true)
    (h : ∀ a, StOk X.N st a → YieldsIf P ops (fun _ => True) o v a) (hn : JT X P ops k tl H0 R0 fuel (listed.setIfInBounds i true) ((d, v) :: st) H R) : JT X P ops k tl H0 R0 (fuel + 1) listed st H R := by
  intro hs a w ho
  simp only [mayGo, Bool.and_eq_true] at hgo
  refine wpAnyHI_first (v := v) (S' := fun _ => True) (G := fun _ => True) (fof_fn _) hi hgo.1.1 (fun _ _ _ h => h) hit (fun _ _ _ _ _ _ _ => trivial) (fun _ _ _ _ => trivial) fuel listed a w (Region.free_spec hi hgo.1.2) (by simpa using hgo.2) (h a ho.st) trivial (.inl hs) ?_
  obtain ⟨h1, M, Ds, h2, h3⟩ := ho
  exact hn (hs.elim fun t ht => ⟨t, ht.1, getD_set_true ht.2⟩) _ w ⟨by rw [hd]; exact h1.put (blt_lt hN) v, M, Ds, by rw [hd]; exact h2, h3⟩

section
variable {i d : Nat} {op : Op} {ty : TypeId} {pos : String} {af : Array Edge} {v : Value} {j d0 : Nat} {want b : Bool}
theorem JA_dt (hi : ops[i]? = some ⟨some d, op, ty, pos, af, none⟩) (hgo : mayGo ops listed i = true) (ht : tailWaits ops tl listed i = true) (hit : tl.contains i = false) (hN : Nat.blt d X.N = true)
    (h : Det X P ⟨some d, op, ty, pos, af, none⟩ st H0 R0 v) (hn : JA X P ops k tl H0 R0 fuel (listed.setIfInBounds i true) ((d, v) :: st) H R) : JA X P ops k tl H0 R0 (fuel + 1) listed st H R :=
  ja_first hi rfl hgo ht (by simpa using hit) hN (fun a hs => .inl ⟨by simp [Region.wanted], fun w' ⟨M, Ds, hm⟩ => h a w' M Ds hs hm⟩) hn
theorem JA_pd (hi : ops[i]? = some ⟨some d, op, ty, pos, af, none⟩) (hgo : mayGo ops listed i = true) (hit : tl.contains i = false) (hN : Nat.blt d X.N = true)
    (h : PDet P ⟨some d, op, ty, pos, af, none⟩ st v) (hn : JA X P ops k tl H0 R0 fuel (listed.setIfInBounds i true) ((d, v) :: st) H R) : JA X P ops k tl H0 R0 (fuel + 1) listed st H R :=
  ja_firstP hi rfl hgo (by simpa using hit) hN (fun a hs => .inl ⟨by simp [Region.wanted], fun w' _ => h _ a w' hs⟩) hn
theorem JT_pd (hi : ops[i]? = some ⟨some d, op, ty, pos, af, none⟩) (hgo : mayGo ops listed i = true) (hit : tl.contains i = false) (hN : Nat.blt d X.N = true)
    (h : PDet P ⟨some d, op, ty, pos, af, none⟩ st v) (hn : JT X P ops k tl H0 R0 fuel (listed.setIfInBounds i true) ((d, v) :: st) H R) : JT X P ops k tl H0 R0 (fuel + 1) listed st H R :=
  jt_firstP hi rfl hgo (by simpa using hit) hN (fun a hs => .inl ⟨by simp [Region.wanted], fun w' _ => h _ a w' hs⟩) hn
theorem JA_gdt (hi : ops[i]? = some ⟨some d, op, ty, pos, af, some (j, want)⟩) (hgo : mayGo ops listed i = true) (ht : tailWaits ops tl listed i = true) (hit : tl.contains i = false) (hN : Nat.blt d X.N = true)
    (hj : dstOf ops j = some d0) (hb : look st d0 = some (.bool b)) (hw : b = want)
    (h : Det X P ⟨some d, op, ty, pos, af, some (j, want)⟩ st H0 R0 v) (hn : JA X P ops k tl H0 R0 fuel (listed.setIfInBounds i true) ((d, v) :: st) H R) : JA X P ops k tl H0 R0 (fuel + 1) listed st H R :=
  ja_first hi rfl hgo ht (by simpa using hit) hN (fun a hs => .inl ⟨by simp [Region.wanted, yielded_of hs hj hb, hw], fun w' ⟨M, Ds, hm⟩ => h a w' M Ds hs hm⟩) hn
theorem JA_gpd (hi : ops[i]? = some ⟨some d, op, ty, pos, af, some (j, want)⟩) (hgo : mayGo ops listed i = true) (hit : tl.contains i = false) (hN : Nat.blt d X.N = true)
    (hj : dstOf ops j = some d0) (hb : look st d0 = some (.bool b)) (hw : b = want)
    (h : PDet P ⟨some d, op, ty, pos, af, some (j, want)⟩ st v) (hn : JA X P ops k tl H0 R0 fuel (listed.setIfInBounds i true) ((d, v) :: st) H R) : JA X P ops k tl H0 R0 (fuel + 1) listed st H R :=
  ja_firstP hi rfl hgo (by simpa using hit) hN (fun a hs => .inl ⟨by simp [Region.wanted, yielded_of hs hj hb, hw], fun w' _ => h _ a w' hs⟩) hn
theorem JA_skip (hi : ops[i]? = some ⟨some d, op, ty, pos, af, some (j, want)⟩) (hgo : mayGo ops listed i = true) (hit : tl.contains i = false) (hN : Nat.blt d X.N = true)
    (hj : dstOf ops j = some d0) (hb : look st d0 = some (.bool b)) (hw : b = !want)
    (hn : JA X P ops k tl H0 R0 fuel (listed.setIfInBounds i true) ((d, undef) :: st) H R) : JA X P ops k tl H0 R0 (fuel + 1) listed st H R :=
  ja_firstP (v := undef) hi rfl hgo (by simpa using hit) hN (fun a hs => .inr ⟨by simp [Region.wanted, yielded_of hs hj hb, hw], rfl⟩) hn
end
/-- Two ways, by a guard. -/
theorem JA_split {d0 : Nat} {b : Bool} (hb : look st d0 = some (.bool b)) (ht : b = true → JA X P ops k tl H0 R0 fuel listed st H R) (hf : b = false → JA X P ops k tl H0 R0 fuel listed st H R) : JA X P ops k tl H0 R0 fuel listed st H R := by
  cases b
  · exact hf rfl
  · exact ht rfl
theorem JL_split {Q : Exit → Act → World → Prop} {rest : List Oper} {d0 : Nat} {b : Bool} (hb : look st d0 = some (.bool b)) (ht : b = true → JL X P ops Q rest st H R) (hf : b = false → JL X P ops Q rest st H R) : JL X P ops Q rest st H R := by
  cases b
  · exact hf rfl
  · exact ht rfl
theorem HSub.trans {A B C : List Chunk} (h1 : HSub A B) (h2 : HSub B C) : HSub A C := by
  obtain ⟨D1, e1⟩ := h1
  obtain ⟨D2, e2⟩ := h2
  exact ⟨D2 ++ D1, e1.trans (by rw [← List.append_assoc]; exact e2.append_right D1)⟩
/-- What a slot's writing leaves of the state. -/
def putSt (dst : Option Nat) (v : Value) (st : Sto) : Sto := match dst with | some d => (d, v) :: st | none => st
def dstOk (dst : Option Nat) (N : Nat) : Bool := match dst with | some d => Nat.blt d N | none => true
theorem Ok.putSt {dst : Option Nat} {a : Act} {w' : World} {M : Nat → Prop} {Ds : List Nat} {H' : List Chunk} {R' : World → Prop} (h1 : StOk X.N st a) (h2 : a.defers = Ds.map Mark) (hd : dstOk dst X.N = true) (v : Value) (hm : Mem X M Ds H' R' w') :
    Ok X (Go.Proofs.YthpkgabckklojaaGreat.putSt dst v st) H' R' (a.put dst v) w' := by
  cases dst with
  | none => exact ⟨h1, M, Ds, h2, hm⟩
  | some d => exact ⟨h1.put (blt_lt hd) v, M, Ds, h2, hm⟩
/-- The one that can be next. -/
theorem JA_one {i : Nat} {dst : Option Nat} {op : Op} {ty : TypeId} {pos : String} {af : Array Edge} {α : Type} {v : α → Value} {Hx : α → List Chunk} {Rx : α → World → Prop} (hr : Region.ready .any ops listed = [i]) (hi : ops[i]? = some ⟨dst, op, ty, pos, af, none⟩) (hN : dstOk dst X.N = true)
    (h : JO X P ⟨dst, op, ty, pos, af, none⟩ st H R v Hx Rx) (hsub : ∀ x, HSub (Hx x) H ∧ ∀ w, Rx x w → R w) (hn : ∀ x, JA X P ops k tl H0 R0 fuel (listed.setIfInBounds i true) (putSt dst (v x) st) (Hx x) (Rx x)) : JA X P ops k tl H0 R0 (fuel + 1) listed st H R := by
  intro hs a w ho
  refine ⟨fun h0 => (by rw [hr] at h0; cases h0), fun j hj => ?_⟩
  rw [hr] at hj
  obtain rfl := List.mem_singleton.1 hj
  unfold wpOpIn
  simp only [hi, Region.wanted, if_true]
  obtain ⟨h1, M, Ds, h2, h3⟩ := ho
  refine h a w M Ds _ _ h1 h3 fun x w' M' hm' => ?_
  have hs' : HSub (Hx x) H0 ∧ ∀ w, Rx x w → R0 w := ⟨(hsub x).1.trans hs.1, fun w hw => hs.2 w ((hsub x).2 w hw)⟩
  have ho' := Ok.putSt h1 h2 hN (v x) hm'
  exact ⟨.inr (ho'.stays hs'), hn x hs' _ _ ho'⟩
theorem JA_gone {i : Nat} {dst : Option Nat} {op : Op} {ty : TypeId} {pos : String} {af : Array Edge} {α : Type} {v : α → Value} {Hx : α → List Chunk} {Rx : α → World → Prop} (hr : Region.ready .any ops listed = [i]) {j0 d0 : Nat} {want b : Bool} (hi : ops[i]? = some ⟨dst, op, ty, pos, af, some (j0, want)⟩) (hj0 : dstOf ops j0 = some d0) (hb0 : look st d0 = some (.bool b)) (hw : b = want) (hN : dstOk dst X.N = true)
    (h : JO X P ⟨dst, op, ty, pos, af, some (j0, want)⟩ st H R v Hx Rx) (hsub : ∀ x, HSub (Hx x) H ∧ ∀ w, Rx x w → R w) (hn : ∀ x, JA X P ops k tl H0 R0 fuel (listed.setIfInBounds i true) (putSt dst (v x) st) (Hx x) (Rx x)) : JA X P ops k tl H0 R0 (fuel + 1) listed st H R := by
  intro hs a w ho
  refine ⟨fun h0 => (by rw [hr] at h0; cases h0), fun j hj => ?_⟩
  rw [hr] at hj
  obtain rfl := List.mem_singleton.1 hj
  unfold wpOpIn
  have hwt := yielded_of ho.st hj0 hb0
  subst hw
  simp only [hi, Region.wanted, hwt, beq_self_eq_true, if_true]
  obtain ⟨h1, M, Ds, h2, h3⟩ := ho
  refine h a w M Ds _ _ h1 h3 fun x w' M' hm' => ?_
  have hs' : HSub (Hx x) H0 ∧ ∀ w, Rx x w → R0 w := ⟨(hsub x).1.trans hs.1, fun w hw => hs.2 w ((hsub x).2 w hw)⟩
  have ho' := Ok.putSt h1 h2 hN (v x) hm'
  exact ⟨.inr (ho'.stays hs'), hn x hs' _ _ ho'⟩
/-- Each of those that can be next. -/
def JAl (X : Ctx) (P : Program) (ops : Array Oper) (k : Kont) (tl : List Nat) (H0 : List Chunk) (R0 : World → Prop) (fuel : Nat) (listed : Array Bool) (st : Sto) (H : List Chunk) (R : World → Prop) (rs : List Nat) : Prop :=
  (HSub H H0 ∧ ∀ w, R w → R0 w) → ∀ a w, Ok X st H R a w → ∀ i ∈ rs, wpOpIn (Fof X.ro) X.n P ops (NoPan (kden X P k)) i (fun a' w' => upTo tl (Stays X H0 R0) (listed.setIfInBounds i true) w' ∧ wpAnyHI (Fof X.ro) X.n P ops (NoPan (kden X P k)) (Stays X H0 R0) tl fuel (listed.setIfInBounds i true) a' w') a w
theorem JA_ready {rs : List Nat} (hr : Region.ready .any ops listed = rs) (hne : rs.isEmpty = false) (h : JAl X P ops k tl H0 R0 fuel listed st H R rs) : JA X P ops k tl H0 R0 (fuel + 1) listed st H R := by
  intro hs a w ho
  refine ⟨fun h0 => ?_, fun i hi => h hs a w ho i (hr ▸ hi)⟩
  rw [hr] at h0; rw [h0] at hne; cases hne
theorem JAl_nil : JAl X P ops k tl H0 R0 fuel listed st H R [] := fun _ _ _ _ i hi => by cases hi
theorem JAl_cons {i : Nat} {rs : List Nat} {dst : Option Nat} {op : Op} {ty : TypeId} {pos : String} {af : Array Edge} {α : Type} {v : α → Value} {Hx : α → List Chunk} {Rx : α → World → Prop} (hi : ops[i]? = some ⟨dst, op, ty, pos, af, none⟩) (hN : dstOk dst X.N = true)
    (h : JO X P ⟨dst, op, ty, pos, af, none⟩ st H R v Hx Rx) (hsub : ∀ x, HSub (Hx x) H ∧ ∀ w, Rx x w → R w) (hn : ∀ x, JA X P ops k tl H0 R0 fuel (listed.setIfInBounds i true) (putSt dst (v x) st) (Hx x) (Rx x))
    (hrest : JAl X P ops k tl H0 R0 fuel listed st H R rs) : JAl X P ops k tl H0 R0 fuel listed st H R (i :: rs) := by
  intro hs a w ho j hj
  rcases List.mem_cons.1 hj with rfl | hj
  · unfold wpOpIn
    simp only [hi, Region.wanted, if_true]
    obtain ⟨h1, M, Ds, h2, h3⟩ := ho
    refine h a w M Ds _ _ h1 h3 fun x w' M' hm' => ?_
    have hs' : HSub (Hx x) H0 ∧ ∀ w, Rx x w → R0 w := ⟨(hsub x).1.trans hs.1, fun w hw => hs.2 w ((hsub x).2 w hw)⟩
    have ho' := Ok.putSt h1 h2 hN (v x) hm'
    exact ⟨.inr (ho'.stays hs'), hn x hs' _ _ ho'⟩
  · exact hrest hs a w ho j hj
/-- One of the tail: it may turn whatever it likes. -/
theorem JA_tail {i : Nat} {dst : Option Nat} {op : Op} {ty : TypeId} {pos : String} {af : Array Edge} {α : Type} {v : α → Value} {Hx : α → List Chunk} {Rx : α → World → Prop} (hr : Region.ready .any ops listed = [i]) (hi : ops[i]? = some ⟨dst, op, ty, pos, af, none⟩) (hit : tl.contains i = true) (hsz : Nat.blt i listed.size = true) (hN : dstOk dst X.N = true)
    (h : JO X P ⟨dst, op, ty, pos, af, none⟩ st H R v Hx Rx) (hn : ∀ x, JT X P ops k tl H0 R0 fuel (listed.setIfInBounds i true) (putSt dst (v x) st) (Hx x) (Rx x)) : JA X P ops k tl H0 R0 (fuel + 1) listed st H R := by
  intro hs a w ho
  refine ⟨fun h0 => (by rw [hr] at h0; cases h0), fun j hj => ?_⟩
  rw [hr] at hj
  obtain rfl := List.mem_singleton.1 hj
  unfold wpOpIn
  simp only [hi, Region.wanted, if_true]
  obtain ⟨h1, M, Ds, h2, h3⟩ := ho
  refine h a w M Ds _ _ h1 h3 fun x w' M' hm' => ?_
  have hl : ∃ t ∈ tl, (listed.setIfInBounds j true).getD t false = true := ⟨j, by simpa using hit, by simp [blt_lt hsz]⟩
  exact ⟨.inl hl, hn x hl _ _ (Ok.putSt h1 h2 hN (v x) hm')⟩
theorem JT_one {i : Nat} {dst : Option Nat} {op : Op} {ty : TypeId} {pos : String} {af : Array Edge} {α : Type} {v : α → Value} {Hx : α → List Chunk} {Rx : α → World → Prop} (hr : Region.ready .any ops listed = [i]) (hi : ops[i]? = some ⟨dst, op, ty, pos, af, none⟩) (hN : dstOk dst X.N = true)
    (h : JO X P ⟨dst, op, ty, pos, af, none⟩ st H R v Hx Rx) (hn : ∀ x, JT X P ops k tl H0 R0 fuel (listed.setIfInBounds i true) (putSt dst (v x) st) (Hx x) (Rx x)) : JT X P ops k tl H0 R0 (fuel + 1) listed st H R := by
  intro hs a w ho
  refine ⟨fun h0 => (by rw [hr] at h0; cases h0), fun j hj => ?_⟩
  rw [hr] at hj
  obtain rfl := List.mem_singleton.1 hj
  unfold wpOpIn
  simp only [hi, Region.wanted, if_true]
  obtain ⟨h1, M, Ds, h2, h3⟩ := ho
  refine h a w M Ds _ _ h1 h3 fun x w' M' hm' => ?_
  have hl : ∃ t ∈ tl, (listed.setIfInBounds j true).getD t false = true := hs.elim fun t ht => ⟨t, ht.1, getD_set_true ht.2⟩
  exact ⟨.inl hl, hn x hl _ _ (Ok.putSt h1 h2 hN (v x) hm')⟩
end
end Go.Proofs.YthpkgabckklojaaGreat

/- Structs built and taken apart, slices that are read, facts that are known. Nothing is asked. -/
namespace Go.Proofs.YthpkgabckklojaaGreat
open Go.RowKit Go.Shelf

/-- A slice of records that is read: its parts and its records. -/
def KSl {α : Type} (a : Option Addr) (n cap : Nat) (enc : α → List Value) (xs : List α) : World → Prop := fun w => SlAt w a n cap (xs.flatMap enc) ∧ n = xs.length
class Sees (R : World → Prop) (a : Option Addr) (n cap : outParam Nat) (α : outParam Type) (enc : outParam (α → List Value)) (xs : outParam (List α)) : Prop where
  see : ∀ w, R w → KSl a n cap enc xs w
instance {α : Type} (a : Option Addr) (n cap : Nat) (enc : α → List Value) (xs : List α) : Sees (KSl a n cap enc xs) a n cap α enc xs := ⟨fun _ h => h⟩
instance {α : Type} (A B : World → Prop) (a : Option Addr) (n cap : Nat) (enc : α → List Value) (xs : List α) [h : Sees B a n cap α enc xs] : Sees (KAnd A B) a n cap α enc xs := ⟨fun w hw => h.see w hw.2⟩
instance {α : Type} (A B : World → Prop) (a : Option Addr) (n cap : Nat) (enc : α → List Value) (xs : List α) [h : Sees A a n cap α enc xs] : Sees (KAnd A B) a n cap α enc xs := ⟨fun w hw => h.see w hw.1⟩

/-- The address of a cell of a slice. -/
def eptr (a : Option Addr) (off : Nat) : Value := .pointer (a.map fun p => ⟨p.block, p.off + off, p.spot⟩)

def evP (st : Sto) : List (Nat × Operand) → Option (List (Nat × Value))
  | [] => some []
  | (i, x) :: l => match opnd st x with
    | none => none
    | some v => match evP st l with
      | none => none
      | some r => some ((i, v) :: r)
theorem StOk.evP {N : Nat} {a : Act} {st : Sto} (hs : StOk N st a) : ∀ {l : List (Nat × Operand)} {vs : List (Nat × Value)}, Go.Proofs.YthpkgabckklojaaGreat.evP st l = some vs → l.map (fun (i, x) => (i, a.eval x)) = vs
  | [], vs, h => by cases h; rfl
  | (i, x) :: l, vs, h => by
    simp only [Go.Proofs.YthpkgabckklojaaGreat.evP] at h
    cases hx : opnd st x with
    | none => simp [hx] at h
    | some v =>
      cases hl : Go.Proofs.YthpkgabckklojaaGreat.evP st l with
      | none => simp [hx, hl] at h
      | some r => simp [hx, hl] at h; rw [List.map_cons, StOk.evP hs hl, ← h, ← hs.eval hx]

section
variable {X : Ctx} {P : Program} {st : Sto} {H H' : List Chunk} {R R' : World → Prop} {k : Kont} {ops : Array Oper} {rest : List Oper} {Q : Exit → Act → World → Prop}
variable {d : Option Nat} {ty : TypeId} {pos : String} {af : Array Edge} {g : Option (Nat × Bool)}

theorem det_build {t : TypeId} {l : List (Nat × Operand)} {vs : List (Nat × Value)} {v : Value} (hl : evP st l = some vs) (hr : ∀ w, (Instr.build t vs.toArray).run P w = .ok v w) : PDet P ⟨d, .build t l.toArray, ty, pos, af, g⟩ st v := fun N a w hs => by
  have : (l.toArray.map fun (i, x) => (i, a.eval x)) = vs.toArray := by rw [List.map_toArray, hs.evP hl]
  simp only [execOp, this, Sem.run_bind, hr, Result.andThen_ok, Sem.run_pure]
theorem jo_buildSlice {t T : TypeId} {n : Nat} {l : List (Nat × Operand)} {vs : List (Nat × Value)} {cs : List Value} (hl : evP st l = some vs)
    (hr : ∀ w, (Instr.buildSlice t n vs.toArray).run P w = .ok (.slice (some ⟨w.heap.size, 0, none⟩) n n) (w.alloc (.cells cs.toArray T))) :
    JO X P ⟨d, .buildSlice t n l.toArray, ty, pos, af, g⟩ st H R (fun b : Nat => .slice (some ⟨b, 0, none⟩) n n) (fun b => bx b cs :: H) (fun _ => R) :=
  jo_alloc T (fun a w hs => by
    have : (l.toArray.map fun (i, x) => (i, a.eval x)) = vs.toArray := by rw [List.map_toArray, hs.evP hl]
    simp only [execOp, this, Sem.run_bind, hr, Result.andThen_ok, Sem.run_pure]) (by intro c h; cases h)
theorem det_field {x : Operand} {t f : Nat} {v u : Value} (hx : opnd st x = some v) (hr : ∀ w, (Instr.field t v f).run P w = .ok u w) : PDet P ⟨d, .field t x f, ty, pos, af, g⟩ st u := fun N a w hs => by
  simp only [execOp, hs.eval hx, Sem.run_bind, hr, Result.andThen_ok, Sem.run_pure]
end
end Go.Proofs.YthpkgabckklojaaGreat

/- Slices read and appended to, maps, what is frozen. Nothing is asked. -/
namespace Go.Proofs.YthpkgabckklojaaGreat
open Go.RowKit Go.Shelf

/-- Records of one size. -/
class Rec {α : Type} (enc : α → List Value) (z : outParam Nat) : Prop where
  len : ∀ x, (enc x).length = z
  pos : 0 < z
def ab (a : Option Addr) : Nat := (a.map (·.block)).getD 0
def ao (a : Option Addr) : Nat := (a.map (·.off)).getD 0

section
variable {X : Ctx} {P : Program} {st : Sto} {H H' : List Chunk} {R R' : World → Prop} {k : Kont} {ops : Array Oper} {rest : List Oper} {Q : Exit → Act → World → Prop}
variable {d : Option Nat} {ty : TypeId} {pos : String} {af : Array Edge} {g : Option (Nat × Bool)}

/-- Where the record i of a slice begins. -/
def ixA (a : Option Addr) (i z : Nat) : Nat := ao a + i * z
theorem KSl.at_ {α : Type} {enc : α → List Value} {z : Nat} [hz : Rec enc z] {a : Option Addr} {n cap : Nat} {xs : List α} {w : World} (h : KSl a n cap enc xs w) {i : Nat} (hi : i < n) :
    ∃ hi' : i < xs.length, a = some ⟨ab a, ao a, none⟩ ∧ ∀ j c, (enc xs[i])[j]? = some c → w.cell? ⟨ab a, ixA a i z + j, none⟩ = some c := by
  obtain ⟨h, rfl⟩ := h
  obtain ⟨b, o, rfl, _, hc⟩ := h.rec z hz.len hz.pos i hi
  exact ⟨hi, rfl, hc⟩
theorem det_indexAddr {x ix : Operand} {t E : TypeId} {α : Type} {enc : α → List Value} {z : Nat} [hz : Rec enc z] {a : Option Addr} {n cap : Nat} {xs : List α} {q : IntKind} {j : Int} {i : Nat} (hx : opnd st x = some (.slice a n cap)) (hi : opnd st ix = some (.int q j)) (hj : j = (i : Int)) (hn : i < n)
    [hs : Sees R a n cap α enc xs] (hu : ∀ w, (underlying t).run P w = .ok (.slice E) w) (hS : ∀ w, (sizeOf E).run P w = .ok z w) : Det X P ⟨d, .indexAddr t x ix, ty, pos, af, g⟩ st H R (.pointer (some ⟨ab a, ixA a i z, none⟩)) := fun ac w M Ds hst hm => by
  obtain ⟨_, ha, _⟩ := (hs.see w hm.r).at_ hn
  subst hj
  have e2 : (0 : Int) ≤ (i : Int) ∧ (i : Int) < (n : Int) := by omega
  simp only [execOp, hst.eval hx, hst.eval hi, Instr.indexAt, asIntOf, Sem.run_bind, Sem.run_pure, Result.andThen_ok, hu]
  rw [ha]
  simp only [e2, and_self, if_true, Sem.run_bind, hS, Result.andThen_ok, Sem.run_pure, addr_add, Int.toNat_natCast]
  rfl
theorem det_fieldAddrE {x : Operand} {s f k z i : Nat} {a : Option Addr} (hx : opnd st x = some (.pointer (some ⟨ab a, ixA a i z, none⟩))) (hf : FieldOff P s f k) : PDet P ⟨d, .fieldAddr s x f, ty, pos, af, g⟩ st (.pointer (some ⟨ab a, ixA a i z + k, none⟩)) := det_fieldAddr hx hf
theorem det_fieldAddrEk {x : Operand} {s f k k0 k2 z i : Nat} {a : Option Addr} (hx : opnd st x = some (.pointer (some ⟨ab a, ixA a i z + k0, none⟩))) (hf : FieldOff P s f k) (hk : k0 + k = k2) : PDet P ⟨d, .fieldAddr s x f, ty, pos, af, g⟩ st (.pointer (some ⟨ab a, ixA a i z + k2, none⟩)) := by
  subst hk; rw [← Nat.add_assoc]; exact det_fieldAddr hx hf
theorem det_loadEk {x : Operand} {t : TypeId} {α : Type} {enc : α → List Value} {z : Nat} [hz : Rec enc z] {a : Option Addr} {n cap : Nat} {xs : List α} {i k : Nat} {v : Value} (hx : opnd st x = some (.pointer (some ⟨ab a, ixA a i z + k, none⟩))) (hn : i < n)
    [hs : Sees R a n cap α enc xs] (hA : ∀ w, (isAgg t).run P w = .ok false w) (hl : n = xs.length) (hv : (enc (xs[i]'(hl ▸ hn)))[k]? = some v) : Det X P ⟨d, .load t x, ty, pos, af, g⟩ st H R v := fun ac w M Ds hst hm => by
  obtain ⟨_, ha, hc⟩ := (hs.see w hm.r).at_ hn
  have := run_load (P := P) (w := w) ⟨ab a, ixA a i z + k, none⟩ .plain
  simp [execOp, hst.eval hx, Instr.loadAt, Instr.sureAddr, loadVar, Sem.run_bind, hA, Result.andThen, hc k v hv, this]
theorem det_loadE {x : Operand} {t : TypeId} {α : Type} {enc : α → List Value} {z : Nat} [hz : Rec enc z] {a : Option Addr} {n cap : Nat} {xs : List α} {i : Nat} {v : Value} (hx : opnd st x = some (.pointer (some ⟨ab a, ixA a i z, none⟩))) (hn : i < n)
    [hs : Sees R a n cap α enc xs] (hA : ∀ w, (isAgg t).run P w = .ok false w) (hl : n = xs.length) (hv : (enc (xs[i]'(hl ▸ hn)))[0]? = some v) : Det X P ⟨d, .load t x, ty, pos, af, g⟩ st H R v := det_loadEk (k := 0) hx hn hA hl hv
theorem det_loadEAk {x : Operand} {t : TypeId} {α : Type} {enc : α → List Value} {z : Nat} [hz : Rec enc z] {a : Option Addr} {n cap : Nat} {xs : List α} {i k m : Nat} {vs : List Value} (hx : opnd st x = some (.pointer (some ⟨ab a, ixA a i z + k, none⟩))) (hn : i < n)
    [hs : Sees R a n cap α enc xs] (hA : ∀ w, (isAgg t).run P w = .ok true w) (hS : ∀ w, (sizeOf t).run P w = .ok m w) (hl : n = xs.length) (hv : ((enc (xs[i]'(hl ▸ hn))).drop k).take m = vs) (hm' : vs.length = m) : Det X P ⟨d, .load t x, ty, pos, af, g⟩ st H R (.agg vs.toArray) := fun ac w M Ds hst hm => by
  obtain ⟨_, ha, hc⟩ := (hs.see w hm.r).at_ hn
  have := run_loadCells (P := P) (w := w) ⟨ab a, ixA a i z + k, none⟩ m (fun j => vs.getD j undef) (fun j hj => by
    have hj' : (enc (xs[i]'(hl ▸ hn)))[k + j]? = some (vs.getD j undef) := by
      rw [← hv, List.getD_eq_getElem?_getD, List.getElem?_take_of_lt hj, List.getElem?_drop]
      have : k + j < (enc (xs[i]'(hl ▸ hn))).length := by
        have := congrArg List.length hv
        rw [List.length_take, List.length_drop, hm'] at this; omega
      rw [List.getElem?_eq_getElem this]; rfl
    have h2 := hc _ _ hj'
    rw [addr_add, ← h2]
    congr 2
    omega)
  have e : (List.range m).map (fun j => vs.getD j undef) = vs := by
    apply List.ext_getElem
    · simp [hm']
    · intro i h1 h2; simp [List.getD_eq_getElem?_getD, h2]
  rw [e] at this
  simp [execOp, hst.eval hx, Instr.loadAt, Instr.sureAddr, loadVar, Sem.run_bind, hA, hS, Result.andThen, this]
theorem det_loadEA {x : Operand} {t : TypeId} {α : Type} {enc : α → List Value} {z : Nat} [hz : Rec enc z] {a : Option Addr} {n cap : Nat} {xs : List α} {i m : Nat} {vs : List Value} (hx : opnd st x = some (.pointer (some ⟨ab a, ixA a i z, none⟩))) (hn : i < n)
    [hs : Sees R a n cap α enc xs] (hA : ∀ w, (isAgg t).run P w = .ok true w) (hS : ∀ w, (sizeOf t).run P w = .ok m w) (hl : n = xs.length) (hv : (enc (xs[i]'(hl ▸ hn))).take m = vs) (hm' : vs.length = m) : Det X P ⟨d, .load t x, ty, pos, af, g⟩ st H R (.agg vs.toArray) := det_loadEAk (k := 0) hx hn hA hS hl hv hm'
theorem det_len {x : Operand} {t E : TypeId} {a : Option Addr} {n cap : Nat} (hx : opnd st x = some (.slice a n cap)) (hu : ∀ w, (underlying t).run P w = .ok (.slice E) w) : PDet P ⟨d, .call ⟨.builtin .len, #[x], #[t]⟩, ty, pos, af, g⟩ st (.int .i64 n) := fun N ac w hst => by
  simp [execOp, resolve, invoke, builtin, Builtin.len_, hst.eval hx, Sem.run_bind, Sem.run_pure, Result.andThen, hu, goInt]
theorem det_max {x y : Operand} {t t' : TypeId} {m n : Int} (hx : opnd st x = some (.int .i64 m)) (hy : opnd st y = some (.int .i64 n)) : PDet P ⟨d, .call ⟨.builtin .max, #[x, y], #[t, t']⟩, ty, pos, af, g⟩ st (.int .i64 (max m n)) := fun N ac w hst => by
  simp [execOp, resolve, invoke, builtin, Builtin.max_, Builtin.max2, hst.eval hx, hst.eval hy, Result.andThen]
  split <;> omega
theorem det_min {x y : Operand} {t t' : TypeId} {m n : Int} (hx : opnd st x = some (.int .i64 m)) (hy : opnd st y = some (.int .i64 n)) : PDet P ⟨d, .call ⟨.builtin .min, #[x, y], #[t, t']⟩, ty, pos, af, g⟩ st (.int .i64 (min m n)) := fun N ac w hst => by
  simp [execOp, resolve, invoke, builtin, Builtin.min_, Builtin.min2, hst.eval hx, hst.eval hy, Result.andThen]
  split <;> omega

def ElemX (P : Program) (t e size : Nat) : Prop := ∃ bytes, ElemOf P t e size bytes
/-- One more record, onto a slice of the call's own. -/
theorem jo_append {s x : Operand} {t T z n b c : Nat} {v : Value} {xs news : List Value} (E : ElemX P t T z) (hs : opnd st s = some v) (hx : opnd st x = some (.slice (some ⟨b, 0, none⟩) 1 c)) [ho : OwnAt H v T z n xs H'] [hb : BoxAt H b news]
    (hl : news.length = z) (h1 : news.all (·.oneCell') = true) (hn : n ≤ 1000000) :
    JO X P ⟨d, .call ⟨.builtin .append, #[s, x], #[t, t]⟩, ty, pos, af, g⟩ st H R (fun p : Nat × Nat => .slice (some ⟨p.1, 0, none⟩) (n + 1) p.2) (fun p => ow (.slice (some ⟨p.1, 0, none⟩) (n + 1) p.2) T z (n + 1) (xs ++ news) :: H') (fun _ => R) := by
  intro a w M Ds K Q hst hm hK
  obtain ⟨A, B, e1, e2⟩ := ho.ex
  have hbx : Box w b news := (hm.hold _ hb.mem).now
  subst e1 e2
  have hm2 := hm.perm (mid_perm A B _)
  have hown : w.ownsRow 0 T z v n xs := (hm.hold (ow v T z n xs) (by simp)).now
  obtain ⟨bytes, E⟩ := E
  obtain ⟨i, zv, i1, i2, i3, i4, i5⟩ := E.ex
  have hsm := E.small
  obtain ⟨gg, cap, w', r1, r2, r3, r4, r5⟩ := run_append_lies (P := P) w t ty 0 T i zv z bytes E.ht i1 i2 i3 i4 i5 E.pos v n xs hown ⟨b, 0, none⟩ 1 c news (by omega)
    (fun j u hu => by have := hbx.cell j hu; rw [addr_add]; simpa using this) (fun u hu => List.all_eq_true.1 h1 u hu) (by omega) (by have : maxLen = 9223372036854775807 := rfl; omega)
    (by have : (n + 1) * bytes ≤ 1000001 * 4096 := Nat.mul_le_mul (by omega) hsm
        omega) (Nat.zero_le _) w.heap.size rfl
  refine ⟨fun f _ => fof_fn _ f, ?_⟩
  rw [semAt_plain _ _ _ (by intro c h; cases h)]
  have hrun : (execOp a.eval ⟨d, .call ⟨.builtin .append, #[s, x], #[t, t]⟩, ty, pos, af, g⟩).run P w = .ok (.value (.slice (some ⟨gg, 0, none⟩) (n + 1) cap)) w' := by
    simp only [execOp, resolve, invoke, builtin, Sem.run_bind, Sem.run_pure, Result.andThen_ok, List.map_toArray, List.map_cons, List.map_nil, hst.eval hs, hst.eval hx, r1]
  rw [hrun]
  refine hK (gg, cap) w' (fun x => M x ∨ x = gg) ?_
  have hold := ow_holds r2
  have hmv : Moves (fun x => ∃ c ∈ [ow v T z n xs], c.own x) w w' := ⟨r3.os, r3.tape, r3.output, r3.size, fun k hk hn' => r3.block k hk (fun e => hn' ⟨_, List.mem_singleton.2 rfl, e.symm⟩)⟩
  have := hm2.swap (C' := [ow (.slice (some ⟨gg, 0, none⟩) (n + 1) cap) T z (n + 1) (xs ++ news)]) (R' := fun _ => True) (fun x => M x ∨ x = gg) hmv (fun _ h => .inl h)
    (fun x hx => by
      rcases hx with hx | rfl
      · exact .inl hx
      · rcases r4 with r4 | r4
        · exact .inl (hm2.own (ow v T z n xs) (by simp) _ r4)
        · exact .inr (by omega))
    (fun x hx => by
      rcases hx with hx | rfl
      · exact Nat.lt_of_lt_of_le (hm.bd x hx) r3.size
      · exact r5)
    (by intro c hc; simp at hc; subst hc; exact hold)
    (by
      intro c hc x hx
      simp at hc; subst hc
      have e : x = gg := by
        have : (Value.slice (some (⟨gg, 0, none⟩ : Addr)) (n + 1) cap).ownBlock = some x := hx
        simpa [Value.ownBlock] using this.symm
      subst e
      refine ⟨.inr rfl, ?_⟩
      rcases r4 with r4 | r4
      · exact .inl ⟨ow v T z n xs, by simp, r4⟩
      · exact .inr (by omega)) (by simp) (fun _ _ => trivial)
  exact this.know fun w h => h.2
/-- A nil slice is one of the call's own, without a cell. -/
theorem Ok.nil {a : Act} {w : World} (T z : Nat) (h : Ok X st H R a w) : Ok X st (ow (.slice none 0 0) T z 0 [] :: H) R a w := by
  obtain ⟨h1, M, Ds, h2, hm⟩ := h
  have := hm.swap (C := []) (D := H) (C' := [ow (.slice none 0 0) T z 0 []]) (R' := fun _ => True) (w' := w) M (Moves.refl _) (fun _ h => h) (fun _ h => .inl h) hm.bd
    (by intro c hc; simp at hc; subst hc; exact ow_holds (World.ownsRow_nil _ _ _ _)) (by intro c hc b hb; simp at hc; subst hc; exact absurd (show (Value.slice none 0 0).ownBlock = some b from hb) (by simp [Value.ownBlock])) (by simp) (fun _ _ => trivial)
  exact ⟨h1, M, Ds, h2, this.know fun w h => h.2⟩
theorem JC_nil {c : Code} (T z : Nat) (h : JC X P c k st (ow (.slice none 0 0) T z 0 [] :: H) R) : JC X P c k st H R := fun a w ho => h a w (ho.nil T z)
theorem JE_nil {e : Exit} (T z : Nat) (h : JE X P e k st (ow (.slice none 0 0) T z 0 [] :: H) R) : JE X P e k st H R := fun a w ho => h a w (ho.nil T z)
theorem JL_nilS (T z : Nat) (h : JL X P ops Q rest st (ow (.slice none 0 0) T z 0 [] :: H) R) : JL X P ops Q rest st H R := fun a w ho => h a w (ho.nil T z)

/-- A piece of the call's own is frozen: it is known from now on. -/
theorem Ok.freeze {a : Act} {w : World} {c : Chunk} [hp : Pick H c H'] (hF : ∀ b, ¬ X.Fp b) (h : Ok X st H R a w) : Ok X st H' (KAnd c.says R) a w := by
  obtain ⟨h1, M, Ds, h2, hm⟩ := h
  have hm := hm.perm hp.perm
  have hc := hm.hold c (by simp)
  have hd := List.pairwise_cons.1 hm.dis
  refine ⟨h1, fun b => M b ∧ ¬ c.own b, Ds, h2, ⟨fun b hb => hm.bd b hb.1, fun x hx => hm.hold x (by simp [hx]), fun x hx b hb => ⟨hm.own x (by simp [hx]) b hb, fun hcb => hd.1 x hx b hcb hb⟩, fun x hx => hm.fp x (by simp [hx]), hd.2, fun w' hw => ⟨?_, hm.keep w' (hw.weaken fun _ _ h => h.1)⟩, hm.mv, fun b hb => ⟨hm.m0 b hb, fun hcb => ?_⟩, fun b hb => hm.m1 b hb.1, hm.mks, fun D hD => ⟨hm.mkM D hD, hm.mkH D hD c (by simp)⟩, fun D hD x hx => hm.mkH D hD x (by simp [hx]), hm.m2, hm.mk0⟩⟩
  · exact hc.says w' hw.size fun b hb => hw.block b (hc.bd b hb) fun hn => hn.2 hb
  · have h3 := hm.m2 b hb
    have h4 := (hm.fp c (by simp) b hcb).resolve_left (hF b)
    omega
theorem JE_freeze {e : Exit} (c : Chunk) [hp : Pick H c H'] (hF : ∀ b, ¬ X.Fp b) (h : JE X P e k st H' (KAnd c.says R)) : JE X P e k st H R := fun a w ho => h a w (ho.freeze hF)
theorem JC_freeze {cd : Code} (c : Chunk) [hp : Pick H c H'] (hF : ∀ b, ¬ X.Fp b) (h : JC X P cd k st H' (KAnd c.says R)) : JC X P cd k st H R := fun a w ho => h a w (ho.freeze hF)
theorem JL_freeze (c : Chunk) [hp : Pick H c H'] (hF : ∀ b, ¬ X.Fp b) (h : JL X P ops Q rest st H' (KAnd c.says R)) : JL X P ops Q rest st H R := fun a w ho => h a w (ho.freeze hF)
theorem noFp {N : Nat} {w0 : World} {M0 : Nat → Prop} : ∀ b, ¬ (mkX N w0 (OwnOf []) M0).Fp b := fun b ⟨c, hc, _⟩ => by cases hc
theorem ow_sl {α : Type} {enc : α → List Value} {z : Nat} [hz : Rec enc z] {v : Value} {T n : Nat} {xs : List α} {cs : List Value} {w : World} (h : (ow v T z n cs).says w) (hc : cs = xs.flatMap enc) (hn : n = xs.length) : ∃ a cap, v = .slice a n cap ∧ KSl a n cap enc xs w := by
  have hl : cs.length = xs.length * z := hc ▸ flatMap_len enc z hz.len xs
  rcases h.2 with ⟨h2, h3⟩ | ⟨g, cap, cur, hv, h3, h4, h5, h6, h7, h8⟩
  · refine ⟨none, 0, by rw [h2, h3], ⟨by omega, by unfold maxLen; omega, fun _ => ⟨h3, rfl⟩, fun hne => ?_⟩, hn⟩
    have : cs = [] := List.eq_nil_of_length_eq_zero (by rw [hl, ← hn, h3]; simp)
    rw [← hc] at hne
    exact absurd this hne
  · refine ⟨_, cap, hv, ⟨by omega, by omega, (fun e => by cases e), fun _ => ⟨g, 0, rfl, (Array.getElem?_eq_some_iff.1 h4).1, fun i c hi => ?_⟩⟩, hn⟩
    rw [← hc, ← h8] at hi
    have hi2 : cur.toList[i]? = some c := by
      rw [List.getElem?_take] at hi
      split at hi
      · exact hi
      · cases hi
    simp only [World.cell?, h4, Nat.zero_add]
    simpa using hi2
end
end Go.Proofs.YthpkgabckklojaaGreat

/- A range over a function, with the world out of sight. Nothing is asked. -/
namespace Go.Proofs.YthpkgabckklojaaGreat
open Go.RowKit Go.Shelf

/-- Its blocks are rows of cells. -/
def Chunk.cellish (c : Chunk) : Prop := ∀ w b, c.holds w → c.own b → ∃ o : Obj, w.heap[b]? = some o ∧ o.isCells = true
theorem bx_cellish (b : Nat) (cs : List Value) : (bx b cs).cellish := fun w x h hx => by
  cases hx
  obtain ⟨T, h⟩ := h.now
  exact ⟨_, h, rfl⟩
theorem ow_cellish (v : Value) (T z n : Nat) (xs : List Value) : (ow v T z n xs).cellish := fun w x h hx => by
  rcases h.now.2 with ⟨h2, _⟩ | ⟨g, cap, cur, hv, h3, h4, _⟩
  · have : v.ownBlock = some x := hx
    rw [h2] at this; cases this
  · have : v.ownBlock = some x := hx
    rw [hv] at this
    have e : g = x := by simpa [Value.ownBlock] using this
    subst e
    exact ⟨_, h4, rfl⟩
theorem perm2 {H H1 H2 : List Chunk} (c1 c2 : Chunk) [h1 : Pick H c1 H1] [h2 : Pick H1 c2 H2] : H.Perm ([c1, c2] ++ H2) := h1.perm.trans (h2.perm.cons c1)
theorem perm1 {H H1 : List Chunk} (c1 : Chunk) [h1 : Pick H c1 H1] : H.Perm ([c1] ++ H1) := h1.perm
theorem perm3 {H H1 H2 H3 : List Chunk} (c1 c2 c3 : Chunk) [h1 : Pick H c1 H1] [h2 : Pick H1 c2 H2] [h3 : Pick H2 c3 H3] : H.Perm ([c1, c2, c3] ++ H3) := h1.perm.trans ((perm2 c2 c3).cons c1)
def exitCode : Exit → Option Code
  | .ret => some .ret
  | .exit id => some (.exit id)
  | _ => none
def asgSt : List Tmp → List Value → Sto → Sto
  | p :: ps, v :: vs, st => asgSt ps vs ((p, v) :: st)
  | _, _, st => st
theorem StOk.asg {N : Nat} : ∀ {ps : List Tmp} {vs : List Value} {st : Sto} {t : Array Value}, ps.length = vs.length → (∀ p ∈ ps, p < N) → StOk N st ⟨t, []⟩ → StOk N (asgSt ps vs st) ⟨(ps.zip vs).foldl (fun t (p, v) => t.setIfInBounds p v) t, []⟩
  | [], [], _, _, _, _, h => h
  | p :: ps, v :: vs, st, t, hl, hp, h => by
    have h2 := h.put (hp p (by simp)) v
    exact StOk.asg (ps := ps) (st := (p, v) :: st) (t := t.setIfInBounds p v) (by simpa using hl) (fun q hq => hp q (by simp [hq])) h2
  | [], _ :: _, _, _, hl, _, _ => by simp at hl
  | _ :: _, [], _, _, hl, _, _ => by simp at hl
/-- All that some pieces say. -/
def saysAll : List Chunk → World → Prop
  | [], _ => True
  | c :: l, w => c.says w ∧ saysAll l w
theorem saysAll_iff {l : List Chunk} {w : World} : saysAll l w ↔ ∀ c ∈ l, c.says w := by
  induction l with
  | nil => simp [saysAll]
  | cons c l ih => simp [saysAll, ih]

section
variable {X : Ctx} {P : Program} {st : Sto} {H C D : List Chunk} {R : World → Prop} {k : Kont}
/-- Between the rounds. -/
structure Rounds (w : World) (C Cg : List Chunk) (W : World) : Prop where
  hold : ∀ c ∈ Cg, c.holds W
  dis : Cg.Pairwise fun c d => ∀ b, c.own b → ¬ d.own b
  new : ∀ c ∈ Cg, ∀ b, c.own b → (∃ c' ∈ C, c'.own b) ∨ w.heap.size ≤ b
  mv : Moves (OwnOf C) w W
theorem Rounds.grown {w : World} {Cg : List Chunk} {W W' : World} {row : Option Nat} (h : Rounds w C Cg W) (hc : ∀ c ∈ C, ∀ b, c.own b → b < w.heap.size) (hk : ∀ c ∈ Cg, c.cellish ∨ ∀ b, c.own b → ∃ c' ∈ C, c'.own b)
    (hg : W.grownBy W' row) (hr : ∀ r, row = some r → w.heap.size ≤ r ∧ ∃ o : Obj, W.heap[r]? = some o ∧ o.isCells = false) : Rounds w C Cg W' := by
  refine ⟨fun c hcg => (h.hold c hcg).later hg.size fun b hb => hg.block b ((h.hold c hcg).bd b hb) fun e => ?_, h.dis, h.new, ⟨hg.os.trans h.mv.os, hg.tape.trans h.mv.tape, hg.output.trans h.mv.output, Nat.le_trans h.mv.size hg.size, fun i hi hn => (hg.block i (Nat.lt_of_lt_of_le hi h.mv.size) fun e => ?_).trans (h.mv.block i hi hn)⟩⟩
  · obtain ⟨h1, o, h2, h3⟩ := hr b e.symm
    rcases hk c hcg with hk | hk
    · obtain ⟨o', h4, h5⟩ := hk W b (h.hold c hcg) hb
      rw [h2] at h4; cases h4; rw [h3] at h5; cases h5
    · obtain ⟨c', hc', hb'⟩ := hk b hb
      have := hc c' hc' b hb'; omega
  · have := (hr i e.symm).1; omega

set_option maxHeartbeats 1000000 in
theorem JC_range {α β γ : Type} {g : Operand} {ps : List Tmp} {assign body : Code} {gf : Nat} {lb : Array Value} (hro : X.ro = none) (hX : X.n = 3) (hnd : X.nd = false)
    (hg : opnd st g = some (.func (.func gf) #[] lb)) (eg : ∀ args w, (callFunc gf args).run P w = .ok (.enter gf args) w) (hH : H.Perm (C ++ D))
    (encs : α → List Value) (Sx Sp : List α → Prop) (Nn : Nat) (Ks : List Nat)
    (hseq : ∀ w, saysAll D w → R w → SeqStopsK Fence.wide 2 P gf lb (fun x => (encs x).toArray) (KeptKs Ks) Sx Sp Nn w) (hKs : ∀ b ∈ Ks, ∃ c ∈ D, c.own b)
    (hps : ∀ x, (encs x).length = ps.length) (hpN : ∀ p ∈ ps, p < X.N)
    (I : List α → γ → Prop) (E : Code → List α → γ → Prop) (C0 : γ → List Chunk) (g0 : γ) (hI0 : I [] g0) (hC0 : C0 g0 = C)
    (hold : ∀ pre g, I pre g → ∀ c ∈ C0 g, ∀ b, c.own b → ∃ c' ∈ C, c'.own b)
    (hexit : ∀ cd pre g, E cd pre g → ∀ c ∈ C0 g, c.cellish ∨ ∀ b, c.own b → ∃ c' ∈ C, c'.own b)
    (stA : α → β → Sto) (cA : α → β → List Chunk) (hcA : ∀ x b, ∀ c ∈ cA x b, c.cellish)
    (hassign : ∀ (l : Nat) (x : α) (W : World) (K0 : Act → World → Prop), (∀ b a' W', Ok ⟨1, some l, X.N, W, fun _ => False, fun _ => False, true⟩ (stA x b) (cA x b) KTrue a' W' → K0 a' W') →
      JC ⟨1, some l, X.N, W, fun _ => False, fun _ => False, true⟩ P assign (.thenP K0 (.done fun _ _ _ => False)) (asgSt ps (encs x) st) [] KTrue)
    (hbody : ∀ (l : Nat) (pre : List α) (x : α) (gg : γ) (b : β) (W : World) (K1 : Act → World → Prop) (QX : Exit → Act → World → Prop), I pre gg → pre.length < Nn →
      (∀ g', I (pre ++ [x]) g' → ∀ st' R' a' W', Ok ⟨1, some l, X.N, W, OwnOf (cA x b ++ C0 gg), OwnOf (cA x b ++ C0 gg), true⟩ st' (C0 g') R' a' W' → K1 a' W') →
      (∀ e cd g', exitCode e = some cd → E cd (pre ++ [x]) g' → ∀ st' R' a' W', Ok ⟨1, some l, X.N, W, OwnOf (cA x b ++ C0 gg), OwnOf (cA x b ++ C0 gg), true⟩ st' (C0 g') R' a' W' → QX e a' W') →
      JC ⟨1, some l, X.N, W, OwnOf (cA x b ++ C0 gg), OwnOf (cA x b ++ C0 gg), true⟩ P body (.thenP K1 (.done QX)) (stA x b) (cA x b ++ C0 gg) (KAnd (saysAll D) R))
    (hdone : ∀ xs gg, Sx xs → I xs gg → JE X P .normal k st (C0 gg ++ D) R)
    (hstop : ∀ cd pre gg, Sp pre → E cd pre gg → JC X P cd k st (C0 gg ++ D) R) : JC X P (.rangeFunc g ps.toArray assign body) k st H R := by
  intro a w ⟨hs, M, Ds, hd, hm⟩
  have hF : Fof X.ro = Fence.wide := by rw [hro]; rfl
  have hm := hm.perm hH
  have hCD := List.pairwise_append.1 hm.dis
  have hCb : ∀ c ∈ C, ∀ b, c.own b → b < w.heap.size := fun c hc b hb => (hm.hold c (List.mem_append.2 (.inl hc))).bd b hb
  have hDb : ∀ c ∈ D, ∀ b, c.own b → b < w.heap.size := fun c hc b hb => (hm.hold c (List.mem_append.2 (.inr hc))).bd b hb
  have hDC : ∀ c ∈ D, ∀ b, c.own b → ¬ OwnOf C b := fun c hc b hb ⟨c', hc', hb'⟩ => hCD.2.2 c' hc' c hc b hb' hb
  have hDw : ∀ W, Moves (OwnOf C) w W → ∀ c ∈ D, c.holds W := fun W hW c hc => (hm.hold c (List.mem_append.2 (.inr hc))).later hW.size fun b hb => hW.block b (hDb c hc b hb) (hDC c hc b hb)
  have hCM : ∀ b, OwnOf C b → M b := fun b ⟨c, hc, hb⟩ => hm.own c (List.mem_append.2 (.inl hc)) b hb
  have hKw : ∀ b ∈ Ks, b < w.heap.size ∧ ¬ OwnOf C b := fun b hb => by obtain ⟨c, hc, hcb⟩ := hKs b hb; exact ⟨hDb c hc b hcb, hDC c hc b hcb⟩
  have hsq := hseq w (saysAll_iff.2 fun c hc => (hm.hold c (List.mem_append.2 (.inr hc))).now) hm.r
  have hoC : ∀ pre gg, I pre gg → ∀ c ∈ C0 gg, c.cellish ∨ ∀ b, c.own b → ∃ c' ∈ C, c'.own b := fun pre gg hi c hc => .inr (hold pre gg hi c hc)
  -- behind the loop
  have hback : ∀ (gg : γ) (W : World) (Dm : Nat), Rounds w C (C0 gg) W → (∀ c ∈ C0 gg, c.cellish ∨ ∀ b, c.own b → ∃ c' ∈ C, c'.own b) → w.heap.size ≤ Dm → W.heap[Dm]? = some (.deferred (some [])) →
      Ok X st (C0 gg ++ D) R { a with defers := Mark Dm :: a.defers } W := by
    intro gg W Dm hr hcell hDm hk
    have hlt : Dm < W.heap.size := (Array.getElem?_eq_some_iff.1 hk).1
    have hsw := hm.swap (C' := C0 gg) (R' := fun _ => True) (w' := W) (fun b => M b ∨ OwnOf (C0 gg) b) hr.mv (fun _ h => .inl h)
      (fun b hb => hb.elim .inl fun ⟨c, hc, hcb⟩ => (hr.new c hc b hcb).imp (fun h => hCM b h) id) (fun b hb => hb.elim (fun h => Nat.lt_of_lt_of_le (hm.bd b h) hr.mv.size) fun ⟨c, hc, hcb⟩ => (hr.hold c hc).bd b hcb)
      hr.hold (fun c hc b hb => ⟨.inr ⟨c, hc, hb⟩, hr.new c hc b hb⟩) hr.dis (fun _ _ => trivial)
    have hsw := hsw.know (R' := R) fun _ h => h.2
    have hnoD : ∀ c ∈ C0 gg ++ D, ¬ c.own Dm := by
      intro c hc hb
      rcases List.mem_append.1 hc with hc | hc
      · rcases hcell c hc with h | h
        · obtain ⟨o, h1, h2⟩ := h W Dm (hr.hold c hc) hb
          rw [hk] at h1; cases h1; cases h2
        · obtain ⟨c', hc', hb'⟩ := h Dm hb
          have := hCb c' hc' Dm hb'; omega
      · have := hDb c hc Dm hb; omega
    refine ⟨⟨hs.size, hs.get⟩, fun b => (M b ∨ OwnOf (C0 gg) b) ∨ b = Dm, Dm :: Ds, by simp [hd], ?_⟩
    exact ⟨fun b hb => hb.elim (hsw.bd b) (fun e => e ▸ hlt), hsw.hold, fun c hc b hb => .inl (hsw.own c hc b hb), hsw.fp, hsw.dis,
      fun w' hw => hm.keep w' ((hr.mv.weaken fun i _ hi => hCM i hi).trans hw fun i hi hb => hb.elim (fun h => h.elim id fun ⟨c, hc, hcb⟩ => ((hr.new c hc i hcb).resolve_right (by omega)) |> fun h => hCM i h) (fun e => by omega)),
      hsw.mv, fun b hb => .inl (hsw.m0 b hb), fun b hb => hb.elim (hsw.m1 b) (fun e => .inr (by have := hm.mv.size; omega)), hm.mks.push hsw.mks hDm (Nat.le_trans hm.mv.size hDm) hk,
      fun x hx => (List.mem_cons.1 hx).elim (fun e => .inr e) (fun h => .inl (hsw.mkM x h)), fun x hx c hc => (List.mem_cons.1 hx).elim (fun e => e ▸ hnoD c hc) (fun h => hsw.mkH x h c hc), hm.m2, fun h => by rw [hnd] at h; cases h⟩
  have key := wpIn_rangeFunc_ownH (F := Fence.wide) (n := 3) (P := P) (a := a) (w := w) (assign := assign) (body := body) (Q := kden X P k) (ps := ps.toArray) rfl (by omega) (hs.eval hg) trivial eg hsq (fun h1 h2 b hb => (h2 b hb).trans (h1 b hb))
    (fun W l o o' hl _ _ _ b hb => World.putObj_heap_other (by have := (hKw b hb).1; omega)) (Below.refl _ _) (fun x => by simp [hps])
    (fun pre W => ∃ gg, I pre gg ∧ Rounds w C (C0 gg) W) (fun cd pre W => ∃ gg, E cd pre gg ∧ Rounds w C (C0 gg) W)
    (fun pre A B row ⟨gg, hi, hr⟩ hgr hrow => ⟨gg, hi, hr.grown hCb (hoC pre gg hi) hgr hrow⟩)
    (fun cd pre A B row ⟨gg, hi, hr⟩ hgr hrow => ⟨gg, hi, hr.grown hCb (hexit cd pre gg hi) hgr hrow⟩)
    ⟨g0, hI0, by rw [hC0]; exact ⟨fun c hc => hm.hold c (List.mem_append.2 (.inl hc)), hCD.1, fun c hc b hb => .inl ⟨c, hc, hb⟩, Moves.refl w⟩⟩
    (fun x a' W => ∃ b, StOk X.N (stA x b) a' ∧ a'.defers = [] ∧ (∀ c ∈ cA x b, c.holds W ∧ ∀ i, c.own i → w.heap.size ≤ i) ∧ (cA x b).Pairwise fun (c d : Chunk) => ∀ i : Nat, c.own i → ¬ d.own i)
    (fun x a' _ A B row ⟨b, h1, h2, h3, h4⟩ hgr hrow => ⟨b, h1, h2, fun c hc => ⟨(h3 c hc).1.later hgr.size fun i hi => hgr.block i ((h3 c hc).1.bd i hi) fun e => by
        obtain ⟨_, o, h5, h6⟩ := hrow i e.symm
        obtain ⟨o', h7, h8⟩ := hcA x b c hc A i (h3 c hc).1 hi
        rw [h5] at h7; cases h7; rw [h6] at h8; exact absurd h8 (by simp), (h3 c hc).2⟩, h4⟩)
    ?_ ?_ ?_ ?_
  · show (Code.rangeFunc g ps.toArray assign body).wpIn (Fof X.ro) X.n P (kden X P k) a w
    rw [hF, hX]; exact key
  · rintro l pre x W K ⟨gg, hi, hr⟩ hK
    refine hassign l x W K (fun b a' W' ho => ?_) _ W ⟨?_, fun _ => False, [], rfl, ?_⟩
    · obtain ⟨h1, M', Ds', h2, h3⟩ := ho
      have hmv : Moves (fun _ => False) W W' := h3.mv
      have hDs : Ds' = [] := h3.mk0 rfl
      refine hK a' W' ⟨hmv.size, fun i o _ hio _ => (hmv.block i (Array.getElem?_eq_some_iff.1 hio).1 (fun h => h)).trans hio⟩ (fun b hb => hmv.block b (Nat.lt_of_lt_of_le (hKw b hb).1 hr.mv.size) (fun h => h))
        ⟨gg, hi, fun c hc => (hr.hold c hc).later hmv.size fun b hb => hmv.block b ((hr.hold c hc).bd b hb) (fun h => h), hr.dis, hr.new, hr.mv.trans hmv (fun _ _ h => h.elim)⟩
        ⟨b, h1, by rw [h2, hDs]; rfl, fun c hc => ⟨h3.hold c hc, fun i hci => ?_⟩, h3.dis⟩
      have := (h3.fp c hc i hci).resolve_left (fun h => h)
      exact Nat.le_trans hr.mv.size this
    · have := StOk.asg (N := X.N) (ps := ps) (vs := encs x) (st := st) (t := a.tmps) (hps x).symm hpN ⟨hs.size, hs.get⟩
      simpa using this
    · exact ⟨fun _ h => h.elim, by simp, by simp, by simp, .nil, fun _ _ => trivial, Moves.refl W, fun _ h => h, fun _ h => h.elim, MarksIn.nil _ _, by simp, by simp, fun _ h => h.elim, fun _ => rfl⟩
  · rintro l pre x a' W hl hlo ⟨gg, hi, hr⟩ ⟨b, h1, h2, h3, h4⟩ hlen
    have hown : ∀ c ∈ cA x b ++ C0 gg, c.holds W := fun c hc => (List.mem_append.1 hc).elim (fun h => (h3 c h).1) (hr.hold c)
    have hMw : ∀ w', Moves (OwnOf (cA x b ++ C0 gg)) W w' → Moves (OwnOf C) w w' := fun w' hw => hr.mv.trans hw fun i hlt ⟨c, hc, hci⟩ => by
      rcases List.mem_append.1 hc with hc | hc
      · have := (h3 c hc).2 i hci; omega
      · exact hold pre gg hi c hc i hci
    have hfin : ∀ (g' : γ) (R' : World → Prop) (st' : Sto) (a2 : Act) (W' : World), Ok ⟨1, some l, X.N, W, OwnOf (cA x b ++ C0 gg), OwnOf (cA x b ++ C0 gg), true⟩ st' (C0 g') R' a2 W' →
        KeepsFrom w.heap.size W W' ∧ KeptKs Ks W W' ∧ Rounds w C (C0 g') W' := by
      rintro g' R' st' a2 W' ⟨_, M', Ds', _, h6⟩
      have hmv : Moves (OwnOf (cA x b ++ C0 gg)) W W' := h6.mv
      refine ⟨⟨hmv.size, fun i o hB hio ho => (hmv.block i (Array.getElem?_eq_some_iff.1 hio).1 fun ⟨c, hc, hci⟩ => ?_).trans hio⟩, fun q hq => hmv.block q (Nat.lt_of_lt_of_le (hKw q hq).1 hr.mv.size) fun ⟨c, hc, hci⟩ => ?_, h6.hold, h6.dis, fun c hc i hci => ?_, hMw W' hmv⟩
      · rcases List.mem_append.1 hc with hc | hc
        · obtain ⟨o', h7, h8⟩ := hcA x b c hc W i (h3 c hc).1 hci
          rw [hio] at h7; cases h7; rw [ho] at h8; cases h8
        · obtain ⟨c', hc', hb'⟩ := hold pre gg hi c hc i hci
          have := hCb c' hc' i hb'; omega
      · have hlt := (hKw q hq).1
        rcases List.mem_append.1 hc with hc | hc
        · have := (h3 c hc).2 q hci; omega
        · exact (hKw q hq).2 (hold pre gg hi c hc q hci)
      · rcases h6.fp c hc i hci with ⟨c1, hc1, hi1⟩ | h7
        · rcases List.mem_append.1 hc1 with hc1 | hc1
          · exact .inr ((h3 c1 hc1).2 i hi1)
          · exact .inl (hold pre gg hi c1 hc1 i hi1)
        · exact .inr (Nat.le_trans hr.mv.size h7)
    refine wpIn_mono (hbody l pre x gg b W (fun a2 W' => KeepsFrom w.heap.size W W' ∧ KeptKs Ks W W' ∧ ∃ g', I (pre ++ [x]) g' ∧ Rounds w C (C0 g') W')
      (fun e a2 W' => ∃ cd, exitCode e = some cd ∧ KeepsFrom w.heap.size W W' ∧ ∃ g', E cd (pre ++ [x]) g' ∧ Rounds w C (C0 g') W') hi hlen
      (fun g' hi' st' R' a2 W' ho => ⟨(hfin g' R' st' a2 W' ho).1, (hfin g' R' st' a2 W' ho).2.1, g', hi', (hfin g' R' st' a2 W' ho).2.2⟩)
      (fun e cd g' he hE st' R' a2 W' ho => ⟨cd, he, (hfin g' R' st' a2 W' ho).1, g', hE, (hfin g' R' st' a2 W' ho).2.2⟩) a' W ⟨h1, OwnOf (cA x b ++ C0 gg), [], h2, ?_⟩) ?_
    · refine ⟨fun i ⟨c, hc, hci⟩ => (hown c hc).bd i hci, hown, fun c hc i hci => ⟨c, hc, hci⟩, fun c hc i hci => .inl ⟨c, hc, hci⟩, List.pairwise_append.2 ⟨h4, hr.dis, fun c hc c' hc' i hci hci' => ?_⟩,
        fun w' hw => ⟨saysAll_iff.2 fun c hc => (hDw w' (hMw w' hw) c hc).now, hm.keep w' ((hMw w' hw).weaken fun i _ hi => hCM i hi)⟩, Moves.refl W, fun _ h => h, fun _ h => .inl h, MarksIn.nil _ _, by simp, by simp, fun i ⟨c, hc, hci⟩ => (hown c hc).bd i hci, fun _ => rfl⟩
      have h7 := (h3 c hc).2 i hci
      obtain ⟨c1, hc1, hi1⟩ := hold pre gg hi c' hc' i hci'
      have := hCb c1 hc1 i hi1; omega
    · intro e a2 W' hq
      cases e with
      | normal => exact hq
      | ret => obtain ⟨cd, he, h5, g', h6, h7⟩ := hq; cases he; exact ⟨h5, g', h6, h7⟩
      | exit id => obtain ⟨cd, he, h5, g', h6, h7⟩ := hq; cases he; exact ⟨h5, g', h6, h7⟩
      | goto t => obtain ⟨cd, he, _⟩ := hq; cases he
      | panic _ => obtain ⟨cd, he, _⟩ := hq; cases he
      | outgrown => obtain ⟨cd, he, _⟩ := hq; cases he
  · rintro Dm xs W hDm hS ⟨gg, hi, hr⟩ hk
    exact hdone xs gg hS hi _ W (hback gg W Dm hr (hoC xs gg hi) hDm hk)
  · rintro Dm cd pre W hDm hS ⟨gg, he, hr⟩ hk
    have := hstop cd pre gg hS he _ W (hback gg W Dm hr (hexit cd pre gg he) hDm hk)
    rw [hF, hX] at this; exact this
end
end Go.Proofs.YthpkgabckklojaaGreat

/- Boxes that are known, maps of the call's own, contracts laid in the elder form. Nothing is asked. -/
namespace Go.Proofs.YthpkgabckklojaaGreat
open Go.RowKit Go.Shelf

abbrev vB : Bool → Value := fun b => .bool b
abbrev pt (b : Nat) : Value := .pointer (some ⟨b, 0, none⟩)
/-- A block that is known, and never written again. -/
def KBox (b : Nat) (cs : List Value) : World → Prop := fun w => Box w b cs
class BoxK (R : World → Prop) (b : Nat) (cs : outParam (List Value)) : Prop where
  know : ∀ w, R w → Box w b cs
instance (b : Nat) (cs : List Value) : BoxK (KBox b cs) b cs := ⟨fun _ h => h⟩
instance (A B : World → Prop) (b : Nat) (cs : List Value) [h : BoxK B b cs] : BoxK (KAnd A B) b cs := ⟨fun w hw => h.know w hw.2⟩
instance (A B : World → Prop) (b : Nat) (cs : List Value) [h : BoxK A b cs] : BoxK (KAnd A B) b cs := ⟨fun w hw => h.know w hw.1⟩
instance (b : Nat) (cs : List Value) (l : List Chunk) [h : BoxAt l b cs] : BoxK (saysAll l) b cs := ⟨fun w hw => saysAll_iff.1 hw _ h.mem⟩
instance (b : Nat) (cs : List Value) : BoxK (bx b cs).says b cs := ⟨fun _ h => h⟩

section
variable {X : Ctx} {P : Program} {st : Sto} {H H' : List Chunk} {R R' : World → Prop} {k : Kont} {ops : Array Oper} {rest : List Oper} {Q : Exit → Act → World → Prop}
variable {d : Option Nat} {ty : TypeId} {pos : String} {af : Array Edge} {g : Option (Nat × Bool)}
/-- A block's cells, its own or known. -/
class BoxIn (H : List Chunk) (R : World → Prop) (b : Nat) (cs : outParam (List Value)) : Prop where
  get : ∀ w, (∀ c ∈ H, c.holds w) → R w → Box w b cs
instance (H : List Chunk) (R : World → Prop) (b : Nat) (cs : List Value) [h : BoxK R b cs] : BoxIn H R b cs := ⟨fun w _ hr => h.know w hr⟩
instance (H : List Chunk) (R : World → Prop) (b : Nat) (cs : List Value) [h : BoxAt H b cs] : BoxIn H R b cs := ⟨fun w hh _ => (hh _ h.mem).now⟩
theorem det_loadK {x : Operand} {t : TypeId} {b off : Nat} {cs : List Value} {v : Value} (hx : opnd st x = some (.pointer (some ⟨b, off, none⟩))) [hb : BoxIn H R b cs] (hA : ∀ w, (isAgg t).run P w = .ok false w) (hc : cs[off]? = some v) :
    Det X P ⟨d, .load t x, ty, pos, af, g⟩ st H R v := fun a w M Ds hs hm => by
  have hbx : Box w b cs := hb.get w hm.hold hm.r
  have := run_load (P := P) (w := w) ⟨b, off, none⟩ .plain
  simp [execOp, hs.eval hx, Instr.loadAt, Instr.sureAddr, loadVar, Sem.run_bind, hA, Result.andThen, hbx.cell off hc, this]
theorem det_loadKA {x : Operand} {t : TypeId} {b off n : Nat} {cs vs : List Value} (hx : opnd st x = some (.pointer (some ⟨b, off, none⟩))) [hb : BoxIn H R b cs] (hA : ∀ w, (isAgg t).run P w = .ok true w) (hS : ∀ w, (sizeOf t).run P w = .ok n w) (hv : (cs.drop off).take n = vs) (hn : vs.length = n) :
    Det X P ⟨d, .load t x, ty, pos, af, g⟩ st H R (.agg vs.toArray) := fun a w M Ds hs hm => by
  have hbx : Box w b cs := hb.get w hm.hold hm.r
  have hr := cells_run (P := P) hbx off n vs hv hn
  simp [execOp, hs.eval hx, Instr.loadAt, Instr.sureAddr, loadVar, Sem.run_bind, hA, hS, Result.andThen, hr]

theorem jo_makeMap {κ ν : Type} (ek : κ → Value) (ev : ν → Value) {t : TypeId} : JO X P ⟨d, .makeMap t none, ty, pos, af, g⟩ st H R (fun b : Nat => .map (some b)) (fun b => mp b ek ev (fun _ => none) :: H) (fun _ => R) :=
  jo_new (.map #[] 0) (fun b => .map (some b)) (fun b => mp b ek ev (fun _ => none)) (fun a w hs => by
    simp [execOp, Instr.makeMap, newObj, Sem.run_bind, Result.andThen]; rfl) (fun w => mp_holds (MapIs.made w ek ev)) (fun _ _ h => h) (by intro c h; cases h)
theorem det_lookup2 {κ ν : Type} {x y : Operand} {t K E : TypeId} {b : Nat} {ek : κ → Value} {ev : ν → Value} {m : κ → Option ν} {z : Value} (key : κ) (hx : opnd st x = some (.map (some b))) [hb : MapAt H b κ ν ek ev m] (hy : opnd st y = some (ek key))
    (G : GoodKey P K ek) (hT : P.underlying t = some (.map K E)) (hz : ∀ w, (zeroValue E).run P w = .ok z w) : Det X P ⟨d, .lookup t x y true, ty, pos, af, g⟩ st H R (.tuple #[(m key).elim z ev, .bool (m key).isSome]) := fun a w M Ds hs hm => by
  have hmp : MapIs w b ek ev m := (hm.hold _ hb.mem).now
  simp only [execOp, hs.eval hx, hs.eval hy, Sem.run_bind, hmp.lookup G hT (hz w) key true, Result.andThen_ok, Sem.run_pure, if_true]
theorem det_lookup1 {κ ν : Type} {x y : Operand} {t K E : TypeId} {b : Nat} {ek : κ → Value} {ev : ν → Value} {m : κ → Option ν} {z : Value} (key : κ) (hx : opnd st x = some (.map (some b))) [hb : MapAt H b κ ν ek ev m] (hy : opnd st y = some (ek key))
    (G : GoodKey P K ek) (hT : P.underlying t = some (.map K E)) (hz : ∀ w, (zeroValue E).run P w = .ok z w) : Det X P ⟨d, .lookup t x y false, ty, pos, af, g⟩ st H R ((m key).elim z ev) := fun a w M Ds hs hm => by
  have hmp : MapIs w b ek ev m := (hm.hold _ hb.mem).now
  simp only [execOp, hs.eval hx, hs.eval hy, Sem.run_bind, hmp.lookup G hT (hz w) key false, Result.andThen_ok, Sem.run_pure, Bool.false_eq_true, if_false]
theorem det_lookup1B {κ : Type} {x y : Operand} {t K E : TypeId} {b : Nat} {ek : κ → Value} {m : κ → Option Bool} (key : κ) (hx : opnd st x = some (.map (some b))) [hb : MapAt H b κ Bool ek vB m] (hy : opnd st y = some (ek key))
    (G : GoodKey P K ek) (hT : P.underlying t = some (.map K E)) (hz : ∀ w, (zeroValue E).run P w = .ok (.bool false) w) : Det X P ⟨d, .lookup t x y false, ty, pos, af, g⟩ st H R (.bool ((m key).getD false)) := by
  have := det_lookup1 (X := X) (P := P) (H := H) (R := R) (d := d) (ty := ty) (pos := pos) (af := af) (g := g) (ev := vB) key hx hy G hT hz
  cases hm : m key <;> rw [hm] at this <;> exact this
theorem det_lookup2N {κ ν : Type} {x y : Operand} {t K E : TypeId} {b : Nat} {ek : κ → Value} {ev : ν → Value} {m : κ → Option ν} {z : Value} {key : κ} (hk : m key = none) (hx : opnd st x = some (.map (some b))) [hb : MapAt H b κ ν ek ev m] (hy : opnd st y = some (ek key))
    (G : GoodKey P K ek) (hT : P.underlying t = some (.map K E)) (hz : ∀ w, (zeroValue E).run P w = .ok z w) : Det X P ⟨d, .lookup t x y true, ty, pos, af, g⟩ st H R (.tuple #[z, .bool false]) := by
  have := det_lookup2 (X := X) (P := P) (H := H) (R := R) (d := d) (ty := ty) (pos := pos) (af := af) (g := g) key hx hy G hT hz
  rwa [hk] at this
theorem det_lookup2S {κ ν : Type} {x y : Operand} {t K E : TypeId} {b : Nat} {ek : κ → Value} {ev : ν → Value} {m : κ → Option ν} {z : Value} {key : κ} {v : ν} (hk : m key = some v) (hx : opnd st x = some (.map (some b))) [hb : MapAt H b κ ν ek ev m] (hy : opnd st y = some (ek key))
    (G : GoodKey P K ek) (hT : P.underlying t = some (.map K E)) (hz : ∀ w, (zeroValue E).run P w = .ok z w) : Det X P ⟨d, .lookup t x y true, ty, pos, af, g⟩ st H R (.tuple #[ev v, .bool true]) := by
  have := det_lookup2 (X := X) (P := P) (H := H) (R := R) (d := d) (ty := ty) (pos := pos) (af := af) (g := g) key hx hy G hT hz
  rwa [hk] at this
theorem jo_mapUpdate {κ ν : Type} [DecidableEq κ] {op : Op} {x y z : Operand} {t K E : TypeId} {b : Nat} {ek : κ → Value} {ev : ν → Value} {m : κ → Option ν} (key : κ) (v : ν) (hop : op = .mapUpdate t x y z ∨ op = .insert t x y z) (hx : opnd st x = some (.map (some b))) [hb : MapAt H b κ ν ek ev m] [hu : MapUpd H b ek ev (upd m key v) H'] (hy : opnd st y = some (ek key)) (hz : opnd st z = some (ev v))
    (G : GoodKey P K ek) (hT : P.underlying t = some (.map K E)) : JO X P ⟨d, op, ty, pos, af, g⟩ st H R (fun _ : Unit => undef) (fun _ => H') (fun _ => R) := by
  intro a w M Ds Kk Q hs hm hK
  obtain ⟨A, B, m0, e1, e2⟩ := hu.ex
  subst e1 e2
  have hmp : MapIs w b ek ev m := (hm.hold _ hb.mem).now
  have hm2 := hm.perm (mid_perm A B _)
  obtain ⟨w', r1, r2, r3, r4⟩ := hmp.update (P := P) G hT key v
  refine ⟨fun f _ => fof_fn _ f, ?_⟩
  rw [semAt_plain _ _ _ (by intro c h; rcases hop with rfl | rfl <;> cases h)]
  have hrun : (execOp a.eval ⟨d, op, ty, pos, af, g⟩).run P w = .ok .skip w' := by
    rcases hop with rfl | rfl <;> simp [execOp, hs.eval hx, hs.eval hy, hs.eval hz, Sem.run_bind, r1, Result.andThen]
  rw [hrun]
  refine hK () w' M ?_
  have := hm2.swap (C' := [mp b ek ev (upd m key v)]) (R' := fun _ => True) M (r3.weaken fun i _ hi => ⟨mp b ek ev m0, by simp, hi⟩) (fun _ h => h) (fun _ h => .inl h)
    (fun b hb => by rw [r4]; exact hm.bd b hb) (by intro c hc; simp at hc; subst hc; exact mp_holds r2)
    (by intro c hc b' hb'; simp at hc; subst hc; cases hb'; exact ⟨hm2.own (mp _ ek ev m0) (by simp) _ rfl, .inl ⟨mp _ ek ev m0, by simp, rfl⟩⟩) (by simp) (fun _ _ => trivial)
  exact (this.know fun w h => h.2).perm (mid_perm A B _).symm

theorem JE_next {K1 : Act → World → Prop} {C : List Chunk} (hK : ∀ st' R' a' W', Ok X st' C R' a' W' → K1 a' W') (hH : HSub H C) : JE X P .normal (.thenP K1 k) st H R := fun a w ho => hK _ _ a w (ho.weak stsub_refl hH (fun _ h => h))
theorem JE_leave {e : Exit} {QX : Exit → Act → World → Prop} {C : List Chunk} (hK : ∀ st' R' a' W', Ok X st' C R' a' W' → QX e a' W') (hH : HSub H C) : JE X P e (.done QX) st H R := fun a w ho => hK _ _ a w (ho.weak stsub_refl hH (fun _ h => h))
theorem JE_asg {K0 : Act → World → Prop} {st2 : Sto} {C : List Chunk} {R2 : World → Prop} (hK : ∀ a' W', Ok X st2 C R2 a' W' → K0 a' W') (hs : StSub st st2) (hH : HSub H C) (hR : ∀ w, R w → R2 w) : JE X P .normal (.thenP K0 k) st H R := fun a w ho => hK a w (ho.weak hs hH hR)
theorem pick_perm {c : Chunk} [h : Pick H c H'] : H.Perm ([c] ++ H') := h.perm

theorem stsub_consI {st2 : Sto} {t : Nat} {q : IntKind} {m n : Int} (h : look st t = some (.int q m)) (e : m = n) (h2 : StSub st st2) : StSub st ((t, .int q n) :: st2) := stsub_cons (e ▸ h) h2
theorem stsub_consB {st2 : Sto} {t : Nat} {m n : Bool} (h : look st t = some (.bool m)) (e : m = n) (h2 : StSub st st2) : StSub st ((t, .bool n) :: st2) := stsub_cons (e ▸ h) h2
theorem hsub_conse {c c' : Chunk} {H2 : List Chunk} [h : Pick H c H'] (e : c = c') (h2 : HSub H' H2) : HSub H (c' :: H2) := e ▸ hsub_cons (c := c) h2
theorem ow_eq {v : Value} {T z n n' : Nat} {xs xs' : List Value} (e : n = n') (e' : xs = xs') : ow v T z n xs = ow v T z n' xs' := by rw [e, e']
theorem bx_eq {b : Nat} {xs xs' : List Value} (e' : xs = xs') : bx b xs = bx b xs' := by rw [e']
theorem hsub_ow {v : Value} {T z n n' : Nat} {xs xs' : List Value} {H2 : List Chunk} [h : OwnAt H v T z n xs H'] (e : n = n') (e' : xs = xs') (h2 : HSub H' H2) : HSub H (ow v T z n' xs' :: H2) := by
  obtain ⟨A, B, h3, h4⟩ := h.ex
  obtain ⟨D, hD⟩ := h2
  subst e e' h3 h4
  exact ⟨D, List.perm_middle.trans (hD.cons _)⟩
class BoxPick (H : List Chunk) (b : Nat) (cs : outParam (List Value)) (H' : outParam (List Chunk)) : Prop where
  perm : H.Perm (bx b cs :: H')
instance (H : List Chunk) (b : Nat) (cs : List Value) : BoxPick (bx b cs :: H) b cs H := ⟨List.Perm.refl _⟩
instance (H H' : List Chunk) (b : Nat) (cs : List Value) (c : Chunk) [h : BoxPick H b cs H'] : BoxPick (c :: H) b cs (c :: H') := ⟨(h.perm.cons c).trans (List.Perm.swap _ _ _)⟩
instance (A B B' : List Chunk) (b : Nat) (cs : List Value) [h : BoxPick B b cs B'] : BoxPick (A ++ B) b cs (A ++ B') := ⟨(h.perm.append_left A).trans List.perm_middle⟩
instance (A A' B : List Chunk) (b : Nat) (cs : List Value) [h : BoxPick A b cs A'] : BoxPick (A ++ B) b cs (A' ++ B) := ⟨h.perm.append_right B⟩
theorem hsub_bx {b : Nat} {cs cs' : List Value} {H2 : List Chunk} [h : BoxPick H b cs H'] (e : cs = cs') (h2 : HSub H' H2) : HSub H (bx b cs' :: H2) := by
  obtain ⟨D, hD⟩ := h2
  subst e
  exact ⟨D, h.perm.trans (hD.cons _)⟩
theorem perm_bx {cs : List Value} (b : Nat) [h : BoxPick H b cs H'] : H.Perm ([bx b cs] ++ H') := h.perm
theorem hsub_all {c : Chunk} [h : Pick H c H'] : HSub ([c] ++ H') H := ⟨[], by simpa using h.perm.symm⟩
theorem hsub_perm {A D : List Chunk} (h : H.Perm (A ++ D)) : HSub (A ++ D) H := ⟨[], by simpa using h.symm⟩
theorem Cx_same {f : FuncId} {args : List Value} {Hp : List Chunk} {v : Value} (h : ∀ w, (∀ c ∈ Hp, c.holds w) → Calls P f args.toArray w fun e w' => e = .returned v ∧ w = w') : Cx P f args Hp KTrue (fun _ : Unit => v) (fun _ => Hp) (fun _ => KTrue) := by
  intro M w h1 h2 h3 h4
  refine (h w fun c hc => (h2 c hc).1).mono ?_
  rintro e w' ⟨rfl, rfl⟩
  exact ⟨(), M, rfl, Moves.refl _, fun _ h => h, fun _ h => .inl h, h1, fun c hc => ⟨(h2 c hc).1, fun b hb => ⟨(h2 c hc).2 b hb, .inl ⟨c, hc, hb⟩⟩⟩, h3, fun _ _ => trivial⟩
theorem pick_of_bx {cs : List Value} (b : Nat) [h : BoxPick H b cs H'] : Pick H (bx b cs) H' := ⟨h.perm⟩
theorem JL_keep {cs : List Value} (b : Nat) [hp : BoxPick H b cs H'] (hF : ∀ b, ¬ X.Fp b) (h : JL X P ops Q rest st H' (KAnd (KBox b cs) R)) : JL X P ops Q rest st H R := by
  have := pick_of_bx (cs := cs) (H := H) (H' := H') b
  exact JL_freeze (bx b cs) hF h
theorem JC_keep {c : Code} {cs : List Value} (b : Nat) [hp : BoxPick H b cs H'] (hF : ∀ b, ¬ X.Fp b) (h : JC X P c k st H' (KAnd (KBox b cs) R)) : JC X P c k st H R := by
  have := pick_of_bx (cs := cs) (H := H) (H' := H') b
  exact JC_freeze (bx b cs) hF h
/-- What a frozen slice is. -/
theorem JE_slice {α : Type} {enc : α → List Value} {z : Nat} [hz : Rec enc z] {e : Exit} {v : Value} {T n : Nat} {cs : List Value} (xs : List α) [hp0 : OwnAt H v T z n cs H'] (hF : ∀ b, ¬ X.Fp b) (hc : cs = xs.flatMap enc) (hn : n = xs.length)
    (h : ∀ a cap, v = .slice a n cap → JE X P e k st H' (KAnd (KSl a n cap enc xs) R)) : JE X P e k st H R := by
  have hp : Pick H (ow v T z n cs) H' := ⟨by obtain ⟨A, B, h1, h2⟩ := hp0.ex; subst h1 h2; exact List.perm_middle⟩
  refine JE_freeze (ow v T z n cs) hF ?_
  refine JE_pure (p := ∃ a cap, v = .slice a n cap) (fun w hw => by obtain ⟨a, cap, h1, _⟩ := ow_sl (enc := enc) hw.1 hc hn; exact ⟨a, cap, h1⟩) ?_
  rintro ⟨a, cap, rfl⟩
  intro ac w ho
  refine h a cap rfl ac w (ho.know fun w hw => ⟨?_, hw.2⟩)
  obtain ⟨a', cap', h1, h2⟩ := ow_sl (enc := enc) hw.1 hc hn
  cases h1; exact h2
theorem JC_slice {α : Type} {enc : α → List Value} {z : Nat} [hz : Rec enc z] {c : Code} {v : Value} {T n : Nat} {cs : List Value} (xs : List α) [hp0 : OwnAt H v T z n cs H'] (hF : ∀ b, ¬ X.Fp b) (hc : cs = xs.flatMap enc) (hn : n = xs.length)
    (h : ∀ a cap, v = .slice a n cap → JC X P c k st H' (KAnd (KSl a n cap enc xs) R)) : JC X P c k st H R := by
  have hp : Pick H (ow v T z n cs) H' := ⟨by obtain ⟨A, B, h1, h2⟩ := hp0.ex; subst h1 h2; exact List.perm_middle⟩
  refine JC_freeze (ow v T z n cs) hF ?_
  refine JC_pure (p := ∃ a cap, v = .slice a n cap) (fun w hw => by obtain ⟨a, cap, h1, _⟩ := ow_sl (enc := enc) hw.1 hc hn; exact ⟨a, cap, h1⟩) ?_
  rintro ⟨a, cap, rfl⟩
  intro ac w ho
  refine h a cap rfl ac w (ho.know fun w hw => ⟨?_, hw.2⟩)
  obtain ⟨a', cap', h1, h2⟩ := ow_sl (enc := enc) hw.1 hc hn
  cases h1; exact h2
theorem Cx_new {f : FuncId} {args : List Value} {pre : World → Prop} {α : Type} {ret : α → Value} {Hq : α → List Chunk} {post : α → World → Prop}
    (h : ∀ w, pre w → Calls P f args.toArray w fun e w' => ∃ x, e = .returned (ret x) ∧ Below w.heap.size w w' ∧ (∀ c ∈ Hq x, c.holds w' ∧ ∀ b, c.own b → w.heap.size ≤ b) ∧ ((Hq x).Pairwise fun c d => ∀ b, c.own b → ¬ d.own b) ∧
      ∀ w2, pre w2 → w'.heap.size ≤ w2.heap.size → (∀ b, w.heap.size ≤ b → b < w'.heap.size → (∀ c ∈ Hq x, ¬ c.own b) → w2.heap[b]? = w'.heap[b]?) → post x w2) : Cx P f args [] pre ret Hq post := by
  intro M w h1 h2 h3 h4
  refine (h w (h4 w (Moves.refl w))).mono ?_
  rintro e w' ⟨x, rfl, hb, hq, hd, hp⟩
  refine ⟨x, fun b => M b ∨ OwnOf (Hq x) b, rfl, Moves.of_below hb, fun _ h => .inl h, fun b hb' => hb'.imp id fun ⟨c, hc, hcb⟩ => (hq c hc).2 b hcb, fun b hb' => hb'.elim (fun h => Nat.lt_of_lt_of_le (h1 b h) hb.size) fun ⟨c, hc, hcb⟩ => (hq c hc).1.bd b hcb,
    fun c hc => ⟨(hq c hc).1, fun b hcb => ⟨.inr ⟨c, hc, hcb⟩, .inr ((hq c hc).2 b hcb)⟩⟩, hd, fun w2 hw => hp w2 (h4 w2 ?_) hw.size fun b hb1 hb2 hn => hw.block b hb2 fun hM => hM.elim (fun hM => by have := h1 b hM; omega) fun ⟨c, hc, hcb⟩ => hn c hc hcb⟩
  exact (Moves.of_below (Bs := M) hb).trans hw fun i hi h => h.elim id fun ⟨c, hc, hcb⟩ => by have := (hq c hc).2 i hcb; omega

theorem det_makeFuncE {fn : Fn} {first captured : List Operand} {us vs : List Value} (hu : evs st first = some us) (hv : evs st captured = some vs) :
    PDet P ⟨d, .makeFunc fn first.toArray captured.toArray, ty, pos, af, g⟩ st (.func fn us.toArray vs.toArray) := fun N a w hs => by
  simp [execOp, Instr.makeFunc, hs.evs hu, hs.evs hv]
theorem splice_norm : (∀ (cs : List Value) (o : Nat), splice cs o [] = cs) ∧ (∀ (cs : List Value) (o : Nat) (v : Value) (vs : List Value), splice cs o (v :: vs) = splice (cs.set o v) (o + 1) vs) ∧ (∀ (a v : Value) (l : List Value), (a :: l).set 0 v = v :: l) ∧ (∀ (a v : Value) (l : List Value) (n : Nat), (a :: l).set (n + 1) v = a :: l.set n v) ∧
    (∀ (l : List Value), l.take 0 = []) ∧ (∀ (a : Value) (l : List Value) (n : Nat), (a :: l).take (n + 1) = a :: l.take n) ∧ (∀ (l : List Value), l.drop 0 = l) ∧ (∀ (a : Value) (l : List Value) (n : Nat), (a :: l).drop (n + 1) = l.drop n) := by
  refine ⟨fun _ _ => rfl, fun _ _ _ _ => rfl, fun _ _ _ => rfl, fun _ _ _ _ => rfl, fun _ => rfl, fun _ _ _ => rfl, fun _ => rfl, fun _ _ _ => rfl⟩
theorem JA_is {H0 : List Chunk} {R0 : World → Prop} {ops : Array Oper} {tl : List Nat} {fuel : Nat} {listed : Array Bool} {d0 : Nat} {b : Bool} (c : Bool) (hb : look st d0 = some (.bool b)) (h : b = c) (ht : b = c → JA X P ops k tl H0 R0 fuel listed st H R) : JA X P ops k tl H0 R0 fuel listed st H R := ht h
theorem JL_is {ops : Array Oper} {Q : Exit → Act → World → Prop} {rest : List Oper} {d0 : Nat} {b : Bool} (c : Bool) (hb : look st d0 = some (.bool b)) (h : b = c) (ht : b = c → JL X P ops Q rest st H R) : JL X P ops Q rest st H R := ht h
theorem det_convI {x : Operand} {src dst : TypeId} {us : TypeDesc} {k q : IntKind} {n : Int} (hx : opnd st x = some (.int q n)) (hs : ∀ w, (underlying src).run P w = .ok us w) (hd : ∀ w, (underlying dst).run P w = .ok (.int k) w) (hw : k.wrap n = n) : PDet P ⟨d, .convert src dst x, ty, pos, af, g⟩ st (.int k n) := fun N a w hst => by
  simp [execOp, hst.eval hx, convert, Conv.intToInt, Sem.run_bind, Result.andThen, hs, hd, hw]
theorem det_rem {x y : Operand} {t t' : TypeId} {m n : Int} {q : IntKind} (hx : opnd st x = some (.int q m)) (hy : opnd st y = some (.int q n)) (h : n ≠ 0) : PDet P ⟨d, .binOp .rem t x y t', ty, pos, af, g⟩ st (.int q (m.tmod n)) := fun N a w hs => by
  simp [execOp, hs.eval hx, hs.eval hy, eqGuard, binOp, Op.intDiv, h]
theorem det_quo {x y : Operand} {t t' : TypeId} {m n : Int} (hx : opnd st x = some (.int .i64 m)) (hy : opnd st y = some (.int .i64 n)) (h : n ≠ 0) (hi : InI (m.tdiv n)) : PDet P ⟨d, .binOp .quo t x y t', ty, pos, af, g⟩ st (.int .i64 (m.tdiv n)) := fun N a w hs => by
  simp [execOp, hs.eval hx, hs.eval hy, eqGuard, binOp, Op.intDiv, h, i64_wrap hi]
theorem det_eqlB {x y : Operand} {t t' : TypeId} {m n : Bool} (hx : opnd st x = some (.bool m)) (hy : opnd st y = some (.bool n)) (hu : P.underlying t = some .bool) : PDet P ⟨d, .binOp .eql t x y t', ty, pos, af, g⟩ st (.bool (m == n)) := fun N a w hs => by
  simp [execOp, hs.eval hx, hs.eval hy, eqGuard, binOp, Op.equal, Op.maxDepth, run_equalIn_bool' w 9999 t m n hu]
theorem det_neqB {x y : Operand} {t t' : TypeId} {m n : Bool} (hx : opnd st x = some (.bool m)) (hy : opnd st y = some (.bool n)) (hu : P.underlying t = some .bool) : PDet P ⟨d, .binOp .neq t x y t', ty, pos, af, g⟩ st (.bool (m != n)) := fun N a w hs => by
  simp [execOp, hs.eval hx, hs.eval hy, eqGuard, binOp, Op.equal, Op.maxDepth, run_equalIn_bool' w 9999 t m n hu, bne]
theorem JA_sure {H0 : List Chunk} {R0 : World → Prop} {ops : Array Oper} {tl : List Nat} {fuel : Nat} {listed : Array Bool} {d0 : Nat} {b : Bool} (hb : look st d0 = some (.bool b)) (h : b = true) (ht : b = true → JA X P ops k tl H0 R0 fuel listed st H R) : JA X P ops k tl H0 R0 fuel listed st H R := ht h
theorem JL_sure {ops : Array Oper} {Q : Exit → Act → World → Prop} {rest : List Oper} {d0 : Nat} {b : Bool} (hb : look st d0 = some (.bool b)) (h : b = true) (ht : b = true → JL X P ops Q rest st H R) : JL X P ops Q rest st H R := ht h
theorem det_eqlA {x y : Operand} {t t' : TypeId} {xs ys : Array Value} {b : Bool} (hx : opnd st x = some (.agg xs)) (hy : opnd st y = some (.agg ys)) (hg : P.eqGuardType P.depth t = false) (he : ∀ w, (Op.equalIn 10000 t (.agg xs) (.agg ys)).run P w = .ok b w) :
    PDet P ⟨d, .binOp .eql t x y t', ty, pos, af, g⟩ st (.bool b) := fun N a w hs => by
  simp [execOp, hs.eval hx, hs.eval hy, run_eqGuard_agg _ _ _ _ _ _ _ hg, run_eql_struct, he]
theorem det_neqA {x y : Operand} {t t' : TypeId} {xs ys : Array Value} {b : Bool} (hx : opnd st x = some (.agg xs)) (hy : opnd st y = some (.agg ys)) (hg : P.eqGuardType P.depth t = false) (he : ∀ w, (Op.equalIn 10000 t (.agg xs) (.agg ys)).run P w = .ok b w) :
    PDet P ⟨d, .binOp .neq t x y t', ty, pos, af, g⟩ st (.bool (!b)) := fun N a w hs => by
  simp [execOp, hs.eval hx, hs.eval hy, run_eqGuard_agg _ _ _ _ _ _ _ hg, run_neq_struct, he]
/-- A slice of the call's own, by its block. -/
class RowAt (H : List Chunk) (b : Nat) (T z n cap : outParam Nat) (xs : outParam (List Value)) : Prop where
  mem : ow (.slice (some ⟨b, 0, none⟩) n cap) T z n xs ∈ H
instance (H : List Chunk) (b T z n cap : Nat) (xs : List Value) : RowAt (ow (.slice (some ⟨b, 0, none⟩) n cap) T z n xs :: H) b T z n cap xs := ⟨by simp⟩
instance (H : List Chunk) (b T z n cap : Nat) (xs : List Value) (c : Chunk) [h : RowAt H b T z n cap xs] : RowAt (c :: H) b T z n cap xs := ⟨List.mem_cons_of_mem _ h.mem⟩
instance (A B : List Chunk) (b T z n cap : Nat) (xs : List Value) [h : RowAt B b T z n cap xs] : RowAt (A ++ B) b T z n cap xs := ⟨List.mem_append.2 (.inr h.mem)⟩
instance (A B : List Chunk) (b T z n cap : Nat) (xs : List Value) [h : RowAt A b T z n cap xs] : RowAt (A ++ B) b T z n cap xs := ⟨List.mem_append.2 (.inl h.mem)⟩
theorem det_indexOwn {x ix : Operand} {t E b z n cap : Nat} {q : IntKind} {j : Int} {i : Nat} (hx : opnd st x = some (.slice (some ⟨b, 0, none⟩) n cap)) (hi : opnd st ix = some (.int q j)) (hj : j = (i : Int)) (hn : i < n)
    (hu : ∀ w, (underlying t).run P w = .ok (.slice E) w) (hS : ∀ w, (sizeOf E).run P w = .ok z w) : PDet P ⟨d, .indexAddr t x ix, ty, pos, af, g⟩ st (.pointer (some ⟨b, i * z, none⟩)) := fun N ac w hst => by
  subst hj
  have e2 : (0 : Int) ≤ (i : Int) ∧ (i : Int) < (n : Int) := by omega
  simp only [execOp, hst.eval hx, hst.eval hi, Instr.indexAt, asIntOf, Sem.run_bind, Sem.run_pure, Result.andThen_ok, hu]
  simp only [e2, and_self, if_true, Sem.run_bind, hS, Result.andThen_ok, Sem.run_pure, addr_add, Int.toNat_natCast, Nat.zero_add]
theorem owns_cell {w : World} {T z n cap b : Nat} {xs : List Value} (h : (ow (.slice (some ⟨b, 0, none⟩) n cap) T z n xs).holds w) {j : Nat} {u : Value} (hu : xs[j]? = some u) : w.cell? ⟨b, j, none⟩ = some u :=
  Row.cell (show Row w 0 T z b n cap xs from h.now) j hu
theorem det_loadOA {x : Operand} {t b off m T z n cap : Nat} {xs vs : List Value} (hx : opnd st x = some (.pointer (some ⟨b, off, none⟩))) [hb : RowAt H b T z n cap xs] (hA : ∀ w, (isAgg t).run P w = .ok true w) (hS : ∀ w, (sizeOf t).run P w = .ok m w) (hv : (xs.drop off).take m = vs) (hm' : vs.length = m) :
    Det X P ⟨d, .load t x, ty, pos, af, g⟩ st H R (.agg vs.toArray) := fun ac w M Ds hst hm => by
  have ho := hm.hold _ hb.mem
  have := run_loadCells (P := P) (w := w) ⟨b, off, none⟩ m (fun j => vs.getD j undef) (fun j hj => by
    have hj' : xs[off + j]? = some (vs.getD j undef) := by
      rw [← hv, List.getD_eq_getElem?_getD, List.getElem?_take_of_lt hj, List.getElem?_drop]
      have : off + j < xs.length := by
        have := congrArg List.length hv
        rw [List.length_take, List.length_drop, hm'] at this; omega
      rw [List.getElem?_eq_getElem this]; rfl
    rw [addr_add]; exact owns_cell ho hj')
  have e : (List.range m).map (fun j => vs.getD j undef) = vs := by
    apply List.ext_getElem
    · simp [hm']
    · intro i h1 h2; simp [List.getD_eq_getElem?_getD, h2]
  rw [e] at this
  simp [execOp, hst.eval hx, Instr.loadAt, Instr.sureAddr, loadVar, Sem.run_bind, hA, hS, Result.andThen, this]
theorem det_loadO {x : Operand} {t b off T z n cap : Nat} {xs : List Value} {v : Value} (hx : opnd st x = some (.pointer (some ⟨b, off, none⟩))) [hb : RowAt H b T z n cap xs] (hA : ∀ w, (isAgg t).run P w = .ok false w) (hv : xs[off]? = some v) :
    Det X P ⟨d, .load t x, ty, pos, af, g⟩ st H R v := fun ac w M Ds hst hm => by
  have ho := hm.hold _ hb.mem
  have := run_load (P := P) (w := w) ⟨b, off, none⟩ .plain
  simp [execOp, hst.eval hx, Instr.loadAt, Instr.sureAddr, loadVar, Sem.run_bind, hA, Result.andThen, owns_cell ho hv, this]
/-- 's[:k]' of a slice of the call's own. -/
theorem jo_sliceTo {x y : Operand} {t E T z n cap b : Nat} {xs : List Value} {q : IntKind} {j : Int} (m : Nat) (hx : opnd st x = some (.slice (some ⟨b, 0, none⟩) n cap)) (hy : opnd st y = some (.int q j)) (hj : j = (m : Int)) (hm : m ≤ n) [ho : OwnAt H (.slice (some ⟨b, 0, none⟩) n cap) T z n xs H']
    (hu : ∀ w, (underlying t).run P w = .ok (.slice E) w) (hS : ∀ w, (sizeOf E).run P w = .ok z w) (hk : 0 < z) (hcap : 0 < cap ∨ 0 < n) :
    JO X P ⟨d, .slice t x none (some y) none, ty, pos, af, g⟩ st H R (fun _ : Unit => .slice (some ⟨b, 0, none⟩) m cap) (fun _ => ow (.slice (some ⟨b, 0, none⟩) m cap) T z m (xs.take (m * z)) :: H') (fun _ => R) := by
  intro a w M Ds K Q hst hmm hK
  obtain ⟨A, B, e1, e2⟩ := ho.ex
  subst e1 e2
  have hm2 := hmm.perm (mid_perm A B _)
  have hown : w.ownsRow 0 T z (.slice (some ⟨b, 0, none⟩) n cap) n xs := (hmm.hold (ow (.slice (some ⟨b, 0, none⟩) n cap) T z n xs) (by simp)).now
  have hnc : n ≤ cap := by
    rcases hown.2 with ⟨h, _⟩ | ⟨g', cap', cur, hv, h3, h4, h5, _⟩
    · cases h
    · cases hv; exact h5
  have hnew : w.ownsRow 0 T z (.slice (some ⟨b, 0, none⟩) m cap) m (xs.take (m * z)) := by
    refine ⟨?_, ?_⟩
    · rw [List.length_take, hown.1]; exact Nat.min_eq_left (Nat.mul_le_mul_right z hm)
    · rcases hown.2 with ⟨h, _⟩ | ⟨g', cap', cur, hv, h3, h4, h5, h6, h7, h8⟩
      · cases h
      · cases hv
        refine .inr ⟨b, cap, cur, rfl, h3, h4, by omega, h6, h7, ?_⟩
        rw [← h8, List.take_take, Nat.min_eq_left (Nat.mul_le_mul_right z hm)]
  refine ⟨fun f _ => fof_fn _ f, ?_⟩
  rw [semAt_plain _ _ _ (by intro c h; cases h)]
  have e3 : (0 : Int) ≤ (m : Int) ∧ (m : Int) ≤ (cap : Int) := by omega
  have e4 : ¬ cap = 0 := by omega
  have e5 : m ≤ cap := by omega
  have hrun : (execOp a.eval ⟨d, .slice t x none (some y) none, ty, pos, af, g⟩).run P w = .ok (.value (.slice (some ⟨b, 0, none⟩) m cap)) w := by
    subst hj
    simp [execOp, hst.eval hx, hst.eval hy, Instr.sliceAt, Instr.slice, Instr.sliceBounds, Instr.sliceBound, asIntOf, Sem.run_bind, Sem.run_pure, Result.andThen, hu, hS, e3, e4, e5, Addr.add]
  rw [hrun]
  refine hK () w M ?_
  have := hm2.swap (C' := [ow (.slice (some ⟨b, 0, none⟩) m cap) T z m (xs.take (m * z))]) (R' := fun _ => True) M (Moves.refl w) (fun _ h => h) (fun _ h => .inl h) hmm.bd
    (by intro c hc; simp at hc; subst hc; exact ow_holds hnew)
    (by intro c hc x hx
        simp at hc; subst hc
        exact ⟨hm2.own (ow (.slice (some ⟨b, 0, none⟩) n cap) T z n xs) (by simp) x hx, .inl ⟨ow (.slice (some ⟨b, 0, none⟩) n cap) T z n xs, by simp, hx⟩⟩) (by simp) (fun _ _ => trivial)
  exact this.know fun w h => h.2

/-- A contract laid in the elder form, that only answers. -/
theorem Cv_of {f : FuncId} {args : List Value} {pre : World → Prop} {v : Value} (h : ∀ w, pre w → Calls P f args.toArray w fun e w' => e = .returned v ∧ Below w.heap.size w w') : Cv P f args pre v := by
  intro M w h1 h2 h3 h4
  refine (h w (h4 w (Moves.refl w))).mono ?_
  rintro e w' ⟨rfl, hb⟩
  exact ⟨(), M, rfl, (Moves.of_below hb), fun _ h => h, fun _ h => .inl h, fun b hb' => Nat.lt_of_lt_of_le (h1 b hb') hb.size, by simp, .nil, fun _ _ => trivial⟩
/-- .. with results of which something is known, that hangs on what was known and on new blocks. -/
theorem Cr_of {f : FuncId} {args : List Value} {pre : World → Prop} {α : Type} {ret : α → Value} {post : α → World → Prop}
    (h : ∀ w, pre w → Calls P f args.toArray w fun e w' => ∃ x, e = .returned (ret x) ∧ Below w.heap.size w w' ∧ ∀ w2, pre w2 → w'.heap.size ≤ w2.heap.size → (∀ b, w.heap.size ≤ b → b < w'.heap.size → w2.heap[b]? = w'.heap[b]?) → post x w2) : Cr P f args pre ret post := by
  intro M w h1 h2 h3 h4
  refine (h w (h4 w (Moves.refl w))).mono ?_
  rintro e w' ⟨x, rfl, hb, hp⟩
  refine ⟨x, M, rfl, (Moves.of_below hb), fun _ h => h, fun _ h => .inl h, fun b hb' => Nat.lt_of_lt_of_le (h1 b hb') hb.size, by simp, .nil, fun w2 hw => hp w2 (h4 w2 ?_) hw.size fun b hb1 hb2 => hw.block b hb2 fun hM => ?_⟩
  · exact (Moves.of_below (Bs := M) hb).trans hw fun _ _ h => h
  · have := h1 b hM; omega
end
end Go.Proofs.YthpkgabckklojaaGreat
