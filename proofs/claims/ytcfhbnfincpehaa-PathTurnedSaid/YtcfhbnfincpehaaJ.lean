/- Walks with the world out of sight: a state is what some slots hold, which blocks are the call's own and what stands in them, and what is known of all else. Nothing is asked. -/
import Derived.Test.YtcfhbnfincpehaaKitS
import Derived.Scope
namespace Go.Proofs.Ytcfhbnfincpehaa
open Go.RowKit Go.Shelf

abbrev Sto := List (Nat × Value)
/-- What a slot holds. -/
def look : Sto → Nat → Option Value
  | [], _ => none
  | (k, v) :: r, t => bif Nat.beq k t then some v else look r t
def opnd (st : Sto) : Operand → Option Value
  | .tmp t => look st t
  | .const v => some v
  | .global g => some (.pointer (some ⟨g, 0, none⟩))
  | .func f => some (.func (.func f) #[] #[])

/-- Two things known. -/
def KAnd (A B : World → Prop) : World → Prop := fun w => A w ∧ B w
class Knows (R F : World → Prop) : Prop where
  know : ∀ w, R w → F w
instance (F : World → Prop) : Knows F F := ⟨fun _ h => h⟩
instance (A B F : World → Prop) [h : Knows B F] : Knows (KAnd A B) F := ⟨fun w hw => h.know w hw.2⟩
instance (A B F : World → Prop) [h : Knows A F] : Knows (KAnd A B) F := ⟨fun w hw => h.know w hw.1⟩
instance (A B C : World → Prop) [h1 : Knows C A] [h2 : Knows C B] : Knows C (KAnd A B) := ⟨fun w hw => ⟨h1.know w hw, h2.know w hw⟩⟩
/-- Nothing known. -/
def KTrue : World → Prop := fun _ => True
instance (R : World → Prop) : Knows R KTrue := ⟨fun _ _ => trivial⟩

/-- A piece of memory of the call's own: its blocks, and what it says of the world. -/
structure Chunk where
  own : Nat → Prop
  says : World → Prop
structure Chunk.holds (c : Chunk) (w : World) : Prop where
  bd : ∀ b, c.own b → b < w.heap.size
  says : ∀ w', w.heap.size ≤ w'.heap.size → (∀ b, c.own b → w'.heap[b]? = w.heap[b]?) → c.says w'
theorem Chunk.holds.now {c : Chunk} {w : World} (h : c.holds w) : c.says w := h.says w (Nat.le_refl _) fun _ _ => rfl
theorem Chunk.holds.later {c : Chunk} {w w' : World} (h : c.holds w) (hz : w.heap.size ≤ w'.heap.size) (he : ∀ b, c.own b → w'.heap[b]? = w.heap[b]?) : c.holds w' :=
  ⟨fun b hb => Nat.lt_of_lt_of_le (h.bd b hb) hz, fun w2 h2 e2 => h.says w2 (Nat.le_trans hz h2) fun b hb => (e2 b hb).trans (he b hb)⟩

def bx (b : Nat) (cs : List Value) : Chunk := ⟨(· = b), fun w => Box w b cs⟩
def mp {κ ν : Type} (b : Nat) (ek : κ → Value) (ev : ν → Value) (m : κ → Option ν) : Chunk := ⟨(· = b), fun w => MapIs w b ek ev m⟩
def ow (v : Value) (T : TypeId) (z n : Nat) (xs : List Value) : Chunk := ⟨fun k => v.ownBlock = some k, fun w => w.ownsRow 0 T z v n xs⟩
theorem bx_holds {w : World} {b : Nat} {cs : List Value} (h : Box w b cs) : (bx b cs).holds w :=
  ⟨fun x hx => by cases hx; exact h.lt, fun w' _ he => by obtain ⟨T, h⟩ := h; exact ⟨T, (he b rfl).trans h⟩⟩
theorem mp_holds {κ ν : Type} {w : World} {b : Nat} {ek : κ → Value} {ev : ν → Value} {m : κ → Option ν} (h : MapIs w b ek ev m) : (mp b ek ev m).holds w :=
  ⟨fun x hx => by cases hx; exact h.lt, fun w' _ he => h.at_ (he b rfl)⟩
theorem ow_holds {w : World} {v : Value} {T : TypeId} {z n : Nat} {xs : List Value} (h : w.ownsRow 0 T z v n xs) : (ow v T z n xs).holds w := by
  refine ⟨fun x hx => (World.ownsRow.lt h x hx).2, fun w' _ he => ⟨h.1, ?_⟩⟩
  rcases h.2 with h2 | ⟨g, cap, cur, hv, h3, h4, h5⟩
  · exact .inl h2
  · exact .inr ⟨g, cap, cur, hv, h3, (he g (by show v.ownBlock = some g; rw [hv]; rfl)).trans h4, h5⟩

/-- What a call's walk never turns: its depth, its fence's round, how many slots there are, the world it began in, whose blocks it may write, and which were somebody's own. -/
structure Ctx where
  n : Nat
  ro : Option Nat
  N : Nat
  w0 : World
  Fp : Nat → Prop
  M0 : Nat → Prop
  nd : Bool := false
def Fof : Option Nat → Fence
  | none => Fence.wide
  | some l => Fence.wide.inRound l

structure Mem (X : Ctx) (M : Nat → Prop) (Ds : List Nat) (H : List Chunk) (R : World → Prop) (w : World) : Prop where
  bd : ∀ b, M b → b < w.heap.size
  hold : ∀ c ∈ H, c.holds w
  own : ∀ c ∈ H, ∀ b, c.own b → M b
  fp : ∀ c ∈ H, ∀ b, c.own b → X.Fp b ∨ X.w0.heap.size ≤ b
  dis : H.Pairwise fun c d => ∀ b, c.own b → ¬ d.own b
  keep : ∀ w', Moves M w w' → R w'
  mv : Moves X.Fp X.w0 w
  m0 : ∀ b, X.M0 b → M b
  m1 : ∀ b, M b → X.M0 b ∨ X.w0.heap.size ≤ b
  mks : MarksIn X.w0.heap.size w Ds
  mkM : ∀ D ∈ Ds, M D
  mkH : ∀ D ∈ Ds, ∀ c ∈ H, ¬ c.own D
  m2 : ∀ b, X.M0 b → b < X.w0.heap.size
  mk0 : X.nd = true → Ds = []
structure StOk (N : Nat) (st : Sto) (a : Act) : Prop where
  size : a.tmps.size = N
  get : ∀ t v, look st t = some v → a.tmps.getD t undef = v
structure Ok (X : Ctx) (st : Sto) (H : List Chunk) (R : World → Prop) (a : Act) (w : World) : Prop where
  st : StOk X.N st a
  mem : ∃ M Ds, a.defers = Ds.map Mark ∧ Mem X M Ds H R w

theorem StOk.eval {N : Nat} {st : Sto} {a : Act} (h : StOk N st a) {x : Operand} {v : Value} (hx : opnd st x = some v) : a.eval x = v := by
  cases x with
  | tmp t => exact h.get t v hx
  | const _ => cases hx; rfl
  | global _ => cases hx; rfl
  | func _ => cases hx; rfl
theorem beq_no {a b : Nat} (h : a ≠ b) : Nat.beq a b = false := by
  cases e : Nat.beq a b
  · rfl
  · exact absurd (Nat.eq_of_beq_eq_true e) h
theorem no_beq {a b : Nat} (h : Nat.beq a b = false) : a ≠ b := by
  rintro rfl; simp at h
theorem blt_lt {a b : Nat} (h : Nat.blt a b = true) : a < b := Nat.le_of_ble_eq_true h
theorem StOk.put {N : Nat} {st : Sto} {a : Act} (h : StOk N st a) {d : Nat} (hd : d < N) (v : Value) : StOk N ((d, v) :: st) (a.put (some d) v) := by
  refine ⟨by simp [Act.put, h.size], fun t u hu => ?_⟩
  simp only [look] at hu
  by_cases e : d = t
  · subst e
    rw [show Nat.beq d d = true from by simp] at hu
    simp only [cond_true, Option.some.injEq] at hu
    simp [Act.put, h.size, hd, hu]
  · rw [beq_no e] at hu
    simp only [cond_false] at hu
    rw [← h.get t u hu]
    simp [Act.put, e]
theorem StOk.put_none {N : Nat} {st : Sto} {a : Act} (h : StOk N st a) (v : Value) : StOk N st (a.put none v) := h
theorem Act.put_defers' (a : Act) (d : Option Tmp) (v : Value) : (a.put d v).defers = a.defers := by cases d <;> rfl

section mem
variable {X : Ctx} {M : Nat → Prop} {Ds : List Nat} {H C D C' : List Chunk} {R R' : World → Prop} {w w' : World}
theorem Mem.r (h : Mem X M Ds H R w) : R w := h.keep w (Moves.refl w)
theorem Mem.perm (h : Mem X M Ds H R w) (hp : H.Perm D) : Mem X M Ds D R w :=
  ⟨h.bd, fun c hc => h.hold c (hp.mem_iff.2 hc), fun c hc => h.own c (hp.mem_iff.2 hc), fun c hc => h.fp c (hp.mem_iff.2 hc),
   hp.pairwise h.dis (fun hs b hb hc => hs b hc hb), h.keep, h.mv, h.m0, h.m1, h.mks, h.mkM, fun x hx c hc => h.mkH x hx c (hp.mem_iff.2 hc), h.m2, h.mk0⟩
theorem Mem.drop (h : Mem X M Ds (C ++ D) R w) : Mem X M Ds D R w :=
  ⟨h.bd, fun c hc => h.hold c (List.mem_append.2 (.inr hc)), fun c hc => h.own c (List.mem_append.2 (.inr hc)), fun c hc => h.fp c (List.mem_append.2 (.inr hc)),
   (List.pairwise_append.1 h.dis).2.1, h.keep, h.mv, h.m0, h.m1, h.mks, h.mkM, fun x hx c hc => h.mkH x hx c (List.mem_append.2 (.inr hc)), h.m2, h.mk0⟩
theorem Mem.know (h : Mem X M Ds H R w) (hr : ∀ w, R w → R' w) : Mem X M Ds H R' w :=
  ⟨h.bd, h.hold, h.own, h.fp, h.dis, fun w' hw => hr w' (h.keep w' hw), h.mv, h.m0, h.m1, h.mks, h.mkM, h.mkH, h.m2, h.mk0⟩
/-- Some own pieces are taken, others handed back; all else lies as it lay. -/
theorem Mem.swap (h : Mem X M Ds (C ++ D) R w) (M' : Nat → Prop) (hmv : Moves (fun b => ∃ c ∈ C, c.own b) w w')
    (hM : ∀ b, M b → M' b) (hM' : ∀ b, M' b → M b ∨ w.heap.size ≤ b) (hbd : ∀ b, M' b → b < w'.heap.size)
    (hh : ∀ c ∈ C', c.holds w') (ho : ∀ c ∈ C', ∀ b, c.own b → M' b ∧ ((∃ c0 ∈ C, c0.own b) ∨ w.heap.size ≤ b)) (hd : C'.Pairwise fun c d => ∀ b, c.own b → ¬ d.own b)
    (hR' : ∀ w2, Moves M' w' w2 → R' w2) : Mem X M' Ds (C' ++ D) (fun w => R' w ∧ R w) w' := by
  have hcd := List.pairwise_append.1 h.dis
  have hCM : ∀ b, (∃ c ∈ C, c.own b) → M b := fun b ⟨c, hc, hb⟩ => h.own c (List.mem_append.2 (.inl hc)) b hb
  have hMw : Moves M w w' := hmv.weaken fun i _ hi => hCM i hi
  have hDk : ∀ c ∈ D, ∀ b, c.own b → w'.heap[b]? = w.heap[b]? := fun c hc b hb => hmv.block b ((h.hold c (List.mem_append.2 (.inr hc))).bd b hb) fun ⟨c0, hc0, hb0⟩ => hcd.2.2 c0 hc0 c hc b hb0 hb
  have hfp : ∀ b, ((∃ c0 ∈ C, c0.own b) ∨ w.heap.size ≤ b) → X.Fp b ∨ X.w0.heap.size ≤ b := by
    rintro b (⟨c0, hc0, hb0⟩ | hb)
    · exact h.fp c0 (List.mem_append.2 (.inl hc0)) b hb0
    · exact .inr (Nat.le_trans h.mv.size hb)
  refine ⟨hbd, fun c hc => ?_, fun c hc b hb => ?_, fun c hc b hb => ?_, ?_, fun w2 h2 => ⟨hR' w2 h2, h.keep w2 (hMw.trans h2 fun i hi hb => ?_)⟩, ?_, fun b hb => hM b (h.m0 b hb), fun b hb => ?_, ?_, fun x hx => hM x (h.mkM x hx), fun x hx c hc hb => ?_, h.m2, h.mk0⟩
  · rcases List.mem_append.1 hc with hc | hc
    · exact hh c hc
    · exact (h.hold c (List.mem_append.2 (.inr hc))).later hmv.size (hDk c hc)
  · rcases List.mem_append.1 hc with hc | hc
    · exact (ho c hc b hb).1
    · exact hM b (h.own c (List.mem_append.2 (.inr hc)) b hb)
  · rcases List.mem_append.1 hc with hc | hc
    · exact hfp b (ho c hc b hb).2
    · exact h.fp c (List.mem_append.2 (.inr hc)) b hb
  · refine List.pairwise_append.2 ⟨hd, hcd.2.1, fun c hc d hd' b hb hb' => ?_⟩
    have hlt := (h.hold d (List.mem_append.2 (.inr hd'))).bd b hb'
    rcases (ho c hc b hb).2 with ⟨c0, hc0, hb0⟩ | hb0
    · exact hcd.2.2 c0 hc0 d hd' b hb0 hb'
    · omega
  · exact (hM' i hb).resolve_right (by omega)
  · exact h.mv.trans hmv fun i hi ⟨c, hc, hb⟩ => (h.fp c (List.mem_append.2 (.inl hc)) i hb).resolve_right (by omega)
  · rcases hM' b hb with hb | hb
    · exact h.m1 b hb
    · exact .inr (Nat.le_trans h.mv.size hb)
  · exact h.mks.moves hmv fun x hx ⟨c, hc, hb⟩ => h.mkH x hx c (List.mem_append.2 (.inl hc)) hb
  · have hlt := h.bd x (h.mkM x hx)
    rcases List.mem_append.1 hc with hc | hc
    · rcases (ho c hc x hb).2 with ⟨c0, hc0, hb0⟩ | hb0
      · exact h.mkH x hx c0 (List.mem_append.2 (.inl hc0)) hb0
      · omega
    · exact h.mkH x hx c (List.mem_append.2 (.inr hc)) hb
end mem

/-! Finding a piece in the list, and turning it where it stands. -/
class BoxAt (H : List Chunk) (b : Nat) (cs : outParam (List Value)) : Prop where
  mem : bx b cs ∈ H
instance (H : List Chunk) (b : Nat) (cs : List Value) : BoxAt (bx b cs :: H) b cs := ⟨by simp⟩
instance (H : List Chunk) (b : Nat) (cs : List Value) (c : Chunk) [h : BoxAt H b cs] : BoxAt (c :: H) b cs := ⟨List.mem_cons_of_mem _ h.mem⟩
class BoxUpd (H : List Chunk) (b : Nat) (cs : List Value) (H' : outParam (List Chunk)) : Prop where
  ex : ∃ A B cs0, H = A ++ bx b cs0 :: B ∧ H' = A ++ bx b cs :: B
instance (H : List Chunk) (b : Nat) (cs0 cs : List Value) : BoxUpd (bx b cs0 :: H) b cs (bx b cs :: H) := ⟨[], H, cs0, rfl, rfl⟩
instance (H H' : List Chunk) (b : Nat) (cs : List Value) (c : Chunk) [h : BoxUpd H b cs H'] : BoxUpd (c :: H) b cs (c :: H') := by
  obtain ⟨A, B, cs0, h1, h2⟩ := h.ex
  exact ⟨c :: A, B, cs0, by rw [h1]; rfl, by rw [h2]; rfl⟩
class MapAt (H : List Chunk) (b : Nat) (κ ν : outParam Type) (ek : outParam (κ → Value)) (ev : outParam (ν → Value)) (m : outParam (κ → Option ν)) : Prop where
  mem : mp b ek ev m ∈ H
instance {κ ν : Type} (H : List Chunk) (b : Nat) (ek : κ → Value) (ev : ν → Value) (m : κ → Option ν) : MapAt (mp b ek ev m :: H) b κ ν ek ev m := ⟨by simp⟩
instance {κ ν : Type} (H : List Chunk) (b : Nat) (ek : κ → Value) (ev : ν → Value) (m : κ → Option ν) (c : Chunk) [h : MapAt H b κ ν ek ev m] : MapAt (c :: H) b κ ν ek ev m := ⟨List.mem_cons_of_mem _ h.mem⟩
class MapUpd {κ ν : Type} (H : List Chunk) (b : Nat) (ek : κ → Value) (ev : ν → Value) (m : κ → Option ν) (H' : outParam (List Chunk)) : Prop where
  ex : ∃ A B m0, H = A ++ mp b ek ev m0 :: B ∧ H' = A ++ mp b ek ev m :: B
instance {κ ν : Type} (H : List Chunk) (b : Nat) (ek : κ → Value) (ev : ν → Value) (m0 m : κ → Option ν) : MapUpd (mp b ek ev m0 :: H) b ek ev m (mp b ek ev m :: H) := ⟨[], H, m0, rfl, rfl⟩
instance {κ ν : Type} (H H' : List Chunk) (b : Nat) (ek : κ → Value) (ev : ν → Value) (m : κ → Option ν) (c : Chunk) [h : MapUpd H b ek ev m H'] : MapUpd (c :: H) b ek ev m (c :: H') := by
  obtain ⟨A, B, cs0, h1, h2⟩ := h.ex
  exact ⟨c :: A, B, cs0, by rw [h1]; rfl, by rw [h2]; rfl⟩
/-- An own slice is taken out of the list. -/
class OwnAt (H : List Chunk) (v : Value) (T z n : outParam Nat) (xs : outParam (List Value)) (H' : outParam (List Chunk)) : Prop where
  ex : ∃ A B, H = A ++ ow v T z n xs :: B ∧ H' = A ++ B
instance (H : List Chunk) (v : Value) (T z n : Nat) (xs : List Value) : OwnAt (ow v T z n xs :: H) v T z n xs H := ⟨[], H, rfl, rfl⟩
instance (H H' : List Chunk) (v : Value) (T z n : Nat) (xs : List Value) (c : Chunk) [h : OwnAt H v T z n xs H'] : OwnAt (c :: H) v T z n xs (c :: H') := by
  obtain ⟨A, B, h1, h2⟩ := h.ex
  exact ⟨c :: A, B, by rw [h1]; rfl, by rw [h2]; rfl⟩

instance (A B : List Chunk) (b : Nat) (cs : List Value) [h : BoxAt B b cs] : BoxAt (A ++ B) b cs := ⟨List.mem_append.2 (.inr h.mem)⟩
instance (A B : List Chunk) (b : Nat) (cs : List Value) [h : BoxAt A b cs] : BoxAt (A ++ B) b cs := ⟨List.mem_append.2 (.inl h.mem)⟩
instance (A B B' : List Chunk) (b : Nat) (cs : List Value) [h : BoxUpd B b cs B'] : BoxUpd (A ++ B) b cs (A ++ B') := by
  obtain ⟨C, D, cs0, h1, h2⟩ := h.ex
  exact ⟨A ++ C, D, cs0, by rw [h1, List.append_assoc], by rw [h2, List.append_assoc]⟩
instance (A A' B : List Chunk) (b : Nat) (cs : List Value) [h : BoxUpd A b cs A'] : BoxUpd (A ++ B) b cs (A' ++ B) := by
  obtain ⟨C, D, cs0, h1, h2⟩ := h.ex
  exact ⟨C, D ++ B, cs0, by rw [h1, List.append_assoc, List.cons_append], by rw [h2, List.append_assoc, List.cons_append]⟩
instance {κ ν : Type} (A B : List Chunk) (b : Nat) (ek : κ → Value) (ev : ν → Value) (m : κ → Option ν) [h : MapAt B b κ ν ek ev m] : MapAt (A ++ B) b κ ν ek ev m := ⟨List.mem_append.2 (.inr h.mem)⟩
instance {κ ν : Type} (A B : List Chunk) (b : Nat) (ek : κ → Value) (ev : ν → Value) (m : κ → Option ν) [h : MapAt A b κ ν ek ev m] : MapAt (A ++ B) b κ ν ek ev m := ⟨List.mem_append.2 (.inl h.mem)⟩
instance {κ ν : Type} (A B B' : List Chunk) (b : Nat) (ek : κ → Value) (ev : ν → Value) (m : κ → Option ν) [h : MapUpd B b ek ev m B'] : MapUpd (A ++ B) b ek ev m (A ++ B') := by
  obtain ⟨C, D, cs0, h1, h2⟩ := h.ex
  exact ⟨A ++ C, D, cs0, by rw [h1, List.append_assoc], by rw [h2, List.append_assoc]⟩
instance {κ ν : Type} (A A' B : List Chunk) (b : Nat) (ek : κ → Value) (ev : ν → Value) (m : κ → Option ν) [h : MapUpd A b ek ev m A'] : MapUpd (A ++ B) b ek ev m (A' ++ B) := by
  obtain ⟨C, D, cs0, h1, h2⟩ := h.ex
  exact ⟨C, D ++ B, cs0, by rw [h1, List.append_assoc, List.cons_append], by rw [h2, List.append_assoc, List.cons_append]⟩
instance (A B B' : List Chunk) (v : Value) (T z n : Nat) (xs : List Value) [h : OwnAt B v T z n xs B'] : OwnAt (A ++ B) v T z n xs (A ++ B') := by
  obtain ⟨C, D, h1, h2⟩ := h.ex
  exact ⟨A ++ C, D, by rw [h1, List.append_assoc], by rw [h2, List.append_assoc]⟩
instance (A A' B : List Chunk) (v : Value) (T z n : Nat) (xs : List Value) [h : OwnAt A v T z n xs A'] : OwnAt (A ++ B) v T z n xs (A' ++ B) := by
  obtain ⟨C, D, h1, h2⟩ := h.ex
  exact ⟨C, D ++ B, by rw [h1, List.append_assoc, List.cons_append], by rw [h2, List.append_assoc]⟩

theorem mid_perm {α : Type} (A B : List α) (c : α) : (A ++ c :: B).Perm ([c] ++ (A ++ B)) := List.perm_middle

section judge
variable (X : Ctx) (P : Program)
/-- One operation yields a value, and turns nothing. -/
def Det (o : Oper) (st : Sto) (H : List Chunk) (R : World → Prop) (v : Value) : Prop :=
  ∀ a w M Ds, StOk X.N st a → Mem X M Ds H R w → (execOp a.eval o).run P w = .ok (.value v) w
/-- It yields a value whatever memory holds. -/
def PDet (P : Program) (o : Oper) (st : Sto) (v : Value) : Prop := ∀ N a w, StOk N st a → (execOp a.eval o).run P w = .ok (.value v) w
/-- One operation, by what holds ahead of it and behind it. -/
def JO (o : Oper) (st : Sto) (H : List Chunk) (R : World → Prop) {α : Type} (v : α → Value) (H' : α → List Chunk) (R' : α → World → Prop) : Prop :=
  ∀ a w M Ds (K : Act → World → Prop) (Q : Exit → Act → World → Prop), StOk X.N st a → Mem X M Ds H R w → (∀ x w' M', Mem X M' Ds (H' x) (R' x) w' → K (a.put o.dst (v x)) w') → o.wpIn (Fof X.ro) X.n P a w K Q
def JL (ops : Array Oper) (Q : Exit → Act → World → Prop) (rest : List Oper) (st : Sto) (H : List Chunk) (R : World → Prop) : Prop :=
  ∀ a w, Ok X st H R a w → wpListIn (Fof X.ro) X.n P ops Q rest a w

/-- What is still to be done. -/
inductive Kont where
  | done (Q : Exit → Act → World → Prop)
  | seq (c : Code) (k : Kont)
  | block (id : Nat) (k : Kont)
  | thenP (K : Act → World → Prop) (k : Kont)
  | scope (k : Kont)
def kden : Kont → Exit → Act → World → Prop
  | .done Q => Q
  | .seq c k => Exit.then (c.wpIn (Fof X.ro) X.n P (kden k)) (kden k)
  | .block id k => Exit.inBlock id (kden k)
  | .thenP K k => Exit.then K (kden k)
  | .scope k => Exit.noGoto (kden k)
def JC (c : Code) (k : Kont) (st : Sto) (H : List Chunk) (R : World → Prop) : Prop := ∀ a w, Ok X st H R a w → c.wpIn (Fof X.ro) X.n P (kden X P k) a w
def JE (e : Exit) (k : Kont) (st : Sto) (H : List Chunk) (R : World → Prop) : Prop := ∀ a w, Ok X st H R a w → kden X P k e a w
end judge

section rules
variable {X : Ctx} {P : Program} {st : Sto} {H H' : List Chunk} {R R' : World → Prop} {k : Kont} {ops : Array Oper} {rest : List Oper} {Q : Exit → Act → World → Prop}
theorem JC_seq {c d : Code} (h : JC X P c (.seq d k) st H R) : JC X P (.seq c d) k st H R := fun a w ho => wpIn_seq (h a w ho)
theorem JE_seq {c : Code} (h : JC X P c k st H R) : JE X P .normal (.seq c k) st H R := fun a w ho => h a w ho
theorem JE_seq_ret {c : Code} (h : JE X P .ret k st H R) : JE X P .ret (.seq c k) st H R := fun a w ho => h a w ho
theorem JE_seq_exit {c : Code} {id : Nat} (h : JE X P (.exit id) k st H R) : JE X P (.exit id) (.seq c k) st H R := fun a w ho => h a w ho
theorem JE_then_ret {K : Act → World → Prop} (h : JE X P .ret k st H R) : JE X P .ret (.thenP K k) st H R := fun a w ho => h a w ho
theorem JE_then_exit {K : Act → World → Prop} {id : Nat} (h : JE X P (.exit id) k st H R) : JE X P (.exit id) (.thenP K k) st H R := fun a w ho => h a w ho
theorem JE_block {id : Nat} (h : JE X P .normal k st H R) : JE X P .normal (.block id k) st H R := fun a w ho => h a w ho
theorem JE_block_ret {id : Nat} (h : JE X P .ret k st H R) : JE X P .ret (.block id k) st H R := fun a w ho => h a w ho
theorem JE_block_here {id : Nat} (h : JE X P .normal k st H R) : JE X P (.exit id) (.block id k) st H R := fun a w ho => by
  show (if id = id then _ else _); rw [if_pos rfl]; exact h a w ho
theorem JE_block_on {id i : Nat} (hne : Nat.beq i id = false) (h : JE X P (.exit i) k st H R) : JE X P (.exit i) (.block id k) st H R := fun a w ho => by
  show (if i = id then _ else _); rw [if_neg (no_beq hne)]; exact h a w ho
theorem JC_scope {c : Code} (hro : X.ro = none) (h : JC X P c (.scope k) st H R) : JC X P (.scope c) k st H R := fun a w ho => by
  have h1 := h a w ho
  have hF : Fof X.ro = Fence.wide := by rw [hro]; rfl
  rw [hF] at h1 ⊢
  exact wpIn_wide.2 (wp_scope_straight (wpIn_wide.1 h1))
theorem JE_scope (h : JE X P .normal k st H R) : JE X P .normal (.scope k) st H R := fun a w ho => h a w ho
theorem JE_scope_ret (h : JE X P .ret k st H R) : JE X P .ret (.scope k) st H R := fun a w ho => h a w ho
theorem JE_scope_exit {id : Nat} (h : JE X P (.exit id) k st H R) : JE X P (.exit id) (.scope k) st H R := fun a w ho => h a w ho
theorem JC_label {l : Nat} (h : JE X P .normal k st H R) : JC X P (.label l) k st H R := fun a w ho => wpIn_label (h a w ho)
theorem JC_skip (h : JE X P .normal k st H R) : JC X P .skip k st H R := fun a w ho => wpIn_skip (h a w ho)
theorem JC_ret (h : JE X P .ret k st H R) : JC X P .ret k st H R := fun a w ho => wpIn_ret (h a w ho)
theorem JC_exit {id : Nat} (h : JE X P (.exit id) k st H R) : JC X P (.exit id) k st H R := fun a w ho => wpIn_exit (h a w ho)
theorem JC_block {id : Nat} {c : Code} (h : JC X P c (.block id k) st H R) : JC X P (.block id c) k st H R := fun a w ho => wpIn_block (h a w ho)
theorem JC_region {id : Nat} {l : List Oper} (h : JL X P l.toArray (kden X P k) l st H R) : JC X P (.region id l.toArray false) k st H R := fun a w ho => wpIn_region_lit (h a w ho)
theorem JL_nil (h : JE X P .normal k st H R) : JL X P ops (kden X P k) [] st H R := fun a w ho => wpListIn_nil (h a w ho)
theorem JC_cond {c : Operand} {x y : Code} {b : Bool} (hc : opnd st c = some (.bool b)) (ht : b = true → JC X P x k st H R) (hf : b = false → JC X P y k st H R) : JC X P (.cond c x y) k st H R :=
  fun a w ho => wpIn_cond_split (ho.st.eval hc) (fun e => ht e a w ho) (fun e => hf e a w ho)
theorem JC_if {c : Operand} {x y : Code} {p : Prop} [Decidable p] (hc : opnd st c = some (.bool (decide p))) (ht : p → JC X P x k st H R) (hf : ¬ p → JC X P y k st H R) : JC X P (.cond c x y) k st H R :=
  JC_cond hc (fun e => ht (of_decide_eq_true e)) (fun e => hf (of_decide_eq_false e))
theorem JC_ifn {c : Operand} {x y : Code} {p : Prop} [Decidable p] (hc : opnd st c = some (.bool (!decide p))) (ht : ¬ p → JC X P x k st H R) (hf : p → JC X P y k st H R) : JC X P (.cond c x y) k st H R :=
  JC_cond hc (fun e => ht (by simpa using e)) (fun e => hf (by simpa using e))

/-- What is known may be forgotten, or said otherwise. -/
theorem Ok.know {a : Act} {w : World} (h : Ok X st H R a w) (hr : ∀ w, R w → R' w) : Ok X st H R' a w := by
  obtain ⟨h1, M, Ds, h2, h3⟩ := h; exact ⟨h1, M, Ds, h2, h3.know hr⟩
theorem Ok.r {a : Act} {w : World} (h : Ok X st H R a w) : R w := by obtain ⟨h1, M, Ds, h2, h3⟩ := h; exact h3.r
theorem JC_pure {c : Code} {p : Prop} (hp : ∀ w, R w → p) (h : p → JC X P c k st H R) : JC X P c k st H R := fun a w ho => h (hp w ho.r) a w ho
theorem JL_pure {p : Prop} (hp : ∀ w, R w → p) (h : p → JL X P ops Q rest st H R) : JL X P ops Q rest st H R := fun a w ho => h (hp w ho.r) a w ho
theorem JE_pure {e : Exit} {p : Prop} (hp : ∀ w, R w → p) (h : p → JE X P e k st H R) : JE X P e k st H R := fun a w ho => h (hp w ho.r) a w ho
theorem JC_know {c : Code} (hr : ∀ w, R w → R' w) (h : JC X P c k st H R') : JC X P c k st H R := fun a w ho => h a w (ho.know hr)
theorem JL_know (hr : ∀ w, R w → R' w) (h : JL X P ops Q rest st H R') : JL X P ops Q rest st H R := fun a w ho => h a w (ho.know hr)

theorem semAt_plain (ro : Option Nat) (ρ : Operand → Value) (o : Oper) (h : ∀ c, o.op ≠ .defer c) : Oper.semAt (Fof ro).round ρ o = execOp ρ o := by
  cases ro with
  | none => rfl
  | some l => exact Oper.semAt_some l ρ o h
theorem fof_fn (ro : Option Nat) (f : FuncId) : (Fof ro).fn f := by cases ro <;> trivial
theorem fof_depth (ro : Option Nat) : (Fof ro).depth.isSome = true → 1 ≤ X.n := by cases ro <;> (intro h; cases h)
theorem fof_calls {ro : Option Nat} {n : Nat} {f : FuncId} {args : Array Value} {w : World} {R : Ending → World → Prop} (h : Calls P f args w R) : CallsIn (Fof ro) n P f args w R := by
  cases ro with
  | none => exact callsIn_wide.2 h
  | some l => exact CallsIn.inRound l (callsIn_wide.2 h)
theorem Det.jo {o : Oper} {v : Value} (h : Det X P o st H R v) (hd : ∀ c, o.op ≠ .defer c) : JO X P o st H R (fun _ : Unit => v) (fun _ => H) (fun _ => R) := by
  intro a w M Ds K Q hs hm hK
  refine ⟨fun f _ => fof_fn _ f, ?_⟩
  rw [semAt_plain _ _ _ hd, h a w M Ds hs hm]
  exact hK () w M hm

theorem PDet.det {o : Oper} {v : Value} (h : PDet P o st v) : Det X P o st H R v := fun a w _ _ hs _ => h _ a w hs
theorem JL_step {o : Oper} {d : Nat} {α : Type} {v : α → Value} {Hx : α → List Chunk} {Rx : α → World → Prop} (hg : o.guard = none) (hd : o.dst = some d) (hN : Nat.blt d X.N = true)
    (h : JO X P o st H R v Hx Rx) (hr : ∀ x, JL X P ops Q rest ((d, v x) :: st) (Hx x) (Rx x)) : JL X P ops Q (o :: rest) st H R := by
  intro a w ⟨hs, M, Ds, h1, hm⟩
  refine wpListIn_plain hg fun K hK => h a w M Ds K Q hs hm fun x w' M' hm' => hK _ _ (hr x _ _ ⟨?_, M', Ds, ?_, hm'⟩)
  · rw [hd]; exact hs.put (blt_lt hN) _
  · rw [hd]; exact h1
theorem JL_step0 {o : Oper} {α : Type} {v : α → Value} {Hx : α → List Chunk} {Rx : α → World → Prop} (hg : o.guard = none) (hd : o.dst = none)
    (h : JO X P o st H R v Hx Rx) (hr : ∀ x, JL X P ops Q rest st (Hx x) (Rx x)) : JL X P ops Q (o :: rest) st H R := by
  intro a w ⟨hs, M, Ds, h1, hm⟩
  refine wpListIn_plain hg fun K hK => h a w M Ds K Q hs hm fun x w' M' hm' => hK _ _ (hr x _ _ ⟨?_, M', Ds, ?_, hm'⟩)
  · rw [hd]; exact hs
  · rw [hd]; exact h1
theorem JL_det {d : Nat} {op : Op} {ty : TypeId} {pos : String} {af : Array Edge} {v : Value} (hN : Nat.blt d X.N = true) (hnd : ∀ c, op ≠ .defer c)
    (h : Det X P ⟨some d, op, ty, pos, af, none⟩ st H R v) (hr : JL X P ops Q rest ((d, v) :: st) H R) : JL X P ops Q (⟨some d, op, ty, pos, af, none⟩ :: rest) st H R :=
  JL_step rfl rfl hN (h.jo hnd) fun _ => hr

theorem JL_pd {d : Nat} {op : Op} {ty : TypeId} {pos : String} {af : Array Edge} {v : Value} (hN : Nat.blt d X.N = true)
    (h : PDet P ⟨some d, op, ty, pos, af, none⟩ st v) (hr : JL X P ops Q rest ((d, v) :: st) H R) (hnd : (match op with | .defer _ => false | _ => true) = true := by rfl) : JL X P ops Q (⟨some d, op, ty, pos, af, none⟩ :: rest) st H R :=
  JL_step rfl rfl hN (h.det.jo (by intro c e; cases (show op = _ from e); cases hnd)) fun _ => hr
theorem JL_dt {d : Nat} {op : Op} {ty : TypeId} {pos : String} {af : Array Edge} {v : Value} (hN : Nat.blt d X.N = true)
    (h : Det X P ⟨some d, op, ty, pos, af, none⟩ st H R v) (hr : JL X P ops Q rest ((d, v) :: st) H R) (hnd : (match op with | .defer _ => false | _ => true) = true := by rfl) : JL X P ops Q (⟨some d, op, ty, pos, af, none⟩ :: rest) st H R :=
  JL_step rfl rfl hN (h.jo (by intro c e; cases (show op = _ from e); cases hnd)) fun _ => hr
end rules
end Go.Proofs.Ytcfhbnfincpehaa
