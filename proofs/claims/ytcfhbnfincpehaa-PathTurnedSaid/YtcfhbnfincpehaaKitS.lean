/- Rows that the call makes and appends to. Nothing is asked. -/
import Derived.Test.YtcfhbnfincpehaaKitR
import Derived.Deep.AppendLies
namespace Go.Proofs.Ytcfhbnfincpehaa
open Go.RowKit Go.Shelf

theorem ex_arrow {α : Type} {p : α → Prop} {b : Prop} (h : ∀ x, p x → b) : (∃ x, p x) → b := fun ⟨x, hx⟩ => h x hx
/-- The walk stops here. -/
def Stopped (p : Prop) : Prop := p
theorem Stopped.mk {p : Prop} (h : Stopped p) : p := h
/-- A slice that the call owns, from its row's head on: n elements of z cells each. -/
def Row (w : World) (B : Nat) (T : TypeId) (z : Nat) (g n cap : Nat) (cs : List Value) : Prop := w.ownsRow B T z (.slice (some ⟨g, 0, none⟩) n cap) n cs
theorem Row.lt {w : World} {B : Nat} {T : TypeId} {z g n cap : Nat} {cs : List Value} (h : Row w B T z g n cap cs) : g < w.heap.size := (World.ownsRow.lt h g rfl).2
theorem Row.ge {w : World} {B : Nat} {T : TypeId} {z g n cap : Nat} {cs : List Value} (h : Row w B T z g n cap cs) : B ≤ g := (World.ownsRow.lt h g rfl).1
theorem Row.len {w : World} {B : Nat} {T : TypeId} {z g n cap : Nat} {cs : List Value} (h : Row w B T z g n cap cs) : cs.length = n * z := h.1
theorem Row.at_ {w w' : World} {B : Nat} {T : TypeId} {z g n cap : Nat} {cs : List Value} (h : Row w B T z g n cap cs) (e : w'.heap[g]? = w.heap[g]?) : Row w' B T z g n cap cs := by
  refine ⟨h.1, .inr ?_⟩
  rcases h.2 with ⟨h2, _⟩ | ⟨g', cap', cur, hv, h3, h4, h5⟩
  · cases h2
  · cases hv; exact ⟨g, cap, cur, rfl, h3, e.trans h4, h5⟩
theorem Row.cell {w : World} {B : Nat} {T : TypeId} {z g n cap : Nat} {cs : List Value} (h : Row w B T z g n cap cs) (j : Nat) {u : Value} (hu : cs[j]? = some u) : w.cell? ⟨g, j, none⟩ = some u := by
  have hj := (List.getElem?_eq_some_iff.1 hu).1
  rw [h.len] at hj
  exact (World.ownsRow.cellAt h j hj).trans hu
theorem Row.free {w : World} {B : Nat} {T : TypeId} {z g n cap : Nat} {cs : List Value} (h : Row w B T z g n cap cs) (j : Nat) : w.frozen? ⟨g, j, none⟩ = false := World.ownsRow.frozenAt h j
theorem Row.kind {w : World} {B : Nat} {T : TypeId} {z g n cap : Nat} {cs : List Value} (h : Row w B T z g n cap cs) : ∃ cur, w.heap[g]? = some (.cells cur T (0, 0)) := by
  rcases h.2 with ⟨h2, _⟩ | ⟨g', cap', cur, hv, h3, h4, h5⟩
  · cases h2
  · cases hv; exact ⟨cur, h4⟩
theorem Row.later {w w' : World} {B : Nat} {T : TypeId} {z g n cap : Nat} {cs : List Value} (h : Row w B T z g n cap cs) (hb : Below w.heap.size w w') : Row w' B T z g n cap cs := h.at_ (hb.block g h.lt)
theorem Row.moves {Bs : Nat → Prop} {w w' : World} {B : Nat} {T : TypeId} {z g n cap : Nat} {cs : List Value} (h : Row w B T z g n cap cs) (hb : Moves Bs w w') (hn : ¬ Bs g) : Row w' B T z g n cap cs := h.at_ (hb.block g h.lt hn)
theorem Row.alloc {w : World} {B : Nat} {T : TypeId} {z g n cap : Nat} {cs : List Value} (h : Row w B T z g n cap cs) (o : Obj) : Row (w.alloc o) B T z g n cap cs := h.later ((Below.refl _ _).alloc (Nat.le_refl _) _)
theorem Row.wiped {w w' : World} {B B0 : Nat} {T : TypeId} {z g n cap : Nat} {cs : List Value} (h : Row w B T z g n cap cs) (hw : Wiped B0 w w') : Row w' B T z g n cap cs := by
  obtain ⟨cur, hk⟩ := h.kind
  exact h.at_ (hw.same g (.inr fun x e => by rw [hk] at e; cases e))
theorem Row.low {w : World} {B B' : Nat} {T : TypeId} {z g n cap : Nat} {cs : List Value} (h : Row w B T z g n cap cs) (hB : B' ≤ g) : Row w B' T z g n cap cs := by
  refine ⟨h.1, .inr ?_⟩
  rcases h.2 with ⟨h2, _⟩ | ⟨g', cap', cur, hv, h3, h4, h5⟩
  · cases h2
  · cases hv; exact ⟨g, cap, cur, rfl, hB, h4, h5⟩
/-- A map's block is no row's. -/
theorem Row.no_map {w : World} {B : Nat} {T : TypeId} {z g n cap : Nat} {cs : List Value} (h : Row w B T z g n cap cs) {κ ν : Type} {b : Nat} {ek : κ → Value} {ev : ν → Value} {m : κ → Option ν} (hm : MapIs w b ek ev m) : b ≠ g := by
  rintro rfl
  obtain ⟨cur, hk⟩ := h.kind
  obtain ⟨es, clock, hb, _⟩ := hm
  rw [hk] at hb; cases hb

theorem MapIs.no_box {w : World} {b c : Nat} {cs : List Value} {κ ν : Type} {ek : κ → Value} {ev : ν → Value} {m : κ → Option ν} (hm : MapIs w b ek ev m) (hx : Box w c cs) : b ≠ c := by
  rintro rfl
  obtain ⟨T, hk⟩ := hx
  obtain ⟨es, clock, hb, _⟩ := hm
  rw [hk] at hb; cases hb
theorem MarksIn.no_row {w : World} {B B0 : Nat} {T : TypeId} {z g n cap : Nat} {cs : List Value} {Ds : List Nat} (hm : MarksIn B0 w Ds) (h : Row w B T z g n cap cs) : ∀ D ∈ Ds, D ≠ g := by
  rintro D hD rfl
  obtain ⟨cur, hk⟩ := h.kind
  have := (hm.2 D hD).2
  rw [hk] at this; cases this
theorem MarksIn.no_box {w : World} {B0 c : Nat} {cs : List Value} {Ds : List Nat} (hm : MarksIn B0 w Ds) (h : Box w c cs) : ∀ D ∈ Ds, D ≠ c := by
  rintro D hD rfl
  obtain ⟨T, hk⟩ := h
  have := (hm.2 D hD).2
  rw [hk] at this; cases this
theorem MarksIn.no_map {w : World} {B0 b : Nat} {Ds : List Nat} (hm : MarksIn B0 w Ds) {κ ν : Type} {ek : κ → Value} {ev : ν → Value} {m : κ → Option ν} (h : MapIs w b ek ev m) : ∀ D ∈ Ds, D ≠ b := by
  rintro D hD rfl
  obtain ⟨es, clock, hb, _⟩ := h
  have := (hm.2 D hD).2
  rw [hb] at this; cases this
theorem own_box {β : Type} {B b : Nat} {cs : List Value} : OwnFrom B (fun (_ : β) W => Box W b cs) := by
  rintro s W W' row ⟨T, h⟩ hg hr
  refine ⟨T, (hg.block b (Array.getElem?_eq_some_iff.1 h).1 ?_).trans h⟩
  intro e
  obtain ⟨_, o, ho, hc⟩ := hr b e.symm
  rw [h] at ho; cases ho; simp [Obj.isCells] at hc
theorem zip_two (p q : Tmp) (x y : Value) (t : Array Value) : (Array.zip (#[p, q] : Array Tmp) #[x, y]).foldl (fun t (p, v) => t.setIfInBounds p v) t = (t.setIfInBounds p x).setIfInBounds q y := by simp
theorem zip_one (p : Tmp) (x : Value) (t : Array Value) : (Array.zip (#[p] : Array Tmp) #[x]).foldl (fun t (p, v) => t.setIfInBounds p v) t = t.setIfInBounds p x := by simp
theorem owns_moves {Bs : Nat → Prop} {w w' : World} {B : Nat} {T : TypeId} {z n : Nat} {v : Value} {cs : List Value} (h : w.ownsRow B T z v n cs) (hm : Moves Bs w w') (hn : ∀ k, v.ownBlock = some k → ¬ Bs k) : w'.ownsRow B T z v n cs := by
  refine ⟨h.1, h.2.imp id ?_⟩
  rintro ⟨g, cap, cur, hv, hb, hg, rest⟩
  exact ⟨g, cap, cur, hv, hb, (hm.block g (Array.getElem?_eq_some_iff.1 hg).1 (hn g (by rw [hv]; rfl))).trans hg, rest⟩
theorem owns_ge {w : World} {B : Nat} {T : TypeId} {z n : Nat} {v : Value} {cs : List Value} (h : w.ownsRow B T z v n cs) : ∀ k, v.ownBlock = some k → B ≤ k ∧ k < w.heap.size := World.ownsRow.lt h
/-- The element type of a slice type. -/
structure ElemOf (P : Program) (t e : TypeId) (size bytes : Nat) : Prop where
  ht : P.underlying t = some (.slice e)
  ex : ∃ i z, P.info? e = some i ∧ i.zero = some z ∧ i.size = size ∧ i.bytes = bytes ∧ z.cells.size = size
  pos : 0 < size
  small : bytes ≤ 4096
theorem ElemOf.mk' {P : Program} {t e : TypeId} {size bytes : Nat} {z : Value} (ht : P.underlying t = some (.slice e)) (h : (P.info? e).map (fun i => (i.zero, i.size, i.bytes)) = some (some z, size, bytes)) (hz : z.cells.size = size) (pos : 0 < size) (small : bytes ≤ 4096) : ElemOf P t e size bytes := by
  obtain ⟨i, h1, h2, h3, h4⟩ := info_parts h
  exact ⟨ht, ⟨i, z, h1, h2, h3, h4, hz⟩, pos, small⟩

section
variable {P : Program} {w : World} {ops : Array Oper} {rest : List Oper} {o : Oper} {a : Act} {Q : Exit → Act → World → Prop}
theorem wpList_appendR (hgd : o.guard = none) (s x : Operand) (t : TypeId) (ho : o.op = .call { callee := .builtin .append, args := #[s, x], argTypes := #[t, t] }) (e : TypeId) (size bytes : Nat) (E : ElemOf P t e size bytes)
    (base : Nat) (v : Value) (n : Nat) (xs : List Value) (hs : a.eval s = v) (hown : w.ownsRow base e size v n xs) (b c : Nat) (news : List Value) (hx : a.eval x = .slice (some ⟨b, 0, none⟩) 1 c) (hl : news.length = size)
    (hb : Box w b news) (h1 : ∀ u ∈ news, u.oneCell' = true) (hn : n ≤ 1000000) (hbase : base ≤ w.heap.size)
    (h : ∀ g cap w', Row w' base e size g (n + 1) cap (xs ++ news) → Moves (fun k => v.ownBlock = some k) w w' → (v.ownBlock = some g ∨ w.heap.size ≤ g) → w.heap.size ≤ w'.heap.size → wpList P ops Q rest (a.put o.dst (.slice (some ⟨g, 0, none⟩) (n + 1) cap)) w') : wpList P ops Q (o :: rest) a w := by
  obtain ⟨i, z, i1, i2, i3, i4, i5⟩ := E.ex
  have hsm := E.small
  refine wpList_append_lies w hgd s x t ho base e i z size bytes E.ht i1 i2 i3 i4 i5 E.pos v n xs hs hown ⟨b, 0, none⟩ 1 c news hx (by omega) (fun j u hu => ?_) h1 (by omega) (by have : maxLen = 9223372036854775807 := rfl; omega) ?_ hbase _ rfl ?_
  · have := hb.cell j hu; rcases j with _ | j <;> simpa [Addr.add] using this
  · have : (n + 1) * bytes ≤ 1000001 * 4096 := Nat.mul_le_mul (by omega) hsm
    omega
  · intro g cap w' h2 h3 h4 h5
    exact h g cap w' h2 ⟨h3.os, h3.tape, h3.output, h3.size, fun k hk hn' => h3.block k hk (fun e => hn' e.symm)⟩ (h4.imp id (fun e => by omega)) h3.size
end
end Go.Proofs.Ytcfhbnfincpehaa
