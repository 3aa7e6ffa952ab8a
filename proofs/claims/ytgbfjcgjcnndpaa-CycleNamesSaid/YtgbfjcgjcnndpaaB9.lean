/- Own texts, laid together: J20 J21 J22 J23 J24 J25. Nothing is asked. -/
import Derived.Test.YtgbfjcgjcnndpaaB3
set_option linter.unusedSimpArgs false
set_option linter.unusedVariables false
/- Drawn regions in which only what is known is read; the beginning of a known slice. Nothing is asked. -/
namespace Go.Proofs.Ytgbfjcgjcnndpaa
open Go.RowKit Go.Shelf
section
variable {X : Ctx} {P : Program} {st : Sto} {H : List Chunk} {R : World → Prop} {k : Kont}
theorem JC_draw0 {id : Nat} {l : List Oper} (hm : P.follows .mixedOrders = true) (h : JA X P l.toArray k [] [] R l.length (Array.replicate l.length false) st H R) : JC X P (.region id l.toArray true) k st H R := by
  intro a w ho
  refine wpIn_mono (Q' := kden X P k) (wpIn_region_any (Q := NoPan (kden X P k)) hm ?_) (fun e a w hq => by cases e <;> first | exact hq | exact hq.elim)
  have := wpAnyIn_of_HI _ _ _ _ (h ⟨hsub_nil, fun _ h => h⟩ a _ ho.drawn)
  simpa using this
variable {d : Option Nat} {ty : TypeId} {pos : String} {af : Array Edge} {g : Option (Nat × Bool)}
theorem det_sliceK {x y : Operand} {t E n cap z : Nat} {a : Option Addr} {q : IntKind} {j : Int} (m : Nat) (hx : opnd st x = some (.slice a n cap)) (hy : opnd st y = some (.int q j)) (hj : j = (m : Int)) (hm : m ≤ cap)
    (hu : ∀ w, (underlying t).run P w = .ok (.slice E) w) (hS : ∀ w, (sizeOf E).run P w = .ok z w) : PDet P ⟨d, .slice t x none (some y) none, ty, pos, af, g⟩ st (.slice a m cap) := fun N ac w hst => by
  subst hj
  have e3 : (0 : Int) ≤ (m : Int) ∧ (m : Int) ≤ (cap : Int) := by omega
  have e0 : ∀ p : Addr, p.add 0 = p := fun p => by cases p; simp [Addr.add]
  have e6 : (if cap = 0 then a else a.map (·.add 0)) = a := by
    split
    · rfl
    · cases a with
      | none => rfl
      | some p => simp [e0]
  simp [execOp, hst.eval hx, hst.eval hy, Instr.sliceAt, Instr.slice, Instr.sliceBounds, Instr.sliceBound, asIntOf, Sem.run_bind, Sem.run_pure, Result.andThen, hu, hS, hm, e6, e3]
theorem KSl_take {α : Type} {enc : α → List Value} {z : Nat} [hz : Rec enc z] {a : Option Addr} {n cap : Nat} {xs : List α} {w : World} (h : KSl a n cap enc xs w) {m : Nat} (hm : m ≤ n) : KSl a m cap enc (xs.take m) w := by
  obtain ⟨⟨h1, h2, h3, h4⟩, h5⟩ := h
  have hfl : (xs.take m).flatMap enc = (xs.flatMap enc).take (m * z) := by
    have e : xs.flatMap enc = (xs.take m).flatMap enc ++ (xs.drop m).flatMap enc := by rw [← List.flatMap_append, List.take_append_drop]
    have hl : ((xs.take m).flatMap enc).length = m * z := by rw [flatMap_len enc z hz.len, List.length_take]; congr 1; omega
    rw [e, List.take_append_of_le_length (Nat.le_of_eq hl.symm), List.take_of_length_le (Nat.le_of_eq hl)]
  refine ⟨⟨by omega, by omega, fun ha => ?_, fun hne => ?_⟩, by rw [List.length_take]; omega⟩
  · have := h3 ha; omega
  · have hne2 : xs.flatMap enc ≠ [] := fun e => hne (by rw [hfl, e]; simp)
    obtain ⟨b, off, q1, q2, q3⟩ := h4 hne2
    refine ⟨b, off, q1, q2, fun i c hi => q3 i c ?_⟩
    rw [hfl, List.getElem?_take] at hi
    split at hi
    · exact hi
    · cases hi
end
end Go.Proofs.Ytgbfjcgjcnndpaa

/- Shifts; numbers without a sign. Nothing is asked. -/
namespace Go.Proofs.Ytgbfjcgjcnndpaa
open Go.RowKit Go.Shelf
section
variable {P : Program} {st : Sto} {d : Option Nat} {ty : TypeId} {pos : String} {af : Array Edge} {g : Option (Nat × Bool)}
theorem det_shr {x y : Operand} {t t' : TypeId} {m j : Int} {k q : IntKind} (hx : opnd st x = some (.int k m)) (hy : opnd st y = some (.int q j)) (h : 0 ≤ j) : PDet P ⟨d, .binOp .shr t x y t', ty, pos, af, g⟩ st (.int k (m.fdiv (2 ^ min j.toNat k.bits))) := fun N a w hs => by
  have h2 : ¬ j < 0 := by omega
  simp [execOp, hs.eval hx, hs.eval hy, eqGuard, binOp, Op.shift, h2]
theorem det_shl {x y : Operand} {t t' : TypeId} {m j : Int} {q : IntKind} (hx : opnd st x = some (.int .i64 m)) (hy : opnd st y = some (.int q j)) (h : 0 ≤ j) (hi : InI (m * 2 ^ min j.toNat 64)) : PDet P ⟨d, .binOp .shl t x y t', ty, pos, af, g⟩ st (.int .i64 (m * 2 ^ min j.toNat 64)) := fun N a w hs => by
  have h2 : ¬ j < 0 := by omega
  have hb : IntKind.i64.bits = 64 := rfl
  simp [execOp, hs.eval hx, hs.eval hy, eqGuard, binOp, Op.shift, h2, hb, i64_wrap hi]
end
theorem u64_wrap {n : Int} (h : 0 ≤ n ∧ n ≤ 18446744073709551615) : IntKind.u64.wrap n = n := by
  simp [IntKind.wrap, IntKind.bits, IntKind.signed]; omega
end Go.Proofs.Ytgbfjcgjcnndpaa

/- A cut of a part that is not followed by another one in its own place. Nothing is asked. -/
namespace Go.Proofs.Ytgbfjcgjcnndpaa
open Go.RowKit Go.Shelf
section
variable {X : Ctx} {P : Program} {st : Sto} {H : List Chunk} {R : World → Prop} {k : Kont}
theorem JC_cutE {γ : Type} {c : Code} (I : γ → Prop) (ov : γ → Sto) (Hv : γ → List Chunk) (Kn : γ → World → Prop) (D0 : List Chunk)
    (h1 : ∀ K : Act → World → Prop, (∀ g, I g → ∀ a w, Ok X (ov g ++ st) (Hv g ++ D0) (KAnd (Kn g) R) a w → K a w) → JC X P c (.thenP K k) st H R)
    (h2 : ∀ g, I g → JE X P .normal k (ov g ++ st) (Hv g ++ D0) (KAnd (Kn g) R)) : JC X P c k st H R := fun a w ho =>
  wpIn_mono (Q' := kden X P k) (h1 (kden X P k .normal) (fun g hg a w ho => h2 g hg a w ho) a w ho) fun e a w hq => by cases e <;> exact hq
end
end Go.Proofs.Ytgbfjcgjcnndpaa

/- The end of a known slice. Nothing is asked. -/
namespace Go.Proofs.Ytgbfjcgjcnndpaa
open Go.RowKit Go.Shelf
/-- The address behind s[k:]. -/
def dropA (a : Option Addr) (k cap z : Nat) : Option Addr := if cap = k then a else a.map (·.add (k * z))
section
variable {X : Ctx} {P : Program} {st : Sto} {H : List Chunk} {R : World → Prop}
variable {d : Option Nat} {ty : TypeId} {pos : String} {af : Array Edge} {g : Option (Nat × Bool)}
theorem det_sliceF {x y : Operand} {t E n cap z : Nat} {a : Option Addr} {q : IntKind} {j : Int} (m : Nat) (hx : opnd st x = some (.slice a n cap)) (hy : opnd st y = some (.int q j)) (hj : j = (m : Int)) (hm : m ≤ n)
    (hu : ∀ w, (underlying t).run P w = .ok (.slice E) w) (hS : ∀ w, (sizeOf E).run P w = .ok z w) : PDet P ⟨d, .slice t x (some y) none none, ty, pos, af, g⟩ st (.slice (dropA a m cap z) (n - m) (cap - m)) := fun N ac w hst => by
  subst hj
  have e3 : (0 : Int) ≤ (m : Int) ∧ (m : Int) ≤ (n : Int) := by omega
  simp [execOp, hst.eval hx, hst.eval hy, Instr.sliceAt, Instr.slice, Instr.sliceBounds, Instr.sliceBound, asIntOf, Sem.run_bind, Sem.run_pure, Result.andThen, hu, hS, hm, e3, dropA]
theorem KSl_drop {α : Type} {enc : α → List Value} {z : Nat} [hz : Rec enc z] {a : Option Addr} {n cap : Nat} {xs : List α} {w : World} (h : KSl a n cap enc xs w) {m : Nat} (hm : m ≤ n) : KSl (dropA a m cap z) (n - m) (cap - m) enc (xs.drop m) w := by
  obtain ⟨⟨h1, h2, h3, h4⟩, h5⟩ := h
  have hl : ((xs.take m).flatMap enc).length = m * z := by rw [flatMap_len enc z hz.len, List.length_take]; congr 1; omega
  have e : xs.flatMap enc = (xs.take m).flatMap enc ++ (xs.drop m).flatMap enc := by rw [← List.flatMap_append, List.take_append_drop]
  refine ⟨⟨by omega, by omega, fun ha => ?_, fun hne => ?_⟩, by rw [List.length_drop]; omega⟩
  · have ha2 : a = none := by
      unfold dropA at ha
      split at ha
      · exact ha
      · cases a with
        | none => rfl
        | some p => cases ha
    have := h3 ha2; omega
  · have hne2 : xs.flatMap enc ≠ [] := fun e2 => by
      rw [e] at e2
      exact hne (List.append_eq_nil_iff.1 e2).2
    have hd : xs.drop m ≠ [] := fun e2 => hne (by rw [e2]; rfl)
    have hlt : m < xs.length := by
      apply Classical.byContradiction
      intro hge
      exact hd (List.drop_eq_nil_of_le (by omega))
    obtain ⟨b, off, q1, q2, q3⟩ := h4 hne2
    refine ⟨b, off + m * z, ?_, q2, fun i c hi => ?_⟩
    · unfold dropA
      rw [if_neg (by omega), q1]
      simp [Addr.add]
    · have := q3 (m * z + i) c (by rw [e, List.getElem?_append_right (by omega), hl, Nat.add_sub_cancel_left]; exact hi)
      rwa [← Nat.add_assoc] at this
end
end Go.Proofs.Ytgbfjcgjcnndpaa

/- The form of a slice of the call's own. Nothing is asked. -/
namespace Go.Proofs.Ytgbfjcgjcnndpaa
open Go.RowKit Go.Shelf
section
variable {X : Ctx} {P : Program} {st : Sto} {H H' : List Chunk} {R : World → Prop} {k : Kont}
theorem ok_formS {ac : Act} {w : World} {v : Value} {n T z : Nat} {xs : List Value} [hp : OwnAt H v T z n xs H'] (h : Ok X st H R ac w) : ∃ a cap, v = .slice a n cap := by
  obtain ⟨h1, M, Ds, h2, hm⟩ := h
  obtain ⟨A, B, e1, e2⟩ := hp.ex
  have := (hm.hold (ow v T z n xs) (by rw [e1]; simp)).now
  rcases this.2 with ⟨h2, h3⟩ | ⟨g, cap', cur, hv, _⟩
  · exact ⟨none, 0, by rw [h2, h3]⟩
  · exact ⟨_, cap', hv⟩
theorem JC_formS {c : Code} {n T z : Nat} {xs : List Value} (v : Value) [hp : OwnAt H v T z n xs H'] (h : ∀ a cap, v = .slice a n cap → JC X P c k st H R) : JC X P c k st H R := fun ac w ho => by
  obtain ⟨a, cap, e⟩ := ok_formS (v := v) ho
  exact h a cap e ac w ho
end
end Go.Proofs.Ytgbfjcgjcnndpaa

/- A grid: rows of cells of the call's own, as 'make([][]T, n)' and a row made for each. Nothing is asked. -/
namespace Go.Proofs.Ytgbfjcgjcnndpaa
open Go.RowKit Go.Shelf

/-- Rows of the call's own: where each lies, and what it holds. -/
def grd (bs : List Nat) (F : Nat → List Value) : Chunk := ⟨(· ∈ bs), fun w => bs.Nodup ∧ ∀ i b, bs[i]? = some b → Box w b (F i)⟩
theorem grd_holds {bs : List Nat} {F : Nat → List Value} {w : World} (h : (grd bs F).says w) : (grd bs F).holds w := by
  refine ⟨fun b hb => ?_, fun w' _ he => ⟨h.1, fun i b hb => ?_⟩⟩
  · obtain ⟨i, hi, e⟩ := List.getElem_of_mem (show b ∈ bs from hb)
    exact (h.2 i b (by rw [List.getElem?_eq_getElem hi, e])).lt
  · obtain ⟨T, h2⟩ := h.2 i b hb
    exact ⟨T, (he b (show b ∈ bs from List.mem_of_getElem? hb)).trans h2⟩
theorem grd_congr {bs : List Nat} {F F' : Nat → List Value} (h : ∀ i, i < bs.length → F i = F' i) : grd bs F = grd bs F' := by
  unfold grd
  congr 1
  funext w
  refine propext (and_congr Iff.rfl (forall_congr' fun i => forall_congr' fun b => ⟨fun h2 hb => ?_, fun h2 hb => ?_⟩))
  · rw [← h i (List.getElem?_eq_some_iff.1 hb).1]; exact h2 hb
  · rw [h i (List.getElem?_eq_some_iff.1 hb).1]; exact h2 hb
class GrdAt (H : List Chunk) (bs : outParam (List Nat)) (F : outParam (Nat → List Value)) : Prop where
  mem : grd bs F ∈ H
instance (H : List Chunk) (bs : List Nat) (F : Nat → List Value) : GrdAt (grd bs F :: H) bs F := ⟨List.mem_cons_self ..⟩
instance (H : List Chunk) (bs : List Nat) (F : Nat → List Value) (c : Chunk) [h : GrdAt H bs F] : GrdAt (c :: H) bs F := ⟨List.mem_cons_of_mem _ h.mem⟩
class GrdPick (H : List Chunk) (bs : outParam (List Nat)) (F : outParam (Nat → List Value)) (H' : outParam (List Chunk)) : Prop where
  perm : H.Perm (grd bs F :: H')
instance (H : List Chunk) (bs : List Nat) (F : Nat → List Value) : GrdPick (grd bs F :: H) bs F H := ⟨List.Perm.refl _⟩
instance (H H' : List Chunk) (bs : List Nat) (F : Nat → List Value) (c : Chunk) [h : GrdPick H bs F H'] : GrdPick (c :: H) bs F (c :: H') := ⟨(h.perm.cons c).trans (List.Perm.swap _ _ _)⟩
instance (A B B' : List Chunk) (bs : List Nat) (F : Nat → List Value) [h : GrdPick B bs F B'] : GrdPick (A ++ B) bs F (A ++ B') := ⟨(h.perm.append_left A).trans List.perm_middle⟩
theorem ht_grd {H H' L D : List Chunk} {bs : List Nat} {F F' : Nat → List Value} [h : GrdPick H bs F H'] (e : ∀ i, i < bs.length → F i = F' i) (h2 : HTake H' L D) : HTake H (grd bs F' :: L) D := by
  rw [← grd_congr e]; exact h.perm.trans (List.Perm.cons _ h2)
theorem Mem.merge {X : Ctx} {M : Nat → Prop} {Ds : List Nat} {H : List Chunk} {R : World → Prop} {w : World} {c d e : Chunk} (h : Mem X M Ds (c :: d :: H) R w) (ho : ∀ b, e.own b → c.own b ∨ d.own b) (hh : e.holds w) : Mem X M Ds (e :: H) R w := by
  have hp := List.pairwise_cons.1 h.dis
  have hp2 := List.pairwise_cons.1 hp.2
  refine ⟨h.bd, fun x hx => ?_, fun x hx b hb => ?_, fun x hx b hb => ?_, List.pairwise_cons.2 ⟨fun x hx b hb hxb => ?_, hp2.2⟩, h.keep, h.mv, h.m0, h.m1, h.mks, h.mkM, fun D hD x hx hxD => ?_, h.m2, h.mk0⟩
  · rcases List.mem_cons.1 hx with rfl | hx
    · exact hh
    · exact h.hold x (by simp [hx])
  · rcases List.mem_cons.1 hx with rfl | hx
    · rcases ho b hb with hb | hb
      · exact h.own c (by simp) b hb
      · exact h.own d (by simp) b hb
    · exact h.own x (by simp [hx]) b hb
  · rcases List.mem_cons.1 hx with rfl | hx
    · rcases ho b hb with hb | hb
      · exact h.fp c (by simp) b hb
      · exact h.fp d (by simp) b hb
    · exact h.fp x (by simp [hx]) b hb
  · rcases ho b hb with hb | hb
    · exact hp.1 x (by simp [hx]) b hb hxb
    · exact hp2.1 x hx b hb hxb
  · rcases List.mem_cons.1 hx with rfl | hx
    · rcases ho D hxD with hb | hb
      · exact h.mkH D hD c (by simp) hb
      · exact h.mkH D hD d (by simp) hb
    · exact h.mkH D hD x (by simp [hx]) hxD
theorem Mem.more {X : Ctx} {M : Nat → Prop} {Ds : List Nat} {H : List Chunk} {R : World → Prop} {w : World} {e : Chunk} (h : Mem X M Ds H R w) (ho : ∀ b, ¬ e.own b) (hh : e.holds w) : Mem X M Ds (e :: H) R w := by
  refine ⟨h.bd, fun x hx => ?_, fun x hx b hb => ?_, fun x hx b hb => ?_, List.pairwise_cons.2 ⟨fun x hx b hb hxb => ho b hb, h.dis⟩, h.keep, h.mv, h.m0, h.m1, h.mks, h.mkM, fun D hD x hx hxD => ?_, h.m2, h.mk0⟩
  · rcases List.mem_cons.1 hx with rfl | hx
    · exact hh
    · exact h.hold x hx
  · rcases List.mem_cons.1 hx with rfl | hx
    · exact absurd hb (ho b)
    · exact h.own x hx b hb
  · rcases List.mem_cons.1 hx with rfl | hx
    · exact absurd hb (ho b)
    · exact h.fp x hx b hb
  · rcases List.mem_cons.1 hx with rfl | hx
    · exact ho D hxD
    · exact h.mkH D hD x hx hxD
section
variable {X : Ctx} {P : Program} {st : Sto} {H H' H1 H2 : List Chunk} {R : World → Prop} {k : Kont}
theorem JC_grd0 {c : Code} (F : Nat → List Value) (h : JC X P c k st (grd [] F :: H) R) : JC X P c k st H R := fun a w ho => by
  obtain ⟨h1, M, Ds, h2, hm⟩ := ho
  exact h a w ⟨h1, M, Ds, h2, hm.more (fun b hb => by cases hb) (grd_holds ⟨List.nodup_nil, fun i b hb => by simp at hb⟩)⟩
/-- A row that was made goes to the others. -/
theorem JE_grdAdd {e : Exit} {T z n : Nat} {xs : List Value} {bs : List Nat} {F : Nat → List Value} (b : Nat) (F' : Nat → List Value) [hp : RowPick H b T z n n xs H1] [hg : GrdPick H1 bs F H2] (h1 : ∀ i, i < bs.length → F i = F' i) (h2 : xs = F' bs.length)
    (h : JE X P e k st (grd (bs ++ [b]) F' :: H2) R) : JE X P e k st H R := fun a w ho => by
  obtain ⟨q1, M, Ds, q2, hm⟩ := ho
  have hm2 := (hm.perm hp.perm).perm (hg.perm.cons _)
  have hrow := (hm2.hold _ (List.mem_cons_self ..)).now
  have hgr := (hm2.hold (grd bs F) (by simp)).now
  have hdis := (List.pairwise_cons.1 hm2.dis).1 (grd bs F) (by simp)
  obtain ⟨hxl, hrow⟩ := hrow
  have hbox : Box w b xs := by
    rcases hrow with ⟨h, _⟩ | ⟨g', cap', cur, hv', h3, h4, h5, h6, h7, h8⟩
    · cases h
    · cases hv'
      refine ⟨T, ?_⟩
      rw [h4, ← h8, List.take_of_length_le (by rw [Array.length_toList, h7]; exact Nat.le_refl _)]
  have hbn : b ∉ bs := fun hb => hdis b (show (Value.slice (some (⟨b, 0, none⟩ : Addr)) n n).ownBlock = some b from rfl) hb
  refine h a w ⟨q1, M, Ds, q2, hm2.merge (fun x hx => ?_) (grd_holds ⟨?_, fun i x hx => ?_⟩)⟩
  · rcases List.mem_append.1 (show x ∈ bs ++ [b] from hx) with hx | hx
    · exact .inr hx
    · rw [List.mem_singleton.1 hx]; exact .inl rfl
  · exact List.nodup_append.2 ⟨hgr.1, by simp, fun x hx y hy e => hbn (by rw [← List.mem_singleton.1 hy, ← e]; exact hx)⟩
  · by_cases hi : i < bs.length
    · rw [List.getElem?_append_left hi] at hx
      rw [← h1 i hi]
      exact hgr.2 i x hx
    · rw [List.getElem?_append_right (by omega)] at hx
      have hi2 : i - bs.length = 0 := by
        apply Classical.byContradiction
        intro hne
        rw [List.getElem?_eq_none (by simp; omega)] at hx
        cases hx
      rw [hi2] at hx
      simp only [List.getElem?_cons_zero, Option.some.injEq] at hx
      subst hx
      rw [show i = bs.length by omega, ← h2]
      exact hbox
variable {d : Option Nat} {ty : TypeId} {pos : String} {af : Array Edge} {g : Option (Nat × Bool)}
theorem det_loadG {x : Operand} {t b off m : Nat} {bs : List Nat} {F : Nat → List Value} {vs : List Value} (i : Nat) (hx : opnd st x = some (.pointer (some ⟨b, off, none⟩))) [hb : GrdAt H bs F] (hi : bs[i]? = some b) (hA : ∀ w, (isAgg t).run P w = .ok true w) (hS : ∀ w, (sizeOf t).run P w = .ok m w) (hv : ((F i).drop off).take m = vs) (hm' : vs.length = m) :
    Det X P ⟨d, .load t x, ty, pos, af, g⟩ st H R (.agg vs.toArray) := fun ac w M Ds hst hm => by
  have hbx := (hm.hold _ hb.mem).now.2 i b hi
  have hr := cells_run (P := P) hbx off m vs hv hm'
  simp [execOp, hst.eval hx, Instr.loadAt, Instr.sureAddr, loadVar, Sem.run_bind, hA, hS, Result.andThen, hr]
theorem jo_storeG {x y : Operand} {t b off : Nat} {bs : List Nat} {F : Nat → List Value} {vs : List Value} {v : Value} (i : Nat) (F' : Nat → List Value) (hx : opnd st x = some (.pointer (some ⟨b, off, none⟩))) (hy : opnd st y = some v) (hv : v.cells = vs.toArray) [hp : GrdPick H bs F H'] (hi : bs[i]? = some b)
    (hcs : splice (F i) off vs = F' i) (hF : ∀ j, j ≠ i → j < bs.length → F j = F' j) (hS : ∀ w, (sizeOf t).run P w = .ok vs.length w) (hl : off + vs.length ≤ (F i).length) (h1 : vs.all (·.oneCell') = true) :
    JO X P ⟨d, .store t x y, ty, pos, af, g⟩ st H R (fun _ : Unit => undef) (fun _ => grd bs F' :: H') (fun _ => R) := by
  intro a w M Ds K Q hs hm hK
  have hm2 := hm.perm hp.perm
  have hgr := (hm2.hold (grd bs F) (by simp)).now
  have hbx := hgr.2 i b hi
  obtain ⟨w', r1, r2, r3, r4⟩ := storeVar_run (P := P) hbx t off v hv hS hl h1
  refine ⟨fun f _ => fof_fn _ f, ?_⟩
  rw [semAt_plain _ _ _ (by intro c h; cases h)]
  have hrun : (execOp a.eval ⟨d, .store t x y, ty, pos, af, g⟩).run P w = .ok .skip w' := by
    simp [execOp, hs.eval hx, hs.eval hy, Instr.storeAt, Instr.sureAddr, Sem.run_bind, r1, Result.andThen]
  rw [hrun]
  have hmem : b ∈ bs := List.mem_of_getElem? hi
  have hnew : (grd bs F').says w' := by
    refine ⟨hgr.1, fun j x hq => ?_⟩
    by_cases e : x = b
    · subst e
      have hji : j = i := by
        obtain ⟨l1, e1⟩ := List.getElem?_eq_some_iff.1 hq
        obtain ⟨l2, e2⟩ := List.getElem?_eq_some_iff.1 hi
        exact (List.getElem_inj hgr.1).1 (e1.trans e2.symm)
      subst hji
      rw [← hcs]; exact r2
    · have hji : j ≠ i := fun e2 => e (by subst e2; rw [hq] at hi; exact Option.some.inj hi)
      rw [← hF j hji (List.getElem?_eq_some_iff.1 hq).1]
      obtain ⟨T, hT⟩ := hgr.2 j x hq
      refine ⟨T, ?_⟩
      have hlt : x < w.heap.size := (show Box w x (F j) from ⟨T, hT⟩).lt
      exact (r3.block x hlt e).trans hT
  refine hK () w' M ?_
  have := hm2.swap (C := [grd bs F]) (D := H') (C' := [grd bs F']) (R' := fun _ => True) M (r3.weaken fun j _ hj => ⟨grd bs F, by simp, by cases hj; exact hmem⟩) (fun _ h => h) (fun _ h => .inl h)
    (fun b hb => by rw [r4]; exact hm.bd b hb) (by intro c hc; simp at hc; subst hc; exact grd_holds hnew)
    (by
      intro c hc b' hb'
      simp at hc; subst hc
      exact ⟨hm2.own _ (List.mem_cons_self ..) _ hb', .inl ⟨grd bs F, by simp, hb'⟩⟩) (by simp) (fun _ _ => trivial)
  exact this.know fun w h => h.2
end
end Go.Proofs.Ytgbfjcgjcnndpaa
