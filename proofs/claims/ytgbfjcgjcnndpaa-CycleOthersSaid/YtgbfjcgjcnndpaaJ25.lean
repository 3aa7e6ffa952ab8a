/- A grid: rows of cells of the call's own, as 'make([][]T, n)' and a row made for each. Nothing is asked. -/
import Derived.Test.YtgbfjcgjcnndpaaJ24
set_option linter.unusedSimpArgs false
set_option linter.unusedVariables false
namespace Go.Proofs.Ytgbfjcgjcnndpaa
open Go.RowKit Go.Shelf

/-- Rows of the call's own: where each lies, and what it holds. -/
def grd (bs : List Nat) (F : Nat → List Value) : Chunk := ⟨(· ∈ bs), fun w => bs.Nodup ∧ ∀ i b, bs[i]? = some b → Box w b (F i)⟩
theorem grd_holds {bs : List Nat} {F : Nat → List Value} {w : World} (h : (grd bs F).says w) : (grd bs F).holds w := by
  refine ⟨fun b hb => ?_, fun w' _ he => ⟨h.1, fun i b hb => ?_⟩⟩
  · obtain ⟨i, hi, e⟩ := List.getElem_of_mem (show b ∈ bs from hb)
    exact (h.2 i b (by rw [List.getElem?_eq_getElem hi, e])).lt
  · obtain ⟨T, h2⟩ := h.2 i b hb
    exact ⟨T, (he b (show b ∈ bs from List.mem_of_getElem? hb)).trans h2⟩
theorem grd_congr {bs : List Nat} {F F' : Nat → List Value} (h : ∀ i, i < bs.length → F i = F' i) : grd bs F = grd bs F' := by
  unfold grd
  congr 1
  funext w
  refine propext (and_congr Iff.rfl (forall_congr' fun i => forall_congr' fun b => ⟨fun h2 hb => ?_, fun h2 hb => ?_⟩))
  · rw [← h i (List.getElem?_eq_some_iff.1 hb).1]; exact h2 hb
  · rw [h i (List.getElem?_eq_some_iff.1 hb).1]; exact h2 hb
class GrdAt (H : List Chunk) (bs : outParam (List Nat)) (F : outParam (Nat → List Value)) : Prop where
  mem : grd bs F ∈ H
instance (H : List Chunk) (bs : List Nat) (F : Nat → List Value) : GrdAt (grd bs F :: H) bs F := ⟨List.mem_cons_self ..⟩
instance (H : List Chunk) (bs : List Nat) (F : Nat → List Value) (c : Chunk) [h : GrdAt H bs F] : GrdAt (c :: H) bs F := ⟨List.mem_cons_of_mem _ h.mem⟩
class GrdPick (H : List Chunk) (bs : outParam (List Nat)) (F : outParam (Nat → List Value)) (H' : outParam (List Chunk)) : Prop where
  perm : H.Perm (grd bs F :: H')
instance (H : List Chunk) (bs : List Nat) (F : Nat → List Value) : GrdPick (grd bs F :: H) bs F H := ⟨List.Perm.refl _⟩
instance (H H' : List Chunk) (bs : List Nat) (F : Nat → List Value) (c : Chunk) [h : GrdPick H bs F H'] : GrdPick (c :: H) bs F (c :: H') := ⟨(h.perm.cons c).trans (List.Perm.swap _ _ _)⟩
instance (A B B' : List Chunk) (bs : List Nat) (F : Nat → List Value) [h : GrdPick B bs F B'] : GrdPick (A ++ B) bs F (A ++ B') := ⟨(h.perm.append_left A).trans List.perm_middle⟩
theorem ht_grd {H H' L D : List Chunk} {bs : List Nat} {F F' : Nat → List Value} [h : GrdPick H bs F H'] (e : ∀ i, i < bs.length → F i = F' i) (h2 : HTake H' L D) : HTake H (grd bs F' :: L) D := by
  rw [← grd_congr e]; exact h.perm.trans (List.Perm.cons _ h2)
theorem Mem.merge {X : Ctx} {M : Nat → Prop} {Ds : List Nat} {H : List Chunk} {R : World → Prop} {w : World} {c d e : Chunk} (h : Mem X M Ds (c :: d :: H) R w) (ho : ∀ b, e.own b → c.own b ∨ d.own b) (hh : e.holds w) : Mem X M Ds (e :: H) R w := by
  have hp := List.pairwise_cons.1 h.dis
  have hp2 := List.pairwise_cons.1 hp.2
  refine ⟨h.bd, fun x hx => ?_, fun x hx b hb => ?_, fun x hx b hb => ?_, List.pairwise_cons.2 ⟨fun x hx b hb hxb => ?_, hp2.2⟩, h.keep, h.mv, h.m0, h.m1, h.mks, h.mkM, fun D hD x hx hxD => ?_, h.m2, h.mk0⟩
  · rcases List.mem_cons.1 hx with rfl | hx
    · exact hh
    · exact h.hold x (by simp [hx])
  · rcases List.mem_cons.1 hx with rfl | hx
    · rcases ho b hb with hb | hb
      · exact h.own c (by simp) b hb
      · exact h.own d (by simp) b hb
    · exact h.own x (by simp [hx]) b hb
  · rcases List.mem_cons.1 hx with rfl | hx
    · rcases ho b hb with hb | hb
      · exact h.fp c (by simp) b hb
      · exact h.fp d (by simp) b hb
    · exact h.fp x (by simp [hx]) b hb
  · rcases ho b hb with hb | hb
    · exact hp.1 x (by simp [hx]) b hb hxb
    · exact hp2.1 x hx b hb hxb
  · rcases List.mem_cons.1 hx with rfl | hx
    · rcases ho D hxD with hb | hb
      · exact h.mkH D hD c (by simp) hb
      · exact h.mkH D hD d (by simp) hb
    · exact h.mkH D hD x (by simp [hx]) hxD
theorem Mem.more {X : Ctx} {M : Nat → Prop} {Ds : List Nat} {H : List Chunk} {R : World → Prop} {w : World} {e : Chunk} (h : Mem X M Ds H R w) (ho : ∀ b, ¬ e.own b) (hh : e.holds w) : Mem X M Ds (e :: H) R w := by
  refine ⟨h.bd, fun x hx => ?_, fun x hx b hb => ?_, fun x hx b hb => ?_, List.pairwise_cons.2 ⟨fun x hx b hb hxb => ho b hb, h.dis⟩, h.keep, h.mv, h.m0, h.m1, h.mks, h.mkM, fun D hD x hx hxD => ?_, h.m2, h.mk0⟩
  · rcases List.mem_cons.1 hx with rfl | hx
    · exact hh
    · exact h.hold x hx
  · rcases List.mem_cons.1 hx with rfl | hx
    · exact absurd hb (ho b)
    · exact h.own x hx b hb
  · rcases List.mem_cons.1 hx with rfl | hx
    · exact absurd hb (ho b)
    · exact h.fp x hx b hb
  · rcases List.mem_cons.1 hx with rfl | hx
    · exact ho D hxD
    · exact h.mkH D hD x hx hxD
section
variable {X : Ctx} {P : Program} {st : Sto} {H H' H1 H2 : List Chunk} {R : World → Prop} {k : Kont}
theorem JC_grd0 {c : Code} (F : Nat → List Value) (h : JC X P c k st (grd [] F :: H) R) : JC X P c k st H R := fun a w ho => by
  obtain ⟨h1, M, Ds, h2, hm⟩ := ho
  exact h a w ⟨h1, M, Ds, h2, hm.more (fun b hb => by cases hb) (grd_holds ⟨List.nodup_nil, fun i b hb => by simp at hb⟩)⟩
/-- A row that was made goes to the others. -/
theorem JE_grdAdd {e : Exit} {T z n : Nat} {xs : List Value} {bs : List Nat} {F : Nat → List Value} (b : Nat) (F' : Nat → List Value) [hp : RowPick H b T z n n xs H1] [hg : GrdPick H1 bs F H2] (h1 : ∀ i, i < bs.length → F i = F' i) (h2 : xs = F' bs.length)
    (h : JE X P e k st (grd (bs ++ [b]) F' :: H2) R) : JE X P e k st H R := fun a w ho => by
  obtain ⟨q1, M, Ds, q2, hm⟩ := ho
  have hm2 := (hm.perm hp.perm).perm (hg.perm.cons _)
  have hrow := (hm2.hold _ (List.mem_cons_self ..)).now
  have hgr := (hm2.hold (grd bs F) (by simp)).now
  have hdis := (List.pairwise_cons.1 hm2.dis).1 (grd bs F) (by simp)
  obtain ⟨hxl, hrow⟩ := hrow
  have hbox : Box w b xs := by
    rcases hrow with ⟨h, _⟩ | ⟨g', cap', cur, hv', h3, h4, h5, h6, h7, h8⟩
    · cases h
    · cases hv'
      refine ⟨T, ?_⟩
      rw [h4, ← h8, List.take_of_length_le (by rw [Array.length_toList, h7]; exact Nat.le_refl _)]
  have hbn : b ∉ bs := fun hb => hdis b (show (Value.slice (some (⟨b, 0, none⟩ : Addr)) n n).ownBlock = some b from rfl) hb
  refine h a w ⟨q1, M, Ds, q2, hm2.merge (fun x hx => ?_) (grd_holds ⟨?_, fun i x hx => ?_⟩)⟩
  · rcases List.mem_append.1 (show x ∈ bs ++ [b] from hx) with hx | hx
    · exact .inr hx
    · rw [List.mem_singleton.1 hx]; exact .inl rfl
  · exact List.nodup_append.2 ⟨hgr.1, by simp, fun x hx y hy e => hbn (by rw [← List.mem_singleton.1 hy, ← e]; exact hx)⟩
  · by_cases hi : i < bs.length
    · rw [List.getElem?_append_left hi] at hx
      rw [← h1 i hi]
      exact hgr.2 i x hx
    · rw [List.getElem?_append_right (by omega)] at hx
      have hi2 : i - bs.length = 0 := by
        apply Classical.byContradiction
        intro hne
        rw [List.getElem?_eq_none (by simp; omega)] at hx
        cases hx
      rw [hi2] at hx
      simp only [List.getElem?_cons_zero, Option.some.injEq] at hx
      subst hx
      rw [show i = bs.length by omega, ← h2]
      exact hbox
variable {d : Option Nat} {ty : TypeId} {pos : String} {af : Array Edge} {g : Option (Nat × Bool)}
theorem det_loadG {x : Operand} {t b off m : Nat} {bs : List Nat} {F : Nat → List Value} {vs : List Value} (i : Nat) (hx : opnd st x = some (.pointer (some ⟨b, off, none⟩))) [hb : GrdAt H bs F] (hi : bs[i]? = some b) (hA : ∀ w, (isAgg t).run P w = .ok true w) (hS : ∀ w, (sizeOf t).run P w = .ok m w) (hv : ((F i).drop off).take m = vs) (hm' : vs.length = m) :
    Det X P ⟨d, .load t x, ty, pos, af, g⟩ st H R (.agg vs.toArray) := fun ac w M Ds hst hm => by
  have hbx := (hm.hold _ hb.mem).now.2 i b hi
  have hr := cells_run (P := P) hbx off m vs hv hm'
  simp [execOp, hst.eval hx, Instr.loadAt, Instr.sureAddr, loadVar, Sem.run_bind, hA, hS, Result.andThen, hr]
theorem jo_storeG {x y : Operand} {t b off : Nat} {bs : List Nat} {F : Nat → List Value} {vs : List Value} {v : Value} (i : Nat) (F' : Nat → List Value) (hx : opnd st x = some (.pointer (some ⟨b, off, none⟩))) (hy : opnd st y = some v) (hv : v.cells = vs.toArray) [hp : GrdPick H bs F H'] (hi : bs[i]? = some b)
    (hcs : splice (F i) off vs = F' i) (hF : ∀ j, j ≠ i → j < bs.length → F j = F' j) (hS : ∀ w, (sizeOf t).run P w = .ok vs.length w) (hl : off + vs.length ≤ (F i).length) (h1 : vs.all (·.oneCell') = true) :
    JO X P ⟨d, .store t x y, ty, pos, af, g⟩ st H R (fun _ : Unit => undef) (fun _ => grd bs F' :: H') (fun _ => R) := by
  intro a w M Ds K Q hs hm hK
  have hm2 := hm.perm hp.perm
  have hgr := (hm2.hold (grd bs F) (by simp)).now
  have hbx := hgr.2 i b hi
  obtain ⟨w', r1, r2, r3, r4⟩ := storeVar_run (P := P) hbx t off v hv hS hl h1
  refine ⟨fun f _ => fof_fn _ f, ?_⟩
  rw [semAt_plain _ _ _ (by intro c h; cases h)]
  have hrun : (execOp a.eval ⟨d, .store t x y, ty, pos, af, g⟩).run P w = .ok .skip w' := by
    simp [execOp, hs.eval hx, hs.eval hy, Instr.storeAt, Instr.sureAddr, Sem.run_bind, r1, Result.andThen]
  rw [hrun]
  have hmem : b ∈ bs := List.mem_of_getElem? hi
  have hnew : (grd bs F').says w' := by
    refine ⟨hgr.1, fun j x hq => ?_⟩
    by_cases e : x = b
    · subst e
      have hji : j = i := by
        obtain ⟨l1, e1⟩ := List.getElem?_eq_some_iff.1 hq
        obtain ⟨l2, e2⟩ := List.getElem?_eq_some_iff.1 hi
        exact (List.getElem_inj hgr.1).1 (e1.trans e2.symm)
      subst hji
      rw [← hcs]; exact r2
    · have hji : j ≠ i := fun e2 => e (by subst e2; rw [hq] at hi; exact Option.some.inj hi)
      rw [← hF j hji (List.getElem?_eq_some_iff.1 hq).1]
      obtain ⟨T, hT⟩ := hgr.2 j x hq
      refine ⟨T, ?_⟩
      have hlt : x < w.heap.size := (show Box w x (F j) from ⟨T, hT⟩).lt
      exact (r3.block x hlt e).trans hT
  refine hK () w' M ?_
  have := hm2.swap (C := [grd bs F]) (D := H') (C' := [grd bs F']) (R' := fun _ => True) M (r3.weaken fun j _ hj => ⟨grd bs F, by simp, by cases hj; exact hmem⟩) (fun _ h => h) (fun _ h => .inl h)
    (fun b hb => by rw [r4]; exact hm.bd b hb) (by intro c hc; simp at hc; subst hc; exact grd_holds hnew)
    (by
      intro c hc b' hb'
      simp at hc; subst hc
      exact ⟨hm2.own _ (List.mem_cons_self ..) _ hb', .inl ⟨grd bs F, by simp, hb'⟩⟩) (by simp) (fun _ _ => trivial)
  exact this.know fun w h => h.2
end
end Go.Proofs.Ytgbfjcgjcnndpaa
