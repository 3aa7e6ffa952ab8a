/- Boxes that are known, maps of the call's own, contracts laid in the elder form. Nothing is asked. -/
import Derived.Test.YtcfhbnfincpehaaJ8
namespace Go.Proofs.Ytcfhbnfincpehaa
open Go.RowKit Go.Shelf

abbrev vB : Bool → Value := fun b => .bool b
abbrev pt (b : Nat) : Value := .pointer (some ⟨b, 0, none⟩)
/-- A block that is known, and never written again. -/
def KBox (b : Nat) (cs : List Value) : World → Prop := fun w => Box w b cs
class BoxK (R : World → Prop) (b : Nat) (cs : outParam (List Value)) : Prop where
  know : ∀ w, R w → Box w b cs
instance (b : Nat) (cs : List Value) : BoxK (KBox b cs) b cs := ⟨fun _ h => h⟩
instance (A B : World → Prop) (b : Nat) (cs : List Value) [h : BoxK B b cs] : BoxK (KAnd A B) b cs := ⟨fun w hw => h.know w hw.2⟩
instance (A B : World → Prop) (b : Nat) (cs : List Value) [h : BoxK A b cs] : BoxK (KAnd A B) b cs := ⟨fun w hw => h.know w hw.1⟩
instance (b : Nat) (cs : List Value) (l : List Chunk) [h : BoxAt l b cs] : BoxK (saysAll l) b cs := ⟨fun w hw => saysAll_iff.1 hw _ h.mem⟩
instance (b : Nat) (cs : List Value) : BoxK (bx b cs).says b cs := ⟨fun _ h => h⟩

section
variable {X : Ctx} {P : Program} {st : Sto} {H H' : List Chunk} {R R' : World → Prop} {k : Kont} {ops : Array Oper} {rest : List Oper} {Q : Exit → Act → World → Prop}
variable {d : Option Nat} {ty : TypeId} {pos : String} {af : Array Edge} {g : Option (Nat × Bool)}
/-- A block's cells, its own or known. -/
class BoxIn (H : List Chunk) (R : World → Prop) (b : Nat) (cs : outParam (List Value)) : Prop where
  get : ∀ w, (∀ c ∈ H, c.holds w) → R w → Box w b cs
instance (H : List Chunk) (R : World → Prop) (b : Nat) (cs : List Value) [h : BoxK R b cs] : BoxIn H R b cs := ⟨fun w _ hr => h.know w hr⟩
instance (H : List Chunk) (R : World → Prop) (b : Nat) (cs : List Value) [h : BoxAt H b cs] : BoxIn H R b cs := ⟨fun w hh _ => (hh _ h.mem).now⟩
theorem det_loadK {x : Operand} {t : TypeId} {b off : Nat} {cs : List Value} {v : Value} (hx : opnd st x = some (.pointer (some ⟨b, off, none⟩))) [hb : BoxIn H R b cs] (hA : ∀ w, (isAgg t).run P w = .ok false w) (hc : cs[off]? = some v) :
    Det X P ⟨d, .load t x, ty, pos, af, g⟩ st H R v := fun a w M Ds hs hm => by
  have hbx : Box w b cs := hb.get w hm.hold hm.r
  have := run_load (P := P) (w := w) ⟨b, off, none⟩ .plain
  simp [execOp, hs.eval hx, Instr.loadAt, Instr.sureAddr, loadVar, Sem.run_bind, hA, Result.andThen, hbx.cell off hc, this]
theorem det_loadKA {x : Operand} {t : TypeId} {b off n : Nat} {cs vs : List Value} (hx : opnd st x = some (.pointer (some ⟨b, off, none⟩))) [hb : BoxIn H R b cs] (hA : ∀ w, (isAgg t).run P w = .ok true w) (hS : ∀ w, (sizeOf t).run P w = .ok n w) (hv : (cs.drop off).take n = vs) (hn : vs.length = n) :
    Det X P ⟨d, .load t x, ty, pos, af, g⟩ st H R (.agg vs.toArray) := fun a w M Ds hs hm => by
  have hbx : Box w b cs := hb.get w hm.hold hm.r
  have hr := cells_run (P := P) hbx off n vs hv hn
  simp [execOp, hs.eval hx, Instr.loadAt, Instr.sureAddr, loadVar, Sem.run_bind, hA, hS, Result.andThen, hr]

theorem jo_makeMap {κ ν : Type} (ek : κ → Value) (ev : ν → Value) {t : TypeId} : JO X P ⟨d, .makeMap t none, ty, pos, af, g⟩ st H R (fun b : Nat => .map (some b)) (fun b => mp b ek ev (fun _ => none) :: H) (fun _ => R) :=
  jo_new (.map #[] 0) (fun b => .map (some b)) (fun b => mp b ek ev (fun _ => none)) (fun a w hs => by
    simp [execOp, Instr.makeMap, newObj, Sem.run_bind, Result.andThen]; rfl) (fun w => mp_holds (MapIs.made w ek ev)) (fun _ _ h => h) (by intro c h; cases h)
theorem det_lookup2 {κ ν : Type} {x y : Operand} {t K E : TypeId} {b : Nat} {ek : κ → Value} {ev : ν → Value} {m : κ → Option ν} {z : Value} (key : κ) (hx : opnd st x = some (.map (some b))) [hb : MapAt H b κ ν ek ev m] (hy : opnd st y = some (ek key))
    (G : GoodKey P K ek) (hT : P.underlying t = some (.map K E)) (hz : ∀ w, (zeroValue E).run P w = .ok z w) : Det X P ⟨d, .lookup t x y true, ty, pos, af, g⟩ st H R (.tuple #[(m key).elim z ev, .bool (m key).isSome]) := fun a w M Ds hs hm => by
  have hmp : MapIs w b ek ev m := (hm.hold _ hb.mem).now
  simp only [execOp, hs.eval hx, hs.eval hy, Sem.run_bind, hmp.lookup G hT (hz w) key true, Result.andThen_ok, Sem.run_pure, if_true]
theorem det_lookup1 {κ ν : Type} {x y : Operand} {t K E : TypeId} {b : Nat} {ek : κ → Value} {ev : ν → Value} {m : κ → Option ν} {z : Value} (key : κ) (hx : opnd st x = some (.map (some b))) [hb : MapAt H b κ ν ek ev m] (hy : opnd st y = some (ek key))
    (G : GoodKey P K ek) (hT : P.underlying t = some (.map K E)) (hz : ∀ w, (zeroValue E).run P w = .ok z w) : Det X P ⟨d, .lookup t x y false, ty, pos, af, g⟩ st H R ((m key).elim z ev) := fun a w M Ds hs hm => by
  have hmp : MapIs w b ek ev m := (hm.hold _ hb.mem).now
  simp only [execOp, hs.eval hx, hs.eval hy, Sem.run_bind, hmp.lookup G hT (hz w) key false, Result.andThen_ok, Sem.run_pure, Bool.false_eq_true, if_false]
theorem det_lookup1B {κ : Type} {x y : Operand} {t K E : TypeId} {b : Nat} {ek : κ → Value} {m : κ → Option Bool} (key : κ) (hx : opnd st x = some (.map (some b))) [hb : MapAt H b κ Bool ek vB m] (hy : opnd st y = some (ek key))
    (G : GoodKey P K ek) (hT : P.underlying t = some (.map K E)) (hz : ∀ w, (zeroValue E).run P w = .ok (.bool false) w) : Det X P ⟨d, .lookup t x y false, ty, pos, af, g⟩ st H R (.bool ((m key).getD false)) := by
  have := det_lookup1 (X := X) (P := P) (H := H) (R := R) (d := d) (ty := ty) (pos := pos) (af := af) (g := g) (ev := vB) key hx hy G hT hz
  cases hm : m key <;> rw [hm] at this <;> exact this
theorem det_lookup2N {κ ν : Type} {x y : Operand} {t K E : TypeId} {b : Nat} {ek : κ → Value} {ev : ν → Value} {m : κ → Option ν} {z : Value} {key : κ} (hk : m key = none) (hx : opnd st x = some (.map (some b))) [hb : MapAt H b κ ν ek ev m] (hy : opnd st y = some (ek key))
    (G : GoodKey P K ek) (hT : P.underlying t = some (.map K E)) (hz : ∀ w, (zeroValue E).run P w = .ok z w) : Det X P ⟨d, .lookup t x y true, ty, pos, af, g⟩ st H R (.tuple #[z, .bool false]) := by
  have := det_lookup2 (X := X) (P := P) (H := H) (R := R) (d := d) (ty := ty) (pos := pos) (af := af) (g := g) key hx hy G hT hz
  rwa [hk] at this
theorem det_lookup2S {κ ν : Type} {x y : Operand} {t K E : TypeId} {b : Nat} {ek : κ → Value} {ev : ν → Value} {m : κ → Option ν} {z : Value} {key : κ} {v : ν} (hk : m key = some v) (hx : opnd st x = some (.map (some b))) [hb : MapAt H b κ ν ek ev m] (hy : opnd st y = some (ek key))
    (G : GoodKey P K ek) (hT : P.underlying t = some (.map K E)) (hz : ∀ w, (zeroValue E).run P w = .ok z w) : Det X P ⟨d, .lookup t x y true, ty, pos, af, g⟩ st H R (.tuple #[ev v, .bool true]) := by
  have := det_lookup2 (X := X) (P := P) (H := H) (R := R) (d := d) (ty := ty) (pos := pos) (af := af) (g := g) key hx hy G hT hz
  rwa [hk] at this
theorem jo_mapUpdate {κ ν : Type} [DecidableEq κ] {op : Op} {x y z : Operand} {t K E : TypeId} {b : Nat} {ek : κ → Value} {ev : ν → Value} {m : κ → Option ν} (key : κ) (v : ν) (hop : op = .mapUpdate t x y z ∨ op = .insert t x y z) (hx : opnd st x = some (.map (some b))) [hb : MapAt H b κ ν ek ev m] [hu : MapUpd H b ek ev (upd m key v) H'] (hy : opnd st y = some (ek key)) (hz : opnd st z = some (ev v))
    (G : GoodKey P K ek) (hT : P.underlying t = some (.map K E)) : JO X P ⟨d, op, ty, pos, af, g⟩ st H R (fun _ : Unit => undef) (fun _ => H') (fun _ => R) := by
  intro a w M Ds Kk Q hs hm hK
  obtain ⟨A, B, m0, e1, e2⟩ := hu.ex
  subst e1 e2
  have hmp : MapIs w b ek ev m := (hm.hold _ hb.mem).now
  have hm2 := hm.perm (mid_perm A B _)
  obtain ⟨w', r1, r2, r3, r4⟩ := hmp.update (P := P) G hT key v
  refine ⟨fun f _ => fof_fn _ f, ?_⟩
  rw [semAt_plain _ _ _ (by intro c h; rcases hop with rfl | rfl <;> cases h)]
  have hrun : (execOp a.eval ⟨d, op, ty, pos, af, g⟩).run P w = .ok .skip w' := by
    rcases hop with rfl | rfl <;> simp [execOp, hs.eval hx, hs.eval hy, hs.eval hz, Sem.run_bind, r1, Result.andThen]
  rw [hrun]
  refine hK () w' M ?_
  have := hm2.swap (C' := [mp b ek ev (upd m key v)]) (R' := fun _ => True) M (r3.weaken fun i _ hi => ⟨mp b ek ev m0, by simp, hi⟩) (fun _ h => h) (fun _ h => .inl h)
    (fun b hb => by rw [r4]; exact hm.bd b hb) (by intro c hc; simp at hc; subst hc; exact mp_holds r2)
    (by intro c hc b' hb'; simp at hc; subst hc; cases hb'; exact ⟨hm2.own (mp _ ek ev m0) (by simp) _ rfl, .inl ⟨mp _ ek ev m0, by simp, rfl⟩⟩) (by simp) (fun _ _ => trivial)
  exact (this.know fun w h => h.2).perm (mid_perm A B _).symm

theorem JE_next {K1 : Act → World → Prop} {C : List Chunk} (hK : ∀ st' R' a' W', Ok X st' C R' a' W' → K1 a' W') (hH : HSub H C) : JE X P .normal (.thenP K1 k) st H R := fun a w ho => hK _ _ a w (ho.weak stsub_refl hH (fun _ h => h))
theorem JE_leave {e : Exit} {QX : Exit → Act → World → Prop} {C : List Chunk} (hK : ∀ st' R' a' W', Ok X st' C R' a' W' → QX e a' W') (hH : HSub H C) : JE X P e (.done QX) st H R := fun a w ho => hK _ _ a w (ho.weak stsub_refl hH (fun _ h => h))
theorem JE_asg {K0 : Act → World → Prop} {st2 : Sto} {C : List Chunk} {R2 : World → Prop} (hK : ∀ a' W', Ok X st2 C R2 a' W' → K0 a' W') (hs : StSub st st2) (hH : HSub H C) (hR : ∀ w, R w → R2 w) : JE X P .normal (.thenP K0 k) st H R := fun a w ho => hK a w (ho.weak hs hH hR)
theorem pick_perm {c : Chunk} [h : Pick H c H'] : H.Perm ([c] ++ H') := h.perm

theorem stsub_consI {st2 : Sto} {t : Nat} {q : IntKind} {m n : Int} (h : look st t = some (.int q m)) (e : m = n) (h2 : StSub st st2) : StSub st ((t, .int q n) :: st2) := stsub_cons (e ▸ h) h2
theorem stsub_consB {st2 : Sto} {t : Nat} {m n : Bool} (h : look st t = some (.bool m)) (e : m = n) (h2 : StSub st st2) : StSub st ((t, .bool n) :: st2) := stsub_cons (e ▸ h) h2
theorem hsub_conse {c c' : Chunk} {H2 : List Chunk} [h : Pick H c H'] (e : c = c') (h2 : HSub H' H2) : HSub H (c' :: H2) := e ▸ hsub_cons (c := c) h2
theorem ow_eq {v : Value} {T z n n' : Nat} {xs xs' : List Value} (e : n = n') (e' : xs = xs') : ow v T z n xs = ow v T z n' xs' := by rw [e, e']
theorem bx_eq {b : Nat} {xs xs' : List Value} (e' : xs = xs') : bx b xs = bx b xs' := by rw [e']
theorem hsub_ow {v : Value} {T z n n' : Nat} {xs xs' : List Value} {H2 : List Chunk} [h : OwnAt H v T z n xs H'] (e : n = n') (e' : xs = xs') (h2 : HSub H' H2) : HSub H (ow v T z n' xs' :: H2) := by
  obtain ⟨A, B, h3, h4⟩ := h.ex
  obtain ⟨D, hD⟩ := h2
  subst e e' h3 h4
  exact ⟨D, List.perm_middle.trans (hD.cons _)⟩
class BoxPick (H : List Chunk) (b : Nat) (cs : outParam (List Value)) (H' : outParam (List Chunk)) : Prop where
  perm : H.Perm (bx b cs :: H')
instance (H : List Chunk) (b : Nat) (cs : List Value) : BoxPick (bx b cs :: H) b cs H := ⟨List.Perm.refl _⟩
instance (H H' : List Chunk) (b : Nat) (cs : List Value) (c : Chunk) [h : BoxPick H b cs H'] : BoxPick (c :: H) b cs (c :: H') := ⟨(h.perm.cons c).trans (List.Perm.swap _ _ _)⟩
instance (A B B' : List Chunk) (b : Nat) (cs : List Value) [h : BoxPick B b cs B'] : BoxPick (A ++ B) b cs (A ++ B') := ⟨(h.perm.append_left A).trans List.perm_middle⟩
instance (A A' B : List Chunk) (b : Nat) (cs : List Value) [h : BoxPick A b cs A'] : BoxPick (A ++ B) b cs (A' ++ B) := ⟨h.perm.append_right B⟩
theorem hsub_bx {b : Nat} {cs cs' : List Value} {H2 : List Chunk} [h : BoxPick H b cs H'] (e : cs = cs') (h2 : HSub H' H2) : HSub H (bx b cs' :: H2) := by
  obtain ⟨D, hD⟩ := h2
  subst e
  exact ⟨D, h.perm.trans (hD.cons _)⟩
theorem perm_bx {cs : List Value} (b : Nat) [h : BoxPick H b cs H'] : H.Perm ([bx b cs] ++ H') := h.perm
theorem hsub_all {c : Chunk} [h : Pick H c H'] : HSub ([c] ++ H') H := ⟨[], by simpa using h.perm.symm⟩
theorem hsub_perm {A D : List Chunk} (h : H.Perm (A ++ D)) : HSub (A ++ D) H := ⟨[], by simpa using h.symm⟩
theorem Cx_same {f : FuncId} {args : List Value} {Hp : List Chunk} {v : Value} (h : ∀ w, (∀ c ∈ Hp, c.holds w) → Calls P f args.toArray w fun e w' => e = .returned v ∧ w = w') : Cx P f args Hp KTrue (fun _ : Unit => v) (fun _ => Hp) (fun _ => KTrue) := by
  intro M w h1 h2 h3 h4
  refine (h w fun c hc => (h2 c hc).1).mono ?_
  rintro e w' ⟨rfl, rfl⟩
  exact ⟨(), M, rfl, Moves.refl _, fun _ h => h, fun _ h => .inl h, h1, fun c hc => ⟨(h2 c hc).1, fun b hb => ⟨(h2 c hc).2 b hb, .inl ⟨c, hc, hb⟩⟩⟩, h3, fun _ _ => trivial⟩
theorem pick_of_bx {cs : List Value} (b : Nat) [h : BoxPick H b cs H'] : Pick H (bx b cs) H' := ⟨h.perm⟩
theorem JL_keep {cs : List Value} (b : Nat) [hp : BoxPick H b cs H'] (hF : ∀ b, ¬ X.Fp b) (h : JL X P ops Q rest st H' (KAnd (KBox b cs) R)) : JL X P ops Q rest st H R := by
  have := pick_of_bx (cs := cs) (H := H) (H' := H') b
  exact JL_freeze (bx b cs) hF h
theorem JC_keep {c : Code} {cs : List Value} (b : Nat) [hp : BoxPick H b cs H'] (hF : ∀ b, ¬ X.Fp b) (h : JC X P c k st H' (KAnd (KBox b cs) R)) : JC X P c k st H R := by
  have := pick_of_bx (cs := cs) (H := H) (H' := H') b
  exact JC_freeze (bx b cs) hF h
/-- What a frozen slice is. -/
theorem JE_slice {α : Type} {enc : α → List Value} {z : Nat} [hz : Rec enc z] {e : Exit} {v : Value} {T n : Nat} {cs : List Value} (xs : List α) [hp0 : OwnAt H v T z n cs H'] (hF : ∀ b, ¬ X.Fp b) (hc : cs = xs.flatMap enc) (hn : n = xs.length)
    (h : ∀ a cap, v = .slice a n cap → JE X P e k st H' (KAnd (KSl a n cap enc xs) R)) : JE X P e k st H R := by
  have hp : Pick H (ow v T z n cs) H' := ⟨by obtain ⟨A, B, h1, h2⟩ := hp0.ex; subst h1 h2; exact List.perm_middle⟩
  refine JE_freeze (ow v T z n cs) hF ?_
  refine JE_pure (p := ∃ a cap, v = .slice a n cap) (fun w hw => by obtain ⟨a, cap, h1, _⟩ := ow_sl (enc := enc) hw.1 hc hn; exact ⟨a, cap, h1⟩) ?_
  rintro ⟨a, cap, rfl⟩
  intro ac w ho
  refine h a cap rfl ac w (ho.know fun w hw => ⟨?_, hw.2⟩)
  obtain ⟨a', cap', h1, h2⟩ := ow_sl (enc := enc) hw.1 hc hn
  cases h1; exact h2
theorem JC_slice {α : Type} {enc : α → List Value} {z : Nat} [hz : Rec enc z] {c : Code} {v : Value} {T n : Nat} {cs : List Value} (xs : List α) [hp0 : OwnAt H v T z n cs H'] (hF : ∀ b, ¬ X.Fp b) (hc : cs = xs.flatMap enc) (hn : n = xs.length)
    (h : ∀ a cap, v = .slice a n cap → JC X P c k st H' (KAnd (KSl a n cap enc xs) R)) : JC X P c k st H R := by
  have hp : Pick H (ow v T z n cs) H' := ⟨by obtain ⟨A, B, h1, h2⟩ := hp0.ex; subst h1 h2; exact List.perm_middle⟩
  refine JC_freeze (ow v T z n cs) hF ?_
  refine JC_pure (p := ∃ a cap, v = .slice a n cap) (fun w hw => by obtain ⟨a, cap, h1, _⟩ := ow_sl (enc := enc) hw.1 hc hn; exact ⟨a, cap, h1⟩) ?_
  rintro ⟨a, cap, rfl⟩
  intro ac w ho
  refine h a cap rfl ac w (ho.know fun w hw => ⟨?_, hw.2⟩)
  obtain ⟨a', cap', h1, h2⟩ := ow_sl (enc := enc) hw.1 hc hn
  cases h1; exact h2
theorem Cx_new {f : FuncId} {args : List Value} {pre : World → Prop} {α : Type} {ret : α → Value} {Hq : α → List Chunk} {post : α → World → Prop}
    (h : ∀ w, pre w → Calls P f args.toArray w fun e w' => ∃ x, e = .returned (ret x) ∧ Below w.heap.size w w' ∧ (∀ c ∈ Hq x, c.holds w' ∧ ∀ b, c.own b → w.heap.size ≤ b) ∧ ((Hq x).Pairwise fun c d => ∀ b, c.own b → ¬ d.own b) ∧
      ∀ w2, pre w2 → w'.heap.size ≤ w2.heap.size → (∀ b, w.heap.size ≤ b → b < w'.heap.size → (∀ c ∈ Hq x, ¬ c.own b) → w2.heap[b]? = w'.heap[b]?) → post x w2) : Cx P f args [] pre ret Hq post := by
  intro M w h1 h2 h3 h4
  refine (h w (h4 w (Moves.refl w))).mono ?_
  rintro e w' ⟨x, rfl, hb, hq, hd, hp⟩
  refine ⟨x, fun b => M b ∨ OwnOf (Hq x) b, rfl, Moves.of_below hb, fun _ h => .inl h, fun b hb' => hb'.imp id fun ⟨c, hc, hcb⟩ => (hq c hc).2 b hcb, fun b hb' => hb'.elim (fun h => Nat.lt_of_lt_of_le (h1 b h) hb.size) fun ⟨c, hc, hcb⟩ => (hq c hc).1.bd b hcb,
    fun c hc => ⟨(hq c hc).1, fun b hcb => ⟨.inr ⟨c, hc, hcb⟩, .inr ((hq c hc).2 b hcb)⟩⟩, hd, fun w2 hw => hp w2 (h4 w2 ?_) hw.size fun b hb1 hb2 hn => hw.block b hb2 fun hM => hM.elim (fun hM => by have := h1 b hM; omega) fun ⟨c, hc, hcb⟩ => hn c hc hcb⟩
  exact (Moves.of_below (Bs := M) hb).trans hw fun i hi h => h.elim id fun ⟨c, hc, hcb⟩ => by have := (hq c hc).2 i hcb; omega

theorem det_makeFuncE {fn : Fn} {first captured : List Operand} {us vs : List Value} (hu : evs st first = some us) (hv : evs st captured = some vs) :
    PDet P ⟨d, .makeFunc fn first.toArray captured.toArray, ty, pos, af, g⟩ st (.func fn us.toArray vs.toArray) := fun N a w hs => by
  simp [execOp, Instr.makeFunc, hs.evs hu, hs.evs hv]
theorem splice_norm : (∀ (cs : List Value) (o : Nat), splice cs o [] = cs) ∧ (∀ (cs : List Value) (o : Nat) (v : Value) (vs : List Value), splice cs o (v :: vs) = splice (cs.set o v) (o + 1) vs) ∧ (∀ (a v : Value) (l : List Value), (a :: l).set 0 v = v :: l) ∧ (∀ (a v : Value) (l : List Value) (n : Nat), (a :: l).set (n + 1) v = a :: l.set n v) ∧
    (∀ (l : List Value), l.take 0 = []) ∧ (∀ (a : Value) (l : List Value) (n : Nat), (a :: l).take (n + 1) = a :: l.take n) ∧ (∀ (l : List Value), l.drop 0 = l) ∧ (∀ (a : Value) (l : List Value) (n : Nat), (a :: l).drop (n + 1) = l.drop n) := by
  refine ⟨fun _ _ => rfl, fun _ _ _ _ => rfl, fun _ _ _ => rfl, fun _ _ _ _ => rfl, fun _ => rfl, fun _ _ _ => rfl, fun _ => rfl, fun _ _ _ => rfl⟩
theorem JA_is {H0 : List Chunk} {R0 : World → Prop} {ops : Array Oper} {tl : List Nat} {fuel : Nat} {listed : Array Bool} {d0 : Nat} {b : Bool} (c : Bool) (hb : look st d0 = some (.bool b)) (h : b = c) (ht : b = c → JA X P ops k tl H0 R0 fuel listed st H R) : JA X P ops k tl H0 R0 fuel listed st H R := ht h
theorem JL_is {ops : Array Oper} {Q : Exit → Act → World → Prop} {rest : List Oper} {d0 : Nat} {b : Bool} (c : Bool) (hb : look st d0 = some (.bool b)) (h : b = c) (ht : b = c → JL X P ops Q rest st H R) : JL X P ops Q rest st H R := ht h
theorem det_convI {x : Operand} {src dst : TypeId} {us : TypeDesc} {k q : IntKind} {n : Int} (hx : opnd st x = some (.int q n)) (hs : ∀ w, (underlying src).run P w = .ok us w) (hd : ∀ w, (underlying dst).run P w = .ok (.int k) w) (hw : k.wrap n = n) : PDet P ⟨d, .convert src dst x, ty, pos, af, g⟩ st (.int k n) := fun N a w hst => by
  simp [execOp, hst.eval hx, convert, Conv.intToInt, Sem.run_bind, Result.andThen, hs, hd, hw]
theorem det_rem {x y : Operand} {t t' : TypeId} {m n : Int} {q : IntKind} (hx : opnd st x = some (.int q m)) (hy : opnd st y = some (.int q n)) (h : n ≠ 0) : PDet P ⟨d, .binOp .rem t x y t', ty, pos, af, g⟩ st (.int q (m.tmod n)) := fun N a w hs => by
  simp [execOp, hs.eval hx, hs.eval hy, eqGuard, binOp, Op.intDiv, h]
theorem det_quo {x y : Operand} {t t' : TypeId} {m n : Int} (hx : opnd st x = some (.int .i64 m)) (hy : opnd st y = some (.int .i64 n)) (h : n ≠ 0) (hi : InI (m.tdiv n)) : PDet P ⟨d, .binOp .quo t x y t', ty, pos, af, g⟩ st (.int .i64 (m.tdiv n)) := fun N a w hs => by
  simp [execOp, hs.eval hx, hs.eval hy, eqGuard, binOp, Op.intDiv, h, i64_wrap hi]
theorem det_eqlB {x y : Operand} {t t' : TypeId} {m n : Bool} (hx : opnd st x = some (.bool m)) (hy : opnd st y = some (.bool n)) (hu : P.underlying t = some .bool) : PDet P ⟨d, .binOp .eql t x y t', ty, pos, af, g⟩ st (.bool (m == n)) := fun N a w hs => by
  simp [execOp, hs.eval hx, hs.eval hy, eqGuard, binOp, Op.equal, Op.maxDepth, run_equalIn_bool' w 9999 t m n hu]
theorem det_neqB {x y : Operand} {t t' : TypeId} {m n : Bool} (hx : opnd st x = some (.bool m)) (hy : opnd st y = some (.bool n)) (hu : P.underlying t = some .bool) : PDet P ⟨d, .binOp .neq t x y t', ty, pos, af, g⟩ st (.bool (m != n)) := fun N a w hs => by
  simp [execOp, hs.eval hx, hs.eval hy, eqGuard, binOp, Op.equal, Op.maxDepth, run_equalIn_bool' w 9999 t m n hu, bne]
theorem JA_sure {H0 : List Chunk} {R0 : World → Prop} {ops : Array Oper} {tl : List Nat} {fuel : Nat} {listed : Array Bool} {d0 : Nat} {b : Bool} (hb : look st d0 = some (.bool b)) (h : b = true) (ht : b = true → JA X P ops k tl H0 R0 fuel listed st H R) : JA X P ops k tl H0 R0 fuel listed st H R := ht h
theorem JL_sure {ops : Array Oper} {Q : Exit → Act → World → Prop} {rest : List Oper} {d0 : Nat} {b : Bool} (hb : look st d0 = some (.bool b)) (h : b = true) (ht : b = true → JL X P ops Q rest st H R) : JL X P ops Q rest st H R := ht h
theorem det_eqlA {x y : Operand} {t t' : TypeId} {xs ys : Array Value} {b : Bool} (hx : opnd st x = some (.agg xs)) (hy : opnd st y = some (.agg ys)) (hg : P.eqGuardType P.depth t = false) (he : ∀ w, (Op.equalIn 10000 t (.agg xs) (.agg ys)).run P w = .ok b w) :
    PDet P ⟨d, .binOp .eql t x y t', ty, pos, af, g⟩ st (.bool b) := fun N a w hs => by
  simp [execOp, hs.eval hx, hs.eval hy, run_eqGuard_agg _ _ _ _ _ _ _ hg, run_eql_struct, he]
theorem det_neqA {x y : Operand} {t t' : TypeId} {xs ys : Array Value} {b : Bool} (hx : opnd st x = some (.agg xs)) (hy : opnd st y = some (.agg ys)) (hg : P.eqGuardType P.depth t = false) (he : ∀ w, (Op.equalIn 10000 t (.agg xs) (.agg ys)).run P w = .ok b w) :
    PDet P ⟨d, .binOp .neq t x y t', ty, pos, af, g⟩ st (.bool (!b)) := fun N a w hs => by
  simp [execOp, hs.eval hx, hs.eval hy, run_eqGuard_agg _ _ _ _ _ _ _ hg, run_neq_struct, he]
/-- A slice of the call's own, by its block. -/
class RowAt (H : List Chunk) (b : Nat) (T z n cap : outParam Nat) (xs : outParam (List Value)) : Prop where
  mem : ow (.slice (some ⟨b, 0, none⟩) n cap) T z n xs ∈ H
instance (H : List Chunk) (b T z n cap : Nat) (xs : List Value) : RowAt (ow (.slice (some ⟨b, 0, none⟩) n cap) T z n xs :: H) b T z n cap xs := ⟨by simp⟩
instance (H : List Chunk) (b T z n cap : Nat) (xs : List Value) (c : Chunk) [h : RowAt H b T z n cap xs] : RowAt (c :: H) b T z n cap xs := ⟨List.mem_cons_of_mem _ h.mem⟩
instance (A B : List Chunk) (b T z n cap : Nat) (xs : List Value) [h : RowAt B b T z n cap xs] : RowAt (A ++ B) b T z n cap xs := ⟨List.mem_append.2 (.inr h.mem)⟩
instance (A B : List Chunk) (b T z n cap : Nat) (xs : List Value) [h : RowAt A b T z n cap xs] : RowAt (A ++ B) b T z n cap xs := ⟨List.mem_append.2 (.inl h.mem)⟩
theorem det_indexOwn {x ix : Operand} {t E b z n cap : Nat} {q : IntKind} {j : Int} {i : Nat} (hx : opnd st x = some (.slice (some ⟨b, 0, none⟩) n cap)) (hi : opnd st ix = some (.int q j)) (hj : j = (i : Int)) (hn : i < n)
    (hu : ∀ w, (underlying t).run P w = .ok (.slice E) w) (hS : ∀ w, (sizeOf E).run P w = .ok z w) : PDet P ⟨d, .indexAddr t x ix, ty, pos, af, g⟩ st (.pointer (some ⟨b, i * z, none⟩)) := fun N ac w hst => by
  subst hj
  have e2 : (0 : Int) ≤ (i : Int) ∧ (i : Int) < (n : Int) := by omega
  simp only [execOp, hst.eval hx, hst.eval hi, Instr.indexAt, asIntOf, Sem.run_bind, Sem.run_pure, Result.andThen_ok, hu]
  simp only [e2, and_self, if_true, Sem.run_bind, hS, Result.andThen_ok, Sem.run_pure, addr_add, Int.toNat_natCast, Nat.zero_add]
theorem owns_cell {w : World} {T z n cap b : Nat} {xs : List Value} (h : (ow (.slice (some ⟨b, 0, none⟩) n cap) T z n xs).holds w) {j : Nat} {u : Value} (hu : xs[j]? = some u) : w.cell? ⟨b, j, none⟩ = some u :=
  Row.cell (show Row w 0 T z b n cap xs from h.now) j hu
theorem det_loadOA {x : Operand} {t b off m T z n cap : Nat} {xs vs : List Value} (hx : opnd st x = some (.pointer (some ⟨b, off, none⟩))) [hb : RowAt H b T z n cap xs] (hA : ∀ w, (isAgg t).run P w = .ok true w) (hS : ∀ w, (sizeOf t).run P w = .ok m w) (hv : (xs.drop off).take m = vs) (hm' : vs.length = m) :
    Det X P ⟨d, .load t x, ty, pos, af, g⟩ st H R (.agg vs.toArray) := fun ac w M Ds hst hm => by
  have ho := hm.hold _ hb.mem
  have := run_loadCells (P := P) (w := w) ⟨b, off, none⟩ m (fun j => vs.getD j undef) (fun j hj => by
    have hj' : xs[off + j]? = some (vs.getD j undef) := by
      rw [← hv, List.getD_eq_getElem?_getD, List.getElem?_take_of_lt hj, List.getElem?_drop]
      have : off + j < xs.length := by
        have := congrArg List.length hv
        rw [List.length_take, List.length_drop, hm'] at this; omega
      rw [List.getElem?_eq_getElem this]; rfl
    rw [addr_add]; exact owns_cell ho hj')
  have e : (List.range m).map (fun j => vs.getD j undef) = vs := by
    apply List.ext_getElem
    · simp [hm']
    · intro i h1 h2; simp [List.getD_eq_getElem?_getD, h2]
  rw [e] at this
  simp [execOp, hst.eval hx, Instr.loadAt, Instr.sureAddr, loadVar, Sem.run_bind, hA, hS, Result.andThen, this]
theorem det_loadO {x : Operand} {t b off T z n cap : Nat} {xs : List Value} {v : Value} (hx : opnd st x = some (.pointer (some ⟨b, off, none⟩))) [hb : RowAt H b T z n cap xs] (hA : ∀ w, (isAgg t).run P w = .ok false w) (hv : xs[off]? = some v) :
    Det X P ⟨d, .load t x, ty, pos, af, g⟩ st H R v := fun ac w M Ds hst hm => by
  have ho := hm.hold _ hb.mem
  have := run_load (P := P) (w := w) ⟨b, off, none⟩ .plain
  simp [execOp, hst.eval hx, Instr.loadAt, Instr.sureAddr, loadVar, Sem.run_bind, hA, Result.andThen, owns_cell ho hv, this]
/-- 's[:k]' of a slice of the call's own. -/
theorem jo_sliceTo {x y : Operand} {t E T z n cap b : Nat} {xs : List Value} {q : IntKind} {j : Int} (m : Nat) (hx : opnd st x = some (.slice (some ⟨b, 0, none⟩) n cap)) (hy : opnd st y = some (.int q j)) (hj : j = (m : Int)) (hm : m ≤ n) [ho : OwnAt H (.slice (some ⟨b, 0, none⟩) n cap) T z n xs H']
    (hu : ∀ w, (underlying t).run P w = .ok (.slice E) w) (hS : ∀ w, (sizeOf E).run P w = .ok z w) (hk : 0 < z) (hcap : 0 < cap ∨ 0 < n) :
    JO X P ⟨d, .slice t x none (some y) none, ty, pos, af, g⟩ st H R (fun _ : Unit => .slice (some ⟨b, 0, none⟩) m cap) (fun _ => ow (.slice (some ⟨b, 0, none⟩) m cap) T z m (xs.take (m * z)) :: H') (fun _ => R) := by
  intro a w M Ds K Q hst hmm hK
  obtain ⟨A, B, e1, e2⟩ := ho.ex
  subst e1 e2
  have hm2 := hmm.perm (mid_perm A B _)
  have hown : w.ownsRow 0 T z (.slice (some ⟨b, 0, none⟩) n cap) n xs := (hmm.hold (ow (.slice (some ⟨b, 0, none⟩) n cap) T z n xs) (by simp)).now
  have hnc : n ≤ cap := by
    rcases hown.2 with ⟨h, _⟩ | ⟨g', cap', cur, hv, h3, h4, h5, _⟩
    · cases h
    · cases hv; exact h5
  have hnew : w.ownsRow 0 T z (.slice (some ⟨b, 0, none⟩) m cap) m (xs.take (m * z)) := by
    refine ⟨?_, ?_⟩
    · rw [List.length_take, hown.1]; exact Nat.min_eq_left (Nat.mul_le_mul_right z hm)
    · rcases hown.2 with ⟨h, _⟩ | ⟨g', cap', cur, hv, h3, h4, h5, h6, h7, h8⟩
      · cases h
      · cases hv
        refine .inr ⟨b, cap, cur, rfl, h3, h4, by omega, h6, h7, ?_⟩
        rw [← h8, List.take_take, Nat.min_eq_left (Nat.mul_le_mul_right z hm)]
  refine ⟨fun f _ => fof_fn _ f, ?_⟩
  rw [semAt_plain _ _ _ (by intro c h; cases h)]
  have e3 : (0 : Int) ≤ (m : Int) ∧ (m : Int) ≤ (cap : Int) := by omega
  have e4 : ¬ cap = 0 := by omega
  have e5 : m ≤ cap := by omega
  have hrun : (execOp a.eval ⟨d, .slice t x none (some y) none, ty, pos, af, g⟩).run P w = .ok (.value (.slice (some ⟨b, 0, none⟩) m cap)) w := by
    subst hj
    simp [execOp, hst.eval hx, hst.eval hy, Instr.sliceAt, Instr.slice, Instr.sliceBounds, Instr.sliceBound, asIntOf, Sem.run_bind, Sem.run_pure, Result.andThen, hu, hS, e3, e4, e5, Addr.add]
  rw [hrun]
  refine hK () w M ?_
  have := hm2.swap (C' := [ow (.slice (some ⟨b, 0, none⟩) m cap) T z m (xs.take (m * z))]) (R' := fun _ => True) M (Moves.refl w) (fun _ h => h) (fun _ h => .inl h) hmm.bd
    (by intro c hc; simp at hc; subst hc; exact ow_holds hnew)
    (by intro c hc x hx
        simp at hc; subst hc
        exact ⟨hm2.own (ow (.slice (some ⟨b, 0, none⟩) n cap) T z n xs) (by simp) x hx, .inl ⟨ow (.slice (some ⟨b, 0, none⟩) n cap) T z n xs, by simp, hx⟩⟩) (by simp) (fun _ _ => trivial)
  exact this.know fun w h => h.2

/-- A contract laid in the elder form, that only answers. -/
theorem Cv_of {f : FuncId} {args : List Value} {pre : World → Prop} {v : Value} (h : ∀ w, pre w → Calls P f args.toArray w fun e w' => e = .returned v ∧ Below w.heap.size w w') : Cv P f args pre v := by
  intro M w h1 h2 h3 h4
  refine (h w (h4 w (Moves.refl w))).mono ?_
  rintro e w' ⟨rfl, hb⟩
  exact ⟨(), M, rfl, (Moves.of_below hb), fun _ h => h, fun _ h => .inl h, fun b hb' => Nat.lt_of_lt_of_le (h1 b hb') hb.size, by simp, .nil, fun _ _ => trivial⟩
/-- .. with results of which something is known, that hangs on what was known and on new blocks. -/
theorem Cr_of {f : FuncId} {args : List Value} {pre : World → Prop} {α : Type} {ret : α → Value} {post : α → World → Prop}
    (h : ∀ w, pre w → Calls P f args.toArray w fun e w' => ∃ x, e = .returned (ret x) ∧ Below w.heap.size w w' ∧ ∀ w2, pre w2 → w'.heap.size ≤ w2.heap.size → (∀ b, w.heap.size ≤ b → b < w'.heap.size → w2.heap[b]? = w'.heap[b]?) → post x w2) : Cr P f args pre ret post := by
  intro M w h1 h2 h3 h4
  refine (h w (h4 w (Moves.refl w))).mono ?_
  rintro e w' ⟨x, rfl, hb, hp⟩
  refine ⟨x, M, rfl, (Moves.of_below hb), fun _ h => h, fun _ h => .inl h, fun b hb' => Nat.lt_of_lt_of_le (h1 b hb') hb.size, by simp, .nil, fun w2 hw => hp w2 (h4 w2 ?_) hw.size fun b hb1 hb2 => hw.block b hb2 fun hM => ?_⟩
  · exact (Moves.of_below (Bs := M) hb).trans hw fun _ _ h => h
  · have := h1 b hM; omega
end
end Go.Proofs.Ytcfhbnfincpehaa
