/- Own texts, laid together: J26 J27 J28 J29 J30 J31 J32 J33 J34 J35. Nothing is asked. -/
import Derived.Test.YthpkgabckklojaaGreatS3
set_option linter.unusedSimpArgs false
set_option linter.unusedVariables false
/- Steps of a walk: what is copied within a slice of the call's own, and from a slice that is known into a box. -/
namespace Go.Proofs.YthpkgabckklojaaGreat
open Go.RowKit Go.Shelf

section
variable {X : Ctx} {P : Program} {st : Sto} {H H' : List Chunk} {R : World → Prop} {d : Option Nat} {ty : TypeId} {pos : String} {af : Array Edge} {g : Option (Nat × Bool)}
theorem load_run {w : World} {b off m : Nat} {vs : List Value} (h : ∀ j v, vs[j]? = some v → w.cell? ⟨b, off + j, none⟩ = some v) (hm : vs.length = m) : (loadCells ⟨b, off, none⟩ m).run P w = .ok vs.toArray w := by
  have := run_loadCells (P := P) (w := w) ⟨b, off, none⟩ m (fun j => vs.getD j undef) (fun j hj => by
    rw [addr_add]
    exact h j _ (by rw [List.getD_eq_getElem?_getD, List.getElem?_eq_getElem (by omega)]; rfl))
  have e : (List.range m).map (fun j => vs.getD j undef) = vs := by
    apply List.ext_getElem
    · simp [hm]
    · intro i h1 h2; simp [List.getD_eq_getElem?_getD, h2]
  rw [e] at this
  exact this
/-- Within one's own slice. -/
theorem jo_copyO {x y : Operand} {t t' E b T z n cap dn dc sn sc doff soff : Nat} {xs : List Value} (k : Nat) (xs' : List Value) (hx : opnd st x = some (.slice (some ⟨b, doff, none⟩) dn dc)) (hy : opnd st y = some (.slice (some ⟨b, soff, none⟩) sn sc)) [hp : RowPick H b T z n cap xs H']
    (hu : ∀ w, (underlying t).run P w = .ok (.slice E) w) (hS : ∀ w, (sizeOf E).run P w = .ok z w) (hk : Nat.min sn dn = k) (hcs : splice xs doff ((xs.drop soff).take (k * z)) = xs')
    (hb1 : soff + k * z ≤ xs.length) (hb2 : doff + k * z ≤ xs.length) (h1 : ∀ v ∈ xs, v.oneCell' = true) :
    JO X P ⟨d, .call ⟨.builtin .copy, #[x, y], #[t, t']⟩, ty, pos, af, g⟩ st H R (fun _ : Unit => I (k : Int)) (fun _ => ow (.slice (some ⟨b, 0, none⟩) n cap) T z n xs' :: H') (fun _ => R) := by
  intro a w M Ds K Q hs hm hK
  subst hcs
  have hm2 := hm.perm hp.perm
  have hhold := hm2.hold _ (List.mem_cons_self ..)
  have hown : w.ownsRow 0 T z (.slice (some ⟨b, 0, none⟩) n cap) n xs := hhold.now
  obtain ⟨hxl, hrow⟩ := hown
  rcases hrow with ⟨h, _⟩ | ⟨g', cap', cur, hv', h3, h4, h5, h6, h7, h8⟩
  · cases h
  cases hv'
  have hB : BoxT w b T cur.toList := by unfold BoxT; simpa using h4
  have hlen : n * z ≤ cur.toList.length := by
    have := congrArg List.length h8
    rw [List.length_take, hxl] at this; omega
  have hvl : ((xs.drop soff).take (k * z)).length = k * z := by rw [List.length_take, List.length_drop]; omega
  have hl := load_run (P := P) (w := w) (b := b) (off := soff) (m := k * z) (vs := (xs.drop soff).take (k * z)) (fun j v hj => by
    rw [List.getElem?_take] at hj
    split at hj
    · rw [List.getElem?_drop] at hj; exact owns_cell hhold hj
    · cases hj) hvl
  obtain ⟨w', r1, r2, r3, r4⟩ := storeCells_runT (P := P) b doff T ((xs.drop soff).take (k * z)) 0 w _ hB (by omega) (fun v hv => h1 v (List.mem_of_mem_drop (List.mem_of_mem_take hv)))
  rw [Nat.add_zero] at r2
  refine ⟨fun f _ => fof_fn _ f, ?_⟩
  rw [semAt_plain _ _ _ (by intro c h; cases h)]
  have hrun : (execOp a.eval ⟨d, .call ⟨.builtin .copy, #[x, y], #[t, t']⟩, ty, pos, af, g⟩).run P w = .ok (.value (I (k : Int))) w' := by
    have : (Builtin.copy_ #[t, t'] ty #[.slice (some ⟨b, doff, none⟩) dn dc, .slice (some ⟨b, soff, none⟩) sn sc]).run P w = .ok (I (k : Int)) w' := by
      simp [Builtin.copy_, Builtin.firstCells, Builtin.lenOf, Sem.run_bind, Sem.run_pure, Result.andThen, hu, hS, hk, hl, r1, goInt]
    simp only [execOp, resolve, invoke, builtin, Sem.run_bind, Sem.run_pure, Result.andThen_ok, List.map_toArray, List.map_cons, List.map_nil, hs.eval hx, hs.eval hy, this]
  rw [hrun]
  have hnew : w'.ownsRow 0 T z (.slice (some ⟨b, 0, none⟩) n cap) n (splice xs doff ((xs.drop soff).take (k * z))) := by
    refine ⟨by rw [splice_len, hxl], .inr ⟨b, cap, (splice cur.toList doff ((xs.drop soff).take (k * z))).toArray, rfl, h3, r2, h5, h6, ?_, ?_⟩⟩
    · have e : (splice cur.toList doff ((xs.drop soff).take (k * z))).length = cur.toList.length := splice_len _ _ _
      simp only [List.size_toArray, e, Array.length_toList, h7]
    · show (splice cur.toList doff ((xs.drop soff).take (k * z))).take (n * z) = _
      rw [splice_take _ _ _ _ (by omega), h8]
  refine hK () w' M ?_
  have := hm2.swap (C := [ow (.slice (some ⟨b, 0, none⟩) n cap) T z n xs]) (D := H') (C' := [ow (.slice (some ⟨b, 0, none⟩) n cap) T z n (splice xs doff ((xs.drop soff).take (k * z)))]) (R' := fun _ => True) M (r3.weaken fun i _ hi => ⟨ow (.slice (some ⟨b, 0, none⟩) n cap) T z n xs, by simp, by cases hi; rfl⟩) (fun _ h => h) (fun _ h => .inl h)
    (fun b hb => by rw [r4]; exact hm.bd b hb) (by intro c hc; simp at hc; subst hc; exact ow_holds hnew)
    (by
      intro c hc b' hb'
      simp at hc; subst hc
      exact ⟨hm2.own _ (List.mem_cons_self ..) _ hb', .inl ⟨ow (.slice (some ⟨b, 0, none⟩) n cap) T z n xs, by simp, hb'⟩⟩) (by simp) (fun _ _ => trivial)
  exact this.know fun w h => h.2
/-- From a slice that is known into a box. -/
theorem jo_copyKB {α : Type} {e : α → List Value} {x y : Operand} {t t' E b z dn dc m c : Nat} {cs : List Value} {ad : Option Addr} {ys : List α} [hz : Rec e z] (k : Nat) (cs' : List Value) (hx : opnd st x = some (.slice (some ⟨b, 0, none⟩) dn dc)) (hy : opnd st y = some (.slice ad m c)) [hp : BoxPick H b cs H'] [hb : Sees R ad m c α e ys]
    (hu : ∀ w, (underlying t).run P w = .ok (.slice E) w) (hS : ∀ w, (sizeOf E).run P w = .ok z w) (hk : Nat.min m dn = k) (hcs : splice cs 0 ((ys.flatMap e).take (k * z)) = cs')
    (hb2 : k * z ≤ cs.length) (h1 : ∀ y, (e y).all (·.oneCell') = true) :
    JO X P ⟨d, .call ⟨.builtin .copy, #[x, y], #[t, t']⟩, ty, pos, af, g⟩ st H R (fun _ : Unit => I (k : Int)) (fun _ => bx b cs' :: H') (fun _ => R) := by
  intro a w M Ds K Q hs hm hK
  subst hcs
  have hm2 := hm.perm hp.perm
  have hbox : Box w b cs := (hm2.hold _ (List.mem_cons_self ..)).now
  obtain ⟨T, hB⟩ := hbox
  have hB : BoxT w b T cs := hB
  obtain ⟨⟨s1, s2, s3, s4⟩, s5⟩ := hb.see w hm.r
  have hfl := flatMap_len e z hz.len ys
  have hkm : k ≤ m := by rw [← hk]; exact Nat.min_le_left _ _
  have hkz : k * z ≤ m * z := Nat.mul_le_mul_right z hkm
  have hvl : ((ys.flatMap e).take (k * z)).length = k * z := by rw [List.length_take, hfl, ← s5]; omega
  have hfc : (Builtin.firstCells z k (.slice ad m c)).run P w = .ok ((ys.flatMap e).take (k * z)).toArray w := by
    by_cases hne : ys.flatMap e = []
    · have h0 : k * z = 0 := by rw [hne] at hvl; simpa using hvl.symm
      cases ad with
      | none => rw [hne]; simp [Builtin.firstCells, Sem.run_pure]
      | some p =>
        rw [hne]
        have := run_loadCells (P := P) (w := w) p 0 (fun _ => undef) (fun j hj => by omega)
        simp only [Builtin.firstCells, h0]
        simpa using this
    · obtain ⟨b2, off, q1, q2, q3⟩ := s4 hne
      subst q1
      refine load_run (P := P) (w := w) (fun j v hj => q3 j v ?_) hvl
      rw [List.getElem?_take] at hj
      split at hj
      · exact hj
      · cases hj
  obtain ⟨w', r1, r2, r3, r4⟩ := storeCells_runT (P := P) b 0 T ((ys.flatMap e).take (k * z)) 0 w _ hB (by omega) (fun v hv => by
    obtain ⟨y, _, hy⟩ := List.mem_flatMap.1 (List.mem_of_mem_take hv)
    exact List.all_eq_true.1 (h1 y) v hy)
  refine ⟨fun f _ => fof_fn _ f, ?_⟩
  rw [semAt_plain _ _ _ (by intro c h; cases h)]
  have hrun : (execOp a.eval ⟨d, .call ⟨.builtin .copy, #[x, y], #[t, t']⟩, ty, pos, af, g⟩).run P w = .ok (.value (I (k : Int))) w' := by
    have : (Builtin.copy_ #[t, t'] ty #[.slice (some ⟨b, 0, none⟩) dn dc, .slice ad m c]).run P w = .ok (I (k : Int)) w' := by
      simp [Builtin.copy_, Builtin.lenOf, Sem.run_bind, Sem.run_pure, Result.andThen, hu, hS, hk, hfc, r1, goInt]
    simp only [execOp, resolve, invoke, builtin, Sem.run_bind, Sem.run_pure, Result.andThen_ok, List.map_toArray, List.map_cons, List.map_nil, hs.eval hx, hs.eval hy, this]
  rw [hrun]
  refine hK () w' M ?_
  have hnew : Box w' b (splice cs 0 ((ys.flatMap e).take (k * z))) := BoxT.box r2
  have := hm2.swap (C := [bx b cs]) (D := H') (C' := [bx b (splice cs 0 ((ys.flatMap e).take (k * z)))]) (R' := fun _ => True) M (r3.weaken fun i _ hi => ⟨bx b cs, by simp, hi⟩) (fun _ h => h) (fun _ h => .inl h)
    (fun b hb => by rw [r4]; exact hm.bd b hb) (by intro c hc; simp at hc; subst hc; exact bx_holds hnew)
    (by
      intro c hc b' hb'
      simp at hc; subst hc
      exact ⟨hm2.own _ (List.mem_cons_self ..) _ hb', .inl ⟨bx b cs, by simp, hb'⟩⟩) (by simp) (fun _ _ => trivial)
  exact this.know fun w h => h.2
end
end Go.Proofs.YthpkgabckklojaaGreat

/- Steps of a walk: numbers without a sign by their results; a copy of a slice that is known; the rest of a slice of the call's own. Nothing is asked. -/
namespace Go.Proofs.YthpkgabckklojaaGreat
open Go.RowKit Go.Shelf

section
variable {P : Program} {st : Sto} {d : Option Nat} {ty : TypeId} {pos : String} {af : Array Edge} {g : Option (Nat × Bool)}
theorem det_addR {x y : Operand} {t t' : TypeId} {m n : Int} {k : IntKind} (r : Int) (hx : opnd st x = some (.int k m)) (hy : opnd st y = some (.int k n)) (h : k.wrap (m + n) = r) : PDet P ⟨d, .binOp .add t x y t', ty, pos, af, g⟩ st (.int k r) := fun N a w hs => by
  simp [execOp, hs.eval hx, hs.eval hy, eqGuard, binOp, Op.intArith, h]
theorem det_mulR {x y : Operand} {t t' : TypeId} {m n : Int} {k : IntKind} (r : Int) (hx : opnd st x = some (.int k m)) (hy : opnd st y = some (.int k n)) (h : k.wrap (m * n) = r) : PDet P ⟨d, .binOp .mul t x y t', ty, pos, af, g⟩ st (.int k r) := fun N a w hs => by
  simp [execOp, hs.eval hx, hs.eval hy, eqGuard, binOp, Op.intArith, h]
theorem det_subR {x y : Operand} {t t' : TypeId} {m n : Int} {k : IntKind} (r : Int) (hx : opnd st x = some (.int k m)) (hy : opnd st y = some (.int k n)) (h : k.wrap (m - n) = r) : PDet P ⟨d, .binOp .sub t x y t', ty, pos, af, g⟩ st (.int k r) := fun N a w hs => by
  simp [execOp, hs.eval hx, hs.eval hy, eqGuard, binOp, Op.intArith, h]
theorem det_andR {x y : Operand} {t t' : TypeId} {m n : Int} {k : IntKind} (r : Int) (hx : opnd st x = some (.int k m)) (hy : opnd st y = some (.int k n)) (h : k.wrap ((BitVec.ofInt k.bits m &&& BitVec.ofInt k.bits n).toNat : Int) = r) : PDet P ⟨d, .binOp .and t x y t', ty, pos, af, g⟩ st (.int k r) := fun N a w hs => by
  subst h
  simp [execOp, hs.eval hx, hs.eval hy, eqGuard, binOp, Op.intBits]
theorem det_shrR {x y : Operand} {t t' : TypeId} {m j : Int} {k q : IntKind} (r : Int) (hx : opnd st x = some (.int k m)) (hy : opnd st y = some (.int q j)) (h : 0 ≤ j) (hr : m.fdiv (2 ^ min j.toNat k.bits) = r) : PDet P ⟨d, .binOp .shr t x y t', ty, pos, af, g⟩ st (.int k r) := by
  subst hr; exact det_shr hx hy h
end
section
variable {X : Ctx} {P : Program} {st : Sto} {H H' : List Chunk} {R : World → Prop} {d : Option Nat} {ty : TypeId} {pos : String} {af : Array Edge} {g : Option (Nat × Bool)}
/-- 's[m:]' of a slice of the call's own: what it yields. -/
theorem det_sliceFO {x y : Operand} {t E n b z : Nat} {q : IntKind} {j : Int} (m : Nat) (hx : opnd st x = some (.slice (some ⟨b, 0, none⟩) n n)) (hy : opnd st y = some (.int q j)) (hj : j = (m : Int)) (hm : m < n)
    (hu : ∀ w, (underlying t).run P w = .ok (.slice E) w) (hS : ∀ w, (sizeOf E).run P w = .ok z w) : PDet P ⟨d, .slice t x (some y) none none, ty, pos, af, g⟩ st (.slice (some ⟨b, m * z, none⟩) (n - m) (n - m)) := by
  have := det_sliceF (P := P) (d := d) (ty := ty) (pos := pos) (af := af) (g := g) m hx hy hj (Nat.le_of_lt hm) hu hS
  rw [show dropA (some (⟨b, 0, none⟩ : Addr)) m n z = some ⟨b, m * z, none⟩ by
    unfold dropA
    rw [if_neg (by omega)]
    show some ((⟨b, 0, none⟩ : Addr).add (m * z)) = _
    rw [addr_add, Nat.zero_add]] at this
  exact this
/-- From a slice that is known into a slice of the call's own. -/
theorem jo_copyKO {α : Type} {e : α → List Value} {x y : Operand} {t t' E b T z n cap dn dc doff m c : Nat} {xs : List Value} {ad : Option Addr} {ys : List α} [hz : Rec e z] (k : Nat) (xs' : List Value) (hx : opnd st x = some (.slice (some ⟨b, doff, none⟩) dn dc)) (hy : opnd st y = some (.slice ad m c)) [hp : RowPick H b T z n cap xs H'] [hb : Sees R ad m c α e ys]
    (hu : ∀ w, (underlying t).run P w = .ok (.slice E) w) (hS : ∀ w, (sizeOf E).run P w = .ok z w) (hk : Nat.min m dn = k) (hcs : splice xs doff ((ys.flatMap e).take (k * z)) = xs')
    (hb2 : doff + k * z ≤ xs.length) (h1 : ∀ y, (e y).all (·.oneCell') = true) :
    JO X P ⟨d, .call ⟨.builtin .copy, #[x, y], #[t, t']⟩, ty, pos, af, g⟩ st H R (fun _ : Unit => I (k : Int)) (fun _ => ow (.slice (some ⟨b, 0, none⟩) n cap) T z n xs' :: H') (fun _ => R) := by
  intro a w M Ds K Q hs hm hK
  subst hcs
  have hm2 := hm.perm hp.perm
  have hhold := hm2.hold _ (List.mem_cons_self ..)
  have hown : w.ownsRow 0 T z (.slice (some ⟨b, 0, none⟩) n cap) n xs := hhold.now
  obtain ⟨hxl, hrow⟩ := hown
  rcases hrow with ⟨h, _⟩ | ⟨g', cap', cur, hv', h3, h4, h5, h6, h7, h8⟩
  · cases h
  cases hv'
  have hB : BoxT w b T cur.toList := by unfold BoxT; simpa using h4
  have hlen : n * z ≤ cur.toList.length := by
    have := congrArg List.length h8
    rw [List.length_take, hxl] at this; omega
  obtain ⟨⟨s1, s2, s3, s4⟩, s5⟩ := hb.see w hm.r
  have hfl := flatMap_len e z hz.len ys
  have hkm : k ≤ m := by rw [← hk]; exact Nat.min_le_left _ _
  have hkz : k * z ≤ m * z := Nat.mul_le_mul_right z hkm
  have hvl : ((ys.flatMap e).take (k * z)).length = k * z := by rw [List.length_take, hfl, ← s5]; omega
  have hfc : (Builtin.firstCells z k (.slice ad m c)).run P w = .ok ((ys.flatMap e).take (k * z)).toArray w := by
    by_cases hne : ys.flatMap e = []
    · have h0 : k * z = 0 := by rw [hne] at hvl; simpa using hvl.symm
      cases ad with
      | none => rw [hne]; simp [Builtin.firstCells, Sem.run_pure]
      | some p =>
        rw [hne]
        have := run_loadCells (P := P) (w := w) p 0 (fun _ => undef) (fun j hj => by omega)
        simp only [Builtin.firstCells, h0]
        simpa using this
    · obtain ⟨b2, off, q1, q2, q3⟩ := s4 hne
      subst q1
      refine load_run (P := P) (w := w) (fun j v hj => q3 j v ?_) hvl
      rw [List.getElem?_take] at hj
      split at hj
      · exact hj
      · cases hj
  obtain ⟨w', r1, r2, r3, r4⟩ := storeCells_runT (P := P) b doff T ((ys.flatMap e).take (k * z)) 0 w _ hB (by omega) (fun v hv => by
    obtain ⟨y, _, hy⟩ := List.mem_flatMap.1 (List.mem_of_mem_take hv)
    exact List.all_eq_true.1 (h1 y) v hy)
  rw [Nat.add_zero] at r2
  refine ⟨fun f _ => fof_fn _ f, ?_⟩
  rw [semAt_plain _ _ _ (by intro c h; cases h)]
  have hrun : (execOp a.eval ⟨d, .call ⟨.builtin .copy, #[x, y], #[t, t']⟩, ty, pos, af, g⟩).run P w = .ok (.value (I (k : Int))) w' := by
    have : (Builtin.copy_ #[t, t'] ty #[.slice (some ⟨b, doff, none⟩) dn dc, .slice ad m c]).run P w = .ok (I (k : Int)) w' := by
      simp [Builtin.copy_, Builtin.lenOf, Sem.run_bind, Sem.run_pure, Result.andThen, hu, hS, hk, hfc, r1, goInt]
    simp only [execOp, resolve, invoke, builtin, Sem.run_bind, Sem.run_pure, Result.andThen_ok, List.map_toArray, List.map_cons, List.map_nil, hs.eval hx, hs.eval hy, this]
  rw [hrun]
  have hnew : w'.ownsRow 0 T z (.slice (some ⟨b, 0, none⟩) n cap) n (splice xs doff ((ys.flatMap e).take (k * z))) := by
    refine ⟨by rw [splice_len, hxl], .inr ⟨b, cap, (splice cur.toList doff ((ys.flatMap e).take (k * z))).toArray, rfl, h3, r2, h5, h6, ?_, ?_⟩⟩
    · have e : (splice cur.toList doff ((ys.flatMap e).take (k * z))).length = cur.toList.length := splice_len _ _ _
      simp only [List.size_toArray, e, Array.length_toList, h7]
    · show (splice cur.toList doff ((ys.flatMap e).take (k * z))).take (n * z) = _
      rw [splice_take _ _ _ _ (by omega), h8]
  refine hK () w' M ?_
  have := hm2.swap (C := [ow (.slice (some ⟨b, 0, none⟩) n cap) T z n xs]) (D := H') (C' := [ow (.slice (some ⟨b, 0, none⟩) n cap) T z n (splice xs doff ((ys.flatMap e).take (k * z)))]) (R' := fun _ => True) M (r3.weaken fun i _ hi => ⟨ow (.slice (some ⟨b, 0, none⟩) n cap) T z n xs, by simp, by cases hi; rfl⟩) (fun _ h => h) (fun _ h => .inl h)
    (fun b hb => by rw [r4]; exact hm.bd b hb) (by intro c hc; simp at hc; subst hc; exact ow_holds hnew)
    (by
      intro c hc b' hb'
      simp at hc; subst hc
      exact ⟨hm2.own _ (List.mem_cons_self ..) _ hb', .inl ⟨ow (.slice (some ⟨b, 0, none⟩) n cap) T z n xs, by simp, hb'⟩⟩) (by simp) (fun _ _ => trivial)
  exact this.know fun w h => h.2
end
end Go.Proofs.YthpkgabckklojaaGreat

/- Steps of a walk: a whole array that lies in a block, as a slice. Nothing is asked. -/
namespace Go.Proofs.YthpkgabckklojaaGreat
open Go.RowKit Go.Shelf

section
variable {P : Program} {st : Sto} {d : Option Nat} {ty : TypeId} {pos : String} {af : Array Edge} {g : Option (Nat × Bool)}
theorem det_sliceArr {x : Operand} {t E b off n z : Nat} (hx : opnd st x = some (.pointer (some ⟨b, off, none⟩)))
    (hu : ∀ w, (underlying t).run P w = .ok (.array n E) w) (hS : ∀ w, (sizeOf E).run P w = .ok z w) : PDet P ⟨d, .slice t x none none none, ty, pos, af, g⟩ st (.slice (some ⟨b, off, none⟩) n n) := fun N ac w hst => by
  simp [execOp, hst.eval hx, Instr.sliceAt, Instr.sliceBounds, Sem.run_bind, Sem.run_pure, Result.andThen, hu, hS, Instr.sureAddr, addr_add]
end
end Go.Proofs.YthpkgabckklojaaGreat

/- What a call has made itself is frozen, though it was handed a map that it writes. Nothing is asked. -/
namespace Go.Proofs.YthpkgabckklojaaGreat
open Go.RowKit Go.Shelf

section
variable {X : Ctx} {P : Program} {st : Sto} {H H' H0 H'' : List Chunk} {R R0 : World → Prop} {k : Kont} {ops : Array Oper} {fuel : Nat} {listed : Array Bool} {tl : List Nat} {rest : List Oper} {Q : Exit → Act → World → Prop}
theorem Ok.freezeM {a : Act} {w : World} {c : Chunk} {κ ν : Type} {ek : κ → Value} {ev : ν → Value} {f : κ → Option ν} (m : Nat) [hp : Pick H c H'] [hq : MapPick H' m ek ev f H''] (hF : ∀ b, X.Fp b → b = m) (h : Ok X st H R a w) : Ok X st H' (KAnd c.says R) a w := by
  obtain ⟨h1, M, Ds, h2, hm⟩ := h
  have hm := hm.perm hp.perm
  have hc := hm.hold c (by simp)
  have hd := List.pairwise_cons.1 hm.dis
  refine ⟨h1, fun b => M b ∧ ¬ c.own b, Ds, h2, ⟨fun b hb => hm.bd b hb.1, fun x hx => hm.hold x (by simp [hx]), fun x hx b hb => ⟨hm.own x (by simp [hx]) b hb, fun hcb => hd.1 x hx b hcb hb⟩, fun x hx => hm.fp x (by simp [hx]), hd.2, fun w' hw => ⟨?_, hm.keep w' (hw.weaken fun _ _ h => h.1)⟩, hm.mv, fun b hb => ⟨hm.m0 b hb, fun hcb => ?_⟩, fun b hb => hm.m1 b hb.1, hm.mks, fun D hD => ⟨hm.mkM D hD, fun hcb => hm.mkH D hD c (by simp) hcb⟩, fun D hD x hx => hm.mkH D hD x (by simp [hx]), hm.m2, hm.mk0⟩⟩
  · exact hc.says w' hw.size fun b hb => hw.block b (hc.bd b hb) fun hn => hn.2 hb
  · have h3 := hm.m2 b hb
    rcases hm.fp c (by simp) b hcb with h4 | h4
    · exact hd.1 (mp m ek ev f) (hq.perm.mem_iff.2 (List.mem_cons_self ..)) b hcb (hF b h4)
    · omega
theorem JE_keepB {e : Exit} {cs : List Value} {κ ν : Type} {f : κ → Option ν} (b m : Nat) (ek : κ → Value) (ev : ν → Value) [hp : BoxPick H b cs H'] [hq : MapPick H' m ek ev f H''] (hF : ∀ b, X.Fp b → b = m) (h : JE X P e k st H' (KAnd (KBox b cs) R)) : JE X P e k st H R := fun a w ho => by
  have := pick_of_bx (cs := cs) (H := H) (H' := H') b
  exact h a w (ho.freezeM (hq := hq) (c := bx b cs) m hF)
theorem JC_keepB {c : Code} {cs : List Value} {κ ν : Type} {f : κ → Option ν} (b m : Nat) (ek : κ → Value) (ev : ν → Value) [hp : BoxPick H b cs H'] [hq : MapPick H' m ek ev f H''] (hF : ∀ b, X.Fp b → b = m) (h : JC X P c k st H' (KAnd (KBox b cs) R)) : JC X P c k st H R := fun a w ho => by
  have := pick_of_bx (cs := cs) (H := H) (H' := H') b
  exact h a w (ho.freezeM (hq := hq) (c := bx b cs) m hF)
theorem JA_litM {α : Type} {enc : α → List Value} {cs : List Value} {κ ν : Type} {f : κ → Option ν} (b m n : Nat) (ek : κ → Value) (ev : ν → Value) (xs : List α) [hp : BoxPick H b cs H'] [hq : MapPick H' m ek ev f H''] [hi : HIn H' H0] (hF : ∀ b, X.Fp b → b = m) (hc : cs = xs.flatMap enc) (hn : n = xs.length) (hm : n ≤ maxLen)
    (h : JA X P ops k tl H0 R0 fuel listed st H' (KAnd (KSl (some ⟨b, 0, none⟩) n n enc xs) R)) : JA X P ops k tl H0 R0 fuel listed st H R := fun hs a w ho => by
  have := pick_of_bx (cs := cs) (H := H) (H' := H') b
  exact h ⟨hi.sub, fun w hw => hs.2 w hw.2⟩ a w ((ho.freezeM (hq := hq) (c := bx b cs) m hF).know fun w hw => ⟨KSl_of_box2 hc hn hm hw.1, hw.2⟩)
theorem fpM {N : Nat} {w0 : World} {M0 : Nat → Prop} {κ ν : Type} {ek : κ → Value} {ev : ν → Value} {f : κ → Option ν} {m : Nat} : ∀ b, (mkX N w0 (OwnOf [mp m ek ev f]) M0).Fp b → b = m := fun b ⟨c, hc, h⟩ => by
  rw [List.mem_singleton] at hc
  subst hc
  exact h
end
end Go.Proofs.YthpkgabckklojaaGreat

/- What a call has made itself is frozen, though it was handed pieces that it writes: they are other pieces. Nothing is asked. -/
namespace Go.Proofs.YthpkgabckklojaaGreat
open Go.RowKit Go.Shelf

/-- The pieces handed in are still held. -/
class FpIn (L H : List Chunk) : Prop where
  sub : ∀ b, OwnOf L b → ∃ c ∈ H, c.own b
instance {H : List Chunk} : FpIn [] H := ⟨fun b ⟨c, hc, _⟩ => by cases hc⟩
instance {H L : List Chunk} {b : Nat} {cs cs' : List Value} [hb : BoxAt H b cs'] [hl : FpIn L H] : FpIn (bx b cs :: L) H := ⟨fun x ⟨c, hc, hx⟩ => by
  rcases List.mem_cons.1 hc with rfl | hc
  · exact ⟨bx b cs', hb.mem, hx⟩
  · exact hl.sub x ⟨c, hc, hx⟩⟩
instance {H L1 L2 : List Chunk} [h1 : FpIn L1 H] [h2 : FpIn L2 H] : FpIn (L1 ++ L2) H := ⟨fun x ⟨c, hc, hx⟩ => by
  rcases List.mem_append.1 hc with hc | hc
  · exact h1.sub x ⟨c, hc, hx⟩
  · exact h2.sub x ⟨c, hc, hx⟩⟩
section
variable {X : Ctx} {P : Program} {st : Sto} {H H' H0 L : List Chunk} {R R0 : World → Prop} {k : Kont} {ops : Array Oper} {fuel : Nat} {listed : Array Bool} {tl : List Nat} {rest : List Oper} {Q : Exit → Act → World → Prop}
theorem Ok.freezeF {a : Act} {w : World} {c : Chunk} [hp : Pick H c H'] [hf : FpIn L H'] (hF : X.Fp = OwnOf L) (h : Ok X st H R a w) : Ok X st H' (KAnd c.says R) a w := by
  obtain ⟨h1, M, Ds, h2, hm⟩ := h
  have hm := hm.perm hp.perm
  have hc := hm.hold c (by simp)
  have hd := List.pairwise_cons.1 hm.dis
  refine ⟨h1, fun b => M b ∧ ¬ c.own b, Ds, h2, ⟨fun b hb => hm.bd b hb.1, fun x hx => hm.hold x (by simp [hx]), fun x hx b hb => ⟨hm.own x (by simp [hx]) b hb, fun hcb => hd.1 x hx b hcb hb⟩, fun x hx => hm.fp x (by simp [hx]), hd.2, fun w' hw => ⟨?_, hm.keep w' (hw.weaken fun _ _ h => h.1)⟩, hm.mv, fun b hb => ⟨hm.m0 b hb, fun hcb => ?_⟩, fun b hb => hm.m1 b hb.1, hm.mks, fun D hD => ⟨hm.mkM D hD, fun hcb => hm.mkH D hD c (by simp) hcb⟩, fun D hD x hx => hm.mkH D hD x (by simp [hx]), hm.m2, hm.mk0⟩⟩
  · exact hc.says w' hw.size fun b hb => hw.block b (hc.bd b hb) fun hn => hn.2 hb
  · have h3 := hm.m2 b hb
    rcases hm.fp c (by simp) b hcb with h4 | h4
    · rw [hF] at h4
      obtain ⟨c', hc', hb'⟩ := hf.sub b h4
      exact hd.1 c' hc' b hcb hb'
    · omega
theorem JE_keepF {e : Exit} {cs : List Value} (b : Nat) [hp : BoxPick H b cs H'] [hf : FpIn L H'] (hF : X.Fp = OwnOf L) (h : JE X P e k st H' (KAnd (KBox b cs) R)) : JE X P e k st H R := fun a w ho => by
  have := pick_of_bx (cs := cs) (H := H) (H' := H') b
  exact h a w (ho.freezeF (c := bx b cs) hF)
theorem JC_keepF {c : Code} {cs : List Value} (b : Nat) [hp : BoxPick H b cs H'] [hf : FpIn L H'] (hF : X.Fp = OwnOf L) (h : JC X P c k st H' (KAnd (KBox b cs) R)) : JC X P c k st H R := fun a w ho => by
  have := pick_of_bx (cs := cs) (H := H) (H' := H') b
  exact h a w (ho.freezeF (c := bx b cs) hF)
theorem JL_keepF {cs : List Value} (b : Nat) [hp : BoxPick H b cs H'] [hf : FpIn L H'] (hF : X.Fp = OwnOf L) (h : JL X P ops Q rest st H' (KAnd (KBox b cs) R)) : JL X P ops Q rest st H R := fun a w ho => by
  have := pick_of_bx (cs := cs) (H := H) (H' := H') b
  exact h a w (ho.freezeF (c := bx b cs) hF)
theorem JA_litF {α : Type} {enc : α → List Value} {cs : List Value} (b n : Nat) (xs : List α) [hp : BoxPick H b cs H'] [hi : HIn H' H0] [hf : FpIn L H'] (hF : X.Fp = OwnOf L) (hc : cs = xs.flatMap enc) (hn : n = xs.length) (hm : n ≤ maxLen)
    (h : JA X P ops k tl H0 R0 fuel listed st H' (KAnd (KSl (some ⟨b, 0, none⟩) n n enc xs) R)) : JA X P ops k tl H0 R0 fuel listed st H R := fun hs a w ho => by
  have := pick_of_bx (cs := cs) (H := H) (H' := H') b
  exact h ⟨hi.sub, fun w hw => hs.2 w hw.2⟩ a w ((ho.freezeF (c := bx b cs) hF).know fun w hw => ⟨KSl_of_box2 hc hn hm hw.1, hw.2⟩)
end
end Go.Proofs.YthpkgabckklojaaGreat

/- Steps of a walk: the builtin clear, within a slice of the call's own. Nothing is asked. -/
namespace Go.Proofs.YthpkgabckklojaaGreat
open Go.RowKit Go.Shelf

theorem range_rep {α : Type} (f : Nat → α) (z : Nat) : ∀ n : Nat, (List.range (n * z)).map (fun i => f (i % z)) = (List.replicate n ((List.range z).map f)).flatten
  | 0 => by simp
  | n + 1 => by
    rw [Nat.succ_mul, List.range_add, List.map_append, range_rep f z n, List.replicate_succ', List.flatten_append, List.map_map]
    congr 1
    rw [List.flatten_singleton]
    refine List.map_congr_left fun i hi => ?_
    have := List.mem_range.1 hi
    show f ((n * z + i) % z) = f i
    rw [Nat.mul_comm, Nat.mul_add_mod, Nat.mod_eq_of_lt this]
theorem zeroCells_rep (zs : List Value) (n : Nat) : (Builtin.zeroCells zs.toArray n).toList = (List.replicate n zs).flatten := by
  unfold Builtin.zeroCells
  rw [Array.toList_map, Array.toList_range]
  have h := range_rep (fun i => zs.toArray[i]!) zs.length n
  rw [List.size_toArray, h]
  congr 2
  apply List.ext_getElem
  · simp
  · intro i h1 h2; simp [h2]
section
variable {X : Ctx} {P : Program} {st : Sto} {H H' : List Chunk} {R : World → Prop} {d : Option Nat} {ty : TypeId} {pos : String} {af : Array Edge} {g : Option (Nat × Bool)}
theorem jo_clearO {x : Operand} {t E b T z n cap k dc doff : Nat} {xs : List Value} {zs : List Value} {zv : Value} (xs' : List Value) (hx : opnd st x = some (.slice (some ⟨b, doff, none⟩) k dc)) [hp : RowPick H b T z n cap xs H']
    (hu : ∀ w, (underlying t).run P w = .ok (.slice E) w) (hZ : ∀ w, (zeroValue E).run P w = .ok zv w) (hzc : zv.cells = zs.toArray) (hcs : splice xs doff (List.replicate k zs).flatten = xs') (hb : doff + k * zs.length ≤ xs.length) (h1 : zs.all (·.oneCell') = true) :
    JO X P ⟨d, .call ⟨.builtin .clear, #[x], #[t]⟩, ty, pos, af, g⟩ st H R (fun _ : Unit => .tuple #[]) (fun _ => ow (.slice (some ⟨b, 0, none⟩) n cap) T z n xs' :: H') (fun _ => R) := by
  intro a w M Ds K Q hs hm hK
  subst hcs
  have hm2 := hm.perm hp.perm
  have hhold := hm2.hold _ (List.mem_cons_self ..)
  have hown : w.ownsRow 0 T z (.slice (some ⟨b, 0, none⟩) n cap) n xs := hhold.now
  obtain ⟨hxl, hrow⟩ := hown
  rcases hrow with ⟨h, _⟩ | ⟨g', cap', cur, hv', h3, h4, h5, h6, h7, h8⟩
  · cases h
  cases hv'
  have hB : BoxT w b T cur.toList := by unfold BoxT; simpa using h4
  have hlen : n * z ≤ cur.toList.length := by
    have := congrArg List.length h8
    rw [List.length_take, hxl] at this; omega
  have hvl : (List.replicate k zs).flatten.length = k * zs.length := by simp
  obtain ⟨w', r1, r2, r3, r4⟩ := storeCells_runT (P := P) b doff T (List.replicate k zs).flatten 0 w _ hB (by omega) (fun v hv => by
    obtain ⟨l, hl, hvl⟩ := List.mem_flatten.1 hv
    rw [List.eq_of_mem_replicate hl] at hvl
    exact List.all_eq_true.1 h1 v hvl)
  rw [Nat.add_zero] at r2
  refine ⟨fun f _ => fof_fn _ f, ?_⟩
  rw [semAt_plain _ _ _ (by intro c h; cases h)]
  have hrun : (execOp a.eval ⟨d, .call ⟨.builtin .clear, #[x], #[t]⟩, ty, pos, af, g⟩).run P w = .ok (.value (.tuple #[])) w' := by
    have : (Builtin.clear_ #[t] ty #[.slice (some ⟨b, doff, none⟩) k dc]).run P w = .ok (.tuple #[]) w' := by
      cases k with
      | zero =>
        have e : w' = w := by
          have : (storeCells ⟨b, doff, none⟩ (List.replicate 0 zs).flatten 0).run P w = .ok () w := rfl
          rw [this] at r1; injection r1 with _ r1; exact r1.symm
        subst e
        simp [Builtin.clear_, Sem.run_bind, Sem.run_pure, Result.andThen, hu]
      | succ k =>
        have r1' : (storeCells ⟨b, doff, none⟩ (Builtin.zeroCells zv.cells (k + 1)).toList).run P w = .ok () w' := by rw [hzc, zeroCells_rep]; exact r1
        simp [Builtin.clear_, Sem.run_bind, Sem.run_pure, Result.andThen, hu, hZ, r1']
    simp only [execOp, resolve, invoke, builtin, Sem.run_bind, Sem.run_pure, Result.andThen_ok, List.map_toArray, List.map_cons, List.map_nil, hs.eval hx, this]
  rw [hrun]
  have hnew : w'.ownsRow 0 T z (.slice (some ⟨b, 0, none⟩) n cap) n (splice xs doff (List.replicate k zs).flatten) := by
    refine ⟨by rw [splice_len, hxl], .inr ⟨b, cap, (splice cur.toList doff (List.replicate k zs).flatten).toArray, rfl, h3, r2, h5, h6, ?_, ?_⟩⟩
    · have e : (splice cur.toList doff (List.replicate k zs).flatten).length = cur.toList.length := splice_len _ _ _
      simp only [List.size_toArray, e, Array.length_toList, h7]
    · show (splice cur.toList doff (List.replicate k zs).flatten).take (n * z) = _
      rw [splice_take _ _ _ _ (by omega), h8]
  refine hK () w' M ?_
  have := hm2.swap (C := [ow (.slice (some ⟨b, 0, none⟩) n cap) T z n xs]) (D := H') (C' := [ow (.slice (some ⟨b, 0, none⟩) n cap) T z n (splice xs doff (List.replicate k zs).flatten)]) (R' := fun _ => True) M (r3.weaken fun i _ hi => ⟨ow (.slice (some ⟨b, 0, none⟩) n cap) T z n xs, by simp, by cases hi; rfl⟩) (fun _ h => h) (fun _ h => .inl h)
    (fun b hb => by rw [r4]; exact hm.bd b hb) (by intro c hc; simp at hc; subst hc; exact ow_holds hnew)
    (by
      intro c hc b' hb'
      simp at hc; subst hc
      exact ⟨hm2.own _ (List.mem_cons_self ..) _ hb', .inl ⟨ow (.slice (some ⟨b, 0, none⟩) n cap) T z n xs, by simp, hb'⟩⟩) (by simp) (fun _ _ => trivial)
  exact this.know fun w h => h.2
theorem jo_clearD {x : Operand} {t E b T z n cap k dc m : Nat} {xs : List Value} {zs : List Value} {zv : Value} (xs' : List Value) (hm : m < n) (hx : opnd st x = some (.slice (dropA (some ⟨b, 0, none⟩) m cap z) k dc)) [hp : RowPick H b T z n cap xs H']
    (hu : ∀ w, (underlying t).run P w = .ok (.slice E) w) (hZ : ∀ w, (zeroValue E).run P w = .ok zv w) (hzc : zv.cells = zs.toArray) (hz : 0 < z) (hcs : splice xs (m * z) (List.replicate k zs).flatten = xs') (hb : m * z + k * zs.length ≤ xs.length) (h1 : zs.all (·.oneCell') = true) :
    JO X P ⟨d, .call ⟨.builtin .clear, #[x], #[t]⟩, ty, pos, af, g⟩ st H R (fun _ : Unit => .tuple #[]) (fun _ => ow (.slice (some ⟨b, 0, none⟩) n cap) T z n xs' :: H') (fun _ => R) := by
  intro a w M Ds K Q hs hmm hK
  have hm2 := hmm.perm hp.perm
  have hown : w.ownsRow 0 T z (.slice (some ⟨b, 0, none⟩) n cap) n xs := (hm2.hold _ (List.mem_cons_self ..)).now
  have hc : n ≤ cap := by
    obtain ⟨hxl, hrow⟩ := hown
    rcases hrow with ⟨h, _⟩ | ⟨g', cap', cur, hv', h3, h4, h5, h6, h7, h8⟩
    · cases h
    cases hv'
    have h9 := congrArg List.length h8
    rw [List.length_take, hxl] at h9
    have h10 : n * z ≤ cur.toList.length := by omega
    simp only [Array.length_toList, h7] at h10
    exact Nat.le_of_mul_le_mul_right h10 hz
  have e : dropA (some (⟨b, 0, none⟩ : Addr)) m cap z = some ⟨b, m * z, none⟩ := by
    unfold dropA
    rw [if_neg (by omega)]
    simp [addr_add]
  rw [e] at hx
  exact jo_clearO (hp := hp) xs' hx hu hZ hzc hcs hb h1 a w M Ds K Q hs hmm hK
end
end Go.Proofs.YthpkgabckklojaaGreat

/- Contracts, turned. Nothing is asked. -/
namespace Go.Proofs.YthpkgabckklojaaGreat
open Go.RowKit Go.Shelf

theorem Cr.conv {P : Program} {f : FuncId} {args : List Value} {pre : World → Prop} {α : Type} {ret ret' : α → Value} {post post' : α → World → Prop} (h : Cr P f args pre ret post) (h1 : ∀ x, ret x = ret' x) (h2 : ∀ x w, post x w → post' x w) : Cr P f args pre ret' post' := by
  rw [← show ret = ret' from funext h1]
  exact h.mono (fun _ h => h) h2
theorem Cr.toCv {P : Program} {f : FuncId} {args : List Value} {pre : World → Prop} {α : Type} {ret : α → Value} {post : α → World → Prop} {v : Value} (h : Cr P f args pre ret post) (hv : ∀ x, ret x = v) : Cv P f args pre v := fun M w a b c d =>
  (h M w a b c d).mono fun e w' ⟨x, M', h1, h2, h3, h4, h5, h6, h7, _⟩ => ⟨(), M', by rw [h1, hv], h2, h3, h4, h5, h6, h7, fun _ _ => trivial⟩
theorem Cv.cr {P : Program} {f : FuncId} {args : List Value} {pre : World → Prop} {v : Value} {α : Type} {ret : α → Value} {post : α → World → Prop} (h : Cv P f args pre v) (x : α) (hv : ret x = v) (hp : ∀ w, post x w) : Cr P f args pre ret post := by
  intro M w a1 a2 a3 a4
  refine Calls.mono (h M w a1 a2 a3 a4) ?_
  rintro e w' ⟨_, M', b1, b2, b3, b4, b5, b6, b7, b8⟩
  exact ⟨x, M', by rw [hv]; exact b1, b2, b3, b4, b5, (fun c hc => by cases hc), List.Pairwise.nil, fun w2 _ => hp w2⟩
end Go.Proofs.YthpkgabckklojaaGreat

/- A grid of rows that were appended to: rows of the call's own, as they are gathered in a slice of slices. Nothing is asked. -/
namespace Go.Proofs.YthpkgabckklojaaGreat
open Go.RowKit Go.Shelf

/-- What a block begins with. -/
def BoxP (w : World) (b : Nat) (xs : List Value) : Prop := ∃ (T : TypeId) (cs : List Value), w.heap[b]? = some (.cells cs.toArray T (0, 0)) ∧ cs.take xs.length = xs
/-- Rows of the call's own that were appended to: where each lies, and what it begins with. -/
def grq (bs : List Nat) (F : Nat → List Value) : Chunk := ⟨(· ∈ bs), fun w => bs.Nodup ∧ ∀ i b, bs[i]? = some b → BoxP w b (F i)⟩
theorem BoxP.lt {w : World} {b : Nat} {xs : List Value} (h : BoxP w b xs) : b < w.heap.size := by
  obtain ⟨T, cs, h, _⟩ := h
  exact (show Box w b cs from ⟨T, h⟩).lt
theorem grq_holds {bs : List Nat} {F : Nat → List Value} {w : World} (h : (grq bs F).says w) : (grq bs F).holds w := by
  refine ⟨fun b hb => ?_, fun w' _ he => ⟨h.1, fun i b hb => ?_⟩⟩
  · obtain ⟨i, hi, e⟩ := List.getElem_of_mem (show b ∈ bs from hb)
    exact (h.2 i b (by rw [List.getElem?_eq_getElem hi, e])).lt
  · obtain ⟨T, cs, h2, h3⟩ := h.2 i b hb
    exact ⟨T, cs, (he b (show b ∈ bs from List.mem_of_getElem? hb)).trans h2, h3⟩
theorem grq_congr {bs : List Nat} {F F' : Nat → List Value} (h : ∀ i, i < bs.length → F i = F' i) : grq bs F = grq bs F' := by
  unfold grq
  congr 1
  funext w
  refine propext (and_congr Iff.rfl (forall_congr' fun i => forall_congr' fun b => ⟨fun h2 hb => ?_, fun h2 hb => ?_⟩))
  · rw [← h i (List.getElem?_eq_some_iff.1 hb).1]; exact h2 hb
  · rw [h i (List.getElem?_eq_some_iff.1 hb).1]; exact h2 hb
class GrqAt (H : List Chunk) (bs : outParam (List Nat)) (F : outParam (Nat → List Value)) : Prop where
  mem : grq bs F ∈ H
instance (H : List Chunk) (bs : List Nat) (F : Nat → List Value) : GrqAt (grq bs F :: H) bs F := ⟨List.mem_cons_self ..⟩
instance (H : List Chunk) (bs : List Nat) (F : Nat → List Value) (c : Chunk) [h : GrqAt H bs F] : GrqAt (c :: H) bs F := ⟨List.mem_cons_of_mem _ h.mem⟩
class GrqPick (H : List Chunk) (bs : outParam (List Nat)) (F : outParam (Nat → List Value)) (H' : outParam (List Chunk)) : Prop where
  perm : H.Perm (grq bs F :: H')
instance (H : List Chunk) (bs : List Nat) (F : Nat → List Value) : GrqPick (grq bs F :: H) bs F H := ⟨List.Perm.refl _⟩
instance (H H' : List Chunk) (bs : List Nat) (F : Nat → List Value) (c : Chunk) [h : GrqPick H bs F H'] : GrqPick (c :: H) bs F (c :: H') := ⟨(h.perm.cons c).trans (List.Perm.swap _ _ _)⟩
instance (A B B' : List Chunk) (bs : List Nat) (F : Nat → List Value) [h : GrqPick B bs F B'] : GrqPick (A ++ B) bs F (A ++ B') := ⟨(h.perm.append_left A).trans List.perm_middle⟩
theorem ht_grq {H H' L D : List Chunk} {bs : List Nat} {F F' : Nat → List Value} [h : GrqPick H bs F H'] (e : ∀ i, i < bs.length → F i = F' i) (h2 : HTake H' L D) : HTake H (grq bs F' :: L) D := by
  rw [← grq_congr e]; exact h.perm.trans (List.Perm.cons _ h2)
section
variable {X : Ctx} {P : Program} {st : Sto} {H H' H1 H2 : List Chunk} {R : World → Prop} {k : Kont}
theorem JC_grq0 {c : Code} (F : Nat → List Value) (h : JC X P c k st (grq [] F :: H) R) : JC X P c k st H R := fun a w ho => by
  obtain ⟨h1, M, Ds, h2, hm⟩ := ho
  exact h a w ⟨h1, M, Ds, h2, hm.more (fun b hb => by cases hb) (grq_holds ⟨List.nodup_nil, fun i b hb => by simp at hb⟩)⟩
/-- A row that was made goes to the others. -/
theorem JE_grqAdd {e : Exit} {T z n cap : Nat} {xs : List Value} {bs : List Nat} {F : Nat → List Value} (b : Nat) (F' : Nat → List Value) [hp : RowPick H b T z n cap xs H1] [hg : GrqPick H1 bs F H2] (h1 : ∀ i, i < bs.length → F i = F' i) (h2 : xs = F' bs.length)
    (h : JE X P e k st (grq (bs ++ [b]) F' :: H2) R) : JE X P e k st H R := fun a w ho => by
  obtain ⟨q1, M, Ds, q2, hm⟩ := ho
  have hm2 := (hm.perm hp.perm).perm (hg.perm.cons _)
  have hrow := (hm2.hold _ (List.mem_cons_self ..)).now
  have hgr := (hm2.hold (grq bs F) (by simp)).now
  have hdis := (List.pairwise_cons.1 hm2.dis).1 (grq bs F) (by simp)
  obtain ⟨hxl, hrow⟩ := hrow
  have hbox : BoxP w b xs := by
    rcases hrow with ⟨h, _⟩ | ⟨g', cap', cur, hv', h3, h4, h5, h6, h7, h8⟩
    · cases h
    · cases hv'
      exact ⟨T, cur.toList, by simpa using h4, by rw [hxl]; exact h8⟩
  have hbn : b ∉ bs := fun hb => hdis b (show (Value.slice (some (⟨b, 0, none⟩ : Addr)) n cap).ownBlock = some b from rfl) hb
  refine h a w ⟨q1, M, Ds, q2, hm2.merge (fun x hx => ?_) (grq_holds ⟨?_, fun i x hx => ?_⟩)⟩
  · rcases List.mem_append.1 (show x ∈ bs ++ [b] from hx) with hx | hx
    · exact .inr hx
    · rw [List.mem_singleton.1 hx]; exact .inl rfl
  · exact List.nodup_append.2 ⟨hgr.1, by simp, fun x hx y hy e => hbn (by rw [← List.mem_singleton.1 hy, ← e]; exact hx)⟩
  · by_cases hi : i < bs.length
    · rw [List.getElem?_append_left hi] at hx
      rw [← h1 i hi]
      exact hgr.2 i x hx
    · rw [List.getElem?_append_right (by omega)] at hx
      have hi2 : i - bs.length = 0 := by
        apply Classical.byContradiction
        intro hne
        rw [List.getElem?_eq_none (by simp; omega)] at hx
        cases hx
      rw [hi2] at hx
      simp only [List.getElem?_cons_zero, Option.some.injEq] at hx
      subst hx
      rw [show i = bs.length by omega, ← h2]
      exact hbox
variable {d : Option Nat} {ty : TypeId} {pos : String} {af : Array Edge} {g : Option (Nat × Bool)}
theorem det_loadQ {x : Operand} {t b off m : Nat} {bs : List Nat} {F : Nat → List Value} {vs : List Value} (i : Nat) (hx : opnd st x = some (.pointer (some ⟨b, off, none⟩))) [hb : GrqAt H bs F] (hi : bs[i]? = some b) (hA : ∀ w, (isAgg t).run P w = .ok true w) (hS : ∀ w, (sizeOf t).run P w = .ok m w) (hv : ((F i).drop off).take m = vs) (hm' : vs.length = m) :
    Det X P ⟨d, .load t x, ty, pos, af, g⟩ st H R (.agg vs.toArray) := fun ac w M Ds hst hm => by
  obtain ⟨T, cs, hbx, hcs⟩ := (hm.hold _ hb.mem).now.2 i b hi
  have hv2 : (cs.drop off).take m = vs := by
    rw [← hcs, List.drop_take, List.take_take] at hv
    have hl := congrArg List.length hv
    rw [List.length_take, List.length_drop, hm'] at hl
    rw [← hv]
    congr 1; omega
  have hr := cells_run (P := P) (show Box w b cs from ⟨T, hbx⟩) off m vs hv2 hm'
  simp [execOp, hst.eval hx, Instr.loadAt, Instr.sureAddr, loadVar, Sem.run_bind, hA, hS, Result.andThen, hr]
theorem det_loadQ1 {x : Operand} {t b off : Nat} {bs : List Nat} {F : Nat → List Value} {v : Value} (i : Nat) (hx : opnd st x = some (.pointer (some ⟨b, off, none⟩))) [hb : GrqAt H bs F] (hi : bs[i]? = some b) (hA : ∀ w, (isAgg t).run P w = .ok false w) (hv : (F i)[off]? = some v) :
    Det X P ⟨d, .load t x, ty, pos, af, g⟩ st H R v := fun ac w M Ds hst hm => by
  obtain ⟨T, cs, hbx, hcs⟩ := (hm.hold _ hb.mem).now.2 i b hi
  have hv2 : cs[off]? = some v := by
    rw [← hcs, List.getElem?_take] at hv
    split at hv
    · exact hv
    · cases hv
  have := run_load (P := P) (w := w) ⟨b, off, none⟩ .plain
  simp [execOp, hst.eval hx, Instr.loadAt, Instr.sureAddr, loadVar, Sem.run_bind, hA, Result.andThen, (show Box w b cs from ⟨T, hbx⟩).cell off hv2, this]
theorem jo_storeQ {x y : Operand} {t b off : Nat} {bs : List Nat} {F : Nat → List Value} {vs : List Value} {v : Value} (i : Nat) (F' : Nat → List Value) (hx : opnd st x = some (.pointer (some ⟨b, off, none⟩))) (hy : opnd st y = some v) (hv : v.cells = vs.toArray) [hp : GrqPick H bs F H'] (hi : bs[i]? = some b)
    (hcs : splice (F i) off vs = F' i) (hF : ∀ j, j ≠ i → j < bs.length → F j = F' j) (hS : ∀ w, (sizeOf t).run P w = .ok vs.length w) (hl : off + vs.length ≤ (F i).length) (h1 : vs.all (·.oneCell') = true) :
    JO X P ⟨d, .store t x y, ty, pos, af, g⟩ st H R (fun _ : Unit => undef) (fun _ => grq bs F' :: H') (fun _ => R) := by
  intro a w M Ds K Q hs hm hK
  have hm2 := hm.perm hp.perm
  have hgr := (hm2.hold (grq bs F) (by simp)).now
  obtain ⟨T0, cs, hbx, hce⟩ := hgr.2 i b hi
  have hll : (F i).length ≤ cs.length := by
    have := congrArg List.length hce
    rw [List.length_take] at this; omega
  obtain ⟨w', r1, r2, r3, r4⟩ := storeVar_run (P := P) (show Box w b cs from ⟨T0, hbx⟩) t off v hv hS (by omega) h1
  refine ⟨fun f _ => fof_fn _ f, ?_⟩
  rw [semAt_plain _ _ _ (by intro c h; cases h)]
  have hrun : (execOp a.eval ⟨d, .store t x y, ty, pos, af, g⟩).run P w = .ok .skip w' := by
    simp [execOp, hs.eval hx, hs.eval hy, Instr.storeAt, Instr.sureAddr, Sem.run_bind, r1, Result.andThen]
  rw [hrun]
  have hmem : b ∈ bs := List.mem_of_getElem? hi
  have hnew : (grq bs F').says w' := by
    refine ⟨hgr.1, fun j x hq => ?_⟩
    by_cases e : x = b
    · subst e
      have hji : j = i := by
        obtain ⟨l1, e1⟩ := List.getElem?_eq_some_iff.1 hq
        obtain ⟨l2, e2⟩ := List.getElem?_eq_some_iff.1 hi
        exact (List.getElem_inj hgr.1).1 (e1.trans e2.symm)
      subst hji
      obtain ⟨T1, r2⟩ := r2
      refine ⟨T1, _, r2, ?_⟩
      rw [← hcs, splice_len, splice_take _ _ _ _ hl, hce]
    · have hji : j ≠ i := fun e2 => e (by subst e2; rw [hq] at hi; exact Option.some.inj hi)
      rw [← hF j hji (List.getElem?_eq_some_iff.1 hq).1]
      obtain ⟨T, cs2, hT, hc2⟩ := hgr.2 j x hq
      have hlt : x < w.heap.size := (show Box w x cs2 from ⟨T, hT⟩).lt
      exact ⟨T, cs2, (r3.block x hlt e).trans hT, hc2⟩
  refine hK () w' M ?_
  have := hm2.swap (C := [grq bs F]) (D := H') (C' := [grq bs F']) (R' := fun _ => True) M (r3.weaken fun j _ hj => ⟨grq bs F, by simp, by cases hj; exact hmem⟩) (fun _ h => h) (fun _ h => .inl h)
    (fun b hb => by rw [r4]; exact hm.bd b hb) (by intro c hc; simp at hc; subst hc; exact grq_holds hnew)
    (by
      intro c hc b' hb'
      simp at hc; subst hc
      exact ⟨hm2.own _ (List.mem_cons_self ..) _ hb', .inl ⟨grq bs F, by simp, hb'⟩⟩) (by simp) (fun _ _ => trivial)
  exact this.know fun w h => h.2
end
end Go.Proofs.YthpkgabckklojaaGreat

/- A slice that is made, as a block of the call's own. Nothing is asked. -/
namespace Go.Proofs.YthpkgabckklojaaGreat
open Go.RowKit Go.Shelf

section
variable {X : Ctx} {P : Program} {st : Sto} {H H' : List Chunk} {R : World → Prop} {d : Option Nat} {ty : TypeId} {pos : String} {af : Array Edge} {g : Option (Nat × Bool)}
theorem jo_makeBox {x y : Operand} {t T z bytes n : Nat} {kl kc : IntKind} {j : Int} {zv : Value} (cs : List Value) (hc : (madeCells zv.cells (n * z)).toList = cs) (hx : opnd st x = some (.int kl j)) (hy : opnd st y = some (.int kc j)) (hj : j = (n : Int)) (ht : P.underlying t = some (.slice T)) (hi : (P.info? T).map (fun i => (i.zero, i.size, i.bytes)) = some (some zv, z, bytes))
    (hb : bytes * n ≤ 281474976710656) (hn : n ≤ 9223372036854775807) :
    JO X P ⟨d, .makeSlice t x y, ty, pos, af, g⟩ st H R (fun b : Nat => .slice (some ⟨b, 0, none⟩) n n) (fun b => bx b cs :: H) (fun _ => R) := by
  obtain ⟨i, h1, h2, h3, h4⟩ := info_parts hi
  subst h3 h4 hj hc
  refine jo_new (.cells (madeCells zv.cells (n * i.size)) T) _ (fun b => bx b (madeCells zv.cells (n * i.size)).toList) (fun a w hs => ?_)
    (fun w => bx_holds ⟨T, by simpa using heap_alloc_new w (.cells (madeCells zv.cells (n * i.size)) T)⟩)
    (fun b x hx => hx) (by intro c h; cases h)
  have hr := run_make_rowN (P := P) t T i zv ht h1 h2 kl kc n n (Nat.le_refl _) hb hn w
  simp only [execOp, hs.eval hx, hs.eval hy, Sem.run_bind, hr, Result.andThen_ok, Sem.run_pure]
theorem Mem.nilS {M : Nat → Prop} {Ds : List Nat} {w : World} (T z : Nat) (hm : Mem X M Ds H R w) : Mem X M Ds (ow (.slice none 0 0) T z 0 [] :: H) R w := by
  have := hm.swap (C := []) (D := H) (C' := [ow (.slice none 0 0) T z 0 []]) (R' := fun _ => True) (w' := w) M (Moves.refl _) (fun _ h => h) (fun _ h => .inl h) hm.bd
    (by intro c hc; simp at hc; subst hc; exact ow_holds (World.ownsRow_nil _ _ _ _)) (by intro c hc b hb; simp at hc; subst hc; exact absurd (show (Value.slice none 0 0).ownBlock = some b from hb) (by simp [Value.ownBlock])) (by simp) (fun _ _ => trivial)
  exact this.know fun w h => h.2
/-- A known slice that is appended to none: a piece of the call's own more. -/
theorem jo_appendN {α : Type} {e : α → List Value} {x : Operand} {t T z m c : Nat} {ys : List α} {ad : Option Addr} [hz : Rec e z] (E : ElemX P t T z) (hx : opnd st x = some (.slice ad m c)) [hb : Sees R ad m c α e ys] (h1 : ∀ y, (e y).all (·.oneCell') = true) (hn : m ≤ 1000000) :
    JO X P ⟨d, .call ⟨.builtin .append, #[.const (.slice none 0 0), x], #[t, t]⟩, ty, pos, af, g⟩ st H R (fun p : Value => p) (fun p => ow p T z m (ys.flatMap e) :: H) (fun _ => R) := by
  have h := jo_appendK (X := X) (P := P) (st := st) (H := ow (.slice none 0 0) T z 0 [] :: H) (R := R) (d := d) (ty := ty) (pos := pos) (af := af) (g := g) (e := e) (s := .const (.slice none 0 0)) (x := x) (t := t) (n := 0) (m := m) (c := c) (ys := ys) (ad := ad) E rfl hx h1 (by omega)
  simp only [Nat.zero_add, List.nil_append] at h
  exact fun a w M Ds K Q hs hm hK => h a w M Ds K Q hs (hm.nilS T z) hK
end
end Go.Proofs.YthpkgabckklojaaGreat

/- One of the tail of a drawn region that has a guard. Nothing is asked. -/
namespace Go.Proofs.YthpkgabckklojaaGreat
open Go.RowKit Go.Shelf

section
variable {X : Ctx} {P : Program} {st : Sto} {H H' H0 : List Chunk} {R R0 : World → Prop} {k : Kont} {ops : Array Oper} {fuel : Nat} {listed : Array Bool} {tl : List Nat}
theorem JA_gtail {i : Nat} {dst : Option Nat} {op : Op} {ty : TypeId} {pos : String} {af : Array Edge} {α : Type} {v : α → Value} {Hx : α → List Chunk} {Rx : α → World → Prop} (hr : Region.ready .any ops listed = [i]) {j0 d0 : Nat} {want b : Bool} (hi : ops[i]? = some ⟨dst, op, ty, pos, af, some (j0, want)⟩) (hj0 : dstOf ops j0 = some d0) (hb0 : look st d0 = some (.bool b)) (hw : b = want) (hit : tl.contains i = true) (hsz : Nat.blt i listed.size = true) (hN : dstOk dst X.N = true)
    (h : JO X P ⟨dst, op, ty, pos, af, some (j0, want)⟩ st H R v Hx Rx) (hn : ∀ x, JT X P ops k tl H0 R0 fuel (listed.setIfInBounds i true) (putSt dst (v x) st) (Hx x) (Rx x)) : JA X P ops k tl H0 R0 (fuel + 1) listed st H R := by
  intro hs a w ho
  refine ⟨fun h0 => (by rw [hr] at h0; cases h0), fun j hj => ?_⟩
  rw [hr] at hj
  obtain rfl := List.mem_singleton.1 hj
  unfold wpOpIn
  have hwt := yielded_of ho.st hj0 hb0
  subst hw
  simp only [hi, Region.wanted, hwt, beq_self_eq_true, if_true]
  obtain ⟨h1, M, Ds, h2, h3⟩ := ho
  refine h a w M Ds _ _ h1 h3 fun x w' M' hm' => ?_
  have hl : ∃ t ∈ tl, (listed.setIfInBounds j true).getD t false = true := ⟨j, by simpa using hit, by simp [blt_lt hsz]⟩
  exact ⟨.inl hl, hn x hl _ _ (Ok.putSt h1 h2 hN (v x) hm')⟩
theorem JA_skipt {i d : Nat} {op : Op} {ty : TypeId} {pos : String} {af : Array Edge} (hr : Region.ready .any ops listed = [i]) {j0 d0 : Nat} {want b : Bool} (hi : ops[i]? = some ⟨some d, op, ty, pos, af, some (j0, want)⟩) (hj0 : dstOf ops j0 = some d0) (hb0 : look st d0 = some (.bool b)) (hw : b = !want) (hit : tl.contains i = true) (hsz : Nat.blt i listed.size = true) (hN : Nat.blt d X.N = true)
    (hn : JT X P ops k tl H0 R0 fuel (listed.setIfInBounds i true) ((d, undef) :: st) H R) : JA X P ops k tl H0 R0 (fuel + 1) listed st H R := by
  intro hs a w ho
  refine ⟨fun h0 => (by rw [hr] at h0; cases h0), fun j hj => ?_⟩
  rw [hr] at hj
  obtain rfl := List.mem_singleton.1 hj
  unfold wpOpIn
  have hwt := yielded_of ho.st hj0 hb0
  simp only [hi]
  rw [if_neg (by simp [Region.wanted, hwt, hw])]
  obtain ⟨h1, M, Ds, h2, h3⟩ := ho
  have hl : ∃ t ∈ tl, (listed.setIfInBounds j true).getD t false = true := ⟨j, by simpa using hit, by simp [blt_lt hsz]⟩
  exact ⟨fun f _ => fof_fn _ f, .inl hl, hn hl _ w ⟨h1.put (blt_lt hN) _, M, Ds, h2, h3⟩⟩
instance (A B : List Chunk) (bs : List Nat) (F : Nat → List Value) [h : GrqAt A bs F] : GrqAt (A ++ B) bs F := ⟨List.mem_append_left _ h.mem⟩
instance (A B : List Chunk) (bs : List Nat) (F : Nat → List Value) [h : GrqAt B bs F] : GrqAt (A ++ B) bs F := ⟨List.mem_append_right _ h.mem⟩
instance (A A' B : List Chunk) (bs : List Nat) (F : Nat → List Value) [h : GrqPick A bs F A'] : GrqPick (A ++ B) bs F (A' ++ B) := ⟨h.perm.append_right B⟩
end
theorem ht7 {H D : List Chunk} {c1 c2 c3 c4 c5 c6 c7 : Chunk} {H1 H2 H3 H4 H5 H6 : List Chunk} [h1 : Pick H c1 H1] [h2 : Pick H1 c2 H2] [h3 : Pick H2 c3 H3] [h4 : Pick H3 c4 H4] [h5 : Pick H4 c5 H5] [h6 : Pick H5 c6 H6] [h7 : Pick H6 c7 D] : H.Perm ([c1, c2, c3, c4, c5, c6, c7] ++ D) := ht_cons (ht_cons (ht_cons (ht_cons (ht_cons (ht_cons (ht_cons ht_nil))))))
end Go.Proofs.YthpkgabckklojaaGreat
