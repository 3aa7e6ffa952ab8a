/- Own texts, laid together: J11 X13 X14 X15 X16 X17 X18 X19. Nothing is asked. -/
import Derived.Test.YtcfhbnfincpehaaB4
import Derived.Test.YtcfhbnfincpehaaB7
set_option linter.unusedSimpArgs false
set_option linter.unusedVariables false
/- Stores into slices of the call's own. Nothing is asked. -/
namespace Go.Proofs.Ytcfhbnfincpehaa
open Go.RowKit Go.Shelf

/-- A box whose type is told. -/
def BoxT (w : World) (b : Nat) (T : TypeId) (cs : List Value) : Prop := w.heap[b]? = some (.cells cs.toArray T (0, 0))
theorem BoxT.box {w : World} {b : Nat} {T : TypeId} {cs : List Value} (h : BoxT w b T cs) : Box w b cs := ⟨T, h⟩
theorem BoxT.set {w : World} {b : Nat} {T : TypeId} {cs : List Value} (h : BoxT w b T cs) (i : Nat) (v : Value) : BoxT (w.setCell ⟨b, i, none⟩ v) b T (cs.set i v) := by
  unfold BoxT at h ⊢
  simp only [World.setCell, Array.getElem?_modify, if_true, h]
  simp
theorem storeCells_runT {P : Program} (b off : Nat) (T : TypeId) : ∀ (vs : List Value) (i : Nat) (w : World) (cs : List Value), BoxT w b T cs → off + i + vs.length ≤ cs.length → (∀ v ∈ vs, v.oneCell' = true) →
    ∃ w', (storeCells ⟨b, off, none⟩ vs i).run P w = .ok () w' ∧ BoxT w' b T (splice cs (off + i) vs) ∧ Moves (· = b) w w' ∧ w'.heap.size = w.heap.size
  | [], i, w, cs, h, _, _ => ⟨w, rfl, h, Moves.refl _, rfl⟩
  | v :: vs, i, w, cs, h, hl, h1 => by
    simp only [List.length_cons] at hl
    have hc : w.cell? ⟨b, off + i, none⟩ = some cs[off + i] := h.box.cell _ (List.getElem?_eq_getElem (by omega))
    have hf := h.box.free (off + i)
    have hs := run_store P w ⟨b, off + i, none⟩ v .plain (h1 v (by simp))
    rw [hc] at hs
    simp only [hf, Bool.false_eq_true, if_false] at hs
    obtain ⟨w', e1, e2, e3, e4⟩ := storeCells_runT (P := P) b off T vs (i + 1) (w.setCell ⟨b, off + i, none⟩ v) _ (h.set (off + i) v) (by rw [List.length_set]; omega) (fun u hu => h1 u (by simp [hu]))
    refine ⟨w', ?_, ?_, ?_, ?_⟩
    · rw [storeCells, addr_add]; simp [Sem.run_bind, hs, Result.andThen, e1]
    · rw [splice, Nat.add_assoc]; exact e2
    · exact ((Moves.refl (Bs := (· = b)) w).set (fun _ => rfl)).trans e3 (fun _ _ h => h)
    · rw [e4]; simp [World.setCell]
theorem storeVar_runT {P : Program} {w : World} {b : Nat} {T : TypeId} {cs vs : List Value} (h : BoxT w b T cs) (t off : Nat) (v : Value) (hv : v.cells = vs.toArray) (hS : ∀ w, (sizeOf t).run P w = .ok vs.length w) (hl : off + vs.length ≤ cs.length) (h1 : vs.all (·.oneCell') = true) :
    ∃ w', (storeVar t ⟨b, off, none⟩ v).run P w = .ok () w' ∧ BoxT w' b T (splice cs off vs) ∧ Moves (· = b) w w' ∧ w'.heap.size = w.heap.size := by
  obtain ⟨w', e1, e2⟩ := storeCells_runT (P := P) b off T vs 0 w cs h hl (fun v hv => List.all_eq_true.1 h1 v hv)
  refine ⟨w', ?_, e2⟩
  unfold storeVar
  simp only [Sem.run_bind, hS, hv, Result.andThen_ok]
  simpa using e1
theorem splice_take : ∀ (vs cs : List Value) (o k : Nat), o + vs.length ≤ k → (splice cs o vs).take k = splice (cs.take k) o vs
  | [], cs, o, k, _ => rfl
  | v :: vs, cs, o, k, h => by
    simp only [List.length_cons] at h
    rw [splice, splice, splice_take vs _ (o + 1) k (by omega), List.take_set]
class RowPick (H : List Chunk) (b : Nat) (T z n cap : outParam Nat) (xs : outParam (List Value)) (H' : outParam (List Chunk)) : Prop where
  perm : H.Perm (ow (.slice (some ⟨b, 0, none⟩) n cap) T z n xs :: H')
instance (H : List Chunk) (b T z n cap : Nat) (xs : List Value) : RowPick (ow (.slice (some ⟨b, 0, none⟩) n cap) T z n xs :: H) b T z n cap xs H := ⟨List.Perm.refl _⟩
instance (H H' : List Chunk) (b T z n cap : Nat) (xs : List Value) (c : Chunk) [h : RowPick H b T z n cap xs H'] : RowPick (c :: H) b T z n cap xs (c :: H') := ⟨(h.perm.cons c).trans (List.Perm.swap _ _ _)⟩
instance (A B B' : List Chunk) (b T z n cap : Nat) (xs : List Value) [h : RowPick B b T z n cap xs B'] : RowPick (A ++ B) b T z n cap xs (A ++ B') := ⟨(h.perm.append_left A).trans List.perm_middle⟩
instance (A A' B : List Chunk) (b T z n cap : Nat) (xs : List Value) [h : RowPick A b T z n cap xs A'] : RowPick (A ++ B) b T z n cap xs (A' ++ B) := ⟨h.perm.append_right B⟩
section
variable {X : Ctx} {P : Program} {st : Sto} {H H' : List Chunk} {R : World → Prop} {d : Option Nat} {ty : TypeId} {pos : String} {af : Array Edge} {g : Option (Nat × Bool)}
/-- A store into a slice of the call's own. -/
theorem jo_storeO {x y : Operand} {t b off T z n cap : Nat} {xs xs' vs : List Value} {v : Value} (hx : opnd st x = some (.pointer (some ⟨b, off, none⟩))) (hy : opnd st y = some v) (hv : v.cells = vs.toArray) [hp : RowPick H b T z n cap xs H'] (hcs : splice xs off vs = xs')
    (hS : ∀ w, (sizeOf t).run P w = .ok vs.length w) (hl : off + vs.length ≤ xs.length) (h1 : vs.all (·.oneCell') = true) :
    JO X P ⟨d, .store t x y, ty, pos, af, g⟩ st H R (fun _ : Unit => undef) (fun _ => ow (.slice (some ⟨b, 0, none⟩) n cap) T z n xs' :: H') (fun _ => R) := by
  intro a w M Ds K Q hs hm hK
  subst hcs
  have hm2 := hm.perm hp.perm
  have hown : w.ownsRow 0 T z (.slice (some ⟨b, 0, none⟩) n cap) n xs := (hm2.hold _ (List.mem_cons_self ..)).now
  obtain ⟨hxl, hrow⟩ := hown
  rcases hrow with ⟨h, _⟩ | ⟨g', cap', cur, hv', h3, h4, h5, h6, h7, h8⟩
  · cases h
  cases hv'
  have hB : BoxT w b T cur.toList := by unfold BoxT; simpa using h4
  have hlen : n * z ≤ cur.toList.length := by
    have := congrArg List.length h8
    rw [List.length_take, hxl] at this; omega
  obtain ⟨w', r1, r2, r3, r4⟩ := storeVar_runT (P := P) hB t off v hv hS (by omega) h1
  refine ⟨fun f _ => fof_fn _ f, ?_⟩
  rw [semAt_plain _ _ _ (by intro c h; cases h)]
  have hrun : (execOp a.eval ⟨d, .store t x y, ty, pos, af, g⟩).run P w = .ok .skip w' := by
    simp [execOp, hs.eval hx, hs.eval hy, Instr.storeAt, Instr.sureAddr, Sem.run_bind, r1, Result.andThen]
  rw [hrun]
  have hnew : w'.ownsRow 0 T z (.slice (some ⟨b, 0, none⟩) n cap) n (splice xs off vs) := by
    refine ⟨by rw [splice_len, hxl], .inr ⟨b, cap, (splice cur.toList off vs).toArray, rfl, h3, r2, h5, h6, ?_, ?_⟩⟩
    · have e : (splice cur.toList off vs).length = cur.toList.length := splice_len _ _ _
      simp only [List.size_toArray, e, Array.length_toList, h7]
    · show (splice cur.toList off vs).take (n * z) = _
      rw [splice_take _ _ _ _ (by omega), h8]
  refine hK () w' M ?_
  have := hm2.swap (C := [ow (.slice (some ⟨b, 0, none⟩) n cap) T z n xs]) (D := H') (C' := [ow (.slice (some ⟨b, 0, none⟩) n cap) T z n (splice xs off vs)]) (R' := fun _ => True) M (r3.weaken fun i _ hi => ⟨ow (.slice (some ⟨b, 0, none⟩) n cap) T z n xs, by simp, by cases hi; rfl⟩) (fun _ h => h) (fun _ h => .inl h)
    (fun b hb => by rw [r4]; exact hm.bd b hb) (by intro c hc; simp at hc; subst hc; exact ow_holds hnew)
    (by
      intro c hc b' hb'
      simp at hc; subst hc
      exact ⟨hm2.own _ (List.mem_cons_self ..) _ hb', .inl ⟨ow (.slice (some ⟨b, 0, none⟩) n cap) T z n xs, by simp, hb'⟩⟩) (by simp) (fun _ _ => trivial)
  exact this.know fun w h => h.2
end
/-- A record of a list of records. -/
theorem flat_rec {α : Type} (enc : α → List Value) {z : Nat} [hz : Rec enc z] (xs : List α) (i : Nat) (hi : i < xs.length) : ((xs.flatMap enc).drop (i * z)).take z = enc xs[i] := by
  induction xs generalizing i with
  | nil => simp at hi
  | cons x xs ih =>
    rw [List.flatMap_cons]
    cases i with
    | zero => rw [Nat.zero_mul, List.drop_zero, List.take_left' (hz.len x)]; rfl
    | succ i =>
      rw [Nat.succ_mul, Nat.add_comm, ← List.drop_drop, List.drop_left' (hz.len x)]
      exact ih i (by simpa using hi)
theorem splice_at : ∀ (vs A B C : List Value), B.length = vs.length → splice (A ++ B ++ C) A.length vs = A ++ vs ++ C
  | [], A, B, C, h => by rw [List.eq_nil_of_length_eq_zero h]; rfl
  | v :: vs, A, B, C, h => by
    cases B with
    | nil => simp at h
    | cons b B =>
      rw [splice]
      have e : (A ++ (b :: B) ++ C).set A.length v = (A ++ [v]) ++ B ++ C := by simp
      rw [e, show A.length + 1 = (A ++ [v]).length by simp, splice_at vs (A ++ [v]) B C (by simpa using h)]
      simp
theorem flat_len {α : Type} (enc : α → List Value) {z : Nat} [hz : Rec enc z] (xs : List α) : (xs.flatMap enc).length = xs.length * z := flatMap_len enc z hz.len xs
/-- A record put over another one. -/
theorem splice_rec {α : Type} (enc : α → List Value) {z : Nat} [hz : Rec enc z] (xs : List α) (i : Nat) (y : α) (hi : i < xs.length) : splice (xs.flatMap enc) (i * z) (enc y) = (xs.set i y).flatMap enc := by
  have e1 : xs = xs.take i ++ xs[i] :: xs.drop (i + 1) := by rw [List.getElem_cons_drop]; exact (List.take_append_drop i xs).symm
  have e2 : xs.set i y = xs.take i ++ y :: xs.drop (i + 1) := List.set_eq_take_append_cons_drop.trans (by rw [if_pos hi])
  rw [e2]
  have e3 : xs.flatMap enc = (xs.take i).flatMap enc ++ enc xs[i] ++ (xs.drop (i + 1)).flatMap enc := by
    conv => lhs; rw [e1]
    rw [List.flatMap_append, List.flatMap_cons, List.append_assoc]
  have e4 : i * z = ((xs.take i).flatMap enc).length := by rw [flat_len, List.length_take, Nat.min_eq_left (by omega)]
  rw [e3, e4, splice_at _ _ _ _ (by rw [hz.len, hz.len]), List.flatMap_append, List.flatMap_cons, List.append_assoc]
section
variable {X : Ctx} {P : Program} {st : Sto} {H H' : List Chunk} {R : World → Prop} {k : Kont} {ops : Array Oper} {rest : List Oper} {Q : Exit → Act → World → Prop}
/-- A slice of the call's own that has a record lies somewhere. -/
theorem ok_some {ac : Act} {w : World} {a : Option Addr} {n m cap T z : Nat} {xs : List Value} [hp : OwnAt H (.slice a n cap) T z m xs H'] (hn : 0 < n) (h : Ok X st H R ac w) : ∃ b, a = some ⟨b, 0, none⟩ := by
  obtain ⟨h1, M, Ds, h2, hm⟩ := h
  obtain ⟨A, B, e1, e2⟩ := hp.ex
  have := (hm.hold (ow (.slice a n cap) T z m xs) (by rw [e1]; simp)).now
  rcases this.2 with ⟨h, _⟩ | ⟨g, cap', cur, hv, _⟩
  · cases h; omega
  · cases hv; exact ⟨g, rfl⟩
theorem JC_some {c : Code} {n m cap T z : Nat} {xs : List Value} (a : Option Addr) [hp : OwnAt H (.slice a n cap) T z m xs H'] (hn : 0 < n) (h : ∀ b, a = some ⟨b, 0, none⟩ → JC X P c k st H R) : JC X P c k st H R := fun ac w ho => by
  obtain ⟨b, e⟩ := ok_some (a := a) (n := n) (cap := cap) hn ho
  exact h b e ac w ho
theorem JL_some {n m cap T z : Nat} {xs : List Value} (a : Option Addr) [hp : OwnAt H (.slice a n cap) T z m xs H'] (hn : 0 < n) (h : ∀ b, a = some ⟨b, 0, none⟩ → JL X P ops Q rest st H R) : JL X P ops Q rest st H R := fun ac w ho => by
  obtain ⟨b, e⟩ := ok_some (a := a) (n := n) (cap := cap) hn ho
  exact h b e ac w ho
end
section
variable {X : Ctx} {P : Program} {st : Sto} {H H' H0 : List Chunk} {R R0 : World → Prop} {k : Kont} {ops : Array Oper} {fuel : Nat} {listed : Array Bool} {tl : List Nat}
theorem JA_some {n m cap T z : Nat} {xs : List Value} (a : Option Addr) [hp : OwnAt H (.slice a n cap) T z m xs H'] (hn : 0 < n) (h : ∀ b, a = some ⟨b, 0, none⟩ → JA X P ops k tl H0 R0 fuel listed st H R) : JA X P ops k tl H0 R0 fuel listed st H R := fun hs ac w ho => by
  obtain ⟨b, e⟩ := ok_some (a := a) (n := n) (cap := cap) hn ho
  exact h b e hs ac w ho
end
end Go.Proofs.Ytcfhbnfincpehaa

/- Path: the reference's truths. -/
namespace Go.Proofs.Ytcfhbnfincpehaa
open Go.RowKit Go.Shelf

/-- All truths, in order. -/
def truL (l : La) : Nat → Int → St → List (List Int)
  | 0, _, _ => [[]]
  | n + 1, row, s => if onL l s = true then (turnsOf (hookOf l row s.b)).flatMap fun t => (truL l n (row + 1) (nextS s t)).map (t :: ·) else [[]]
theorem truL_off {l : La} {s : St} (h : onL l s = false) (n : Nat) (row : Int) : truL l n row s = [[]] := by cases n <;> simp [truL, h]
theorem truL_is {l : La} : ∀ (n : Nat) (row : Int) (s : St), onL l s = true → ∀ ts ∈ truL l n row s, ∃ over g, Truth l n row s ts over g
  | 0, row, s, h, ts, hts => by
    simp only [truL, List.mem_singleton] at hts
    subst hts; exact ⟨_, _, .last h⟩
  | n + 1, row, s, h, ts, hts => by
    simp only [truL, h, if_true, List.mem_flatMap, List.mem_map] at hts
    obtain ⟨t, ht, us, hus, rfl⟩ := hts
    have hi : inR t (hookOf l row s.b) = true := by simpa [inR] using mem_turnsOf.1 ht
    cases hon : onL l (nextS s t)
    · rw [truL_off hon, List.mem_singleton] at hus
      subst hus; exact ⟨_, _, .off h hi hon⟩
    · obtain ⟨over, g, hT⟩ := truL_is n (row + 1) _ hon us hus
      exact ⟨_, _, .on h hi hT⟩
theorem Truth.mem {l : La} {n : Nat} {row : Int} {s : St} {ts : List Int} {over : List St} {g : Bool} (h : Truth l n row s ts over g) : ts ∈ truL l n row s := by
  induction h with
  | last h => simp [truL]
  | off h1 h2 h3 =>
    simp only [truL, h1, if_true, List.mem_flatMap, List.mem_map]
    exact ⟨_, mem_turnsOf.2 (by simpa [inR] using h2), [], by rw [truL_off h3]; simp, rfl⟩
  | on h1 h2 h3 ih =>
    simp only [truL, h1, if_true, List.mem_flatMap, List.mem_map]
    exact ⟨_, mem_turnsOf.2 (by simpa [inR] using h2), _, ih, rfl⟩
theorem truL_ne (l : La) (V : Valid l) (n : Nat) (row : Int) (s : St) : 1 ≤ (truL l n row s).length := by
  cases hon : onL l s
  · rw [truL_off hon]; simp
  · obtain ⟨ts, over, g, hT⟩ := has_truth V n row s hon
    exact List.length_pos_of_mem hT.mem
/-- The widest hook. -/
def wideL (l : La) : Nat := l.hooks.foldl (fun w h => max w (h.hi - h.lo + 1).toNat) 1
theorem foldl_wide (hs : List Rg) : ∀ w : Nat, w ≤ hs.foldl (fun w h => max w (h.hi - h.lo + 1).toNat) w ∧ ∀ h ∈ hs, (h.hi - h.lo + 1).toNat ≤ hs.foldl (fun w h => max w (h.hi - h.lo + 1).toNat) w := by
  induction hs with
  | nil => intro w; simp
  | cons h hs ih =>
    intro w
    obtain ⟨h1, h2⟩ := ih (max w (h.hi - h.lo + 1).toNat)
    simp only [List.foldl_cons]
    refine ⟨by omega, fun x hx => ?_⟩
    rcases List.mem_cons.1 hx with rfl | hx
    · omega
    · exact h2 x hx
theorem wide_pos (l : La) : 1 ≤ wideL l := (foldl_wide _ 1).1
theorem turns_wide {l : La} (V : Valid l) (row b : Int) : (turnsOf (hookOf l row b)).length ≤ wideL l := by
  rw [turnsOf_len]
  exact (foldl_wide _ 1).2 _ (hookOf_mem V row b)
theorem flatMap_le {α β : Type} (f : α → List β) (n : Nat) : ∀ xs : List α, (∀ x ∈ xs, (f x).length ≤ n) → (xs.flatMap f).length ≤ xs.length * n
  | [], _ => by simp
  | x :: xs, h => by
    have h1 := h x (by simp)
    have h2 := flatMap_le f n xs fun y hy => h y (by simp [hy])
    simp only [List.flatMap_cons, List.length_append, List.length_cons, Nat.add_mul, Nat.one_mul]
    omega
theorem truL_len {l : La} (V : Valid l) : ∀ (n : Nat) (row : Int) (s : St), (truL l n row s).length ≤ wideL l ^ n
  | 0, _, _ => by simp [truL]
  | n + 1, row, s => by
    have hp : 0 < wideL l ^ (n + 1) := Nat.pow_pos (wide_pos l)
    cases hon : onL l s
    · rw [truL_off hon]; exact hp
    · simp only [truL, hon, if_true]
      refine Nat.le_trans (flatMap_le _ (wideL l ^ n) _ fun t _ => by rw [List.length_map]; exact truL_len V n (row + 1) _) ?_
      rw [Nat.pow_succ, Nat.mul_comm]
      exact Nat.mul_le_mul_left _ (turns_wide V row s.b)
theorem truL_elem {l : La} : ∀ (n : Nat) (row : Int) (s : St) (ts : List Int), ts ∈ truL l n row s → ts.length ≤ n
  | 0, _, _, ts, h => by simp [truL] at h; subst h; simp
  | n + 1, row, s, ts, h => by
    cases hon : onL l s
    · rw [truL_off hon] at h; simp at h; subst h; simp
    · simp only [truL, hon, if_true, List.mem_flatMap, List.mem_map] at h
      obtain ⟨t, _, us, hus, rfl⟩ := h
      have := truL_elem n (row + 1) _ us hus
      simp; omega

/-! Lists of lists. -/
abbrev SlV := Option Addr × Nat × Nat
def encSlV (v : SlV) : List Value := [.slice v.1 v.2.1 v.2.2]
instance : Rec encSlV 1 := ⟨fun _ => rfl, by decide⟩
theorem encSlV_one (y : SlV) : (encSlV y).all (·.oneCell') = true := rfl
/-- Each slice holds its list. -/
def AllK (vs : List SlV) (yss : List (List Int)) : World → Prop := fun w => vs.length = yss.length ∧ ∀ (i : Nat) v ys, vs[i]? = some v → yss[i]? = some ys → KSl v.1 v.2.1 v.2.2 encI ys w
theorem AllK.nil (w : World) : AllK [] [] w := ⟨rfl, fun i v ys h => by simp at h⟩
theorem AllK.append {vs us : List SlV} {yss zss : List (List Int)} {w : World} (h1 : AllK vs yss w) (h2 : AllK us zss w) : AllK (vs ++ us) (yss ++ zss) w := by
  refine ⟨by simp [h1.1, h2.1], fun i v ys hv hy => ?_⟩
  rcases Nat.lt_or_ge i vs.length with h | h
  · rw [List.getElem?_append_left h] at hv
    rw [List.getElem?_append_left (by rw [← h1.1]; exact h)] at hy
    exact h1.2 i v ys hv hy
  · rw [List.getElem?_append_right h] at hv
    rw [List.getElem?_append_right (by rw [← h1.1]; exact h), ← h1.1] at hy
    exact h2.2 _ v ys hv hy
theorem AllK.one {v : SlV} {ys : List Int} {w : World} (h : KSl v.1 v.2.1 v.2.2 encI ys w) : AllK [v] [ys] w := ⟨rfl, fun i u zs hu hz => by
  cases i with
  | zero => simp at hu hz; subst hu hz; exact h
  | succ i => simp at hu⟩
theorem AllK.lens {vs : List SlV} {yss : List (List Int)} {w : World} (h : AllK vs yss w) : vs.length = yss.length ∧ ∀ (i : Nat) v ys, vs[i]? = some v → yss[i]? = some ys → v.2.1 = ys.length := ⟨h.1, fun i v ys h1 h2 => (h.2 i v ys h1 h2).2⟩
end Go.Proofs.Ytcfhbnfincpehaa

/- Path: the walk of the reference's Truths. -/
namespace Go.Proofs.Ytcfhbnfincpehaa
open Go.RowKit Go.Shelf

theorem truL_len2 {l : La} (V : Valid l) (hB : wideL l ^ nR l ≤ 300) {n : Nat} (hn : n ≤ nR l) (row : Int) (s : St) : (truL l n row s).length ≤ 300 :=
  Nat.le_trans (Nat.le_trans (truL_len V n row s) (Nat.pow_le_pow_right (wide_pos l) hn)) hB
set_option maxRecDepth 100000 in
set_option maxHeartbeats 1000000 in
theorem rTruths_j (l : La) (ha pa : Option Addr) (hc pc : Nat) (V : Valid l) (hB : wideL l ^ nR l ≤ 300) : ∀ (n : Nat) (row : Nat) (s : St) (begins : List Int) (ba : Option Addr) (bc : Nat), row + n = nR l → -5 ≤ s.d → s.d ≤ 5 → (-10 ≤ s.b ∧ s.b ≤ 50) → begins.length ≤ row →
    Cr Try.prog 61 [.agg #[I l.boards, I l.rows, .slice ha l.hooks.length hc, .slice pa l.patches.length pc], I row, .agg #[I s.b, I s.d], .slice ba begins.length bc] (KAnd (KSl ba begins.length bc encI begins) (KLane l ha hc pa pc)) (fun q : Option Addr × Nat × List SlV => .slice q.1 (truL l n row s).length q.2.1)
      (fun q => KAnd (KSl q.1 (truL l n row s).length q.2.1 encSlV q.2.2) (AllK q.2.2 ((truL l n row s).map (begins ++ ·)))) := by
  intro n
  have r1 := V.r1
  have r2 := V.r2
  have b2 := V.b2
  have hnr : ((nR l : Nat) : Int) = l.rows - 1 := by unfold nR; omega
  induction n using Nat.strongRecOn
  rename_i n IH
  intro row s begins ba bc hn d1 d2 hb hbl
  refine Cx_of Try.func61 rfl Try.ntmps61 rfl fun w0 M0 => ?_
  refine JC_seq ?_
  refine JC_region ?_
  refine JL_step rfl rfl rfl (jo_box rfl rfl) fun b4 => ?_
  refine JL_step rfl rfl rfl (jo_box rfl rfl) fun b6 => ?_
  refine JL_pd rfl (det_assign rfl) ?_
  refine JL_nil ?_
  refine JE_seq ?_
  refine JC_seq ?_
  refine JC_seq ?_
  refine JC_region ?_
  refine JL_pd rfl (det_move rfl) ?_
  refine JL_pd rfl (det_fieldAddr rfl fo_25_1) ?_
  refine JL_dt rfl (det_loadK rfl Try.isAgg3 rfl) ?_
  refine JL_pd rfl (det_sub rfl rfl ⟨by omega, by omega⟩) ?_
  refine JL_pd rfl (det_eql rfl rfl) ?_
  refine JL_pd rfl (det_move rfl) ?_
  -- stop: guard 5
  refine JL_join1 7 24 (.bool (decide ((row : Int) = l.rows - 1) || !onL l s)) (fun hj => ?_) ?_
  · refine JL_split (d0 := 17) rfl (fun q1 => ?_) (fun q1 => ?_)
    · refine JL_skip rfl rfl q1 rfl ?_
      refine JL_skip rfl rfl q1 rfl ?_
      refine JL_skip rfl rfl q1 rfl ?_
      refine JL_skip rfl rfl q1 rfl ?_
      refine JL_skip rfl rfl q1 rfl ?_
      refine JL_skip rfl rfl q1 rfl ?_
      refine JL_pd rfl (det_pick_t rfl q1 rfl) ?_
      exact hj (by kernel_rfl) (stsub_consB rfl (by clear hj; first | rfl | (simp only [onL, q1, Bool.and_true, Bool.true_and, Bool.false_and, Bool.and_false, Bool.or_true, Bool.true_or, Bool.or_false, Bool.false_or, Bool.not_true, Bool.not_false]; done) | (simp [onL, q1]; done) | (simp [onL] at q1; done) | (simp [onL, q1] <;> omega) | (exfalso; simp [onL] at q1; omega)) stsub_nil)
    · refine JL_guard rfl rfl q1 ?_
      refine JL_pd rfl (det_fieldAddr rfl fo_27_0) ?_
      refine JL_guard rfl rfl q1 ?_
      refine JL_dt rfl (det_loadK rfl Try.isAgg3 rfl) ?_
      refine JL_guard rfl rfl q1 ?_
      refine JL_pd rfl (det_fieldAddr rfl fo_25_0) ?_
      refine JL_guard rfl rfl q1 ?_
      refine JL_dt rfl (det_loadK rfl Try.isAgg3 rfl) ?_
      refine JL_guard rfl rfl q1 ?_
      refine JL_step rfl rfl rfl (jo_callv rfl rfl Try.call22 rfl (rIn_j _ _ _)) fun _ => ?_
      refine JL_guard rfl rfl q1 ?_
      refine JL_pd rfl (det_not rfl) ?_
      refine JL_pd rfl (det_pick_f rfl q1 rfl) ?_
      exact hj (by kernel_rfl) (stsub_consB rfl (by clear hj; first | rfl | (simp only [onL, q1, Bool.and_true, Bool.true_and, Bool.false_and, Bool.and_false, Bool.or_true, Bool.true_or, Bool.or_false, Bool.false_or, Bool.not_true, Bool.not_false]; done) | (simp [onL, q1]; done) | (simp [onL] at q1; done) | (simp [onL, q1] <;> omega) | (exfalso; simp [onL] at q1; omega)) stsub_nil)
  refine JL_nil ?_
  refine JE_seq ?_
  -- stop: cond
  refine JC_cond rfl (fun h1 => ?_) (fun h1 => ?_)
  · have hone : truL l n row s = [[]] := by
      cases hon : onL l s
      · exact truL_off hon _ _
      · rw [hon] at h1
        simp at h1
        obtain rfl : n = 0 := by omega
        rfl
    rw [hone]
    refine JC_seq ?_
    refine JC_region ?_
    refine JL_pd rfl (det_move rfl) ?_
    refine JL_step rfl rfl rfl (jo_buildSlice rfl (bsl_117_1_0 _ _ _)) fun b26 => ?_
    refine JL_pd rfl (det_assign rfl) ?_
    refine JL_nil ?_
    refine JE_seq ?_
    refine JC_ret ?_
    refine JE_seq_ret ?_
    -- stop: out
    refine JE_freeze (bx b26 [.slice ba begins.length bc]) noFp ?_
    refine JE_out (.inl rfl) (some ⟨b26, 0, none⟩, 1, [(ba, begins.length, bc)]) (results1 Try.results61 (res_tmp rfl)) rfl (List.Perm.refl _) (fun w h => ⟨KSl_of_box rfl rfl (by decide) h.1, AllK.one (by simpa using h.2.1)⟩)
  · simp only [Bool.or_eq_false_iff, decide_eq_false_iff_not, Bool.not_eq_false'] at h1
    obtain ⟨h1, hon⟩ := h1
    obtain ⟨n, rfl⟩ : ∃ m, n = m + 1 := ⟨n - 1, by omega⟩
    have hlb := on_b hon
    have hh := hookOf_bd V row s.b
    have hlen : ∀ t, (truL l n ((row : Int) + 1) (nextS s t)).length ≤ 300 := fun t => truL_len2 V hB (by omega) _ _
    obtain ⟨hk, hkE⟩ : ∃ hk, hk = hookOf l row s.b := ⟨_, rfl⟩
    obtain ⟨F, hF⟩ : ∃ F : Int → List (List Int), F = fun t => (truL l n ((row : Int) + 1) (nextS s t)).map (fun us => begins ++ t :: us) := ⟨_, rfl⟩
    have hall : (truL l (n + 1) row s).map (begins ++ ·) = (turnsOf hk).flatMap F := by
      rw [hF, hkE]
      simp only [truL, hon, if_true, List.map_flatMap, List.map_map]
      rfl
    have hallen : (truL l (n + 1) row s).length = ((turnsOf hk).flatMap F).length := by rw [← hall, List.length_map]
    have htl : (turnsOf hk).length = (hk.hi - hk.lo + 1).toNat := turnsOf_len _
    rw [hall, hallen]
    refine JC_skip ?_
    refine JE_seq ?_
    refine JC_seq ?_
    refine JC_region ?_
    refine JL_pd rfl (det_assign rfl) ?_
    refine JL_nil ?_
    refine JE_seq ?_
    refine JC_seq ?_
    refine JC_region ?_
    refine JL_dt rfl (det_loadKA rfl Try.isAgg25 Try.sizeOf25 rfl rfl) ?_
    refine JL_pd rfl (det_move rfl) ?_
    refine JL_pd rfl (det_fieldAddr rfl fo_27_0) ?_
    refine JL_dt rfl (det_loadK rfl Try.isAgg3 rfl) ?_
    -- stop: op  4 t31 := (call (Call (value f37) (t27 t28 t30) (25 3 3)))   <0 1 3>   101
    refine JL_step rfl rfl rfl (jo_callv rfl rfl Try.call37 rfl (rHook_j l row s.b ha pa hc pc V)) fun _ => ?_
    refine JL_step rfl rfl rfl (jo_alloc0 Try.zeroValue53 rfl) fun b10 => ?_
    refine JL_step0 rfl rfl (jo_store rfl rfl rfl (by first | (simp only [splice_norm]; done) | (simp only [splice_norm]; rfl) | rfl) Try.sizeOf53 rfl rfl) fun _ => ?_
    refine JL_nil ?_
    refine JE_seq ?_
    refine JC_seq ?_
    refine JC_seq ?_
    refine JC_region ?_
    refine JL_pd rfl (det_fieldAddr rfl fo_53_0) ?_
    refine JL_dt rfl (det_loadK rfl Try.isAgg3 rfl) ?_
    refine JL_pd rfl (det_assign rfl) ?_
    refine JL_nil ?_
    refine JE_seq ?_
    refine JC_block ?_
    -- stop: loop
    rw [← hkE] at hh ⊢
    refine JC_nil 75 1 ?_
    refine JC_loopK (γ := Nat × Value × List SlV) (fun q => q.1 ≤ (turnsOf hk).length ∧ q.2.2.length ≤ 300 * q.1) (fun q => [(11, I (hk.lo + q.1)), (9, q.2.1)]) (fun q => [ow q.2.1 75 1 q.2.2.length (q.2.2.flatMap encSlV)])
      (fun q => AllK q.2.2 (((turnsOf hk).take q.1).flatMap F)) (fun q => (turnsOf hk).length - q.1) (0, .slice none 0 0, []) ⟨by omega, by simp⟩ (stsub_consI rfl (by simp) (stsub_cons rfl stsub_nil)) (ht_ow rfl rfl ht_nil) (fun w _ => AllK.nil w) ?_
    rintro ⟨i, v, vs⟩ ⟨hi, hvl⟩ K hK
    dsimp only [List.cons_append, List.nil_append] at hi hvl ⊢
    refine JC_seq ?_
    refine JC_seq ?_
    refine JC_region ?_
    refine JL_pd rfl (det_move rfl) ?_
    refine JL_pd rfl (det_fieldAddr rfl fo_53_1) ?_
    refine JL_dt rfl (det_loadK rfl Try.isAgg3 rfl) ?_
    refine JL_pd rfl (det_leq rfl rfl) ?_
    refine JL_nil ?_
    refine JE_seq ?_
    -- stop: cond
    refine JC_if rfl (fun h2 => ?_) (fun h2 => ?_)
    · have hi2 : i < (turnsOf hk).length := by omega
      obtain ⟨t, ht⟩ : ∃ t, t = hk.lo + i := ⟨_, rfl⟩
      have htg : (turnsOf hk)[i] = t := by rw [turnsOf_get, ht]
      have hnd := nextS_d s t
      have hnb : (nextS s t).b = s.b + (nextS s t).d := rfl
      have hbt : (begins ++ [t]).length = 0 + begins.length + 1 := by simp
      have hcall := fun (ad : Option Addr) (cap : Nat) => IH n (by omega) (row + 1) (nextS s t) (begins ++ [t]) ad cap (by omega) hnd.1 hnd.2 (by omega) (by simp; omega)
      rw [hbt] at hcall
      have hFt : (truL l n (((row + 1 : Nat) : Int)) (nextS s t)).map (begins ++ [t] ++ ·) = F t := by rw [hF]; simp
      rw [hFt] at hcall
      have hln : (truL l n ((row + 1 : Nat) : Int) (nextS s t)).length ≤ 300 := by have := hlen t; rwa [show ((row : Int) + 1) = ((row + 1 : Nat) : Int) by omega] at this
      rw [← ht]
      refine JC_skip ?_
      refine JE_seq ?_
      refine JC_seq ?_
      refine JC_block ?_
      refine JC_draw [14] (by kernel_rfl) ?_
      refine JA_pd (i := 0) rfl (by kernel_rfl) rfl rfl (det_move rfl) ?_
      refine JA_dt (i := 1) rfl (by kernel_rfl) (by kernel_rfl) rfl rfl (det_loadKA rfl Try.isAgg25 Try.sizeOf25 rfl rfl) ?_
      refine JA_pd (i := 2) rfl (by kernel_rfl) rfl rfl (det_move rfl) ?_
      refine JA_pd (i := 3) rfl (by kernel_rfl) rfl rfl (det_add rfl rfl ⟨by omega, by omega⟩) ?_
      refine JA_dt (i := 4) rfl (by kernel_rfl) (by kernel_rfl) rfl rfl (det_loadKA rfl Try.isAgg27 Try.sizeOf27 rfl rfl) ?_
      refine JA_pd (i := 5) rfl (by kernel_rfl) rfl rfl (det_move rfl) ?_
      refine JA_pd (i := 8) rfl (by kernel_rfl) rfl rfl (det_move rfl) ?_
      refine JA_pd (i := 10) rfl (by kernel_rfl) rfl rfl (det_move rfl) ?_
      -- stop: multi [6, 7, 11]
      refine JA_ready (rs := [6, 7, 11]) (by kernel_rfl) rfl ?_
      refine JAl_cons (i := 6) rfl rfl (jo_callv rfl rfl Try.call38 rfl (rNext_j s t (by omega) (by omega) (by omega) (by omega) (by omega) (by omega))) (fun _ => ⟨hsub_refl, fun _ h => h⟩) (fun _ => ?_) ?_
      · refine JA_ready (rs := [7, 11]) (by kernel_rfl) rfl ?_
        refine JAl_cons (i := 7) rfl rfl (jo_buildOwn (z := 1) rfl (bsl_75_0) rfl (by decide)) (fun _ => ⟨hsub_drop 1 rfl, fun _ h => h⟩) (fun b47 => ?_) ?_
        · refine JA_ready (rs := [9, 11]) (by kernel_rfl) rfl ?_
          refine JAl_consH (i := 9) rfl rfl (jo_appendK (e := encI) el_75 rfl rfl encI_one (by omega)) (fun _ => ⟨HIn.sub, Knows.know⟩) (fun b49 => ?_) ?_
          · refine JA_one (i := 11) (by kernel_rfl) rfl rfl (jo_buildSlice rfl (bsl_75_1_0 _)) (fun _ => ⟨hsub_drop 1 rfl, fun _ h => h⟩) fun b51 => ?_
            refine JA_oneH (i := 12) (by kernel_rfl) rfl rfl (jo_append el_75 rfl rfl rfl rfl (by omega)) (fun _ => ⟨HIn.sub, Knows.know⟩) fun b52 => ?_
            refine JA_slice (enc := encI) (v := .slice (some ⟨b52.1, 0, none⟩) (0 + begins.length + 1) b52.2) (begins ++ [t]) noFp (by simp [encI]) (by simp) ?_
            rintro ka kc hkv
            cases hkv
            refine JA_one (i := 13) (by kernel_rfl) rfl rfl (jo_call rfl rfl Try.call61 rfl (hcall _ _)) (fun _ => ⟨hsub_drop 0 rfl, fun _ h => h.2⟩) fun x53 => ?_
            refine JA_tail (i := 14) (by kernel_rfl) rfl rfl rfl rfl (jo_appendK (e := encSlV) el_117 rfl rfl encSlV_one (by omega)) fun b54 => ?_
            refine JT_pd (i := 15) rfl (by kernel_rfl) rfl rfl (det_assign rfl) ?_
            refine JT_done (by kernel_rfl) ?_
            refine JE_block ?_
            refine JE_seq ?_
            refine JC_region ?_
            refine JL_pd rfl (det_move rfl) ?_
            refine JL_pd rfl (det_add rfl rfl ⟨by omega, by omega⟩) ?_
            refine JL_pd rfl (det_assign rfl) ?_
            refine JL_nil ?_
            refine JE_pure (p := x53.2.2.length = (truL l n ((row + 1 : Nat) : Int) (nextS s t)).length) (fun w h => h.1.1.2.symm) fun hxl => ?_
            exact JE_roundF hK (i + 1, b54, vs ++ x53.2.2) ⟨by simp only; omega, by simp only [List.length_append]; omega⟩ (by simp only; omega) (stsub_consI rfl (by simp only; omega) (stsub_cons rfl stsub_nil)) (ht_ow (by simp [hxl]) (by simp) ht_nil) (hR := ⟨fun w h => ⟨by rw [take_snoc hi2, List.flatMap_append, List.flatMap_cons, List.flatMap_nil, List.append_nil, htg]; exact h.2.2.1.append h.1.2, h.2.2.2⟩⟩)
          refine JAl_cons (i := 11) rfl rfl (jo_buildSlice rfl (bsl_75_1_0 _)) (fun _ => ⟨hsub_drop 1 rfl, fun _ h => h⟩) (fun b51 => ?_) ?_
          · refine JA_oneH (i := 9) (by kernel_rfl) rfl rfl (jo_appendK (e := encI) el_75 rfl rfl encI_one (by omega)) (fun _ => ⟨HIn.sub, Knows.know⟩) fun b49 => ?_
            refine JA_oneH (i := 12) (by kernel_rfl) rfl rfl (jo_append el_75 rfl rfl rfl rfl (by omega)) (fun _ => ⟨HIn.sub, Knows.know⟩) fun b52 => ?_
            refine JA_slice (enc := encI) (v := .slice (some ⟨b52.1, 0, none⟩) (0 + begins.length + 1) b52.2) (begins ++ [t]) noFp (by simp [encI]) (by simp) ?_
            rintro ka kc hkv
            cases hkv
            refine JA_one (i := 13) (by kernel_rfl) rfl rfl (jo_call rfl rfl Try.call61 rfl (hcall _ _)) (fun _ => ⟨hsub_drop 0 rfl, fun _ h => h.2⟩) fun x53 => ?_
            refine JA_tail (i := 14) (by kernel_rfl) rfl rfl rfl rfl (jo_appendK (e := encSlV) el_117 rfl rfl encSlV_one (by omega)) fun b54 => ?_
            refine JT_pd (i := 15) rfl (by kernel_rfl) rfl rfl (det_assign rfl) ?_
            refine JT_done (by kernel_rfl) ?_
            refine JE_block ?_
            refine JE_seq ?_
            refine JC_region ?_
            refine JL_pd rfl (det_move rfl) ?_
            refine JL_pd rfl (det_add rfl rfl ⟨by omega, by omega⟩) ?_
            refine JL_pd rfl (det_assign rfl) ?_
            refine JL_nil ?_
            refine JE_pure (p := x53.2.2.length = (truL l n ((row + 1 : Nat) : Int) (nextS s t)).length) (fun w h => h.1.1.2.symm) fun hxl => ?_
            exact JE_roundF hK (i + 1, b54, vs ++ x53.2.2) ⟨by simp only; omega, by simp only [List.length_append]; omega⟩ (by simp only; omega) (stsub_consI rfl (by simp only; omega) (stsub_cons rfl stsub_nil)) (ht_ow (by simp [hxl]) (by simp) ht_nil) (hR := ⟨fun w h => ⟨by rw [take_snoc hi2, List.flatMap_append, List.flatMap_cons, List.flatMap_nil, List.append_nil, htg]; exact h.2.2.1.append h.1.2, h.2.2.2⟩⟩)
          exact JAl_nil
        refine JAl_cons (i := 11) rfl rfl (jo_buildSlice rfl (bsl_75_1_0 _)) (fun _ => ⟨hsub_drop 1 rfl, fun _ h => h⟩) (fun b51 => ?_) ?_
        · refine JA_one (i := 7) (by kernel_rfl) rfl rfl (jo_buildOwn (z := 1) rfl (bsl_75_0) rfl (by decide)) (fun _ => ⟨hsub_drop 1 rfl, fun _ h => h⟩) fun b47 => ?_
          refine JA_oneH (i := 9) (by kernel_rfl) rfl rfl (jo_appendK (e := encI) el_75 rfl rfl encI_one (by omega)) (fun _ => ⟨HIn.sub, Knows.know⟩) fun b49 => ?_
          refine JA_oneH (i := 12) (by kernel_rfl) rfl rfl (jo_append el_75 rfl rfl rfl rfl (by omega)) (fun _ => ⟨HIn.sub, Knows.know⟩) fun b52 => ?_
          refine JA_slice (enc := encI) (v := .slice (some ⟨b52.1, 0, none⟩) (0 + begins.length + 1) b52.2) (begins ++ [t]) noFp (by simp [encI]) (by simp) ?_
          rintro ka kc hkv
          cases hkv
          refine JA_one (i := 13) (by kernel_rfl) rfl rfl (jo_call rfl rfl Try.call61 rfl (hcall _ _)) (fun _ => ⟨hsub_drop 0 rfl, fun _ h => h.2⟩) fun x53 => ?_
          refine JA_tail (i := 14) (by kernel_rfl) rfl rfl rfl rfl (jo_appendK (e := encSlV) el_117 rfl rfl encSlV_one (by omega)) fun b54 => ?_
          refine JT_pd (i := 15) rfl (by kernel_rfl) rfl rfl (det_assign rfl) ?_
          refine JT_done (by kernel_rfl) ?_
          refine JE_block ?_
          refine JE_seq ?_
          refine JC_region ?_
          refine JL_pd rfl (det_move rfl) ?_
          refine JL_pd rfl (det_add rfl rfl ⟨by omega, by omega⟩) ?_
          refine JL_pd rfl (det_assign rfl) ?_
          refine JL_nil ?_
          refine JE_pure (p := x53.2.2.length = (truL l n ((row + 1 : Nat) : Int) (nextS s t)).length) (fun w h => h.1.1.2.symm) fun hxl => ?_
          exact JE_roundF hK (i + 1, b54, vs ++ x53.2.2) ⟨by simp only; omega, by simp only [List.length_append]; omega⟩ (by simp only; omega) (stsub_consI rfl (by simp only; omega) (stsub_cons rfl stsub_nil)) (ht_ow (by simp [hxl]) (by simp) ht_nil) (hR := ⟨fun w h => ⟨by rw [take_snoc hi2, List.flatMap_append, List.flatMap_cons, List.flatMap_nil, List.append_nil, htg]; exact h.2.2.1.append h.1.2, h.2.2.2⟩⟩)
        exact JAl_nil
      refine JAl_cons (i := 7) rfl rfl (jo_buildOwn (z := 1) rfl (bsl_75_0) rfl (by decide)) (fun _ => ⟨hsub_drop 1 rfl, fun _ h => h⟩) (fun b47 => ?_) ?_
      · refine JA_ready (rs := [6, 11]) (by kernel_rfl) rfl ?_
        refine JAl_cons (i := 6) rfl rfl (jo_callv rfl rfl Try.call38 rfl (rNext_j s t (by omega) (by omega) (by omega) (by omega) (by omega) (by omega))) (fun _ => ⟨hsub_refl, fun _ h => h⟩) (fun _ => ?_) ?_
        · refine JA_ready (rs := [9, 11]) (by kernel_rfl) rfl ?_
          refine JAl_consH (i := 9) rfl rfl (jo_appendK (e := encI) el_75 rfl rfl encI_one (by omega)) (fun _ => ⟨HIn.sub, Knows.know⟩) (fun b49 => ?_) ?_
          · refine JA_one (i := 11) (by kernel_rfl) rfl rfl (jo_buildSlice rfl (bsl_75_1_0 _)) (fun _ => ⟨hsub_drop 1 rfl, fun _ h => h⟩) fun b51 => ?_
            refine JA_oneH (i := 12) (by kernel_rfl) rfl rfl (jo_append el_75 rfl rfl rfl rfl (by omega)) (fun _ => ⟨HIn.sub, Knows.know⟩) fun b52 => ?_
            refine JA_slice (enc := encI) (v := .slice (some ⟨b52.1, 0, none⟩) (0 + begins.length + 1) b52.2) (begins ++ [t]) noFp (by simp [encI]) (by simp) ?_
            rintro ka kc hkv
            cases hkv
            refine JA_one (i := 13) (by kernel_rfl) rfl rfl (jo_call rfl rfl Try.call61 rfl (hcall _ _)) (fun _ => ⟨hsub_drop 0 rfl, fun _ h => h.2⟩) fun x53 => ?_
            refine JA_tail (i := 14) (by kernel_rfl) rfl rfl rfl rfl (jo_appendK (e := encSlV) el_117 rfl rfl encSlV_one (by omega)) fun b54 => ?_
            refine JT_pd (i := 15) rfl (by kernel_rfl) rfl rfl (det_assign rfl) ?_
            refine JT_done (by kernel_rfl) ?_
            refine JE_block ?_
            refine JE_seq ?_
            refine JC_region ?_
            refine JL_pd rfl (det_move rfl) ?_
            refine JL_pd rfl (det_add rfl rfl ⟨by omega, by omega⟩) ?_
            refine JL_pd rfl (det_assign rfl) ?_
            refine JL_nil ?_
            refine JE_pure (p := x53.2.2.length = (truL l n ((row + 1 : Nat) : Int) (nextS s t)).length) (fun w h => h.1.1.2.symm) fun hxl => ?_
            exact JE_roundF hK (i + 1, b54, vs ++ x53.2.2) ⟨by simp only; omega, by simp only [List.length_append]; omega⟩ (by simp only; omega) (stsub_consI rfl (by simp only; omega) (stsub_cons rfl stsub_nil)) (ht_ow (by simp [hxl]) (by simp) ht_nil) (hR := ⟨fun w h => ⟨by rw [take_snoc hi2, List.flatMap_append, List.flatMap_cons, List.flatMap_nil, List.append_nil, htg]; exact h.2.2.1.append h.1.2, h.2.2.2⟩⟩)
          refine JAl_cons (i := 11) rfl rfl (jo_buildSlice rfl (bsl_75_1_0 _)) (fun _ => ⟨hsub_drop 1 rfl, fun _ h => h⟩) (fun b51 => ?_) ?_
          · refine JA_oneH (i := 9) (by kernel_rfl) rfl rfl (jo_appendK (e := encI) el_75 rfl rfl encI_one (by omega)) (fun _ => ⟨HIn.sub, Knows.know⟩) fun b49 => ?_
            refine JA_oneH (i := 12) (by kernel_rfl) rfl rfl (jo_append el_75 rfl rfl rfl rfl (by omega)) (fun _ => ⟨HIn.sub, Knows.know⟩) fun b52 => ?_
            refine JA_slice (enc := encI) (v := .slice (some ⟨b52.1, 0, none⟩) (0 + begins.length + 1) b52.2) (begins ++ [t]) noFp (by simp [encI]) (by simp) ?_
            rintro ka kc hkv
            cases hkv
            refine JA_one (i := 13) (by kernel_rfl) rfl rfl (jo_call rfl rfl Try.call61 rfl (hcall _ _)) (fun _ => ⟨hsub_drop 0 rfl, fun _ h => h.2⟩) fun x53 => ?_
            refine JA_tail (i := 14) (by kernel_rfl) rfl rfl rfl rfl (jo_appendK (e := encSlV) el_117 rfl rfl encSlV_one (by omega)) fun b54 => ?_
            refine JT_pd (i := 15) rfl (by kernel_rfl) rfl rfl (det_assign rfl) ?_
            refine JT_done (by kernel_rfl) ?_
            refine JE_block ?_
            refine JE_seq ?_
            refine JC_region ?_
            refine JL_pd rfl (det_move rfl) ?_
            refine JL_pd rfl (det_add rfl rfl ⟨by omega, by omega⟩) ?_
            refine JL_pd rfl (det_assign rfl) ?_
            refine JL_nil ?_
            refine JE_pure (p := x53.2.2.length = (truL l n ((row + 1 : Nat) : Int) (nextS s t)).length) (fun w h => h.1.1.2.symm) fun hxl => ?_
            exact JE_roundF hK (i + 1, b54, vs ++ x53.2.2) ⟨by simp only; omega, by simp only [List.length_append]; omega⟩ (by simp only; omega) (stsub_consI rfl (by simp only; omega) (stsub_cons rfl stsub_nil)) (ht_ow (by simp [hxl]) (by simp) ht_nil) (hR := ⟨fun w h => ⟨by rw [take_snoc hi2, List.flatMap_append, List.flatMap_cons, List.flatMap_nil, List.append_nil, htg]; exact h.2.2.1.append h.1.2, h.2.2.2⟩⟩)
          exact JAl_nil
        refine JAl_cons (i := 11) rfl rfl (jo_buildSlice rfl (bsl_75_1_0 _)) (fun _ => ⟨hsub_drop 1 rfl, fun _ h => h⟩) (fun b51 => ?_) ?_
        · refine JA_one (i := 6) (by kernel_rfl) rfl rfl (jo_callv rfl rfl Try.call38 rfl (rNext_j s t (by omega) (by omega) (by omega) (by omega) (by omega) (by omega))) (fun _ => ⟨hsub_refl, fun _ h => h⟩) fun _ => ?_
          refine JA_oneH (i := 9) (by kernel_rfl) rfl rfl (jo_appendK (e := encI) el_75 rfl rfl encI_one (by omega)) (fun _ => ⟨HIn.sub, Knows.know⟩) fun b49 => ?_
          refine JA_oneH (i := 12) (by kernel_rfl) rfl rfl (jo_append el_75 rfl rfl rfl rfl (by omega)) (fun _ => ⟨HIn.sub, Knows.know⟩) fun b52 => ?_
          refine JA_slice (enc := encI) (v := .slice (some ⟨b52.1, 0, none⟩) (0 + begins.length + 1) b52.2) (begins ++ [t]) noFp (by simp [encI]) (by simp) ?_
          rintro ka kc hkv
          cases hkv
          refine JA_one (i := 13) (by kernel_rfl) rfl rfl (jo_call rfl rfl Try.call61 rfl (hcall _ _)) (fun _ => ⟨hsub_drop 0 rfl, fun _ h => h.2⟩) fun x53 => ?_
          refine JA_tail (i := 14) (by kernel_rfl) rfl rfl rfl rfl (jo_appendK (e := encSlV) el_117 rfl rfl encSlV_one (by omega)) fun b54 => ?_
          refine JT_pd (i := 15) rfl (by kernel_rfl) rfl rfl (det_assign rfl) ?_
          refine JT_done (by kernel_rfl) ?_
          refine JE_block ?_
          refine JE_seq ?_
          refine JC_region ?_
          refine JL_pd rfl (det_move rfl) ?_
          refine JL_pd rfl (det_add rfl rfl ⟨by omega, by omega⟩) ?_
          refine JL_pd rfl (det_assign rfl) ?_
          refine JL_nil ?_
          refine JE_pure (p := x53.2.2.length = (truL l n ((row + 1 : Nat) : Int) (nextS s t)).length) (fun w h => h.1.1.2.symm) fun hxl => ?_
          exact JE_roundF hK (i + 1, b54, vs ++ x53.2.2) ⟨by simp only; omega, by simp only [List.length_append]; omega⟩ (by simp only; omega) (stsub_consI rfl (by simp only; omega) (stsub_cons rfl stsub_nil)) (ht_ow (by simp [hxl]) (by simp) ht_nil) (hR := ⟨fun w h => ⟨by rw [take_snoc hi2, List.flatMap_append, List.flatMap_cons, List.flatMap_nil, List.append_nil, htg]; exact h.2.2.1.append h.1.2, h.2.2.2⟩⟩)
        exact JAl_nil
      refine JAl_cons (i := 11) rfl rfl (jo_buildSlice rfl (bsl_75_1_0 _)) (fun _ => ⟨hsub_drop 1 rfl, fun _ h => h⟩) (fun b51 => ?_) ?_
      · refine JA_ready (rs := [6, 7]) (by kernel_rfl) rfl ?_
        refine JAl_cons (i := 6) rfl rfl (jo_callv rfl rfl Try.call38 rfl (rNext_j s t (by omega) (by omega) (by omega) (by omega) (by omega) (by omega))) (fun _ => ⟨hsub_refl, fun _ h => h⟩) (fun _ => ?_) ?_
        · refine JA_one (i := 7) (by kernel_rfl) rfl rfl (jo_buildOwn (z := 1) rfl (bsl_75_0) rfl (by decide)) (fun _ => ⟨hsub_drop 1 rfl, fun _ h => h⟩) fun b47 => ?_
          refine JA_oneH (i := 9) (by kernel_rfl) rfl rfl (jo_appendK (e := encI) el_75 rfl rfl encI_one (by omega)) (fun _ => ⟨HIn.sub, Knows.know⟩) fun b49 => ?_
          refine JA_oneH (i := 12) (by kernel_rfl) rfl rfl (jo_append el_75 rfl rfl rfl rfl (by omega)) (fun _ => ⟨HIn.sub, Knows.know⟩) fun b52 => ?_
          refine JA_slice (enc := encI) (v := .slice (some ⟨b52.1, 0, none⟩) (0 + begins.length + 1) b52.2) (begins ++ [t]) noFp (by simp [encI]) (by simp) ?_
          rintro ka kc hkv
          cases hkv
          refine JA_one (i := 13) (by kernel_rfl) rfl rfl (jo_call rfl rfl Try.call61 rfl (hcall _ _)) (fun _ => ⟨hsub_drop 0 rfl, fun _ h => h.2⟩) fun x53 => ?_
          refine JA_tail (i := 14) (by kernel_rfl) rfl rfl rfl rfl (jo_appendK (e := encSlV) el_117 rfl rfl encSlV_one (by omega)) fun b54 => ?_
          refine JT_pd (i := 15) rfl (by kernel_rfl) rfl rfl (det_assign rfl) ?_
          refine JT_done (by kernel_rfl) ?_
          refine JE_block ?_
          refine JE_seq ?_
          refine JC_region ?_
          refine JL_pd rfl (det_move rfl) ?_
          refine JL_pd rfl (det_add rfl rfl ⟨by omega, by omega⟩) ?_
          refine JL_pd rfl (det_assign rfl) ?_
          refine JL_nil ?_
          refine JE_pure (p := x53.2.2.length = (truL l n ((row + 1 : Nat) : Int) (nextS s t)).length) (fun w h => h.1.1.2.symm) fun hxl => ?_
          exact JE_roundF hK (i + 1, b54, vs ++ x53.2.2) ⟨by simp only; omega, by simp only [List.length_append]; omega⟩ (by simp only; omega) (stsub_consI rfl (by simp only; omega) (stsub_cons rfl stsub_nil)) (ht_ow (by simp [hxl]) (by simp) ht_nil) (hR := ⟨fun w h => ⟨by rw [take_snoc hi2, List.flatMap_append, List.flatMap_cons, List.flatMap_nil, List.append_nil, htg]; exact h.2.2.1.append h.1.2, h.2.2.2⟩⟩)
        refine JAl_cons (i := 7) rfl rfl (jo_buildOwn (z := 1) rfl (bsl_75_0) rfl (by decide)) (fun _ => ⟨hsub_drop 1 rfl, fun _ h => h⟩) (fun b47 => ?_) ?_
        · refine JA_one (i := 6) (by kernel_rfl) rfl rfl (jo_callv rfl rfl Try.call38 rfl (rNext_j s t (by omega) (by omega) (by omega) (by omega) (by omega) (by omega))) (fun _ => ⟨hsub_refl, fun _ h => h⟩) fun _ => ?_
          refine JA_oneH (i := 9) (by kernel_rfl) rfl rfl (jo_appendK (e := encI) el_75 rfl rfl encI_one (by omega)) (fun _ => ⟨HIn.sub, Knows.know⟩) fun b49 => ?_
          refine JA_oneH (i := 12) (by kernel_rfl) rfl rfl (jo_append el_75 rfl rfl rfl rfl (by omega)) (fun _ => ⟨HIn.sub, Knows.know⟩) fun b52 => ?_
          refine JA_slice (enc := encI) (v := .slice (some ⟨b52.1, 0, none⟩) (0 + begins.length + 1) b52.2) (begins ++ [t]) noFp (by simp [encI]) (by simp) ?_
          rintro ka kc hkv
          cases hkv
          refine JA_one (i := 13) (by kernel_rfl) rfl rfl (jo_call rfl rfl Try.call61 rfl (hcall _ _)) (fun _ => ⟨hsub_drop 0 rfl, fun _ h => h.2⟩) fun x53 => ?_
          refine JA_tail (i := 14) (by kernel_rfl) rfl rfl rfl rfl (jo_appendK (e := encSlV) el_117 rfl rfl encSlV_one (by omega)) fun b54 => ?_
          refine JT_pd (i := 15) rfl (by kernel_rfl) rfl rfl (det_assign rfl) ?_
          refine JT_done (by kernel_rfl) ?_
          refine JE_block ?_
          refine JE_seq ?_
          refine JC_region ?_
          refine JL_pd rfl (det_move rfl) ?_
          refine JL_pd rfl (det_add rfl rfl ⟨by omega, by omega⟩) ?_
          refine JL_pd rfl (det_assign rfl) ?_
          refine JL_nil ?_
          refine JE_pure (p := x53.2.2.length = (truL l n ((row + 1 : Nat) : Int) (nextS s t)).length) (fun w h => h.1.1.2.symm) fun hxl => ?_
          exact JE_roundF hK (i + 1, b54, vs ++ x53.2.2) ⟨by simp only; omega, by simp only [List.length_append]; omega⟩ (by simp only; omega) (stsub_consI rfl (by simp only; omega) (stsub_cons rfl stsub_nil)) (ht_ow (by simp [hxl]) (by simp) ht_nil) (hR := ⟨fun w h => ⟨by rw [take_snoc hi2, List.flatMap_append, List.flatMap_cons, List.flatMap_nil, List.append_nil, htg]; exact h.2.2.1.append h.1.2, h.2.2.2⟩⟩)
        exact JAl_nil
      exact JAl_nil
    · have hie : i = (turnsOf hk).length := by omega
      refine JC_pure (p := vs.length = ((turnsOf hk).flatMap F).length) (fun w hw => ?_) fun hvl2 => ?_
      · have := hw.1.1
        rw [hie, List.take_length] at this
        exact this
      refine JC_slice (enc := encSlV) (v := v) vs noFp rfl rfl ?_
      rintro a cap rfl
      rw [hvl2]
      refine JC_exit ?_
      refine JE_seq_exit ?_
      refine JE_then_exit ?_
      refine JE_block_here ?_
      refine JE_seq ?_
      refine JC_seq ?_
      refine JC_region ?_
      refine JL_pd rfl (det_move rfl) ?_
      refine JL_pd rfl (det_assign rfl) ?_
      refine JL_nil ?_
      refine JE_seq ?_
      refine JC_ret ?_
      -- stop: out
      refine JE_out (.inl rfl) (a, cap, vs) (results1 Try.results61 (res_tmp rfl)) rfl (List.Perm.refl _) (fun w h => ⟨h.1, by have := h.2.1; rw [hie, List.take_length] at this; exact this⟩)
end Go.Proofs.Ytcfhbnfincpehaa

/- Path: the reference's Hit, Hits, Greatest, Turn; Few. -/
namespace Go.Proofs.Ytcfhbnfincpehaa
open Go.RowKit Go.Shelf

/-- The reference's Play, of a truth. -/
theorem rPlay_jt {l : La} {s : St} {ts : List Int} {over : List St} {g : Bool} (ha pa : Option Addr) (hc pc : Nat) (ta : Option Addr) (tc : Nat) (V : Valid l) (h0 : isStart l s = true) (hT : Truth l (nR l) 0 s ts over g) :
    Cr Try.prog 44 [.agg #[I l.boards, I l.rows, .slice ha l.hooks.length hc, .slice pa l.patches.length pc], .agg #[I s.b, I s.d], .slice ta ts.length tc] (KAnd (KSl ta ts.length tc encI ts) (KLane l ha hc pa pc)) (fun q : Option Addr × Nat => .tuple #[.slice q.1 over.length q.2, .bool g, .bool true]) (fun q => KSl q.1 over.length q.2 encSt over) := by
  have hp := hT.playV V
  have h := rPlay_j l s ts ha pa hc pc ta tc V h0 (by have := hT.len.2.2.2; have := V.r2; unfold nR at *; omega)
  rw [hp] at h
  exact h
theorem hitB_idx2 (p : Pk) (over : List St) (g : Bool) (i : Nat) (hi : i < over.length) (he : i + 1 = over.length) : hitB p over g = (!g && (inR over[i].b p.boards && inR over[i].d p.dirs)) := by
  unfold hitB
  have : over.getLast? = some over[i] := by
    rw [List.getLast?_eq_getElem?, show over.length - 1 = i by omega, List.getElem?_eq_getElem hi]
  rw [this]
set_option maxRecDepth 100000 in
theorem rHit_jt {l : La} {s : St} {ts : List Int} {over : List St} {g : Bool} (p : Pk) (ha pa : Option Addr) (hc pc : Nat) (ta : Option Addr) (tc : Nat) (V : Valid l) (h0 : isStart l s = true) (hT : Truth l (nR l) 0 s ts over g) :
    Cv Try.prog 51 [.agg #[I l.boards, I l.rows, .slice ha l.hooks.length hc, .slice pa l.patches.length pc], .agg #[I s.b, I s.d], .slice ta ts.length tc, .agg #[I p.boards.lo, I p.boards.hi, I p.dirs.lo, I p.dirs.hi]] (KAnd (KSl ta ts.length tc encI ts) (KLane l ha hc pa pc)) (.bool (hitB p over g)) := by
  obtain ⟨ol1, ol2, ol3, -⟩ := hT.len
  have r2 := V.r2
  have hnr : nR l ≤ 12 := by unfold nR; omega
  have olb : over.length ≤ 14 := by cases g with | false => have := ol2 rfl; omega | true => have := ol3 rfl; omega
  have hH := hitB_idx2 p over g (over.length - 1) (by omega) (by omega)
  refine Cx_of Try.func51 rfl Try.ntmps51 rfl fun w0 M0 => ?_
  refine JC_seq ?_
  refine JC_region ?_
  refine JL_step rfl rfl rfl (jo_box rfl rfl) fun b4 => ?_
  refine JL_step rfl rfl rfl (jo_box rfl rfl) fun b5 => ?_
  refine JL_step rfl rfl rfl (jo_box rfl rfl) fun b7 => ?_
  refine JL_pd rfl (det_assign rfl) ?_
  refine JL_nil ?_
  refine JE_seq ?_
  refine JC_seq ?_
  refine JC_region ?_
  refine JL_dt rfl (det_loadKA rfl Try.isAgg25 Try.sizeOf25 rfl rfl) ?_
  refine JL_dt rfl (det_loadKA rfl Try.isAgg27 Try.sizeOf27 rfl rfl) ?_
  refine JL_pd rfl (det_move rfl) ?_
  -- stop: op  3 t17 := (call (Call (value f44) (t14 t15 t16) (25 27 75)))   <0 1 2>   110
  refine JL_step rfl rfl rfl (jo_call rfl rfl Try.call44 rfl (rPlay_jt ha pa hc pc ta tc V h0 hT)) fun ⟨oa, oc⟩ => ?_
  refine JL_pd rfl (det_move rfl) ?_
  refine JL_pd rfl (det_extract rfl rfl) ?_
  refine JL_pd rfl (det_extract rfl rfl) ?_
  refine JL_pd rfl (det_extract rfl rfl) ?_
  refine JL_pd rfl (det_assign rfl) ?_
  refine JL_pd rfl (det_assign rfl) ?_
  refine JL_pd rfl (det_assign rfl) ?_
  refine JL_nil ?_
  refine JE_seq ?_
  refine JC_seq ?_
  refine JC_region ?_
  refine JL_pd rfl (det_move rfl) ?_
  refine JL_pd rfl (det_move rfl) ?_
  refine JL_pd rfl (det_len rfl Try.runUnderlying43) ?_
  refine JL_pd rfl (det_sub rfl rfl ⟨by omega, by omega⟩) ?_
  -- stop: op  4 t25 := (indexAddr 43 t21 t24)   <0 3>   111
  refine JL_dt rfl (det_indexAddr (i := over.length - 1) rfl rfl (by omega) (by omega) Try.runUnderlying43 Try.sizeOf27) ?_
  refine JL_dt rfl (det_loadEA rfl (by first | assumption | omega | decide) Try.isAgg27 Try.sizeOf27 rfl rfl rfl) ?_
  refine JL_step rfl rfl rfl (jo_alloc0 Try.zeroValue27 rfl) fun b12 => ?_
  refine JL_step0 rfl rfl (jo_store rfl rfl rfl (by first | (simp only [splice_norm]; done) | (simp only [splice_norm]; rfl) | rfl) Try.sizeOf27 rfl rfl) fun _ => ?_
  refine JL_nil ?_
  refine JE_seq ?_
  refine JC_seq ?_
  refine JC_region ?_
  refine JL_pd rfl (det_move rfl) ?_
  refine JL_pd rfl (det_not rfl) ?_
  refine JL_pd rfl (det_move rfl) ?_
  -- stop: guard 2
  refine JL_join1 22 8 (.bool (hitB p over g)) (fun hj => ?_) ?_
  · refine JL_split (d0 := 29) rfl (fun q1 => ?_) (fun q1 => ?_)
    · refine JL_guard rfl rfl q1 ?_
      refine JL_pd rfl (det_fieldAddr rfl fo_27_0) ?_
      refine JL_guard rfl rfl q1 ?_
      refine JL_dt rfl (det_loadK rfl Try.isAgg3 rfl) ?_
      refine JL_guard rfl rfl q1 ?_
      refine JL_pd rfl (det_fieldAddr rfl fo_57_0) ?_
      refine JL_guard rfl rfl q1 ?_
      refine JL_pd rfl (det_fieldAddr rfl fo_53_0) ?_
      refine JL_guard rfl rfl q1 ?_
      refine JL_dt rfl (det_loadK rfl Try.isAgg3 rfl) ?_
      refine JL_guard rfl rfl q1 ?_
      refine JL_pd rfl (det_fieldAddr rfl fo_57_0) ?_
      refine JL_guard rfl rfl q1 ?_
      refine JL_pd rfl (det_fieldAddr rfl fo_53_1) ?_
      refine JL_guard rfl rfl q1 ?_
      refine JL_dt rfl (det_loadK rfl Try.isAgg3 rfl) ?_
      refine JL_guard rfl rfl q1 ?_
      refine JL_step rfl rfl rfl (jo_callv rfl rfl Try.call22 rfl (rIn_j _ _ _)) fun _ => ?_
      refine JL_pd rfl (det_pick_t rfl q1 rfl) ?_
      refine JL_pd rfl (det_move rfl) ?_
      refine JL_split (d0 := 40) rfl (fun q2 => ?_) (fun q2 => ?_)
      · refine JL_guard rfl rfl q2 ?_
        refine JL_pd rfl (det_fieldAddr rfl fo_27_1) ?_
        refine JL_guard rfl rfl q2 ?_
        refine JL_dt rfl (det_loadK rfl Try.isAgg3 rfl) ?_
        refine JL_guard rfl rfl q2 ?_
        refine JL_pd rfl (det_fieldAddr rfl fo_57_1) ?_
        refine JL_guard rfl rfl q2 ?_
        refine JL_pd rfl (det_fieldAddr rfl fo_53_0) ?_
        refine JL_guard rfl rfl q2 ?_
        refine JL_dt rfl (det_loadK rfl Try.isAgg3 rfl) ?_
        refine JL_guard rfl rfl q2 ?_
        refine JL_pd rfl (det_fieldAddr rfl fo_57_1) ?_
        refine JL_guard rfl rfl q2 ?_
        refine JL_pd rfl (det_fieldAddr rfl fo_53_1) ?_
        refine JL_guard rfl rfl q2 ?_
        refine JL_dt rfl (det_loadK rfl Try.isAgg3 rfl) ?_
        refine JL_guard rfl rfl q2 ?_
        refine JL_step rfl rfl rfl (jo_callv rfl rfl Try.call22 rfl (rIn_j _ _ _)) fun _ => ?_
        refine JL_pd rfl (det_pick_t rfl q2 rfl) ?_
        refine JL_pd rfl (det_assign rfl) ?_
        exact hj (by kernel_rfl) (stsub_consB rfl (by clear hj; first | rfl | (simp only [hH, inR, q1, q2, Bool.and_true, Bool.true_and, Bool.false_and, Bool.and_false, Bool.or_true, Bool.true_or, Bool.or_false, Bool.false_or, Bool.not_true, Bool.not_false]; done) | (simp [hH, inR, q1, q2]; done) | (simp [hH, inR] at q1; done) | (simp [hH, inR] at q2; done) | (simp [hH, inR, q1, q2] <;> omega) | (exfalso; simp [hH, inR] at q1 q2; omega) | (simp [q1, q2] at hH; done)) stsub_nil)
      · refine JL_skip rfl rfl q2 rfl ?_
        refine JL_skip rfl rfl q2 rfl ?_
        refine JL_skip rfl rfl q2 rfl ?_
        refine JL_skip rfl rfl q2 rfl ?_
        refine JL_skip rfl rfl q2 rfl ?_
        refine JL_skip rfl rfl q2 rfl ?_
        refine JL_skip rfl rfl q2 rfl ?_
        refine JL_skip rfl rfl q2 rfl ?_
        refine JL_skip rfl rfl q2 rfl ?_
        refine JL_pd rfl (det_pick_f rfl q2 rfl) ?_
        refine JL_pd rfl (det_assign rfl) ?_
        exact hj (by kernel_rfl) (stsub_consB rfl (by clear hj; first | rfl | (simp only [hH, inR, q1, q2, Bool.and_true, Bool.true_and, Bool.false_and, Bool.and_false, Bool.or_true, Bool.true_or, Bool.or_false, Bool.false_or, Bool.not_true, Bool.not_false]; done) | (simp [hH, inR, q1, q2]; done) | (simp [hH, inR] at q1; done) | (simp [hH, inR] at q2; done) | (simp [hH, inR, q1, q2] <;> omega) | (exfalso; simp [hH, inR] at q1 q2; omega) | (simp [q1, q2] at hH; done)) stsub_nil)
    · refine JL_skip rfl rfl q1 rfl ?_
      refine JL_skip rfl rfl q1 rfl ?_
      refine JL_skip rfl rfl q1 rfl ?_
      refine JL_skip rfl rfl q1 rfl ?_
      refine JL_skip rfl rfl q1 rfl ?_
      refine JL_skip rfl rfl q1 rfl ?_
      refine JL_skip rfl rfl q1 rfl ?_
      refine JL_skip rfl rfl q1 rfl ?_
      refine JL_skip rfl rfl q1 rfl ?_
      refine JL_pd rfl (det_pick_f rfl q1 rfl) ?_
      refine JL_pd rfl (det_move rfl) ?_
      refine JL_skip rfl rfl rfl rfl ?_
      refine JL_skip rfl rfl rfl rfl ?_
      refine JL_skip rfl rfl rfl rfl ?_
      refine JL_skip rfl rfl rfl rfl ?_
      refine JL_skip rfl rfl rfl rfl ?_
      refine JL_skip rfl rfl rfl rfl ?_
      refine JL_skip rfl rfl rfl rfl ?_
      refine JL_skip rfl rfl rfl rfl ?_
      refine JL_skip rfl rfl rfl rfl ?_
      refine JL_pd rfl (det_pick_f rfl rfl rfl) ?_
      refine JL_pd rfl (det_assign rfl) ?_
      exact hj (by kernel_rfl) (stsub_consB rfl (by clear hj; first | rfl | (simp only [hH, inR, q1, Bool.and_true, Bool.true_and, Bool.false_and, Bool.and_false, Bool.or_true, Bool.true_or, Bool.or_false, Bool.false_or, Bool.not_true, Bool.not_false]; done) | (simp [hH, inR, q1]; done) | (simp [hH, inR] at q1; done) | (simp [hH, inR, q1] <;> omega) | (exfalso; simp [hH, inR] at q1; omega) | (simp [q1] at hH; done)) stsub_nil)
  refine JL_nil ?_
  refine JE_seq ?_
  refine JC_ret ?_
  -- stop: out
  refine JE_out (.inl rfl) () (results1 Try.results51 (res_tmp rfl)) rfl (List.Perm.refl _) (fun _ _ => trivial)
theorem maxB_snoc2 (xs : List St) (x : St) : maxB (xs ++ [x]) = max (maxB xs) x.b := by simp [maxB]
set_option maxRecDepth 100000 in
theorem rGreatest_j (xs : List St) (a : Option Addr) (cap : Nat) (hx : xs.length ≤ 1000000) : Cv Try.prog 69 [.slice a xs.length cap] (KSl a xs.length cap encSt xs) (I (maxB xs)) := by
  refine Cx_of Try.func69 rfl Try.ntmps69 rfl fun w0 M0 => ?_
  refine JC_seq ?_
  refine JC_region ?_
  refine JL_pd rfl (det_assign rfl) ?_
  refine JL_nil ?_
  refine JE_seq ?_
  refine JC_seq ?_
  refine JC_region ?_
  refine JL_pd rfl (det_assign rfl) ?_
  refine JL_nil ?_
  refine JE_seq ?_
  refine JC_seq ?_
  refine JC_seq ?_
  refine JC_region ?_
  refine JL_pd rfl (det_assign rfl) ?_
  refine JL_nil ?_
  refine JE_seq ?_
  refine JC_block ?_
  -- stop: loop
  refine JC_loopF (γ := Nat) (fun i => i ≤ xs.length) (fun i => [(4, I i), (3, I (maxB (xs.take i)))]) (fun _ => []) (fun i => xs.length - i) 0 (by omega) (stsub_cons rfl (stsub_cons rfl stsub_nil)) ht_nil ?_
  intro i hi K hK
  dsimp only [List.cons_append, List.nil_append]
  refine JC_seq ?_
  refine JC_seq ?_
  refine JC_region ?_
  refine JL_pd rfl (det_move rfl) ?_
  refine JL_pd rfl (det_move rfl) ?_
  refine JL_pd rfl (det_len rfl Try.runUnderlying43) ?_
  refine JL_pd rfl (det_lss rfl rfl) ?_
  refine JL_nil ?_
  refine JE_seq ?_
  -- stop: cond
  refine JC_if rfl (fun h1 => ?_) (fun h1 => ?_)
  · have hi2 : i < xs.length := by omega
    refine JC_skip ?_
    refine JE_seq ?_
    refine JC_seq ?_
    refine JC_block ?_
    refine JC_region ?_
    refine JL_pd rfl (det_move rfl) ?_
    refine JL_pd rfl (det_move rfl) ?_
    refine JL_pd rfl (det_move rfl) ?_
    refine JL_dt rfl (det_indexAddr rfl rfl (by first | rfl | omega) (by first | assumption | omega | decide) Try.runUnderlying43 Try.sizeOf27) ?_
    refine JL_pd rfl (det_fieldAddrE rfl fo_27_0) ?_
    refine JL_dt rfl (det_loadEk rfl (by first | assumption | omega | decide) Try.isAgg3 rfl rfl) ?_
    refine JL_pd rfl (det_max rfl rfl) ?_
    refine JL_pd rfl (det_assign rfl) ?_
    refine JL_nil ?_
    refine JE_block ?_
    refine JE_seq ?_
    refine JC_region ?_
    refine JL_pd rfl (det_move rfl) ?_
    refine JL_pd rfl (det_add rfl rfl ⟨by omega, by omega⟩) ?_
    refine JL_pd rfl (det_assign rfl) ?_
    refine JL_nil ?_
    -- stop: end
    refine JE_roundF hK (i + 1) (by omega) (by omega) (stsub_consI rfl (by omega) (stsub_consI rfl (by rw [take_snoc hi2, maxB_snoc2]) stsub_nil)) ht_nil
  · have hie : xs.take i = xs := List.take_of_length_le (by omega)
    rw [hie]
    refine JC_exit ?_
    refine JE_seq_exit ?_
    refine JE_then_exit ?_
    refine JE_block_here ?_
    refine JE_seq ?_
    refine JC_seq ?_
    refine JC_region ?_
    refine JL_pd rfl (det_move rfl) ?_
    refine JL_pd rfl (det_assign rfl) ?_
    refine JL_nil ?_
    refine JE_seq ?_
    refine JC_ret ?_
    -- stop: out
    refine JE_out (.inl rfl) () (results1 Try.results69 (res_tmp rfl)) rfl (List.Perm.refl _) (fun _ _ => trivial)
/-- What the k-th truth is. -/
theorem truK {vs : List SlV} {yss : List (List Int)} {w : World} (h : AllK vs yss w) {i : Nat} (hi : i < vs.length) (hy : i < yss.length) : KSl vs[i].1 vs[i].2.1 vs[i].2.2 encI yss[i] w :=
  h.2 i _ _ (List.getElem?_eq_getElem hi) (List.getElem?_eq_getElem hy)
/-- How many truths hit. -/
def hitsN (l : La) (s : St) (p : Pk) (tss : List (List Int)) : Nat := tss.countP fun ts => hitB p (playV l s ts).1 (playV l s ts).2.1
theorem nil_map (yss : List (List Int)) : yss.map ([] ++ ·) = yss := by simp
set_option maxRecDepth 100000 in
theorem rHits_jn (l : La) (s : St) (p : Pk) (ha pa : Option Addr) (hc pc : Nat) (V : Valid l) (h0 : isStart l s = true) (hB : wideL l ^ nR l ≤ 300) :
    Cv Try.prog 50 [.agg #[I l.boards, I l.rows, .slice ha l.hooks.length hc, .slice pa l.patches.length pc], .agg #[I s.b, I s.d], .agg #[I p.boards.lo, I p.boards.hi, I p.dirs.lo, I p.dirs.hi]] (KLane l ha hc pa pc) (.int .u8 (verdict (hitsN l s p (truL l (nR l) 0 s)) (truL l (nR l) 0 s).length)) := by
  have b2 := V.b2
  have sb : 1 ≤ s.b ∧ s.b ≤ l.boards ∧ -5 ≤ s.d ∧ s.d ≤ 5 := by simpa [isStart] using h0
  have hlen := truL_len2 V hB (Nat.le_refl _) 0 s
  obtain ⟨tss, htss⟩ : ∃ tss, tss = truL l (nR l) 0 s := ⟨_, rfl⟩
  have hcall := rTruths_j l ha pa hc pc V hB (nR l) 0 s [] none 0 (by omega) sb.2.2.1 sb.2.2.2 (by omega) (by simp)
  rw [nil_map, show ((0 : Nat) : Int) = 0 from rfl, ← htss] at hcall
  have hK0 : ∀ w, KLane l ha hc pa pc w → KAnd (KSl none 0 0 encI ([] : List Int)) (KLane l ha hc pa pc) w := fun w h => ⟨KSl_nil w, h⟩
  rw [← htss] at hlen ⊢
  have hall : ∀ ts ∈ tss, ∃ over g, Truth l (nR l) 0 s ts over g := by rw [htss]; exact truL_is _ _ _ (onL_start h0)
  refine Cx_of Try.func50 rfl Try.ntmps50 rfl fun w0 M0 => ?_
  refine JC_seq ?_
  refine JC_region ?_
  refine JL_step rfl rfl rfl (jo_box rfl rfl) fun b3 => ?_
  refine JL_step rfl rfl rfl (jo_box rfl rfl) fun b4 => ?_
  refine JL_step rfl rfl rfl (jo_box rfl rfl) fun b5 => ?_
  refine JL_pd rfl (det_assign rfl) ?_
  refine JL_nil ?_
  refine JE_seq ?_
  refine JC_seq ?_
  refine JC_region ?_
  refine JL_dt rfl (det_loadKA rfl Try.isAgg25 Try.sizeOf25 rfl rfl) ?_
  refine JL_dt rfl (det_loadKA rfl Try.isAgg27 Try.sizeOf27 rfl rfl) ?_
  -- stop: op  2 t12 := (call (Call (value f61) (t10 0 t11 (slice none 0 0)) (25 3 27 75)))   <0 1>   180
  refine JL_know hK0 ?_
  refine JL_step rfl rfl rfl (jo_call rfl rfl Try.call61 rfl (hcall)) fun ⟨a, cap, vs⟩ => ?_
  refine JL_pd rfl (det_assign rfl) ?_
  refine JL_nil ?_
  refine JE_seq ?_
  refine JC_seq ?_
  refine JC_region ?_
  refine JL_pd rfl (det_assign rfl) ?_
  refine JL_nil ?_
  refine JE_seq ?_
  refine JC_seq ?_
  refine JC_seq ?_
  refine JC_region ?_
  refine JL_pd rfl (det_assign rfl) ?_
  refine JL_nil ?_
  refine JE_seq ?_
  refine JC_block ?_
  -- stop: loop
  refine JC_pure (p := vs.length = tss.length ∧ ∀ (i : Nat) v ys, vs[i]? = some v → tss[i]? = some ys → v.2.1 = ys.length) (by intro w h; exact h.1.2.lens) fun hL => ?_
  refine JC_loopF (γ := Nat) (fun i => i ≤ tss.length) (fun i => [(9, I i), (8, I (hitsN l s p (tss.take i)))]) (fun _ => []) (fun i => tss.length - i) 0 (by omega) (stsub_cons rfl (stsub_cons rfl stsub_nil)) ht_nil ?_
  intro i hi K hK
  dsimp only [List.cons_append, List.nil_append]
  refine JC_seq ?_
  refine JC_seq ?_
  refine JC_region ?_
  refine JL_pd rfl (det_move rfl) ?_
  refine JL_pd rfl (det_move rfl) ?_
  refine JL_pd rfl (det_len rfl Try.runUnderlying117) ?_
  refine JL_pd rfl (det_lss rfl rfl) ?_
  refine JL_nil ?_
  refine JE_seq ?_
  -- stop: cond
  refine JC_if rfl (fun h1 => ?_) (fun h1 => ?_)
  · have hi2 : i < tss.length := by omega
    have hi3 : i < vs.length := by omega
    obtain ⟨over, g, hT⟩ := hall tss[i] (List.getElem_mem hi2)
    have hpl := hT.playV V
    have hvl : vs[i].2.1 = tss[i].length := hL.2 i _ _ (List.getElem?_eq_getElem hi3) (List.getElem?_eq_getElem hi2)
    have hcnt : hitsN l s p (tss.take (i + 1)) = hitsN l s p (tss.take i) + if hitB p over g = true then 1 else 0 := by
      rw [take_snoc hi2]
      simp only [hitsN, List.countP_append, List.countP_cons, List.countP_nil, hpl, Nat.zero_add]
    have hle : hitsN l s p (tss.take i) ≤ 300 := Nat.le_trans List.countP_le_length (by rw [List.length_take]; omega)
    refine JC_know (R' := KAnd (KSl vs[i].1 tss[i].length vs[i].2.2 encI tss[i]) _) (by intro w h; exact ⟨by have := truK h.1.2 hi3 hi2; rwa [hvl] at this, h⟩) ?_
    refine JC_skip ?_
    refine JE_seq ?_
    refine JC_seq ?_
    refine JC_block ?_
    refine JC_seq ?_
    refine JC_draw [] (by kernel_rfl) ?_
    refine JA_dt (i := 0) rfl (by kernel_rfl) (by kernel_rfl) rfl rfl (det_loadKA rfl Try.isAgg25 Try.sizeOf25 rfl rfl) ?_
    refine JA_dt (i := 1) rfl (by kernel_rfl) (by kernel_rfl) rfl rfl (det_loadKA rfl Try.isAgg27 Try.sizeOf27 rfl rfl) ?_
    refine JA_pd (i := 2) rfl (by kernel_rfl) rfl rfl (det_move rfl) ?_
    refine JA_pd (i := 3) rfl (by kernel_rfl) rfl rfl (det_move rfl) ?_
    refine JA_dt (i := 4) rfl (by kernel_rfl) (by kernel_rfl) rfl rfl (det_indexAddr rfl rfl (by first | rfl | omega) (by first | assumption | omega | decide) Try.runUnderlying117 Try.sizeOf75) ?_
    refine JA_dt (i := 5) rfl (by kernel_rfl) (by kernel_rfl) rfl rfl (det_loadE (v := .slice vs[i].1 tss[i].length vs[i].2.2) rfl (by omega) Try.isAgg75 (by omega) (by rw [← hvl]; rfl)) ?_
    refine JA_dt (i := 6) rfl (by kernel_rfl) (by kernel_rfl) rfl rfl (det_loadKA rfl Try.isAgg57 Try.sizeOf57 rfl rfl) ?_
    refine JA_one (i := 7) (by kernel_rfl) rfl rfl (jo_callv rfl rfl Try.call51 rfl (rHit_jt p ha pa hc pc vs[i].1 vs[i].2.2 V h0 hT)) (fun _ => ⟨hsub_refl, fun _ h => h⟩) fun _ => ?_
    refine JA_done (by kernel_rfl) ?_
    refine JE_seq ?_
    -- stop: cond
    refine JC_cond rfl (fun h2 => ?_) (fun h2 => ?_)
    · refine JC_region ?_
      refine JL_pd rfl (det_move rfl) ?_
      refine JL_pd rfl (det_add rfl rfl ⟨by omega, by omega⟩) ?_
      refine JL_pd rfl (det_assign rfl) ?_
      refine JL_nil ?_
      refine JE_block ?_
      refine JE_seq ?_
      refine JC_region ?_
      refine JL_pd rfl (det_move rfl) ?_
      refine JL_pd rfl (det_add rfl rfl ⟨by omega, by omega⟩) ?_
      refine JL_pd rfl (det_assign rfl) ?_
      refine JL_nil ?_
      -- stop: end
      refine JE_roundF hK (i + 1) (by omega) (by omega) (stsub_consI rfl (by omega) (stsub_consI rfl (by rw [hcnt, if_pos h2]; omega) stsub_nil)) ht_nil
    · refine JC_skip ?_
      refine JE_block ?_
      refine JE_seq ?_
      refine JC_region ?_
      refine JL_pd rfl (det_move rfl) ?_
      refine JL_pd rfl (det_add rfl rfl ⟨by omega, by omega⟩) ?_
      refine JL_pd rfl (det_assign rfl) ?_
      refine JL_nil ?_
      -- stop: end
      refine JE_roundF hK (i + 1) (by omega) (by omega) (stsub_consI rfl (by omega) (stsub_consI rfl (by rw [hcnt, if_neg (by rw [h2]; decide)]; omega) stsub_nil)) ht_nil
  · have hie : tss.take i = tss := List.take_of_length_le (by omega)
    rw [hie]
    refine JC_exit ?_
    refine JE_seq_exit ?_
    refine JE_then_exit ?_
    refine JE_block_here ?_
    refine JE_seq ?_
    refine JC_seq ?_
    refine JC_region ?_
    refine JL_pd rfl (det_move rfl) ?_
    refine JL_pd rfl (det_move rfl) ?_
    refine JL_pd rfl (det_len rfl Try.runUnderlying117) ?_
    -- stop: op  3 t32 := (call (Call (value f63) (t29 t31) (3 3)))   <0 2>   187
    refine JL_step rfl rfl rfl (jo_callv rfl rfl Try.call63 rfl (rVerdict_j (hitsN l s p tss) tss.length)) fun _ => ?_
    refine JL_pd rfl (det_assign rfl) ?_
    refine JL_nil ?_
    refine JE_seq ?_
    refine JC_ret ?_
    -- stop: out
    refine JE_out (.inl rfl) () (results1 Try.results50 (res_tmp rfl)) rfl (List.Perm.refl _) (fun _ _ => trivial)
/-- How many truths hit tells whether it hits. -/
theorem hitsN_is {l : La} {s : St} (V : Valid l) (h0 : isStart l s = true) (p : Pk) : verdict (hitsN l s p (truL l (nR l) 0 s)) (truL l (nR l) 0 s).length = hitsV l s p := by
  have hon := onL_start h0
  have hpos := truL_ne l V (nR l) 0 s
  have h1 : canN l (hitsP p) (nR l) 0 s = true ↔ hitsN l s p (truL l (nR l) 0 s) ≠ 0 := by
    rw [hitsN, ← Nat.pos_iff_ne_zero, List.countP_pos_iff]
    constructor
    · intro h
      obtain ⟨ts, over, g, hT, ha, hb⟩ := can_truth (hitsP p) _ _ _ hon h
      refine ⟨ts, hT.mem, ?_⟩
      rw [hT.playV V]
      cases g
      · obtain ⟨x, hx, hy⟩ := hb rfl
        simp only [hitsP, Bool.true_and] at hy
        simp only [hitB, hx, Bool.not_false, Bool.true_and, hy]
      · obtain ⟨x, hx⟩ := ha rfl
        simp [hitsP] at hx
    · rintro ⟨ts, hm, hh⟩
      obtain ⟨over, g, hT⟩ := truL_is _ _ _ hon ts hm
      rw [hT.playV V] at hh
      refine hT.can _ (fun e x => by subst e; simp [hitB] at hh) fun e x hx => ?_
      subst e
      simp only [hitB, hx, Bool.not_false, Bool.true_and] at hh
      simpa only [hitsP, Bool.true_and] using hh
  have h2 : canN l (enM p) (nR l) 0 s = true ↔ hitsN l s p (truL l (nR l) 0 s) ≠ (truL l (nR l) 0 s).length := by
    rw [hitsN, Ne, List.countP_eq_length]
    constructor
    · intro h hall
      obtain ⟨ts, over, g, hT, ha, hb⟩ := can_truth (enM p) _ _ _ hon h
      have := hall ts hT.mem
      rw [hT.playV V] at this
      cases g
      · obtain ⟨x, hx, hy⟩ := hb rfl
        simp only [hitB, hx, Bool.not_false, Bool.true_and] at this
        simp only [enM, hitsP, Bool.true_and, this, Bool.not_true] at hy
        cases hy
      · simp [hitB] at this
    · intro hno
      have : ∃ ts ∈ truL l (nR l) 0 s, ¬ hitB p (playV l s ts).1 (playV l s ts).2.1 = true := by
        apply Classical.byContradiction
        intro hc
        apply hno
        intro ts hts
        apply Classical.byContradiction
        intro hh
        exact hc ⟨ts, hts, hh⟩
      obtain ⟨ts, hm, hh⟩ := this
      obtain ⟨over, g, hT⟩ := truL_is _ _ _ hon ts hm
      rw [hT.playV V] at hh
      refine hT.can _ (fun e x => by simp [enM, hitsP]) fun e x hx => ?_
      subst e
      simp only [hitB, hx, Bool.not_false, Bool.true_and] at hh
      simp only [enM, hitsP, Bool.true_and]
      cases hq : (inR x.b p.boards && inR x.d p.dirs)
      · rfl
      · exact absurd hq hh
  unfold verdict hitsV
  by_cases e1 : hitsN l s p (truL l (nR l) 0 s) = 0
  · have c1 : canN l (hitsP p) (nR l) 0 s = false := by
      cases h : canN l (hitsP p) (nR l) 0 s
      · rfl
      · exact absurd e1 (h1.1 h)
    have c2 : canN l (enM p) (nR l) 0 s = true := h2.2 (by omega)
    rw [if_pos (by omega), if_pos c2, if_neg (by rw [c1]; decide)]
  · have c1 := h1.2 e1
    rw [if_neg (by omega)]
    by_cases e2 : hitsN l s p (truL l (nR l) 0 s) = (truL l (nR l) 0 s).length
    · have c2 : canN l (enM p) (nR l) 0 s = false := by
        cases h : canN l (enM p) (nR l) 0 s
        · rfl
        · exact absurd e2 (h2.1 h)
      rw [if_pos (by omega), if_neg (by rw [c2]; decide)]
    · rw [if_neg (by omega), if_pos (h2.2 e2), if_pos c1]
theorem rHits_j (l : La) (s : St) (p : Pk) (ha pa : Option Addr) (hc pc : Nat) (V : Valid l) (h0 : isStart l s = true) (hB : wideL l ^ nR l ≤ 300) :
    Cv Try.prog 50 [.agg #[I l.boards, I l.rows, .slice ha l.hooks.length hc, .slice pa l.patches.length pc], .agg #[I s.b, I s.d], .agg #[I p.boards.lo, I p.boards.hi, I p.dirs.lo, I p.dirs.hi]] (KLane l ha hc pa pc) (.int .u8 (hitsV l s p)) := by
  rw [← hitsN_is V h0 p]; exact rHits_jn l s p ha pa hc pc V h0 hB
end Go.Proofs.Ytcfhbnfincpehaa

/- Path: the reference's Turn, Reach; Few. -/
namespace Go.Proofs.Ytcfhbnfincpehaa
open Go.RowKit Go.Shelf

/-- The range of the turns, by all truths. -/
def turnF (l : La) (s : St) (tss : List (List Int)) : Rg := (tss.map fun ts => (⟨maxB (playV l s ts).1, maxB (playV l s ts).1⟩ : Rg)).foldl widen ⟨100, 0⟩
theorem turnF_snoc (l : La) (s : St) (tss : List (List Int)) (ts : List Int) : turnF l s (tss ++ [ts]) = ⟨min (turnF l s tss).lo (maxB (playV l s ts).1), max (turnF l s tss).hi (maxB (playV l s ts).1)⟩ := by
  simp only [turnF, List.map_append, List.foldl_append]; rfl
theorem turnF_is {l : La} {s : St} (V : Valid l) (h0 : isStart l s = true) : turnF l s (truL l (nR l) 0 s) = turnV l s := by
  have hon := onL_start h0
  obtain ⟨w1, w2, w3, w4, w5⟩ := widen_fold ((truL l (nR l) 0 s).map fun ts => (⟨maxB (playV l s ts).1, maxB (playV l s ts).1⟩ : Rg)) ⟨100, 0⟩
  have hb : ∀ ts ∈ truL l (nR l) 0 s, (turnV l s).lo ≤ maxB (playV l s ts).1 ∧ maxB (playV l s ts).1 ≤ (turnV l s).hi := by
    intro ts hts
    obtain ⟨over, g, hT⟩ := truL_is _ _ _ hon ts hts
    rw [hT.playV V]
    exact hT.turn
  obtain ⟨⟨t1, o1, g1, hT1, e1⟩, ⟨t2, o2, g2, hT2, e2⟩⟩ := turn_truth V (nR l) 0 s hon
  have a1 := w3 _ (List.mem_map.2 ⟨t1, hT1.mem, rfl⟩)
  have a2 := w3 _ (List.mem_map.2 ⟨t2, hT2.mem, rfl⟩)
  have p1 := hT1.playV V
  have p2 := hT2.playV V
  simp only [p1, p2] at a1 a2
  rw [e1] at a1
  rw [e2] at a2
  have b40 : (turnN l (nR l) 0 s).lo ≤ 40 := by
    have := on_b hon
    have b2 := V.b2
    have hh : maxB o1 ≤ 40 := by
      have key : ∀ (xs : List St) (m : Int), m ≤ 40 → (∀ x ∈ xs, x.b ≤ 40) → xs.foldl (fun n x => max n x.b) m ≤ 40 := by
        intro xs
        induction xs with
        | nil => intro m hm _; exact hm
        | cons y ys ih =>
          intro m hm hy
          rw [List.foldl_cons]
          exact ih _ (by have := hy y (by simp); omega) (fun x hx => hy x (by simp [hx]))
      exact key o1 0 (by omega) fun x hx => by have := on_b (hT1.allon x hx); omega
    omega
  have n0 : 0 ≤ (turnN l (nR l) 0 s).hi := by rw [← e2]; exact maxB_nonneg _
  have hlo : (turnF l s (truL l (nR l) 0 s)).lo = (turnV l s).lo := by
    show (List.foldl widen ⟨100, 0⟩ _).lo = (turnN l (nR l) 0 s).lo
    rcases w4 with w4 | ⟨r, hr, w4⟩
    · simp only at w4; omega
    · obtain ⟨ts, hts, rfl⟩ := List.mem_map.1 hr
      have := (hb ts hts).1
      simp only [turnV] at this w4
      omega
  have hhi : (turnF l s (truL l (nR l) 0 s)).hi = (turnV l s).hi := by
    show (List.foldl widen ⟨100, 0⟩ _).hi = (turnN l (nR l) 0 s).hi
    rcases w5 with w5 | ⟨r, hr, w5⟩
    · simp only at w5; omega
    · obtain ⟨ts, hts, rfl⟩ := List.mem_map.1 hr
      have := (hb ts hts).2
      simp only [turnV] at this w5
      omega
  cases h1 : turnF l s (truL l (nR l) 0 s)
  cases h2 : turnV l s
  rw [h1, h2] at hlo hhi
  simp only at hlo hhi
  rw [hlo, hhi]
set_option maxRecDepth 100000 in
theorem rTurn_jn (l : La) (s : St) (ha pa : Option Addr) (hc pc : Nat) (V : Valid l) (h0 : isStart l s = true) (hB : wideL l ^ nR l ≤ 300) :
    Cv Try.prog 27 [.agg #[I l.boards, I l.rows, .slice ha l.hooks.length hc, .slice pa l.patches.length pc], .agg #[I s.b, I s.d]] (KLane l ha hc pa pc) (.agg #[I (turnF l s (truL l (nR l) 0 s)).lo, I (turnF l s (truL l (nR l) 0 s)).hi]) := by
  have b2 := V.b2
  have sb : 1 ≤ s.b ∧ s.b ≤ l.boards ∧ -5 ≤ s.d ∧ s.d ≤ 5 := by simpa [isStart] using h0
  have hlen := truL_len2 V hB (Nat.le_refl _) 0 s
  obtain ⟨tss, htss⟩ : ∃ tss, tss = truL l (nR l) 0 s := ⟨_, rfl⟩
  have hcall := rTruths_j l ha pa hc pc V hB (nR l) 0 s [] none 0 (by omega) sb.2.2.1 sb.2.2.2 (by omega) (by simp)
  rw [nil_map, show ((0 : Nat) : Int) = 0 from rfl, ← htss] at hcall
  have hK0 : ∀ w, KLane l ha hc pa pc w → KAnd (KSl none 0 0 encI ([] : List Int)) (KLane l ha hc pa pc) w := fun w h => ⟨KSl_nil w, h⟩
  rw [← htss] at hlen ⊢
  have hall : ∀ ts ∈ tss, ∃ over g, Truth l (nR l) 0 s ts over g := by rw [htss]; exact truL_is _ _ _ (onL_start h0)
  refine Cx_of Try.func27 rfl Try.ntmps27 rfl fun w0 M0 => ?_
  refine JC_seq ?_
  refine JC_region ?_
  refine JL_step rfl rfl rfl (jo_box rfl rfl) fun b2 => ?_
  refine JL_step rfl rfl rfl (jo_box rfl rfl) fun b3 => ?_
  refine JL_step rfl rfl rfl (jo_alloc0 Try.zeroValue53 rfl) fun b4 => ?_
  refine JL_nil ?_
  refine JE_seq ?_
  refine JC_seq ?_
  refine JC_region ?_
  refine JL_dt rfl (det_loadKA rfl Try.isAgg25 Try.sizeOf25 rfl rfl) ?_
  refine JL_dt rfl (det_loadKA rfl Try.isAgg27 Try.sizeOf27 rfl rfl) ?_
  -- stop: op  2 t14 := (call (Call (value f61) (t12 0 t13 (slice none 0 0)) (25 3 27 75)))   <0 1>   168
  refine JL_know hK0 ?_
  refine JL_step rfl rfl rfl (jo_call rfl rfl Try.call61 rfl (hcall)) fun ⟨a, cap, vs⟩ => ?_
  refine JL_pd rfl (det_assign rfl) ?_
  refine JL_nil ?_
  refine JE_seq ?_
  refine JC_seq ?_
  refine JC_region ?_
  refine JL_pd rfl (det_build rfl (bld_53_0_1 _ _)) ?_
  refine JL_step rfl rfl rfl (jo_alloc0 Try.zeroValue53 rfl) fun b6 => ?_
  refine JL_step0 rfl rfl (jo_store rfl rfl rfl (by first | (simp only [splice_norm]; done) | (simp only [splice_norm]; rfl) | rfl) Try.sizeOf53 rfl rfl) fun _ => ?_
  refine JL_nil ?_
  refine JE_seq ?_
  refine JC_seq ?_
  refine JC_seq ?_
  refine JC_region ?_
  refine JL_pd rfl (det_assign rfl) ?_
  refine JL_nil ?_
  refine JE_seq ?_
  refine JC_block ?_
  -- stop: loop
  refine JC_pure (p := vs.length = tss.length ∧ ∀ (i : Nat) v ys, vs[i]? = some v → tss[i]? = some ys → v.2.1 = ys.length) (by intro w h; exact h.1.2.lens) fun hL => ?_
  refine JC_loopF (γ := Nat) (fun i => i ≤ tss.length) (fun i => [(7, I i)]) (fun i => [bx b6 [I (turnF l s (tss.take i)).lo, I (turnF l s (tss.take i)).hi]]) (fun i => tss.length - i) 0 (by omega) (stsub_cons rfl stsub_nil) (ht_bx rfl ht_nil) ?_
  intro i hi K hK
  dsimp only [List.cons_append, List.nil_append]
  refine JC_seq ?_
  refine JC_seq ?_
  refine JC_region ?_
  refine JL_pd rfl (det_move rfl) ?_
  refine JL_pd rfl (det_move rfl) ?_
  refine JL_pd rfl (det_len rfl Try.runUnderlying117) ?_
  refine JL_pd rfl (det_lss rfl rfl) ?_
  refine JL_nil ?_
  refine JE_seq ?_
  -- stop: cond
  refine JC_if rfl (fun h1 => ?_) (fun h1 => ?_)
  · have hi2 : i < tss.length := by omega
    have hi3 : i < vs.length := by omega
    obtain ⟨over, g, hT⟩ := hall tss[i] (List.getElem_mem hi2)
    have hpl := hT.playV V
    have hvl : vs[i].2.1 = tss[i].length := hL.2 i _ _ (List.getElem?_eq_getElem hi3) (List.getElem?_eq_getElem hi2)
    have hsn : turnF l s (tss.take (i + 1)) = ⟨min (turnF l s (tss.take i)).lo (maxB over), max (turnF l s (tss.take i)).hi (maxB over)⟩ := by
      rw [take_snoc hi2, turnF_snoc, hpl]
    have hol : over.length ≤ 1000000 := by
      obtain ⟨_, ol2, ol3, _⟩ := hT.len
      have r2 := V.r2
      have : nR l ≤ 12 := by unfold nR; omega
      cases g with
      | false => have := ol2 rfl; omega
      | true => have := ol3 rfl; omega
    refine JC_know (R' := KAnd (KSl vs[i].1 tss[i].length vs[i].2.2 encI tss[i]) _) (by intro w h; exact ⟨by have := truK h.1.2 hi3 hi2; rwa [hvl] at this, h⟩) ?_
    refine JC_skip ?_
    refine JE_seq ?_
    refine JC_seq ?_
    refine JC_block ?_
    refine JC_seq ?_
    refine JC_draw [] (by kernel_rfl) ?_
    refine JA_dt (i := 0) rfl (by kernel_rfl) (by kernel_rfl) rfl rfl (det_loadKA rfl Try.isAgg25 Try.sizeOf25 rfl rfl) ?_
    refine JA_dt (i := 1) rfl (by kernel_rfl) (by kernel_rfl) rfl rfl (det_loadKA rfl Try.isAgg27 Try.sizeOf27 rfl rfl) ?_
    refine JA_pd (i := 2) rfl (by kernel_rfl) rfl rfl (det_move rfl) ?_
    refine JA_pd (i := 3) rfl (by kernel_rfl) rfl rfl (det_move rfl) ?_
    refine JA_dt (i := 4) rfl (by kernel_rfl) (by kernel_rfl) rfl rfl (det_indexAddr rfl rfl (by first | rfl | omega) (by first | assumption | omega | decide) Try.runUnderlying117 Try.sizeOf75) ?_
    refine JA_dt (i := 5) rfl (by kernel_rfl) (by kernel_rfl) rfl rfl (det_loadE (v := .slice vs[i].1 tss[i].length vs[i].2.2) rfl (by omega) Try.isAgg75 (by omega) (by rw [← hvl]; rfl)) ?_
    refine JA_one (i := 6) (by kernel_rfl) rfl rfl (jo_call rfl rfl Try.call44 rfl (rPlay_jt ha pa hc pc vs[i].1 vs[i].2.2 V h0 hT)) (fun _ => ⟨hsub_drop 0 rfl, fun _ h => h.2⟩) fun x29 => ?_
    refine JA_pd (i := 7) rfl (by kernel_rfl) rfl rfl (det_move rfl) ?_
    refine JA_pd (i := 8) rfl (by kernel_rfl) rfl rfl (det_extract rfl rfl) ?_
    refine JA_pd (i := 9) rfl (by kernel_rfl) rfl rfl (det_extract rfl rfl) ?_
    refine JA_pd (i := 10) rfl (by kernel_rfl) rfl rfl (det_extract rfl rfl) ?_
    refine JA_pd (i := 11) rfl (by kernel_rfl) rfl rfl (det_assign rfl) ?_
    refine JA_pd (i := 12) rfl (by kernel_rfl) rfl rfl (det_assign rfl) ?_
    refine JA_pd (i := 13) rfl (by kernel_rfl) rfl rfl (det_assign rfl) ?_
    refine JA_done (by kernel_rfl) ?_
    refine JE_seq ?_
    refine JC_seq ?_
    refine JC_region ?_
    refine JL_pd rfl (det_move rfl) ?_
    refine JL_step rfl rfl rfl (jo_callv rfl rfl Try.call69 rfl (rGreatest_j over x29.1 x29.2 hol)) fun _ => ?_
    refine JL_pd rfl (det_assign rfl) ?_
    refine JL_nil ?_
    refine JE_seq ?_
    refine JC_region ?_
    refine JL_pd rfl (det_fieldAddr rfl fo_53_0) ?_
    refine JL_dt rfl (det_loadK rfl Try.isAgg3 rfl) ?_
    refine JL_pd rfl (det_move rfl) ?_
    refine JL_pd rfl (det_min rfl rfl) ?_
    refine JL_pd rfl (det_fieldAddr rfl fo_53_1) ?_
    refine JL_dt rfl (det_loadK rfl Try.isAgg3 rfl) ?_
    refine JL_pd rfl (det_move rfl) ?_
    refine JL_pd rfl (det_max rfl rfl) ?_
    refine JL_pd rfl (det_build rfl (bld_53_0_1 _ _)) ?_
    refine JL_step0 rfl rfl (jo_store rfl rfl rfl (by first | (simp only [splice_norm]; done) | (simp only [splice_norm]; rfl) | rfl) Try.sizeOf53 rfl rfl) fun _ => ?_
    refine JL_nil ?_
    refine JE_block ?_
    refine JE_seq ?_
    refine JC_region ?_
    refine JL_pd rfl (det_move rfl) ?_
    refine JL_pd rfl (det_add rfl rfl ⟨by omega, by omega⟩) ?_
    refine JL_pd rfl (det_assign rfl) ?_
    refine JL_nil ?_
    -- stop: end
    refine JE_roundF hK (i + 1) (by omega) (by omega) (stsub_consI rfl (by omega) stsub_nil) (ht_bx (by rw [hsn]) ht_nil)
  · have hie : tss.take i = tss := List.take_of_length_le (by omega)
    rw [hie]
    refine JC_exit ?_
    refine JE_seq_exit ?_
    refine JE_then_exit ?_
    refine JE_block_here ?_
    refine JE_seq ?_
    refine JC_seq ?_
    refine JC_region ?_
    refine JL_dt rfl (det_loadKA rfl Try.isAgg53 Try.sizeOf53 rfl rfl) ?_
    refine JL_step0 rfl rfl (jo_store rfl rfl rfl (by first | (simp only [splice_norm]; done) | (simp only [splice_norm]; rfl) | rfl) Try.sizeOf53 rfl rfl) fun _ => ?_
    refine JL_nil ?_
    refine JE_seq ?_
    refine JC_ret ?_
    -- stop: out
    refine JE_out (.inl rfl) () (results1 Try.results27 (res_box rfl Try.isAgg53 Try.sizeOf53 rfl)) rfl (List.Perm.refl _) (fun _ _ => trivial)
theorem rTurn_j (l : La) (s : St) (ha pa : Option Addr) (hc pc : Nat) (V : Valid l) (h0 : isStart l s = true) (hB : wideL l ^ nR l ≤ 300) :
    Cv Try.prog 27 [.agg #[I l.boards, I l.rows, .slice ha l.hooks.length hc, .slice pa l.patches.length pc], .agg #[I s.b, I s.d]] (KLane l ha hc pa pc) (.agg #[I (turnV l s).lo, I (turnV l s).hi]) := by
  rw [← turnF_is V h0]; exact rTurn_jn l s ha pa hc pc V h0 hB

/-- Is a lane not valid, or has a ball on it at most 300 truths? -/
def fewB (l : La) : Bool := if thin l = true ∧ fault l = 0 then decide (min 1000 (wideL l ^ nR l) ≤ 300) else thin l
theorem few_valid {l : La} (h : fewB l = true) : thin l = true ∧ (fault l = 0 → wideL l ^ nR l ≤ 300) := by
  unfold fewB at h
  split at h
  · rename_i hc
    simp only [decide_eq_true_eq] at h
    exact ⟨hc.1, fun _ => by omega⟩
  · rename_i hc
    exact ⟨h, fun e => absurd ⟨h, e⟩ hc⟩
def wideP (hs : List Rg) : Nat := hs.foldl (fun w h => max w (h.hi - h.lo + 1).toNat) 1
theorem wideP_snoc (hs : List Rg) (h : Rg) : wideP (hs ++ [h]) = max (wideP hs) (h.hi - h.lo + 1).toNat := by simp [wideP]
theorem wideP_pos (hs : List Rg) : 1 ≤ wideP hs := (foldl_wide hs 1).1
theorem min_pow (W : Nat) (hW : 1 ≤ W) (k : Nat) : min 1000 (min 1000 (W ^ k) * W) = min 1000 (W ^ (k + 1)) := by
  rw [Nat.pow_succ]
  rcases Nat.le_total 1000 (W ^ k) with h | h
  · rw [Nat.min_eq_left h]
    have h1 : 1000 ≤ 1000 * W := Nat.le_mul_of_pos_right _ hW
    have h2 : 1000 ≤ W ^ k * W := Nat.le_trans h (Nat.le_mul_of_pos_right _ hW)
    rw [Nat.min_eq_left h1, Nat.min_eq_left h2]
  · rw [Nat.min_eq_right h]
set_option maxRecDepth 100000 in
theorem lFew_j (l : La) (ha pa : Option Addr) (hc pc : Nat) : Cv Try.prog 16 [.agg #[I l.boards, I l.rows, .slice ha l.hooks.length hc, .slice pa l.patches.length pc]] (KLane l ha hc pa pc) (.bool (fewB l)) := by
  refine Cx_of Try.func16 rfl Try.ntmps16 rfl fun w0 M0 => ?_
  refine JC_seq ?_
  refine JC_region ?_
  refine JL_step rfl rfl rfl (jo_box rfl rfl) fun b1 => ?_
  refine JL_pd rfl (det_assign rfl) ?_
  refine JL_nil ?_
  refine JE_seq ?_
  refine JC_seq ?_
  refine JC_seq ?_
  refine JC_region ?_
  refine JL_dt rfl (det_loadKA rfl Try.isAgg25 Try.sizeOf25 rfl rfl) ?_
  refine JL_step rfl rfl rfl (jo_callv rfl rfl Try.call40 rfl (lThin_j l ha pa hc pc)) fun _ => ?_
  refine JL_pd rfl (det_not rfl) ?_
  refine JL_pd rfl (det_move rfl) ?_
  -- stop: guard 3
  refine JL_join1 4 14 (.bool (!(thin l && decide (fault l = 0)))) (fun hj => ?_) ?_
  · refine JL_split (d0 := 10) rfl (fun q1 => ?_) (fun q1 => ?_)
    · refine JL_skip rfl rfl q1 rfl ?_
      refine JL_skip rfl rfl q1 rfl ?_
      refine JL_skip rfl rfl q1 rfl ?_
      refine JL_pd rfl (det_pick_t rfl q1 rfl) ?_
      exact hj (by kernel_rfl) (stsub_consB rfl (by clear hj; first | rfl | (simp only [q1, Bool.and_true, Bool.true_and, Bool.false_and, Bool.and_false, Bool.or_true, Bool.true_or, Bool.or_false, Bool.false_or, Bool.not_true, Bool.not_false]; done) | (simp [q1]; done) | (simp at q1; done) | (simp [q1] <;> omega) | (exfalso; simp at q1; omega)) stsub_nil)
    · refine JL_guard rfl rfl q1 ?_
      refine JL_dt rfl (det_loadKA rfl Try.isAgg25 Try.sizeOf25 rfl rfl) ?_
      refine JL_guard rfl rfl q1 ?_
      refine JL_step rfl rfl rfl (jo_callv rfl rfl Try.call28 rfl (rFault_j l ha pa hc pc)) fun _ => ?_
      refine JL_guard rfl rfl q1 ?_
      refine JL_pd rfl (det_neq rfl rfl) ?_
      refine JL_pd rfl (det_pick_f rfl q1 rfl) ?_
      exact hj (by kernel_rfl) (stsub_consB rfl (by clear hj; first | rfl | (simp only [q1, Bool.and_true, Bool.true_and, Bool.false_and, Bool.and_false, Bool.or_true, Bool.true_or, Bool.or_false, Bool.false_or, Bool.not_true, Bool.not_false]; done) | (simp [q1]; done) | (simp at q1; done) | (simp [q1] <;> omega) | (exfalso; simp at q1; omega)) stsub_nil)
  refine JL_nil ?_
  refine JE_seq ?_
  -- stop: cond
  refine JC_cond rfl (fun h1 => ?_) (fun h1 => ?_)
  · refine JC_seq ?_
    refine JC_region ?_
    refine JL_dt rfl (det_loadKA rfl Try.isAgg25 Try.sizeOf25 rfl rfl) ?_
    refine JL_step rfl rfl rfl (jo_callv rfl rfl Try.call40 rfl (lThin_j l ha pa hc pc)) fun _ => ?_
    refine JL_pd rfl (det_assign rfl) ?_
    refine JL_nil ?_
    refine JE_seq ?_
    refine JC_ret ?_
    refine JE_seq_ret ?_
    -- stop: out
    refine JE_out (.inl rfl) () (results1 Try.results16 (res_tmp rfl)) (by unfold fewB; rw [if_neg (by intro hc; simp [hc] at h1)]) (List.Perm.refl _) (fun _ _ => trivial)
  · simp only [Bool.not_eq_false', Bool.and_eq_true, decide_eq_true_eq] at h1
    have V := fault_valid h1.2
    have v1 := V.nh
    have r1 := V.r1
    have r2 := V.r2
    have hnr : ((nR l : Nat) : Int) = l.rows - 1 := by unfold nR; omega
    refine JC_skip ?_
    refine JE_seq ?_
    refine JC_seq ?_
    refine JC_region ?_
    refine JL_pd rfl (det_assign rfl) ?_
    refine JL_nil ?_
    refine JE_seq ?_
    refine JC_seq ?_
    refine JC_seq ?_
    refine JC_region ?_
    refine JL_pd rfl (det_assign rfl) ?_
    refine JL_nil ?_
    refine JE_seq ?_
    refine JC_block ?_
    -- stop: loop
    refine JC_loopF (γ := Nat) (fun i => i ≤ l.hooks.length ∧ wideP (l.hooks.take i) ≤ 7) (fun i => [(4, I i), (3, I (wideP (l.hooks.take i)))]) (fun _ => []) (fun i => l.hooks.length - i) 0 ⟨by omega, by simp [wideP]⟩ (stsub_cons rfl (stsub_cons rfl stsub_nil)) ht_nil ?_
    rintro i ⟨hi, hw⟩ K hK
    dsimp only [List.cons_append, List.nil_append]
    refine JC_seq ?_
    refine JC_seq ?_
    refine JC_region ?_
    refine JL_pd rfl (det_move rfl) ?_
    refine JL_pd rfl (det_fieldAddr rfl fo_25_2) ?_
    refine JL_dt rfl (det_loadK rfl Try.isAgg22 rfl) ?_
    refine JL_pd rfl (det_len rfl Try.runUnderlying22) ?_
    refine JL_pd rfl (det_lss rfl rfl) ?_
    refine JL_nil ?_
    refine JE_seq ?_
    -- stop: cond
    refine JC_if rfl (fun h2 => ?_) (fun h2 => ?_)
    · have hi2 : i < l.hooks.length := by omega
      have hb := V.hk _ (List.getElem_mem hi2)
      have hs := wideP_snoc (l.hooks.take i) l.hooks[i]
      rw [← take_snoc hi2] at hs
      refine JC_skip ?_
      refine JE_seq ?_
      refine JC_seq ?_
      refine JC_block ?_
      refine JC_draw [] (by kernel_rfl) ?_
      refine JA_pd (i := 0) rfl (by kernel_rfl) rfl rfl (det_move rfl) ?_
      refine JA_pd (i := 1) rfl (by kernel_rfl) rfl rfl (det_fieldAddr rfl fo_25_2) ?_
      refine JA_dt (i := 2) rfl (by kernel_rfl) (by kernel_rfl) rfl rfl (det_loadK rfl Try.isAgg22 rfl) ?_
      refine JA_pd (i := 3) rfl (by kernel_rfl) rfl rfl (det_move rfl) ?_
      refine JA_dt (i := 4) rfl (by kernel_rfl) (by kernel_rfl) rfl rfl (det_indexAddr rfl rfl (by first | rfl | omega) (by first | assumption | omega | decide) Try.runUnderlying22 Try.sizeOf53) ?_
      refine JA_pd (i := 5) rfl (by kernel_rfl) rfl rfl (det_fieldAddrE rfl fo_53_1) ?_
      refine JA_dt (i := 6) rfl (by kernel_rfl) (by kernel_rfl) rfl rfl (det_loadEk rfl (by first | assumption | omega | decide) Try.isAgg3 rfl rfl) ?_
      refine JA_pd (i := 7) rfl (by kernel_rfl) rfl rfl (det_fieldAddr rfl fo_25_2) ?_
      refine JA_dt (i := 8) rfl (by kernel_rfl) (by kernel_rfl) rfl rfl (det_loadK rfl Try.isAgg22 rfl) ?_
      refine JA_pd (i := 9) rfl (by kernel_rfl) rfl rfl (det_move rfl) ?_
      refine JA_dt (i := 10) rfl (by kernel_rfl) (by kernel_rfl) rfl rfl (det_indexAddr rfl rfl (by first | rfl | omega) (by first | assumption | omega | decide) Try.runUnderlying22 Try.sizeOf53) ?_
      refine JA_pd (i := 11) rfl (by kernel_rfl) rfl rfl (det_fieldAddrE rfl fo_53_0) ?_
      refine JA_dt (i := 12) rfl (by kernel_rfl) (by kernel_rfl) rfl rfl (det_loadEk rfl (by first | assumption | omega | decide) Try.isAgg3 rfl rfl) ?_
      refine JA_pd (i := 13) rfl (by kernel_rfl) rfl rfl (det_sub rfl rfl ⟨by omega, by omega⟩) ?_
      refine JA_pd (i := 14) rfl (by kernel_rfl) rfl rfl (det_add rfl rfl ⟨by omega, by omega⟩) ?_
      refine JA_pd (i := 15) rfl (by kernel_rfl) rfl rfl (det_max rfl rfl) ?_
      refine JA_pd (i := 16) rfl (by kernel_rfl) rfl rfl (det_assign rfl) ?_
      refine JA_done (by kernel_rfl) ?_
      refine JE_block ?_
      refine JE_seq ?_
      refine JC_region ?_
      refine JL_pd rfl (det_move rfl) ?_
      refine JL_pd rfl (det_add rfl rfl ⟨by omega, by omega⟩) ?_
      refine JL_pd rfl (det_assign rfl) ?_
      refine JL_nil ?_
      -- stop: end
      refine JE_roundF hK (i + 1) ⟨by omega, by omega⟩ (by omega) (stsub_consI rfl (by omega) (stsub_consI rfl (by omega) stsub_nil)) ht_nil
    · have hie : wideP (l.hooks.take i) = wideL l := by rw [List.take_of_length_le (by omega)]; rfl
      rw [hie] at hw ⊢
      have hW := wide_pos l
      refine JC_exit ?_
      refine JE_seq_exit ?_
      refine JE_then_exit ?_
      refine JE_block_here ?_
      refine JE_seq ?_
      refine JC_seq ?_
      refine JC_region ?_
      refine JL_pd rfl (det_assign rfl) ?_
      refine JL_nil ?_
      refine JE_seq ?_
      refine JC_seq ?_
      refine JC_seq ?_
      refine JC_region ?_
      refine JL_pd rfl (det_assign rfl) ?_
      refine JL_nil ?_
      refine JE_seq ?_
      refine JC_block ?_
      -- stop: loop
      refine JC_loopF (γ := Nat) (fun k => k ≤ nR l) (fun k => [(6, I (1 + k)), (5, I ((min 1000 (wideL l ^ k) : Nat) : Int))]) (fun _ => []) (fun k => nR l - k) 0 (by omega) (stsub_cons rfl (stsub_cons rfl stsub_nil)) ht_nil ?_
      intro k hk K2 hK2
      dsimp only [List.cons_append, List.nil_append]
      refine JC_seq ?_
      refine JC_seq ?_
      refine JC_region ?_
      refine JL_pd rfl (det_move rfl) ?_
      refine JL_pd rfl (det_fieldAddr rfl fo_25_1) ?_
      refine JL_dt rfl (det_loadK rfl Try.isAgg3 rfl) ?_
      refine JL_pd rfl (det_lss rfl rfl) ?_
      refine JL_nil ?_
      refine JE_seq ?_
      -- stop: cond
      refine JC_if rfl (fun h3 => ?_) (fun h3 => ?_)
      · have hm : min 1000 (wideL l ^ k) * wideL l ≤ 1000 * 7 := Nat.mul_le_mul (by omega) hw
        have hp := min_pow (wideL l) hW k
        have e : ((min 1000 (wideL l ^ k) : Nat) : Int) * ((wideL l : Nat) : Int) = ((min 1000 (wideL l ^ k) * wideL l : Nat) : Int) := by push_cast; rfl
        refine JC_skip ?_
        refine JE_seq ?_
        refine JC_seq ?_
        refine JC_block ?_
        refine JC_region ?_
        refine JL_pd rfl (det_move rfl) ?_
        refine JL_pd rfl (det_move rfl) ?_
        -- stop: op  2 t48 := (binOp mul 3 t46 t47 3)   <0 1>   61
        refine JL_pd rfl (det_mul rfl rfl ⟨by rw [e]; omega, by rw [e]; omega⟩) ?_
        refine JL_pd rfl (det_min rfl rfl) ?_
        refine JL_pd rfl (det_assign rfl) ?_
        refine JL_nil ?_
        refine JE_block ?_
        refine JE_seq ?_
        refine JC_region ?_
        refine JL_pd rfl (det_move rfl) ?_
        refine JL_pd rfl (det_add rfl rfl ⟨by omega, by omega⟩) ?_
        refine JL_pd rfl (det_assign rfl) ?_
        refine JL_nil ?_
        -- stop: end
        rw [e]
        refine JE_roundF hK2 (k + 1) (by omega) (by omega) (stsub_consI rfl (by omega) (stsub_consI rfl (by rw [← hp]; omega) stsub_nil)) ht_nil
      · have hke : k = nR l := by omega
        rw [hke]
        refine JC_exit ?_
        refine JE_seq_exit ?_
        refine JE_then_exit ?_
        refine JE_block_here ?_
        refine JE_seq ?_
        refine JC_seq ?_
        refine JC_region ?_
        refine JL_pd rfl (det_move rfl) ?_
        refine JL_pd rfl (det_leq rfl rfl) ?_
        refine JL_pd rfl (det_assign rfl) ?_
        refine JL_nil ?_
        refine JE_seq ?_
        refine JC_ret ?_
        -- stop: out
        refine JE_out (.inl rfl) () (results1 Try.results16 (res_tmp rfl)) (by unfold fewB; rw [if_pos h1]; congr 1; exact decide_eq_decide.2 (by omega)) (List.Perm.refl _) (fun _ _ => trivial)
end Go.Proofs.Ytcfhbnfincpehaa

/- Path: the reference's Reach, Aims, Room. -/
namespace Go.Proofs.Ytcfhbnfincpehaa
open Go.RowKit Go.Shelf

abbrev SortedS (xs : List St) : Prop := xs.Pairwise fun x y => lessS x y = true
/-- Where a state belongs: how many are not behind it. -/
def posS : List St → St → Nat
  | [], _ => 0
  | y :: ys, x => if lessS x y = true then 0 else posS ys x + 1
theorem posS_le : ∀ (out : List St) (x : St), posS out x ≤ out.length
  | [], _ => Nat.le_refl _
  | y :: ys, x => by
    have := posS_le ys x
    unfold posS; split
    · omega
    · simp; omega
theorem posS_lt : ∀ (out : List St) (x : St) (j : Nat) (h : j < out.length), j < posS out x → lessS x out[j] = false
  | y :: ys, x, j, h, hj => by
    unfold posS at hj
    split at hj
    · omega
    · rename_i hc
      cases j with
      | zero => simpa using hc
      | succ j => exact posS_lt ys x j (by simpa using h) (by omega)
theorem posS_at : ∀ (out : List St) (x : St) (h : posS out x < out.length), lessS x out[posS out x] = true
  | y :: ys, x, h => by
    by_cases hc : lessS x y = true
    · simp only [posS, hc, if_true, List.getElem_cons_zero]
    · simp only [posS, hc] at h ⊢
      exact posS_at ys x (by simpa using h)
theorem posS_eq : ∀ (out : List St) (x : St) (k : Nat), (∀ j (h : j < out.length), j < k → lessS x out[j] = false) → k ≤ out.length → (∀ h : k < out.length, lessS x out[k] = true) → posS out x = k
  | [], x, k, _, h2, _ => by simp at h2; subst h2; rfl
  | y :: ys, x, 0, _, _, h3 => by
    have := h3 (by simp)
    simp only [List.getElem_cons_zero] at this
    simp [posS, this]
  | y :: ys, x, k + 1, h1, h2, h3 => by
    have := h1 0 (by simp) (by omega)
    simp only [List.getElem_cons_zero] at this
    have ih := posS_eq ys x k (fun j hj hjk => by have := h1 (j + 1) (by simp; omega) (by omega); simpa using this) (by simpa using h2) (fun h => by have := h3 (by simp; omega); simpa using this)
    simp [posS, this, ih]
/-- A state put in where it belongs, once. -/
def insS (out : List St) (x : St) : List St := if x ∈ out then out else out.take (posS out x) ++ x :: out.drop (posS out x)
theorem lessS_iff {x y : St} : lessS x y = true ↔ (x.b < y.b ∨ x.b = y.b ∧ x.d < y.d) := by simp [lessS]
theorem less_total {x y : St} (h : lessS x y = false) : y = x ∨ lessS y x = true := by
  have h : ¬ (x.b < y.b ∨ x.b = y.b ∧ x.d < y.d) := by rw [← lessS_iff, h]; decide
  by_cases e : y = x
  · exact .inl e
  · right
    rw [lessS_iff]
    have : ¬ (y.b = x.b ∧ y.d = x.d) := fun ⟨h1, h2⟩ => e (St.ext'.2 ⟨h1, h2⟩)
    omega
theorem less_trans {x y z : St} (h1 : lessS x y = true) (h2 : lessS y z = true) : lessS x z = true := by
  rw [lessS_iff] at *; omega
theorem posS_drop {out : List St} (hs : SortedS out) {x y : St} (hy : y ∈ out.drop (posS out x)) : lessS x y = true := by
  have hlt : posS out x < out.length := by
    rcases Nat.lt_or_ge (posS out x) out.length with h | h
    · exact h
    · rw [List.drop_eq_nil_of_le h] at hy; cases hy
  have h1 := posS_at out x hlt
  rw [← List.getElem_cons_drop (h := hlt)] at hy
  rcases List.mem_cons.1 hy with rfl | hy
  · exact h1
  · have hs2 : (out.drop (posS out x)).Pairwise fun x y => lessS x y = true := hs.sublist (List.drop_sublist _ _)
    rw [← List.getElem_cons_drop (h := hlt), List.pairwise_cons] at hs2
    exact less_trans h1 (hs2.1 _ hy)
theorem posS_take {out : List St} {x y : St} (hy : y ∈ out.take (posS out x)) : y = x ∨ lessS y x = true := by
  obtain ⟨j, hj, rfl⟩ := List.mem_iff_getElem.1 hy
  rw [List.length_take] at hj
  rw [List.getElem_take]
  exact less_total (posS_lt out x j (by omega) (by omega))
theorem insS_mem (out : List St) (x y : St) : y ∈ insS out x ↔ y = x ∨ y ∈ out := by
  unfold insS
  split
  · rename_i h
    constructor
    · exact .inr
    · rintro (rfl | h2)
      · exact h
      · exact h2
  · rw [List.mem_append, List.mem_cons]
    constructor
    · rintro (h | h | h)
      · exact .inr (List.mem_of_mem_take h)
      · exact .inl h
      · exact .inr (List.mem_of_mem_drop h)
    · rintro (h | h)
      · exact .inr (.inl h)
      · rw [← List.take_append_drop (posS out x) out] at h
        rcases List.mem_append.1 h with h | h
        · exact .inl h
        · exact .inr (.inr h)
theorem insS_sorted {out : List St} (hs : SortedS out) (x : St) : SortedS (insS out x) := by
  unfold insS
  split
  · exact hs
  · rename_i hno
    refine List.pairwise_append.2 ⟨hs.sublist (List.take_sublist _ _), List.pairwise_cons.2 ⟨fun y hy => posS_drop hs hy, hs.sublist (List.drop_sublist _ _)⟩, fun y hy z hz => ?_⟩
    have h1 : lessS y x = true := (posS_take hy).resolve_left fun e => hno (by rw [← e]; exact List.mem_of_mem_take hy)
    rcases List.mem_cons.1 hz with rfl | hz
    · exact h1
    · exact less_trans h1 (posS_drop hs hz)
theorem mem_take_pos {out : List St} (hs : SortedS out) (x : St) : x ∈ out.take (posS out x) ↔ x ∈ out := by
  constructor
  · exact List.mem_of_mem_take
  · intro h
    rw [← List.take_append_drop (posS out x) out] at h
    rcases List.mem_append.1 h with h | h
    · exact h
    · have := posS_drop hs h
      exact (less_irrefl this this).elim
/-- The states of a row, by some truths; how many are in the gutter by then. -/
def rowF (l : La) (s : St) (row : Nat) (tss : List (List Int)) : List St := tss.foldl (fun out ts => match (playV l s ts).1[row]? with | some x => insS out x | none => out) []
def gutF (l : La) (s : St) (row : Nat) (tss : List (List Int)) : Nat := tss.countP fun ts => decide ((playV l s ts).1.length ≤ row)
theorem rowF_snoc (l : La) (s : St) (row : Nat) (tss : List (List Int)) (ts : List Int) : rowF l s row (tss ++ [ts]) = match (playV l s ts).1[row]? with | some x => insS (rowF l s row tss) x | none => rowF l s row tss := by
  simp only [rowF, List.foldl_append, List.foldl_cons, List.foldl_nil]
theorem rowF_spec (l : La) (s : St) (row : Nat) : ∀ (post pre : List (List Int)), SortedS (rowF l s row pre) → (∀ x, x ∈ rowF l s row pre ↔ ∃ ts ∈ pre, (playV l s ts).1[row]? = some x) → SortedS (rowF l s row (pre ++ post)) ∧ ∀ x, x ∈ rowF l s row (pre ++ post) ↔ ∃ ts ∈ pre ++ post, (playV l s ts).1[row]? = some x
  | [], pre, h1, h2 => by simpa using ⟨h1, h2⟩
  | ts :: post, pre, h1, h2 => by
    have e : pre ++ ts :: post = (pre ++ [ts]) ++ post := by simp
    rw [e]
    have hsn := rowF_snoc l s row pre ts
    refine rowF_spec l s row post (pre ++ [ts]) ?_ ?_
    · rw [hsn]
      split
      · exact insS_sorted h1 _
      · exact h1
    · intro x
      rw [hsn]
      split
      · rename_i y hy
        rw [insS_mem, h2]
        constructor
        · rintro (rfl | ⟨u, hu, h⟩)
          · exact ⟨ts, by simp, hy⟩
          · exact ⟨u, by simp [hu], h⟩
        · rintro ⟨u, hu, h⟩
          rcases List.mem_append.1 hu with hu | hu
          · exact .inr ⟨u, hu, h⟩
          · rw [List.mem_singleton.1 hu, hy] at h
            cases h; exact .inl rfl
      · rename_i hy
        rw [h2]
        constructor
        · rintro ⟨u, hu, h⟩; exact ⟨u, by simp [hu], h⟩
        · rintro ⟨u, hu, h⟩
          rcases List.mem_append.1 hu with hu | hu
          · exact ⟨u, hu, h⟩
          · rw [List.mem_singleton.1 hu, hy] at h; cases h
theorem rowF_is {l : La} {s : St} (V : Valid l) (h0 : isStart l s = true) (row : Nat) (hr : row ≤ nR l) : rowF l s row (truL l (nR l) 0 s) = rowL l s row := by
  have hon := onL_start h0
  obtain ⟨h1, h2⟩ := rowF_spec l s row (truL l (nR l) 0 s) [] .nil (by simp [rowF])
  rw [List.nil_append] at h1 h2
  refine sorted_eq h1 (rowL_sorted _ _ _) fun t => ?_
  rw [h2, mem_rowL V h0]
  constructor
  · rintro ⟨ts, hts, hx⟩
    obtain ⟨over, g, hT⟩ := truL_is _ _ _ hon ts hts
    rw [hT.playV V] at hx
    have := hT.rch 0 rfl rfl row t hx
    rwa [Nat.zero_add] at this
  · intro hr2
    have hont := Rch.on hon hr2
    obtain ⟨ts, over, g, hT⟩ := has_truth V (nR l - row) row t hont
    obtain ⟨ts', pre, hp, hT2⟩ := rch_truth hon row (nR l - row) t ts over g hr2 hT
    rw [show nR l - row + row = nR l by omega] at hT2
    refine ⟨ts', hT2.mem, ?_⟩
    rw [hT2.playV V]
    have hh : over.head? = some t := by
      revert hT
      generalize nR l - row = m
      intro hT
      cases hT <;> rfl
    rw [List.getElem?_append_right (by omega), hp, Nat.sub_self, ← List.head?_eq_getElem?]
    exact hh
theorem gutF_is {l : La} {s : St} (V : Valid l) (h0 : isStart l s = true) (row : Nat) (hr : row ≤ nR l) : verdict (gutF l s row (truL l (nR l) 0 s)) (truL l (nR l) 0 s).length = rowV l s row := by
  have hon := onL_start h0
  have hpos := truL_ne l V (nR l) 0 s
  have h1 : gutF l s row (truL l (nR l) 0 s) = (truL l (nR l) 0 s).length ↔ rowL l s row = [] := by
    rw [gutF, List.countP_eq_length, ← rowF_is V h0 row hr]
    obtain ⟨_, h2⟩ := rowF_spec l s row (truL l (nR l) 0 s) [] .nil (by simp [rowF])
    rw [List.nil_append] at h2
    constructor
    · intro h
      cases hc : rowF l s row (truL l (nR l) 0 s) with
      | nil => rfl
      | cons x xs =>
        obtain ⟨ts, hts, hx⟩ := (h2 x).1 (by rw [hc]; simp)
        have := h ts hts
        simp only [decide_eq_true_eq] at this
        rw [List.getElem?_eq_none this] at hx; cases hx
    · intro h ts hts
      simp only [decide_eq_true_eq]
      rcases Nat.lt_or_ge row (playV l s ts).1.length with h3 | h3
      · have := (h2 _).2 ⟨ts, hts, List.getElem?_eq_getElem h3⟩
        rw [h] at this; cases this
      · exact h3
  have h2 : gutF l s row (truL l (nR l) 0 s) ≠ 0 ↔ (List.range row).any (gutB l s) = true := by
    rw [gutF, ← Nat.pos_iff_ne_zero, List.countP_pos_iff, List.any_eq_true]
    constructor
    · rintro ⟨ts, hts, hx⟩
      obtain ⟨over, g, hT⟩ := truL_is _ _ _ hon ts hts
      rw [hT.playV V] at hx
      simp only [decide_eq_true_eq] at hx
      obtain ⟨o1, o2, o3, _⟩ := hT.len
      have hg : g = true := by
        cases g
        · have := o2 rfl; omega
        · rfl
      have := hT.gut 0 rfl rfl hg
      rw [Nat.zero_add] at this
      exact ⟨over.length - 1, by simp; omega, (gutB_iff V h0).2 this⟩
    · rintro ⟨k, hk, hg⟩
      have hk : k < row := by simpa using hk
      obtain ⟨ts, over, ho, hT⟩ := gut_truth hon k (nR l - 1 - k) ((gutB_iff V h0).1 hg)
      rw [show nR l - 1 - k + 1 + k = nR l by omega] at hT
      refine ⟨ts, hT.mem, ?_⟩
      rw [hT.playV V]
      simp only [decide_eq_true_eq]; omega
  unfold verdict rowV
  by_cases e1 : rowL l s row = []
  · have := h1.2 e1
    rw [if_pos e1, if_neg (by omega), if_pos (by omega)]
  · have n1 : gutF l s row (truL l (nR l) 0 s) ≠ (truL l (nR l) 0 s).length := fun h => e1 (h1.1 h)
    rw [if_neg e1]
    by_cases e2 : gutF l s row (truL l (nR l) 0 s) = 0
    · have : ¬ (List.range row).any (gutB l s) = true := fun h => h2.2 h e2
      rw [if_pos (by omega), if_neg this]
    · rw [if_neg (by omega), if_neg (by omega), if_pos (h2.1 e2)]
theorem rowF_len (l : La) (s : St) (row : Nat) (tss : List (List Int)) : (rowF l s row tss).length ≤ tss.length := by
  have key : ∀ (post pre : List (List Int)), (rowF l s row pre).length ≤ pre.length → (rowF l s row (pre ++ post)).length ≤ (pre ++ post).length := by
    intro post
    induction post with
    | nil => intro pre h; simpa using h
    | cons ts post ih =>
      intro pre h
      have e : pre ++ ts :: post = (pre ++ [ts]) ++ post := by simp
      rw [e]
      refine ih _ ?_
      rw [rowF_snoc]
      simp only [List.length_append, List.length_singleton]
      split
      · unfold insS; split
        · omega
        · simp; omega
      · omega
  simpa using key tss [] (by simp [rowF])
end Go.Proofs.Ytcfhbnfincpehaa

/- Path: the walk of the reference's Reach. -/
namespace Go.Proofs.Ytcfhbnfincpehaa
open Go.RowKit Go.Shelf

set_option maxRecDepth 100000 in
set_option maxHeartbeats 1000000 in
theorem rReach_jn (l : La) (s : St) (row : Nat) (ha pa : Option Addr) (hc pc : Nat) (V : Valid l) (h0 : isStart l s = true) (hB : wideL l ^ nR l ≤ 300) (hr : row ≤ nR l) :
    Cr Try.prog 23 [.agg #[I l.boards, I l.rows, .slice ha l.hooks.length hc, .slice pa l.patches.length pc], .agg #[I s.b, I s.d], I row] (KLane l ha hc pa pc) (fun q : Option Addr × Nat => .tuple #[.slice q.1 (rowF l s row (truL l (nR l) 0 s)).length q.2, .int .u8 (verdict (gutF l s row (truL l (nR l) 0 s)) (truL l (nR l) 0 s).length)])
      (fun q => KSl q.1 (rowF l s row (truL l (nR l) 0 s)).length q.2 encSt (rowF l s row (truL l (nR l) 0 s))) := by
  have b2 := V.b2
  have r2 := V.r2
  have sb : 1 ≤ s.b ∧ s.b ≤ l.boards ∧ -5 ≤ s.d ∧ s.d ≤ 5 := by simpa [isStart] using h0
  have hlen := truL_len2 V hB (Nat.le_refl _) 0 s
  have hsrt : ∀ pre, SortedS (rowF l s row pre) := fun pre => by have := (rowF_spec l s row pre [] .nil (by simp [rowF])).1; rwa [List.nil_append] at this
  obtain ⟨tss, htss⟩ : ∃ tss, tss = truL l (nR l) 0 s := ⟨_, rfl⟩
  have hcall := rTruths_j l ha pa hc pc V hB (nR l) 0 s [] none 0 (by omega) sb.2.2.1 sb.2.2.2 (by omega) (by simp)
  rw [nil_map, show ((0 : Nat) : Int) = 0 from rfl, ← htss] at hcall
  have hK0 : ∀ w, KLane l ha hc pa pc w → KAnd (KSl none 0 0 encI ([] : List Int)) (KLane l ha hc pa pc) w := fun w h => ⟨KSl_nil w, h⟩
  rw [← htss] at hlen ⊢
  have hall : ∀ ts ∈ tss, ∃ over g, Truth l (nR l) 0 s ts over g := by rw [htss]; exact truL_is _ _ _ (onL_start h0)
  have hrl := rowF_len l s row
  refine Cx_of Try.func23 rfl Try.ntmps23 rfl fun w0 M0 => ?_
  refine JC_seq ?_
  refine JC_region ?_
  refine JL_step rfl rfl rfl (jo_box rfl rfl) fun b3 => ?_
  refine JL_step rfl rfl rfl (jo_box rfl rfl) fun b4 => ?_
  refine JL_pd rfl (det_assign rfl) ?_
  refine JL_pd rfl (det_assign rfl) ?_
  refine JL_nil ?_
  refine JE_seq ?_
  refine JC_seq ?_
  refine JC_region ?_
  refine JL_dt rfl (det_loadKA rfl Try.isAgg25 Try.sizeOf25 rfl rfl) ?_
  refine JL_dt rfl (det_loadKA rfl Try.isAgg27 Try.sizeOf27 rfl rfl) ?_
  -- stop: op  2 t21 := (call (Call (value f61) (t19 0 t20 (slice none 0 0)) (25 3 27 75)))   <0 1>   140
  refine JL_know hK0 ?_
  refine JL_step rfl rfl rfl (jo_call rfl rfl Try.call61 rfl (hcall)) fun ⟨a, cap, vs⟩ => ?_
  refine JL_pd rfl (det_assign rfl) ?_
  refine JL_nil ?_
  refine JE_seq ?_
  refine JC_seq ?_
  refine JC_region ?_
  refine JL_pd rfl (det_assign rfl) ?_
  refine JL_nil ?_
  refine JE_seq ?_
  refine JC_seq ?_
  refine JC_region ?_
  refine JL_pd rfl (det_assign rfl) ?_
  refine JL_nil ?_
  refine JE_seq ?_
  refine JC_seq ?_
  refine JC_seq ?_
  refine JC_region ?_
  refine JL_pd rfl (det_assign rfl) ?_
  refine JL_nil ?_
  refine JE_seq ?_
  refine JC_block ?_
  -- stop: loop
  refine JC_pure (p := vs.length = tss.length ∧ ∀ (i : Nat) v ys, vs[i]? = some v → tss[i]? = some ys → v.2.1 = ys.length) (by intro w h; exact h.1.2.lens) fun hL => ?_
  refine JC_nil 27 2 ?_
  refine JC_loopF (γ := Nat × List St × Option Addr × Nat) (fun q => q.1 ≤ tss.length ∧ q.2.1 = rowF l s row (tss.take q.1)) (fun q => [(11, I q.1), (10, I (gutF l s row (tss.take q.1))), (9, .slice q.2.2.1 q.2.1.length q.2.2.2)]) (fun q => [ow (.slice q.2.2.1 q.2.1.length q.2.2.2) 27 2 q.2.1.length (q.2.1.flatMap encSt)]) (fun q => tss.length - q.1) (0, [], none, 0) ⟨by simp, rfl⟩ (stsub_cons rfl (stsub_cons rfl (stsub_cons rfl stsub_nil))) (show HTake _ [ow (.slice none 0 0) 27 2 0 []] _ from ht_cons ht_nil) ?_
  rintro ⟨i, out, oa, oc⟩ ⟨hi, hout⟩ K hK
  dsimp only [List.cons_append, List.nil_append] at hi hout ⊢
  refine JC_seq ?_
  refine JC_seq ?_
  refine JC_region ?_
  refine JL_pd rfl (det_move rfl) ?_
  refine JL_pd rfl (det_move rfl) ?_
  refine JL_pd rfl (det_len rfl Try.runUnderlying117) ?_
  refine JL_pd rfl (det_lss rfl rfl) ?_
  refine JL_nil ?_
  refine JE_seq ?_
  -- stop: cond
  refine JC_if rfl (fun h1 => ?_) (fun h1 => ?_)
  · have hi2 : i < tss.length := by omega
    have hi3 : i < vs.length := by omega
    obtain ⟨over, g, hT⟩ := hall tss[i] (List.getElem_mem hi2)
    have hpl := hT.playV V
    have hvl : vs[i].2.1 = tss[i].length := hL.2 i _ _ (List.getElem?_eq_getElem hi3) (List.getElem?_eq_getElem hi2)
    have hcnt : gutF l s row (tss.take (i + 1)) = gutF l s row (tss.take i) + if over.length ≤ row then 1 else 0 := by
      rw [take_snoc hi2]
      simp only [gutF, List.countP_append, List.countP_cons, List.countP_nil, hpl, Nat.zero_add, decide_eq_true_eq]
    have hle : gutF l s row (tss.take i) ≤ 300 := Nat.le_trans List.countP_le_length (by rw [List.length_take]; omega)
    have hol : out.length ≤ 300 := by rw [hout]; exact Nat.le_trans (hrl _) (by rw [List.length_take]; omega)
    have hsn := rowF_snoc l s row (tss.take i) tss[i]
    rw [← take_snoc hi2, hpl, ← hout] at hsn
    have hso : SortedS out := hout ▸ hsrt _
    refine JC_know (R' := KAnd (KSl vs[i].1 tss[i].length vs[i].2.2 encI tss[i]) _) (by intro w h; exact ⟨by have := truK h.1.2 hi3 hi2; rwa [hvl] at this, h⟩) ?_
    refine JC_skip ?_
    refine JE_seq ?_
    refine JC_seq ?_
    refine JC_block ?_
    refine JC_seq ?_
    refine JC_draw [] (by kernel_rfl) ?_
    refine JA_dt (i := 0) rfl (by kernel_rfl) (by kernel_rfl) rfl rfl (det_loadKA rfl Try.isAgg25 Try.sizeOf25 rfl rfl) ?_
    refine JA_dt (i := 1) rfl (by kernel_rfl) (by kernel_rfl) rfl rfl (det_loadKA rfl Try.isAgg27 Try.sizeOf27 rfl rfl) ?_
    refine JA_pd (i := 2) rfl (by kernel_rfl) rfl rfl (det_move rfl) ?_
    refine JA_pd (i := 3) rfl (by kernel_rfl) rfl rfl (det_move rfl) ?_
    refine JA_dt (i := 4) rfl (by kernel_rfl) (by kernel_rfl) rfl rfl (det_indexAddr rfl rfl (by first | rfl | omega) (by first | assumption | omega | decide) Try.runUnderlying117 Try.sizeOf75) ?_
    refine JA_dt (i := 5) rfl (by kernel_rfl) (by kernel_rfl) rfl rfl (det_loadE (v := .slice vs[i].1 tss[i].length vs[i].2.2) rfl (by omega) Try.isAgg75 (by omega) (by rw [← hvl]; rfl)) ?_
    refine JA_one (i := 6) (by kernel_rfl) rfl rfl (jo_call rfl rfl Try.call44 rfl (rPlay_jt ha pa hc pc vs[i].1 vs[i].2.2 V h0 hT)) (fun _ => ⟨hsub_drop 0 rfl, fun _ h => h.2⟩) fun x35 => ?_
    refine JA_pd (i := 7) rfl (by kernel_rfl) rfl rfl (det_move rfl) ?_
    refine JA_pd (i := 8) rfl (by kernel_rfl) rfl rfl (det_extract rfl rfl) ?_
    refine JA_pd (i := 9) rfl (by kernel_rfl) rfl rfl (det_extract rfl rfl) ?_
    refine JA_pd (i := 10) rfl (by kernel_rfl) rfl rfl (det_extract rfl rfl) ?_
    refine JA_pd (i := 11) rfl (by kernel_rfl) rfl rfl (det_assign rfl) ?_
    refine JA_pd (i := 12) rfl (by kernel_rfl) rfl rfl (det_assign rfl) ?_
    refine JA_pd (i := 13) rfl (by kernel_rfl) rfl rfl (det_assign rfl) ?_
    refine JA_done (by kernel_rfl) ?_
    refine JE_seq ?_
    refine JC_seq ?_
    refine JC_seq ?_
    refine JC_region ?_
    refine JL_pd rfl (det_move rfl) ?_
    refine JL_pd rfl (det_len rfl Try.runUnderlying43) ?_
    refine JL_pd rfl (det_move rfl) ?_
    refine JL_pd rfl (det_leq rfl rfl) ?_
    refine JL_nil ?_
    refine JE_seq ?_
    -- stop: cond
    refine JC_if rfl (fun h2 => ?_) (fun h2 => ?_)
    · have hno : over[row]? = none := List.getElem?_eq_none (by omega)
      rw [hno] at hsn
      simp only at hsn
      refine JC_seq ?_
      refine JC_region ?_
      refine JL_pd rfl (det_move rfl) ?_
      refine JL_pd rfl (det_add rfl rfl ⟨by omega, by omega⟩) ?_
      refine JL_pd rfl (det_assign rfl) ?_
      refine JL_nil ?_
      refine JE_seq ?_
      refine JC_exit ?_
      refine JE_seq_exit ?_
      refine JE_block_here ?_
      refine JE_seq ?_
      refine JC_region ?_
      refine JL_pd rfl (det_move rfl) ?_
      refine JL_pd rfl (det_add rfl rfl ⟨by omega, by omega⟩) ?_
      refine JL_pd rfl (det_assign rfl) ?_
      refine JL_nil ?_
      -- stop: end
      refine JE_roundF hK (i + 1, out, oa, oc) ⟨by simp only; omega, hsn.symm⟩ (by simp only; omega) (stsub_consI rfl (by simp only; omega) (stsub_consI rfl (by rw [hcnt, if_pos (by omega)]; omega) (stsub_cons rfl stsub_nil))) (ht_cons ht_nil)
    · have hrow : row < over.length := by omega
      have hyes : over[row]? = some over[row] := List.getElem?_eq_getElem hrow
      rw [hyes] at hsn
      simp only at hsn
      obtain ⟨x, hx⟩ : ∃ x, x = over[row] := ⟨_, rfl⟩
      rw [← hx] at hsn
      have hg2 : gutF l s row (tss.take (i + 1)) = gutF l s row (tss.take i) := by rw [hcnt, if_neg (by omega)]; rfl
      refine JC_skip ?_
      refine JE_seq ?_
      refine JC_seq ?_
      refine JC_region ?_
      refine JL_pd rfl (det_move rfl) ?_
      refine JL_pd rfl (det_move rfl) ?_
      refine JL_dt rfl (det_indexAddr rfl rfl (by first | rfl | omega) (by first | assumption | omega | decide) Try.runUnderlying43 Try.sizeOf27) ?_
      refine JL_dt rfl (det_loadEA rfl (by first | assumption | omega | decide) Try.isAgg27 Try.sizeOf27 rfl rfl rfl) ?_
      refine JL_step rfl rfl rfl (jo_alloc0 Try.zeroValue27 rfl) fun b15 => ?_
      refine JL_step0 rfl rfl (jo_store rfl rfl rfl (by first | (simp only [splice_norm]; done) | (simp only [splice_norm]; rfl) | rfl) Try.sizeOf27 rfl rfl) fun _ => ?_
      refine JL_nil ?_
      refine JE_seq ?_
      refine JC_seq ?_
      refine JC_region ?_
      refine JL_pd rfl (det_assign rfl) ?_
      refine JL_pd rfl (det_assign rfl) ?_
      refine JL_nil ?_
      refine JE_seq ?_
      refine JC_seq ?_
      -- stop: block
      rw [← hx]
      refine JC_cutF (γ := Unit) (fun _ => True) (fun _ => [(16, I (posS out x)), (17, .bool (decide (x ∈ out)))]) (fun _ => [bx b15 [I x.b, I x.d], ow (.slice oa out.length oc) 27 2 out.length (out.flatMap encSt)]) [bx b4 [I s.b, I s.d], bx b3 [I l.boards, I l.rows, .slice ha l.hooks.length hc, .slice pa l.patches.length pc]] ?_ ?_
      · intro K2 hK2
        refine JC_block ?_
        -- stop: loop
        refine JC_loopF (γ := Nat) (fun k => k ≤ out.length ∧ ∀ j (h : j < out.length), j < k → lessS x out[j] = false) (fun k => [(16, I k), (17, .bool (decide (x ∈ out.take k)))]) (fun _ => [bx b15 [I x.b, I x.d], ow (.slice oa out.length oc) 27 2 out.length (out.flatMap encSt)]) (fun k => out.length - k) 0 ⟨by omega, by omega⟩ (stsub_cons rfl (stsub_consB rfl (by simp) stsub_nil)) (ht_bx rfl (ht_ow rfl rfl ht_nil)) ?_
        rintro k ⟨hk, hkl⟩ K3 hK3
        dsimp only [List.cons_append, List.nil_append]
        have hfin : posS out x = k → decide (x ∈ out.take k) = decide (x ∈ out) := fun e => by rw [← e]; exact decide_eq_decide.2 (mem_take_pos hso x)
        refine JC_seq ?_
        refine JC_seq ?_
        refine JC_draw [] (by kernel_rfl) ?_
        refine JA_pd (i := 0) rfl (by kernel_rfl) rfl rfl (det_move rfl) ?_
        refine JA_pd (i := 1) rfl (by kernel_rfl) rfl rfl (det_move rfl) ?_
        refine JA_pd (i := 2) rfl (by kernel_rfl) rfl rfl (det_len rfl Try.runUnderlying43) ?_
        refine JA_pd (i := 3) rfl (by kernel_rfl) rfl rfl (det_lss rfl rfl) ?_
        refine JA_pd (i := 4) rfl (by kernel_rfl) rfl rfl (det_move rfl) ?_
        -- stop: guard 4
        refine JA_split (d0 := 53) rfl (fun h3 => ?_) (fun h3 => ?_)
        · have hk2 : k < out.length := by simpa using h3
          refine JA_some (n := out.length) (cap := oc) oa (by omega) ?_
          rintro ob rfl
          refine JA_gdt (i := 5) rfl (by kernel_rfl) (by kernel_rfl) rfl rfl rfl rfl h3 (det_loadKA rfl Try.isAgg27 Try.sizeOf27 rfl rfl) ?_
          refine JA_gpd (i := 6) rfl (by kernel_rfl) rfl rfl rfl rfl h3 (det_move rfl) ?_
          refine JA_gpd (i := 7) rfl (by kernel_rfl) rfl rfl rfl rfl h3 (det_move rfl) ?_
          refine JA_gpd (i := 8) rfl (by kernel_rfl) rfl rfl rfl rfl h3 (det_indexOwn (i := k) rfl rfl rfl (by omega) Try.runUnderlying43 Try.sizeOf27) ?_
          refine JA_gdt (i := 9) rfl (by kernel_rfl) (by kernel_rfl) rfl rfl rfl rfl h3 (det_loadOA (vs := [I out[k].b, I out[k].d]) rfl Try.isAgg27 Try.sizeOf27 (flat_rec encSt out k hk2) rfl) ?_
          -- stop: op 10 t59 := (call (Call (value f62) (t54 t58) (27 27)))   <5 9 4 4>   GUARD (some (Prod 4 true))   151
          refine JA_gone (i := 10) (by kernel_rfl) rfl rfl rfl h3 rfl (jo_callv rfl rfl Try.call62 rfl (rLess_j x out[k])) (fun _ => ⟨hsub_refl, fun _ h => h⟩) fun _ => ?_
          refine JA_gpd (i := 11) rfl (by kernel_rfl) rfl rfl rfl rfl h3 (det_not rfl) ?_
          refine JA_pd (i := 12) rfl (by kernel_rfl) rfl rfl (det_pick_t rfl h3 rfl) ?_
          refine JA_done (by kernel_rfl) ?_
          refine JE_seq ?_
          -- stop: cond
          refine JC_cond rfl (fun h4 => ?_) (fun h4 => ?_)
          · simp only [Bool.not_eq_true'] at h4
            have hkl2 : ∀ j (h : j < out.length), j < k + 1 → lessS x out[j] = false := fun j hj hjk => by
              by_cases e : j = k
              · subst e; exact h4
              · exact hkl j hj (by omega)
            have htk := take_snoc hk2
            refine JC_skip ?_
            refine JE_seq ?_
            refine JC_block ?_
            refine JC_seq ?_
            refine JC_draw [] (by kernel_rfl) ?_
            refine JA_pd (i := 0) rfl (by kernel_rfl) rfl rfl (det_move rfl) ?_
            refine JA_pd (i := 1) rfl (by kernel_rfl) rfl rfl (det_move rfl) ?_
            -- stop: guard 1
            refine JA_split (d0 := 63) rfl (fun h5 => ?_) (fun h5 => ?_)
            · have hin : x ∈ out.take k := by simpa using h5
              have hin2 : x ∈ out.take (k + 1) := by rw [htk]; exact List.mem_append_left _ hin
              refine JA_skip (i := 2) rfl (by kernel_rfl) rfl rfl rfl rfl h5 ?_
              refine JA_skip (i := 3) rfl (by kernel_rfl) rfl rfl rfl rfl h5 ?_
              refine JA_skip (i := 4) rfl (by kernel_rfl) rfl rfl rfl rfl h5 ?_
              refine JA_skip (i := 5) rfl (by kernel_rfl) rfl rfl rfl rfl h5 ?_
              refine JA_skip (i := 6) rfl (by kernel_rfl) rfl rfl rfl rfl h5 ?_
              refine JA_skip (i := 7) rfl (by kernel_rfl) rfl rfl rfl rfl h5 ?_
              refine JA_pd (i := 8) rfl (by kernel_rfl) rfl rfl (det_pick_t rfl h5 rfl) ?_
              refine JA_pd (i := 9) rfl (by kernel_rfl) rfl rfl (det_assign rfl) ?_
              refine JA_done (by kernel_rfl) ?_
              refine JE_seq ?_
              refine JC_region ?_
              refine JL_pd rfl (det_move rfl) ?_
              refine JL_pd rfl (det_add rfl rfl ⟨by omega, by omega⟩) ?_
              refine JL_pd rfl (det_assign rfl) ?_
              refine JL_nil ?_
              refine JE_block ?_
              -- stop: end
              refine JE_roundF hK3 (k + 1) ⟨by omega, hkl2⟩ (by omega) (stsub_consI rfl (by omega) (stsub_consB rfl (decide_eq_true hin2).symm stsub_nil)) (ht_cons (ht_cons ht_nil))
            · have hin : x ∉ out.take k := by simpa using h5
              refine JA_gpd (i := 2) rfl (by kernel_rfl) rfl rfl rfl rfl h5 (det_move rfl) ?_
              refine JA_gpd (i := 3) rfl (by kernel_rfl) rfl rfl rfl rfl h5 (det_move rfl) ?_
              refine JA_gpd (i := 4) rfl (by kernel_rfl) rfl rfl rfl rfl h5 (det_indexOwn (i := k) rfl rfl rfl (by omega) Try.runUnderlying43 Try.sizeOf27) ?_
              refine JA_gdt (i := 5) rfl (by kernel_rfl) (by kernel_rfl) rfl rfl rfl rfl h5 (det_loadOA (vs := [I out[k].b, I out[k].d]) rfl Try.isAgg27 Try.sizeOf27 (flat_rec encSt out k hk2) rfl) ?_
              refine JA_gdt (i := 6) rfl (by kernel_rfl) (by kernel_rfl) rfl rfl rfl rfl h5 (det_loadKA rfl Try.isAgg27 Try.sizeOf27 rfl rfl) ?_
              refine JA_gpd (i := 7) rfl (by kernel_rfl) rfl rfl rfl rfl h5 (det_eqlA rfl rfl egt_27 (eqa_27 _ _ _ _)) ?_
              refine JA_pd (i := 8) rfl (by kernel_rfl) rfl rfl (det_pick_f rfl h5 rfl) ?_
              refine JA_pd (i := 9) rfl (by kernel_rfl) rfl rfl (det_assign rfl) ?_
              refine JA_done (by kernel_rfl) ?_
              refine JE_seq ?_
              refine JC_region ?_
              refine JL_pd rfl (det_move rfl) ?_
              refine JL_pd rfl (det_add rfl rfl ⟨by omega, by omega⟩) ?_
              refine JL_pd rfl (det_assign rfl) ?_
              refine JL_nil ?_
              refine JE_block ?_
              -- stop: end
              refine JE_roundF hK3 (k + 1) ⟨by omega, hkl2⟩ (by omega) (stsub_consI rfl (by omega) (stsub_consB rfl (by rw [htk]; exact decide_eq_decide.2 (by rw [List.mem_append, List.mem_singleton, St.ext'.symm]; exact ⟨fun e => .inr e.symm, fun e => (e.resolve_left hin).symm⟩)) stsub_nil)) (ht_cons (ht_cons ht_nil))
          · have h4 : lessS x out[k] = true := by simpa using h4
            have e := posS_eq out x k hkl hk fun _ => h4
            refine JC_exit ?_
            refine JE_seq_exit ?_
            refine JE_then_exit ?_
            refine JE_block_here ?_
            -- stop: end
            refine JE_cutF hK2 () trivial (stsub_consI rfl (by rw [e]) (stsub_consB rfl (hfin e) stsub_nil)) (ht_cons (ht_cons ht_nil))
        · have e := posS_eq out x k hkl hk fun h => by simp at h3; omega
          refine JA_skip (i := 5) rfl (by kernel_rfl) rfl rfl rfl rfl h3 ?_
          refine JA_skip (i := 6) rfl (by kernel_rfl) rfl rfl rfl rfl h3 ?_
          refine JA_skip (i := 7) rfl (by kernel_rfl) rfl rfl rfl rfl h3 ?_
          refine JA_skip (i := 8) rfl (by kernel_rfl) rfl rfl rfl rfl h3 ?_
          refine JA_skip (i := 9) rfl (by kernel_rfl) rfl rfl rfl rfl h3 ?_
          refine JA_skip (i := 10) rfl (by kernel_rfl) rfl rfl rfl rfl h3 ?_
          refine JA_skip (i := 11) rfl (by kernel_rfl) rfl rfl rfl rfl h3 ?_
          refine JA_pd (i := 12) rfl (by kernel_rfl) rfl rfl (det_pick_f rfl h3 rfl) ?_
          refine JA_done (by kernel_rfl) ?_
          refine JE_seq ?_
          refine JC_condF rfl rfl ?_
          refine JC_exit ?_
          refine JE_seq_exit ?_
          refine JE_then_exit ?_
          refine JE_block_here ?_
          -- stop: end
          refine JE_cutF hK2 () trivial (stsub_consI rfl (by rw [e]) (stsub_consB rfl (hfin e) stsub_nil)) (ht_cons (ht_cons ht_nil))
      · intro _ _
        dsimp only [List.cons_append, List.nil_append]
        refine JC_seq ?_
        refine JC_seq ?_
        refine JC_region ?_
        refine JL_pd rfl (det_move rfl) ?_
        refine JL_nil ?_
        refine JE_seq ?_
        -- stop: cond
        refine JC_if rfl (fun h6 => ?_) (fun h6 => ?_)
        · refine JC_exit ?_
          refine JE_seq_exit ?_
          refine JE_block_here ?_
          refine JE_seq ?_
          refine JC_region ?_
          refine JL_pd rfl (det_move rfl) ?_
          refine JL_pd rfl (det_add rfl rfl ⟨by omega, by omega⟩) ?_
          refine JL_pd rfl (det_assign rfl) ?_
          refine JL_nil ?_
          -- stop: end
          refine JE_roundF hK (i + 1, out, oa, oc) ⟨by simp only; omega, by simp only; rw [hsn]; unfold insS; rw [if_pos h6]⟩ (by simp only; omega) (stsub_consI rfl (by simp only; omega) (stsub_consI rfl (by simp only; rw [hg2]) (stsub_cons rfl stsub_nil))) (ht_cons ht_nil)
        · unfold insS at hsn
          rw [if_neg h6] at hsn
          have hp := posS_le out x
          refine JC_skip ?_
          refine JE_seq ?_
          refine JC_seq ?_
          refine JC_region ?_
          refine JL_pd rfl (det_move rfl) ?_
          refine JL_dt rfl (det_loadKA rfl Try.isAgg27 Try.sizeOf27 rfl rfl) ?_
          refine JL_step rfl rfl rfl (jo_buildSlice rfl (bsl_43_1_0 _ _)) fun b76 => ?_
          refine JL_step rfl rfl rfl (jo_append el_43 rfl rfl rfl rfl (by omega)) fun b77 => ?_
          refine JL_pd rfl (det_assign rfl) ?_
          refine JL_nil ?_
          refine JE_seq ?_
          refine JC_seq ?_
          refine JC_region ?_
          refine JL_pd rfl (det_move rfl) ?_
          refine JL_pd rfl (det_len rfl Try.runUnderlying43) ?_
          refine JL_pd rfl (det_sub rfl rfl ⟨by omega, by omega⟩) ?_
          refine JL_pd rfl (det_assign rfl) ?_
          refine JL_nil ?_
          refine JE_seq ?_
          refine JC_block ?_
          -- stop: loop
          refine JC_loopF (γ := Nat) (fun k => posS out x ≤ k ∧ k ≤ out.length) (fun k => [(18, I k)]) (fun k => [ow (.slice (some ⟨b77.1, 0, none⟩) (out.length + 1) b77.2) 27 2 (out.length + 1) ((out.take k ++ x :: out.drop k).flatMap encSt)]) (fun k => k) out.length ⟨hp, Nat.le_refl _⟩ (stsub_consI rfl (by omega) stsub_nil) (ht_ow rfl (by simp [encSt]) ht_nil) ?_
          rintro k ⟨hk1, hk2⟩ K4 hK4
          dsimp only [List.cons_append, List.nil_append]
          obtain ⟨L, hL⟩ : ∃ L, L = out.take k ++ x :: out.drop k := ⟨_, rfl⟩
          have hLl : L.length = out.length + 1 := by rw [hL]; simp; omega
          rw [← hL]
          refine JC_seq ?_
          refine JC_seq ?_
          refine JC_region ?_
          refine JL_pd rfl (det_move rfl) ?_
          refine JL_pd rfl (det_move rfl) ?_
          refine JL_pd rfl (det_gtr rfl rfl) ?_
          refine JL_nil ?_
          refine JE_seq ?_
          -- stop: cond
          refine JC_if rfl (fun h7 => ?_) (fun h7 => ?_)
          · have hk3 : 0 < k := by omega
            have hkm : k - 1 < out.length := by omega
            have e1 : L[k - 1]'(by omega) = out[k - 1] := by
              have : L[k - 1]? = some out[k - 1] := by
                rw [hL, List.getElem?_append_left (by simp; omega), List.getElem?_take_of_lt (by omega), List.getElem?_eq_getElem (by omega)]
              exact (List.getElem?_eq_some_iff.1 this).2
            have e2 : L[k]'(by omega) = x := by
              have : L[k]? = some x := by
                rw [hL, List.getElem?_append_right (by simp; omega)]
                simp [Nat.min_eq_left hk2]
              exact (List.getElem?_eq_some_iff.1 this).2
            have e3 : (L.set k out[k - 1]).set (k - 1) x = out.take (k - 1) ++ x :: out.drop (k - 1) := by
              have e5 : out.take k = out.take (k - 1) ++ [out[k - 1]] := by
                have := take_snoc (l := out) (i := k - 1) (by omega)
                rwa [show k - 1 + 1 = k by omega] at this
              have e6 : out.drop (k - 1) = out[k - 1] :: out.drop k := by
                have := drop_cons (l := out) (i := k - 1) (by omega)
                rwa [show k - 1 + 1 = k by omega] at this
              have n1 : (out.take (k - 1)).length = k - 1 := by simp; omega
              rw [hL, e5, e6, List.append_assoc]
              rw [List.set_append_right _ _ (by omega), n1, show k - (k - 1) = 1 by omega]
              rw [List.set_append_right _ _ (by omega), n1, Nat.sub_self]
              rfl
            refine JC_skip ?_
            refine JE_seq ?_
            refine JC_seq ?_
            refine JC_block ?_
            refine JC_draw [15, 17] (by kernel_rfl) ?_
            refine JA_pd (i := 0) rfl (by kernel_rfl) rfl rfl (det_move rfl) ?_
            refine JA_pd (i := 1) rfl (by kernel_rfl) rfl rfl (det_move rfl) ?_
            refine JA_pd (i := 2) rfl (by kernel_rfl) rfl rfl (det_move rfl) ?_
            refine JA_pd (i := 3) rfl (by kernel_rfl) rfl rfl (det_move rfl) ?_
            refine JA_pd (i := 4) rfl (by kernel_rfl) rfl rfl (det_sub rfl rfl ⟨by omega, by omega⟩) ?_
            refine JA_pd (i := 5) rfl (by kernel_rfl) rfl rfl (det_move rfl) ?_
            refine JA_pd (i := 6) rfl (by kernel_rfl) rfl rfl (det_move rfl) ?_
            refine JA_pd (i := 7) rfl (by kernel_rfl) rfl rfl (det_sub rfl rfl ⟨by omega, by omega⟩) ?_
            refine JA_pd (i := 8) rfl (by kernel_rfl) rfl rfl (det_indexOwn (i := k - 1) rfl rfl (by omega) (by omega) Try.runUnderlying43 Try.sizeOf27) ?_
            refine JA_dt (i := 9) rfl (by kernel_rfl) (by kernel_rfl) rfl rfl (det_loadOA (vs := [I out[k - 1].b, I out[k - 1].d]) rfl Try.isAgg27 Try.sizeOf27 (by rw [flat_rec encSt L (k - 1) (by omega), e1]; rfl) rfl) ?_
            refine JA_pd (i := 10) rfl (by kernel_rfl) rfl rfl (det_move rfl) ?_
            refine JA_pd (i := 11) rfl (by kernel_rfl) rfl rfl (det_move rfl) ?_
            refine JA_pd (i := 12) rfl (by kernel_rfl) rfl rfl (det_indexOwn (i := k) rfl rfl rfl (by omega) Try.runUnderlying43 Try.sizeOf27) ?_
            refine JA_dt (i := 13) rfl (by kernel_rfl) (by kernel_rfl) rfl rfl (det_loadOA (vs := [I x.b, I x.d]) rfl Try.isAgg27 Try.sizeOf27 (by rw [flat_rec encSt L k (by omega), e2]; rfl) rfl) ?_
            refine JA_pd (i := 14) rfl (by kernel_rfl) rfl rfl (det_indexOwn (i := k) rfl rfl rfl (by omega) Try.runUnderlying43 Try.sizeOf27) ?_
            refine JA_tail (i := 15) (by kernel_rfl) rfl rfl rfl rfl (jo_storeO (xs' := (L.set k out[k - 1]).flatMap encSt) rfl rfl rfl (splice_rec encSt L k out[k - 1] (by omega)) Try.sizeOf27 (by rw [flat_len]; simp; omega) rfl) fun _ => ?_
            refine JT_pd (i := 16) rfl (by kernel_rfl) rfl rfl (det_indexOwn (i := k - 1) rfl rfl (by omega) (by omega) Try.runUnderlying43 Try.sizeOf27) ?_
            refine JT_one (i := 17) (by kernel_rfl) rfl rfl (jo_storeO (xs' := ((L.set k out[k - 1]).set (k - 1) x).flatMap encSt) rfl rfl rfl (splice_rec encSt _ (k - 1) x (by rw [List.length_set]; omega)) Try.sizeOf27 (by rw [flat_len, List.length_set]; simp; omega) rfl) fun _ => ?_
            refine JT_done (by kernel_rfl) ?_
            refine JE_block ?_
            refine JE_seq ?_
            refine JC_region ?_
            refine JL_pd rfl (det_move rfl) ?_
            refine JL_pd rfl (det_sub rfl rfl ⟨by omega, by omega⟩) ?_
            refine JL_pd rfl (det_assign rfl) ?_
            refine JL_nil ?_
            -- stop: end
            refine JE_roundF hK4 (k - 1) ⟨by omega, by omega⟩ (by omega) (stsub_consI rfl (by omega) stsub_nil) (ht_ow rfl (by rw [e3]) ht_nil)
          · have hke : k = posS out x := by omega
            rw [hke] at hL
            refine JC_exit ?_
            refine JE_seq_exit ?_
            refine JE_then_exit ?_
            refine JE_block_here ?_
            refine JE_block ?_
            refine JE_seq ?_
            refine JC_region ?_
            refine JL_pd rfl (det_move rfl) ?_
            refine JL_pd rfl (det_add rfl rfl ⟨by omega, by omega⟩) ?_
            refine JL_pd rfl (det_assign rfl) ?_
            refine JL_nil ?_
            -- stop: end
            refine JE_roundF hK (i + 1, L, some ⟨b77.1, 0, none⟩, b77.2) ⟨by simp only; omega, by simp only; rw [hL]; exact hsn.symm⟩ (by simp only; omega) (stsub_consI rfl (by simp only; omega) (stsub_consI rfl (by simp only; rw [hg2]) (stsub_cons (v := .slice (some ⟨b77.1, 0, none⟩) L.length b77.2) (by rw [hLl]; rfl) stsub_nil))) (ht_conse (c := ow (.slice (some ⟨b77.1, 0, none⟩) (out.length + 1) b77.2) 27 2 (out.length + 1) (L.flatMap encSt)) (by simp only [hLl]) ht_nil)
  · have hie : tss.take i = tss := List.take_of_length_le (by omega)
    rw [hie] at hout ⊢
    subst hout
    refine JC_slice (enc := encSt) (v := .slice oa (rowF l s row tss).length oc) (rowF l s row tss) noFp rfl rfl ?_
    rintro a2 cap2 h
    cases h
    refine JC_exit ?_
    refine JE_seq_exit ?_
    refine JE_then_exit ?_
    refine JE_block_here ?_
    refine JE_seq ?_
    refine JC_seq ?_
    refine JC_region ?_
    refine JL_pd rfl (det_move rfl) ?_
    refine JL_pd rfl (det_move rfl) ?_
    refine JL_pd rfl (det_move rfl) ?_
    refine JL_pd rfl (det_len rfl Try.runUnderlying117) ?_
    -- stop: op  4 t106 := (call (Call (value f63) (t103 t105) (3 3)))   <1 3>   163
    refine JL_step rfl rfl rfl (jo_callv rfl rfl Try.call63 rfl (rVerdict_j (gutF l s row tss) tss.length)) fun _ => ?_
    refine JL_pd rfl (det_assign rfl) ?_
    refine JL_pd rfl (det_assign rfl) ?_
    refine JL_nil ?_
    refine JE_seq ?_
    refine JC_ret ?_
    -- stop: out
    refine JE_out (.inl rfl) (oa, oc) (results2 Try.results23 (res_tmp rfl) (res_tmp rfl)) rfl (List.Perm.refl _) (fun w h => h.1)
theorem rReach_j (l : La) (s : St) (row : Nat) (ha pa : Option Addr) (hc pc : Nat) (V : Valid l) (h0 : isStart l s = true) (hB : wideL l ^ nR l ≤ 300) (hr : row ≤ nR l) :
    Cr Try.prog 23 [.agg #[I l.boards, I l.rows, .slice ha l.hooks.length hc, .slice pa l.patches.length pc], .agg #[I s.b, I s.d], I row] (KLane l ha hc pa pc) (fun q : Option Addr × Nat => .tuple #[.slice q.1 (rowL l s row).length q.2, .int .u8 (rowV l s row)]) (fun q => KSl q.1 (rowL l s row).length q.2 encSt (rowL l s row)) := by
  have h := rReach_jn l s row ha pa hc pc V h0 hB hr
  rw [gutF_is V h0 row hr, rowF_is V h0 row hr] at h
  exact h
end Go.Proofs.Ytcfhbnfincpehaa

/- Path: the reference's Has, Room, Aims. -/
namespace Go.Proofs.Ytcfhbnfincpehaa
open Go.RowKit Go.Shelf

set_option maxRecDepth 100000 in
theorem rHas_j (xs : List St) (a : Option Addr) (cap : Nat) (s : St) (hx : xs.length ≤ 1000000) : Cv Try.prog 75 [.slice a xs.length cap, .agg #[I s.b, I s.d]] (KSl a xs.length cap encSt xs) (.bool (decide (s ∈ xs))) := by
  refine Cx_of Try.func75 rfl Try.ntmps75 rfl fun w0 M0 => ?_
  refine JC_seq ?_
  refine JC_region ?_
  refine JL_step rfl rfl rfl (jo_box rfl rfl) fun b3 => ?_
  refine JL_pd rfl (det_assign rfl) ?_
  refine JL_nil ?_
  refine JE_seq ?_
  refine JC_seq ?_
  refine JC_seq ?_
  refine JC_region ?_
  refine JL_pd rfl (det_assign rfl) ?_
  refine JL_nil ?_
  refine JE_seq ?_
  refine JC_block ?_
  -- stop: loop
  refine JC_loopF (γ := Nat) (fun i => i ≤ xs.length ∧ s ∉ xs.take i) (fun i => [(5, I i)]) (fun _ => []) (fun i => xs.length - i) 0 ⟨by omega, by simp⟩ (stsub_cons rfl stsub_nil) ht_nil ?_
  rintro i ⟨hi, hno⟩ K hK
  dsimp only [List.cons_append, List.nil_append]
  refine JC_seq ?_
  refine JC_seq ?_
  refine JC_region ?_
  refine JL_pd rfl (det_move rfl) ?_
  refine JL_pd rfl (det_move rfl) ?_
  refine JL_pd rfl (det_len rfl Try.runUnderlying43) ?_
  refine JL_pd rfl (det_lss rfl rfl) ?_
  refine JL_nil ?_
  refine JE_seq ?_
  -- stop: cond
  refine JC_if rfl (fun h1 => ?_) (fun h1 => ?_)
  · refine JC_skip ?_
    refine JE_seq ?_
    refine JC_seq ?_
    refine JC_block ?_
    refine JC_seq ?_
    refine JC_draw [] (by kernel_rfl) ?_
    refine JA_pd (i := 0) rfl (by kernel_rfl) rfl rfl (det_move rfl) ?_
    refine JA_pd (i := 1) rfl (by kernel_rfl) rfl rfl (det_move rfl) ?_
    refine JA_dt (i := 2) rfl (by kernel_rfl) (by kernel_rfl) rfl rfl (det_indexAddr rfl rfl (by first | rfl | omega) (by first | assumption | omega | decide) Try.runUnderlying43 Try.sizeOf27) ?_
    refine JA_dt (i := 3) rfl (by kernel_rfl) (by kernel_rfl) rfl rfl (det_loadEA rfl (by first | assumption | omega | decide) Try.isAgg27 Try.sizeOf27 rfl rfl rfl) ?_
    refine JA_dt (i := 4) rfl (by kernel_rfl) (by kernel_rfl) rfl rfl (det_loadKA rfl Try.isAgg27 Try.sizeOf27 rfl rfl) ?_
    refine JA_pd (i := 5) rfl (by kernel_rfl) rfl rfl (det_eqlA rfl rfl egt_27 (eqa_27 _ _ _ _)) ?_
    refine JA_done (by kernel_rfl) ?_
    refine JE_seq ?_
    -- stop: cond
    have hi2 : i < xs.length := by omega
    -- stop: cond
    refine JC_cond rfl (fun h2 => ?_) (fun h2 => ?_)
    · refine JC_seq ?_
      refine JC_region ?_
      refine JL_pd rfl (det_assign rfl) ?_
      refine JL_nil ?_
      refine JE_seq ?_
      refine JC_ret ?_
      refine JE_block_ret ?_
      refine JE_seq_ret ?_
      refine JE_then_ret ?_
      refine JE_block_ret ?_
      refine JE_seq_ret ?_
      -- stop: out
      simp only [decide_eq_true_eq] at h2
      refine JE_out (.inl rfl) () (results1 Try.results75 (res_tmp rfl)) (by rw [decide_eq_true]; rw [show s = xs[i] from St.ext'.2 ⟨h2.1.symm, h2.2.symm⟩]; exact List.getElem_mem _) (List.Perm.refl _) (fun _ _ => trivial)
    · refine JC_skip ?_
      refine JE_block ?_
      refine JE_seq ?_
      refine JC_region ?_
      refine JL_pd rfl (det_move rfl) ?_
      refine JL_pd rfl (det_add rfl rfl ⟨by omega, by omega⟩) ?_
      refine JL_pd rfl (det_assign rfl) ?_
      refine JL_nil ?_
      -- stop: end
      simp only [decide_eq_false_iff_not] at h2
      refine JE_roundF hK (i + 1) ⟨by omega, ?_⟩ (by omega) (stsub_consI rfl (by omega) stsub_nil) ht_nil
      rw [take_snoc hi2]
      simp only [List.mem_append, List.mem_singleton, not_or]
      exact ⟨hno, fun e => h2 ⟨by rw [e], by rw [e]⟩⟩
  · refine JC_exit ?_
    refine JE_seq_exit ?_
    refine JE_then_exit ?_
    refine JE_block_here ?_
    refine JE_seq ?_
    refine JC_seq ?_
    refine JC_region ?_
    refine JL_pd rfl (det_assign rfl) ?_
    refine JL_nil ?_
    refine JE_seq ?_
    refine JC_ret ?_
    -- stop: out
    refine JE_out (.inl rfl) () (results1 Try.results75 (res_tmp rfl)) (by rw [decide_eq_false]; rwa [List.take_of_length_le (by omega)] at hno) (List.Perm.refl _) (fun _ _ => trivial)
set_option maxRecDepth 100000 in
theorem rRoom_j (l : La) (p : Pk) (s : St) (a : Option Addr) (cap : Nat) (hb : l.boards ≤ 40) (s1 : 1 ≤ s.b) (s2 : s.b ≤ 40) : Cv Try.prog 35 [.slice a (aimsL l p).length cap, .agg #[I s.b, I s.d]] (KSl a (aimsL l p).length cap encSt (aimsL l p)) (I ((roomN (aimsL l p) s : Int) - 1)) := by
  have hlen := aims_len l p hb
  refine Cx_of Try.func35 rfl Try.ntmps35 rfl fun w0 M0 => ?_
  refine JC_seq ?_
  refine JC_region ?_
  refine JL_step rfl rfl rfl (jo_box rfl rfl) fun b3 => ?_
  refine JL_pd rfl (det_assign rfl) ?_
  refine JL_nil ?_
  refine JE_seq ?_
  refine JC_seq ?_
  refine JC_region ?_
  refine JL_pd rfl (det_assign rfl) ?_
  refine JL_nil ?_
  refine JE_seq ?_
  refine JC_seq ?_
  refine JC_block ?_
  -- stop: loop
  refine JC_loopF (γ := Nat) (fun n => n ≤ 41 ∧ ∀ m, m < n → pairOk (aimsL l p) s m = true) (fun n => [(5, I ((n : Int) - 1))]) (fun _ => []) (fun n => 41 - n) 0 ⟨by omega, by omega⟩ (stsub_cons rfl stsub_nil) ht_nil ?_
  rintro n ⟨hn, hp⟩ K hK
  have e1 : s.b - ((n : Int) - 1) - 1 = s.b - n := by omega
  have e2 : s.b + ((n : Int) - 1) + 1 = s.b + n := by omega
  dsimp only [List.cons_append, List.nil_append]
  refine JC_seq ?_
  refine JC_seq ?_
  refine JC_region ?_
  refine JL_pd rfl (det_move rfl) ?_
  refine JL_pd rfl (det_fieldAddr rfl fo_27_0) ?_
  refine JL_dt rfl (det_loadK rfl Try.isAgg3 rfl) ?_
  refine JL_pd rfl (det_move rfl) ?_
  refine JL_pd rfl (det_sub rfl rfl ⟨by omega, by omega⟩) ?_
  refine JL_pd rfl (det_sub rfl rfl ⟨by omega, by omega⟩) ?_
  refine JL_pd rfl (det_fieldAddr rfl fo_27_1) ?_
  refine JL_dt rfl (det_loadK rfl Try.isAgg3 rfl) ?_
  refine JL_pd rfl (det_build rfl (bld_27_0_1 _ _)) ?_
  -- stop: op  9 t15 := (call (Call (value f75) (t6 t14) (43 27)))   <0 8>   216
  rw [e1]
  refine JL_step rfl rfl rfl (jo_callv rfl rfl Try.call75 rfl (rHas_j (aimsL l p) a cap ⟨s.b - n, s.d⟩ (by omega))) fun _ => ?_
  refine JL_pd rfl (det_move rfl) ?_
  -- stop: guard 10
  refine JL_split (d0 := 16) rfl (fun h1 => ?_) (fun h1 => ?_)
  · refine JL_guard rfl rfl h1 ?_
    refine JL_pd rfl (det_move rfl) ?_
    refine JL_guard rfl rfl h1 ?_
    refine JL_pd rfl (det_fieldAddr rfl fo_27_0) ?_
    refine JL_guard rfl rfl h1 ?_
    refine JL_dt rfl (det_loadK rfl Try.isAgg3 rfl) ?_
    refine JL_guard rfl rfl h1 ?_
    refine JL_pd rfl (det_move rfl) ?_
    refine JL_guard rfl rfl h1 ?_
    refine JL_pd rfl (det_add rfl rfl ⟨by omega, by omega⟩) ?_
    refine JL_guard rfl rfl h1 ?_
    refine JL_pd rfl (det_add rfl rfl ⟨by omega, by omega⟩) ?_
    refine JL_guard rfl rfl h1 ?_
    refine JL_pd rfl (det_fieldAddr rfl fo_27_1) ?_
    refine JL_guard rfl rfl h1 ?_
    refine JL_dt rfl (det_loadK rfl Try.isAgg3 rfl) ?_
    refine JL_guard rfl rfl h1 ?_
    refine JL_pd rfl (det_build rfl (bld_27_0_1 _ _)) ?_
    refine JL_guard rfl rfl h1 ?_
    -- stop: op 20 t26 := (call (Call (value f75) (t17 t25) (43 27)))   <11 19 10 10>   216
    rw [e2]
    refine JL_step rfl rfl rfl (jo_callv rfl rfl Try.call75 rfl (rHas_j (aimsL l p) a cap ⟨s.b + n, s.d⟩ (by omega))) fun _ => ?_
    refine JL_pd rfl (det_pick_t rfl h1 rfl) ?_
    refine JL_nil ?_
    refine JE_seq ?_
    -- stop: cond
    refine JC_cond rfl (fun h2 => ?_) (fun h2 => ?_)
    · have hok : pairOk (aimsL l p) s n = true := by simp only [pairOk, h1, h2, Bool.and_self]
      have hle := pairOk_bd hb hok s1
      refine JC_skip ?_
      refine JE_seq ?_
      refine JC_block ?_
      refine JC_region ?_
      refine JL_pd rfl (det_move rfl) ?_
      refine JL_pd rfl (det_add rfl rfl ⟨by omega, by omega⟩) ?_
      refine JL_pd rfl (det_assign rfl) ?_
      refine JL_nil ?_
      refine JE_block ?_
      -- stop: end
      refine JE_roundF hK (n + 1) ⟨by omega, fun m hm => ?_⟩ (by omega) (stsub_consI rfl (by omega) stsub_nil) ht_nil
      by_cases e : m = n
      · rw [e]; exact hok
      · exact hp m (by omega)
    · refine JC_exit ?_
      refine JE_seq_exit ?_
      refine JE_then_exit ?_
      refine JE_block_here ?_
      refine JE_seq ?_
      refine JC_seq ?_
      refine JC_region ?_
      refine JL_pd rfl (det_move rfl) ?_
      refine JL_pd rfl (det_assign rfl) ?_
      refine JL_nil ?_
      refine JE_seq ?_
      refine JC_ret ?_
      -- stop: out
      refine JE_out (.inl rfl) () (results1 Try.results35 (res_tmp rfl)) (by rw [roomN_eq hp (by simp only [pairOk, h1, h2, Bool.and_false]) (by omega)]) (List.Perm.refl _) (fun _ _ => trivial)
  · refine JL_skip rfl rfl h1 rfl ?_
    refine JL_skip rfl rfl h1 rfl ?_
    refine JL_skip rfl rfl h1 rfl ?_
    refine JL_skip rfl rfl h1 rfl ?_
    refine JL_skip rfl rfl h1 rfl ?_
    refine JL_skip rfl rfl h1 rfl ?_
    refine JL_skip rfl rfl h1 rfl ?_
    refine JL_skip rfl rfl h1 rfl ?_
    refine JL_skip rfl rfl h1 rfl ?_
    refine JL_skip rfl rfl h1 rfl ?_
    refine JL_pd rfl (det_pick_f rfl h1 rfl) ?_
    refine JL_nil ?_
    refine JE_seq ?_
    refine JC_condF rfl rfl ?_
    refine JC_exit ?_
    refine JE_seq_exit ?_
    refine JE_then_exit ?_
    refine JE_block_here ?_
    refine JE_seq ?_
    refine JC_seq ?_
    refine JC_region ?_
    refine JL_pd rfl (det_move rfl) ?_
    refine JL_pd rfl (det_assign rfl) ?_
    refine JL_nil ?_
    refine JE_seq ?_
    refine JC_ret ?_
    -- stop: out
    refine JE_out (.inl rfl) () (results1 Try.results35 (res_tmp rfl)) (by rw [roomN_eq hp (by simp only [pairOk, h1, Bool.false_and]) (by omega)]) (List.Perm.refl _) (fun _ _ => trivial)
set_option maxRecDepth 100000 in
theorem rAims_j (l : La) (p : Pk) (ha pa : Option Addr) (hc pc : Nat) (V : Valid l) (hB : wideL l ^ nR l ≤ 300) : Cr Try.prog 34 [.agg #[I l.boards, I l.rows, .slice ha l.hooks.length hc, .slice pa l.patches.length pc], .agg #[I p.boards.lo, I p.boards.hi, I p.dirs.lo, I p.dirs.hi]] (KLane l ha hc pa pc) (fun q : Option Addr × Nat => .slice q.1 (aimsL l p).length q.2) (fun q => KSl q.1 (aimsL l p).length q.2 encSt (aimsL l p)) := by
  have v1 := V.b1
  have v2 := V.b2
  refine Cx_of Try.func34 rfl Try.ntmps34 rfl fun w0 M0 => ?_
  refine JC_seq ?_
  refine JC_region ?_
  refine JL_step rfl rfl rfl (jo_box rfl rfl) fun b2 => ?_
  refine JL_step rfl rfl rfl (jo_box rfl rfl) fun b3 => ?_
  refine JL_pd rfl (det_assign rfl) ?_
  refine JL_nil ?_
  refine JE_seq ?_
  refine JC_seq ?_
  refine JC_region ?_
  refine JL_pd rfl (det_assign rfl) ?_
  refine JL_nil ?_
  refine JE_seq ?_
  refine JC_seq ?_
  refine JC_seq ?_
  refine JC_region ?_
  refine JL_pd rfl (det_assign rfl) ?_
  refine JL_nil ?_
  refine JE_seq ?_
  refine JC_block ?_
  -- stop: loop
  refine JC_nil 27 2 ?_
  refine JC_loopF (γ := Nat × List St × Value) (fun q => q.1 ≤ l.boards.toNat ∧ q.2.1 = (doneS q.1 0).filter (sureS l p)) (fun q => [(6, I (1 + q.1)), (5, q.2.2)]) (fun q => [ow q.2.2 27 2 q.2.1.length (q.2.1.flatMap encSt)]) (fun q => l.boards.toNat - q.1) (0, [], .slice none 0 0) ⟨by omega, rfl⟩ (stsub_cons rfl (stsub_cons rfl stsub_nil)) (ht_ow rfl rfl ht_nil) ?_
  rintro ⟨i, L, v⟩ ⟨hi, hL⟩ K hK
  dsimp only [List.cons_append, List.nil_append] at hi hL ⊢
  refine JC_seq ?_
  refine JC_seq ?_
  refine JC_region ?_
  refine JL_pd rfl (det_move rfl) ?_
  refine JL_pd rfl (det_fieldAddr rfl fo_25_0) ?_
  refine JL_dt rfl (det_loadK rfl Try.isAgg3 rfl) ?_
  refine JL_pd rfl (det_leq rfl rfl) ?_
  refine JL_nil ?_
  refine JE_seq ?_
  -- stop: cond
  refine JC_if rfl (fun h3 => ?_) (fun h3 => ?_)
  · refine JC_skip ?_
    refine JE_seq ?_
    refine JC_seq ?_
    refine JC_block ?_
    refine JC_seq ?_
    refine JC_region ?_
    refine JL_pd rfl (det_assign rfl) ?_
    refine JL_nil ?_
    refine JE_seq ?_
    refine JC_block ?_
    -- stop: loop
    have hi2 : i < l.boards.toNat := by omega
    refine JC_loopF (γ := Nat × List St × Value) (fun q => q.1 ≤ 11 ∧ q.2.1 = (doneS i q.1).filter (sureS l p)) (fun q => [(7, I (-5 + q.1)), (5, q.2.2)]) (fun q => [ow q.2.2 27 2 q.2.1.length (q.2.1.flatMap encSt)]) (fun q => 11 - q.1) (0, L, v) ⟨by omega, hL⟩ (stsub_cons rfl (stsub_cons rfl stsub_nil)) (ht_cons ht_nil) ?_
    clear hL
    rintro ⟨j, L, v⟩ ⟨hj, hL⟩ K2 hK2
    dsimp only [List.cons_append, List.nil_append] at hj hL ⊢
    have hlen : L.length ≤ 1000 := by
      rw [hL]
      have := List.length_filter_le (sureS l p) (doneS i j)
      rw [doneS_len] at this; omega
    have hst : j < 11 → isStart l ⟨1 + i, -5 + j⟩ = true := fun h => decide_eq_true (by simp only; omega)
    have hsure : j < 11 → (hitsV l ⟨1 + i, -5 + j⟩ p = 2 ↔ sureS l p ⟨1 + i, -5 + j⟩ = true) := fun h => by
      rw [sure_iff (hst h) V, aimsL, List.mem_filter, mem_doneS_iff]
      exact ⟨fun h => h.2, fun h2 => ⟨by simp only; omega, h2⟩⟩
    refine JC_seq ?_
    refine JC_seq ?_
    refine JC_region ?_
    refine JL_pd rfl (det_move rfl) ?_
    refine JL_pd rfl (det_leq rfl rfl) ?_
    refine JL_nil ?_
    refine JE_seq ?_
    -- stop: cond
    refine JC_if rfl (fun h4 => ?_) (fun h4 => ?_)
    · refine JC_skip ?_
      refine JE_seq ?_
      refine JC_seq ?_
      refine JC_block ?_
      refine JC_seq ?_
      refine JC_region ?_
      refine JL_pd rfl (det_move rfl) ?_
      refine JL_pd rfl (det_move rfl) ?_
      refine JL_pd rfl (det_build rfl (bld_27_0_1 _ _)) ?_
      refine JL_step rfl rfl rfl (jo_alloc0 Try.zeroValue27 rfl) fun b8 => ?_
      refine JL_step0 rfl rfl (jo_store rfl rfl rfl (by first | (simp only [splice_norm]; done) | (simp only [splice_norm]; rfl) | rfl) Try.sizeOf27 rfl rfl) fun _ => ?_
      refine JL_nil ?_
      refine JE_seq ?_
      refine JC_seq ?_
      refine JC_region ?_
      refine JL_dt rfl (det_loadKA rfl Try.isAgg25 Try.sizeOf25 rfl rfl) ?_
      refine JL_dt rfl (det_loadKA rfl Try.isAgg27 Try.sizeOf27 rfl rfl) ?_
      refine JL_dt rfl (det_loadKA rfl Try.isAgg57 Try.sizeOf57 rfl rfl) ?_
      -- stop: op  3 t25 := (call (Call (value f50) (t22 t23 t24) (25 27 57)))   <0 1 2>   195
      have hj2 : j < 11 := by omega
      refine JL_step rfl rfl rfl (jo_callv rfl rfl Try.call50 rfl (rHits_j l ⟨1 + i, -5 + j⟩ p ha pa hc pc V (hst hj2) hB)) fun _ => ?_
      refine JL_pd rfl (det_eql rfl rfl) ?_
      refine JL_nil ?_
      refine JE_seq ?_
      -- stop: cond
      refine JC_if rfl (fun h5 => ?_) (fun h5 => ?_)
      · have h6 := (hsure hj2).1 h5
        refine JC_region ?_
        refine JL_pd rfl (det_move rfl) ?_
        refine JL_dt rfl (det_loadKA rfl Try.isAgg27 Try.sizeOf27 rfl rfl) ?_
        refine JL_step rfl rfl rfl (jo_buildSlice rfl (bsl_43_1_0 _ _)) fun b29 => ?_
        refine JL_step rfl rfl rfl (jo_append el_43 rfl rfl rfl rfl (by omega)) fun b30 => ?_
        refine JL_pd rfl (det_assign rfl) ?_
        refine JL_nil ?_
        refine JE_block ?_
        refine JE_seq ?_
        refine JC_region ?_
        refine JL_pd rfl (det_move rfl) ?_
        refine JL_pd rfl (det_add rfl rfl ⟨by omega, by omega⟩) ?_
        refine JL_pd rfl (det_assign rfl) ?_
        refine JL_nil ?_
        -- stop: end
        refine JE_roundF hK2 (j + 1, L ++ [⟨1 + i, -5 + j⟩], .slice (some ⟨b30.1, 0, none⟩) (L.length + 1) b30.2) ⟨by simp only; omega, ?_⟩ (by simp only; omega) (stsub_consI rfl (by simp only; omega) (stsub_cons rfl stsub_nil)) (ht_ow (by simp) (by simp [encSt]) ht_nil)
        simp only [doneS_dir, List.filter_append, hL]
        simp [h6]
      · have h6 : sureS l p ⟨1 + i, -5 + j⟩ = false := by
          cases hc : sureS l p ⟨1 + i, -5 + j⟩
          · rfl
          · exact absurd ((hsure hj2).2 hc) h5
        refine JC_skip ?_
        refine JE_block ?_
        refine JE_seq ?_
        refine JC_region ?_
        refine JL_pd rfl (det_move rfl) ?_
        refine JL_pd rfl (det_add rfl rfl ⟨by omega, by omega⟩) ?_
        refine JL_pd rfl (det_assign rfl) ?_
        refine JL_nil ?_
        -- stop: end
        refine JE_roundF hK2 (j + 1, L, v) ⟨by simp only; omega, ?_⟩ (by simp only; omega) (stsub_consI rfl (by simp only; omega) (stsub_cons rfl stsub_nil)) (ht_cons ht_nil)
        simp only [doneS_dir, List.filter_append, hL]
        simp [h6]
    · refine JC_exit ?_
      refine JE_seq_exit ?_
      refine JE_then_exit ?_
      refine JE_block_here ?_
      refine JE_block ?_
      refine JE_seq ?_
      refine JC_region ?_
      refine JL_pd rfl (det_move rfl) ?_
      refine JL_pd rfl (det_add rfl rfl ⟨by omega, by omega⟩) ?_
      refine JL_pd rfl (det_assign rfl) ?_
      refine JL_nil ?_
      -- stop: end
      have hj3 : j = 11 := by omega
      refine JE_roundF hK (i + 1, L, v) ⟨by simp only; omega, by simp only; rw [hL, hj3, doneS_row]⟩ (by simp only; omega) (stsub_consI rfl (by simp only; omega) (stsub_cons rfl stsub_nil)) (ht_cons ht_nil)
  · refine JC_exit ?_
    refine JE_seq_exit ?_
    refine JE_then_exit ?_
    refine JE_block_here ?_
    refine JE_seq ?_
    refine JC_seq ?_
    refine JC_region ?_
    refine JL_pd rfl (det_move rfl) ?_
    refine JL_pd rfl (det_assign rfl) ?_
    refine JL_nil ?_
    refine JE_seq ?_
    refine JC_ret ?_
    -- stop: out
    have hi3 : i = l.boards.toNat := by omega
    refine JE_slice (enc := encSt) (v := v) L noFp rfl rfl ?_
    rintro a cap rfl
    have hLa : L = aimsL l p := by rw [hL, hi3]; rfl
    subst hLa
    refine JE_out (.inl rfl) (a, cap) (results1 Try.results34 (res_tmp rfl)) rfl (List.Perm.refl _) (fun w h => h.1)
end Go.Proofs.Ytcfhbnfincpehaa
