/- Own texts, laid together: J36 KE. Nothing is asked. -/
import Derived.Test.YthpkgabckklojaaGreatS4
import Derived.Test.YthpkgabckklojaaGreatS8
set_option linter.unusedSimpArgs false
set_option linter.unusedVariables false
/- A range over a map of the call's own. Nothing is asked. -/
namespace Go.Proofs.YthpkgabckklojaaGreat
open Go.RowKit Go.Shelf

/-- A map that is walked over, and who walks; the keys that are still to come. -/
def wk {κ ν : Type} (b r : Nat) (ek : κ → Value) (ev : ν → Value) (m : κ → Option ν) (ls : List κ) : Chunk := ⟨fun x => x = b ∨ x = r, fun w => WalkIs w b r ek ev m ls⟩
/-- The same, at a key. -/
def wkc {κ ν : Type} (P : Program) (b r : Nat) (ek : κ → Value) (ev : ν → Value) (m : κ → Option ν) (ls : List κ) (k : κ) (v : ν) : Chunk := ⟨fun x => x = b ∨ x = r, fun w => WalkIs w b r ek ev m ls ∧ ∀ W : World, W.heap[b]? = w.heap[b]? → W.heap[r]? = w.heap[r]? → (Instr.entry (.pointer (some ⟨r, 0, none⟩))).run P W = .ok (.tuple #[ek k, ev v]) W⟩
section
variable {κ ν : Type} {P : Program} {b r : Nat} {ek : κ → Value} {ev : ν → Value} {m : κ → Option ν} {ls : List κ}
theorem wk_holds {w : World} (h : WalkIs w b r ek ev m ls) : (wk b r ek ev m ls).holds w := by
  refine ⟨fun x hx => ?_, fun w' _ he => h.at_ (he b (.inl rfl)) (he r (.inr rfl))⟩
  rcases hx with rfl | rfl
  · exact h.lt.1
  · exact h.lt.2
theorem wkc_holds {k : κ} {v : ν} {w : World} (h : (wkc P b r ek ev m ls k v).says w) : (wkc P b r ek ev m ls k v).holds w := by
  refine ⟨fun x hx => ?_, fun w' _ he => ⟨h.1.at_ (he b (.inl rfl)) (he r (.inr rfl)), fun W e1 e2 => h.2 W (e1.trans (he b (.inl rfl))) (e2.trans (he r (.inr rfl)))⟩⟩
  rcases hx with rfl | rfl
  · exact h.1.lt.1
  · exact h.1.lt.2
end
class WkPick {κ ν : Type} (H : List Chunk) (b r : Nat) (ek : κ → Value) (ev : ν → Value) (m : κ → Option ν) (ls : outParam (List κ)) (H' : outParam (List Chunk)) : Prop where
  perm : H.Perm (wk b r ek ev m ls :: H')
instance {κ ν : Type} (H : List Chunk) (b r : Nat) (ek : κ → Value) (ev : ν → Value) (m : κ → Option ν) (ls : List κ) : WkPick (wk b r ek ev m ls :: H) b r ek ev m ls H := ⟨List.Perm.refl _⟩
instance {κ ν : Type} (H H' : List Chunk) (b r : Nat) (ek : κ → Value) (ev : ν → Value) (m : κ → Option ν) (ls : List κ) (c : Chunk) [h : WkPick H b r ek ev m ls H'] : WkPick (c :: H) b r ek ev m ls (c :: H') := ⟨(h.perm.cons c).trans (List.Perm.swap _ _ _)⟩
section
variable {κ ν : Type} {X : Ctx} {P : Program} {st : Sto} {H H' : List Chunk} {R : World → Prop} {d : Option Nat} {ty : TypeId} {pos : String} {af : Array Edge} {g : Option (Nat × Bool)} {ek : κ → Value} {ev : ν → Value} {m : κ → Option ν} {b r : Nat} {ls : List κ}
theorem jo_rangeM [DecidableEq κ] {x : Operand} {t K E : TypeId} (hx : opnd st x = some (.map (some b))) [hp : MapPick H b ek ev m H'] (hT : P.underlying t = some (.map K E)) (inj : ∀ a b, ek a = ek b → a = b) :
    JO X P ⟨d, .range t x, ty, pos, af, g⟩ st H R (fun p : Nat × { ls : List κ // ∀ k, k ∈ ls ↔ (m k).isSome = true } => .pointer (some ⟨p.1, 0, none⟩)) (fun p => wk b p.1 ek ev m p.2.1 :: H') (fun _ => R) := by
  intro a w M Ds K0 Q hs hm hK
  have hm2 := hm.perm hp.perm
  have hmp : MapIs w b ek ev m := (hm2.hold _ (List.mem_cons_self ..)).now
  obtain ⟨hrun, l, h1, h2, h3⟩ := hmp.walk (P := P) inj hT
  refine ⟨fun f _ => fof_fn _ f, ?_⟩
  rw [semAt_plain _ _ _ (by intro c h; cases h)]
  have hrun2 := hrun
  simp only [execOp, hs.eval hx, Sem.run_bind, hrun2, Result.andThen_ok, Sem.run_pure]
  refine hK (w.heap.size, ⟨l, h3⟩) _ (fun b => M b ∨ b = w.heap.size) ?_
  have := hm2.swap (C := [mp b ek ev m]) (D := H') (C' := [wk b w.heap.size ek ev m l]) (R' := fun _ => True) (fun b => M b ∨ b = w.heap.size)
    (Moves.of_below ((Below.refl _ _).alloc (Nat.le_refl _) _)) (fun b hb => .inl hb) (fun b hb => hb.imp id (fun e => by omega)) (fun b hb => by
      rw [World.size_alloc]; rcases hb with hb | rfl
      · have := hm.bd b hb; omega
      · omega)
    (by intro c hc'; simp at hc'; subst hc'; exact wk_holds h1)
    (by
      intro c hc' y hy; simp at hc'; subst hc'
      rcases hy with rfl | rfl
      · exact ⟨.inl (hm2.own _ (List.mem_cons_self ..) _ rfl), .inl ⟨mp _ ek ev m, by simp, rfl⟩⟩
      · exact ⟨.inr rfl, .inr (Nat.le_refl _)⟩) (by simp) (fun _ _ => trivial)
  exact this.know fun w h => h.2
theorem det_next0 {x : Operand} (hx : opnd st x = some (.pointer (some ⟨r, 0, none⟩))) [hp : WkPick H b r ek ev m ([] : List κ) H'] : Det X P ⟨d, .next x false, ty, pos, af, g⟩ st H R (.tuple #[.bool false]) := fun ac w M Ds hst hm => by
  have hw : WalkIs w b r ek ev m [] := ((hm.perm hp.perm).hold _ (List.mem_cons_self ..)).now
  simp only [execOp, hst.eval hx, Sem.run_bind, hw.done (P := P) ty, Result.andThen_ok, Sem.run_pure]
theorem jo_next1 [DecidableEq κ] {x : Operand} (hx : opnd st x = some (.pointer (some ⟨r, 0, none⟩))) [hp : WkPick H b r ek ev m ls H'] (hne : ls ≠ []) (inj : ∀ a b, ek a = ek b → a = b) :
    JO X P ⟨d, .next x false, ty, pos, af, g⟩ st H R (fun p : { q : κ × ν // q.1 ∈ ls ∧ m q.1 = some q.2 } => .tuple #[.bool true, ek p.1.1, ev p.1.2]) (fun p => wkc P b r ek ev m (ls.filter fun x => decide (x ≠ p.1.1)) p.1.1 p.1.2 :: H') (fun _ => R) := by
  intro a w M Ds K0 Q hs hm hK
  have hm2 := hm.perm hp.perm
  have hw : WalkIs w b r ek ev m ls := (hm2.hold _ (List.mem_cons_self ..)).now
  obtain ⟨k, v, w', h1, h2, hrun, h3, h4, h5, h6⟩ := hw.step (P := P) hne inj ty
  refine ⟨fun f _ => fof_fn _ f, ?_⟩
  rw [semAt_plain _ _ _ (by intro c h; cases h)]
  simp only [execOp, hs.eval hx, Sem.run_bind, hrun, Result.andThen_ok, Sem.run_pure]
  refine hK ⟨(k, v), h1, h2⟩ w' M ?_
  have := hm2.swap (C := [wk b r ek ev m ls]) (D := H') (C' := [wkc P b r ek ev m (ls.filter fun x => decide (x ≠ k)) k v]) (R' := fun _ => True) M
    (h4.weaken fun i _ hi => ⟨wk b r ek ev m ls, by simp, .inr hi⟩) (fun _ h => h) (fun _ h => .inl h) (fun b hb => by rw [h5]; exact hm.bd b hb)
    (by intro c hc'; obtain rfl := List.mem_singleton.1 hc'; exact wkc_holds ⟨h3, h6⟩)
    (by
      intro c hc' y hy; obtain rfl := List.mem_singleton.1 hc'
      exact ⟨hm2.own _ (List.mem_cons_self ..) _ hy, .inl ⟨wk b r ek ev m ls, by simp, hy⟩⟩) (by simp) (fun _ _ => trivial)
  exact this.know fun w h => h.2
theorem det_entry {x : Operand} {k : κ} {v : ν} (hx : opnd st x = some (.pointer (some ⟨r, 0, none⟩))) [hp : Pick H (wkc P b r ek ev m ls k v) H'] : Det X P ⟨d, .entry x, ty, pos, af, g⟩ st H R (.tuple #[ek k, ev v]) := fun ac w M Ds hst hm => by
  have hw := ((hm.perm hp.perm).hold _ (List.mem_cons_self ..)).now
  simp only [execOp, hst.eval hx, Sem.run_bind, hw.2 w rfl rfl, Result.andThen_ok, Sem.run_pure]
variable {kt : Kont}
theorem JL_wkc {ops : Array Oper} {rest : List Oper} {Q : Exit → Act → World → Prop} {k : κ} {v : ν} (b r : Nat) (ek : κ → Value) (ev : ν → Value) (m : κ → Option ν) (ls : List κ) [hp : Pick H (wkc P b r ek ev m ls k v) H'] (h : JL X P ops Q rest st (wk b r ek ev m ls :: H') R) : JL X P ops Q rest st H R := fun a w ho => by
  obtain ⟨h1, M, Ds, h2, hm⟩ := ho
  have hm2 := hm.perm hp.perm
  have hw := (hm2.hold _ (List.mem_cons_self ..)).now
  have := hm2.swap (C := [wkc P b r ek ev m ls k v]) (D := H') (C' := [wk b r ek ev m ls]) (R' := fun _ => True) (w' := w) M (Moves.refl _) (fun _ h => h) (fun _ h => .inl h) hm.bd
    (by intro c hc'; simp at hc'; subst hc'; exact wk_holds hw.1)
    (by
      intro c hc' y hy; simp at hc'; subst hc'
      exact ⟨hm2.own _ (List.mem_cons_self ..) _ hy, .inl ⟨wkc P b r ek ev m ls k v, by simp, hy⟩⟩) (by simp) (fun _ _ => trivial)
  exact h a w ⟨h1, M, Ds, h2, this.know fun w h => h.2⟩
end
theorem filter_lt {κ : Type} [DecidableEq κ] {ls : List κ} {k : κ} (h : k ∈ ls) : (ls.filter fun x => decide (x ≠ k)).length < ls.length := by
  have : ∀ l : List κ, k ∈ l → (l.filter fun x => decide (x ≠ k)).length < l.length := by
    intro l
    induction l with
    | nil => intro h; cases h
    | cons a l ih =>
      intro h
      by_cases e : a = k
      · rw [List.filter_cons_of_neg (by simp [e])]
        have := List.length_filter_le (fun x => decide (x ≠ k)) l
        simp only [List.length_cons]; omega
      · rcases List.mem_cons.1 h with h | h
        · exact absurd h.symm e
        · rw [List.filter_cons_of_pos (by simp [e])]
          have := ih h
          simp only [List.length_cons]; omega
  exact this ls h
end Go.Proofs.YthpkgabckklojaaGreat

/- Rack: Left, CanLeave, where all is valid. -/
namespace Go.Proofs.YthpkgabckklojaaGreat.Rk
open Go.RowKit Go.Shelf

theorem max_mem {xs : List Int} {v y : Int} (h1 : v ∈ xs) (h2 : y ∈ xs) : max v y ∈ xs := by
  rcases Int.le_total v y with e | e
  · rw [Int.max_eq_right e]; exact h2
  · rw [Int.max_eq_left e]; exact h1
theorem min_mem {xs : List Int} {v y : Int} (h1 : v ∈ xs) (h2 : y ∈ xs) : min v y ∈ xs := by
  rcases Int.le_total v y with e | e
  · rw [Int.min_eq_left e]; exact h1
  · rw [Int.min_eq_right e]; exact h2
set_option maxRecDepth 100000 in
theorem maxW_j (a : Option Addr) (c : Nat) (xs : List Int) (h0 : 0 < xs.length) (hl : xs.length ≤ 1000) : Cr Tryz.prog 111 [.slice a xs.length c] (KSl a xs.length c encN xs) (fun q : {v : Int // v ∈ xs ∧ ∀ y ∈ xs, y ≤ v} => I q.1) (fun _ => KTrue) := by
  refine Cx_of Tryz.func111 rfl Tryz.ntmps111 rfl fun w0 M0 => ?_
  refine JC_seq ?_
  refine JC_region ?_
  refine JL_pd rfl (det_assign rfl) ?_
  refine JL_nil ?_
  refine JE_seq ?_
  refine JC_seq ?_
  refine JC_seq ?_
  refine JC_region ?_
  refine JL_pd rfl (det_move rfl) ?_
  refine JL_pd rfl (det_len rfl Tryz.runUnderlying31) ?_
  refine JL_pd rfl (det_lss rfl rfl) ?_
  refine JL_nil ?_
  refine JE_seq ?_
  -- stop: cond
  refine JC_if rfl (fun h1 => ?_) (fun h1 => ?_)
  · omega
  refine JC_skip ?_
  refine JE_seq ?_
  refine JC_seq ?_
  refine JC_region ?_
  refine JL_pd rfl (det_move rfl) ?_
  refine JL_dt rfl (det_indexAddr (i := 0) rfl rfl rfl h0 Tryz.runUnderlying31 Tryz.sizeOf3) ?_
  refine JL_dt rfl (det_loadE rfl (by first | assumption | omega | decide) Tryz.isAgg3 rfl rfl) ?_
  refine JL_pd rfl (det_assign rfl) ?_
  refine JL_nil ?_
  refine JE_seq ?_
  refine JC_seq ?_
  refine JC_seq ?_
  refine JC_region ?_
  refine JL_pd rfl (det_assign rfl) ?_
  refine JL_nil ?_
  refine JE_seq ?_
  refine JC_block ?_
  -- stop: loop
  refine JC_loopF (γ := Nat × {v : Int // v ∈ xs}) (fun q => 1 ≤ q.1 ∧ q.1 ≤ xs.length ∧ ∀ y ∈ xs.take q.1, y ≤ q.2.1) (fun q => [(4, I q.1), (3, I q.2.1)]) (fun _ => []) (fun q => xs.length - q.1) (1, ⟨xs[0], List.getElem_mem h0⟩) ⟨Nat.le_refl _, h0, fun y hy => by rw [List.take_succ_eq_append_getElem h0] at hy; simp at hy; simp only [hy]; exact Int.le_refl _⟩ (stsub_consI rfl rfl (stsub_consI rfl rfl stsub_nil)) ht_nil ?_
  rintro ⟨i, v, hv⟩ ⟨hi1, hi, hall⟩ K hK
  dsimp only [List.cons_append, List.nil_append] at hi1 hi hall ⊢
  refine JC_seq ?_
  refine JC_seq ?_
  refine JC_region ?_
  refine JL_pd rfl (det_move rfl) ?_
  refine JL_pd rfl (det_move rfl) ?_
  refine JL_pd rfl (det_len rfl Tryz.runUnderlying31) ?_
  refine JL_pd rfl (det_lss rfl rfl) ?_
  refine JL_nil ?_
  refine JE_seq ?_
  -- stop: cond
  refine JC_if rfl (fun h2 => ?_) (fun h2 => ?_)
  · have hi2 : i < xs.length := by omega
    refine JC_skip ?_
    refine JE_seq ?_
    refine JC_seq ?_
    refine JC_block ?_
    refine JC_region ?_
    refine JL_pd rfl (det_move rfl) ?_
    refine JL_pd rfl (det_move rfl) ?_
    refine JL_pd rfl (det_move rfl) ?_
    refine JL_dt rfl (det_indexAddr rfl rfl (by first | rfl | omega) (by first | assumption | omega | decide) Tryz.runUnderlying31 Tryz.sizeOf3) ?_
    refine JL_dt rfl (det_loadE rfl (by first | assumption | omega | decide) Tryz.isAgg3 rfl rfl) ?_
    refine JL_pd rfl (det_max rfl rfl) ?_
    refine JL_pd rfl (det_assign rfl) ?_
    refine JL_nil ?_
    refine JE_block ?_
    refine JE_seq ?_
    refine JC_region ?_
    refine JL_pd rfl (det_move rfl) ?_
    refine JL_pd rfl (det_add rfl rfl ⟨by omega, by omega⟩) ?_
    refine JL_pd rfl (det_assign rfl) ?_
    refine JL_nil ?_
    -- stop: end
    refine JE_roundF hK (i + 1, ⟨max v xs[i], max_mem hv (List.getElem_mem hi2)⟩) ⟨by simp only; omega, by simp only; omega, fun y hy => ?_⟩ (by simp only; omega) (stsub_consI rfl (by simp only; omega) (stsub_consI rfl rfl stsub_nil)) ht_nil
    simp only at hy ⊢
    rw [List.take_succ_eq_append_getElem hi2, List.mem_append, List.mem_singleton] at hy
    rcases hy with hy | rfl
    · have := hall y hy; omega
    · omega
  · obtain rfl : i = xs.length := by omega
    rw [List.take_length] at hall
    refine JC_exit ?_
    refine JE_seq_exit ?_
    refine JE_then_exit ?_
    refine JE_block_here ?_
    refine JE_seq ?_
    refine JC_seq ?_
    refine JC_region ?_
    refine JL_pd rfl (det_move rfl) ?_
    refine JL_pd rfl (det_assign rfl) ?_
    refine JL_nil ?_
    refine JE_seq ?_
    refine JC_ret ?_
    -- stop: out
    refine JE_out (.inl rfl) ⟨v, hv, hall⟩ (results1 Tryz.results111 (res_tmp rfl)) rfl (List.Perm.refl _) (fun _ _ => trivial)
set_option maxRecDepth 100000 in
theorem minW_j (a : Option Addr) (c : Nat) (xs : List Int) (h0 : 0 < xs.length) (hl : xs.length ≤ 1000) : Cr Tryz.prog 110 [.slice a xs.length c] (KSl a xs.length c encN xs) (fun q : {v : Int // ∀ y ∈ xs, v ≤ y} => I q.1) (fun _ => KTrue) := by
  refine Cx_of Tryz.func110 rfl Tryz.ntmps110 rfl fun w0 M0 => ?_
  refine JC_seq ?_
  refine JC_region ?_
  refine JL_pd rfl (det_assign rfl) ?_
  refine JL_nil ?_
  refine JE_seq ?_
  refine JC_seq ?_
  refine JC_seq ?_
  refine JC_region ?_
  refine JL_pd rfl (det_move rfl) ?_
  refine JL_pd rfl (det_len rfl Tryz.runUnderlying31) ?_
  refine JL_pd rfl (det_lss rfl rfl) ?_
  refine JL_nil ?_
  refine JE_seq ?_
  -- stop: cond
  refine JC_if rfl (fun h1 => ?_) (fun h1 => ?_)
  · omega
  refine JC_skip ?_
  refine JE_seq ?_
  refine JC_seq ?_
  refine JC_region ?_
  refine JL_pd rfl (det_move rfl) ?_
  refine JL_dt rfl (det_indexAddr (i := 0) rfl rfl rfl h0 Tryz.runUnderlying31 Tryz.sizeOf3) ?_
  refine JL_dt rfl (det_loadE rfl (by first | assumption | omega | decide) Tryz.isAgg3 rfl rfl) ?_
  refine JL_pd rfl (det_assign rfl) ?_
  refine JL_nil ?_
  refine JE_seq ?_
  refine JC_seq ?_
  refine JC_seq ?_
  refine JC_region ?_
  refine JL_pd rfl (det_assign rfl) ?_
  refine JL_nil ?_
  refine JE_seq ?_
  refine JC_block ?_
  -- stop: loop
  refine JC_loopF (γ := Nat × Int) (fun q => 1 ≤ q.1 ∧ q.1 ≤ xs.length ∧ ∀ y ∈ xs.take q.1, q.2 ≤ y) (fun q => [(4, I q.1), (3, I q.2)]) (fun _ => []) (fun q => xs.length - q.1) (1, xs[0]) ⟨Nat.le_refl _, h0, fun y hy => by rw [List.take_succ_eq_append_getElem h0] at hy; simp at hy; simp only [hy]; exact Int.le_refl _⟩ (stsub_consI rfl rfl (stsub_consI rfl rfl stsub_nil)) ht_nil ?_
  rintro ⟨i, v⟩ ⟨hi1, hi, hall⟩ K hK
  dsimp only [List.cons_append, List.nil_append] at hi1 hi hall ⊢
  refine JC_seq ?_
  refine JC_seq ?_
  refine JC_region ?_
  refine JL_pd rfl (det_move rfl) ?_
  refine JL_pd rfl (det_move rfl) ?_
  refine JL_pd rfl (det_len rfl Tryz.runUnderlying31) ?_
  refine JL_pd rfl (det_lss rfl rfl) ?_
  refine JL_nil ?_
  refine JE_seq ?_
  -- stop: cond
  refine JC_if rfl (fun h2 => ?_) (fun h2 => ?_)
  · have hi2 : i < xs.length := by omega
    refine JC_skip ?_
    refine JE_seq ?_
    refine JC_seq ?_
    refine JC_block ?_
    refine JC_region ?_
    refine JL_pd rfl (det_move rfl) ?_
    refine JL_pd rfl (det_move rfl) ?_
    refine JL_pd rfl (det_move rfl) ?_
    refine JL_dt rfl (det_indexAddr rfl rfl (by first | rfl | omega) (by first | assumption | omega | decide) Tryz.runUnderlying31 Tryz.sizeOf3) ?_
    refine JL_dt rfl (det_loadE rfl (by first | assumption | omega | decide) Tryz.isAgg3 rfl rfl) ?_
    refine JL_pd rfl (det_min rfl rfl) ?_
    refine JL_pd rfl (det_assign rfl) ?_
    refine JL_nil ?_
    refine JE_block ?_
    refine JE_seq ?_
    refine JC_region ?_
    refine JL_pd rfl (det_move rfl) ?_
    refine JL_pd rfl (det_add rfl rfl ⟨by omega, by omega⟩) ?_
    refine JL_pd rfl (det_assign rfl) ?_
    refine JL_nil ?_
    -- stop: end
    refine JE_roundF hK (i + 1, min v xs[i]) ⟨by simp only; omega, by simp only; omega, fun y hy => ?_⟩ (by simp only; omega) (stsub_consI rfl (by simp only; omega) (stsub_consI rfl rfl stsub_nil)) ht_nil
    simp only at hy ⊢
    rw [List.take_succ_eq_append_getElem hi2, List.mem_append, List.mem_singleton] at hy
    rcases hy with hy | rfl
    · have := hall y hy; omega
    · omega
  · obtain rfl : i = xs.length := by omega
    rw [List.take_length] at hall
    refine JC_exit ?_
    refine JE_seq_exit ?_
    refine JE_then_exit ?_
    refine JE_block_here ?_
    refine JE_seq ?_
    refine JC_seq ?_
    refine JC_region ?_
    refine JL_pd rfl (det_move rfl) ?_
    refine JL_pd rfl (det_assign rfl) ?_
    refine JL_nil ?_
    refine JE_seq ?_
    refine JC_ret ?_
    -- stop: out
    refine JE_out (.inl rfl) ⟨v, hall⟩ (results1 Tryz.results110 (res_tmp rfl)) rfl (List.Perm.refl _) (fun _ _ => trivial)
theorem greatestW_j (a : Option Addr) (c : Nat) (xs : List Int) (h0 : 0 < xs.length) (hl : xs.length ≤ 1000) : Cr Tryz.prog 69 [.slice a xs.length c] (KSl a xs.length c encN xs) (fun q : {v : Int // v ∈ xs ∧ ∀ y ∈ xs, y ≤ v} => I q.1) (fun _ => KTrue) := by
  refine Cx_of Tryz.func69 rfl Tryz.ntmps69 rfl fun w0 M0 => ?_
  refine JC_seq ?_
  refine JC_region ?_
  refine JL_pd rfl (det_assign rfl) ?_
  refine JL_nil ?_
  refine JE_seq ?_
  refine JC_seq ?_
  refine JC_region ?_
  refine JL_pd rfl (det_move rfl) ?_
  refine JL_step rfl rfl rfl (jo_call rfl rfl Tryz.call111 rfl (maxW_j a c xs h0 hl)) fun x4 => ?_
  refine JL_pd rfl (det_assign rfl) ?_
  refine JL_nil ?_
  refine JE_seq ?_
  refine JC_ret ?_
  -- stop: out
  refine JE_out (.inl rfl) x4 (results1 Tryz.results69 (res_tmp rfl)) rfl (List.Perm.refl _) (fun _ _ => trivial)
theorem leastW_j (a : Option Addr) (c : Nat) (xs : List Int) (h0 : 0 < xs.length) (hl : xs.length ≤ 1000) : Cr Tryz.prog 67 [.slice a xs.length c] (KSl a xs.length c encN xs) (fun q : {v : Int // ∀ y ∈ xs, v ≤ y} => I q.1) (fun _ => KTrue) := by
  refine Cx_of Tryz.func67 rfl Tryz.ntmps67 rfl fun w0 M0 => ?_
  refine JC_seq ?_
  refine JC_region ?_
  refine JL_pd rfl (det_assign rfl) ?_
  refine JL_nil ?_
  refine JE_seq ?_
  refine JC_seq ?_
  refine JC_region ?_
  refine JL_pd rfl (det_move rfl) ?_
  refine JL_step rfl rfl rfl (jo_call rfl rfl Tryz.call110 rfl (minW_j a c xs h0 hl)) fun x4 => ?_
  refine JL_pd rfl (det_assign rfl) ?_
  refine JL_nil ?_
  refine JE_seq ?_
  refine JC_ret ?_
  -- stop: out
  refine JE_out (.inl rfl) x4 (results1 Tryz.results67 (res_tmp rfl)) rfl (List.Perm.refl _) (fun _ _ => trivial)
/-- What can be left. -/
def Can (r : Rk) (S : BS) (ball : List Rg) (x : BS) : Prop := ∃ (f : Nat → Int) (bits : Nat) (R : BS), (∀ row (h : row < ball.length), f row ∈ bdL ball[row]) ∧ bits < 2 ^ r.ls.length ∧ IdP r.ls bits ∧ IsFl r.ls S (tchU r S f ball.length) (someC bits) R ∧ x = S &&& ~~~ R
theorem done_can {r : Rk} {S : BS} {ball : List Rg} {o : BS → Option Bool} (h : DoneO r S ball o ball.length 0 0#16) {x : BS} (hx : Can r S ball x) : o x = some true := by
  obtain ⟨f, bits, R, h1, h2, h3, h4, rfl⟩ := hx
  have : ∀ k row, row + k = ball.length → DoneO r S ball o k row (tchU r S f row) → o (S &&& ~~~ R) = some true := by
    intro k
    induction k with
    | zero =>
      intro row hk hd
      obtain rfl : row = ball.length := by omega
      exact hd bits h2 h3 R h4
    | succ k ih =>
      intro row hk hd
      have hr : row < ball.length := by omega
      exact ih (row + 1) (by omega) (hd hr (f row) (h1 row hr))
  exact this ball.length 0 (by omega) h
abbrev LeftQ (r : Rk) (S : BS) (ball : List Rg) := { q : Int × Int // ∀ x, Can r S ball x → q.1 ≤ ((lsP x).length : Int) ∧ ((lsP x).length : Int) ≤ q.2 }
set_option maxRecDepth 100000 in
set_option maxHeartbeats 2000000 in
theorem Left_j (r : Rk) (a : Option Addr) (c : Nat) (V : VR r) (la : Option Addr) (lc : Nat) (l : List Int) (hl : VP r l) (ba : Option Addr) (bc : Nat) (ball : List Rg) (hB : VB r ball) :
    Cr Tryz.prog 23 [vRk r a c, .slice la l.length lc, .slice ba ball.length bc] (KAnd (KRk r a c) (KAnd (KSl la l.length lc encN l) (KSl ba ball.length bc encRg ball)))
      (fun q : LeftQ r (ofL l) ball => .tuple #[.agg #[I q.1.1, I q.1.2], I 0]) (fun _ => KTrue) := by
  obtain ⟨S, hS⟩ : ∃ S, S = ofL l := ⟨_, rfl⟩
  have hth := thrown_j r a c V la lc l hl ba bc ball hB
  rw [← hS] at hth ⊢
  refine Cx_of Tryz.func23 rfl Tryz.ntmps23 rfl fun w0 M0 => ?_
  refine JC_seq ?_
  refine JC_region ?_
  refine JL_step rfl rfl rfl (jo_box rfl rfl) fun b3 => ?_
  refine JL_step rfl rfl rfl (jo_alloc0 Tryz.zeroValue71 rfl) fun b6 => ?_
  refine JL_pd rfl (det_assign rfl) ?_
  refine JL_nil ?_
  refine JE_seq ?_
  refine JC_seq ?_
  refine JC_region ?_
  refine JL_dt rfl (det_loadKA rfl Tryz.isAgg65 Tryz.sizeOf65 rfl rfl) ?_
  refine JL_pd rfl (det_move rfl) ?_
  refine JL_pd rfl (det_move rfl) ?_
  refine JL_step rfl rfl rfl (jo_callv rfl rfl Tryz.call57 rfl (hth)) fun _ => ?_
  refine JL_pd rfl (det_move rfl) ?_
  refine JL_pd rfl (det_extract rfl rfl) ?_
  refine JL_pd rfl (det_extract rfl rfl) ?_
  refine JL_step rfl rfl rfl (jo_alloc0 Tryz.zeroValue136 rfl) fun b8 => ?_
  refine JL_step0 rfl rfl (jo_store rfl rfl rfl (by first | (simp only [splice_norm]; done) | (simp only [splice_norm]; rfl) | rfl) Tryz.sizeOf136 rfl rfl) fun _ => ?_
  refine JL_pd rfl (det_assign rfl) ?_
  refine JL_nil ?_
  refine JE_seq ?_
  refine JC_seq ?_
  refine JC_seq ?_
  refine JC_region ?_
  refine JL_pd rfl (det_move rfl) ?_
  refine JL_pd rfl (det_neq rfl rfl) ?_
  refine JL_nil ?_
  refine JE_seq ?_
  -- stop: cond
  refine JC_ifn rfl (fun h1 => ?_) (fun h1 => ?_)
  · exact absurd rfl h1
  refine JC_skip ?_
  refine JE_seq ?_
  refine JC_seq ?_
  refine JC_region ?_
  refine JL_pd rfl (det_move rfl) ?_
  refine JL_pd rfl (det_len rfl Tryz.runUnderlying31) ?_
  refine JL_pd rfl (det_build rfl (bld_71_0_1 _ _)) ?_
  refine JL_step rfl rfl rfl (jo_alloc0 Tryz.zeroValue71 rfl) fun b10 => ?_
  refine JL_step0 rfl rfl (jo_store rfl rfl rfl (by first | (simp only [splice_norm]; done) | (simp only [splice_norm]; rfl) | rfl) Tryz.sizeOf71 rfl rfl) fun _ => ?_
  refine JL_nil ?_
  refine JE_seq ?_
  refine JC_seq ?_
  refine JC_seq ?_
  refine JC_region ?_
  refine JL_dt rfl (det_loadKA rfl Tryz.isAgg136 Tryz.sizeOf136 rfl rfl) ?_
  refine JL_pd rfl (det_move rfl) ?_
  refine JL_step rfl rfl rfl (jo_call rfl rfl Tryz.call66 rfl (leaves_j r a c S V ba bc ball hB)) fun x28 => ?_
  refine JL_step rfl rfl rfl (jo_rangeM (ek := ekB) (ev := vB) rfl Tryz.underlying152 (fun _ _ => ekB_inj)) fun b29 => ?_
  refine JL_nil ?_
  refine JE_seq ?_
  refine JC_block ?_
  -- stop: loop
  obtain ⟨⟨mo, m⟩, hD⟩ := x28
  obtain ⟨rb, ls, hls⟩ := b29
  dsimp only at hD hls ⊢
  refine JC_loopF (γ := List BS × Int × Int) (fun q => ∀ x, (m x).isSome = true → x ∈ q.1 ∨ (q.2.1 ≤ ((lsP x).length : Int) ∧ ((lsP x).length : Int) ≤ q.2.2)) (fun _ => []) (fun q => [wk mo rb ekB vB m q.1, bx b10 [I q.2.1, I q.2.2]]) (fun q => q.1.length) (ls, (l.length : Int), 0) (fun x hx => .inl ((hls x).2 hx)) stsub_nil (ht_cons (ht_bx rfl ht_nil)) ?_
  rintro ⟨l2, lo, hi⟩ hI K hK
  dsimp only [List.cons_append, List.nil_append] at hI ⊢
  by_cases hne : l2 = []
  · subst hne
    refine JC_seq ?_
    refine JC_region ?_
    refine JL_dt rfl (det_next0 (ek := ekB) (ev := vB) (m := m) (b := mo) (r := rb) rfl) ?_
    refine JL_pd rfl (det_extract rfl rfl) ?_
    refine JL_nil ?_
    refine JE_seq ?_
    refine JC_seq ?_
    -- stop: cond
    refine JC_cond rfl (fun h2 => ?_) (fun h2 => ?_)
    · cases h2
    refine JC_exit ?_
    refine JE_seq_exit ?_
    refine JE_then_exit ?_
    refine JE_block_here ?_
    refine JE_seq ?_
    refine JC_seq ?_
    refine JC_region ?_
    refine JL_dt rfl (det_loadKA rfl Tryz.isAgg71 Tryz.sizeOf71 rfl rfl) ?_
    refine JL_step0 rfl rfl (jo_store rfl rfl rfl (by first | (simp only [splice_norm]; done) | (simp only [splice_norm]; rfl) | rfl) Tryz.sizeOf71 rfl rfl) fun _ => ?_
    refine JL_pd rfl (det_assign rfl) ?_
    refine JL_nil ?_
    refine JE_seq ?_
    refine JC_ret ?_
    -- stop: out
    refine JE_out (.inl rfl) ⟨(lo, hi), fun x hx => (hI x (by rw [done_can hD hx]; rfl)).elim (fun h => by cases h) id⟩ (results2 Tryz.results23 (res_box rfl Tryz.isAgg71 Tryz.sizeOf71 rfl) (res_tmp rfl)) rfl (List.Perm.refl _) (fun _ _ => trivial)
  · skip
    refine JC_seq ?_
    refine JC_region ?_
    refine JL_step rfl rfl rfl (jo_next1 (ek := ekB) (ev := vB) (m := m) (b := mo) (r := rb) rfl hne (fun _ _ => ekB_inj)) fun b30 => ?_
    refine JL_pd rfl (det_extract rfl rfl) ?_
    refine JL_nil ?_
    refine JE_seq ?_
    refine JC_seq ?_
    -- stop: cond
    refine JC_cond rfl (fun h2 => ?_) (fun h2 => ?_)
    · skip
      refine JC_skip ?_
      refine JE_seq ?_
      refine JC_block ?_
      refine JC_seq ?_
      refine JC_region ?_
      refine JL_dt rfl (det_entry (b := mo) (r := rb) (ek := ekB) (ev := vB) (m := m) (ls := l2.filter fun x => decide (x ≠ b30.1.1)) (k := b30.1.1) (v := b30.1.2) rfl) ?_
      refine JL_wkc (k := b30.1.1) (v := b30.1.2) mo rb ekB vB m (l2.filter fun x => decide (x ≠ b30.1.1)) ?_
      refine JL_pd rfl (det_extract rfl rfl) ?_
      refine JL_pd rfl (det_assign rfl) ?_
      refine JL_nil ?_
      refine JE_seq ?_
      refine JC_draw [13] (by kernel_rfl) ?_
      refine JA_pd (i := 0) rfl (by kernel_rfl) rfl rfl (det_fieldAddr rfl fo_71_0) ?_
      refine JA_dt (i := 1) rfl (by kernel_rfl) (by kernel_rfl) rfl rfl (det_loadK rfl Tryz.isAgg3 rfl) ?_
      refine JA_pd (i := 2) rfl (by kernel_rfl) rfl rfl (det_move rfl) ?_
      refine JA_pd (i := 6) rfl (by kernel_rfl) rfl rfl (det_fieldAddr rfl fo_71_1) ?_
      refine JA_dt (i := 7) rfl (by kernel_rfl) (by kernel_rfl) rfl rfl (det_loadK rfl Tryz.isAgg3 rfl) ?_
      refine JA_pd (i := 8) rfl (by kernel_rfl) rfl rfl (det_move rfl) ?_
      refine JA_one (i := 3) (by kernel_rfl) rfl rfl (jo_callv rfl rfl Tryz.call68 rfl (many_j b30.1.1)) (fun _ => ⟨hsub_refl, fun _ h => h⟩) fun _ => ?_
      refine JA_one (i := 4) (by kernel_rfl) rfl rfl (jo_buildSlice rfl (bsl_31_2_0_1 _ _)) (fun _ => ⟨hsub_drop 1 rfl, fun _ h => h⟩) fun b38 => ?_
      refine JA_lit (enc := encN) b38 2 [lo, ((lsP b30.1.1).length : Int)] noFp rfl rfl (by decide) ?_
      refine JA_one (i := 5) (by kernel_rfl) rfl rfl (jo_call rfl rfl Tryz.call67 rfl (leastW_j (some ⟨b38, 0, none⟩) 2 [lo, ((lsP b30.1.1).length : Int)] (by simp) (by simp))) (fun _ => ⟨hsub_drop 0 rfl, fun _ h => h.2⟩) fun x39 => ?_
      refine JA_one (i := 9) (by kernel_rfl) rfl rfl (jo_callv rfl rfl Tryz.call68 rfl (many_j b30.1.1)) (fun _ => ⟨hsub_refl, fun _ h => h⟩) fun _ => ?_
      refine JA_one (i := 10) (by kernel_rfl) rfl rfl (jo_buildSlice rfl (bsl_31_2_0_1 _ _)) (fun _ => ⟨hsub_drop 1 rfl, fun _ h => h⟩) fun b44 => ?_
      refine JA_lit (enc := encN) b44 2 [hi, ((lsP b30.1.1).length : Int)] noFp rfl rfl (by decide) ?_
      refine JA_one (i := 11) (by kernel_rfl) rfl rfl (jo_call rfl rfl Tryz.call69 rfl (greatestW_j (some ⟨b44, 0, none⟩) 2 [hi, ((lsP b30.1.1).length : Int)] (by simp) (by simp))) (fun _ => ⟨hsub_drop 0 rfl, fun _ h => h.2⟩) fun x45 => ?_
      refine JA_pd (i := 12) rfl (by kernel_rfl) rfl rfl (det_build rfl (bld_71_0_1 _ _)) ?_
      refine JA_tail (i := 13) (by kernel_rfl) rfl rfl rfl rfl (jo_store rfl rfl rfl (by first | (simp only [splice_norm]; done) | (simp only [splice_norm]; rfl) | rfl) Tryz.sizeOf71 rfl rfl) fun _ => ?_
      refine JT_done (by kernel_rfl) ?_
      refine JE_block ?_
      -- stop: end
      have e1 := x39.2 lo (by simp)
      have e2 := x39.2 ((lsP b30.1.1).length : Int) (by simp)
      have e3 := x45.2.2 hi (by simp)
      have e4 := x45.2.2 ((lsP b30.1.1).length : Int) (by simp)
      refine JE_roundF hK (l2.filter (fun x => decide (x ≠ b30.1.1)), x39.1, x45.1) (fun x hx => ?_) (filter_lt b30.2.1) stsub_nil (ht_cons (ht_bx rfl ht_nil))
      simp only
      rcases hI x hx with h | h
      · by_cases e : x = b30.1.1
        · subst e
          exact .inr ⟨e2, e4⟩
        · exact .inl (List.mem_filter.2 ⟨h, decide_eq_true e⟩)
      · exact .inr ⟨by omega, by omega⟩
    · cases h2
set_option maxRecDepth 100000 in
set_option maxHeartbeats 2000000 in
theorem CanLeave_j (r : Rk) (a : Option Addr) (c : Nat) (V : VR r) (la : Option Addr) (lc : Nat) (l : List Int) (hl : VP r l) (ba : Option Addr) (bc : Nat) (ball : List Rg) (hB : VB r ball) (va : Option Addr) (vc : Nat) (lv : List Int) (hv : VP r lv) (hC : Can r (ofL l) ball (ofL lv)) :
    Cv Tryz.prog 24 [vRk r a c, .slice la l.length lc, .slice ba ball.length bc, .slice va lv.length vc] (KAnd (KRk r a c) (KAnd (KSl la l.length lc encN l) (KAnd (KSl ba ball.length bc encRg ball) (KSl va lv.length vc encN lv)))) (.bool true) := by
  refine Cr.toCv (α := Unit) (ret := fun _ => .bool true) (post := fun _ _ => True) ?_ fun _ => rfl
  refine Cx_of Tryz.func24 rfl Tryz.ntmps24 rfl fun w0 M0 => ?_
  refine JC_seq ?_
  refine JC_region ?_
  refine JL_step rfl rfl rfl (jo_box rfl rfl) fun b4 => ?_
  refine JL_pd rfl (det_assign rfl) ?_
  refine JL_nil ?_
  refine JE_seq ?_
  refine JC_seq ?_
  refine JC_region ?_
  refine JL_dt rfl (det_loadKA rfl Tryz.isAgg65 Tryz.sizeOf65 rfl rfl) ?_
  refine JL_pd rfl (det_move rfl) ?_
  refine JL_pd rfl (det_move rfl) ?_
  refine JL_step rfl rfl rfl (jo_callv rfl rfl Tryz.call57 rfl (thrown_j r a c V la lc l hl ba bc ball hB)) fun _ => ?_
  refine JL_pd rfl (det_move rfl) ?_
  refine JL_pd rfl (det_extract rfl rfl) ?_
  refine JL_pd rfl (det_extract rfl rfl) ?_
  refine JL_step rfl rfl rfl (jo_alloc0 Tryz.zeroValue136 rfl) fun b9 => ?_
  refine JL_step0 rfl rfl (jo_store rfl rfl rfl (by first | (simp only [splice_norm]; done) | (simp only [splice_norm]; rfl) | rfl) Tryz.sizeOf136 rfl rfl) fun _ => ?_
  refine JL_pd rfl (det_assign rfl) ?_
  refine JL_nil ?_
  refine JE_seq ?_
  refine JC_seq ?_
  refine JC_seq ?_
  refine JC_region ?_
  refine JL_pd rfl (det_move rfl) ?_
  refine JL_pd rfl (det_neq rfl rfl) ?_
  refine JL_nil ?_
  refine JE_seq ?_
  -- stop: cond
  refine JC_ifn rfl (fun h1 => ?_) (fun h1 => ?_)
  · exact absurd rfl h1
  refine JC_skip ?_
  refine JE_seq ?_
  refine JC_seq ?_
  refine JC_region ?_
  refine JL_dt rfl (det_loadKA rfl Tryz.isAgg65 Tryz.sizeOf65 rfl rfl) ?_
  refine JL_pd rfl (det_move rfl) ?_
  refine JL_step rfl rfl rfl (jo_callv rfl rfl Tryz.call70 rfl (pinned_j r a c V va vc lv hv)) fun _ => ?_
  refine JL_pd rfl (det_move rfl) ?_
  refine JL_pd rfl (det_extract rfl rfl) ?_
  refine JL_pd rfl (det_extract rfl rfl) ?_
  refine JL_pd rfl (det_assign rfl) ?_
  refine JL_pd rfl (det_assign rfl) ?_
  refine JL_nil ?_
  refine JE_seq ?_
  refine JC_seq ?_
  refine JC_region ?_
  refine JL_pd rfl (det_move rfl) ?_
  refine JL_pd rfl (det_eql rfl rfl) ?_
  refine JL_pd rfl (det_move rfl) ?_
  -- stop: guard 2
  refine JL_is (d0 := 29) true rfl (by rfl) (fun g2 => ?_)
  refine JL_guard rfl rfl g2 ?_
  refine JL_dt rfl (det_loadKA rfl Tryz.isAgg136 Tryz.sizeOf136 rfl rfl) ?_
  refine JL_guard rfl rfl g2 ?_
  refine JL_pd rfl (det_move rfl) ?_
  refine JL_guard rfl rfl g2 ?_
  refine JL_step rfl rfl rfl (jo_call rfl rfl Tryz.call66 rfl (leaves_j r a c (ofL l) V ba bc ball hB)) fun x32 => ?_
  refine JL_guard rfl rfl g2 ?_
  refine JL_pd rfl (det_move rfl) ?_
  refine JL_guard rfl rfl g2 ?_
  -- stop: op  7 t34 := (lookup 152 t32 t33 false)   <5 6 2>   206
  -- stop: op  7 t34 := (lookup 152 t32 t33 false)   <5 6 2>   206
  obtain ⟨⟨mo, m⟩, hD⟩ := x32
  dsimp only at hD ⊢
  have hm := done_can hD hC
  refine JL_dt rfl (det_lookup1B (ek := ekB) (ofL lv) rfl rfl (goodB Tryz.underlying134) Tryz.underlying152 Tryz.zeroValue4) ?_
  refine JL_pd rfl (det_pick_t rfl g2 rfl) ?_
  refine JL_pd rfl (det_assign rfl) ?_
  refine JL_nil ?_
  refine JE_seq ?_
  refine JC_ret ?_
  -- stop: out
  refine JE_out (.inl rfl) () (results1 Tryz.results24 (res_tmp rfl)) (by rw [hm]; rfl) (List.Perm.refl _) (fun _ _ => trivial)
end Go.Proofs.YthpkgabckklojaaGreat.Rk
