/- Stores, calls, ways in and out, loops. Nothing is asked. -/
import Derived.Test.YtcfhbnfincpehaaJ2
import Derived.Sort.LoopGhostIn
namespace Go.Proofs.Ytcfhbnfincpehaa
open Go.RowKit Go.Shelf

/-- A value put over some cells. -/
def splice : List Value → Nat → List Value → List Value
  | cs, _, [] => cs
  | cs, o, v :: vs => splice (cs.set o v) (o + 1) vs
theorem splice_len : ∀ (vs : List Value) (cs : List Value) (o : Nat), (splice cs o vs).length = cs.length
  | [], _, _ => rfl
  | v :: vs, cs, o => by rw [splice, splice_len vs, List.length_set]

section
variable {X : Ctx} {P : Program} {st : Sto} {H H' : List Chunk} {R R' : World → Prop} {k : Kont} {ops : Array Oper} {rest : List Oper} {Q : Exit → Act → World → Prop}
variable {d : Option Nat} {ty : TypeId} {pos : String} {af : Array Edge} {g : Option (Nat × Bool)}

theorem storeCells_run (b off : Nat) : ∀ (vs : List Value) (i : Nat) (w : World) (cs : List Value), Box w b cs → off + i + vs.length ≤ cs.length → (∀ v ∈ vs, v.oneCell' = true) →
    ∃ w', (storeCells ⟨b, off, none⟩ vs i).run P w = .ok () w' ∧ Box w' b (splice cs (off + i) vs) ∧ Moves (· = b) w w' ∧ w'.heap.size = w.heap.size
  | [], i, w, cs, h, _, _ => ⟨w, rfl, h, Moves.refl _, rfl⟩
  | v :: vs, i, w, cs, h, hl, h1 => by
    simp only [List.length_cons] at hl
    have hc : w.cell? ⟨b, off + i, none⟩ = some cs[off + i] := h.cell _ (List.getElem?_eq_getElem (by omega))
    have hf := h.free (off + i)
    have hs := run_store P w ⟨b, off + i, none⟩ v .plain (h1 v (by simp))
    rw [hc] at hs
    simp only [hf, Bool.false_eq_true, if_false] at hs
    obtain ⟨w', e1, e2, e3, e4⟩ := storeCells_run b off vs (i + 1) (w.setCell ⟨b, off + i, none⟩ v) _ (h.set (off + i) v) (by rw [List.length_set]; omega) (fun u hu => h1 u (by simp [hu]))
    refine ⟨w', ?_, ?_, ?_, ?_⟩
    · rw [storeCells, addr_add]; simp [Sem.run_bind, hs, Result.andThen, e1]
    · rw [splice, Nat.add_assoc]; exact e2
    · exact ((Moves.refl (Bs := (· = b)) w).set (fun _ => rfl)).trans e3 (fun _ _ h => h)
    · rw [e4]; simp [World.setCell]
theorem storeVar_run {w : World} {b : Nat} {cs vs : List Value} (h : Box w b cs) (t off : Nat) (v : Value) (hv : v.cells = vs.toArray) (hS : ∀ w, (sizeOf t).run P w = .ok vs.length w) (hl : off + vs.length ≤ cs.length) (h1 : vs.all (·.oneCell') = true) :
    ∃ w', (storeVar t ⟨b, off, none⟩ v).run P w = .ok () w' ∧ Box w' b (splice cs off vs) ∧ Moves (· = b) w w' ∧ w'.heap.size = w.heap.size := by
  obtain ⟨w', e1, e2⟩ := storeCells_run (P := P) b off vs 0 w cs h hl (fun v hv => List.all_eq_true.1 h1 v hv)
  refine ⟨w', ?_, e2⟩
  unfold storeVar
  simp only [Sem.run_bind, hS, hv, Result.andThen_ok]
  simpa using e1

theorem jo_store {x y : Operand} {t b off : Nat} {cs cs' vs : List Value} {v : Value} (hx : opnd st x = some (.pointer (some ⟨b, off, none⟩))) (hy : opnd st y = some v) (hv : v.cells = vs.toArray) [ha : BoxAt H b cs] (hcs : splice cs off vs = cs') [hu : BoxUpd H b cs' H']
    (hS : ∀ w, (sizeOf t).run P w = .ok vs.length w) (hl : Nat.ble (off + vs.length) cs.length = true) (h1 : vs.all (·.oneCell') = true) :
    JO X P ⟨d, .store t x y, ty, pos, af, g⟩ st H R (fun _ : Unit => undef) (fun _ => H') (fun _ => R) := by
  intro a w M Ds K Q hs hm hK
  subst hcs
  obtain ⟨A, B, cs0, e1, e2⟩ := hu.ex
  subst e1 e2
  have hbx : Box w b cs := (hm.hold _ ha.mem).now
  have hm2 := hm.perm (mid_perm A B _)
  obtain ⟨w', r1, r2, r3, r4⟩ := storeVar_run (P := P) hbx t off v hv hS (Nat.le_of_ble_eq_true hl) h1
  refine ⟨fun f _ => fof_fn _ f, ?_⟩
  rw [semAt_plain _ _ _ (by intro c h; cases h)]
  have hrun : (execOp a.eval ⟨d, .store t x y, ty, pos, af, g⟩).run P w = .ok .skip w' := by
    simp [execOp, hs.eval hx, hs.eval hy, Instr.storeAt, Instr.sureAddr, Sem.run_bind, r1, Result.andThen]
  rw [hrun]
  refine hK () w' M ?_
  have := hm2.swap (C' := [bx b (splice cs off vs)]) (R' := fun _ => True) M (r3.weaken fun i _ hi => ⟨bx b cs0, by simp, hi⟩) (fun _ h => h) (fun _ h => .inl h)
    (fun b hb => by rw [r4]; exact hm.bd b hb) (by intro c hc; simp at hc; subst hc; exact bx_holds r2)
    (by intro c hc b' hb'; simp at hc; subst hc; cases hb'; exact ⟨hm2.own (bx _ cs0) (by simp) _ rfl, .inl ⟨bx _ cs0, by simp, rfl⟩⟩) (by simp) (fun _ _ => trivial)
  exact (this.know fun w h => h.2).perm (mid_perm A B _).symm

/-- What the operands are. -/
def evs (st : Sto) : List Operand → Option (List Value)
  | [] => some []
  | x :: l => match opnd st x with
    | none => none
    | some v => match evs st l with
      | none => none
      | some r => some (v :: r)
theorem StOk.evs {N : Nat} {a : Act} (hs : StOk N st a) : ∀ {l : List Operand} {vs : List Value}, evs st l = some vs → l.map a.eval = vs
  | [], vs, h => by cases h; rfl
  | x :: l, vs, h => by
    simp only [Go.Proofs.Ytcfhbnfincpehaa.evs] at h
    cases hx : opnd st x with
    | none => simp [hx] at h
    | some v =>
      cases hl : Go.Proofs.Ytcfhbnfincpehaa.evs st l with
      | none => simp [hx, hl] at h
      | some r => simp [hx, hl] at h; rw [List.map_cons, hs.eval hx, StOk.evs hs hl, h]

/-- What a call leaves: its result, the pieces that it hands back, what is known then. -/
def CxPost (M : Nat → Prop) (w : World) (Hp : List Chunk) {α : Type} (ret : α → Value) (Hq : α → List Chunk) (post : α → World → Prop) (e : Ending) (w' : World) : Prop :=
  ∃ (x : α) (M' : Nat → Prop), e = .returned (ret x) ∧ Moves (fun b => ∃ c ∈ Hp, c.own b) w w' ∧ (∀ b, M b → M' b) ∧ (∀ b, M' b → M b ∨ w.heap.size ≤ b) ∧ (∀ b, M' b → b < w'.heap.size) ∧
      (∀ c ∈ Hq x, c.holds w' ∧ ∀ b, c.own b → M' b ∧ ((∃ c0 ∈ Hp, c0.own b) ∨ w.heap.size ≤ b)) ∧ ((Hq x).Pairwise fun c d => ∀ b, c.own b → ¬ d.own b) ∧ (∀ w2, Moves M' w' w2 → post x w2)
/-- A function's contract: the pieces it takes, what it must know; its results, the pieces it hands back, what is known then. -/
def Cx (P : Program) (f : FuncId) (args : List Value) (Hp : List Chunk) (pre : World → Prop) {α : Type} (ret : α → Value) (Hq : α → List Chunk) (post : α → World → Prop) : Prop :=
  ∀ (M : Nat → Prop) (w : World), (∀ b, M b → b < w.heap.size) → (∀ c ∈ Hp, c.holds w ∧ ∀ b, c.own b → M b) → (Hp.Pairwise fun c d => ∀ b, c.own b → ¬ d.own b) → (∀ w', Moves M w w' → pre w') →
    Calls P f args.toArray w (CxPost M w Hp ret Hq post)
/-- A contract of a function that makes nothing that is written later. -/
abbrev Cr (P : Program) (f : FuncId) (args : List Value) (pre : World → Prop) {α : Type} (ret : α → Value) (post : α → World → Prop) : Prop := Cx P f args [] pre ret (fun _ => []) post
/-- A contract of a function that only answers. -/
abbrev Cv (P : Program) (f : FuncId) (args : List Value) (pre : World → Prop) (v : Value) : Prop := Cx P f args [] pre (fun _ : Unit => v) (fun _ => []) (fun _ => KTrue)

theorem jo_callx {x : Operand} {l : List Operand} {ts : Array TypeId} {f : FuncId} {F C vs args : List Value} {Hp D : List Chunk} {pre : World → Prop} {α : Type} {ret : α → Value} {Hq : α → List Chunk} {post : α → World → Prop}
    (hx : opnd st x = some (.func (.func f) F.toArray C.toArray)) (hl : evs st l = some vs) (eg : ∀ args w, (callFunc f args).run P w = .ok (.enter f args) w) (hargs : F ++ vs ++ C = args)
    (hc : Cx P f args Hp pre ret Hq post) (hH : H.Perm (Hp ++ D)) [hk : Knows R pre] :
    JO X P ⟨d, .call ⟨.value x, l.toArray, ts⟩, ty, pos, af, g⟩ st H R ret (fun x => Hq x ++ D) (fun x => KAnd (post x) R) := by
  intro a w M Ds K Q hs hm hK
  refine ⟨fun f _ => fof_fn _ f, ?_⟩
  rw [semAt_plain _ _ _ (by intro c h; cases h)]
  have hrun : (execOp a.eval ⟨d, .call ⟨.value x, l.toArray, ts⟩, ty, pos, af, g⟩).run P w = .ok (.enter f args.toArray) w := by
    have hm : l.toArray.map a.eval = vs.toArray := by rw [List.map_toArray, hs.evs hl]
    simp only [execOp, resolve, hs.eval hx, hm, Deferred.ofValue, Sem.run_bind, Sem.run_pure, Result.andThen_ok, invoke]
    rw [eg, ← hargs]; simp
  rw [hrun]
  have hm2 := hm.perm hH
  refine ⟨fof_depth _, fof_calls (Calls.mono (hc M w hm2.bd (fun c hc => ⟨hm2.hold c (List.mem_append.2 (.inl hc)), hm2.own c (List.mem_append.2 (.inl hc))⟩) (List.pairwise_append.1 hm2.dis).1 (fun w' hw => hk.know w' (hm2.keep w' hw))) ?_)⟩
  rintro e w' ⟨y, M', rfl, h1, h2, h3, h4, h5, h6, h7⟩
  exact hK y w' M' (hm2.swap M' h1 h2 h3 h4 (fun c hc => (h5 c hc).1) (fun c hc => (h5 c hc).2) h6 h7)
theorem jo_call {x : Operand} {l : List Operand} {ts : Array TypeId} {f : FuncId} {F C vs args : List Value} {pre : World → Prop} {α : Type} {ret : α → Value} {Hq : α → List Chunk} {post : α → World → Prop}
    (hx : opnd st x = some (.func (.func f) F.toArray C.toArray)) (hl : evs st l = some vs) (eg : ∀ args w, (callFunc f args).run P w = .ok (.enter f args) w) (hargs : F ++ vs ++ C = args)
    (hc : Cx P f args [] pre ret Hq post) [hk : Knows R pre] :
    JO X P ⟨d, .call ⟨.value x, l.toArray, ts⟩, ty, pos, af, g⟩ st H R ret (fun x => Hq x ++ H) (fun x => KAnd (post x) R) :=
  jo_callx hx hl eg hargs hc (List.Perm.refl _)
/-- A call that only answers. -/
theorem jo_callv {x : Operand} {l : List Operand} {ts : Array TypeId} {f : FuncId} {F C vs args : List Value} {pre : World → Prop} {v : Value}
    (hx : opnd st x = some (.func (.func f) F.toArray C.toArray)) (hl : evs st l = some vs) (eg : ∀ args w, (callFunc f args).run P w = .ok (.enter f args) w) (hargs : F ++ vs ++ C = args)
    (hc : Cv P f args pre v) [hk : Knows R pre] :
    JO X P ⟨d, .call ⟨.value x, l.toArray, ts⟩, ty, pos, af, g⟩ st H R (fun _ : Unit => v) (fun _ => H) (fun _ => R) := by
  intro a w M Ds K Q hs hm hK
  exact jo_call hx hl eg hargs hc a w M Ds K Q hs hm fun y w' M' hm' => hK y w' M' (hm'.know fun _ h => h.2)
theorem Cx.mono {f : FuncId} {args : List Value} {Hp : List Chunk} {pre pre' : World → Prop} {α : Type} {ret : α → Value} {Hq : α → List Chunk} {post post' : α → World → Prop}
    (h : Cx P f args Hp pre ret Hq post) (h1 : ∀ w, pre' w → pre w) (h2 : ∀ x w, post x w → post' x w) : Cx P f args Hp pre' ret Hq post' := by
  intro M w a1 a2 a3 a4
  refine Calls.mono (h M w a1 a2 a3 fun w' hw => h1 _ (a4 w' hw)) ?_
  rintro e w' ⟨x, M', b1, b2, b3, b4, b5, b6, b7, b8⟩
  exact ⟨x, M', b1, b2, b3, b4, b5, b6, b7, fun w2 hw => h2 _ _ (b8 w2 hw)⟩

/-! The way in, and out. -/
def mkX (N : Nat) (w0 : World) (Fp M0 : Nat → Prop) : Ctx := ⟨3, none, N, w0, Fp, M0, false⟩
def params : List Value → Nat → Sto
  | [], _ => []
  | v :: l, i => (i, v) :: params l (i + 1)
theorem look_params : ∀ (l : List Value) (i t : Nat) (v : Value), look (params l i) t = some v → i ≤ t ∧ l[t - i]? = some v
  | [], i, t, v, h => by cases h
  | u :: l, i, t, v, h => by
    simp only [params, look] at h
    by_cases e : i = t
    · subst e; simp at h; simp [h]
    · rw [beq_no e] at h
      obtain ⟨h1, h2⟩ := look_params l (i + 1) t v h
      refine ⟨by omega, ?_⟩
      rw [show t - i = (t - (i + 1)) + 1 by omega, List.getElem?_cons_succ]; exact h2
/-- What a result is, behind the marks. -/
def rres (tmps : Array Value) : ResultVar → Sem Value
  | .tmp t => pure (tmps.getD t undef)
  | .cell a t => do loadVar t (← asAddr (tmps.getD a undef))
theorem results_rres (fn : Func) (tmps : Array Value) : results fn tmps = (do let vs ← fn.results.mapM (rres tmps); pure (if h : vs.size = 1 then vs[0] else .tuple vs)) := by
  unfold results
  congr 2
def Res (P : Program) (st : Sto) (H : List Chunk) (rv : ResultVar) (v : Value) : Prop := ∀ (N : Nat) (a : Act) (w : World), StOk N st a → (∀ c ∈ H, c.holds w) → (rres a.tmps rv).run P w = .ok v w
theorem res_tmp {t : Nat} {v : Value} (h : look st t = some v) : Res P st H (.tmp t) v := fun N a w hs _ => by
  show (Sem.pure _).run P w = _
  rw [hs.get t v h]; rfl
theorem res_box {t b n : Nat} {cs : List Value} {T : TypeId} (h : look st t = some (.pointer (some ⟨b, 0, none⟩))) [hb : BoxAt H b cs] (hA : ∀ w, (isAgg T).run P w = .ok true w) (hS : ∀ w, (sizeOf T).run P w = .ok n w) (hn : cs.length = n) : Res P st H (.cell t T) (.agg cs.toArray) := fun N a w hs hH => by
  have hbx : Box w b cs := (hH _ hb.mem).now
  have hr := cells_run (P := P) hbx 0 n cs (by simp [← hn]) hn
  have hg := hs.get t _ h
  simp only [Array.getD_eq_getD_getElem?] at hg
  simp [rres, hg, asAddr, loadVar, Sem.run_bind, hA, hS, Result.andThen, hr]
theorem res_cell1 {t b : Nat} {v : Value} {T : TypeId} (h : look st t = some (.pointer (some ⟨b, 0, none⟩))) [hb : BoxAt H b [v]] (hA : ∀ w, (isAgg T).run P w = .ok false w) : Res P st H (.cell t T) v := fun N a w hs hH => by
  have hbx : Box w b [v] := (hH _ hb.mem).now
  have hg := hs.get t _ h
  simp only [Array.getD_eq_getD_getElem?] at hg
  have := run_load (P := P) (w := w) ⟨b, 0, none⟩ .plain
  simp [rres, hg, asAddr, loadVar, Sem.run_bind, hA, Result.andThen, hbx.cell 0 rfl, this]
/-- All results together. -/
def Results (P : Program) (st : Sto) (H : List Chunk) (fn : Func) (v : Value) : Prop := ∀ (N : Nat) (a : Act) (w : World), StOk N st a → (∀ c ∈ H, c.holds w) → (results fn a.tmps).run P w = .ok v w
theorem results0 {fn : Func} (h : fn.results = #[]) : Results P st H fn (.tuple #[]) := fun N a w hs hH => by simp [results, h]
theorem results1 {fn : Func} {r : ResultVar} {v : Value} (h : fn.results = #[r]) (hr : Res P st H r v) : Results P st H fn v := fun N a w hs hH => by
  have h1 := hr N a w hs hH
  rw [results_rres, h]; simp [Sem.run_bind, Result.andThen, h1]
theorem results2 {fn : Func} {r s : ResultVar} {u v : Value} (h : fn.results = #[r, s]) (hr : Res P st H r u) (hs' : Res P st H s v) : Results P st H fn (.tuple #[u, v]) := fun N a w hs hH => by
  have h1 := hr N a w hs hH
  have h2 := hs' N a w hs hH
  rw [results_rres, h]; simp [Sem.run_bind, Result.andThen, h1, h2]
theorem results3 {fn : Func} {r s t : ResultVar} {u v x : Value} (h : fn.results = #[r, s, t]) (hr : Res P st H r u) (hs' : Res P st H s v) (ht : Res P st H t x) : Results P st H fn (.tuple #[u, v, x]) := fun N a w hs hH => by
  have h1 := hr N a w hs hH
  have h2 := hs' N a w hs hH
  have h3 := ht N a w hs hH
  rw [results_rres, h]; simp [Sem.run_bind, Result.andThen, h1, h2, h3]
end
end Go.Proofs.Ytcfhbnfincpehaa
