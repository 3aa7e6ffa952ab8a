/- Own texts, laid together: X6 X7 X8 X9 X10 Y1 X11 X12. Nothing is asked. -/
import Derived.Test.YtcfhbnfincpehaaB6
import Derived.Laws.OwnMore
import Derived.Test.YtcfhbnfincpehaaB4
set_option linter.unusedSimpArgs false
set_option linter.unusedVariables false
/- Walks of reference and law of path: list, states, Play. -/
namespace Go.Proofs.Ytcfhbnfincpehaa
open Go.RowKit Go.Shelf

section
variable {X : Ctx} {P : Program} {st : Sto} {H H' : List Chunk} {R : World → Prop} {d : Option Nat} {ty : TypeId} {pos : String} {af : Array Edge} {g : Option (Nat × Bool)}
/-- A whole slice that is known, onto a slice of the call's own. -/
theorem jo_appendK {α : Type} {e : α → List Value} {s x : Operand} {t T z n m c : Nat} {v : Value} {xs : List Value} {ys : List α} {ad : Option Addr} [hz : Rec e z] (E : ElemX P t T z) (hs : opnd st s = some v) (hx : opnd st x = some (.slice ad m c)) [ho : OwnAt H v T z n xs H'] [hb : Sees R ad m c α e ys]
    (h1 : ∀ y, (e y).all (·.oneCell') = true) (hn : n + m ≤ 1000000) :
    JO X P ⟨d, .call ⟨.builtin .append, #[s, x], #[t, t]⟩, ty, pos, af, g⟩ st H R (fun p : Value => p) (fun p => ow p T z (n + m) (xs ++ ys.flatMap e) :: H') (fun _ => R) := by
  intro a w M Ds K Q hst hm hK
  obtain ⟨A, B, e1, e2⟩ := ho.ex
  have hsl := hb.see w hm.r
  subst e1 e2
  have hm2 := hm.perm (mid_perm A B _)
  have hown : w.ownsRow 0 T z v n xs := (hm.hold (ow v T z n xs) (by simp)).now
  obtain ⟨bytes, E⟩ := E
  obtain ⟨i, zv, i1, i2, i3, i4, i5⟩ := E.ex
  have hsm := E.small
  obtain ⟨hsl, hmy⟩ := hsl
  have hlen := flatMap_len e z hz.len ys
  have hallone : ∀ u ∈ ys.flatMap e, u.oneCell' = true := fun u hu => by
    obtain ⟨y, _, hy⟩ := List.mem_flatMap.1 hu
    exact List.all_eq_true.1 (h1 y) u hy
  obtain ⟨v', w', r1, r2, r3, r5⟩ : ∃ v' w', (Builtin.append_ #[t, t] ty #[v, .slice ad m c]).run P w = .ok v' w' ∧ w'.ownsRow 0 T z v' (n + m) (xs ++ ys.flatMap e) ∧ w.grownBy w' v.ownBlock ∧ (v'.ownBlock = v.ownBlock ∨ v'.ownBlock = some w.heap.size) := by
    have hcap := hsl.2.1
    have hml := hsl.1
    cases ad with
    | none =>
      obtain ⟨rfl, rfl⟩ := hsl.2.2.1 rfl
      obtain rfl : ys = [] := List.eq_nil_of_length_eq_zero hmy.symm
      exact ⟨v, w, run_append_owned_none (P := P) w 0 t ty T i z E.ht i1 v n xs hown, by simpa using hown, World.grownBy.refl _ _, .inl rfl⟩
    | some ad =>
      obtain ⟨v', w', r1, r2, r3, _, r5⟩ := run_append_own_at (P := P) w 0 t ty T i zv z bytes E.ht i1 i2 i3 i4 i5 E.pos v n xs hown ad m c (ys.flatMap e) (by rw [hlen, hmy])
        (fun j u hu => by
          obtain ⟨b, o, h1, _, hc⟩ := hsl.2.2.2 (fun h => by rw [h] at hu; simp at hu)
          cases h1
          rw [addr_add]; exact hc j u hu) hallone (by have : maxLen = 9223372036854775807 := rfl; omega)
        (by have : (n + m) * bytes ≤ 1000000 * 4096 := Nat.mul_le_mul (by omega) hsm
            omega) (Nat.zero_le _)
      exact ⟨v', w', r1, r2, r3, r5⟩
  refine ⟨fun f _ => fof_fn _ f, ?_⟩
  rw [semAt_plain _ _ _ (by intro c h; cases h)]
  have hrun : (execOp a.eval ⟨d, .call ⟨.builtin .append, #[s, x], #[t, t]⟩, ty, pos, af, g⟩).run P w = .ok (.value v') w' := by
    simp only [execOp, resolve, invoke, builtin, Sem.run_bind, Sem.run_pure, Result.andThen_ok, List.map_toArray, List.map_cons, List.map_nil, hst.eval hs, hst.eval hx, r1]
  rw [hrun]
  refine hK v' w' (fun x => M x ∨ v'.ownBlock = some x) ?_
  have hold := ow_holds r2
  have hmv : Moves (fun x => ∃ c ∈ [ow v T z n xs], c.own x) w w' := ⟨r3.os, r3.tape, r3.output, r3.size, fun k hk hn' => r3.block k hk (fun e => hn' ⟨_, List.mem_singleton.2 rfl, e.symm⟩)⟩
  have := hm2.swap (C' := [ow v' T z (n + m) (xs ++ ys.flatMap e)]) (R' := fun _ => True) (fun x => M x ∨ v'.ownBlock = some x) hmv (fun _ h => .inl h)
    (fun x hx => by
      rcases hx with hx | hx
      · exact .inl hx
      · rcases r5 with r4 | r4
        · exact .inl (hm2.own (ow v T z n xs) (by simp) x (by rw [r4] at hx; exact hx))
        · rw [r4] at hx; cases hx; exact .inr (Nat.le_refl _))
    (fun x hx => by
      rcases hx with hx | hx
      · exact Nat.lt_of_lt_of_le (hm.bd x hx) r3.size
      · exact (World.ownsRow.lt r2 x hx).2)
    (by intro c hc; simp at hc; subst hc; exact hold)
    (by
      intro c hc x hx
      simp at hc; subst hc
      have hx : v'.ownBlock = some x := hx
      refine ⟨.inr hx, ?_⟩
      rcases r5 with r4 | r4
      · exact .inl ⟨ow v T z n xs, by simp, by rw [r4] at hx; exact hx⟩
      · rw [r4] at hx; cases hx; exact .inr (Nat.le_refl _)) (by simp) (fun _ _ => trivial)
  exact this.know fun w h => h.2
/-- A small slice that is built, as one of the call's own that can grow. -/
theorem jo_buildOwn {t T z : TypeId} {n : Nat} {l : List (Nat × Operand)} {vs : List (Nat × Value)} {cs : List Value} (hl : evP st l = some vs)
    (hr : ∀ w, (Instr.buildSlice t n vs.toArray).run P w = .ok (.slice (some ⟨w.heap.size, 0, none⟩) n n) (w.alloc (.cells cs.toArray T))) (hc : cs.length = n * z) (hm : n ≤ maxLen) :
    JO X P ⟨d, .buildSlice t n l.toArray, ty, pos, af, g⟩ st H R (fun b : Nat => .slice (some ⟨b, 0, none⟩) n n) (fun b => ow (.slice (some ⟨b, 0, none⟩) n n) T z n cs :: H) (fun _ => R) :=
  jo_new (.cells cs.toArray T) _ (fun b => ow (.slice (some ⟨b, 0, none⟩) n n) T z n cs) (fun a w hs => by
    have : (l.toArray.map fun (i, x) => (i, a.eval x)) = vs.toArray := by rw [List.map_toArray, hs.evP hl]
    simp only [execOp, this, Sem.run_bind, hr, Result.andThen_ok, Sem.run_pure])
    (fun w => ow_holds ⟨hc, .inr ⟨w.heap.size, n, cs.toArray, rfl, Nat.zero_le _, heap_alloc_new w _, Nat.le_refl _, hm, by simpa using hc, by rw [← hc]; simp⟩⟩)
    (fun b x hx => by
      have : (Value.slice (some (⟨b, 0, none⟩ : Addr)) n n).ownBlock = some x := hx
      simpa [Value.ownBlock] using this.symm) (by intro c h; cases h)
end
theorem KSl_nil {α : Type} {e : α → List Value} (w : World) : KSl none 0 0 e ([] : List α) w := ⟨⟨Nat.le_refl _, by decide, fun _ => ⟨rfl, rfl⟩, fun h => absurd rfl h⟩, rfl⟩
theorem encI_one (y : Int) : (encI y).all (·.oneCell') = true := rfl
theorem lList_j (xs : List Int) (a : Option Addr) (cap : Nat) (hx : xs.length ≤ 1000000) : Cr Try.prog 43 [.slice a xs.length cap] (KSl a xs.length cap encI xs) (fun q : Option Addr × Nat => .slice q.1 xs.length q.2) (fun q => KSl q.1 xs.length q.2 encI xs) := by
  refine Cx_of Try.func43 rfl Try.ntmps43 rfl fun w0 M0 => ?_
  refine JC_seq ?_
  refine JC_region ?_
  refine JL_pd rfl (det_assign rfl) ?_
  refine JL_nil ?_
  refine JE_seq ?_
  refine JC_seq ?_
  refine JC_region ?_
  refine JL_pd rfl (det_move rfl) ?_
  -- stop: op  1 t4 := (call (Call (builtin append) ((slice none 0 0) t3) (75 75)))   <0>   11
  refine JL_nilS 3 1 ?_
  refine JL_step rfl rfl rfl (jo_appendK (e := encI) el_75 rfl rfl encI_one (by simpa using hx)) fun v => ?_
  refine JL_pd rfl (det_assign rfl) ?_
  refine JL_nil ?_
  refine JE_seq ?_
  refine JC_ret ?_
  -- stop: out
  refine JE_slice (enc := encI) (v := v) xs noFp (by simp) (by simp) ?_
  rintro a' cap' h
  subst h
  simp only [Nat.zero_add]
  refine JE_out (.inl rfl) (a', cap') (results1 Try.results43 (res_tmp rfl)) rfl (List.Perm.refl _) (fun w h => h.1)
set_option maxRecDepth 100000 in
theorem lstates_j (xs ys : List St) (a a' : Option Addr) (cap cap' : Nat) (hx : xs.length ≤ 1000000) :
    Cv Try.prog 24 [.slice a xs.length cap, .slice a' ys.length cap'] (KAnd (KSl a xs.length cap encSt xs) (KSl a' ys.length cap' encSt ys)) (.bool (decide (xs = ys))) := by
  refine Cx_of Try.func24 rfl Try.ntmps24 rfl fun w0 M0 => ?_
  refine JC_seq ?_
  refine JC_region ?_
  refine JL_pd rfl (det_assign rfl) ?_
  refine JL_nil ?_
  refine JE_seq ?_
  refine JC_seq ?_
  refine JC_seq ?_
  refine JC_region ?_
  refine JL_pd rfl (det_move rfl) ?_
  refine JL_pd rfl (det_len rfl Try.runUnderlying30) ?_
  refine JL_pd rfl (det_move rfl) ?_
  refine JL_pd rfl (det_len rfl Try.runUnderlying43) ?_
  refine JL_pd rfl (det_neq rfl rfl) ?_
  refine JL_nil ?_
  refine JE_seq ?_
  -- stop: cond
  refine JC_ifn rfl (fun h0 => ?_) (fun h0 => ?_)
  · refine JC_seq ?_
    refine JC_region ?_
    refine JL_pd rfl (det_assign rfl) ?_
    refine JL_nil ?_
    refine JE_seq ?_
    refine JC_ret ?_
    refine JE_seq_ret ?_
    -- stop: out
    refine JE_out (.inl rfl) () (results1 Try.results24 (res_tmp rfl)) (by rw [decide_eq_false]; intro e; apply h0; rw [e]) (List.Perm.refl _) (fun _ _ => trivial)
  · refine JC_skip ?_
    refine JE_seq ?_
    refine JC_seq ?_
    refine JC_seq ?_
    refine JC_region ?_
    refine JL_pd rfl (det_assign rfl) ?_
    refine JL_nil ?_
    refine JE_seq ?_
    refine JC_block ?_
    -- stop: loop
    have h0 : xs.length = ys.length := by omega
    refine JC_loop (γ := Nat) (I := fun i => i ≤ xs.length ∧ xs.take i = ys.take i) (st' := fun i => [(5, I i), (1, .slice a' ys.length cap'), (0, .slice a xs.length cap)]) (H' := fun _ => [])
      (R' := fun _ => KAnd (KSl a xs.length cap encSt xs) (KSl a' ys.length cap' encSt ys)) (μ := fun i => xs.length - i) 0 ⟨by omega, by simp⟩ (stsub_cons rfl (stsub_cons rfl (stsub_cons rfl stsub_nil))) hsub_nil Knows.know ?_
    rintro i ⟨hi, he⟩ K hK
    refine JC_seq ?_
    refine JC_seq ?_
    refine JC_region ?_
    refine JL_pd rfl (det_move rfl) ?_
    refine JL_pd rfl (det_move rfl) ?_
    refine JL_pd rfl (det_len rfl Try.runUnderlying30) ?_
    refine JL_pd rfl (det_lss rfl rfl) ?_
    refine JL_nil ?_
    refine JE_seq ?_
    -- stop: cond
    refine JC_if rfl (fun h1 => ?_) (fun h1 => ?_)
    · have hi2 : i < xs.length := by omega
      have hi3 : i < ys.length := by omega
      refine JC_skip ?_
      refine JE_seq ?_
      refine JC_seq ?_
      refine JC_block ?_
      refine JC_seq ?_
      refine JC_draw [] (by kernel_rfl) ?_
      refine JA_pd (i := 0) rfl (by kernel_rfl) rfl rfl (det_move rfl) ?_
      refine JA_pd (i := 1) rfl (by kernel_rfl) rfl rfl (det_move rfl) ?_
      refine JA_dt (i := 2) rfl (by kernel_rfl) (by kernel_rfl) rfl rfl (det_indexAddr rfl rfl (by first | rfl | omega) (by first | assumption | omega | decide) Try.runUnderlying30 Try.sizeOf39) ?_
      refine JA_dt (i := 3) rfl (by kernel_rfl) (by kernel_rfl) rfl rfl (det_loadEA rfl (by first | assumption | omega | decide) Try.isAgg39 Try.sizeOf39 rfl rfl rfl) ?_
      refine JA_pd (i := 4) rfl (by kernel_rfl) rfl rfl (det_move rfl) ?_
      refine JA_pd (i := 5) rfl (by kernel_rfl) rfl rfl (det_move rfl) ?_
      refine JA_dt (i := 6) rfl (by kernel_rfl) (by kernel_rfl) rfl rfl (det_indexAddr rfl rfl (by first | rfl | omega) (by first | assumption | omega | decide) Try.runUnderlying43 Try.sizeOf27) ?_
      refine JA_dt (i := 7) rfl (by kernel_rfl) (by kernel_rfl) rfl rfl (det_loadEA rfl (by first | assumption | omega | decide) Try.isAgg27 Try.sizeOf27 rfl rfl rfl) ?_
      refine JA_one (i := 8) (by kernel_rfl) rfl rfl (jo_callv rfl rfl Try.call20 rfl (lStart_j ⟨_, _⟩)) (fun _ => ⟨hsub_refl, fun _ h => h⟩) fun _ => ?_
      refine JA_pd (i := 9) rfl (by kernel_rfl) rfl rfl (det_neqA rfl rfl egt_39 (eqa_39 _ _ _ _)) ?_
      refine JA_done (by kernel_rfl) ?_
      refine JE_seq ?_
      -- stop: cond
      refine JC_ifn rfl (fun h2 => ?_) (fun h2 => ?_)
      · refine JC_seq ?_
        refine JC_region ?_
        refine JL_pd rfl (det_assign rfl) ?_
        refine JL_nil ?_
        refine JE_seq ?_
        refine JC_ret ?_
        refine JE_block_ret ?_
        refine JE_seq_ret ?_
        refine JE_then_ret ?_
        refine JE_block_ret ?_
        refine JE_seq_ret ?_
        -- stop: out
        refine JE_out (.inl rfl) () (results1 Try.results24 (res_tmp rfl)) (by rw [decide_eq_false]; intro e; apply h2; subst e; exact ⟨rfl, rfl⟩) (List.Perm.refl _) (fun _ _ => trivial)
      · refine JC_skip ?_
        refine JE_block ?_
        refine JE_seq ?_
        refine JC_region ?_
        refine JL_pd rfl (det_move rfl) ?_
        refine JL_pd rfl (det_add rfl rfl ⟨by omega, by omega⟩) ?_
        refine JL_pd rfl (det_assign rfl) ?_
        refine JL_nil ?_
        -- stop: end
        refine JE_round hK (i + 1) ⟨by omega, ?_⟩ (by omega) (stsub_consI rfl (by omega) (stsub_cons rfl (stsub_cons rfl stsub_nil))) hsub_nil Knows.know
        rw [take_snoc hi2, take_snoc hi3, he, show xs[i] = ys[i] from St.ext'.2 h2]
    · refine JC_exit ?_
      refine JE_seq_exit ?_
      refine JE_then_exit ?_
      refine JE_block_here ?_
      refine JE_seq ?_
      refine JC_seq ?_
      refine JC_region ?_
      refine JL_pd rfl (det_assign rfl) ?_
      refine JL_nil ?_
      refine JE_seq ?_
      refine JC_ret ?_
      -- stop: out
      refine JE_out (.inl rfl) () (results1 Try.results24 (res_tmp rfl)) (by rw [decide_eq_true]; rwa [List.take_of_length_le (by omega), List.take_of_length_le (by omega)] at he) (List.Perm.refl _) (fun _ _ => trivial)
end Go.Proofs.Ytcfhbnfincpehaa

/- Play of path: the plain function, and the reference's walk. -/
namespace Go.Proofs.Ytcfhbnfincpehaa
open Go.RowKit Go.Shelf

/-- What a ball does, from a state on, by turns. -/
def playR (l : La) : List St → St → List Int → List St × Bool × Bool
  | out, _, [] => (out, false, decide ((out.length : Int) = l.rows))
  | out, s, t :: ts => if (out.length : Int) = l.rows then ([], false, false) else if inR t (hookOf l ((out.length : Int) - 1) s.b) = true then (if onL l (nextS s t) = true then playR l (out ++ [nextS s t]) (nextS s t) ts else (out, true, ts.isEmpty)) else ([], false, false)
theorem playR_nil (l : La) (out : List St) (s : St) : playR l out s [] = (out, false, decide ((out.length : Int) = l.rows)) := by unfold playR; rfl
theorem playR_full {l : La} {out : List St} (s : St) (t : Int) (ts : List Int) (h : (out.length : Int) = l.rows) : playR l out s (t :: ts) = ([], false, false) := by
  unfold playR; rw [if_pos h]
theorem playR_bad {l : La} {out : List St} {s : St} {t : Int} (ts : List Int) (h2 : inR t (hookOf l ((out.length : Int) - 1) s.b) = false) : playR l out s (t :: ts) = ([], false, false) := by
  unfold playR; split
  · rfl
  · rw [if_neg (by rw [h2]; decide)]
theorem playR_off {l : La} {out : List St} {s : St} {t : Int} (ts : List Int) (h : ¬ (out.length : Int) = l.rows) (h2 : inR t (hookOf l ((out.length : Int) - 1) s.b) = true) (h3 : onL l (nextS s t) = false) : playR l out s (t :: ts) = (out, true, ts.isEmpty) := by
  conv => lhs; unfold playR
  rw [if_neg h, if_pos h2, if_neg (by rw [h3]; decide)]
theorem playR_on {l : La} {out : List St} {s : St} {t : Int} (ts : List Int) (h : ¬ (out.length : Int) = l.rows) (h2 : inR t (hookOf l ((out.length : Int) - 1) s.b) = true) (h3 : onL l (nextS s t) = true) : playR l out s (t :: ts) = playR l (out ++ [nextS s t]) (nextS s t) ts := by
  conv => lhs; unfold playR
  rw [if_neg h, if_pos h2, if_pos h3]
theorem playR_len (l : La) : ∀ (ts : List Int) (out : List St) (s : St), (playR l out s ts).1.length ≤ out.length + ts.length := by
  intro ts
  induction ts with
  | nil => intro out s; rw [playR_nil]; simp
  | cons t ts ih =>
    intro out s
    conv => lhs; unfold playR
    split
    · simp
    · split
      · split
        · have := ih (out ++ [nextS s t]) (nextS s t)
          simp at this ⊢; omega
        · simp
      · simp
theorem drop_cons {α : Type} {l : List α} {i : Nat} (h : i < l.length) : l.drop i = l[i] :: l.drop (i + 1) := (List.getElem_cons_drop h).symm
theorem notT {b : Bool} (h : (!b) = true) : b = false := by simpa using h
/-- A ball's whole play. -/
def playV (l : La) (s : St) (turns : List Int) : List St × Bool × Bool := playR l [s] s turns

set_option maxRecDepth 100000 in
theorem rPlay_j (l : La) (s : St) (turns : List Int) (ha pa : Option Addr) (hc pc : Nat) (ta : Option Addr) (tc : Nat) (V : Valid l) (h0 : isStart l s = true) (ht : turns.length ≤ 1000000) :
    Cr Try.prog 44 [.agg #[I l.boards, I l.rows, .slice ha l.hooks.length hc, .slice pa l.patches.length pc], .agg #[I s.b, I s.d], .slice ta turns.length tc] (KAnd (KSl ta turns.length tc encI turns) (KLane l ha hc pa pc))
      (fun q : Option Addr × Nat => .tuple #[.slice q.1 (playV l s turns).1.length q.2, .bool (playV l s turns).2.1, .bool (playV l s turns).2.2]) (fun q => KSl q.1 (playV l s turns).1.length q.2 encSt (playV l s turns).1) := by
  have r1 := V.r1
  have r2 := V.r2
  have b2 := V.b2
  have sb : 1 ≤ s.b ∧ s.b ≤ l.boards ∧ -5 ≤ s.d ∧ s.d ≤ 5 := by simpa [isStart] using h0
  refine Cx_of Try.func44 rfl Try.ntmps44 rfl fun w0 M0 => ?_
  refine JC_seq ?_
  refine JC_region ?_
  refine JL_step rfl rfl rfl (jo_box rfl rfl) fun b3 => ?_
  refine JL_step rfl rfl rfl (jo_box rfl rfl) fun b4 => ?_
  refine JL_pd rfl (det_assign rfl) ?_
  refine JL_pd rfl (det_assign rfl) ?_
  refine JL_pd rfl (det_assign rfl) ?_
  refine JL_nil ?_
  refine JE_seq ?_
  refine JC_seq ?_
  refine JC_region ?_
  refine JL_dt rfl (det_loadKA rfl Try.isAgg27 Try.sizeOf27 rfl rfl) ?_
  refine JL_step rfl rfl rfl (jo_buildOwn (z := 2) rfl (bsl_43_1_0 _ _) rfl (by decide)) fun b13 => ?_
  refine JL_pd rfl (det_assign rfl) ?_
  refine JL_nil ?_
  refine JE_seq ?_
  refine JC_seq ?_
  refine JC_seq ?_
  refine JC_region ?_
  refine JL_pd rfl (det_assign rfl) ?_
  refine JL_nil ?_
  refine JE_seq ?_
  refine JC_block ?_
  -- stop: loop
  refine JC_loop (γ := Nat × List St × St × Nat × Nat) (I := fun q => q.1 ≤ turns.length ∧ playR l q.2.1 q.2.2.1 (turns.drop q.1) = playV l s turns ∧ 1 ≤ q.2.1.length ∧ (q.2.1.length : Int) ≤ l.rows ∧ (1 ≤ q.2.2.1.b ∧ q.2.2.1.b ≤ l.boards) ∧ -5 ≤ q.2.2.1.d ∧ q.2.2.1.d ≤ 5)
    (st' := fun q => [(10, I q.1), (9, .slice (some ⟨q.2.2.2.1, 0, none⟩) q.2.1.length q.2.2.2.2), (4, pt b4), (3, pt b3), (2, .slice ta turns.length tc)]) (H' := fun q => [ow (.slice (some ⟨q.2.2.2.1, 0, none⟩) q.2.1.length q.2.2.2.2) 27 2 q.2.1.length (q.2.1.flatMap encSt), bx b4 [I q.2.2.1.b, I q.2.2.1.d], bx b3 [I l.boards, I l.rows, .slice ha l.hooks.length hc, .slice pa l.patches.length pc]])
    (R' := fun _ => KAnd (KSl ta turns.length tc encI turns) (KLane l ha hc pa pc)) (μ := fun q => turns.length - q.1) (0, [s], s, b13, 1) ⟨by omega, rfl, by simp, by simpa using r1, ⟨sb.1, sb.2.1⟩, sb.2.2⟩
    (stsub_cons rfl (stsub_cons rfl (stsub_cons rfl (stsub_cons rfl (stsub_cons rfl stsub_nil))))) (show HSub _ [ow (.slice (some ⟨b13, 0, none⟩) 1 1) 27 2 1 [I s.b, I s.d], bx b4 _, bx b3 _] from (hsub_cons (hsub_cons (hsub_cons hsub_nil)))) Knows.know ?_
  rintro ⟨i, out, s', vb, vc⟩ ⟨hi, hp, hl1, hl2, hsb, hsd⟩ K hK
  dsimp only at hi hp hl1 hl2 hsb hsd ⊢
  refine JC_seq ?_
  refine JC_seq ?_
  refine JC_region ?_
  refine JL_pd rfl (det_move rfl) ?_
  refine JL_pd rfl (det_move rfl) ?_
  refine JL_pd rfl (det_len rfl Try.runUnderlying75) ?_
  refine JL_pd rfl (det_lss rfl rfl) ?_
  refine JL_nil ?_
  refine JE_seq ?_
  -- stop: cond
  refine JC_if rfl (fun h1 => ?_) (fun h1 => ?_)
  · have hi2 : i < turns.length := by omega
    rw [drop_cons hi2] at hp
    refine JC_skip ?_
    refine JE_seq ?_
    refine JC_seq ?_
    refine JC_block ?_
    refine JC_seq ?_
    refine JC_seq ?_
    refine JC_region ?_
    refine JL_pd rfl (det_move rfl) ?_
    refine JL_pd rfl (det_len rfl Try.runUnderlying43) ?_
    refine JL_pd rfl (det_fieldAddr rfl fo_25_1) ?_
    refine JL_dt rfl (det_loadK rfl Try.isAgg3 rfl) ?_
    refine JL_pd rfl (det_eql rfl rfl) ?_
    refine JL_nil ?_
    refine JE_seq ?_
    -- stop: cond
    refine JC_if rfl (fun h2 => ?_) (fun h2 => ?_)
    · have hr := playR_full s' turns[i] (turns.drop (i + 1)) h2
      rw [hp] at hr
      refine JC_seq ?_
      refine JC_region ?_
      refine JL_pd rfl (det_assign rfl) ?_
      refine JL_pd rfl (det_assign rfl) ?_
      refine JL_pd rfl (det_assign rfl) ?_
      refine JL_nil ?_
      refine JE_seq ?_
      refine JC_ret ?_
      refine JE_seq_ret ?_
      refine JE_block_ret ?_
      refine JE_seq_ret ?_
      refine JE_then_ret ?_
      refine JE_block_ret ?_
      refine JE_seq_ret ?_
      -- stop: out
      refine JE_out (.inl rfl) (none, 0) (results3 Try.results44 (res_tmp rfl) (res_tmp rfl) (res_tmp rfl)) (by rw [hr]; rfl) (List.Perm.refl _) (fun w _ => by rw [hr]; exact KSl_nil w)
    · refine JC_skip ?_
      refine JE_seq ?_
      refine JC_seq ?_
      refine JC_region ?_
      refine JL_dt rfl (det_loadKA rfl Try.isAgg25 Try.sizeOf25 rfl rfl) ?_
      refine JL_pd rfl (det_move rfl) ?_
      refine JL_pd rfl (det_len rfl Try.runUnderlying43) ?_
      refine JL_pd rfl (det_sub rfl rfl ⟨by omega, by omega⟩) ?_
      refine JL_pd rfl (det_fieldAddr rfl fo_27_0) ?_
      refine JL_dt rfl (det_loadK rfl Try.isAgg3 rfl) ?_
      -- stop: op  6 t31 := (call (Call (value f37) (t25 t28 t30) (25 3 3)))   <0 3 5>   82
      refine JL_step rfl rfl rfl (jo_callv rfl rfl Try.call37 rfl (rHook_j l (out.length - 1) s'.b ha pa hc pc V)) fun _ => ?_
      refine JL_step rfl rfl rfl (jo_alloc0 Try.zeroValue53 rfl) fun b11 => ?_
      refine JL_step0 rfl rfl (jo_store rfl rfl rfl (by first | (simp only [splice_norm]; done) | (simp only [splice_norm]; rfl) | rfl) Try.sizeOf53 rfl rfl) fun _ => ?_
      refine JL_nil ?_
      refine JE_seq ?_
      refine JC_seq ?_
      refine JC_seq ?_
      refine JC_draw [] (by kernel_rfl) ?_
      refine JA_pd (i := 0) rfl (by kernel_rfl) rfl rfl (det_move rfl) ?_
      refine JA_pd (i := 1) rfl (by kernel_rfl) rfl rfl (det_move rfl) ?_
      refine JA_dt (i := 2) rfl (by kernel_rfl) (by kernel_rfl) rfl rfl (det_indexAddr rfl rfl (by first | rfl | omega) (by first | assumption | omega | decide) Try.runUnderlying75 Try.sizeOf3) ?_
      refine JA_dt (i := 3) rfl (by kernel_rfl) (by kernel_rfl) rfl rfl (det_loadE rfl (by first | assumption | omega | decide) Try.isAgg3 rfl rfl) ?_
      refine JA_pd (i := 4) rfl (by kernel_rfl) rfl rfl (det_fieldAddr rfl fo_53_0) ?_
      refine JA_dt (i := 5) rfl (by kernel_rfl) (by kernel_rfl) rfl rfl (det_loadK rfl Try.isAgg3 rfl) ?_
      refine JA_pd (i := 6) rfl (by kernel_rfl) rfl rfl (det_fieldAddr rfl fo_53_1) ?_
      refine JA_dt (i := 7) rfl (by kernel_rfl) (by kernel_rfl) rfl rfl (det_loadK rfl Try.isAgg3 rfl) ?_
      -- stop: op  8 t40 := (call (Call (value f22) (t35 t37 t39) (3 3 3)))   <3 5 7>   83
      refine JA_one (i := 8) (by kernel_rfl) rfl rfl (jo_callv rfl rfl Try.call22 rfl (rIn_j turns[i] (hookOf l (out.length - 1) s'.b).lo (hookOf l (out.length - 1) s'.b).hi)) (fun _ => ⟨hsub_refl, fun _ h => h⟩) fun _ => ?_
      refine JA_pd (i := 9) rfl (by kernel_rfl) rfl rfl (det_not rfl) ?_
      refine JA_done (by kernel_rfl) ?_
      refine JE_seq ?_
      -- stop: cond
      refine JC_cond rfl (fun h3 => ?_) (fun h3 => ?_)
      · have hr := playR_bad (out := out) (turns.drop (i + 1)) (notT (b := inR turns[i] (hookOf l ((out.length : Int) - 1) s'.b)) h3)
        rw [hp] at hr
        refine JC_seq ?_
        refine JC_region ?_
        refine JL_pd rfl (det_assign rfl) ?_
        refine JL_pd rfl (det_assign rfl) ?_
        refine JL_pd rfl (det_assign rfl) ?_
        refine JL_nil ?_
        refine JE_seq ?_
        refine JC_ret ?_
        refine JE_seq_ret ?_
        refine JE_block_ret ?_
        refine JE_seq_ret ?_
        refine JE_then_ret ?_
        refine JE_block_ret ?_
        refine JE_seq_ret ?_
        -- stop: out
        refine JE_out (.inl rfl) (none, 0) (results3 Try.results44 (res_tmp rfl) (res_tmp rfl) (res_tmp rfl)) (by rw [hr]; rfl) (List.Perm.refl _) (fun w _ => by rw [hr]; exact KSl_nil w)
      · have hin : inR turns[i] (hookOf l ((out.length : Int) - 1) s'.b) = true := by simpa [inR] using h3
        have hh := hookOf_bd V ((out.length : Int) - 1) s'.b
        have hin2 : (hookOf l ((out.length : Int) - 1) s'.b).lo ≤ turns[i] ∧ turns[i] ≤ (hookOf l ((out.length : Int) - 1) s'.b).hi := by simpa [inR] using hin
        refine JC_skip ?_
        refine JE_seq ?_
        refine JC_seq ?_
        refine JC_draw [6] (by kernel_rfl) ?_
        refine JA_dt (i := 0) rfl (by kernel_rfl) (by kernel_rfl) rfl rfl (det_loadKA rfl Try.isAgg27 Try.sizeOf27 rfl rfl) ?_
        refine JA_pd (i := 1) rfl (by kernel_rfl) rfl rfl (det_move rfl) ?_
        refine JA_pd (i := 2) rfl (by kernel_rfl) rfl rfl (det_move rfl) ?_
        refine JA_dt (i := 3) rfl (by kernel_rfl) (by kernel_rfl) rfl rfl (det_indexAddr rfl rfl (by first | rfl | omega) (by first | assumption | omega | decide) Try.runUnderlying75 Try.sizeOf3) ?_
        refine JA_dt (i := 4) rfl (by kernel_rfl) (by kernel_rfl) rfl rfl (det_loadE rfl (by first | assumption | omega | decide) Try.isAgg3 rfl rfl) ?_
        -- stop: op  5 t47 := (call (Call (value f38) (t42 t46) (27 3)))   <0 4>   86
        refine JA_one (i := 5) (by kernel_rfl) rfl rfl (jo_callv rfl rfl Try.call38 rfl (rNext_j s' turns[i] hsd.1 hsd.2 (by omega) (by omega) (by omega) (by omega))) (fun _ => ⟨hsub_refl, fun _ h => h⟩) fun _ => ?_
        refine JA_tail (i := 6) (by kernel_rfl) rfl rfl rfl rfl (jo_store rfl rfl rfl (by first | (simp only [splice_norm]; done) | (simp only [splice_norm]; rfl) | rfl) Try.sizeOf27 rfl rfl) fun _ => ?_
        refine JT_done (by kernel_rfl) ?_
        refine JE_seq ?_
        refine JC_seq ?_
        refine JC_seq ?_
        refine JC_region ?_
        refine JL_pd rfl (det_fieldAddr rfl fo_27_0) ?_
        refine JL_dt rfl (det_loadK rfl Try.isAgg3 rfl) ?_
        refine JL_pd rfl (det_fieldAddr rfl fo_25_0) ?_
        refine JL_dt rfl (det_loadK rfl Try.isAgg3 rfl) ?_
        -- stop: op  4 t52 := (call (Call (value f22) (t49 1 t51) (3 3 3)))   <1 3>   87
        refine JL_step rfl rfl rfl (jo_callv rfl rfl Try.call22 rfl (rIn_j (nextS s' turns[i]).b 1 l.boards)) fun _ => ?_
        refine JL_pd rfl (det_not rfl) ?_
        refine JL_nil ?_
        refine JE_seq ?_
        -- stop: cond
        refine JC_cond rfl (fun h4 => ?_) (fun h4 => ?_)
        · have hoff : onL l (nextS s' turns[i]) = false := notT (b := onL l (nextS s' turns[i])) h4
          have e2 : decide ((i : Int) = (turns.length : Int) - 1) = (turns.drop (i + 1)).isEmpty := by rw [Bool.eq_iff_iff]; simp; omega
          have hr := playR_off (turns.drop (i + 1)) h2 hin hoff
          rw [hp] at hr
          refine JC_seq ?_
          refine JC_region ?_
          refine JL_pd rfl (det_move rfl) ?_
          refine JL_pd rfl (det_move rfl) ?_
          refine JL_pd rfl (det_move rfl) ?_
          refine JL_pd rfl (det_len rfl Try.runUnderlying75) ?_
          refine JL_pd rfl (det_sub rfl rfl ⟨by omega, by omega⟩) ?_
          refine JL_pd rfl (det_eql rfl rfl) ?_
          refine JL_pd rfl (det_assign rfl) ?_
          refine JL_pd rfl (det_assign rfl) ?_
          refine JL_pd rfl (det_assign rfl) ?_
          refine JL_nil ?_
          refine JE_seq ?_
          refine JC_ret ?_
          refine JE_seq_ret ?_
          refine JE_block_ret ?_
          refine JE_seq_ret ?_
          refine JE_then_ret ?_
          refine JE_block_ret ?_
          refine JE_seq_ret ?_
          -- stop: out
          refine JE_slice (enc := encSt) (v := .slice (some ⟨vb, 0, none⟩) out.length vc) out noFp rfl rfl ?_
          rintro a cap h
          cases h
          refine JE_out (.inl rfl) (some ⟨vb, 0, none⟩, vc) (results3 Try.results44 (res_tmp rfl) (res_tmp rfl) (res_tmp rfl)) (by rw [hr, ← e2]) (List.Perm.refl _) (fun w h => by rw [hr]; exact h.1)
        · have hon : onL l (nextS s' turns[i]) = true := by simpa [onL] using h4
          have hr := playR_on (turns.drop (i + 1)) h2 hin hon
          rw [hp] at hr
          have hon2 : 1 ≤ (nextS s' turns[i]).b ∧ (nextS s' turns[i]).b ≤ l.boards := by simpa [onL] using hon
          refine JC_skip ?_
          refine JE_seq ?_
          refine JC_region ?_
          refine JL_pd rfl (det_move rfl) ?_
          refine JL_dt rfl (det_loadKA rfl Try.isAgg27 Try.sizeOf27 rfl rfl) ?_
          refine JL_step rfl rfl rfl (jo_buildSlice rfl (bsl_43_1_0 _ _)) fun b62 => ?_
          refine JL_step rfl rfl rfl (jo_append el_43 rfl rfl rfl rfl (by omega)) fun b63 => ?_
          refine JL_pd rfl (det_assign rfl) ?_
          refine JL_nil ?_
          refine JE_block ?_
          refine JE_seq ?_
          refine JC_region ?_
          refine JL_pd rfl (det_move rfl) ?_
          refine JL_pd rfl (det_add rfl rfl ⟨by omega, by omega⟩) ?_
          refine JL_pd rfl (det_assign rfl) ?_
          refine JL_nil ?_
          -- stop: end
          refine JE_round hK (i + 1, out ++ [nextS s' turns[i]], nextS s' turns[i], b63.1, b63.2) ⟨by omega, hr.symm, by simp, by simp; omega, hon2, nextS_d _ _⟩ (by simp only; omega) ?_ ?_ Knows.know
          · simp only [List.length_append, List.length_singleton]
            exact stsub_consI rfl (by omega) (stsub_cons rfl (stsub_cons rfl (stsub_cons rfl (stsub_cons rfl stsub_nil))))
          · simp only [List.length_append, List.length_singleton]
            exact hsub_ow rfl (by simp [encSt]) (hsub_cons (hsub_cons hsub_nil))
  · have hr : playV l s turns = (out, false, decide ((out.length : Int) = l.rows)) := by
      rw [← hp, List.drop_eq_nil_of_le (by omega), playR_nil]
    refine JC_slice (enc := encSt) (v := .slice (some ⟨vb, 0, none⟩) out.length vc) out noFp rfl rfl ?_
    rintro a cap h
    cases h
    refine JC_exit ?_
    refine JE_seq_exit ?_
    refine JE_then_exit ?_
    refine JE_block_here ?_
    refine JE_seq ?_
    refine JC_seq ?_
    refine JC_draw [] (by kernel_rfl) ?_
    refine JA_pd (i := 0) rfl (by kernel_rfl) rfl rfl (det_move rfl) ?_
    refine JA_pd (i := 1) rfl (by kernel_rfl) rfl rfl (det_move rfl) ?_
    refine JA_pd (i := 2) rfl (by kernel_rfl) rfl rfl (det_len rfl Try.runUnderlying43) ?_
    refine JA_pd (i := 3) rfl (by kernel_rfl) rfl rfl (det_fieldAddr rfl fo_25_1) ?_
    refine JA_dt (i := 4) rfl (by kernel_rfl) (by kernel_rfl) rfl rfl (det_loadK rfl Try.isAgg3 rfl) ?_
    refine JA_pd (i := 5) rfl (by kernel_rfl) rfl rfl (det_eql rfl rfl) ?_
    refine JA_pd (i := 6) rfl (by kernel_rfl) rfl rfl (det_assign rfl) ?_
    refine JA_pd (i := 7) rfl (by kernel_rfl) rfl rfl (det_assign rfl) ?_
    refine JA_pd (i := 8) rfl (by kernel_rfl) rfl rfl (det_assign rfl) ?_
    refine JA_done (by kernel_rfl) ?_
    refine JE_seq ?_
    refine JC_ret ?_
    -- stop: out
    refine JE_out (.inl rfl) (some ⟨vb, 0, none⟩, vc) (results3 Try.results44 (res_tmp rfl) (res_tmp rfl) (res_tmp rfl)) (by rw [hr]) (List.Perm.refl _) (fun w h => by rw [hr]; exact h.1)
end Go.Proofs.Ytcfhbnfincpehaa

/- The walk of path: Play. -/
namespace Go.Proofs.Ytcfhbnfincpehaa
open Go.RowKit Go.Shelf

theorem Play_je (l : La) (s : St) (turns : List Int) (ha pa : Option Addr) (hc pc : Nat) (ta : Option Addr) (tc : Nat) (he : startErr l s ≠ 0) : Cv Try.prog 42 [.agg #[I l.boards, I l.rows, .slice ha l.hooks.length hc, .slice pa l.patches.length pc], .agg #[I s.b, I s.d], .slice ta turns.length tc] (KAnd (KSl ta turns.length tc encI turns) (KLane l ha hc pa pc)) (.tuple #[.slice none 0 0, .bool false, I (startErr l s)]) := by
  refine Cx_of Try.func42 rfl Try.ntmps42 rfl fun w0 M0 => ?_
  refine JC_seq ?_
  refine JC_region ?_
  refine JL_step rfl rfl rfl (jo_box rfl rfl) fun b3 => ?_
  refine JL_step rfl rfl rfl (jo_box rfl rfl) fun b4 => ?_
  refine JL_pd rfl (det_assign rfl) ?_
  refine JL_pd rfl (det_assign rfl) ?_
  refine JL_pd rfl (det_assign rfl) ?_
  refine JL_nil ?_
  refine JE_seq ?_
  refine JC_seq ?_
  refine JC_region ?_
  refine JL_dt rfl (det_loadKA rfl Try.isAgg37 Try.sizeOf37 rfl rfl) ?_
  refine JL_dt rfl (det_loadKA rfl Try.isAgg39 Try.sizeOf39 rfl rfl) ?_
  -- stop: op  2 t16 := (call (Call (value f56) (t14 t15) (37 39)))   <0 1>   137
  refine JL_step rfl rfl rfl (jo_callv rfl rfl Try.call56 rfl (started_je l s ha pa hc pc he)) fun _ => ?_
  refine JL_pd rfl (det_move rfl) ?_
  refine JL_pd rfl (det_extract rfl rfl) ?_
  refine JL_pd rfl (det_extract rfl rfl) ?_
  refine JL_step rfl rfl rfl (jo_alloc0 Try.zeroValue107 rfl) fun b9 => ?_
  refine JL_step0 rfl rfl (jo_store rfl rfl rfl (by first | (simp only [splice_norm]; done) | (simp only [splice_norm]; rfl) | rfl) Try.sizeOf107 rfl rfl) fun _ => ?_
  refine JL_pd rfl (det_assign rfl) ?_
  refine JL_nil ?_
  refine JE_seq ?_
  refine JC_seq ?_
  refine JC_seq ?_
  refine JC_region ?_
  refine JL_pd rfl (det_move rfl) ?_
  refine JL_pd rfl (det_neq rfl rfl) ?_
  refine JL_nil ?_
  refine JE_seq ?_
  -- stop: cond
  refine JC_ifn rfl (fun h1 => ?_) (fun h1 => ?_)
  · refine JC_seq ?_
    refine JC_region ?_
    refine JL_pd rfl (det_move rfl) ?_
    refine JL_pd rfl (det_assign rfl) ?_
    refine JL_pd rfl (det_assign rfl) ?_
    refine JL_pd rfl (det_assign rfl) ?_
    refine JL_nil ?_
    refine JE_seq ?_
    refine JC_ret ?_
    refine JE_seq_ret ?_
    -- stop: out
    refine JE_out (.inl rfl) () (results3 Try.results42 (res_tmp rfl) (res_tmp rfl) (res_tmp rfl)) rfl (List.Perm.refl _) (fun _ _ => trivial)
  · refine JC_skip ?_
    refine JE_seq ?_
    refine JC_seq ?_
    refine JC_region ?_
    refine JL_dt rfl (det_loadKA rfl Try.isAgg39 Try.sizeOf39 rfl rfl) ?_
    refine JL_step rfl rfl rfl (jo_alloc0 Try.zeroValue39 rfl) fun b10 => ?_
    refine JL_step0 rfl rfl (jo_store rfl rfl rfl (by first | (simp only [splice_norm]; done) | (simp only [splice_norm]; rfl) | rfl) Try.sizeOf39 rfl rfl) fun _ => ?_
    refine JL_nil ?_
    refine JE_seq ?_
    refine JC_seq ?_
    refine JC_seq ?_
    refine JC_region ?_
    refine JL_pd rfl (det_move rfl) ?_
    refine JL_pd rfl (det_len rfl Try.runUnderlying75) ?_
    refine JL_pd rfl (det_move rfl) ?_
    refine JL_nil ?_
    refine JE_seq ?_
    refine JC_block ?_
    -- stop: loop
    exact absurd h1 he
/-- What Play answers at a start. -/
def playRet (l : La) (s : St) (turns : List Int) (q : Option Addr × Nat) : Value :=
  if (playV l s turns).2.2 = true then .tuple #[.slice q.1 (playV l s turns).1.length q.2, .bool (playV l s turns).2.1, I 0] else .tuple #[.slice none 0 0, .bool false, I 2]
def playPost (l : La) (s : St) (turns : List Int) (q : Option Addr × Nat) : World → Prop := fun w => (playV l s turns).2.2 = true → KSl q.1 (playV l s turns).1.length q.2 encSt (playV l s turns).1 w
set_option maxRecDepth 100000 in
theorem Play_jo (l : La) (s : St) (turns : List Int) (ha pa : Option Addr) (hc pc : Nat) (ta : Option Addr) (tc : Nat) (he : startErr l s = 0) (ht : turns.length ≤ 1000000) : Cr Try.prog 42 [.agg #[I l.boards, I l.rows, .slice ha l.hooks.length hc, .slice pa l.patches.length pc], .agg #[I s.b, I s.d], .slice ta turns.length tc] (KAnd (KSl ta turns.length tc encI turns) (KLane l ha hc pa pc))
    (playRet l s turns) (playPost l s turns) := by
  obtain ⟨V, h0⟩ := valid_start he
  have r1 := V.r1
  have r2 := V.r2
  have b2 := V.b2
  have sb : 1 ≤ s.b ∧ s.b ≤ l.boards ∧ -5 ≤ s.d ∧ s.d ≤ 5 := by simpa [isStart] using h0
  refine Cx_of Try.func42 rfl Try.ntmps42 rfl fun w0 M0 => ?_
  refine JC_seq ?_
  refine JC_region ?_
  refine JL_step rfl rfl rfl (jo_box rfl rfl) fun b3 => ?_
  refine JL_step rfl rfl rfl (jo_box rfl rfl) fun b4 => ?_
  refine JL_pd rfl (det_assign rfl) ?_
  refine JL_pd rfl (det_assign rfl) ?_
  refine JL_pd rfl (det_assign rfl) ?_
  refine JL_nil ?_
  refine JE_seq ?_
  refine JC_seq ?_
  refine JC_region ?_
  refine JL_dt rfl (det_loadKA rfl Try.isAgg37 Try.sizeOf37 rfl rfl) ?_
  refine JL_dt rfl (det_loadKA rfl Try.isAgg39 Try.sizeOf39 rfl rfl) ?_
  -- stop: op  2 t16 := (call (Call (value f56) (t14 t15) (37 39)))   <0 1>   137
  refine JL_step rfl rfl rfl (jo_call rfl rfl Try.call56 rfl (started_jo l s ha pa hc pc he)) fun gb => ?_
  refine JL_pd rfl (det_move rfl) ?_
  refine JL_pd rfl (det_extract rfl rfl) ?_
  refine JL_pd rfl (det_extract rfl rfl) ?_
  refine JL_step rfl rfl rfl (jo_alloc0 Try.zeroValue107 rfl) fun b9 => ?_
  refine JL_step0 rfl rfl (jo_store rfl rfl rfl (by first | (simp only [splice_norm]; done) | (simp only [splice_norm]; rfl) | rfl) Try.sizeOf107 rfl rfl) fun _ => ?_
  refine JL_pd rfl (det_assign rfl) ?_
  refine JL_nil ?_
  refine JE_seq ?_
  refine JC_seq ?_
  refine JC_seq ?_
  refine JC_region ?_
  refine JL_pd rfl (det_move rfl) ?_
  refine JL_pd rfl (det_neq rfl rfl) ?_
  refine JL_nil ?_
  refine JE_seq ?_
  -- stop: cond
  refine JC_ifn rfl (fun h1 => ?_) (fun h1 => ?_)
  · refine JC_seq ?_
    refine JC_region ?_
    refine JL_pd rfl (det_move rfl) ?_
    refine JL_pd rfl (det_assign rfl) ?_
    refine JL_pd rfl (det_assign rfl) ?_
    refine JL_pd rfl (det_assign rfl) ?_
    refine JL_nil ?_
    refine JE_seq ?_
    refine JC_ret ?_
    refine JE_seq_ret ?_
    -- stop: out
    exact absurd rfl h1
  · refine JC_skip ?_
    refine JE_seq ?_
    refine JC_seq ?_
    refine JC_region ?_
    refine JL_dt rfl (det_loadKA rfl Try.isAgg39 Try.sizeOf39 rfl rfl) ?_
    refine JL_step rfl rfl rfl (jo_alloc0 Try.zeroValue39 rfl) fun b10 => ?_
    refine JL_step0 rfl rfl (jo_store rfl rfl rfl (by first | (simp only [splice_norm]; done) | (simp only [splice_norm]; rfl) | rfl) Try.sizeOf39 rfl rfl) fun _ => ?_
    refine JL_nil ?_
    refine JE_seq ?_
    refine JC_seq ?_
    refine JC_seq ?_
    refine JC_region ?_
    refine JL_pd rfl (det_move rfl) ?_
    refine JL_pd rfl (det_len rfl Try.runUnderlying75) ?_
    refine JL_pd rfl (det_move rfl) ?_
    refine JL_nil ?_
    refine JE_seq ?_
    refine JC_block ?_
    -- stop: loop
    refine JC_nil 39 2 ?_
    refine JC_loop (γ := Nat × List St × St × Bool × Value) (I := fun q => q.1 ≤ turns.length ∧ (if q.2.2.2.1 = true then playV l s turns = (q.2.1 ++ [q.2.2.1], true, decide (q.1 = turns.length)) else playR l (q.2.1 ++ [q.2.2.1]) q.2.2.1 (turns.drop q.1) = playV l s turns) ∧ (q.2.1.length : Int) + 1 ≤ l.rows ∧ (1 ≤ q.2.2.1.b ∧ q.2.2.1.b ≤ l.boards) ∧ -5 ≤ q.2.2.1.d ∧ q.2.2.1.d ≤ 5)
      (st' := fun q => [(25, I q.1), (10, pt b10), (9, pt b9), (7, .bool q.2.2.2.1), (6, q.2.2.2.2), (4, pt b4), (3, pt b3), (24, I turns.length), (23, .slice ta turns.length tc)])
      (H' := fun q => [ow q.2.2.2.2 39 2 q.2.1.length (q.2.1.flatMap encSt), bx b10 [I q.2.2.1.b, I q.2.2.1.d], bx b9 [I l.boards, I l.rows, .slice ha l.hooks.length hc, .slice pa l.patches.length pc, .slice (some ⟨gb, 0, none⟩) l.rows.toNat l.rows.toNat]])
      (R' := fun _ => KAnd (KBall l ha hc pa pc gb) (KAnd (KSl ta turns.length tc encI turns) (KLane l ha hc pa pc))) (μ := fun q => turns.length - q.1) (0, [], s, false, .slice none 0 0) ⟨by omega, by simp [playV], by simpa using r1, ⟨sb.1, sb.2.1⟩, sb.2.2⟩
      (stsub_cons rfl (stsub_cons rfl (stsub_cons rfl (stsub_cons rfl (stsub_cons rfl (stsub_cons rfl (stsub_cons rfl (stsub_cons rfl (stsub_cons rfl stsub_nil))))))))) (show HSub _ [ow (.slice none 0 0) 39 2 0 [], bx b10 _, bx b9 _] from (hsub_cons (hsub_cons (hsub_cons hsub_nil)))) Knows.know ?_
    rintro ⟨i, over, s', g, v⟩ ⟨hi, hp, hl2, hsb, hsd⟩ K hK
    dsimp only at hi hp hl2 hsb hsd ⊢
    refine JC_seq ?_
    refine JC_region ?_
    refine JL_pd rfl (det_lss rfl rfl) ?_
    refine JL_nil ?_
    refine JE_seq ?_
    refine JC_seq ?_
    -- stop: cond
    refine JC_if rfl (fun h2 => ?_) (fun h2 => ?_)
    · have hi2 : i < turns.length := by omega
      have hlast : ((over.flatMap encSt ++ [I s'.b, I s'.d]).drop (over.length * 2)).take 2 = [I s'.b, I s'.d] := by
        rw [List.drop_left' (flatMap_len encSt 2 encSt_len over)]; rfl
      have hfst : (over.flatMap encSt ++ [I s'.b, I s'.d]).take (over.length * 2) = over.flatMap encSt := List.take_left' (flatMap_len encSt 2 encSt_len over)
      refine JC_skip ?_
      refine JE_seq ?_
      refine JC_seq ?_
      refine JC_block ?_
      refine JC_seq ?_
      refine JC_region ?_
      refine JL_dt rfl (det_indexAddr rfl rfl (by first | rfl | omega) (by first | assumption | omega | decide) Try.runUnderlying75 Try.sizeOf3) ?_
      refine JL_dt rfl (det_loadE rfl (by first | assumption | omega | decide) Try.isAgg3 rfl rfl) ?_
      refine JL_pd rfl (det_assign rfl) ?_
      refine JL_nil ?_
      refine JE_seq ?_
      refine JC_seq ?_
      refine JC_region ?_
      refine JL_pd rfl (det_move rfl) ?_
      refine JL_dt rfl (det_loadKA rfl Try.isAgg39 Try.sizeOf39 rfl rfl) ?_
      refine JL_step rfl rfl rfl (jo_buildSlice rfl (bsl_30_1_0 _ _)) fun b31 => ?_
      refine JL_step rfl rfl rfl (jo_append el_30 rfl rfl rfl rfl (by omega)) fun b32 => ?_
      refine JL_pd rfl (det_assign rfl) ?_
      refine JL_nil ?_
      refine JE_seq ?_
      refine JC_seq ?_
      refine JC_seq ?_
      refine JC_region ?_
      refine JL_pd rfl (det_move rfl) ?_
      refine JL_pd rfl (det_move rfl) ?_
      -- stop: guard 1
      refine JL_split (d0 := 34) rfl (fun hg => ?_) (fun hg => ?_)
      · have hbad : (playV l s turns).2.2 = false := by
          rw [if_pos hg] at hp
          rw [hp]; simp; omega
        refine JL_skip rfl rfl hg rfl ?_
        refine JL_skip rfl rfl hg rfl ?_
        refine JL_skip rfl rfl hg rfl ?_
        refine JL_skip rfl rfl hg rfl ?_
        refine JL_skip rfl rfl hg rfl ?_
        refine JL_skip rfl rfl hg rfl ?_
        refine JL_pd rfl (det_pick_t rfl hg rfl) ?_
        refine JL_pd rfl (det_move rfl) ?_
        -- stop: guard 9
        refine JL_is (d0 := 42) true rfl (by rfl) (fun hg2 => ?_)
        refine JL_skip rfl rfl hg2 rfl ?_
        refine JL_skip rfl rfl hg2 rfl ?_
        refine JL_skip rfl rfl hg2 rfl ?_
        refine JL_skip rfl rfl hg2 rfl ?_
        refine JL_skip rfl rfl hg2 rfl ?_
        refine JL_skip rfl rfl hg2 rfl ?_
        refine JL_skip rfl rfl hg2 rfl ?_
        refine JL_skip rfl rfl hg2 rfl ?_
        refine JL_skip rfl rfl hg2 rfl ?_
        refine JL_pd rfl (det_pick_t rfl hg2 rfl) ?_
        refine JL_nil ?_
        refine JE_seq ?_
        -- stop: cond
        refine JC_cond rfl (fun h3 => ?_) (fun h3 => ?_)
        · refine JC_seq ?_
          refine JC_region ?_
          refine JL_pd rfl (det_assign rfl) ?_
          refine JL_pd rfl (det_assign rfl) ?_
          refine JL_pd rfl (det_assign rfl) ?_
          refine JL_nil ?_
          refine JE_seq ?_
          refine JC_ret ?_
          refine JE_seq_ret ?_
          refine JE_block_ret ?_
          refine JE_seq_ret ?_
          refine JE_then_ret ?_
          refine JE_block_ret ?_
          refine JE_seq_ret ?_
          -- stop: out
          refine JE_out (.inl rfl) (none, 0) (results3 Try.results42 (res_tmp rfl) (res_tmp rfl) (res_tmp rfl)) (by unfold playRet; rw [if_neg (by rw [hbad]; decide)]) (List.Perm.refl _) (fun w _ h => by rw [hbad] at h; cases h)
        · cases h3
      · rw [if_neg (by rw [hg]; decide), drop_cons hi2] at hp
        have hol : (((over ++ [s']).length : Nat) : Int) = ((over.length + 1 : Nat) : Int) := by simp
        refine JL_guard rfl rfl hg ?_
        refine JL_pd rfl (det_move rfl) ?_
        refine JL_guard rfl rfl hg ?_
        refine JL_pd rfl (det_len rfl Try.runUnderlying30) ?_
        refine JL_guard rfl rfl hg ?_
        refine JL_pd rfl (det_fieldAddr rfl fo_107_0) ?_
        refine JL_guard rfl rfl hg ?_
        refine JL_pd rfl (det_fieldAddr rfl fo_37_1) ?_
        refine JL_guard rfl rfl hg ?_
        refine JL_dt rfl (det_loadK rfl Try.isAgg3 rfl) ?_
        refine JL_guard rfl rfl hg ?_
        refine JL_pd rfl (det_eql rfl rfl) ?_
        refine JL_pd rfl (det_pick_f rfl hg rfl) ?_
        refine JL_pd rfl (det_move rfl) ?_
        -- stop: guard 9
        refine JL_split (d0 := 42) rfl (fun h4 => ?_) (fun h4 => ?_)
        · have hbad : (playV l s turns).2.2 = false := by
            rw [← hp, playR_full _ _ _ (by rw [hol]; simpa using h4)]
          refine JL_skip rfl rfl h4 rfl ?_
          refine JL_skip rfl rfl h4 rfl ?_
          refine JL_skip rfl rfl h4 rfl ?_
          refine JL_skip rfl rfl h4 rfl ?_
          refine JL_skip rfl rfl h4 rfl ?_
          refine JL_skip rfl rfl h4 rfl ?_
          refine JL_skip rfl rfl h4 rfl ?_
          refine JL_skip rfl rfl h4 rfl ?_
          refine JL_skip rfl rfl h4 rfl ?_
          refine JL_pd rfl (det_pick_t rfl h4 rfl) ?_
          refine JL_nil ?_
          refine JE_seq ?_
          -- stop: cond
          refine JC_cond rfl (fun h3 => ?_) (fun h3 => ?_)
          · refine JC_seq ?_
            refine JC_region ?_
            refine JL_pd rfl (det_assign rfl) ?_
            refine JL_pd rfl (det_assign rfl) ?_
            refine JL_pd rfl (det_assign rfl) ?_
            refine JL_nil ?_
            refine JE_seq ?_
            refine JC_ret ?_
            refine JE_seq_ret ?_
            refine JE_block_ret ?_
            refine JE_seq_ret ?_
            refine JE_then_ret ?_
            refine JE_block_ret ?_
            refine JE_seq_ret ?_
            -- stop: out
            refine JE_out (.inl rfl) (none, 0) (results3 Try.results42 (res_tmp rfl) (res_tmp rfl) (res_tmp rfl)) (by unfold playRet; rw [if_neg (by rw [hbad]; decide)]) (List.Perm.refl _) (fun w _ h => by rw [hbad] at h; cases h)
          · cases h3
        · have h4b : ¬ ((over.length + 1 : Nat) : Int) = l.rows := by simpa using h4
          have hh := hookOf_bd V (((over.length + 1 : Nat) : Int) - 1) s'.b
          refine JL_guard rfl rfl h4 ?_
          refine JL_dt rfl (det_loadKA rfl Try.isAgg107 Try.sizeOf107 rfl rfl) ?_
          refine JL_guard rfl rfl h4 ?_
          refine JL_pd rfl (det_move rfl) ?_
          refine JL_guard rfl rfl h4 ?_
          refine JL_pd rfl (det_len rfl Try.runUnderlying30) ?_
          refine JL_guard rfl rfl h4 ?_
          refine JL_pd rfl (det_sub rfl rfl ⟨by omega, by omega⟩) ?_
          refine JL_guard rfl rfl h4 ?_
          refine JL_dt rfl (det_loadKA rfl Try.isAgg39 Try.sizeOf39 rfl rfl) ?_
          refine JL_guard rfl rfl h4 ?_
          -- stop: op 15 t48 := (call (Call (value f80) (t43 t46 t47) (107 3 39)))   <10 13 14 9 9>   144
          refine JL_step rfl rfl rfl (jo_callv rfl rfl Try.call80 rfl (hooks_j l (((over.length + 1 : Nat) : Int) - 1) s' ha pa hc pc gb (by omega) (by omega) (by simp [onL]; omega))) fun _ => ?_
          refine JL_guard rfl rfl h4 ?_
          refine JL_pd rfl (det_move rfl) ?_
          refine JL_guard rfl rfl h4 ?_
          -- stop: op 17 t50 := (call (Call (value f81) (t48 t49) (49 3)))   <15 16 15 9>   144
          refine JL_step rfl rfl rfl (jo_callv rfl rfl Try.call81 rfl (has_j (hookOf l (((over.length + 1 : Nat) : Int) - 1) s'.b) turns[i])) fun _ => ?_
          refine JL_guard rfl rfl h4 ?_
          refine JL_pd rfl (det_not rfl) ?_
          refine JL_pd rfl (det_pick_f rfl h4 rfl) ?_
          refine JL_nil ?_
          refine JE_seq ?_
          -- stop: cond
          refine JC_cond rfl (fun h5 => ?_) (fun h5 => ?_)
          · have hbad : (playV l s turns).2.2 = false := by
              rw [← hp, playR_bad _ (by rw [hol]; simpa using h5)]
            refine JC_seq ?_
            refine JC_region ?_
            refine JL_pd rfl (det_assign rfl) ?_
            refine JL_pd rfl (det_assign rfl) ?_
            refine JL_pd rfl (det_assign rfl) ?_
            refine JL_nil ?_
            refine JE_seq ?_
            refine JC_ret ?_
            refine JE_seq_ret ?_
            refine JE_block_ret ?_
            refine JE_seq_ret ?_
            refine JE_then_ret ?_
            refine JE_block_ret ?_
            refine JE_seq_ret ?_
            -- stop: out
            refine JE_out (.inl rfl) (none, 0) (results3 Try.results42 (res_tmp rfl) (res_tmp rfl) (res_tmp rfl)) (by unfold playRet; rw [if_neg (by rw [hbad]; decide)]) (List.Perm.refl _) (fun w _ h => by rw [hbad] at h; cases h)
          · have hin : inR turns[i] (hookOf l (((over.length + 1 : Nat) : Int) - 1) s'.b) = true := by simpa using h5
            have hin2 : (hookOf l (((over.length + 1 : Nat) : Int) - 1) s'.b).lo ≤ turns[i] ∧ turns[i] ≤ (hookOf l (((over.length + 1 : Nat) : Int) - 1) s'.b).hi := by simpa [inR] using hin
            refine JC_skip ?_
            refine JE_seq ?_
            refine JC_seq ?_
            refine JC_region ?_
            refine JL_dt rfl (det_loadKA rfl Try.isAgg39 Try.sizeOf39 rfl rfl) ?_
            refine JL_pd rfl (det_move rfl) ?_
            -- stop: op  2 t55 := (call (Call (value f82) (t53 t54) (39 3)))   <0 1>   147
            refine JL_step rfl rfl rfl (jo_callv rfl rfl Try.call82 rfl (next_j s' turns[i] hsd.1 hsd.2 (by omega) (by omega) (by omega) (by omega))) fun _ => ?_
            refine JL_step0 rfl rfl (jo_store rfl rfl rfl (by first | (simp only [splice_norm]; done) | (simp only [splice_norm]; rfl) | rfl) Try.sizeOf39 rfl rfl) fun _ => ?_
            refine JL_nil ?_
            refine JE_seq ?_
            refine JC_seq ?_
            refine JC_region ?_
            refine JL_pd rfl (det_fieldAddr rfl fo_107_0) ?_
            refine JL_dt rfl (det_loadKA rfl Try.isAgg37 Try.sizeOf37 rfl rfl) ?_
            refine JL_dt rfl (det_loadKA rfl Try.isAgg39 Try.sizeOf39 rfl rfl) ?_
            -- stop: op  3 t59 := (call (Call (value f65) (t57 t58) (37 39)))   <1 2>   148
            refine JL_step rfl rfl rfl (jo_callv rfl rfl Try.call65 rfl (on_j l ha pa hc pc (nextS s' turns[i]))) fun _ => ?_
            refine JL_pd rfl (det_not rfl) ?_
            refine JL_pd rfl (det_assign rfl) ?_
            refine JL_nil ?_
            refine JE_seq ?_
            refine JC_seq ?_
            refine JC_region ?_
            refine JL_pd rfl (det_move rfl) ?_
            refine JL_nil ?_
            refine JE_seq ?_
            -- stop: cond
            refine JC_cond rfl (fun h6 => ?_) (fun h6 => ?_)
            · have hoff : onL l (nextS s' turns[i]) = false := by simpa using h6
              rw [playR_off _ (by rw [hol]; exact h4b) (by rw [hol]; exact hin) hoff] at hp
              refine JC_seq ?_
              refine JC_region ?_
              refine JL_pd rfl (det_move rfl) ?_
              refine JL_pd rfl (det_move rfl) ?_
              refine JL_pd rfl (det_len rfl Try.runUnderlying30) ?_
              refine JL_pd rfl (det_sub rfl rfl ⟨by omega, by omega⟩) ?_
              refine JL_pd rfl (det_indexOwn (i := over.length) rfl rfl (by first | rfl | omega) (by first | assumption | omega) Try.runUnderlying30 Try.sizeOf39) ?_
              -- stop: op  5 t67 := (load 39 t66)   <4>   149
              refine JL_dt rfl (det_loadOA (vs := [I s'.b, I s'.d]) rfl Try.isAgg39 Try.sizeOf39 hlast rfl) ?_
              refine JL_step0 rfl rfl (jo_store rfl rfl rfl (by first | (simp only [splice_norm]; done) | (simp only [splice_norm]; rfl) | rfl) Try.sizeOf39 rfl rfl) fun _ => ?_
              refine JL_nil ?_
              refine JE_seq ?_
              refine JC_region ?_
              refine JL_pd rfl (det_move rfl) ?_
              refine JL_pd rfl (det_move rfl) ?_
              refine JL_pd rfl (det_len rfl Try.runUnderlying30) ?_
              refine JL_pd rfl (det_sub rfl rfl ⟨by omega, by omega⟩) ?_
              -- stop: op  4 t72 := (slice 30 t68 none (some t71) none)   <0 3>   150
              refine JL_step rfl rfl rfl (jo_sliceTo over.length rfl rfl (by omega) (by omega) Try.runUnderlying30 Try.sizeOf39 (by decide) (.inr (by omega))) fun _ => ?_
              refine JL_pd rfl (det_assign rfl) ?_
              refine JL_nil ?_
              refine JE_block ?_
              refine JE_seq ?_
              refine JC_region ?_
              refine JL_pd rfl (det_add rfl rfl ⟨by omega, by omega⟩) ?_
              refine JL_pd rfl (det_move rfl) ?_
              refine JL_nil ?_
              -- stop: end
              refine JE_round hK (i + 1, over, s', true, .slice (some ⟨b32.1, 0, none⟩) over.length b32.2) ⟨by omega, ?_, hl2, hsb, hsd⟩ (by simp only; omega) ?_ ?_ Knows.know
              · rw [if_pos rfl, ← hp]
                congr 3
                rw [Bool.eq_iff_iff]; simp; omega
              · exact stsub_consI rfl (by simp only; omega) (stsub_cons rfl (stsub_cons rfl (stsub_consB rfl (by simp [hoff]) (stsub_cons rfl (stsub_cons rfl (stsub_cons rfl (stsub_cons rfl (stsub_cons rfl stsub_nil))))))))
              · exact hsub_ow rfl hfst (hsub_cons (hsub_cons hsub_nil))
            · have hon : onL l (nextS s' turns[i]) = true := by simpa using h6
              have hon2 : 1 ≤ (nextS s' turns[i]).b ∧ (nextS s' turns[i]).b ≤ l.boards := by simpa [onL] using hon
              rw [playR_on _ (by rw [hol]; exact h4b) (by rw [hol]; exact hin) hon] at hp
              refine JC_skip ?_
              refine JE_block ?_
              refine JE_seq ?_
              refine JC_region ?_
              refine JL_pd rfl (det_add rfl rfl ⟨by omega, by omega⟩) ?_
              refine JL_pd rfl (det_move rfl) ?_
              refine JL_nil ?_
              -- stop: end
              refine JE_round hK (i + 1, over ++ [s'], nextS s' turns[i], false, .slice (some ⟨b32.1, 0, none⟩) (over.length + 1) b32.2) ⟨by omega, ?_, by simp; omega, hon2, nextS_d _ _⟩ (by simp only; omega) ?_ ?_ Knows.know
              · rw [if_neg (fun h => by cases h)]; exact hp
              · exact stsub_consI rfl (by simp only; omega) (stsub_cons rfl (stsub_cons rfl (stsub_consB rfl (by simp [hon]) (stsub_cons rfl (stsub_cons rfl (stsub_cons rfl (stsub_cons rfl (stsub_cons rfl stsub_nil))))))))
              · exact hsub_ow (by simp) (by simp [encSt]) (hsub_cons (hsub_cons hsub_nil))
    · have hi3 : i = turns.length := by omega
      have hL : over.flatMap encSt ++ [I s'.b, I s'.d] = (over ++ [s']).flatMap encSt := by simp [encSt]
      have hll : over.length + 1 = (over ++ [s']).length := by simp
      cases g with
      | true =>
        rw [if_pos rfl] at hp
        have hok : (playV l s turns).2.2 = true := by rw [hp]; simp [hi3]
        refine JC_exit ?_
        refine JE_seq_exit ?_
        refine JE_then_exit ?_
        refine JE_block_here ?_
        refine JE_seq ?_
        refine JC_seq ?_
        refine JC_seq ?_
        refine JC_region ?_
        refine JL_pd rfl (det_move rfl) ?_
        refine JL_dt rfl (det_loadKA rfl Try.isAgg39 Try.sizeOf39 rfl rfl) ?_
        refine JL_step rfl rfl rfl (jo_buildSlice rfl (bsl_30_1_0 _ _)) fun b76 => ?_
        refine JL_step rfl rfl rfl (jo_append el_30 rfl rfl rfl rfl (by omega)) fun b77 => ?_
        refine JL_pd rfl (det_assign rfl) ?_
        refine JL_nil ?_
        refine JE_seq ?_
        refine JC_seq ?_
        refine JC_region ?_
        refine JL_pd rfl (det_move rfl) ?_
        refine JL_pd rfl (det_not rfl) ?_
        refine JL_pd rfl (det_move rfl) ?_
        -- stop: guard 2
        refine JL_is (d0 := 80) false rfl (by rfl) (fun hg => ?_)
        refine JL_skip rfl rfl hg rfl ?_
        refine JL_skip rfl rfl hg rfl ?_
        refine JL_skip rfl rfl hg rfl ?_
        refine JL_skip rfl rfl hg rfl ?_
        refine JL_skip rfl rfl hg rfl ?_
        refine JL_skip rfl rfl hg rfl ?_
        refine JL_pd rfl (det_pick_f rfl hg rfl) ?_
        refine JL_nil ?_
        refine JE_seq ?_
        -- stop: cond
        refine JC_cond rfl (fun h3 => ?_) (fun h3 => ?_)
        · cases h3
        · refine JC_skip ?_
          refine JE_seq ?_
          refine JC_seq ?_
          refine JC_region ?_
          refine JL_pd rfl (det_move rfl) ?_
          refine JL_pd rfl (det_move rfl) ?_
          refine JL_pd rfl (det_assign rfl) ?_
          refine JL_pd rfl (det_assign rfl) ?_
          refine JL_pd rfl (det_assign rfl) ?_
          refine JL_nil ?_
          refine JE_seq ?_
          refine JC_ret ?_
          -- stop: out
          refine JE_slice (enc := encSt) (v := .slice (some ⟨b77.1, 0, none⟩) (over.length + 1) b77.2) (over ++ [s']) noFp hL hll ?_
          rintro a cap h
          cases h
          refine JE_out (.inl rfl) (some ⟨b77.1, 0, none⟩, b77.2) (results3 Try.results42 (res_tmp rfl) (res_tmp rfl) (res_tmp rfl)) (by unfold playRet; rw [if_pos hok, hp]; simp) (List.Perm.refl _) (fun w h _ => by have := h.1; rw [hp]; simpa using this)
      | false =>
        rw [if_neg (by decide), List.drop_eq_nil_of_le (by omega), playR_nil] at hp
        have hol : (((over ++ [s']).length : Nat) : Int) = ((over.length + 1 : Nat) : Int) := by simp
        refine JC_exit ?_
        refine JE_seq_exit ?_
        refine JE_then_exit ?_
        refine JE_block_here ?_
        refine JE_seq ?_
        refine JC_seq ?_
        refine JC_seq ?_
        refine JC_region ?_
        refine JL_pd rfl (det_move rfl) ?_
        refine JL_dt rfl (det_loadKA rfl Try.isAgg39 Try.sizeOf39 rfl rfl) ?_
        refine JL_step rfl rfl rfl (jo_buildSlice rfl (bsl_30_1_0 _ _)) fun b76 => ?_
        refine JL_step rfl rfl rfl (jo_append el_30 rfl rfl rfl rfl (by omega)) fun b77 => ?_
        refine JL_pd rfl (det_assign rfl) ?_
        refine JL_nil ?_
        refine JE_seq ?_
        refine JC_seq ?_
        refine JC_region ?_
        refine JL_pd rfl (det_move rfl) ?_
        refine JL_pd rfl (det_not rfl) ?_
        refine JL_pd rfl (det_move rfl) ?_
        -- stop: guard 2
        refine JL_is (d0 := 80) true rfl (by rfl) (fun hg => ?_)
        refine JL_guard rfl rfl hg ?_
        refine JL_pd rfl (det_move rfl) ?_
        refine JL_guard rfl rfl hg ?_
        refine JL_pd rfl (det_len rfl Try.runUnderlying30) ?_
        refine JL_guard rfl rfl hg ?_
        refine JL_pd rfl (det_fieldAddr rfl fo_107_0) ?_
        refine JL_guard rfl rfl hg ?_
        refine JL_pd rfl (det_fieldAddr rfl fo_37_1) ?_
        refine JL_guard rfl rfl hg ?_
        refine JL_dt rfl (det_loadK rfl Try.isAgg3 rfl) ?_
        refine JL_guard rfl rfl hg ?_
        refine JL_pd rfl (det_neq rfl rfl) ?_
        refine JL_pd rfl (det_pick_t rfl hg rfl) ?_
        refine JL_nil ?_
        refine JE_seq ?_
        -- stop: cond
        refine JC_ifn rfl (fun h3 => ?_) (fun h3 => ?_)
        · have hbad : (playV l s turns).2.2 = false := by rw [← hp]; simpa using h3
          refine JC_seq ?_
          refine JC_region ?_
          refine JL_pd rfl (det_assign rfl) ?_
          refine JL_pd rfl (det_assign rfl) ?_
          refine JL_pd rfl (det_assign rfl) ?_
          refine JL_nil ?_
          refine JE_seq ?_
          refine JC_ret ?_
          refine JE_seq_ret ?_
          -- stop: out
          refine JE_out (.inl rfl) (none, 0) (results3 Try.results42 (res_tmp rfl) (res_tmp rfl) (res_tmp rfl)) (by unfold playRet; rw [if_neg (by rw [hbad]; decide)]) (List.Perm.refl _) (fun w _ h => by rw [hbad] at h; cases h)
        · have hok : (playV l s turns).2.2 = true := by rw [← hp]; simpa using h3
          refine JC_skip ?_
          refine JE_seq ?_
          refine JC_seq ?_
          refine JC_region ?_
          refine JL_pd rfl (det_move rfl) ?_
          refine JL_pd rfl (det_move rfl) ?_
          refine JL_pd rfl (det_assign rfl) ?_
          refine JL_pd rfl (det_assign rfl) ?_
          refine JL_pd rfl (det_assign rfl) ?_
          refine JL_nil ?_
          refine JE_seq ?_
          refine JC_ret ?_
          -- stop: out
          refine JE_slice (enc := encSt) (v := .slice (some ⟨b77.1, 0, none⟩) (over.length + 1) b77.2) (over ++ [s']) noFp hL hll ?_
          rintro a cap h
          cases h
          refine JE_out (.inl rfl) (some ⟨b77.1, 0, none⟩, b77.2) (results3 Try.results42 (res_tmp rfl) (res_tmp rfl) (res_tmp rfl)) (by unfold playRet; rw [if_pos hok, ← hp]; simp) (List.Perm.refl _) (fun w h _ => by have := h.1; rw [← hp]; simpa using this)
theorem Cr.toCv {P : Program} {f : FuncId} {args : List Value} {pre : World → Prop} {α : Type} {ret : α → Value} {post : α → World → Prop} {v : Value} (h : Cr P f args pre ret post) (hv : ∀ x, ret x = v) : Cv P f args pre v := fun M w a b c d =>
  (h M w a b c d).mono fun e w' ⟨x, M', h1, h2, h3, h4, h5, h6, h7, _⟩ => ⟨(), M', by rw [h1, hv], h2, h3, h4, h5, h6, h7, fun _ _ => trivial⟩
theorem Play_j0 (l : La) (s : St) (turns : List Int) (ha pa : Option Addr) (hc pc : Nat) (ta : Option Addr) (tc : Nat) (he : startErr l s = 0) (ht : turns.length ≤ 1000000) (hb : (playV l s turns).2.2 = false) : Cv Try.prog 42 [.agg #[I l.boards, I l.rows, .slice ha l.hooks.length hc, .slice pa l.patches.length pc], .agg #[I s.b, I s.d], .slice ta turns.length tc] (KAnd (KSl ta turns.length tc encI turns) (KLane l ha hc pa pc)) (.tuple #[.slice none 0 0, .bool false, I 2]) :=
  (Play_jo l s turns ha pa hc pc ta tc he ht).toCv fun q => by unfold playRet; rw [if_neg (by rw [hb]; decide)]
theorem Play_j1 (l : La) (s : St) (turns : List Int) (ha pa : Option Addr) (hc pc : Nat) (ta : Option Addr) (tc : Nat) (he : startErr l s = 0) (ht : turns.length ≤ 1000000) (hb : (playV l s turns).2.2 = true) : Cr Try.prog 42 [.agg #[I l.boards, I l.rows, .slice ha l.hooks.length hc, .slice pa l.patches.length pc], .agg #[I s.b, I s.d], .slice ta turns.length tc] (KAnd (KSl ta turns.length tc encI turns) (KLane l ha hc pa pc))
    (fun q : Option Addr × Nat => .tuple #[.slice q.1 (playV l s turns).1.length q.2, .bool (playV l s turns).2.1, I 0]) (fun q => KSl q.1 (playV l s turns).1.length q.2 encSt (playV l s turns).1) := fun M w a b c d =>
  (Play_jo l s turns ha pa hc pc ta tc he ht M w a b c d).mono fun e w' ⟨x, M', h1, h2, h3, h4, h5, h6, h7, h8⟩ => ⟨x, M', by rw [h1]; unfold playRet; rw [if_pos hb], h2, h3, h4, h5, h6, h7, fun w2 hw => h8 w2 hw hb⟩
end Go.Proofs.Ytcfhbnfincpehaa

/- The statements about path: room; plain facts of Best and Aims. -/
namespace Go.Proofs.Ytcfhbnfincpehaa
open Go.RowKit Go.Shelf

section
variable {X : Ctx} {P : Program} {st : Sto} {H H0 : List Chunk} {R R0 : World → Prop} {k : Kont} {ops : Array Oper} {rest : List Oper} {Q : Exit → Act → World → Prop} {fuel : Nat} {listed : Array Bool} {tl : List Nat}
theorem yielded_undef {N : Nat} {a : Act} (hs : StOk N st a) {j d0 : Nat} (hj : dstOf ops j = some d0) (hb : look st d0 = some undef) : yielded ops a.tmps j = none := by
  have h1 := hs.get _ _ hb
  unfold dstOf at hj
  unfold yielded
  rw [hj]
  simp only [Option.bind_some]
  simp only [Array.getD_eq_getD_getElem?] at h1
  cases hq : a.tmps[d0]? with
  | none => rfl
  | some v => rw [hq] at h1; simp at h1; rw [h1]; rfl
/-- A guard that has itself been passed over. -/
theorem JL_skipU {d : Nat} {op : Op} {ty : TypeId} {pos : String} {af : Array Edge} {j d0 : Nat} {want : Bool} (hj : dstOf ops j = some d0) (hb : look st d0 = some undef) (hN : Nat.blt d X.N = true)
    (h : JL X P ops Q rest ((d, undef) :: st) H R) : JL X P ops Q (⟨some d, op, ty, pos, af, some (j, want)⟩ :: rest) st H R := by
  intro a w ⟨hs, M, Ds, hd, hm⟩
  have hy := yielded_undef hs hj hb
  have := h (a.put (some d) undef) w ⟨hs.put (blt_lt hN) _, M, Ds, hd, hm⟩
  rw [wpListIn, if_neg (by simp [Region.wanted, hy])]
  exact ⟨fun f _ => fof_fn _ f, this⟩
theorem JA_skipU {i d : Nat} {op : Op} {ty : TypeId} {pos : String} {af : Array Edge} {j d0 : Nat} {want : Bool} (hi : ops[i]? = some ⟨some d, op, ty, pos, af, some (j, want)⟩) (hgo : mayGo ops listed i = true) (hit : tl.contains i = false) (hN : Nat.blt d X.N = true)
    (hj : dstOf ops j = some d0) (hb : look st d0 = some undef)
    (hn : JA X P ops k tl H0 R0 fuel (listed.setIfInBounds i true) ((d, undef) :: st) H R) : JA X P ops k tl H0 R0 (fuel + 1) listed st H R :=
  ja_firstP (v := undef) hi rfl hgo (by simpa using hit) hN (fun a hs => .inr ⟨by simp [Region.wanted, yielded_undef hs hj hb], rfl⟩) hn
end
theorem ready2 {l : La} {s : St} (h : (!(thin l && decide (startErr l s = 0))) = false) : thin l = true ∧ startErr l s = 0 := by
  simpa using h
theorem sure_iff {l : La} {s : St} {p : Pk} (h0 : isStart l s = true) (V : Valid l) : hitsV l s p = 2 ↔ s ∈ aimsL l p := by
  have hb := V.b1
  have sb : 1 ≤ s.b ∧ s.b ≤ l.boards ∧ -5 ≤ s.d ∧ s.d ≤ 5 := by simpa [isStart] using h0
  have hm : s ∈ doneS l.boards.toNat 0 := mem_doneS_iff.2 ⟨sb.1, by omega, sb.2.2⟩
  unfold aimsL hitsV
  rw [List.mem_filter]
  unfold sureS
  cases canN l (enM p) (nR l) 0 s
  · simp [hm]
  · cases canN l (hitsP p) (nR l) 0 s <;> simp
theorem aims_sorted (l : La) (p : Pk) : (aimsL l p).Pairwise (fun x y => lessS x y = true) := (doneS_sorted _ 0 (by omega)).filter _
/-- What the best one is among those seen so far. -/
structure BestOf (A pre : List St) (q : St × Int) : Prop where
  none : pre = [] → q.2 = -1
  mem : pre ≠ [] → q.1 ∈ pre ∧ q.2 = (roomN A q.1 : Int) - 1
  le : ∀ s ∈ pre, (roomN A s : Int) - 1 ≤ q.2
  lt : ∀ s ∈ pre, lessS s q.1 = true → (roomN A s : Int) - 1 < q.2
theorem room_pos {A : List St} {s : St} (h : s ∈ A) : 1 ≤ roomN A s :=
  roomN_ge (k := 1) (fun m hm => by
    obtain rfl : m = 0 := by omega
    have e : (⟨s.b - (0 : Nat), s.d⟩ : St) = s := St.ext'.2 ⟨by simp, rfl⟩
    have e2 : (⟨s.b + (0 : Nat), s.d⟩ : St) = s := St.ext'.2 ⟨by simp, rfl⟩
    simp only [pairOk, e, e2, h, decide_true, Bool.and_self]) (by omega)
theorem best_fold (A : List St) (hA : A.Pairwise (fun x y => lessS x y = true)) : ∀ (post pre : List St) (q : St × Int), pre ++ post = A → BestOf A pre q → BestOf A A (post.foldl (bestS A) q)
  | [], pre, q, e, h => by rw [List.append_nil] at e; subst e; exact h
  | s :: post, pre, q, e, h => by
    rw [List.foldl_cons]
    refine best_fold A hA post (pre ++ [s]) _ (by rw [List.append_assoc]; exact e) ?_
    have hs : s ∈ A := by rw [← e]; simp
    have hp := room_pos hs
    have hlt : ∀ t ∈ pre, lessS t s = true := fun t ht => by
      rw [← e, List.pairwise_append] at hA
      exact hA.2.2 t ht s (by simp)
    unfold bestS
    by_cases hc : q.2 < (roomN A s : Int) - 1
    · rw [if_pos hc]
      refine ⟨fun h => by simp at h, fun _ => ⟨by simp, rfl⟩, fun t ht => ?_, fun t ht hl => ?_⟩
      · rcases List.mem_append.1 ht with ht | ht
        · have := h.le t ht; simp only; omega
        · rw [List.mem_singleton.1 ht]; exact Int.le_refl _
      · rcases List.mem_append.1 ht with ht | ht
        · have := h.le t ht; simp only; omega
        · rw [List.mem_singleton.1 ht] at hl; exact (less_irrefl hl hl).elim
    · rw [if_neg hc]
      have hne : pre ≠ [] := fun e2 => by have := h.none e2; omega
      obtain ⟨m1, m2⟩ := h.mem hne
      refine ⟨fun h => by simp at h, fun _ => ⟨by simp [m1], m2⟩, fun t ht => ?_, fun t ht hl => ?_⟩
      · rcases List.mem_append.1 ht with ht | ht
        · exact h.le t ht
        · rw [List.mem_singleton.1 ht]; omega
      · rcases List.mem_append.1 ht with ht | ht
        · exact h.lt t ht hl
        · rw [List.mem_singleton.1 ht] at hl; exact (less_irrefl hl (hlt _ m1)).elim
theorem best_of (l : La) (p : Pk) : BestOf (aimsL l p) (aimsL l p) (bestF (aimsL l p)) :=
  best_fold _ (aims_sorted l p) _ [] _ rfl ⟨fun _ => rfl, fun h => absurd rfl h, by simp, by simp⟩
set_option maxRecDepth 100000 in
theorem lroom_j (l : La) (p : Pk) (s : St) (a : Option Addr) (cap : Nat) (hb : l.boards ≤ 40) (s1 : 1 ≤ s.b) (s2 : s.b ≤ 40) : Cv Try.prog 47 [.slice a (aimsL l p).length cap, .agg #[I s.b, I s.d]] (KSl a (aimsL l p).length cap encSt (aimsL l p)) (I ((roomN (aimsL l p) s : Int) - 1)) := by
  have hlen := aims_len l p hb
  refine Cx_of Try.func47 rfl Try.ntmps47 rfl fun w0 M0 => ?_
  refine JC_seq ?_
  refine JC_region ?_
  refine JL_step rfl rfl rfl (jo_box rfl rfl) fun b3 => ?_
  refine JL_pd rfl (det_assign rfl) ?_
  refine JL_nil ?_
  refine JE_seq ?_
  refine JC_seq ?_
  refine JC_region ?_
  refine JL_pd rfl (det_assign rfl) ?_
  refine JL_nil ?_
  refine JE_seq ?_
  refine JC_seq ?_
  refine JC_block ?_
  -- stop: loop
  refine JC_loop (γ := Nat) (I := fun n => n ≤ 41 ∧ ∀ m, m < n → pairOk (aimsL l p) s m = true) (st' := fun n => [(5, I ((n : Int) - 1)), (3, pt b3), (0, .slice a (aimsL l p).length cap)]) (H' := fun _ => [bx b3 [I s.b, I s.d]])
    (R' := fun _ => KSl a (aimsL l p).length cap encSt (aimsL l p)) (μ := fun n => 41 - n) 0 ⟨by omega, by omega⟩ (stsub_cons rfl (stsub_cons rfl (stsub_cons rfl stsub_nil))) (hsub_cons hsub_nil) Knows.know ?_
  rintro n ⟨hn, hp⟩ K hK
  have e1 : s.b - ((n : Int) - 1) - 1 = s.b - n := by omega
  have e2 : s.b + ((n : Int) - 1) + 1 = s.b + n := by omega
  refine JC_seq ?_
  refine JC_seq ?_
  refine JC_region ?_
  refine JL_pd rfl (det_move rfl) ?_
  refine JL_pd rfl (det_fieldAddr rfl fo_39_0) ?_
  refine JL_dt rfl (det_loadK rfl Try.isAgg3 rfl) ?_
  refine JL_pd rfl (det_move rfl) ?_
  refine JL_pd rfl (det_sub rfl rfl ⟨by omega, by omega⟩) ?_
  refine JL_pd rfl (det_sub rfl rfl ⟨by omega, by omega⟩) ?_
  refine JL_pd rfl (det_fieldAddr rfl fo_39_1) ?_
  refine JL_dt rfl (det_loadK rfl Try.isAgg3 rfl) ?_
  refine JL_pd rfl (det_build rfl (bld_39_0_1 _ _)) ?_
  -- stop: op  9 t15 := (call (Call (value f46) (t6 t14) (30 39)))   <0 8>   241
  rw [e1]
  refine JL_step rfl rfl rfl (jo_callv rfl rfl Try.call46 rfl (lhas_j (aimsL l p) a cap ⟨s.b - n, s.d⟩ (by omega))) fun _ => ?_
  refine JL_pd rfl (det_move rfl) ?_
  -- stop: guard 10
  refine JL_split (d0 := 16) rfl (fun h1 => ?_) (fun h1 => ?_)
  · refine JL_guard rfl rfl h1 ?_
    refine JL_pd rfl (det_move rfl) ?_
    refine JL_guard rfl rfl h1 ?_
    refine JL_pd rfl (det_fieldAddr rfl fo_39_0) ?_
    refine JL_guard rfl rfl h1 ?_
    refine JL_dt rfl (det_loadK rfl Try.isAgg3 rfl) ?_
    refine JL_guard rfl rfl h1 ?_
    refine JL_pd rfl (det_move rfl) ?_
    refine JL_guard rfl rfl h1 ?_
    refine JL_pd rfl (det_add rfl rfl ⟨by omega, by omega⟩) ?_
    refine JL_guard rfl rfl h1 ?_
    refine JL_pd rfl (det_add rfl rfl ⟨by omega, by omega⟩) ?_
    refine JL_guard rfl rfl h1 ?_
    refine JL_pd rfl (det_fieldAddr rfl fo_39_1) ?_
    refine JL_guard rfl rfl h1 ?_
    refine JL_dt rfl (det_loadK rfl Try.isAgg3 rfl) ?_
    refine JL_guard rfl rfl h1 ?_
    refine JL_pd rfl (det_build rfl (bld_39_0_1 _ _)) ?_
    refine JL_guard rfl rfl h1 ?_
    -- stop: op 20 t26 := (call (Call (value f46) (t17 t25) (30 39)))   <11 19 10 10>   241
    rw [e2]
    refine JL_step rfl rfl rfl (jo_callv rfl rfl Try.call46 rfl (lhas_j (aimsL l p) a cap ⟨s.b + n, s.d⟩ (by omega))) fun _ => ?_
    refine JL_pd rfl (det_pick_t rfl h1 rfl) ?_
    refine JL_nil ?_
    refine JE_seq ?_
    -- stop: cond
    refine JC_cond rfl (fun h2 => ?_) (fun h2 => ?_)
    · have hok : pairOk (aimsL l p) s n = true := by simp only [pairOk, h1, h2, Bool.and_self]
      have hle := pairOk_bd hb hok s1
      refine JC_skip ?_
      refine JE_seq ?_
      refine JC_block ?_
      refine JC_region ?_
      refine JL_pd rfl (det_move rfl) ?_
      refine JL_pd rfl (det_add rfl rfl ⟨by omega, by omega⟩) ?_
      refine JL_pd rfl (det_assign rfl) ?_
      refine JL_nil ?_
      refine JE_block ?_
      -- stop: end
      refine JE_round hK (n + 1) ⟨by omega, fun m hm => ?_⟩ (by omega) (stsub_consI rfl (by omega) (stsub_cons rfl (stsub_cons rfl stsub_nil))) (hsub_cons hsub_nil) Knows.know
      by_cases e : m = n
      · rw [e]; exact hok
      · exact hp m (by omega)
    · refine JC_exit ?_
      refine JE_seq_exit ?_
      refine JE_then_exit ?_
      refine JE_block_here ?_
      refine JE_seq ?_
      refine JC_seq ?_
      refine JC_region ?_
      refine JL_pd rfl (det_move rfl) ?_
      refine JL_pd rfl (det_assign rfl) ?_
      refine JL_nil ?_
      refine JE_seq ?_
      refine JC_ret ?_
      -- stop: out
      refine JE_out (.inl rfl) () (results1 Try.results47 (res_tmp rfl)) (by rw [roomN_eq hp (by simp only [pairOk, h1, h2, Bool.and_false]) (by omega)]) (List.Perm.refl _) (fun _ _ => trivial)
  · refine JL_skip rfl rfl h1 rfl ?_
    refine JL_skip rfl rfl h1 rfl ?_
    refine JL_skip rfl rfl h1 rfl ?_
    refine JL_skip rfl rfl h1 rfl ?_
    refine JL_skip rfl rfl h1 rfl ?_
    refine JL_skip rfl rfl h1 rfl ?_
    refine JL_skip rfl rfl h1 rfl ?_
    refine JL_skip rfl rfl h1 rfl ?_
    refine JL_skip rfl rfl h1 rfl ?_
    refine JL_skip rfl rfl h1 rfl ?_
    refine JL_pd rfl (det_pick_f rfl h1 rfl) ?_
    refine JL_nil ?_
    refine JE_seq ?_
    -- stop: cond
    refine JC_cond rfl (fun h2 => ?_) (fun h2 => ?_)
    · cases h2
    · refine JC_exit ?_
      refine JE_seq_exit ?_
      refine JE_then_exit ?_
      refine JE_block_here ?_
      refine JE_seq ?_
      refine JC_seq ?_
      refine JC_region ?_
      refine JL_pd rfl (det_move rfl) ?_
      refine JL_pd rfl (det_assign rfl) ?_
      refine JL_nil ?_
      refine JE_seq ?_
      refine JC_ret ?_
      -- stop: out
      refine JE_out (.inl rfl) () (results1 Try.results47 (res_tmp rfl)) (by rw [roomN_eq hp (by simp only [pairOk, h1, Bool.false_and]) (by omega)]) (List.Perm.refl _) (fun _ _ => trivial)
end Go.Proofs.Ytcfhbnfincpehaa

/- Path: the lane turned over (plain). -/
namespace Go.Proofs.Ytcfhbnfincpehaa

def mirR (r : Rg) : Rg := ⟨-r.hi, -r.lo⟩
def mirB (n : Int) (r : Rg) : Rg := ⟨n - r.hi, n - r.lo⟩
def mirP (n : Int) (p : Pa) : Pa := ⟨p.rows, mirB n p.boards, p.level⟩
/-- The lane turned over. -/
def mirL (l : La) : La := ⟨l.boards, l.rows, l.hooks.map mirR, l.patches.map (mirP (l.boards + 1))⟩
def mirS (l : La) (s : St) : St := ⟨l.boards + 1 - s.b, -s.d⟩
def mirK (l : La) (p : Pk) : Pk := ⟨mirB (l.boards + 1) p.boards, mirR p.dirs⟩
theorem mirS_b (l : La) (s : St) : (mirS l s).b = l.boards + 1 - s.b := rfl
theorem mirS_d (l : La) (s : St) : (mirS l s).d = -s.d := rfl
theorem mirL_b (l : La) : (mirL l).boards = l.boards := rfl
theorem mirB_lo (n : Int) (r : Rg) : (mirB n r).lo = n - r.hi := rfl
theorem mirB_hi (n : Int) (r : Rg) : (mirB n r).hi = n - r.lo := rfl
theorem mirR_lo (r : Rg) : (mirR r).lo = -r.hi := rfl
theorem mirR_hi (r : Rg) : (mirR r).hi = -r.lo := rfl
theorem mirP_b (n : Int) (p : Pa) : (mirP n p).boards = mirB n p.boards := rfl
theorem mirK_b (l : La) (p : Pk) : (mirK l p).boards = mirB (l.boards + 1) p.boards := rfl
theorem mirK_d (l : La) (p : Pk) : (mirK l p).dirs = mirR p.dirs := rfl
theorem mirS_mirS (l : La) (s : St) : mirS l (mirS l s) = s := by cases s; simp [mirS]; omega
theorem mir_valid {l : La} (V : Valid l) : Valid (mirL l) := by
  have h0 := V.h0
  refine ⟨by simpa [mirL] using V.np, by simpa [mirL] using V.nh, V.b1, V.b2, V.r1, V.r2, by simpa [mirL] using V.h0, ?_, ?_⟩
  · intro h hh
    simp only [mirL, List.mem_map] at hh
    obtain ⟨a, ha, rfl⟩ := hh
    have := V.hk a ha
    simp only [mirR]; omega
  · intro p hp
    simp only [mirL, List.mem_map] at hp
    obtain ⟨a, ha, rfl⟩ := hp
    have := V.pk a ha
    simp only [mirL, mirP, mirB, List.length_map]
    omega
theorem mir_on (l : La) (s : St) : onL (mirL l) (mirS l s) = onL l s := by
  exact decide_eq_decide.2 (by simp only [mirL_b, mirS_b]; omega)
theorem mir_start {l : La} {s : St} (h : isStart l s = true) : isStart (mirL l) (mirS l s) = true := by
  have h := of_decide_eq_true h
  exact decide_eq_true (by simp only [mirL_b, mirS_b, mirS_d]; omega)
theorem mir_level (l : La) (row b : Int) : ∀ ps : List Pa, levelOf (ps.map (mirP (l.boards + 1))) row (l.boards + 1 - b) = levelOf ps row b := by
  intro ps
  unfold levelOf
  rw [List.foldl_map]
  congr 1
  funext lv p
  have e : inR (l.boards + 1 - b) (mirP (l.boards + 1) p).boards = inR b p.boards := by
    exact decide_eq_decide.2 (by simp only [mirP_b, mirB_lo, mirB_hi]; omega)
  rw [e]; rfl
theorem mir_hook {l : La} (V : Valid l) (row b : Int) : hookOf (mirL l) row (l.boards + 1 - b) = mirR (hookOf l row b) := by
  have hb := levelOf_bd V row b
  unfold hookOf
  rw [show (mirL l).patches = l.patches.map (mirP (l.boards + 1)) from rfl, mir_level, show (mirL l).hooks = l.hooks.map mirR from rfl, List.getD_eq_getElem?_getD, List.getD_eq_getElem?_getD, List.getElem?_map]
  have hlt : (levelOf l.patches row b).toNat < l.hooks.length := by omega
  rw [List.getElem?_eq_getElem hlt]; rfl
theorem mir_clamp (n : Int) : clamp (-n) = -clamp n := by unfold clamp; omega
theorem mir_next (l : La) (s : St) (t : Int) : nextS (mirS l s) (-t) = mirS l (nextS s t) := by
  have e : -s.d + -t = -(s.d + t) := by omega
  simp only [nextS, mirS, e, mir_clamp]
  exact St.ext'.2 ⟨by simp only; omega, rfl⟩
theorem mem_steps {l : La} {k : Int} {s t : St} : t ∈ stepsOf l k s ↔ ∃ u, (hookOf l k s.b).lo ≤ u ∧ u ≤ (hookOf l k s.b).hi ∧ t = nextS s u := by
  simp only [stepsOf, List.mem_map, mem_turnsOf]
  exact ⟨fun ⟨u, h1, h2⟩ => ⟨u, h1.1, h1.2, h2.symm⟩, fun ⟨u, h1, h2, h3⟩ => ⟨u, ⟨h1, h2⟩, h3.symm⟩⟩
theorem mir_steps {l : La} (V : Valid l) (k : Int) (s t : St) : mirS l t ∈ stepsOf (mirL l) k (mirS l s) ↔ t ∈ stepsOf l k s := by
  rw [mem_steps, mem_steps, show (mirS l s).b = l.boards + 1 - s.b from rfl, mir_hook V]
  simp only [mirR]
  constructor
  · rintro ⟨u, h1, h2, h3⟩
    refine ⟨-u, by omega, by omega, ?_⟩
    have h := mir_next l s (-u)
    rw [Int.neg_neg] at h
    rw [h] at h3
    have := congrArg (mirS l) h3
    rwa [mirS_mirS, mirS_mirS] at this
  · rintro ⟨u, h1, h2, rfl⟩
    exact ⟨-u, by omega, by omega, (mir_next l s u).symm⟩
theorem mirS_inj {l : La} {s t : St} : mirS l s = mirS l t ↔ s = t := ⟨fun h => by have := congrArg (mirS l) h; rwa [mirS_mirS, mirS_mirS] at this, fun h => by rw [h]⟩
theorem mir_rch {l : La} (V : Valid l) (s : St) : ∀ (k : Nat) (t : St), Rch (mirL l) (mirS l s) k (mirS l t) ↔ Rch l s k t
  | 0, t => mirS_inj
  | k + 1, t => by
    simp only [Rch, mir_on]
    refine and_congr_right fun _ => ⟨fun ⟨u, h1, h2⟩ => ?_, fun ⟨u, h1, h2⟩ => ⟨mirS l u, (mir_rch V s k u).2 h1, (mir_steps V k u t).2 h2⟩⟩
    rw [← mirS_mirS l u] at h1 h2
    exact ⟨mirS l u, (mir_rch V s k _).1 h1, (mir_steps V k _ t).1 h2⟩
theorem mir_less (l : La) {x y : St} (h : lessS x y = true) : lessS (mirS l y) (mirS l x) = true := by
  have h := of_decide_eq_true h
  exact decide_eq_true (by simp only [mirS_b, mirS_d]; omega)
theorem mir_rowL {l : La} {s : St} (V : Valid l) (h0 : isStart l s = true) (k : Nat) : rowL (mirL l) (mirS l s) k = ((rowL l s k).map (mirS l)).reverse := by
  refine sorted_eq (rowL_sorted _ _ _) ?_ fun t => ?_
  · rw [List.pairwise_reverse, List.pairwise_map]
    exact (rowL_sorted l s k).imp fun {x y} h => mir_less l h
  · rw [mem_rowL (mir_valid V) (mir_start h0), List.mem_reverse, List.mem_map]
    constructor
    · intro h
      refine ⟨mirS l t, ?_, mirS_mirS l t⟩
      rw [mem_rowL V h0, ← mir_rch V, mirS_mirS]; exact h
    · rintro ⟨u, hu, rfl⟩
      exact (mir_rch V s k u).2 ((mem_rowL V h0).1 hu)
theorem mir_gut {l : La} {s : St} (V : Valid l) (h0 : isStart l s = true) (k : Nat) : gutB (mirL l) (mirS l s) k = gutB l s k := by
  rw [Bool.eq_iff_iff]
  simp only [gutB, mir_rowL V h0, List.any_eq_true, List.mem_reverse, List.mem_map]
  constructor
  · rintro ⟨_, ⟨u, hu, rfl⟩, t, ht, hon⟩
    rw [← mirS_mirS l t] at ht hon
    exact ⟨u, hu, mirS l t, (mir_steps V k u _).1 ht, by rwa [mir_on] at hon⟩
  · rintro ⟨u, hu, t, ht, hon⟩
    exact ⟨_, ⟨u, hu, rfl⟩, mirS l t, (mir_steps V k u t).2 ht, by rwa [mir_on]⟩
theorem mir_rowV {l : La} {s : St} (V : Valid l) (h0 : isStart l s = true) (k : Nat) : rowV (mirL l) (mirS l s) k = rowV l s k := by
  unfold rowV
  have e : gutB (mirL l) (mirS l s) = gutB l s := funext fun k => mir_gut V h0 k
  rw [e, mir_rowL V h0]
  simp
theorem mir_can {l : La} (V : Valid l) (en en' : Bool → St → Bool) (he : ∀ b s, en' b (mirS l s) = en b s) : ∀ (n : Nat) (row : Int) (s : St), canN (mirL l) en' n row (mirS l s) = canN l en n row s
  | 0, row, s => by simp only [canN, mir_on, he]
  | n + 1, row, s => by
    simp only [canN, mir_on, he]
    have e : (stepsOf (mirL l) row (mirS l s)).any (canN (mirL l) en' n (row + 1)) = (stepsOf l row s).any (canN l en n (row + 1)) := by
      rw [Bool.eq_iff_iff]
      simp only [List.any_eq_true]
      constructor
      · rintro ⟨t, ht, hc⟩
        rw [← mirS_mirS l t] at ht hc
        exact ⟨mirS l t, (mir_steps V row s _).1 ht, by rwa [mir_can V en en' he n] at hc⟩
      · rintro ⟨t, ht, hc⟩
        exact ⟨mirS l t, (mir_steps V row s t).2 ht, by rwa [mir_can V en en' he n]⟩
    rw [e]
theorem mir_hitsP (l : La) (p : Pk) (b : Bool) (s : St) : hitsP (mirK l p) b (mirS l s) = hitsP p b s := by
  have e1 : inR (mirS l s).b (mirK l p).boards = inR s.b p.boards := by exact decide_eq_decide.2 (by simp only [mirS_b, mirK_b, mirB_lo, mirB_hi]; omega)
  have e2 : inR (mirS l s).d (mirK l p).dirs = inR s.d p.dirs := by exact decide_eq_decide.2 (by simp only [mirS_d, mirK_d, mirR_lo, mirR_hi]; omega)
  simp only [hitsP, e1, e2]
theorem mir_hits {l : La} (V : Valid l) (s : St) (p : Pk) : hitsV (mirL l) (mirS l s) (mirK l p) = hitsV l s p := by
  have e1 := mir_can V (enM p) (enM (mirK l p)) (fun b s => by simp only [enM, mir_hitsP]) (nR l) 0 s
  have e2 := mir_can V (hitsP p) (hitsP (mirK l p)) (fun b s => mir_hitsP l p b s) (nR l) 0 s
  unfold hitsV
  rw [show nR (mirL l) = nR l from rfl, e1, e2]
end Go.Proofs.Ytcfhbnfincpehaa

/- The walk of PathRows. -/
namespace Go.Proofs.Ytcfhbnfincpehaa
open Go.RowKit Go.Shelf

theorem ready_of {l : La} {s : St} (h : (!(thin l && decide (startErr l s = 0))) = false) : thin l = true ∧ startErr l s = 0 := by
  simpa using h
/-- What stands in the next row, by the statement. -/
def nextL (l : La) (k : Int) (xs : List St) : List St := xs.flatMap fun a => (stepsOf l k a).filter (onL l)
def fellB (l : La) (k : Int) (xs : List St) : Bool := xs.any fun a => (stepsOf l k a).any fun t => !onL l t
theorem nextL_snoc (l : La) (k : Int) (xs : List St) (a : St) : nextL l k (xs ++ [a]) = nextL l k xs ++ (stepsOf l k a).filter (onL l) := by simp [nextL]
theorem fellB_snoc (l : La) (k : Int) (xs : List St) (a : St) : fellB l k (xs ++ [a]) = (fellB l k xs || (stepsOf l k a).any fun t => !onL l t) := by simp [fellB]
theorem steps_len {l : La} (V : Valid l) (k : Int) (a : St) : (stepsOf l k a).length ≤ 7 ∧ 1 ≤ (stepsOf l k a).length := by
  have := hookOf_bd V k a.b
  simp only [stepsOf, List.length_map, turnsOf_len]
  omega
theorem steps_get {l : La} (k : Int) (a : St) (j : Nat) (h : j < (stepsOf l k a).length) : (stepsOf l k a)[j] = nextS a ((hookOf l k a.b).lo + j) := by
  simp [stepsOf, turnsOf_get]
theorem every_next {l : La} {s0 : St} (V : Valid l) (h0 : isStart l s0 = true) (k : Nat) : everyB (nextL l k (rowL l s0 k)) (rowL l s0 (k + 1)) = true := by
  simp only [everyB, List.all_eq_true, decide_eq_true_eq, nextL, List.mem_flatMap, List.mem_filter]
  rintro x ⟨a, ha, hx, hon⟩
  exact (mem_rowL V h0).2 ⟨hon, a, (mem_rowL V h0).1 ha, hx⟩
theorem every_back {l : La} {s0 : St} (V : Valid l) (h0 : isStart l s0 = true) (k : Nat) : everyB (rowL l s0 (k + 1)) (nextL l k (rowL l s0 k)) = true := by
  simp only [everyB, List.all_eq_true, decide_eq_true_eq, nextL, List.mem_flatMap, List.mem_filter]
  intro x hx
  obtain ⟨hon, a, ha, hs⟩ := (mem_rowL V h0).1 hx
  exact ⟨a, (mem_rowL V h0).2 ha, hs, hon⟩
theorem rowV_two {l : La} {s0 : St} (k : Nat) : rowV l s0 k = 2 ↔ (rowL l s0 k).length = 0 := by
  unfold rowV
  by_cases h : rowL l s0 k = []
  · simp [h]
  · rw [if_neg h]
    have : (rowL l s0 k).length ≠ 0 := fun e => h (List.eq_nil_of_length_eq_zero e)
    split <;> simp [this]
theorem rowV_next {l : La} {s0 : St} (V : Valid l) (h0 : isStart l s0 = true) (k : Nat) : rowV l s0 (k + 1) = 0 ↔ rowV l s0 k = 0 ∧ fellB l k (rowL l s0 k) = false := by
  have hz : ∀ k, rowV l s0 k = 0 ↔ rowL l s0 k ≠ [] ∧ (List.range k).any (gutB l s0) = false := by
    intro k
    unfold rowV
    by_cases h : rowL l s0 k = []
    · simp [h]
    · rw [if_neg h]
      cases (List.range k).any (gutB l s0) <;> simp [h]
  rw [hz, hz, List.range_succ, List.any_append]
  have hg : gutB l s0 k = fellB l k (rowL l s0 k) := rfl
  simp only [List.any_cons, List.any_nil, Bool.or_false, Bool.or_eq_false_iff, hg]
  constructor
  · rintro ⟨h1, h2, h3⟩
    refine ⟨⟨fun e => h1 ?_, h2⟩, h3⟩
    cases hn : rowL l s0 (k + 1) with
    | nil => rfl
    | cons t _ =>
      obtain ⟨_, a, ha, _⟩ := (mem_rowL V h0).1 (show t ∈ rowL l s0 (k + 1) by rw [hn]; simp)
      rw [← mem_rowL V h0, e] at ha
      cases ha
  · rintro ⟨⟨h1, h2⟩, h3⟩
    refine ⟨fun e => ?_, h2, h3⟩
    obtain ⟨a, ha⟩ := List.exists_mem_of_ne_nil _ h1
    have hl := (steps_len V k a).2
    have hm : (stepsOf l k a)[0] ∈ stepsOf l k a := List.getElem_mem _
    have hon : onL l (stepsOf l k a)[0] = true := by
      cases hc : onL l (stepsOf l k a)[0]
      · exfalso
        have : fellB l k (rowL l s0 k) = true := by
          simp only [fellB, List.any_eq_true]
          exact ⟨a, ha, _, hm, by simp [hc]⟩
        rw [this] at h3; cases h3
      · rfl
    have := (mem_rowL (k := k + 1) V h0).2 ⟨hon, a, (mem_rowL V h0).1 ha, hm⟩
    rw [e] at this; cases this
end Go.Proofs.Ytcfhbnfincpehaa

/- Path: truths of a ball (plain). -/
namespace Go.Proofs.Ytcfhbnfincpehaa

/-- A ball that has n rows still to go rolls so: by these turns, over these states, into the gutter or not. -/
inductive Truth (l : La) : Nat → Int → St → List Int → List St → Bool → Prop
  | last {row : Int} {s : St} : onL l s = true → Truth l 0 row s [] [s] false
  | off {n : Nat} {row : Int} {s : St} {t : Int} : onL l s = true → inR t (hookOf l row s.b) = true → onL l (nextS s t) = false → Truth l (n + 1) row s [t] [s] true
  | on {n : Nat} {row : Int} {s : St} {t : Int} {ts : List Int} {over : List St} {g : Bool} : onL l s = true → inR t (hookOf l row s.b) = true → Truth l n (row + 1) (nextS s t) ts over g → Truth l (n + 1) row s (t :: ts) (s :: over) g
theorem Truth.start {l : La} {n : Nat} {row : Int} {s : St} {ts : List Int} {over : List St} {g : Bool} (h : Truth l n row s ts over g) : onL l s = true := by cases h <;> assumption
theorem Truth.ne {l : La} {n : Nat} {row : Int} {s : St} {ts : List Int} {over : List St} {g : Bool} (h : Truth l n row s ts over g) : over ≠ [] := by cases h <;> simp
theorem Truth.len {l : La} {n : Nat} {row : Int} {s : St} {ts : List Int} {over : List St} {g : Bool} (h : Truth l n row s ts over g) : 1 ≤ over.length ∧ (g = false → over.length = n + 1) ∧ (g = true → over.length ≤ n) ∧ ts.length ≤ n := by
  induction h with
  | last _ => simp
  | off _ _ _ => simp
  | on _ _ _ ih =>
    obtain ⟨h1, h2, h3, h4⟩ := ih
    refine ⟨by simp, fun e => ?_, fun e => ?_, ?_⟩
    · simp [h2 e]
    · have := h3 e; simp; omega
    · simp; omega
theorem Truth.play {l : La} {n : Nat} {row : Int} {s : St} {ts : List Int} {over : List St} {g : Bool} (h : Truth l n row s ts over g) : ∀ out : List St, (out.length : Int) = row → row + n = l.rows - 1 → playR l (out ++ [s]) s ts = (out ++ over, g, true) := by
  induction h with
  | last _ =>
    intro out h1 h2
    rw [playR_nil]
    simp only [Prod.mk.injEq, true_and, decide_eq_true_eq]; simp; omega
  | off h1 h2 h3 =>
    intro out h4 h5
    rw [playR_off [] (by simp; omega) (by simpa [h4] using h2) h3]
    rfl
  | @on n row s t ts over g h1 h2 h3 ih =>
    intro out h4 h5
    rw [playR_on _ (by simp; omega) (by simpa [h4] using h2) h3.start]
    have := ih (out ++ [s]) (by simp [h4]) (by omega)
    rw [this]; simp
theorem Truth.playV {l : La} (V : Valid l) {s : St} {ts : List Int} {over : List St} {g : Bool} (h : Truth l (nR l) 0 s ts over g) : playV l s ts = (over, g, true) := by
  have r1 := V.r1
  have := h.play [] rfl (by unfold nR; omega)
  simpa [Go.Proofs.Ytcfhbnfincpehaa.playV] using this
theorem canN_off {l : La} {en : Bool → St → Bool} {s : St} (h : onL l s = false) (n : Nat) (row : Int) : canN l en n row s = en false s := by
  cases n <;> simp [canN, h]
theorem mem_step {l : La} {row : Int} {s : St} {t : Int} (h : inR t (hookOf l row s.b) = true) : nextS s t ∈ stepsOf l row s := by
  rw [mem_steps]
  simp only [inR, decide_eq_true_eq] at h
  exact ⟨t, h.1, h.2, rfl⟩
theorem step_mem {l : La} {row : Int} {s x : St} (h : x ∈ stepsOf l row s) : ∃ t, inR t (hookOf l row s.b) = true ∧ x = nextS s t := by
  rw [mem_steps] at h
  obtain ⟨t, h1, h2, h3⟩ := h
  exact ⟨t, by simp [inR, h1, h2], h3⟩
theorem Truth.can {l : La} {n : Nat} {row : Int} {s : St} {ts : List Int} {over : List St} {g : Bool} (h : Truth l n row s ts over g) (en : Bool → St → Bool) (hg : g = true → ∀ x, en false x = true) (hl : g = false → ∀ x, over.getLast? = some x → en true x = true) : canN l en n row s = true := by
  induction h with
  | last h1 => simp only [canN, h1]; exact hl rfl _ rfl
  | off h1 h2 h3 =>
    simp only [canN, h1, if_true, List.any_eq_true]
    exact ⟨_, mem_step h2, by rw [canN_off h3]; exact hg rfl _⟩
  | on h1 h2 h3 ih =>
    simp only [canN, h1, if_true, List.any_eq_true]
    refine ⟨_, mem_step h2, ih hg fun e x hx => hl e x ?_⟩
    rw [List.getLast?_cons, hx]; rfl
theorem can_truth {l : La} (en : Bool → St → Bool) : ∀ (n : Nat) (row : Int) (s : St), onL l s = true → canN l en n row s = true → ∃ ts over g, Truth l n row s ts over g ∧ (g = true → ∃ x, en false x = true) ∧ (g = false → ∃ x, over.getLast? = some x ∧ en true x = true)
  | 0, row, s, h1, h2 => ⟨[], [s], false, .last h1, (fun e => by cases e), fun _ => ⟨s, rfl, by simpa [canN, h1] using h2⟩⟩
  | n + 1, row, s, h1, h2 => by
    simp only [canN, h1, if_true, List.any_eq_true] at h2
    obtain ⟨x, hx, hc⟩ := h2
    obtain ⟨t, ht, rfl⟩ := step_mem hx
    cases hon : onL l (nextS s t)
    · rw [canN_off hon] at hc
      exact ⟨[t], [s], true, .off h1 ht hon, fun _ => ⟨_, hc⟩, fun e => by cases e⟩
    · obtain ⟨ts, over, g, hT, ha, hb⟩ := can_truth en n (row + 1) _ hon hc
      refine ⟨t :: ts, s :: over, g, .on h1 ht hT, ha, fun e => ?_⟩
      obtain ⟨x, hx, hy⟩ := hb e
      exact ⟨x, by rw [List.getLast?_cons, hx]; rfl, hy⟩
theorem hook_in {l : La} (V : Valid l) (row b : Int) : inR (hookOf l row b).lo (hookOf l row b) = true := by
  have := hookOf_bd V row b
  simp [inR]; omega
/-- From each state on the ball has a truth. -/
theorem has_truth {l : La} (V : Valid l) : ∀ (n : Nat) (row : Int) (s : St), onL l s = true → ∃ ts over g, Truth l n row s ts over g
  | 0, row, s, h => ⟨_, _, _, .last h⟩
  | n + 1, row, s, h => by
    have hi := hook_in V row s.b
    cases hon : onL l (nextS s (hookOf l row s.b).lo)
    · exact ⟨_, _, _, .off h hi hon⟩
    · obtain ⟨ts, over, g, hT⟩ := has_truth V n (row + 1) _ hon
      exact ⟨_, _, _, .on h hi hT⟩

/-- The greatest board. -/
def maxB (xs : List St) : Int := xs.foldl (fun n x => max n x.b) 0
theorem foldl_max (xs : List St) : ∀ m : Int, xs.foldl (fun n x => max n x.b) m = max m (xs.foldl (fun n x => max n x.b) m) ∧ ∀ m2 : Int, xs.foldl (fun n x => max n x.b) (max m m2) = max m (xs.foldl (fun n x => max n x.b) m2) := by
  induction xs with
  | nil => intro m; exact ⟨by simp, fun _ => rfl⟩
  | cons x xs ih =>
    intro m
    simp only [List.foldl_cons]
    refine ⟨?_, fun m2 => ?_⟩
    · have := (ih m).2 x.b; omega
    · rw [Int.max_assoc]; exact (ih m).2 _
theorem maxB_nonneg (xs : List St) : 0 ≤ maxB xs := by
  have := (foldl_max xs 0).1
  unfold maxB; omega
theorem maxB_cons (x : St) (xs : List St) (h : 0 ≤ x.b) : maxB (x :: xs) = max x.b (maxB xs) := by
  have h1 := (foldl_max xs x.b).2 0
  unfold maxB
  rw [List.foldl_cons, ← h1, Int.max_comm]
theorem maxB_one (x : St) (h : 0 ≤ x.b) : maxB [x] = x.b := by simp [maxB]; omega
theorem widen_fold (rs : List Rg) : ∀ o : Rg, (rs.foldl widen o).lo ≤ o.lo ∧ o.hi ≤ (rs.foldl widen o).hi ∧ (∀ r ∈ rs, (rs.foldl widen o).lo ≤ r.lo ∧ r.hi ≤ (rs.foldl widen o).hi) ∧
    ((rs.foldl widen o).lo = o.lo ∨ ∃ r ∈ rs, (rs.foldl widen o).lo = r.lo) ∧ ((rs.foldl widen o).hi = o.hi ∨ ∃ r ∈ rs, (rs.foldl widen o).hi = r.hi) := by
  induction rs with
  | nil => intro o; simp
  | cons r rs ih =>
    intro o
    obtain ⟨h1, h2, h3, h4, h5⟩ := ih (widen o r)
    simp only [List.foldl_cons]
    have e1 : (widen o r).lo = min o.lo r.lo := rfl
    have e2 : (widen o r).hi = max o.hi r.hi := rfl
    refine ⟨by omega, by omega, fun x hx => ?_, ?_, ?_⟩
    · rcases List.mem_cons.1 hx with rfl | hx
      · omega
      · exact h3 x hx
    · rcases h4 with h4 | ⟨x, hx, h4⟩
      · rcases Int.le_total o.lo r.lo with h | h
        · exact .inl (by omega)
        · exact .inr ⟨r, by simp, by omega⟩
      · exact .inr ⟨x, by simp [hx], h4⟩
    · rcases h5 with h5 | ⟨x, hx, h5⟩
      · rcases Int.le_total o.hi r.hi with h | h
        · exact .inr ⟨r, by simp, by omega⟩
        · exact .inl (by omega)
      · exact .inr ⟨x, by simp [hx], h5⟩
theorem on_b {l : La} {s : St} (h : onL l s = true) : 1 ≤ s.b ∧ s.b ≤ l.boards := by simpa [onL] using h
theorem turnN_off {l : La} {s : St} (h : onL l s = false) (n : Nat) (row : Int) : turnN l n row s = ⟨0, 0⟩ := by cases n <;> simp [turnN, h]
theorem turnN_on {l : La} {s : St} (h : onL l s = true) (n : Nat) (row : Int) : turnN l (n + 1) row s = ⟨max (((stepsOf l row s).map (turnN l n (row + 1))).foldl widen ⟨40, 0⟩).lo s.b, max (((stepsOf l row s).map (turnN l n (row + 1))).foldl widen ⟨40, 0⟩).hi s.b⟩ := by simp [turnN, h]
theorem Truth.turn {l : La} {n : Nat} {row : Int} {s : St} {ts : List Int} {over : List St} {g : Bool} (h : Truth l n row s ts over g) : (turnN l n row s).lo ≤ maxB over ∧ maxB over ≤ (turnN l n row s).hi := by
  induction h with
  | last h1 =>
    have := on_b h1
    rw [maxB_one _ (by omega)]
    simp [turnN, h1]
  | @off n row s t h1 h2 h3 =>
    have := on_b h1
    obtain ⟨_, _, w3, _, _⟩ := widen_fold ((stepsOf l row s).map (turnN l n (row + 1))) ⟨40, 0⟩
    obtain ⟨w4, w5⟩ := w3 _ (List.mem_map.2 ⟨_, mem_step h2, rfl⟩)
    rw [turnN_off h3] at w4 w5
    rw [maxB_one _ (by omega), turnN_on h1]
    simp only at w4 w5 ⊢
    omega
  | @on n row s t ts over g h1 h2 h3 ih =>
    have := on_b h1
    obtain ⟨_, _, w3, _, _⟩ := widen_fold ((stepsOf l row s).map (turnN l n (row + 1))) ⟨40, 0⟩
    obtain ⟨w4, w5⟩ := w3 _ (List.mem_map.2 ⟨_, mem_step h2, rfl⟩)
    rw [maxB_cons _ _ (by omega), turnN_on h1]
    simp only
    omega
/-- Both ends of the range are had. -/
theorem turn_truth {l : La} (V : Valid l) : ∀ (n : Nat) (row : Int) (s : St), onL l s = true → (∃ ts over g, Truth l n row s ts over g ∧ maxB over = (turnN l n row s).lo) ∧ (∃ ts over g, Truth l n row s ts over g ∧ maxB over = (turnN l n row s).hi)
  | 0, row, s, h => by
    have := on_b h
    have e : turnN l 0 row s = ⟨s.b, s.b⟩ := by simp [turnN, h]
    rw [e]
    exact ⟨⟨_, _, _, .last h, maxB_one _ (by omega)⟩, ⟨_, _, _, .last h, maxB_one _ (by omega)⟩⟩
  | n + 1, row, s, h => by
    have hb := on_b h
    have b2 := V.b2
    obtain ⟨w1, w2, w3, w4, w5⟩ := widen_fold ((stepsOf l row s).map (turnN l n (row + 1))) ⟨40, 0⟩
    have hi := hook_in V row s.b
    have hm := mem_step (l := l) (row := row) (s := s) hi
    rw [turnN_on h]
    simp only at w1 w2 w4 w5 ⊢
    -- one step, that has this end
    have key : ∀ (x : St), x ∈ stepsOf l row s → (∃ ts over g, Truth l (n + 1) row s ts over g ∧ maxB over = max s.b (turnN l n (row + 1) x).lo) ∧ (∃ ts over g, Truth l (n + 1) row s ts over g ∧ maxB over = max s.b (turnN l n (row + 1) x).hi) := by
      intro x hx
      obtain ⟨t, ht, rfl⟩ := step_mem hx
      cases hon : onL l (nextS s t)
      · rw [turnN_off hon]
        have e : max s.b 0 = s.b := by omega
        rw [e]
        exact ⟨⟨_, _, _, .off h ht hon, maxB_one _ (by omega)⟩, ⟨_, _, _, .off h ht hon, maxB_one _ (by omega)⟩⟩
      · obtain ⟨⟨ts, over, g, hT, he⟩, ⟨ts2, over2, g2, hT2, he2⟩⟩ := turn_truth V n (row + 1) _ hon
        exact ⟨⟨_, _, _, .on h ht hT, by rw [maxB_cons _ _ (by omega), he]⟩, ⟨_, _, _, .on h ht hT2, by rw [maxB_cons _ _ (by omega), he2]⟩⟩
    have bd : ∀ x, x ∈ stepsOf l row s → (turnN l n (row + 1) x).lo ≤ 40 ∧ 0 ≤ (turnN l n (row + 1) x).hi := by
      intro x hx
      cases hon : onL l x
      · rw [turnN_off hon]; simp
      · obtain ⟨⟨ts, over, g, hT, he⟩, ⟨ts2, over2, g2, hT2, he2⟩⟩ := turn_truth V n (row + 1) _ hon
        refine ⟨?_, ?_⟩
        · rw [← he]
          have key2 : ∀ xs : List St, (∀ x ∈ xs, x.b ≤ 40) → maxB xs ≤ 40 := by
            intro xs
            have : ∀ m : Int, m ≤ 40 → (∀ x ∈ xs, x.b ≤ 40) → xs.foldl (fun n x => max n x.b) m ≤ 40 := by
              induction xs with
              | nil => intro m hm _; exact hm
              | cons y ys ih =>
                intro m hm hy
                rw [List.foldl_cons]
                exact ih _ (by have := hy y (by simp); omega) (fun x hx => hy x (by simp [hx]))
            exact this 0 (by omega)
          refine key2 _ fun y hy => ?_
          have allon : ∀ {n : Nat} {row : Int} {s : St} {ts : List Int} {over : List St} {g : Bool}, Truth l n row s ts over g → ∀ y ∈ over, onL l y = true := by
            intro n row s ts over g hT
            induction hT with
            | last h => intro y hy; rw [List.mem_singleton.1 hy]; exact h
            | off h _ _ => intro y hy; rw [List.mem_singleton.1 hy]; exact h
            | on h _ _ ih => intro y hy; rcases List.mem_cons.1 hy with rfl | hy; exact h; exact ih y hy
          have := on_b (allon hT y hy)
          omega
        · rw [← he2]; exact maxB_nonneg _
    refine ⟨?_, ?_⟩
    · rcases w4 with w4 | ⟨r, hr, w4⟩
      · have hx := w3 _ (List.mem_map.2 ⟨_, hm, rfl⟩)
        have hy := bd _ hm
        obtain ⟨ts, over, g, hT, he⟩ := (key _ hm).1
        exact ⟨ts, over, g, hT, by rw [he]; omega⟩
      · obtain ⟨x, hx, rfl⟩ := List.mem_map.1 hr
        obtain ⟨ts, over, g, hT, he⟩ := (key _ hx).1
        exact ⟨ts, over, g, hT, by rw [he, w4, Int.max_comm]⟩
    · rcases w5 with w5 | ⟨r, hr, w5⟩
      · have hx := w3 _ (List.mem_map.2 ⟨_, hm, rfl⟩)
        have hy := bd _ hm
        obtain ⟨ts, over, g, hT, he⟩ := (key _ hm).2
        exact ⟨ts, over, g, hT, by rw [he]; omega⟩
      · obtain ⟨x, hx, rfl⟩ := List.mem_map.1 hr
        obtain ⟨ts, over, g, hT, he⟩ := (key _ hx).2
        exact ⟨ts, over, g, hT, by rw [he, w5, Int.max_comm]⟩
theorem Truth.allon {l : La} {n : Nat} {row : Int} {s : St} {ts : List Int} {over : List St} {g : Bool} (h : Truth l n row s ts over g) : ∀ y ∈ over, onL l y = true := by
  induction h with
  | last h => intro y hy; rw [List.mem_singleton.1 hy]; exact h
  | off h _ _ => intro y hy; rw [List.mem_singleton.1 hy]; exact h
  | on h _ _ ih =>
    intro y hy
    rcases List.mem_cons.1 hy with rfl | hy
    · exact h
    · exact ih y hy
/-- Its states are reached in their rows. -/
theorem Truth.rch {l : La} {s0 : St} {n : Nat} {row : Int} {s : St} {ts : List Int} {over : List St} {g : Bool} (h : Truth l n row s ts over g) : ∀ k : Nat, (k : Int) = row → Rch l s0 k s → ∀ (i : Nat) (x : St), over[i]? = some x → Rch l s0 (k + i) x := by
  induction h with
  | last h1 =>
    intro k _ hr i x hx
    cases i with
    | zero => simp at hx; subst hx; exact hr
    | succ i => simp at hx
  | off h1 _ _ =>
    intro k _ hr i x hx
    cases i with
    | zero => simp at hx; subst hx; exact hr
    | succ i => simp at hx
  | on h1 h2 h3 ih =>
    intro k hk hr i x hx
    cases i with
    | zero => simp at hx; subst hx; exact hr
    | succ i =>
      have := ih (k + 1) (by omega) ⟨h3.start, _, hr, by rw [hk]; exact mem_step h2⟩ i x (by simpa using hx)
      rwa [show k + (i + 1) = k + 1 + i by omega]
theorem Truth.gut {l : La} {s0 : St} {n : Nat} {row : Int} {s : St} {ts : List Int} {over : List St} {g : Bool} (h : Truth l n row s ts over g) : ∀ k : Nat, (k : Int) = row → Rch l s0 k s → g = true → Gut l s0 (k + over.length - 1) := by
  induction h with
  | last h1 => intro k _ _ e; cases e
  | off h1 h2 h3 =>
    intro k hk hr _
    simp only [List.length_singleton, Nat.add_sub_cancel]
    exact ⟨_, hr, _, by rw [hk]; exact mem_step h2, h3⟩
  | @on n row s t ts over g h1 h2 h3 ih =>
    intro k hk hr e
    have := ih (k + 1) (by omega) ⟨h3.start, _, hr, by rw [hk]; exact mem_step h2⟩ e
    simp only [List.length_cons]
    exact (show k + 1 + over.length - 1 = k + (over.length + 1) - 1 by omega) ▸ this
/-- A truth from a state that is reached is one from the beginning. -/
theorem rch_truth {l : La} {s0 : St} (h0 : onL l s0 = true) : ∀ (k n : Nat) (t : St) (ts : List Int) (over : List St) (g : Bool), Rch l s0 k t → Truth l n k t ts over g → ∃ ts' pre, pre.length = k ∧ Truth l (n + k) 0 s0 ts' (pre ++ over) g
  | 0, n, t, ts, over, g, hr, hT => by cases hr; exact ⟨ts, [], rfl, hT⟩
  | k + 1, n, t, ts, over, g, ⟨_, s, hr, hx⟩, hT => by
    obtain ⟨u, hu, rfl⟩ := step_mem hx
    obtain ⟨ts', pre, h1, h2⟩ := rch_truth h0 k (n + 1) s (u :: ts) (s :: over) g hr (.on (Rch.on h0 hr) hu (by exact_mod_cast hT))
    exact ⟨ts', pre ++ [s], by simp [h1], by rw [show n + (k + 1) = n + 1 + k by omega]; simpa using h2⟩
theorem gut_truth {l : La} {s0 : St} (h0 : onL l s0 = true) (k n : Nat) (h : Gut l s0 k) : ∃ ts over, over.length = k + 1 ∧ Truth l (n + 1 + k) 0 s0 ts over true := by
  obtain ⟨s, hr, x, hx, hoff⟩ := h
  obtain ⟨u, hu, rfl⟩ := step_mem hx
  obtain ⟨ts', pre, h1, h2⟩ := rch_truth h0 k (n + 1) s [u] [s] true hr (.off (Rch.on h0 hr) hu hoff)
  exact ⟨ts', pre ++ [s], by simp [h1], h2⟩
/-- Whether it hits. -/
def hitB (p : Pk) (over : List St) (g : Bool) : Bool := !g && (match over.getLast? with | some x => inR x.b p.boards && inR x.d p.dirs | none => false)
theorem Truth.hits {l : La} {s : St} {ts : List Int} {over : List St} {g : Bool} (h : Truth l (nR l) 0 s ts over g) (p : Pk) : (hitsV l s p = 2 → hitB p over g = true) ∧ (hitsV l s p = 0 → hitB p over g = false) := by
  have hm : hitB p over g = false → canN l (enM p) (nR l) 0 s = true := fun hb => h.can _ (fun _ x => by simp [enM, hitsP]) fun e x hx => by
    subst e
    simp only [hitB, hx, Bool.not_false, Bool.true_and] at hb
    simp only [enM, hitsP, Bool.true_and, hb, Bool.not_false]
  have hh : hitB p over g = true → canN l (hitsP p) (nR l) 0 s = true := fun hb => h.can _ (fun e x => by subst e; simp [hitB] at hb) fun e x hx => by
    subst e
    simp only [hitB, hx, Bool.not_false, Bool.true_and] at hb
    simpa only [hitsP, Bool.true_and] using hb
  unfold hitsV
  constructor
  · intro e
    cases hb : hitB p over g
    · rw [hm hb, if_pos rfl] at e; split at e <;> simp at e
    · rfl
  · intro e
    cases hb : hitB p over g
    · rfl
    · rw [hh hb, if_pos rfl] at e; split at e <;> simp at e
end Go.Proofs.Ytcfhbnfincpehaa

/- Path: word, Picked; Play, Reach and the others by a truth. -/
namespace Go.Proofs.Ytcfhbnfincpehaa
open Go.RowKit Go.Shelf

def encU (n : Int) : List Value := [.int .u16 n]
instance : Rec encU 1 := ⟨fun _ => rfl, by decide⟩
/-- One of some words; 0, if there is none. -/
def wordV (ws : List Int) (n : Nat) : Int := if h : 0 < ws.length then ws[n % ws.length]'(Nat.mod_lt _ h) else 0
def wordsOk (ws : List Int) : Prop := ∀ x ∈ ws, 0 ≤ x ∧ x ≤ 65535
theorem wordV_bd {ws : List Int} (h : wordsOk ws) (n : Nat) : 0 ≤ wordV ws n ∧ wordV ws n ≤ 65535 := by
  unfold wordV
  split
  · exact h _ (List.getElem_mem _)
  · omega
theorem lword_j (ws : List Int) (n : Nat) (a : Option Addr) (cap : Nat) (h : wordsOk ws) : Cv Try.prog 84 [.slice a ws.length cap, I n] (KSl a ws.length cap encU ws) (I (wordV ws n)) := by
  refine Cx_of Try.func84 rfl Try.ntmps84 rfl fun w0 M0 => ?_
  refine JC_seq ?_
  refine JC_region ?_
  refine JL_pd rfl (det_assign rfl) ?_
  refine JL_nil ?_
  refine JE_seq ?_
  refine JC_seq ?_
  refine JC_seq ?_
  refine JC_region ?_
  refine JL_pd rfl (det_move rfl) ?_
  refine JL_pd rfl (det_len rfl Try.runUnderlying93) ?_
  refine JL_pd rfl (det_eql rfl rfl) ?_
  refine JL_nil ?_
  refine JE_seq ?_
  -- stop: cond
  refine JC_if rfl (fun h1 => ?_) (fun h1 => ?_)
  · refine JC_seq ?_
    refine JC_region ?_
    refine JL_pd rfl (det_assign rfl) ?_
    refine JL_nil ?_
    refine JE_seq ?_
    refine JC_ret ?_
    refine JE_seq_ret ?_
    -- stop: out
    refine JE_out (.inl rfl) () (results1 Try.results84 (res_tmp rfl)) (by unfold wordV; rw [dif_neg (by omega)]) (List.Perm.refl _) (fun _ _ => trivial)
  · have hpos : 0 < ws.length := by omega
    have hlt : n % ws.length < ws.length := Nat.mod_lt _ hpos
    have hm : ((n : Int).tmod (ws.length : Int)) = ((n % ws.length : Nat) : Int) := by rw [Int.tmod_eq_emod_of_nonneg (by omega)]; rfl
    have hb := h _ (List.getElem_mem hlt)
    have e : wordV ws n = ws[n % ws.length] := by unfold wordV; rw [dif_pos hpos]
    refine JC_skip ?_
    refine JE_seq ?_
    refine JC_seq ?_
    refine JC_region ?_
    refine JL_pd rfl (det_move rfl) ?_
    refine JL_pd rfl (det_move rfl) ?_
    refine JL_pd rfl (det_move rfl) ?_
    refine JL_pd rfl (det_len rfl Try.runUnderlying93) ?_
    refine JL_pd rfl (det_rem rfl rfl (by omega)) ?_
    -- stop: op  5 t13 := (indexAddr 93 t8 t12)   <0 4>   41
    rw [hm]
    refine JL_dt rfl (det_indexAddr (i := n % ws.length) rfl rfl rfl hlt Try.runUnderlying93 Try.sizeOf162) ?_
    refine JL_dt rfl (det_loadE rfl (by first | assumption | omega | decide) Try.isAgg162 rfl rfl) ?_
    refine JL_pd rfl (det_convI rfl Try.runUnderlying162 Try.runUnderlying3 (i64_wrap ⟨by omega, by omega⟩)) ?_
    refine JL_pd rfl (det_assign rfl) ?_
    refine JL_nil ?_
    refine JE_seq ?_
    refine JC_ret ?_
    -- stop: out
    refine JE_out (.inl rfl) () (results1 Try.results84 (res_tmp rfl)) (by rw [e]) (List.Perm.refl _) (fun _ _ => trivial)
/-- A truth of a ball, by words: n rows before the last one. -/
def pickL (l : La) (ws : List Int) : Nat → Nat → St → List Int
  | 0, _, _ => []
  | n + 1, row, s => if onL l s = true then
      ((hookOf l row s.b).lo + (wordV ws row).tmod ((hookOf l row s.b).hi - (hookOf l row s.b).lo + 1)) :: pickL l ws n (row + 1) (nextS s ((hookOf l row s.b).lo + (wordV ws row).tmod ((hookOf l row s.b).hi - (hookOf l row s.b).lo + 1))) else []
theorem pick_in {l : La} (V : Valid l) {ws : List Int} (h : wordsOk ws) (row : Nat) (s : St) : inR ((hookOf l row s.b).lo + (wordV ws row).tmod ((hookOf l row s.b).hi - (hookOf l row s.b).lo + 1)) (hookOf l row s.b) = true := by
  have h1 := hookOf_bd V row s.b
  have h2 := Int.tmod_nonneg ((hookOf l row s.b).hi - (hookOf l row s.b).lo + 1) (wordV_bd h row).1
  have h3 := Int.tmod_lt_of_pos (wordV ws row) (show 0 < (hookOf l row s.b).hi - (hookOf l row s.b).lo + 1 by omega)
  simp only [inR, decide_eq_true_eq]; omega
theorem pick_truth {l : La} (V : Valid l) {ws : List Int} (h : wordsOk ws) : ∀ (n row : Nat) (s : St), onL l s = true → ∃ over g, Truth l n row s (pickL l ws n row s) over g
  | 0, row, s, h1 => ⟨_, _, .last h1⟩
  | n + 1, row, s, h1 => by
    have hi := pick_in V h row s
    simp only [pickL, h1, if_true]
    cases hon : onL l (nextS s ((hookOf l row s.b).lo + (wordV ws row).tmod ((hookOf l row s.b).hi - (hookOf l row s.b).lo + 1)))
    · have e : ∀ n row, pickL l ws n row (nextS s ((hookOf l row s.b).lo + (wordV ws row).tmod ((hookOf l row s.b).hi - (hookOf l row s.b).lo + 1))) = pickL l ws n row (nextS s ((hookOf l row s.b).lo + (wordV ws row).tmod ((hookOf l row s.b).hi - (hookOf l row s.b).lo + 1))) := fun _ _ => rfl
      clear e
      have e : pickL l ws n (row + 1) (nextS s ((hookOf l row s.b).lo + (wordV ws row).tmod ((hookOf l row s.b).hi - (hookOf l row s.b).lo + 1))) = [] := by
        cases n with
        | zero => rfl
        | succ n => rw [pickL, if_neg (by rw [hon]; decide)]
      rw [e]
      exact ⟨_, _, .off h1 hi hon⟩
    · obtain ⟨over, g, hT⟩ := pick_truth V h n (row + 1) _ hon
      exact ⟨_, _, .on h1 hi (by exact_mod_cast hT)⟩
set_option maxRecDepth 100000 in
theorem lPicked_j (l : La) (s : St) (ws : List Int) (ha pa : Option Addr) (hc pc : Nat) (wa : Option Addr) (wc : Nat) (V : Valid l) (h0 : isStart l s = true) (hw : wordsOk ws) :
    Cr Try.prog 48 [.agg #[I l.boards, I l.rows, .slice ha l.hooks.length hc, .slice pa l.patches.length pc], .agg #[I s.b, I s.d], .slice wa ws.length wc] (KAnd (KSl wa ws.length wc encU ws) (KLane l ha hc pa pc)) (fun q : Option Addr × Nat => .slice q.1 (pickL l ws (nR l) 0 s).length q.2) (fun q => KSl q.1 (pickL l ws (nR l) 0 s).length q.2 encI (pickL l ws (nR l) 0 s)) := by
  have r1 := V.r1
  have r2 := V.r2
  have b2 := V.b2
  have sb : 1 ≤ s.b ∧ s.b ≤ l.boards ∧ -5 ≤ s.d ∧ s.d ≤ 5 := by simpa [isStart] using h0
  have hnr : ((nR l : Nat) : Int) = l.rows - 1 := by unfold nR; omega
  refine Cx_of Try.func48 rfl Try.ntmps48 rfl fun w0 M0 => ?_
  refine JC_seq ?_
  refine JC_region ?_
  refine JL_step rfl rfl rfl (jo_box rfl rfl) fun b3 => ?_
  refine JL_step rfl rfl rfl (jo_box rfl rfl) fun b4 => ?_
  refine JL_pd rfl (det_assign rfl) ?_
  refine JL_nil ?_
  refine JE_seq ?_
  refine JC_seq ?_
  refine JC_region ?_
  refine JL_pd rfl (det_assign rfl) ?_
  refine JL_nil ?_
  refine JE_seq ?_
  refine JC_seq ?_
  refine JC_seq ?_
  refine JC_region ?_
  refine JL_pd rfl (det_assign rfl) ?_
  refine JL_nil ?_
  refine JE_seq ?_
  refine JC_block ?_
  -- stop: loop
  refine JC_nil 3 1 ?_
  refine JC_loopF (γ := Nat × List Int × St × Value) (fun q => q.1 ≤ nR l ∧ q.2.1 ++ pickL l ws (nR l - q.1) q.1 q.2.2.1 = pickL l ws (nR l) 0 s ∧ q.2.1.length ≤ q.1 ∧ (-5 ≤ q.2.2.1.d ∧ q.2.2.1.d ≤ 5) ∧ -10 ≤ q.2.2.1.b ∧ q.2.2.1.b ≤ 50)
    (fun q => [(8, I q.1), (7, q.2.2.2)]) (fun q => [ow q.2.2.2 3 1 q.2.1.length (q.2.1.flatMap encI), bx b4 [I q.2.2.1.b, I q.2.2.1.d]]) (fun q => nR l - q.1) (0, [], s, .slice none 0 0) ⟨by omega, rfl, by simp, sb.2.2, by simp only; omega⟩ (stsub_cons rfl (stsub_cons rfl stsub_nil)) (ht_ow rfl rfl (ht_cons ht_nil)) ?_
  rintro ⟨i, L, s', v⟩ ⟨hi, hL, hLl, hd, hb⟩ K hK
  dsimp only [List.cons_append, List.nil_append] at hi hL hLl hd hb ⊢
  refine JC_seq ?_
  refine JC_seq ?_
  refine JC_region ?_
  refine JL_pd rfl (det_move rfl) ?_
  refine JL_pd rfl (det_add rfl rfl ⟨by omega, by omega⟩) ?_
  refine JL_pd rfl (det_fieldAddr rfl fo_25_1) ?_
  refine JL_dt rfl (det_loadK rfl Try.isAgg3 rfl) ?_
  refine JL_pd rfl (det_lss rfl rfl) ?_
  refine JL_pd rfl (det_move rfl) ?_
  -- stop: guard 5
  refine JL_join1 6 22 (.bool (decide ((i : Int) + 1 < l.rows) && onL l s')) (fun hj => ?_) ?_
  · refine JL_split (d0 := 16) rfl (fun q1 => ?_) (fun q1 => ?_)
    · refine JL_guard rfl rfl q1 ?_
      refine JL_pd rfl (det_fieldAddr rfl fo_27_0) ?_
      refine JL_guard rfl rfl q1 ?_
      refine JL_dt rfl (det_loadK rfl Try.isAgg3 rfl) ?_
      refine JL_guard rfl rfl q1 ?_
      refine JL_pd rfl (det_fieldAddr rfl fo_25_0) ?_
      refine JL_guard rfl rfl q1 ?_
      refine JL_dt rfl (det_loadK rfl Try.isAgg3 rfl) ?_
      refine JL_guard rfl rfl q1 ?_
      refine JL_step rfl rfl rfl (jo_callv rfl rfl Try.call22 rfl (rIn_j _ _ _)) fun _ => ?_
      refine JL_pd rfl (det_pick_t rfl q1 rfl) ?_
      exact hj (by kernel_rfl) (stsub_consB rfl (by clear hj; first | rfl | (simp only [onL, q1, Bool.and_true, Bool.true_and, Bool.false_and, Bool.and_false, Bool.or_true, Bool.true_or, Bool.or_false, Bool.false_or, Bool.not_true, Bool.not_false]; done) | (simp [onL, q1]; done) | (simp [onL] at q1; done) | (simp [onL, q1] <;> omega) | (exfalso; simp [onL] at q1; omega)) stsub_nil)
    · refine JL_skip rfl rfl q1 rfl ?_
      refine JL_skip rfl rfl q1 rfl ?_
      refine JL_skip rfl rfl q1 rfl ?_
      refine JL_skip rfl rfl q1 rfl ?_
      refine JL_skip rfl rfl q1 rfl ?_
      refine JL_pd rfl (det_pick_f rfl q1 rfl) ?_
      exact hj (by kernel_rfl) (stsub_consB rfl (by clear hj; first | rfl | (simp only [onL, q1, Bool.and_true, Bool.true_and, Bool.false_and, Bool.and_false, Bool.or_true, Bool.true_or, Bool.or_false, Bool.false_or, Bool.not_true, Bool.not_false]; done) | (simp [onL, q1]; done) | (simp [onL] at q1; done) | (simp [onL, q1] <;> omega) | (exfalso; simp [onL] at q1; omega)) stsub_nil)
  refine JL_nil ?_
  refine JE_seq ?_
  -- stop: cond
  refine JC_cond rfl (fun h1 => ?_) (fun h1 => ?_)
  · simp only [Bool.and_eq_true, decide_eq_true_eq] at h1
    obtain ⟨n, hn⟩ : ∃ n, nR l - i = n + 1 := ⟨nR l - i - 1, by omega⟩
    have hn2 : nR l - (i + 1) = n := by omega
    have hh := hookOf_bd V i s'.b
    have hon := on_b h1.2
    have hp := pick_in V hw i s'
    have hwb := wordV_bd hw i
    obtain ⟨t, ht⟩ : ∃ t, t = (hookOf l i s'.b).lo + (wordV ws i).tmod ((hookOf l i s'.b).hi - (hookOf l i s'.b).lo + 1) := ⟨_, rfl⟩
    rw [← ht] at hp
    have hp2 : (hookOf l i s'.b).lo ≤ t ∧ t ≤ (hookOf l i s'.b).hi := by simpa [inR] using hp
    rw [hn, pickL, if_pos h1.2, ← ht] at hL
    refine JC_skip ?_
    refine JE_seq ?_
    refine JC_seq ?_
    refine JC_block ?_
    refine JC_seq ?_
    refine JC_region ?_
    refine JL_dt rfl (det_loadKA rfl Try.isAgg25 Try.sizeOf25 rfl rfl) ?_
    refine JL_pd rfl (det_move rfl) ?_
    refine JL_pd rfl (det_fieldAddr rfl fo_27_0) ?_
    refine JL_dt rfl (det_loadK rfl Try.isAgg3 rfl) ?_
    refine JL_step rfl rfl rfl (jo_callv rfl rfl Try.call37 rfl (rHook_j l i s'.b ha pa hc pc V)) fun _ => ?_
    refine JL_step rfl rfl rfl (jo_alloc0 Try.zeroValue53 rfl) fun b9 => ?_
    refine JL_step0 rfl rfl (jo_store rfl rfl rfl (by first | (simp only [splice_norm]; done) | (simp only [splice_norm]; rfl) | rfl) Try.sizeOf53 rfl rfl) fun _ => ?_
    refine JL_nil ?_
    refine JE_seq ?_
    refine JC_seq ?_
    refine JC_draw [] (by kernel_rfl) ?_
    refine JA_pd (i := 0) rfl (by kernel_rfl) rfl rfl (det_fieldAddr rfl fo_53_0) ?_
    refine JA_dt (i := 1) rfl (by kernel_rfl) (by kernel_rfl) rfl rfl (det_loadK rfl Try.isAgg3 rfl) ?_
    refine JA_pd (i := 2) rfl (by kernel_rfl) rfl rfl (det_move rfl) ?_
    refine JA_pd (i := 3) rfl (by kernel_rfl) rfl rfl (det_move rfl) ?_
    refine JA_pd (i := 5) rfl (by kernel_rfl) rfl rfl (det_fieldAddr rfl fo_53_1) ?_
    refine JA_dt (i := 6) rfl (by kernel_rfl) (by kernel_rfl) rfl rfl (det_loadK rfl Try.isAgg3 rfl) ?_
    refine JA_pd (i := 7) rfl (by kernel_rfl) rfl rfl (det_fieldAddr rfl fo_53_0) ?_
    refine JA_dt (i := 8) rfl (by kernel_rfl) (by kernel_rfl) rfl rfl (det_loadK rfl Try.isAgg3 rfl) ?_
    refine JA_pd (i := 9) rfl (by kernel_rfl) rfl rfl (det_sub rfl rfl ⟨by omega, by omega⟩) ?_
    refine JA_pd (i := 10) rfl (by kernel_rfl) rfl rfl (det_add rfl rfl ⟨by omega, by omega⟩) ?_
    refine JA_one (i := 4) (by kernel_rfl) rfl rfl (jo_callv rfl rfl Try.call84 rfl (lword_j ws i wa wc hw)) (fun _ => ⟨hsub_refl, fun _ h => h⟩) fun _ => ?_
    refine JA_pd (i := 11) rfl (by kernel_rfl) rfl rfl (det_rem rfl rfl (by omega)) ?_
    -- stop: op 12 t42 := (binOp add 3 t31 t41 3)   <1 11>   49
    refine JA_pd (i := 12) rfl (by kernel_rfl) rfl rfl (det_add rfl rfl ⟨by rw [← ht]; omega, by rw [← ht]; omega⟩) ?_
    refine JA_pd (i := 13) rfl (by kernel_rfl) rfl rfl (det_assign rfl) ?_
    refine JA_done (by kernel_rfl) ?_
    refine JE_seq ?_
    refine JC_seq ?_
    refine JC_region ?_
    refine JL_pd rfl (det_move rfl) ?_
    refine JL_pd rfl (det_move rfl) ?_
    refine JL_step rfl rfl rfl (jo_buildSlice rfl (bsl_75_1_0 _)) fun b45 => ?_
    refine JL_step rfl rfl rfl (jo_append el_75 rfl rfl rfl rfl (by omega)) fun b46 => ?_
    refine JL_pd rfl (det_assign rfl) ?_
    refine JL_nil ?_
    refine JE_seq ?_
    refine JC_region ?_
    refine JL_dt rfl (det_loadKA rfl Try.isAgg27 Try.sizeOf27 rfl rfl) ?_
    refine JL_pd rfl (det_move rfl) ?_
    -- stop: op  2 t49 := (call (Call (value f38) (t47 t48) (27 3)))   <0 1>   51
    rw [← ht]
    refine JL_step rfl rfl rfl (jo_callv rfl rfl Try.call38 rfl (rNext_j s' t hd.1 hd.2 (by omega) (by omega) (by omega) (by omega))) fun _ => ?_
    refine JL_step0 rfl rfl (jo_store rfl rfl rfl (by first | (simp only [splice_norm]; done) | (simp only [splice_norm]; rfl) | rfl) Try.sizeOf27 rfl rfl) fun _ => ?_
    refine JL_nil ?_
    refine JE_block ?_
    refine JE_seq ?_
    refine JC_region ?_
    refine JL_pd rfl (det_move rfl) ?_
    refine JL_pd rfl (det_add rfl rfl ⟨by omega, by omega⟩) ?_
    refine JL_pd rfl (det_assign rfl) ?_
    refine JL_nil ?_
    -- stop: end
    have hnb := nextS_d s' t
    refine JE_roundF hK (i + 1, L ++ [t], nextS s' t, .slice (some ⟨b46.1, 0, none⟩) (L.length + 1) b46.2) ⟨by simp only; omega, by simp only; rw [hn2, ← hL]; simp, by simp; omega, hnb, ?_⟩ (by simp only; omega) (stsub_consI rfl (by simp only; omega) (stsub_cons rfl stsub_nil)) (ht_ow (by simp) (by simp [encI]) (ht_bx rfl ht_nil))
    have : (nextS s' t).b = s'.b + (nextS s' t).d := rfl
    simp only; omega
  · have hnil : pickL l ws (nR l - i) i s' = [] := by
      rcases Nat.lt_or_ge i (nR l) with h2 | h2
      · obtain ⟨n, hn⟩ : ∃ n, nR l - i = n + 1 := ⟨nR l - i - 1, by omega⟩
        rw [hn, pickL, if_neg]
        intro h3
        rw [h3] at h1
        simp at h1
        omega
      · rw [show nR l - i = 0 by omega]; rfl
    rw [hnil, List.append_nil] at hL
    refine JC_slice (enc := encI) (v := v) L noFp rfl rfl ?_
    rintro a cap rfl
    subst hL
    refine JC_exit ?_
    refine JE_seq_exit ?_
    refine JE_then_exit ?_
    refine JE_block_here ?_
    refine JE_seq ?_
    refine JC_seq ?_
    refine JC_region ?_
    refine JL_pd rfl (det_move rfl) ?_
    refine JL_pd rfl (det_assign rfl) ?_
    refine JL_nil ?_
    refine JE_seq ?_
    refine JC_ret ?_
    -- stop: out
    refine JE_out (.inl rfl) (a, cap) (results1 Try.results48 (res_tmp rfl)) rfl (List.Perm.refl _) (fun w h => h.1)
/-- Play, of a truth. -/
theorem Play_jt {l : La} {s : St} {ts : List Int} {over : List St} {g : Bool} (ha pa : Option Addr) (hc pc : Nat) (ta : Option Addr) (tc : Nat) (he : startErr l s = 0) (hT : Truth l (nR l) 0 s ts over g) : Cr Try.prog 42 [.agg #[I l.boards, I l.rows, .slice ha l.hooks.length hc, .slice pa l.patches.length pc], .agg #[I s.b, I s.d], .slice ta ts.length tc] (KAnd (KSl ta ts.length tc encI ts) (KLane l ha hc pa pc))
    (fun q : Option Addr × Nat => .tuple #[.slice q.1 over.length q.2, .bool g, I 0]) (fun q => KSl q.1 over.length q.2 encSt over) := by
  obtain ⟨V, h0⟩ := valid_start he
  have hp := hT.playV V
  have h := Play_j1 l s ts ha pa hc pc ta tc he (by have := hT.len.2.2.2; have := V.r2; unfold nR at *; omega) (by rw [hp])
  rw [hp] at h
  exact h
end Go.Proofs.Ytcfhbnfincpehaa
