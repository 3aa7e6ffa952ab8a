/- Walks of reference and law of path: list, states, Play. -/
import Derived.Test.YtcfhbnfincpehaaX5
import Derived.Laws.OwnMore
namespace Go.Proofs.Ytcfhbnfincpehaa
open Go.RowKit Go.Shelf

section
variable {X : Ctx} {P : Program} {st : Sto} {H H' : List Chunk} {R : World → Prop} {d : Option Nat} {ty : TypeId} {pos : String} {af : Array Edge} {g : Option (Nat × Bool)}
/-- A whole slice that is known, onto a slice of the call's own. -/
theorem jo_appendK {α : Type} {e : α → List Value} {s x : Operand} {t T z n m c : Nat} {v : Value} {xs : List Value} {ys : List α} {ad : Option Addr} [hz : Rec e z] (E : ElemX P t T z) (hs : opnd st s = some v) (hx : opnd st x = some (.slice ad m c)) [ho : OwnAt H v T z n xs H'] [hb : Sees R ad m c α e ys]
    (h1 : ∀ y, (e y).all (·.oneCell') = true) (hn : n + m ≤ 1000000) :
    JO X P ⟨d, .call ⟨.builtin .append, #[s, x], #[t, t]⟩, ty, pos, af, g⟩ st H R (fun p : Value => p) (fun p => ow p T z (n + m) (xs ++ ys.flatMap e) :: H') (fun _ => R) := by
  intro a w M Ds K Q hst hm hK
  obtain ⟨A, B, e1, e2⟩ := ho.ex
  have hsl := hb.see w hm.r
  subst e1 e2
  have hm2 := hm.perm (mid_perm A B _)
  have hown : w.ownsRow 0 T z v n xs := (hm.hold (ow v T z n xs) (by simp)).now
  obtain ⟨bytes, E⟩ := E
  obtain ⟨i, zv, i1, i2, i3, i4, i5⟩ := E.ex
  have hsm := E.small
  obtain ⟨hsl, hmy⟩ := hsl
  have hlen := flatMap_len e z hz.len ys
  have hallone : ∀ u ∈ ys.flatMap e, u.oneCell' = true := fun u hu => by
    obtain ⟨y, _, hy⟩ := List.mem_flatMap.1 hu
    exact List.all_eq_true.1 (h1 y) u hy
  obtain ⟨v', w', r1, r2, r3, r5⟩ : ∃ v' w', (Builtin.append_ #[t, t] ty #[v, .slice ad m c]).run P w = .ok v' w' ∧ w'.ownsRow 0 T z v' (n + m) (xs ++ ys.flatMap e) ∧ w.grownBy w' v.ownBlock ∧ (v'.ownBlock = v.ownBlock ∨ v'.ownBlock = some w.heap.size) := by
    have hcap := hsl.2.1
    have hml := hsl.1
    cases ad with
    | none =>
      obtain ⟨rfl, rfl⟩ := hsl.2.2.1 rfl
      obtain rfl : ys = [] := List.eq_nil_of_length_eq_zero hmy.symm
      exact ⟨v, w, run_append_owned_none (P := P) w 0 t ty T i z E.ht i1 v n xs hown, by simpa using hown, World.grownBy.refl _ _, .inl rfl⟩
    | some ad =>
      obtain ⟨v', w', r1, r2, r3, _, r5⟩ := run_append_own_at (P := P) w 0 t ty T i zv z bytes E.ht i1 i2 i3 i4 i5 E.pos v n xs hown ad m c (ys.flatMap e) (by rw [hlen, hmy])
        (fun j u hu => by
          obtain ⟨b, o, h1, _, hc⟩ := hsl.2.2.2 (fun h => by rw [h] at hu; simp at hu)
          cases h1
          rw [addr_add]; exact hc j u hu) hallone (by have : maxLen = 9223372036854775807 := rfl; omega)
        (by have : (n + m) * bytes ≤ 1000000 * 4096 := Nat.mul_le_mul (by omega) hsm
            omega) (Nat.zero_le _)
      exact ⟨v', w', r1, r2, r3, r5⟩
  refine ⟨fun f _ => fof_fn _ f, ?_⟩
  rw [semAt_plain _ _ _ (by intro c h; cases h)]
  have hrun : (execOp a.eval ⟨d, .call ⟨.builtin .append, #[s, x], #[t, t]⟩, ty, pos, af, g⟩).run P w = .ok (.value v') w' := by
    simp only [execOp, resolve, invoke, builtin, Sem.run_bind, Sem.run_pure, Result.andThen_ok, List.map_toArray, List.map_cons, List.map_nil, hst.eval hs, hst.eval hx, r1]
  rw [hrun]
  refine hK v' w' (fun x => M x ∨ v'.ownBlock = some x) ?_
  have hold := ow_holds r2
  have hmv : Moves (fun x => ∃ c ∈ [ow v T z n xs], c.own x) w w' := ⟨r3.os, r3.tape, r3.output, r3.size, fun k hk hn' => r3.block k hk (fun e => hn' ⟨_, List.mem_singleton.2 rfl, e.symm⟩)⟩
  have := hm2.swap (C' := [ow v' T z (n + m) (xs ++ ys.flatMap e)]) (R' := fun _ => True) (fun x => M x ∨ v'.ownBlock = some x) hmv (fun _ h => .inl h)
    (fun x hx => by
      rcases hx with hx | hx
      · exact .inl hx
      · rcases r5 with r4 | r4
        · exact .inl (hm2.own (ow v T z n xs) (by simp) x (by rw [r4] at hx; exact hx))
        · rw [r4] at hx; cases hx; exact .inr (Nat.le_refl _))
    (fun x hx => by
      rcases hx with hx | hx
      · exact Nat.lt_of_lt_of_le (hm.bd x hx) r3.size
      · exact (World.ownsRow.lt r2 x hx).2)
    (by intro c hc; simp at hc; subst hc; exact hold)
    (by
      intro c hc x hx
      simp at hc; subst hc
      have hx : v'.ownBlock = some x := hx
      refine ⟨.inr hx, ?_⟩
      rcases r5 with r4 | r4
      · exact .inl ⟨ow v T z n xs, by simp, by rw [r4] at hx; exact hx⟩
      · rw [r4] at hx; cases hx; exact .inr (Nat.le_refl _)) (by simp) (fun _ _ => trivial)
  exact this.know fun w h => h.2
/-- A small slice that is built, as one of the call's own that can grow. -/
theorem jo_buildOwn {t T z : TypeId} {n : Nat} {l : List (Nat × Operand)} {vs : List (Nat × Value)} {cs : List Value} (hl : evP st l = some vs)
    (hr : ∀ w, (Instr.buildSlice t n vs.toArray).run P w = .ok (.slice (some ⟨w.heap.size, 0, none⟩) n n) (w.alloc (.cells cs.toArray T))) (hc : cs.length = n * z) (hm : n ≤ maxLen) :
    JO X P ⟨d, .buildSlice t n l.toArray, ty, pos, af, g⟩ st H R (fun b : Nat => .slice (some ⟨b, 0, none⟩) n n) (fun b => ow (.slice (some ⟨b, 0, none⟩) n n) T z n cs :: H) (fun _ => R) :=
  jo_new (.cells cs.toArray T) _ (fun b => ow (.slice (some ⟨b, 0, none⟩) n n) T z n cs) (fun a w hs => by
    have : (l.toArray.map fun (i, x) => (i, a.eval x)) = vs.toArray := by rw [List.map_toArray, hs.evP hl]
    simp only [execOp, this, Sem.run_bind, hr, Result.andThen_ok, Sem.run_pure])
    (fun w => ow_holds ⟨hc, .inr ⟨w.heap.size, n, cs.toArray, rfl, Nat.zero_le _, heap_alloc_new w _, Nat.le_refl _, hm, by simpa using hc, by rw [← hc]; simp⟩⟩)
    (fun b x hx => by
      have : (Value.slice (some (⟨b, 0, none⟩ : Addr)) n n).ownBlock = some x := hx
      simpa [Value.ownBlock] using this.symm) (by intro c h; cases h)
end
theorem KSl_nil {α : Type} {e : α → List Value} (w : World) : KSl none 0 0 e ([] : List α) w := ⟨⟨Nat.le_refl _, by decide, fun _ => ⟨rfl, rfl⟩, fun h => absurd rfl h⟩, rfl⟩
theorem encI_one (y : Int) : (encI y).all (·.oneCell') = true := rfl
theorem lList_j (xs : List Int) (a : Option Addr) (cap : Nat) (hx : xs.length ≤ 1000000) : Cr Try.prog 43 [.slice a xs.length cap] (KSl a xs.length cap encI xs) (fun q : Option Addr × Nat => .slice q.1 xs.length q.2) (fun q => KSl q.1 xs.length q.2 encI xs) := by
  refine Cx_of Try.func43 rfl Try.ntmps43 rfl fun w0 M0 => ?_
  refine JC_seq ?_
  refine JC_region ?_
  refine JL_pd rfl (det_assign rfl) ?_
  refine JL_nil ?_
  refine JE_seq ?_
  refine JC_seq ?_
  refine JC_region ?_
  refine JL_pd rfl (det_move rfl) ?_
  -- stop: op  1 t4 := (call (Call (builtin append) ((slice none 0 0) t3) (75 75)))   <0>   11
  refine JL_nilS 3 1 ?_
  refine JL_step rfl rfl rfl (jo_appendK (e := encI) el_75 rfl rfl encI_one (by simpa using hx)) fun v => ?_
  refine JL_pd rfl (det_assign rfl) ?_
  refine JL_nil ?_
  refine JE_seq ?_
  refine JC_ret ?_
  -- stop: out
  refine JE_slice (enc := encI) (v := v) xs noFp (by simp) (by simp) ?_
  rintro a' cap' h
  subst h
  simp only [Nat.zero_add]
  refine JE_out (.inl rfl) (a', cap') (results1 Try.results43 (res_tmp rfl)) rfl (List.Perm.refl _) (fun w h => h.1)
set_option maxRecDepth 100000 in
theorem lstates_j (xs ys : List St) (a a' : Option Addr) (cap cap' : Nat) (hx : xs.length ≤ 1000000) :
    Cv Try.prog 24 [.slice a xs.length cap, .slice a' ys.length cap'] (KAnd (KSl a xs.length cap encSt xs) (KSl a' ys.length cap' encSt ys)) (.bool (decide (xs = ys))) := by
  refine Cx_of Try.func24 rfl Try.ntmps24 rfl fun w0 M0 => ?_
  refine JC_seq ?_
  refine JC_region ?_
  refine JL_pd rfl (det_assign rfl) ?_
  refine JL_nil ?_
  refine JE_seq ?_
  refine JC_seq ?_
  refine JC_seq ?_
  refine JC_region ?_
  refine JL_pd rfl (det_move rfl) ?_
  refine JL_pd rfl (det_len rfl Try.runUnderlying30) ?_
  refine JL_pd rfl (det_move rfl) ?_
  refine JL_pd rfl (det_len rfl Try.runUnderlying43) ?_
  refine JL_pd rfl (det_neq rfl rfl) ?_
  refine JL_nil ?_
  refine JE_seq ?_
  -- stop: cond
  refine JC_ifn rfl (fun h0 => ?_) (fun h0 => ?_)
  · refine JC_seq ?_
    refine JC_region ?_
    refine JL_pd rfl (det_assign rfl) ?_
    refine JL_nil ?_
    refine JE_seq ?_
    refine JC_ret ?_
    refine JE_seq_ret ?_
    -- stop: out
    refine JE_out (.inl rfl) () (results1 Try.results24 (res_tmp rfl)) (by rw [decide_eq_false]; intro e; apply h0; rw [e]) (List.Perm.refl _) (fun _ _ => trivial)
  · refine JC_skip ?_
    refine JE_seq ?_
    refine JC_seq ?_
    refine JC_seq ?_
    refine JC_region ?_
    refine JL_pd rfl (det_assign rfl) ?_
    refine JL_nil ?_
    refine JE_seq ?_
    refine JC_block ?_
    -- stop: loop
    have h0 : xs.length = ys.length := by omega
    refine JC_loop (γ := Nat) (I := fun i => i ≤ xs.length ∧ xs.take i = ys.take i) (st' := fun i => [(5, I i), (1, .slice a' ys.length cap'), (0, .slice a xs.length cap)]) (H' := fun _ => [])
      (R' := fun _ => KAnd (KSl a xs.length cap encSt xs) (KSl a' ys.length cap' encSt ys)) (μ := fun i => xs.length - i) 0 ⟨by omega, by simp⟩ (stsub_cons rfl (stsub_cons rfl (stsub_cons rfl stsub_nil))) hsub_nil Knows.know ?_
    rintro i ⟨hi, he⟩ K hK
    refine JC_seq ?_
    refine JC_seq ?_
    refine JC_region ?_
    refine JL_pd rfl (det_move rfl) ?_
    refine JL_pd rfl (det_move rfl) ?_
    refine JL_pd rfl (det_len rfl Try.runUnderlying30) ?_
    refine JL_pd rfl (det_lss rfl rfl) ?_
    refine JL_nil ?_
    refine JE_seq ?_
    -- stop: cond
    refine JC_if rfl (fun h1 => ?_) (fun h1 => ?_)
    · have hi2 : i < xs.length := by omega
      have hi3 : i < ys.length := by omega
      refine JC_skip ?_
      refine JE_seq ?_
      refine JC_seq ?_
      refine JC_block ?_
      refine JC_seq ?_
      refine JC_draw [] (by kernel_rfl) ?_
      refine JA_pd (i := 0) rfl (by kernel_rfl) rfl rfl (det_move rfl) ?_
      refine JA_pd (i := 1) rfl (by kernel_rfl) rfl rfl (det_move rfl) ?_
      refine JA_dt (i := 2) rfl (by kernel_rfl) (by kernel_rfl) rfl rfl (det_indexAddr rfl rfl (by first | rfl | omega) (by first | assumption | omega | decide) Try.runUnderlying30 Try.sizeOf39) ?_
      refine JA_dt (i := 3) rfl (by kernel_rfl) (by kernel_rfl) rfl rfl (det_loadEA rfl (by first | assumption | omega | decide) Try.isAgg39 Try.sizeOf39 rfl rfl rfl) ?_
      refine JA_pd (i := 4) rfl (by kernel_rfl) rfl rfl (det_move rfl) ?_
      refine JA_pd (i := 5) rfl (by kernel_rfl) rfl rfl (det_move rfl) ?_
      refine JA_dt (i := 6) rfl (by kernel_rfl) (by kernel_rfl) rfl rfl (det_indexAddr rfl rfl (by first | rfl | omega) (by first | assumption | omega | decide) Try.runUnderlying43 Try.sizeOf27) ?_
      refine JA_dt (i := 7) rfl (by kernel_rfl) (by kernel_rfl) rfl rfl (det_loadEA rfl (by first | assumption | omega | decide) Try.isAgg27 Try.sizeOf27 rfl rfl rfl) ?_
      refine JA_one (i := 8) (by kernel_rfl) rfl rfl rfl (jo_callv rfl rfl Try.call20 rfl (lStart_j ⟨_, _⟩)) (fun _ => ⟨hsub_refl, fun _ h => h⟩) fun _ => ?_
      refine JA_pd (i := 9) rfl (by kernel_rfl) rfl rfl (det_neqA rfl rfl egt_39 (eqa_39 _ _ _ _)) ?_
      refine JA_done (by kernel_rfl) ?_
      refine JE_seq ?_
      -- stop: cond
      refine JC_ifn rfl (fun h2 => ?_) (fun h2 => ?_)
      · refine JC_seq ?_
        refine JC_region ?_
        refine JL_pd rfl (det_assign rfl) ?_
        refine JL_nil ?_
        refine JE_seq ?_
        refine JC_ret ?_
        refine JE_block_ret ?_
        refine JE_seq_ret ?_
        refine JE_then_ret ?_
        refine JE_block_ret ?_
        refine JE_seq_ret ?_
        -- stop: out
        refine JE_out (.inl rfl) () (results1 Try.results24 (res_tmp rfl)) (by rw [decide_eq_false]; intro e; apply h2; subst e; exact ⟨rfl, rfl⟩) (List.Perm.refl _) (fun _ _ => trivial)
      · refine JC_skip ?_
        refine JE_block ?_
        refine JE_seq ?_
        refine JC_region ?_
        refine JL_pd rfl (det_move rfl) ?_
        refine JL_pd rfl (det_add rfl rfl ⟨by omega, by omega⟩) ?_
        refine JL_pd rfl (det_assign rfl) ?_
        refine JL_nil ?_
        -- stop: end
        refine JE_round hK (i + 1) ⟨by omega, ?_⟩ (by omega) (stsub_consI rfl (by omega) (stsub_cons rfl (stsub_cons rfl stsub_nil))) hsub_nil Knows.know
        rw [take_snoc hi2, take_snoc hi3, he, show xs[i] = ys[i] from St.ext'.2 h2]
    · refine JC_exit ?_
      refine JE_seq_exit ?_
      refine JE_then_exit ?_
      refine JE_block_here ?_
      refine JE_seq ?_
      refine JC_seq ?_
      refine JC_region ?_
      refine JL_pd rfl (det_assign rfl) ?_
      refine JL_nil ?_
      refine JE_seq ?_
      refine JC_ret ?_
      -- stop: out
      refine JE_out (.inl rfl) () (results1 Try.results24 (res_tmp rfl)) (by rw [decide_eq_true]; rwa [List.take_of_length_le (by omega), List.take_of_length_le (by omega)] at he) (List.Perm.refl _) (fun _ _ => trivial)
end Go.Proofs.Ytcfhbnfincpehaa
