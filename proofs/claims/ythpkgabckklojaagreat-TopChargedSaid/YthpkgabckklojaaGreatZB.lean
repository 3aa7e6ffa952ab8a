/- Own texts, laid together: E10 E11 E12 E13 E14. Nothing is asked. -/
import Derived.Test.YthpkgabckklojaaGreatZA
set_option linter.unusedSimpArgs false
set_option linter.unusedVariables false
/- Walks of lend: Serve. -/
namespace Go.Proofs.YthpkgabckklojaaGreat.En
open Go.RowKit Go.Shelf

theorem Serve_je (x : Hx) (a : Option Addr) (c : Nat) (xs : List Gx) (h : fault x.h (gs xs) ≠ 0) : Cv Tryz.prog 31 [.agg #[I x.h.lanes, .slice x.a x.h.shoes.length x.c], .slice a xs.length c] (KAnd (KHx x) (KGs a c xs)) (.tuple #[.slice none 0 0, I (fault x.h (gs xs))]) := by
  refine Cx_of Tryz.func31 rfl Tryz.ntmps31 rfl fun w0 M0 => ?_
  refine JC_seq ?_
  refine JC_region ?_
  refine JL_step rfl rfl rfl (jo_box rfl rfl) fun b2 => ?_
  refine JL_step rfl rfl rfl (jo_box rfl rfl) fun b3 => ?_
  refine JL_pd rfl (det_assign rfl) ?_
  refine JL_pd rfl (det_assign rfl) ?_
  refine JL_nil ?_
  refine JE_seq ?_
  refine JC_seq ?_
  refine JC_region ?_
  refine JL_dt rfl (det_loadKA rfl Tryz.isAgg86 Tryz.sizeOf86 rfl rfl) ?_
  refine JL_dt rfl (det_loadK rfl Tryz.isAgg88 rfl) ?_
  refine JL_step rfl rfl rfl (jo_callv rfl rfl Tryz.call77 rfl (work_je x a c xs h)) fun _ => ?_
  refine JL_pd rfl (det_move rfl) ?_
  refine JL_pd rfl (det_extract rfl rfl) ?_
  refine JL_pd rfl (det_extract rfl rfl) ?_
  refine JL_pd rfl (det_assign rfl) ?_
  refine JL_pd rfl (det_assign rfl) ?_
  refine JL_nil ?_
  refine JE_seq ?_
  refine JC_seq ?_
  refine JC_seq ?_
  refine JC_region ?_
  refine JL_pd rfl (det_move rfl) ?_
  refine JL_pd rfl (det_neq rfl rfl) ?_
  refine JL_nil ?_
  refine JE_seq ?_
  -- stop: cond
  refine JC_ifn rfl (fun h1 => ?_) (fun h1 => ?_)
  · refine JC_seq ?_
    refine JC_region ?_
    refine JL_pd rfl (det_move rfl) ?_
    refine JL_pd rfl (det_assign rfl) ?_
    refine JL_pd rfl (det_assign rfl) ?_
    refine JL_nil ?_
    refine JE_seq ?_
    refine JC_ret ?_
    refine JE_seq_ret ?_
    -- stop: out
    refine JE_out (.inl rfl) () (results2 Tryz.results31 (res_tmp rfl) (res_tmp rfl)) rfl (List.Perm.refl _) (fun _ _ => trivial)
  · exact absurd h1 h
set_option maxRecDepth 100000 in
set_option maxHeartbeats 1000000 in
theorem Serve_jo (x : Hx) (a : Option Addr) (c : Nat) (xs : List Gx) (h : fault x.h (gs xs) = 0) : Cr Tryz.prog 31 [.agg #[I x.h.lanes, .slice x.a x.h.shoes.length x.c], .slice a xs.length c] (KAnd (KHx x) (KGs a c xs)) (fun q : Nat × { p : List Int // ServeOk x.h.lanes.toNat (gs xs) p } => .tuple #[.slice (some ⟨q.1, 0, none⟩) xs.length xs.length, I 0])
    (fun q => KSl (some ⟨q.1, 0, none⟩) xs.length xs.length encI q.2.1) := by
  have V := vld_of h
  have hn : xs.length ≤ 8 := by have := V.n; simpa [gs] using this
  have hlen : (gs xs).length = xs.length := by simp [gs]
  have hl0 := V.hs.l0
  have hl1 := V.hs.l1
  obtain ⟨k, hk⟩ : ∃ k : Nat, x.h.lanes.toNat = k := ⟨_, rfl⟩
  have hkk : x.h.lanes = (k : Int) := by omega
  refine Cx_of Tryz.func31 rfl Tryz.ntmps31 rfl fun w0 M0 => ?_
  refine JC_seq ?_
  refine JC_region ?_
  refine JL_step rfl rfl rfl (jo_box rfl rfl) fun b2 => ?_
  refine JL_step rfl rfl rfl (jo_box rfl rfl) fun b3 => ?_
  refine JL_pd rfl (det_assign rfl) ?_
  refine JL_pd rfl (det_assign rfl) ?_
  refine JL_nil ?_
  refine JE_seq ?_
  refine JC_seq ?_
  refine JC_region ?_
  refine JL_dt rfl (det_loadKA rfl Tryz.isAgg86 Tryz.sizeOf86 rfl rfl) ?_
  refine JL_dt rfl (det_loadK rfl Tryz.isAgg88 rfl) ?_
  refine JL_step rfl rfl rfl (jo_call rfl rfl Tryz.call77 rfl (work_jo x a c xs h)) fun x19 => ?_
  refine JL_pd rfl (det_move rfl) ?_
  refine JL_pd rfl (det_extract rfl rfl) ?_
  refine JL_pd rfl (det_extract rfl rfl) ?_
  refine JL_pd rfl (det_assign rfl) ?_
  refine JL_pd rfl (det_assign rfl) ?_
  refine JL_nil ?_
  refine JE_seq ?_
  refine JC_seq ?_
  refine JC_seq ?_
  refine JC_region ?_
  refine JL_pd rfl (det_move rfl) ?_
  refine JL_pd rfl (det_neq rfl rfl) ?_
  refine JL_nil ?_
  refine JE_seq ?_
  -- stop: cond
  refine JC_ifn rfl (fun h1 => ?_) (fun h1 => ?_)
  · exact absurd rfl h1
  refine JC_skip ?_
  refine JE_seq ?_
  refine JC_seq ?_
  refine JC_region ?_
  refine JL_dt rfl (det_loadK rfl Tryz.isAgg88 rfl) ?_
  refine JL_pd rfl (det_len rfl Tryz.runUnderlying88) ?_
  refine JL_step rfl rfl rfl (jo_makeSlice (n := xs.length) (zv := I 0) (z := 1) (bytes := 8) rfl rfl rfl Tryz.underlying31 (by kernel_rfl) (by omega) (by omega)) fun b27 => ?_
  refine JL_pd rfl (det_assign rfl) ?_
  refine JL_nil ?_
  refine JE_seq ?_
  refine JC_seq ?_
  refine JC_seq ?_
  refine JC_region ?_
  refine JL_dt rfl (det_loadK rfl Tryz.isAgg88 rfl) ?_
  refine JL_pd rfl (det_len rfl Tryz.runUnderlying88) ?_
  refine JL_pd rfl (det_move rfl) ?_
  refine JL_nil ?_
  refine JE_seq ?_
  refine JC_block ?_
  -- stop: loop
  refine JC_keep b3 noFp ?_
  refine JC_keep b2 noFp ?_
  refine JC_loopF (γ := Nat) (fun i => i ≤ xs.length) (fun i => [(30, I i)]) (fun i => [ow (.slice (some ⟨b27, 0, none⟩) xs.length xs.length) 3 1 xs.length ((ordI xs.length i).flatMap encN)]) (fun i => xs.length - i) 0 (Nat.zero_le _) (stsub_consI rfl rfl stsub_nil) (ht_ow rfl (ordI_zero _) ht_nil) ?_
  intro i hi K hK
  dsimp only [List.cons_append, List.nil_append]
  refine JC_seq ?_
  refine JC_region ?_
  refine JL_pd rfl (det_lss rfl rfl) ?_
  refine JL_nil ?_
  refine JE_seq ?_
  refine JC_seq ?_
  -- stop: cond
  refine JC_if rfl (fun h2 => ?_) (fun h2 => ?_)
  · have hi2 : i < xs.length := by omega
    refine JC_skip ?_
    refine JE_seq ?_
    refine JC_seq ?_
    refine JC_block ?_
    refine JC_seq ?_
    refine JC_region ?_
    refine JL_pd rfl (det_move rfl) ?_
    refine JL_pd rfl (det_assign rfl) ?_
    refine JL_nil ?_
    refine JE_seq ?_
    refine JC_region ?_
    refine JL_pd rfl (det_move rfl) ?_
    refine JL_pd rfl (det_move rfl) ?_
    refine JL_pd rfl (det_move rfl) ?_
    refine JL_pd rfl (det_indexOwn (i := i) rfl rfl (by first | rfl | omega) (by first | assumption | omega) Tryz.runUnderlying31 Tryz.sizeOf3) ?_
    refine JL_step0 rfl rfl (jo_storeO (xs' := (ordI xs.length (i + 1)).flatMap encN) (vs := encN i) rfl rfl rfl (by rw [splice_rec encN _ i i (by rw [ordI_len (by omega)]; exact hi2), ordI_set hi2]) Tryz.sizeOf3 (by rw [flat_len, ordI_len (by omega)]; simp [encN]; omega) rfl) fun _ => ?_
    refine JL_nil ?_
    refine JE_block ?_
    refine JE_seq ?_
    refine JC_region ?_
    refine JL_pd rfl (det_add rfl rfl ⟨by omega, by omega⟩) ?_
    refine JL_pd rfl (det_move rfl) ?_
    refine JL_nil ?_
    -- stop: end
    refine JE_roundF hK (i + 1) (by omega) (by omega) (stsub_consI rfl (by omega) stsub_nil) (ht_cons ht_nil)
  · obtain rfl : i = xs.length := by omega
    rw [ordI_all]
    have hsrt := sortN_y 79 xs.length [pt b3] (KAnd (KBox b3 [.slice a xs.length c]) (KSl a xs.length c encG xs)) (cfS (gs xs)) Tryz.call79 (swoS _ _) (fun W hW x y hx hy => serve_cmp xs V.gr (by omega) b3 a c W hW.1 hW.2 x y hx hy) b27 xs.length xs.length (List.range xs.length) (fun i hi => List.mem_range.1 hi) (by simp) (by omega)
    refine JC_exit ?_
    refine JE_seq_exit ?_
    refine JE_then_exit ?_
    refine JE_block_here ?_
    refine JE_seq ?_
    refine JC_seq ?_
    refine JC_region ?_
    refine JL_pd rfl (det_move rfl) ?_
    refine JL_pd rfl (det_makeFuncE rfl rfl) ?_
    -- stop: op  2 t40 := (call (Call (value f78) (t38 t39) (31 180)))   <0 1>   132
    refine JL_step rfl rfl rfl (jo_callx rfl rfl Tryz.call78 rfl (hsrt) (pick_perm)) fun ts => ?_
    refine JL_nil ?_
    refine JE_seq ?_
    refine JC_seq ?_
    refine JC_region ?_
    refine JL_step rfl rfl rfl (jo_buildSlice rfl (bsl_31_1_0 _)) fun b41 => ?_
    refine JL_dt rfl (det_loadK rfl Tryz.isAgg88 rfl) ?_
    refine JL_pd rfl (det_len rfl Tryz.runUnderlying88) ?_
    refine JL_lit (enc := encI) b41 1 [(-1 : Int)] noFp rfl rfl (by decide) ?_
    refine JL_step rfl rfl rfl (jo_call rfl rfl Tryz.call81 rfl (Repeat_i (xs.length : Int) xs.length rfl (by omega) _ _ (-1))) fun b44 => ?_
    refine JL_pd rfl (det_assign rfl) ?_
    refine JL_nil ?_
    refine JE_seq ?_
    refine JC_seq ?_
    refine JC_region ?_
    refine JL_step rfl rfl rfl (jo_buildSlice rfl (bsl_31_1_0 _)) fun b45 => ?_
    refine JL_pd rfl (det_fieldAddr rfl fo_86_0) ?_
    refine JL_dt rfl (det_loadK rfl Tryz.isAgg3 rfl) ?_
    refine JL_lit (enc := encI) b45 1 [(-1 : Int)] noFp rfl rfl (by decide) ?_
    refine JL_step rfl rfl rfl (jo_call rfl rfl Tryz.call81 rfl (Repeat_i x.h.lanes k hkk (by omega) _ _ (-1))) fun b48 => ?_
    refine JL_pd rfl (det_assign rfl) ?_
    refine JL_nil ?_
    refine JE_seq ?_
    refine JC_seq ?_
    refine JC_seq ?_
    refine JC_region ?_
    refine JL_pd rfl (det_move rfl) ?_
    refine JL_pd rfl (det_len rfl Tryz.runUnderlying31) ?_
    refine JL_pd rfl (det_move rfl) ?_
    refine JL_nil ?_
    refine JE_seq ?_
    refine JC_block ?_
    -- stop: loop
    obtain ⟨ts, hts, hto⟩ := ts
    have htl : ts.length = xs.length := by rw [hts.length_eq, List.length_range]
    have htn : ∀ i ∈ ts, i < xs.length := fun i hi => List.mem_range.1 (hts.mem_iff.1 hi)
    have htd : ts.Nodup := hts.nodup_iff.2 List.nodup_range
    dsimp only
    refine JC_kl (enc := encN) (.slice (some ⟨b27, 0, none⟩) xs.length xs.length) ts noFp fun a' cap' e' => ?_
    have e1 : a' = some ⟨b27, 0, none⟩ := (Value.slice.inj e').1.symm
    have e2 : cap' = xs.length := (Value.slice.inj e').2.2.symm
    subst e1 e2
    refine JC_know (R' := KAnd (KSl (some ⟨b27, 0, none⟩) xs.length xs.length encN ts) (KAnd (KBox b2 [I x.h.lanes, .slice x.a x.h.shoes.length x.c]) (KAnd (KBox b3 [.slice a xs.length c]) (KAnd (KBox x19.1 (wkC x a xs.length c x19.2)) (KAnd (KHx x) (KGs a c xs)))))) (fun w h => ⟨by have := h.1; rwa [htl] at this, Knows.know w h.2⟩) ?_
    generalize hL : ts.map (fun i => (gs xs)[i]!) = L
    have hLl : L.length = xs.length := by rw [← hL, List.length_map, htl]
    have hLg : ∀ j (hj : j < ts.length), L[j]'(by omega) = (xs[ts[j]]'(htn _ (List.getElem_mem hj))).g := fun j hj => by
      subst hL
      rw [List.getElem_map]; exact gs_get xs _ (htn _ (List.getElem_mem hj))
    refine JC_loopF (γ := Nat × List Int × (Cell → Bool)) (fun q => q.1 ≤ xs.length ∧ Fills xs.length ts (gre (List.replicate k (-1)) L) q.1 q.2.1) (fun q => [(51, I q.1)]) (fun q => [ow (.slice (some ⟨b44, 0, none⟩) xs.length xs.length) 3 1 xs.length (q.2.1.flatMap encI), ow (.slice (some ⟨b48, 0, none⟩) k k) 3 1 k ((endsA (List.replicate k (-1)) (L.take q.1)).flatMap encI), mp x19.2 ekC vB (tkM q.2.2)]) (fun q => xs.length - q.1) (0, List.replicate xs.length (-1), fun _ => false) ⟨Nat.zero_le _, .start htn⟩ (stsub_consI rfl rfl stsub_nil) (ht_cons (ht_ow rfl rfl (ht_cons ht_nil))) ?_
    rintro ⟨j, p, t⟩ ⟨hj, hfl⟩ K hK
    dsimp only [List.cons_append, List.nil_append] at hj hfl ⊢
    refine JC_seq ?_
    refine JC_region ?_
    refine JL_pd rfl (det_lss rfl rfl) ?_
    refine JL_nil ?_
    refine JE_seq ?_
    refine JC_seq ?_
    -- stop: cond
    refine JC_if rfl (fun h3 => ?_) (fun h3 => ?_)
    · have hj2 : j < ts.length := by omega
      have hi := htn _ (List.getElem_mem hj2)
      generalize hE : endsA (List.replicate k (-1)) (L.take j) = E
      have hEl : E.length = k := by rw [← hE, endsA_len, List.length_replicate]
      have hj3 : j < xs.length := by omega
      refine JC_skip ?_
      refine JE_seq ?_
      refine JC_seq ?_
      refine JC_block ?_
      refine JC_seq ?_
      refine JC_region ?_
      refine JL_dt rfl (det_indexAddr rfl rfl (by first | rfl | omega) (by first | assumption | omega | decide) Tryz.runUnderlying31 Tryz.sizeOf3) ?_
      refine JL_dt rfl (det_loadE (n := xs.length) (xs := ts) (v := I ((ts[j] : Nat) : Int)) rfl hj3 Tryz.isAgg3 htl.symm rfl) ?_
      refine JL_pd rfl (det_assign rfl) ?_
      refine JL_nil ?_
      refine JE_seq ?_
      refine JC_seq ?_
      refine JC_region ?_
      refine JL_pd rfl (det_assign rfl) ?_
      refine JL_nil ?_
      refine JE_seq ?_
      refine JC_seq ?_
      refine JC_seq ?_
      refine JC_region ?_
      refine JL_pd rfl (det_fieldAddr rfl fo_86_0) ?_
      refine JL_dt rfl (det_loadK rfl Tryz.isAgg3 rfl) ?_
      refine JL_pd rfl (det_move rfl) ?_
      refine JL_nil ?_
      refine JE_seq ?_
      refine JC_block ?_
      -- stop: loop
      refine JC_loopF (γ := Nat) (fun i => i ≤ k) (fun i => [(57, I i), (14, I (pick E xs[ts[j]].g.fr i))]) (fun _ => []) (fun i => k - i) 0 (Nat.zero_le _) (stsub_consI rfl rfl (stsub_consI rfl rfl stsub_nil)) ht_nil ?_
      intro i hik K' hK'
      dsimp only [List.cons_append, List.nil_append]
      refine JC_seq ?_
      refine JC_region ?_
      refine JL_pd rfl (det_lss rfl rfl) ?_
      refine JL_nil ?_
      refine JE_seq ?_
      refine JC_seq ?_
      -- stop: cond
      refine JC_if rfl (fun h4 => ?_) (fun h4 => ?_)
      · have hi2 : i < k := by omega
        have hg : ∀ m : Nat, m < k → (E.flatMap encI)[m * 1]? = some (I (E.getD m 0)) := fun m hm => by
          rw [show encI = fun v => [I v] from rfl, flat1 (fun v : Int => I v), Nat.mul_one, List.getElem?_map, List.getD_eq_getElem?_getD, List.getElem?_eq_getElem (by omega)]; rfl
        by_cases c1 : E.getD i 0 < xs[ts[j]].g.fr
        · rcases pick_spec E xs[ts[j]].g.fr i (by omega) with ⟨q, q1⟩ | ⟨b, hb, q, q1, q2⟩
          · have hp : pick E xs[ts[j]].g.fr (i + 1) = i := by unfold pick; rw [if_pos ⟨c1, .inl q⟩]
            rw [q]
            refine JC_skip ?_
            refine JE_seq ?_
            refine JC_seq ?_
            refine JC_block ?_
            refine JC_seq ?_
            refine JC_region ?_
            refine JL_pd rfl (det_move rfl) ?_
            refine JL_pd rfl (det_assign rfl) ?_
            refine JL_nil ?_
            refine JE_seq ?_
            refine JC_seq ?_
            refine JC_draw [] (by kernel_rfl) ?_
            refine JA_pd (i := 0) rfl (by kernel_rfl) rfl rfl (det_move rfl) ?_
            refine JA_pd (i := 1) rfl (by kernel_rfl) rfl rfl (det_move rfl) ?_
            refine JA_pd (i := 2) rfl (by kernel_rfl) rfl rfl (det_indexOwn (i := i) rfl rfl (by first | rfl | omega) (by first | assumption | omega) Tryz.runUnderlying31 Tryz.sizeOf3) ?_
            refine JA_dt (i := 3) rfl (by kernel_rfl) (by kernel_rfl) rfl rfl (det_loadO rfl Tryz.isAgg3 (hg i hi2)) ?_
            refine JA_dt (i := 4) rfl (by kernel_rfl) (by kernel_rfl) rfl rfl (det_loadK rfl Tryz.isAgg88 rfl) ?_
            refine JA_pd (i := 5) rfl (by kernel_rfl) rfl rfl (det_move rfl) ?_
            refine JA_dt (i := 6) rfl (by kernel_rfl) (by kernel_rfl) rfl rfl (det_indexAddr rfl rfl (by first | rfl | omega) (by first | assumption | omega | decide) Tryz.runUnderlying88 Tryz.sizeOf179) ?_
            refine JA_pd (i := 7) rfl (by kernel_rfl) rfl rfl (det_fieldAddrE rfl fo_179_0) ?_
            refine JA_dt (i := 8) rfl (by kernel_rfl) (by kernel_rfl) rfl rfl (det_loadEk rfl (by first | assumption | omega | decide) Tryz.isAgg3 rfl rfl) ?_
            refine JA_pd (i := 9) rfl (by kernel_rfl) rfl rfl (det_lss rfl rfl) ?_
            refine JA_pd (i := 10) rfl (by kernel_rfl) rfl rfl (det_move rfl) ?_
            -- stop: guard 10
            refine JA_is (d0 := 70) true rfl (by exact decide_eq_true c1) (fun g1 => ?_)
            refine JA_gpd (i := 11) rfl (by kernel_rfl) rfl rfl rfl rfl g1 (det_move rfl) ?_
            refine JA_gpd (i := 12) rfl (by kernel_rfl) rfl rfl rfl rfl g1 (det_eql rfl rfl) ?_
            refine JA_gpd (i := 13) rfl (by kernel_rfl) rfl rfl rfl rfl g1 (det_move rfl) ?_
            -- stop: guard 13
            refine JA_is (d0 := 73) true rfl (by rfl) (fun g2 => ?_)
            refine JA_skip (i := 14) rfl (by kernel_rfl) rfl rfl rfl rfl g2 ?_
            refine JA_skip (i := 15) rfl (by kernel_rfl) rfl rfl rfl rfl g2 ?_
            refine JA_skip (i := 16) rfl (by kernel_rfl) rfl rfl rfl rfl g2 ?_
            refine JA_skip (i := 17) rfl (by kernel_rfl) rfl rfl rfl rfl g2 ?_
            refine JA_skip (i := 18) rfl (by kernel_rfl) rfl rfl rfl rfl g2 ?_
            refine JA_skip (i := 19) rfl (by kernel_rfl) rfl rfl rfl rfl g2 ?_
            refine JA_skip (i := 20) rfl (by kernel_rfl) rfl rfl rfl rfl g2 ?_
            refine JA_skip (i := 21) rfl (by kernel_rfl) rfl rfl rfl rfl g2 ?_
            refine JA_skip (i := 22) rfl (by kernel_rfl) rfl rfl rfl rfl g2 ?_
            refine JA_gpd (i := 23) rfl (by kernel_rfl) rfl rfl rfl rfl g1 (det_pick_t rfl g2 rfl) ?_
            refine JA_pd (i := 24) rfl (by kernel_rfl) rfl rfl (det_pick_t rfl g1 rfl) ?_
            refine JA_done (by kernel_rfl) ?_
            refine JE_seq ?_
            -- stop: cond
            refine JC_cond rfl (fun h5 => ?_) (fun h5 => ?_)
            · refine JC_region ?_
              refine JL_pd rfl (det_move rfl) ?_
              refine JL_pd rfl (det_assign rfl) ?_
              refine JL_nil ?_
              refine JE_block ?_
              refine JE_seq ?_
              refine JC_region ?_
              refine JL_pd rfl (det_add rfl rfl ⟨by omega, by omega⟩) ?_
              refine JL_pd rfl (det_move rfl) ?_
              refine JL_nil ?_
              -- stop: end
              refine JE_roundF hK' (i + 1) (by omega) (by omega) (stsub_consI rfl (by omega) (stsub_consI rfl hp.symm stsub_nil)) ht_nil
            · cases h5
          · rw [q]
            by_cases c2 : E.getD b 0 < E.getD i 0
            · have hp : pick E xs[ts[j]].g.fr (i + 1) = i := by unfold pick; rw [q, Int.toNat_natCast, if_pos ⟨c1, .inr c2⟩]
              refine JC_skip ?_
              refine JE_seq ?_
              refine JC_seq ?_
              refine JC_block ?_
              refine JC_seq ?_
              refine JC_region ?_
              refine JL_pd rfl (det_move rfl) ?_
              refine JL_pd rfl (det_assign rfl) ?_
              refine JL_nil ?_
              refine JE_seq ?_
              refine JC_seq ?_
              refine JC_draw [] (by kernel_rfl) ?_
              refine JA_pd (i := 0) rfl (by kernel_rfl) rfl rfl (det_move rfl) ?_
              refine JA_pd (i := 1) rfl (by kernel_rfl) rfl rfl (det_move rfl) ?_
              refine JA_pd (i := 2) rfl (by kernel_rfl) rfl rfl (det_indexOwn (i := i) rfl rfl (by first | rfl | omega) (by first | assumption | omega) Tryz.runUnderlying31 Tryz.sizeOf3) ?_
              refine JA_dt (i := 3) rfl (by kernel_rfl) (by kernel_rfl) rfl rfl (det_loadO rfl Tryz.isAgg3 (hg i hi2)) ?_
              refine JA_dt (i := 4) rfl (by kernel_rfl) (by kernel_rfl) rfl rfl (det_loadK rfl Tryz.isAgg88 rfl) ?_
              refine JA_pd (i := 5) rfl (by kernel_rfl) rfl rfl (det_move rfl) ?_
              refine JA_dt (i := 6) rfl (by kernel_rfl) (by kernel_rfl) rfl rfl (det_indexAddr rfl rfl (by first | rfl | omega) (by first | assumption | omega | decide) Tryz.runUnderlying88 Tryz.sizeOf179) ?_
              refine JA_pd (i := 7) rfl (by kernel_rfl) rfl rfl (det_fieldAddrE rfl fo_179_0) ?_
              refine JA_dt (i := 8) rfl (by kernel_rfl) (by kernel_rfl) rfl rfl (det_loadEk rfl (by first | assumption | omega | decide) Tryz.isAgg3 rfl rfl) ?_
              refine JA_pd (i := 9) rfl (by kernel_rfl) rfl rfl (det_lss rfl rfl) ?_
              refine JA_pd (i := 10) rfl (by kernel_rfl) rfl rfl (det_move rfl) ?_
              -- stop: guard 10
              refine JA_is (d0 := 70) true rfl (by exact decide_eq_true c1) (fun g1 => ?_)
              refine JA_gpd (i := 11) rfl (by kernel_rfl) rfl rfl rfl rfl g1 (det_move rfl) ?_
              refine JA_gpd (i := 12) rfl (by kernel_rfl) rfl rfl rfl rfl g1 (det_eql rfl rfl) ?_
              refine JA_gpd (i := 13) rfl (by kernel_rfl) rfl rfl rfl rfl g1 (det_move rfl) ?_
              -- stop: guard 13
              refine JA_is (d0 := 73) false rfl (by exact decide_eq_false (by omega)) (fun g2 => ?_)
              refine JA_gpd (i := 14) rfl (by kernel_rfl) rfl rfl rfl rfl g2 (det_move rfl) ?_
              refine JA_gpd (i := 15) rfl (by kernel_rfl) rfl rfl rfl rfl g2 (det_move rfl) ?_
              refine JA_gpd (i := 16) rfl (by kernel_rfl) rfl rfl rfl rfl g2 (det_indexOwn (i := i) rfl rfl (by first | rfl | omega) (by first | assumption | omega) Tryz.runUnderlying31 Tryz.sizeOf3) ?_
              refine JA_gdt (i := 17) rfl (by kernel_rfl) (by kernel_rfl) rfl rfl rfl rfl g2 (det_loadO rfl Tryz.isAgg3 (hg i hi2)) ?_
              refine JA_gpd (i := 18) rfl (by kernel_rfl) rfl rfl rfl rfl g2 (det_move rfl) ?_
              refine JA_gpd (i := 19) rfl (by kernel_rfl) rfl rfl rfl rfl g2 (det_move rfl) ?_
              refine JA_gpd (i := 20) rfl (by kernel_rfl) rfl rfl rfl rfl g2 (det_indexOwn (i := b) rfl rfl (by first | rfl | omega) (by first | assumption | omega) Tryz.runUnderlying31 Tryz.sizeOf3) ?_
              refine JA_gdt (i := 21) rfl (by kernel_rfl) (by kernel_rfl) rfl rfl rfl rfl g2 (det_loadO rfl Tryz.isAgg3 (hg b (by omega))) ?_
              refine JA_gpd (i := 22) rfl (by kernel_rfl) rfl rfl rfl rfl g2 (det_gtr rfl rfl) ?_
              refine JA_gpd (i := 23) rfl (by kernel_rfl) rfl rfl rfl rfl g1 (det_pick_f rfl g2 rfl) ?_
              refine JA_pd (i := 24) rfl (by kernel_rfl) rfl rfl (det_pick_t rfl g1 rfl) ?_
              refine JA_done (by kernel_rfl) ?_
              refine JE_seq ?_
              -- stop: cond
              refine JC_cond rfl (fun h5 => ?_) (fun h5 => ?_)
              · refine JC_region ?_
                refine JL_pd rfl (det_move rfl) ?_
                refine JL_pd rfl (det_assign rfl) ?_
                refine JL_nil ?_
                refine JE_block ?_
                refine JE_seq ?_
                refine JC_region ?_
                refine JL_pd rfl (det_add rfl rfl ⟨by omega, by omega⟩) ?_
                refine JL_pd rfl (det_move rfl) ?_
                refine JL_nil ?_
                -- stop: end
                refine JE_roundF hK' (i + 1) (by omega) (by omega) (stsub_consI rfl (by omega) (stsub_consI rfl hp.symm stsub_nil)) ht_nil
              · exact absurd c2 (of_decide_eq_false h5)
            · have hp : pick E xs[ts[j]].g.fr (i + 1) = b := by unfold pick; rw [q, Int.toNat_natCast, if_neg fun h => c2 (h.2.resolve_left (by omega))]
              refine JC_skip ?_
              refine JE_seq ?_
              refine JC_seq ?_
              refine JC_block ?_
              refine JC_seq ?_
              refine JC_region ?_
              refine JL_pd rfl (det_move rfl) ?_
              refine JL_pd rfl (det_assign rfl) ?_
              refine JL_nil ?_
              refine JE_seq ?_
              refine JC_seq ?_
              refine JC_draw [] (by kernel_rfl) ?_
              refine JA_pd (i := 0) rfl (by kernel_rfl) rfl rfl (det_move rfl) ?_
              refine JA_pd (i := 1) rfl (by kernel_rfl) rfl rfl (det_move rfl) ?_
              refine JA_pd (i := 2) rfl (by kernel_rfl) rfl rfl (det_indexOwn (i := i) rfl rfl (by first | rfl | omega) (by first | assumption | omega) Tryz.runUnderlying31 Tryz.sizeOf3) ?_
              refine JA_dt (i := 3) rfl (by kernel_rfl) (by kernel_rfl) rfl rfl (det_loadO rfl Tryz.isAgg3 (hg i hi2)) ?_
              refine JA_dt (i := 4) rfl (by kernel_rfl) (by kernel_rfl) rfl rfl (det_loadK rfl Tryz.isAgg88 rfl) ?_
              refine JA_pd (i := 5) rfl (by kernel_rfl) rfl rfl (det_move rfl) ?_
              refine JA_dt (i := 6) rfl (by kernel_rfl) (by kernel_rfl) rfl rfl (det_indexAddr rfl rfl (by first | rfl | omega) (by first | assumption | omega | decide) Tryz.runUnderlying88 Tryz.sizeOf179) ?_
              refine JA_pd (i := 7) rfl (by kernel_rfl) rfl rfl (det_fieldAddrE rfl fo_179_0) ?_
              refine JA_dt (i := 8) rfl (by kernel_rfl) (by kernel_rfl) rfl rfl (det_loadEk rfl (by first | assumption | omega | decide) Tryz.isAgg3 rfl rfl) ?_
              refine JA_pd (i := 9) rfl (by kernel_rfl) rfl rfl (det_lss rfl rfl) ?_
              refine JA_pd (i := 10) rfl (by kernel_rfl) rfl rfl (det_move rfl) ?_
              -- stop: guard 10
              refine JA_is (d0 := 70) true rfl (by exact decide_eq_true c1) (fun g1 => ?_)
              refine JA_gpd (i := 11) rfl (by kernel_rfl) rfl rfl rfl rfl g1 (det_move rfl) ?_
              refine JA_gpd (i := 12) rfl (by kernel_rfl) rfl rfl rfl rfl g1 (det_eql rfl rfl) ?_
              refine JA_gpd (i := 13) rfl (by kernel_rfl) rfl rfl rfl rfl g1 (det_move rfl) ?_
              -- stop: guard 13
              refine JA_is (d0 := 73) false rfl (by exact decide_eq_false (by omega)) (fun g2 => ?_)
              refine JA_gpd (i := 14) rfl (by kernel_rfl) rfl rfl rfl rfl g2 (det_move rfl) ?_
              refine JA_gpd (i := 15) rfl (by kernel_rfl) rfl rfl rfl rfl g2 (det_move rfl) ?_
              refine JA_gpd (i := 16) rfl (by kernel_rfl) rfl rfl rfl rfl g2 (det_indexOwn (i := i) rfl rfl (by first | rfl | omega) (by first | assumption | omega) Tryz.runUnderlying31 Tryz.sizeOf3) ?_
              refine JA_gdt (i := 17) rfl (by kernel_rfl) (by kernel_rfl) rfl rfl rfl rfl g2 (det_loadO rfl Tryz.isAgg3 (hg i hi2)) ?_
              refine JA_gpd (i := 18) rfl (by kernel_rfl) rfl rfl rfl rfl g2 (det_move rfl) ?_
              refine JA_gpd (i := 19) rfl (by kernel_rfl) rfl rfl rfl rfl g2 (det_move rfl) ?_
              refine JA_gpd (i := 20) rfl (by kernel_rfl) rfl rfl rfl rfl g2 (det_indexOwn (i := b) rfl rfl (by first | rfl | omega) (by first | assumption | omega) Tryz.runUnderlying31 Tryz.sizeOf3) ?_
              refine JA_gdt (i := 21) rfl (by kernel_rfl) (by kernel_rfl) rfl rfl rfl rfl g2 (det_loadO rfl Tryz.isAgg3 (hg b (by omega))) ?_
              refine JA_gpd (i := 22) rfl (by kernel_rfl) rfl rfl rfl rfl g2 (det_gtr rfl rfl) ?_
              refine JA_gpd (i := 23) rfl (by kernel_rfl) rfl rfl rfl rfl g1 (det_pick_f rfl g2 rfl) ?_
              refine JA_pd (i := 24) rfl (by kernel_rfl) rfl rfl (det_pick_t rfl g1 rfl) ?_
              refine JA_done (by kernel_rfl) ?_
              refine JE_seq ?_
              -- stop: cond
              refine JC_cond rfl (fun h5 => ?_) (fun h5 => ?_)
              · exact absurd (of_decide_eq_true h5) c2
              · refine JC_skip ?_
                refine JE_block ?_
                refine JE_seq ?_
                refine JC_region ?_
                refine JL_pd rfl (det_add rfl rfl ⟨by omega, by omega⟩) ?_
                refine JL_pd rfl (det_move rfl) ?_
                refine JL_nil ?_
                -- stop: end
                refine JE_roundF hK' (i + 1) (by omega) (by omega) (stsub_consI rfl (by omega) (stsub_consI rfl hp.symm stsub_nil)) ht_nil
        · have hp : pick E xs[ts[j]].g.fr (i + 1) = pick E xs[ts[j]].g.fr i := by conv => lhs; unfold pick
                                                                                  rw [if_neg fun h => c1 h.1]
          refine JC_skip ?_
          refine JE_seq ?_
          refine JC_seq ?_
          refine JC_block ?_
          refine JC_seq ?_
          refine JC_region ?_
          refine JL_pd rfl (det_move rfl) ?_
          refine JL_pd rfl (det_assign rfl) ?_
          refine JL_nil ?_
          refine JE_seq ?_
          refine JC_seq ?_
          refine JC_draw [] (by kernel_rfl) ?_
          refine JA_pd (i := 0) rfl (by kernel_rfl) rfl rfl (det_move rfl) ?_
          refine JA_pd (i := 1) rfl (by kernel_rfl) rfl rfl (det_move rfl) ?_
          refine JA_pd (i := 2) rfl (by kernel_rfl) rfl rfl (det_indexOwn (i := i) rfl rfl (by first | rfl | omega) (by first | assumption | omega) Tryz.runUnderlying31 Tryz.sizeOf3) ?_
          refine JA_dt (i := 3) rfl (by kernel_rfl) (by kernel_rfl) rfl rfl (det_loadO rfl Tryz.isAgg3 (hg i hi2)) ?_
          refine JA_dt (i := 4) rfl (by kernel_rfl) (by kernel_rfl) rfl rfl (det_loadK rfl Tryz.isAgg88 rfl) ?_
          refine JA_pd (i := 5) rfl (by kernel_rfl) rfl rfl (det_move rfl) ?_
          refine JA_dt (i := 6) rfl (by kernel_rfl) (by kernel_rfl) rfl rfl (det_indexAddr rfl rfl (by first | rfl | omega) (by first | assumption | omega | decide) Tryz.runUnderlying88 Tryz.sizeOf179) ?_
          refine JA_pd (i := 7) rfl (by kernel_rfl) rfl rfl (det_fieldAddrE rfl fo_179_0) ?_
          refine JA_dt (i := 8) rfl (by kernel_rfl) (by kernel_rfl) rfl rfl (det_loadEk rfl (by first | assumption | omega | decide) Tryz.isAgg3 rfl rfl) ?_
          refine JA_pd (i := 9) rfl (by kernel_rfl) rfl rfl (det_lss rfl rfl) ?_
          refine JA_pd (i := 10) rfl (by kernel_rfl) rfl rfl (det_move rfl) ?_
          -- stop: guard 10
          refine JA_is (d0 := 70) false rfl (by exact decide_eq_false c1) (fun g1 => ?_)
          refine JA_skip (i := 11) rfl (by kernel_rfl) rfl rfl rfl rfl g1 ?_
          refine JA_skip (i := 12) rfl (by kernel_rfl) rfl rfl rfl rfl g1 ?_
          refine JA_skip (i := 13) rfl (by kernel_rfl) rfl rfl rfl rfl g1 ?_
          refine JA_skipU (i := 14) rfl (by kernel_rfl) rfl rfl rfl rfl ?_
          refine JA_skipU (i := 15) rfl (by kernel_rfl) rfl rfl rfl rfl ?_
          refine JA_skipU (i := 16) rfl (by kernel_rfl) rfl rfl rfl rfl ?_
          refine JA_skipU (i := 17) rfl (by kernel_rfl) rfl rfl rfl rfl ?_
          refine JA_skipU (i := 18) rfl (by kernel_rfl) rfl rfl rfl rfl ?_
          refine JA_skipU (i := 19) rfl (by kernel_rfl) rfl rfl rfl rfl ?_
          refine JA_skipU (i := 20) rfl (by kernel_rfl) rfl rfl rfl rfl ?_
          refine JA_skipU (i := 21) rfl (by kernel_rfl) rfl rfl rfl rfl ?_
          refine JA_skipU (i := 22) rfl (by kernel_rfl) rfl rfl rfl rfl ?_
          refine JA_skip (i := 23) rfl (by kernel_rfl) rfl rfl rfl rfl g1 ?_
          refine JA_pd (i := 24) rfl (by kernel_rfl) rfl rfl (det_pick_f rfl g1 rfl) ?_
          refine JA_done (by kernel_rfl) ?_
          refine JE_seq ?_
          -- stop: cond
          refine JC_cond rfl (fun h5 => ?_) (fun h5 => ?_)
          · cases h5
          · refine JC_skip ?_
            refine JE_block ?_
            refine JE_seq ?_
            refine JC_region ?_
            refine JL_pd rfl (det_add rfl rfl ⟨by omega, by omega⟩) ?_
            refine JL_pd rfl (det_move rfl) ?_
            refine JL_nil ?_
            -- stop: end
            refine JE_roundF hK' (i + 1) (by omega) (by omega) (stsub_consI rfl (by omega) (stsub_consI rfl hp.symm stsub_nil)) ht_nil
      · obtain rfl : i = k := by omega
        have hvj : (gre (List.replicate i (-1)) L).getD j 0 = pick E xs[ts[j]].g.fr i := by
          have hjL : j < L.length := by omega
          rw [List.getD_eq_getElem?_getD, List.getElem?_eq_getElem (by rw [gre_len]; exact hjL), gre_get L _ j hjL, hE, hEl, hLg j hj2]; rfl
        have hsn : L.take (j + 1) = L.take j ++ [xs[ts[j]].g] := by rw [take_snoc (by omega), hLg j hj2]
        rcases pick_spec E xs[ts[j]].g.fr i (by omega) with ⟨q, q1⟩ | ⟨b, hb, q, q1, q2⟩
        · have hE2 : endsA (List.replicate i (-1)) (L.take (j + 1)) = E := by rw [hsn, endsA_snoc, hE, ends', hEl, if_pos q]
          rw [q]
          refine JC_exit ?_
          refine JE_seq_exit ?_
          refine JE_then_exit ?_
          refine JE_block_here ?_
          refine JE_seq ?_
          refine JC_seq ?_
          refine JC_region ?_
          refine JL_pd rfl (det_move rfl) ?_
          refine JL_pd rfl (det_neq rfl rfl) ?_
          refine JL_nil ?_
          refine JE_seq ?_
          -- stop: cond
          refine JC_ifn rfl (fun h6 => ?_) (fun h6 => ?_)
          · exact absurd rfl h6
          · refine JC_skip ?_
            refine JE_block ?_
            refine JE_seq ?_
            refine JC_region ?_
            refine JL_pd rfl (det_add rfl rfl ⟨by omega, by omega⟩) ?_
            refine JL_pd rfl (det_move rfl) ?_
            refine JL_nil ?_
            -- stop: end
            refine JE_roundF hK (j + 1, p, t) ⟨by simp only; omega, hfl.same hj2 (by rw [hvj, q])⟩ (by simp only; omega) (stsub_consI rfl (by simp only; omega) stsub_nil) (ht_cons (ht_ow rfl (by rw [hE2]) (ht_cons ht_nil)))
        · have hE2 : endsA (List.replicate i (-1)) (L.take (j + 1)) = E.set b xs[ts[j]].g.hi := by rw [hsn, endsA_snoc, hE, ends', hEl, q, if_neg (by omega), Int.toNat_natCast]
          have hpn := hfl.n
          rw [q]
          refine JC_exit ?_
          refine JE_seq_exit ?_
          refine JE_then_exit ?_
          refine JE_block_here ?_
          refine JE_seq ?_
          refine JC_seq ?_
          refine JC_region ?_
          refine JL_pd rfl (det_move rfl) ?_
          refine JL_pd rfl (det_neq rfl rfl) ?_
          refine JL_nil ?_
          refine JE_seq ?_
          -- stop: cond
          refine JC_ifn rfl (fun h6 => ?_) (fun h6 => ?_)
          · refine JC_seq ?_
            refine JC_region ?_
            refine JL_pd rfl (det_move rfl) ?_
            refine JL_pd rfl (det_move rfl) ?_
            refine JL_pd rfl (det_move rfl) ?_
            refine JL_pd rfl (det_move rfl) ?_
            refine JL_pd rfl (det_move rfl) ?_
            refine JL_dt rfl (det_loadK rfl Tryz.isAgg88 rfl) ?_
            refine JL_pd rfl (det_move rfl) ?_
            refine JL_dt rfl (det_indexAddr rfl rfl (by first | rfl | omega) (by first | assumption | omega | decide) Tryz.runUnderlying88 Tryz.sizeOf179) ?_
            refine JL_pd rfl (det_fieldAddrE rfl fo_179_1) ?_
            refine JL_pd rfl (det_fieldAddrEk (k2 := 2) rfl fo_177_1 rfl) ?_
            refine JL_dt rfl (det_loadEk rfl (by first | assumption | omega | decide) Tryz.isAgg3 rfl rfl) ?_
            refine JL_pd rfl (det_indexOwn (i := ts[j]) rfl rfl (by first | rfl | omega) (by first | assumption | omega) Tryz.runUnderlying31 Tryz.sizeOf3) ?_
            refine JL_step0 rfl rfl (jo_storeO (xs' := (p.set ts[j] (b : Int)).flatMap encI) (vs := encI (b : Int)) rfl rfl rfl (splice_rec encI p ts[j] (b : Int) (by omega)) Tryz.sizeOf3 (by rw [flat_len, hpn]; simp [encI]; omega) rfl) fun _ => ?_
            refine JL_pd rfl (det_indexOwn (i := b) rfl rfl (by first | rfl | omega) (by first | assumption | omega) Tryz.runUnderlying31 Tryz.sizeOf3) ?_
            refine JL_step0 rfl rfl (jo_storeO (xs' := (E.set b xs[ts[j]].g.hi).flatMap encI) (vs := encI xs[ts[j]].g.hi) rfl rfl rfl (splice_rec encI E b xs[ts[j]].g.hi (by omega)) Tryz.sizeOf3 (by rw [flat_len, hEl]; simp [encI]; omega) rfl) fun _ => ?_
            refine JL_nil ?_
            refine JE_seq ?_
            refine JC_region ?_
            refine JL_pd rfl (det_move rfl) ?_
            refine JL_dt rfl (det_loadK rfl Tryz.isAgg88 rfl) ?_
            refine JL_pd rfl (det_move rfl) ?_
            refine JL_dt rfl (det_indexAddr rfl rfl (by first | rfl | omega) (by first | assumption | omega | decide) Tryz.runUnderlying88 Tryz.sizeOf179) ?_
            refine JL_dt rfl (det_loadEA rfl (by first | assumption | omega | decide) Tryz.isAgg179 Tryz.sizeOf179 rfl rfl rfl) ?_
            refine JL_pd rfl (det_move rfl) ?_
            refine JL_step rfl rfl rfl (jo_callx rfl rfl Tryz.call82 rfl (take_j xs[ts[j]] x19.1 x19.2 x a xs.length c t (b : Int) (V.gr _ (List.mem_map.2 ⟨_, List.getElem_mem hi, rfl⟩))) (pick_perm)) fun x108 => ?_
            refine JL_nil ?_
            refine JE_block ?_
            refine JE_seq ?_
            refine JC_region ?_
            refine JL_pd rfl (det_add rfl rfl ⟨by omega, by omega⟩) ?_
            refine JL_pd rfl (det_move rfl) ?_
            refine JL_nil ?_
            -- stop: end
            refine JE_roundF hK (j + 1, p.set ts[j] ((gre (List.replicate i (-1)) L).getD j 0), addT t (b : Int) (hoursL xs[ts[j]].g)) ⟨by simp only; omega, hfl.set htd hj2 htn⟩ (by simp only; omega) (stsub_consI rfl (by simp only; omega) stsub_nil) (ht_ow rfl (by rw [hvj, q]) (ht_ow rfl (by rw [hE2]) (ht_cons ht_nil)))
          · exact absurd h6 (by omega)
    · obtain rfl : j = xs.length := by omega
      refine JC_exit ?_
      refine JE_seq_exit ?_
      refine JE_then_exit ?_
      refine JE_block_here ?_
      refine JE_seq ?_
      refine JC_seq ?_
      refine JC_region ?_
      refine JL_pd rfl (det_move rfl) ?_
      refine JL_pd rfl (det_assign rfl) ?_
      refine JL_pd rfl (det_assign rfl) ?_
      refine JL_nil ?_
      refine JE_seq ?_
      refine JC_ret ?_
      -- stop: out
      have hso : ServeOk x.h.lanes.toNat (gs xs) p := by
        rw [hk]
        refine serve_of (ord := ts) (by rw [hlen]; exact hts) ?_ ?_
        · rw [List.pairwise_map]
          refine hto.imp fun {x y} hxy => ?_
          have := mt (cfS_lt (gs xs) y x).2 hxy
          omega
        · rw [hL, hlen, htl]; exact hfl
      refine JE_slice (enc := encI) (v := .slice (some ⟨b44, 0, none⟩) xs.length xs.length) p noFp rfl hfl.n.symm fun a2 cap2 e2 => ?_
      obtain rfl := (Value.slice.inj e2).1
      obtain rfl := (Value.slice.inj e2).2.2
      refine JE_out (.inl rfl) (b44, ⟨p, hso⟩) (results2 Tryz.results31 (res_tmp rfl) (res_tmp rfl)) rfl (List.Perm.refl _) (fun w h => h.1)
end Go.Proofs.YthpkgabckklojaaGreat.En

/- Walks of lend: plans, and the bound of marks. -/
namespace Go.Proofs.YthpkgabckklojaaGreat.En
open Go.RowKit Go.Shelf

/-- Are numbers right, and do they rise? -/
def risB (p : Int → Bool) (l : List Int) : Bool := l.all p && decide (l.Pairwise (· < ·))
theorem up_snoc {l : List Int} {i : Nat} (h : i < l.length) (hu : (l.take i).Pairwise (· < ·)) (hx : i = 0 ∨ ∃ j, ∃ hj : j < l.length, j + 1 = i ∧ l[j] < l[i]) : (l.take (i + 1)).Pairwise (· < ·) := by
  rw [take_snoc h]
  refine List.pairwise_append.2 ⟨hu, List.pairwise_singleton _ _, fun a ha b hb => ?_⟩
  rw [List.mem_singleton.1 hb]
  obtain ⟨m, hm, rfl⟩ := List.mem_iff_getElem.1 ha
  rw [List.length_take] at hm
  rcases hx with rfl | ⟨j, hj, rfl, hlt⟩
  · omega
  · rw [List.getElem_take]
    by_cases e : m = j
    · subst e; exact hlt
    · have := List.pairwise_iff_getElem.1 hu m j (by rw [List.length_take]; omega) (by rw [List.length_take]; omega) (by omega)
      rw [List.getElem_take, List.getElem_take] at this
      omega
theorem up_no {l : List Int} {j i : Nat} (hi : i < l.length) (hji : j + 1 = i) (h : l[i] ≤ l[j]'(by omega)) : ¬ l.Pairwise (· < ·) := fun hu => by
  have := List.pairwise_iff_getElem.1 hu j i (by omega) hi (by omega)
  omega
theorem countP_snoc {α : Type} (p : α → Bool) (l : List α) (i : Nat) (h : i < l.length) : ((l.take (i + 1)).countP p : Int) = (l.take i).countP p + if p l[i] = true then 1 else 0 := by
  rw [take_snoc h, List.countP_append, List.countP_singleton]
  split <;> simp
def boundE (x : Hx) (l : List Gr) (T : List Int) : Value := if risB (fun n => inI n 0 30) T = true then .tuple #[I ((boundL x.h.lanes.toNat l T : Nat) : Int), I 0] else .tuple #[I 0, I 2]
end Go.Proofs.YthpkgabckklojaaGreat.En

/- Walks of lend: plans that are given. -/
namespace Go.Proofs.YthpkgabckklojaaGreat.En
open Go.RowKit Go.Shelf

theorem isPlan_eq (x : Hx) (xs : List Gx) (plan : List Int) : isPlan x.h.lanes (gs xs) plan = (plan.all (fun n => inI n (-1) (x.h.lanes - 1)) && decide (plan.length = xs.length)) := by unfold isPlan; rw [show (gs xs).length = xs.length from List.length_map _]
end Go.Proofs.YthpkgabckklojaaGreat.En

/- Walks of lend: when a group can come later; what a list has; what sizes lack. -/
namespace Go.Proofs.YthpkgabckklojaaGreat.En
open Go.RowKit Go.Shelf

section
variable {P : Program} {st : Sto} {d : Option Nat} {ty : TypeId} {pos : String} {af : Array Edge} {g : Option (Nat × Bool)}
/-- Is a pointer nil? -/
theorem det_eqlPN {x y : Operand} {t t' E : TypeId} {p : Option Addr} (hx : opnd st x = some (.pointer p)) (hy : opnd st y = some (.pointer none)) (hu : P.underlying t = some (.pointer E)) : PDet P ⟨d, .binOp .eql t x y t', ty, pos, af, g⟩ st (.bool p.isNone) := fun N a w hs => by
  have h1 : (Op.equalIn 10000 t (.pointer p) (.pointer none)).run P w = .ok p.isNone w := by
    unfold Op.equalIn
    simp only [Sem.run_bind, run_underlying hu, Result.andThen_ok]
    cases p <;> rfl
  cases p <;> simp [execOp, hs.eval hx, hs.eval hy, eqGuard, binOp, Op.equal, Op.maxDepth, h1]
end
def later3 (o : Option (Int × Int)) : Int × Int × Int := match o with | some r => (r.1, r.2, 0) | none => (0, 0, 7)
def laterE (x : Hx) (l : List Gr) (plan : List Int) (group : Int) : Int × Int × Int :=
  if fault x.h l ≠ 0 then (0, 0, fault x.h l) else if isPlan x.h.lanes l plan = false ∨ inI group 0 ((l.length : Int) - 1) = false then (0, 0, 2)
  else if rightB l plan = false ∨ plan.getD group.toNat 0 ≠ -1 then (0, 0, 8) else later3 (laterV (tk (l.zip plan)) x.h.lanes.toNat l[group.toNat]!)
def tup3 (q : Int × Int × Int) : Value := .tuple #[I q.1, I q.2.1, I q.2.2]
end Go.Proofs.YthpkgabckklojaaGreat.En

/- Walks of lend: what sizes lack. -/
namespace Go.Proofs.YthpkgabckklojaaGreat.En
open Go.RowKit Go.Shelf

def shodE (h : Hs) (feet : List Int) : Int := if hsOk h = false then 1 else if 48 < feet.length then 3 else if (feet.all fun n => inI n 0 9) = false then 2 else 0
theorem shod_j (x : Hx) (a : Option Addr) (cap : Nat) (feet : List Int) : Cv Tryz.prog 84 [.agg #[I x.h.lanes, .slice x.a x.h.shoes.length x.c], .slice a feet.length cap] (KAnd (KHx x) (KSl a feet.length cap encI feet)) (I (shodE x.h feet)) := by
  refine Cx_of Tryz.func84 rfl Tryz.ntmps84 rfl fun w0 M0 => ?_
  refine JC_seq ?_
  refine JC_region ?_
  refine JL_step rfl rfl rfl (jo_box rfl rfl) fun b2 => ?_
  refine JL_pd rfl (det_assign rfl) ?_
  refine JL_nil ?_
  refine JE_seq ?_
  refine JC_seq ?_
  refine JC_block ?_
  refine JC_seq ?_
  refine JC_region ?_
  refine JL_dt rfl (det_loadKA rfl Tryz.isAgg86 Tryz.sizeOf86 rfl rfl) ?_
  refine JL_step rfl rfl rfl (jo_callv rfl rfl Tryz.call127 rfl (hvalid_j x)) fun _ => ?_
  refine JL_pd rfl (det_not rfl) ?_
  refine JL_pd rfl (det_assign rfl) ?_
  refine JL_nil ?_
  refine JE_seq ?_
  -- stop: cond
  refine JC_pure (p := feet.length ≤ 9223372036854775807) (by intro w h; exact (Knows.know (F := KSl a feet.length cap encI feet) w h).1.bd) fun hz => ?_
  refine JC_cond rfl (fun h1 => ?_) (fun h1 => ?_)
  · refine JC_seq ?_
    refine JC_region ?_
    refine JL_pd rfl (det_assign rfl) ?_
    refine JL_nil ?_
    refine JE_seq ?_
    refine JC_ret ?_
    refine JE_block_ret ?_
    refine JE_seq_ret ?_
    -- stop: out
    refine JE_out (.inl rfl) () (results1 Tryz.results84 (res_tmp rfl)) (by unfold shodE; rw [if_pos (by simpa using h1)]) (List.Perm.refl _) (fun _ _ => trivial)
  · refine JC_seq ?_
    refine JC_region ?_
    refine JL_pd rfl (det_move rfl) ?_
    refine JL_pd rfl (det_len rfl Tryz.runUnderlying31) ?_
    refine JL_pd rfl (det_gtr rfl rfl) ?_
    refine JL_pd rfl (det_assign rfl) ?_
    refine JL_nil ?_
    refine JE_seq ?_
    -- stop: cond
    refine JC_if rfl (fun h2 => ?_) (fun h2 => ?_)
    · refine JC_seq ?_
      refine JC_region ?_
      refine JL_pd rfl (det_assign rfl) ?_
      refine JL_nil ?_
      refine JE_seq ?_
      refine JC_ret ?_
      refine JE_block_ret ?_
      refine JE_seq_ret ?_
      -- stop: out
      refine JE_out (.inl rfl) () (results1 Tryz.results84 (res_tmp rfl)) (by unfold shodE; rw [if_neg (by simpa using h1), if_pos (by omega)]) (List.Perm.refl _) (fun _ _ => trivial)
    · refine JC_seq ?_
      refine JC_region ?_
      refine JL_pd rfl (det_move rfl) ?_
      refine JL_step rfl rfl rfl (jo_callv rfl rfl Tryz.call128 rfl (allI_j (fun n => inI n 0 9) 129 [] [] KTrue Tryz.call129 (fun n => size_j n) a cap feet hz)) fun _ => ?_
      refine JL_pd rfl (det_not rfl) ?_
      refine JL_pd rfl (det_assign rfl) ?_
      refine JL_nil ?_
      refine JE_seq ?_
      -- stop: cond
      refine JC_cond rfl (fun h3 => ?_) (fun h3 => ?_)
      · refine JC_seq ?_
        refine JC_region ?_
        refine JL_pd rfl (det_assign rfl) ?_
        refine JL_nil ?_
        refine JE_seq ?_
        refine JC_ret ?_
        refine JE_block_ret ?_
        refine JE_seq_ret ?_
        -- stop: out
        refine JE_out (.inl rfl) () (results1 Tryz.results84 (res_tmp rfl)) (by unfold shodE; rw [if_neg (by simpa using h1), if_neg (by omega), if_pos (by simpa using h3)]) (List.Perm.refl _) (fun _ _ => trivial)
      · refine JC_skip ?_
        refine JE_block ?_
        refine JE_seq ?_
        refine JC_seq ?_
        refine JC_region ?_
        refine JL_pd rfl (det_assign rfl) ?_
        refine JL_nil ?_
        refine JE_seq ?_
        refine JC_ret ?_
        -- stop: out
        refine JE_out (.inl rfl) () (results1 Tryz.results84 (res_tmp rfl)) (by unfold shodE; rw [if_neg (by simpa using h1), if_neg (by omega), if_neg (by simpa using h3)]) (List.Perm.refl _) (fun _ _ => trivial)
structure VFeet (h : Hs) (feet : List Int) : Prop where
  hs : VHs h
  n : feet.length ≤ 48
  ft : ∀ f ∈ feet, 0 ≤ f ∧ f ≤ 9
theorem vfeet_of {h : Hs} {feet : List Int} (q : shodE h feet = 0) : VFeet h feet := by
  unfold shodE at q
  split at q
  · omega
  · split at q
    · omega
    · split at q
      · omega
      · rename_i h1 h2 h3
        exact ⟨hsOk_iff.1 (by simpa using h1), by omega, fun f hf => inI_iff.1 (List.all_eq_true.1 (by simpa using h3) f hf)⟩
theorem shoe_get {sh : List Int} {i : Nat} (h : i < sh.length) : shoe sh (i : Int) = sh[i] := by
  unfold shoe
  rw [Int.toNat_natCast, List.getD_eq_getElem?_getD, List.getElem?_eq_getElem h]; rfl
def lackE (x : Hx) (feet S : List Int) : Value := if shodE x.h feet ≠ 0 then .tuple #[I 0, I (shodE x.h feet)] else if risB (fun n => inI n 0 9) S = true then .tuple #[I (lack x.h.shoes feet S), I 0] else .tuple #[I 0, I 2]
end Go.Proofs.YthpkgabckklojaaGreat.En
