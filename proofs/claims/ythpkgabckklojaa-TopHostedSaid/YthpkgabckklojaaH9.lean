/- Own texts, laid together: E10 E11 E12 E13 E14. Nothing is asked. -/
import Derived.Test.YthpkgabckklojaaH8
set_option linter.unusedSimpArgs false
set_option linter.unusedVariables false
/- Walks of lend: Serve. -/
namespace Go.Proofs.Ythpkgabckklojaa.En
open Go.RowKit Go.Shelf

theorem Serve_je (x : Hx) (a : Option Addr) (c : Nat) (xs : List Gx) (h : fault x.h (gs xs) ≠ 0) : Cv Try.prog 7 [.agg #[I x.h.lanes, .slice x.a x.h.shoes.length x.c], .slice a xs.length c] (KAnd (KHx x) (KGs a c xs)) (.tuple #[.slice none 0 0, I (fault x.h (gs xs))]) := by
  refine Cx_of Try.func7 rfl Try.ntmps7 rfl fun w0 M0 => ?_
  refine JC_seq ?_
  refine JC_region ?_
  refine JL_step rfl rfl rfl (jo_box rfl rfl) fun b2 => ?_
  refine JL_step rfl rfl rfl (jo_box rfl rfl) fun b3 => ?_
  refine JL_pd rfl (det_assign rfl) ?_
  refine JL_pd rfl (det_assign rfl) ?_
  refine JL_nil ?_
  refine JE_seq ?_
  refine JC_seq ?_
  refine JC_region ?_
  refine JL_dt rfl (det_loadKA rfl Try.isAgg28 Try.sizeOf28 rfl rfl) ?_
  refine JL_dt rfl (det_loadK rfl Try.isAgg29 rfl) ?_
  refine JL_step rfl rfl rfl (jo_callv rfl rfl Try.call25 rfl (work_je x a c xs h)) fun _ => ?_
  refine JL_pd rfl (det_move rfl) ?_
  refine JL_pd rfl (det_extract rfl rfl) ?_
  refine JL_pd rfl (det_extract rfl rfl) ?_
  refine JL_pd rfl (det_assign rfl) ?_
  refine JL_pd rfl (det_assign rfl) ?_
  refine JL_nil ?_
  refine JE_seq ?_
  refine JC_seq ?_
  refine JC_seq ?_
  refine JC_region ?_
  refine JL_pd rfl (det_move rfl) ?_
  refine JL_pd rfl (det_neq rfl rfl) ?_
  refine JL_nil ?_
  refine JE_seq ?_
  -- stop: cond
  refine JC_ifn rfl (fun h1 => ?_) (fun h1 => ?_)
  · refine JC_seq ?_
    refine JC_region ?_
    refine JL_pd rfl (det_move rfl) ?_
    refine JL_pd rfl (det_assign rfl) ?_
    refine JL_pd rfl (det_assign rfl) ?_
    refine JL_nil ?_
    refine JE_seq ?_
    refine JC_ret ?_
    refine JE_seq_ret ?_
    -- stop: out
    refine JE_out (.inl rfl) () (results2 Try.results7 (res_tmp rfl) (res_tmp rfl)) rfl (List.Perm.refl _) (fun _ _ => trivial)
  · exact absurd h1 h
set_option maxRecDepth 100000 in
set_option maxHeartbeats 1000000 in
theorem Serve_jo (x : Hx) (a : Option Addr) (c : Nat) (xs : List Gx) (h : fault x.h (gs xs) = 0) : Cr Try.prog 7 [.agg #[I x.h.lanes, .slice x.a x.h.shoes.length x.c], .slice a xs.length c] (KAnd (KHx x) (KGs a c xs)) (fun q : Nat × { p : List Int // ServeOk x.h.lanes.toNat (gs xs) p } => .tuple #[.slice (some ⟨q.1, 0, none⟩) xs.length xs.length, I 0])
    (fun q => KSl (some ⟨q.1, 0, none⟩) xs.length xs.length encI q.2.1) := by
  have V := vld_of h
  have hn : xs.length ≤ 8 := by have := V.n; simpa [gs] using this
  have hlen : (gs xs).length = xs.length := by simp [gs]
  have hl0 := V.hs.l0
  have hl1 := V.hs.l1
  obtain ⟨k, hk⟩ : ∃ k : Nat, x.h.lanes.toNat = k := ⟨_, rfl⟩
  have hkk : x.h.lanes = (k : Int) := by omega
  refine Cx_of Try.func7 rfl Try.ntmps7 rfl fun w0 M0 => ?_
  refine JC_seq ?_
  refine JC_region ?_
  refine JL_step rfl rfl rfl (jo_box rfl rfl) fun b2 => ?_
  refine JL_step rfl rfl rfl (jo_box rfl rfl) fun b3 => ?_
  refine JL_pd rfl (det_assign rfl) ?_
  refine JL_pd rfl (det_assign rfl) ?_
  refine JL_nil ?_
  refine JE_seq ?_
  refine JC_seq ?_
  refine JC_region ?_
  refine JL_dt rfl (det_loadKA rfl Try.isAgg28 Try.sizeOf28 rfl rfl) ?_
  refine JL_dt rfl (det_loadK rfl Try.isAgg29 rfl) ?_
  refine JL_step rfl rfl rfl (jo_call rfl rfl Try.call25 rfl (work_jo x a c xs h)) fun x19 => ?_
  refine JL_pd rfl (det_move rfl) ?_
  refine JL_pd rfl (det_extract rfl rfl) ?_
  refine JL_pd rfl (det_extract rfl rfl) ?_
  refine JL_pd rfl (det_assign rfl) ?_
  refine JL_pd rfl (det_assign rfl) ?_
  refine JL_nil ?_
  refine JE_seq ?_
  refine JC_seq ?_
  refine JC_seq ?_
  refine JC_region ?_
  refine JL_pd rfl (det_move rfl) ?_
  refine JL_pd rfl (det_neq rfl rfl) ?_
  refine JL_nil ?_
  refine JE_seq ?_
  -- stop: cond
  refine JC_ifn rfl (fun h1 => ?_) (fun h1 => ?_)
  · exact absurd rfl h1
  refine JC_skip ?_
  refine JE_seq ?_
  refine JC_seq ?_
  refine JC_region ?_
  refine JL_dt rfl (det_loadK rfl Try.isAgg29 rfl) ?_
  refine JL_pd rfl (det_len rfl Try.runUnderlying29) ?_
  refine JL_step rfl rfl rfl (jo_makeSlice (n := xs.length) (zv := I 0) (z := 1) (bytes := 8) rfl rfl rfl Try.underlying26 (by kernel_rfl) (by omega) (by omega)) fun b27 => ?_
  refine JL_pd rfl (det_assign rfl) ?_
  refine JL_nil ?_
  refine JE_seq ?_
  refine JC_seq ?_
  refine JC_seq ?_
  refine JC_region ?_
  refine JL_dt rfl (det_loadK rfl Try.isAgg29 rfl) ?_
  refine JL_pd rfl (det_len rfl Try.runUnderlying29) ?_
  refine JL_pd rfl (det_move rfl) ?_
  refine JL_nil ?_
  refine JE_seq ?_
  refine JC_block ?_
  -- stop: loop
  refine JC_keep b3 noFp ?_
  refine JC_keep b2 noFp ?_
  refine JC_loopF (γ := Nat) (fun i => i ≤ xs.length) (fun i => [(30, I i)]) (fun i => [ow (.slice (some ⟨b27, 0, none⟩) xs.length xs.length) 3 1 xs.length ((ordI xs.length i).flatMap encN)]) (fun i => xs.length - i) 0 (Nat.zero_le _) (stsub_consI rfl rfl stsub_nil) (ht_ow rfl (ordI_zero _) ht_nil) ?_
  intro i hi K hK
  dsimp only [List.cons_append, List.nil_append]
  refine JC_seq ?_
  refine JC_region ?_
  refine JL_pd rfl (det_lss rfl rfl) ?_
  refine JL_nil ?_
  refine JE_seq ?_
  refine JC_seq ?_
  -- stop: cond
  refine JC_if rfl (fun h2 => ?_) (fun h2 => ?_)
  · have hi2 : i < xs.length := by omega
    refine JC_skip ?_
    refine JE_seq ?_
    refine JC_seq ?_
    refine JC_block ?_
    refine JC_seq ?_
    refine JC_region ?_
    refine JL_pd rfl (det_move rfl) ?_
    refine JL_pd rfl (det_assign rfl) ?_
    refine JL_nil ?_
    refine JE_seq ?_
    refine JC_region ?_
    refine JL_pd rfl (det_move rfl) ?_
    refine JL_pd rfl (det_move rfl) ?_
    refine JL_pd rfl (det_move rfl) ?_
    refine JL_pd rfl (det_indexOwn (i := i) rfl rfl (by first | rfl | omega) (by first | assumption | omega) Try.runUnderlying26 Try.sizeOf3) ?_
    refine JL_step0 rfl rfl (jo_storeO (xs' := (ordI xs.length (i + 1)).flatMap encN) (vs := encN i) rfl rfl rfl (by rw [splice_rec encN _ i i (by rw [ordI_len (by omega)]; exact hi2), ordI_set hi2]) Try.sizeOf3 (by rw [flat_len, ordI_len (by omega)]; simp [encN]; omega) rfl) fun _ => ?_
    refine JL_nil ?_
    refine JE_block ?_
    refine JE_seq ?_
    refine JC_region ?_
    refine JL_pd rfl (det_add rfl rfl ⟨by omega, by omega⟩) ?_
    refine JL_pd rfl (det_move rfl) ?_
    refine JL_nil ?_
    -- stop: end
    refine JE_roundF hK (i + 1) (by omega) (by omega) (stsub_consI rfl (by omega) stsub_nil) (ht_cons ht_nil)
  · obtain rfl : i = xs.length := by omega
    rw [ordI_all]
    have hsrt := sortN_y 27 xs.length [pt b3] (KAnd (KBox b3 [.slice a xs.length c]) (KSl a xs.length c encG xs)) (cfS (gs xs)) Try.call27 (swoS _ _) (fun W hW x y hx hy => serve_cmp xs V.gr (by omega) b3 a c W hW.1 hW.2 x y hx hy) b27 xs.length xs.length (List.range xs.length) (fun i hi => List.mem_range.1 hi) (by simp) (by omega)
    refine JC_exit ?_
    refine JE_seq_exit ?_
    refine JE_then_exit ?_
    refine JE_block_here ?_
    refine JE_seq ?_
    refine JC_seq ?_
    refine JC_region ?_
    refine JL_pd rfl (det_move rfl) ?_
    refine JL_pd rfl (det_makeFuncE rfl rfl) ?_
    -- stop: op  2 t40 := (call (Call (value f26) (t38 t39) (26 71)))   <0 1>   132
    refine JL_step rfl rfl rfl (jo_callx rfl rfl Try.call26 rfl (hsrt) (pick_perm)) fun ts => ?_
    refine JL_nil ?_
    refine JE_seq ?_
    refine JC_seq ?_
    refine JC_region ?_
    refine JL_step rfl rfl rfl (jo_buildSlice rfl (bsl_26_1_0 _)) fun b41 => ?_
    refine JL_dt rfl (det_loadK rfl Try.isAgg29 rfl) ?_
    refine JL_pd rfl (det_len rfl Try.runUnderlying29) ?_
    refine JL_lit (enc := encI) b41 1 [(-1 : Int)] noFp rfl rfl (by decide) ?_
    refine JL_step rfl rfl rfl (jo_call rfl rfl Try.call29 rfl (Repeat_i (xs.length : Int) xs.length rfl (by omega) _ _ (-1))) fun b44 => ?_
    refine JL_pd rfl (det_assign rfl) ?_
    refine JL_nil ?_
    refine JE_seq ?_
    refine JC_seq ?_
    refine JC_region ?_
    refine JL_step rfl rfl rfl (jo_buildSlice rfl (bsl_26_1_0 _)) fun b45 => ?_
    refine JL_pd rfl (det_fieldAddr rfl fo_28_0) ?_
    refine JL_dt rfl (det_loadK rfl Try.isAgg3 rfl) ?_
    refine JL_lit (enc := encI) b45 1 [(-1 : Int)] noFp rfl rfl (by decide) ?_
    refine JL_step rfl rfl rfl (jo_call rfl rfl Try.call29 rfl (Repeat_i x.h.lanes k hkk (by omega) _ _ (-1))) fun b48 => ?_
    refine JL_pd rfl (det_assign rfl) ?_
    refine JL_nil ?_
    refine JE_seq ?_
    refine JC_seq ?_
    refine JC_seq ?_
    refine JC_region ?_
    refine JL_pd rfl (det_move rfl) ?_
    refine JL_pd rfl (det_len rfl Try.runUnderlying26) ?_
    refine JL_pd rfl (det_move rfl) ?_
    refine JL_nil ?_
    refine JE_seq ?_
    refine JC_block ?_
    -- stop: loop
    obtain ⟨ts, hts, hto⟩ := ts
    have htl : ts.length = xs.length := by rw [hts.length_eq, List.length_range]
    have htn : ∀ i ∈ ts, i < xs.length := fun i hi => List.mem_range.1 (hts.mem_iff.1 hi)
    have htd : ts.Nodup := hts.nodup_iff.2 List.nodup_range
    dsimp only
    refine JC_kl (enc := encN) (.slice (some ⟨b27, 0, none⟩) xs.length xs.length) ts noFp fun a' cap' e' => ?_
    have e1 : a' = some ⟨b27, 0, none⟩ := (Value.slice.inj e').1.symm
    have e2 : cap' = xs.length := (Value.slice.inj e').2.2.symm
    subst e1 e2
    refine JC_know (R' := KAnd (KSl (some ⟨b27, 0, none⟩) xs.length xs.length encN ts) (KAnd (KBox b2 [I x.h.lanes, .slice x.a x.h.shoes.length x.c]) (KAnd (KBox b3 [.slice a xs.length c]) (KAnd (KBox x19.1 (wkC x a xs.length c x19.2)) (KAnd (KHx x) (KGs a c xs)))))) (fun w h => ⟨by have := h.1; rwa [htl] at this, Knows.know w h.2⟩) ?_
    generalize hL : ts.map (fun i => (gs xs)[i]!) = L
    have hLl : L.length = xs.length := by rw [← hL, List.length_map, htl]
    have hLg : ∀ j (hj : j < ts.length), L[j]'(by omega) = (xs[ts[j]]'(htn _ (List.getElem_mem hj))).g := fun j hj => by
      subst hL
      rw [List.getElem_map]; exact gs_get xs _ (htn _ (List.getElem_mem hj))
    refine JC_loopF (γ := Nat × List Int × (Cell → Bool)) (fun q => q.1 ≤ xs.length ∧ Fills xs.length ts (gre (List.replicate k (-1)) L) q.1 q.2.1) (fun q => [(51, I q.1)]) (fun q => [ow (.slice (some ⟨b44, 0, none⟩) xs.length xs.length) 3 1 xs.length (q.2.1.flatMap encI), ow (.slice (some ⟨b48, 0, none⟩) k k) 3 1 k ((endsA (List.replicate k (-1)) (L.take q.1)).flatMap encI), mp x19.2 ekC vB (tkM q.2.2)]) (fun q => xs.length - q.1) (0, List.replicate xs.length (-1), fun _ => false) ⟨Nat.zero_le _, .start htn⟩ (stsub_consI rfl rfl stsub_nil) (ht_cons (ht_ow rfl rfl (ht_cons ht_nil))) ?_
    rintro ⟨j, p, t⟩ ⟨hj, hfl⟩ K hK
    dsimp only [List.cons_append, List.nil_append] at hj hfl ⊢
    refine JC_seq ?_
    refine JC_region ?_
    refine JL_pd rfl (det_lss rfl rfl) ?_
    refine JL_nil ?_
    refine JE_seq ?_
    refine JC_seq ?_
    -- stop: cond
    refine JC_if rfl (fun h3 => ?_) (fun h3 => ?_)
    · have hj2 : j < ts.length := by omega
      have hi := htn _ (List.getElem_mem hj2)
      generalize hE : endsA (List.replicate k (-1)) (L.take j) = E
      have hEl : E.length = k := by rw [← hE, endsA_len, List.length_replicate]
      have hj3 : j < xs.length := by omega
      refine JC_skip ?_
      refine JE_seq ?_
      refine JC_seq ?_
      refine JC_block ?_
      refine JC_seq ?_
      refine JC_region ?_
      refine JL_dt rfl (det_indexAddr rfl rfl (by first | rfl | omega) (by first | assumption | omega | decide) Try.runUnderlying26 Try.sizeOf3) ?_
      refine JL_dt rfl (det_loadE (n := xs.length) (xs := ts) (v := I ((ts[j] : Nat) : Int)) rfl hj3 Try.isAgg3 htl.symm rfl) ?_
      refine JL_pd rfl (det_assign rfl) ?_
      refine JL_nil ?_
      refine JE_seq ?_
      refine JC_seq ?_
      refine JC_region ?_
      refine JL_pd rfl (det_assign rfl) ?_
      refine JL_nil ?_
      refine JE_seq ?_
      refine JC_seq ?_
      refine JC_seq ?_
      refine JC_region ?_
      refine JL_pd rfl (det_fieldAddr rfl fo_28_0) ?_
      refine JL_dt rfl (det_loadK rfl Try.isAgg3 rfl) ?_
      refine JL_pd rfl (det_move rfl) ?_
      refine JL_nil ?_
      refine JE_seq ?_
      refine JC_block ?_
      -- stop: loop
      refine JC_loopF (γ := Nat) (fun i => i ≤ k) (fun i => [(57, I i), (14, I (pick E xs[ts[j]].g.fr i))]) (fun _ => []) (fun i => k - i) 0 (Nat.zero_le _) (stsub_consI rfl rfl (stsub_consI rfl rfl stsub_nil)) ht_nil ?_
      intro i hik K' hK'
      dsimp only [List.cons_append, List.nil_append]
      refine JC_seq ?_
      refine JC_region ?_
      refine JL_pd rfl (det_lss rfl rfl) ?_
      refine JL_nil ?_
      refine JE_seq ?_
      refine JC_seq ?_
      -- stop: cond
      refine JC_if rfl (fun h4 => ?_) (fun h4 => ?_)
      · have hi2 : i < k := by omega
        have hg : ∀ m : Nat, m < k → (E.flatMap encI)[m * 1]? = some (I (E.getD m 0)) := fun m hm => by
          rw [show encI = fun v => [I v] from rfl, flat1 (fun v : Int => I v), Nat.mul_one, List.getElem?_map, List.getD_eq_getElem?_getD, List.getElem?_eq_getElem (by omega)]; rfl
        by_cases c1 : E.getD i 0 < xs[ts[j]].g.fr
        · rcases pick_spec E xs[ts[j]].g.fr i (by omega) with ⟨q, q1⟩ | ⟨b, hb, q, q1, q2⟩
          · have hp : pick E xs[ts[j]].g.fr (i + 1) = i := by unfold pick; rw [if_pos ⟨c1, .inl q⟩]
            rw [q]
            refine JC_skip ?_
            refine JE_seq ?_
            refine JC_seq ?_
            refine JC_block ?_
            refine JC_seq ?_
            refine JC_region ?_
            refine JL_pd rfl (det_move rfl) ?_
            refine JL_pd rfl (det_assign rfl) ?_
            refine JL_nil ?_
            refine JE_seq ?_
            refine JC_seq ?_
            refine JC_draw [] (by kernel_rfl) ?_
            refine JA_pd (i := 0) rfl (by kernel_rfl) rfl rfl (det_move rfl) ?_
            refine JA_pd (i := 1) rfl (by kernel_rfl) rfl rfl (det_move rfl) ?_
            refine JA_pd (i := 2) rfl (by kernel_rfl) rfl rfl (det_indexOwn (i := i) rfl rfl (by first | rfl | omega) (by first | assumption | omega) Try.runUnderlying26 Try.sizeOf3) ?_
            refine JA_dt (i := 3) rfl (by kernel_rfl) (by kernel_rfl) rfl rfl (det_loadO rfl Try.isAgg3 (hg i hi2)) ?_
            refine JA_dt (i := 4) rfl (by kernel_rfl) (by kernel_rfl) rfl rfl (det_loadK rfl Try.isAgg29 rfl) ?_
            refine JA_pd (i := 5) rfl (by kernel_rfl) rfl rfl (det_move rfl) ?_
            refine JA_dt (i := 6) rfl (by kernel_rfl) (by kernel_rfl) rfl rfl (det_indexAddr rfl rfl (by first | rfl | omega) (by first | assumption | omega | decide) Try.runUnderlying29 Try.sizeOf34) ?_
            refine JA_pd (i := 7) rfl (by kernel_rfl) rfl rfl (det_fieldAddrE rfl fo_34_0) ?_
            refine JA_dt (i := 8) rfl (by kernel_rfl) (by kernel_rfl) rfl rfl (det_loadEk rfl (by first | assumption | omega | decide) Try.isAgg3 rfl rfl) ?_
            refine JA_pd (i := 9) rfl (by kernel_rfl) rfl rfl (det_lss rfl rfl) ?_
            refine JA_pd (i := 10) rfl (by kernel_rfl) rfl rfl (det_move rfl) ?_
            -- stop: guard 10
            refine JA_is (d0 := 70) true rfl (by exact decide_eq_true c1) (fun g1 => ?_)
            refine JA_gpd (i := 11) rfl (by kernel_rfl) rfl rfl rfl rfl g1 (det_move rfl) ?_
            refine JA_gpd (i := 12) rfl (by kernel_rfl) rfl rfl rfl rfl g1 (det_eql rfl rfl) ?_
            refine JA_gpd (i := 13) rfl (by kernel_rfl) rfl rfl rfl rfl g1 (det_move rfl) ?_
            -- stop: guard 13
            refine JA_is (d0 := 73) true rfl (by rfl) (fun g2 => ?_)
            refine JA_skip (i := 14) rfl (by kernel_rfl) rfl rfl rfl rfl g2 ?_
            refine JA_skip (i := 15) rfl (by kernel_rfl) rfl rfl rfl rfl g2 ?_
            refine JA_skip (i := 16) rfl (by kernel_rfl) rfl rfl rfl rfl g2 ?_
            refine JA_skip (i := 17) rfl (by kernel_rfl) rfl rfl rfl rfl g2 ?_
            refine JA_skip (i := 18) rfl (by kernel_rfl) rfl rfl rfl rfl g2 ?_
            refine JA_skip (i := 19) rfl (by kernel_rfl) rfl rfl rfl rfl g2 ?_
            refine JA_skip (i := 20) rfl (by kernel_rfl) rfl rfl rfl rfl g2 ?_
            refine JA_skip (i := 21) rfl (by kernel_rfl) rfl rfl rfl rfl g2 ?_
            refine JA_skip (i := 22) rfl (by kernel_rfl) rfl rfl rfl rfl g2 ?_
            refine JA_gpd (i := 23) rfl (by kernel_rfl) rfl rfl rfl rfl g1 (det_pick_t rfl g2 rfl) ?_
            refine JA_pd (i := 24) rfl (by kernel_rfl) rfl rfl (det_pick_t rfl g1 rfl) ?_
            refine JA_done (by kernel_rfl) ?_
            refine JE_seq ?_
            -- stop: cond
            refine JC_cond rfl (fun h5 => ?_) (fun h5 => ?_)
            · refine JC_region ?_
              refine JL_pd rfl (det_move rfl) ?_
              refine JL_pd rfl (det_assign rfl) ?_
              refine JL_nil ?_
              refine JE_block ?_
              refine JE_seq ?_
              refine JC_region ?_
              refine JL_pd rfl (det_add rfl rfl ⟨by omega, by omega⟩) ?_
              refine JL_pd rfl (det_move rfl) ?_
              refine JL_nil ?_
              -- stop: end
              refine JE_roundF hK' (i + 1) (by omega) (by omega) (stsub_consI rfl (by omega) (stsub_consI rfl hp.symm stsub_nil)) ht_nil
            · cases h5
          · rw [q]
            by_cases c2 : E.getD b 0 < E.getD i 0
            · have hp : pick E xs[ts[j]].g.fr (i + 1) = i := by unfold pick; rw [q, Int.toNat_natCast, if_pos ⟨c1, .inr c2⟩]
              refine JC_skip ?_
              refine JE_seq ?_
              refine JC_seq ?_
              refine JC_block ?_
              refine JC_seq ?_
              refine JC_region ?_
              refine JL_pd rfl (det_move rfl) ?_
              refine JL_pd rfl (det_assign rfl) ?_
              refine JL_nil ?_
              refine JE_seq ?_
              refine JC_seq ?_
              refine JC_draw [] (by kernel_rfl) ?_
              refine JA_pd (i := 0) rfl (by kernel_rfl) rfl rfl (det_move rfl) ?_
              refine JA_pd (i := 1) rfl (by kernel_rfl) rfl rfl (det_move rfl) ?_
              refine JA_pd (i := 2) rfl (by kernel_rfl) rfl rfl (det_indexOwn (i := i) rfl rfl (by first | rfl | omega) (by first | assumption | omega) Try.runUnderlying26 Try.sizeOf3) ?_
              refine JA_dt (i := 3) rfl (by kernel_rfl) (by kernel_rfl) rfl rfl (det_loadO rfl Try.isAgg3 (hg i hi2)) ?_
              refine JA_dt (i := 4) rfl (by kernel_rfl) (by kernel_rfl) rfl rfl (det_loadK rfl Try.isAgg29 rfl) ?_
              refine JA_pd (i := 5) rfl (by kernel_rfl) rfl rfl (det_move rfl) ?_
              refine JA_dt (i := 6) rfl (by kernel_rfl) (by kernel_rfl) rfl rfl (det_indexAddr rfl rfl (by first | rfl | omega) (by first | assumption | omega | decide) Try.runUnderlying29 Try.sizeOf34) ?_
              refine JA_pd (i := 7) rfl (by kernel_rfl) rfl rfl (det_fieldAddrE rfl fo_34_0) ?_
              refine JA_dt (i := 8) rfl (by kernel_rfl) (by kernel_rfl) rfl rfl (det_loadEk rfl (by first | assumption | omega | decide) Try.isAgg3 rfl rfl) ?_
              refine JA_pd (i := 9) rfl (by kernel_rfl) rfl rfl (det_lss rfl rfl) ?_
              refine JA_pd (i := 10) rfl (by kernel_rfl) rfl rfl (det_move rfl) ?_
              -- stop: guard 10
              refine JA_is (d0 := 70) true rfl (by exact decide_eq_true c1) (fun g1 => ?_)
              refine JA_gpd (i := 11) rfl (by kernel_rfl) rfl rfl rfl rfl g1 (det_move rfl) ?_
              refine JA_gpd (i := 12) rfl (by kernel_rfl) rfl rfl rfl rfl g1 (det_eql rfl rfl) ?_
              refine JA_gpd (i := 13) rfl (by kernel_rfl) rfl rfl rfl rfl g1 (det_move rfl) ?_
              -- stop: guard 13
              refine JA_is (d0 := 73) false rfl (by exact decide_eq_false (by omega)) (fun g2 => ?_)
              refine JA_gpd (i := 14) rfl (by kernel_rfl) rfl rfl rfl rfl g2 (det_move rfl) ?_
              refine JA_gpd (i := 15) rfl (by kernel_rfl) rfl rfl rfl rfl g2 (det_move rfl) ?_
              refine JA_gpd (i := 16) rfl (by kernel_rfl) rfl rfl rfl rfl g2 (det_indexOwn (i := i) rfl rfl (by first | rfl | omega) (by first | assumption | omega) Try.runUnderlying26 Try.sizeOf3) ?_
              refine JA_gdt (i := 17) rfl (by kernel_rfl) (by kernel_rfl) rfl rfl rfl rfl g2 (det_loadO rfl Try.isAgg3 (hg i hi2)) ?_
              refine JA_gpd (i := 18) rfl (by kernel_rfl) rfl rfl rfl rfl g2 (det_move rfl) ?_
              refine JA_gpd (i := 19) rfl (by kernel_rfl) rfl rfl rfl rfl g2 (det_move rfl) ?_
              refine JA_gpd (i := 20) rfl (by kernel_rfl) rfl rfl rfl rfl g2 (det_indexOwn (i := b) rfl rfl (by first | rfl | omega) (by first | assumption | omega) Try.runUnderlying26 Try.sizeOf3) ?_
              refine JA_gdt (i := 21) rfl (by kernel_rfl) (by kernel_rfl) rfl rfl rfl rfl g2 (det_loadO rfl Try.isAgg3 (hg b (by omega))) ?_
              refine JA_gpd (i := 22) rfl (by kernel_rfl) rfl rfl rfl rfl g2 (det_gtr rfl rfl) ?_
              refine JA_gpd (i := 23) rfl (by kernel_rfl) rfl rfl rfl rfl g1 (det_pick_f rfl g2 rfl) ?_
              refine JA_pd (i := 24) rfl (by kernel_rfl) rfl rfl (det_pick_t rfl g1 rfl) ?_
              refine JA_done (by kernel_rfl) ?_
              refine JE_seq ?_
              -- stop: cond
              refine JC_cond rfl (fun h5 => ?_) (fun h5 => ?_)
              · refine JC_region ?_
                refine JL_pd rfl (det_move rfl) ?_
                refine JL_pd rfl (det_assign rfl) ?_
                refine JL_nil ?_
                refine JE_block ?_
                refine JE_seq ?_
                refine JC_region ?_
                refine JL_pd rfl (det_add rfl rfl ⟨by omega, by omega⟩) ?_
                refine JL_pd rfl (det_move rfl) ?_
                refine JL_nil ?_
                -- stop: end
                refine JE_roundF hK' (i + 1) (by omega) (by omega) (stsub_consI rfl (by omega) (stsub_consI rfl hp.symm stsub_nil)) ht_nil
              · exact absurd c2 (of_decide_eq_false h5)
            · have hp : pick E xs[ts[j]].g.fr (i + 1) = b := by unfold pick; rw [q, Int.toNat_natCast, if_neg fun h => c2 (h.2.resolve_left (by omega))]
              refine JC_skip ?_
              refine JE_seq ?_
              refine JC_seq ?_
              refine JC_block ?_
              refine JC_seq ?_
              refine JC_region ?_
              refine JL_pd rfl (det_move rfl) ?_
              refine JL_pd rfl (det_assign rfl) ?_
              refine JL_nil ?_
              refine JE_seq ?_
              refine JC_seq ?_
              refine JC_draw [] (by kernel_rfl) ?_
              refine JA_pd (i := 0) rfl (by kernel_rfl) rfl rfl (det_move rfl) ?_
              refine JA_pd (i := 1) rfl (by kernel_rfl) rfl rfl (det_move rfl) ?_
              refine JA_pd (i := 2) rfl (by kernel_rfl) rfl rfl (det_indexOwn (i := i) rfl rfl (by first | rfl | omega) (by first | assumption | omega) Try.runUnderlying26 Try.sizeOf3) ?_
              refine JA_dt (i := 3) rfl (by kernel_rfl) (by kernel_rfl) rfl rfl (det_loadO rfl Try.isAgg3 (hg i hi2)) ?_
              refine JA_dt (i := 4) rfl (by kernel_rfl) (by kernel_rfl) rfl rfl (det_loadK rfl Try.isAgg29 rfl) ?_
              refine JA_pd (i := 5) rfl (by kernel_rfl) rfl rfl (det_move rfl) ?_
              refine JA_dt (i := 6) rfl (by kernel_rfl) (by kernel_rfl) rfl rfl (det_indexAddr rfl rfl (by first | rfl | omega) (by first | assumption | omega | decide) Try.runUnderlying29 Try.sizeOf34) ?_
              refine JA_pd (i := 7) rfl (by kernel_rfl) rfl rfl (det_fieldAddrE rfl fo_34_0) ?_
              refine JA_dt (i := 8) rfl (by kernel_rfl) (by kernel_rfl) rfl rfl (det_loadEk rfl (by first | assumption | omega | decide) Try.isAgg3 rfl rfl) ?_
              refine JA_pd (i := 9) rfl (by kernel_rfl) rfl rfl (det_lss rfl rfl) ?_
              refine JA_pd (i := 10) rfl (by kernel_rfl) rfl rfl (det_move rfl) ?_
              -- stop: guard 10
              refine JA_is (d0 := 70) true rfl (by exact decide_eq_true c1) (fun g1 => ?_)
              refine JA_gpd (i := 11) rfl (by kernel_rfl) rfl rfl rfl rfl g1 (det_move rfl) ?_
              refine JA_gpd (i := 12) rfl (by kernel_rfl) rfl rfl rfl rfl g1 (det_eql rfl rfl) ?_
              refine JA_gpd (i := 13) rfl (by kernel_rfl) rfl rfl rfl rfl g1 (det_move rfl) ?_
              -- stop: guard 13
              refine JA_is (d0 := 73) false rfl (by exact decide_eq_false (by omega)) (fun g2 => ?_)
              refine JA_gpd (i := 14) rfl (by kernel_rfl) rfl rfl rfl rfl g2 (det_move rfl) ?_
              refine JA_gpd (i := 15) rfl (by kernel_rfl) rfl rfl rfl rfl g2 (det_move rfl) ?_
              refine JA_gpd (i := 16) rfl (by kernel_rfl) rfl rfl rfl rfl g2 (det_indexOwn (i := i) rfl rfl (by first | rfl | omega) (by first | assumption | omega) Try.runUnderlying26 Try.sizeOf3) ?_
              refine JA_gdt (i := 17) rfl (by kernel_rfl) (by kernel_rfl) rfl rfl rfl rfl g2 (det_loadO rfl Try.isAgg3 (hg i hi2)) ?_
              refine JA_gpd (i := 18) rfl (by kernel_rfl) rfl rfl rfl rfl g2 (det_move rfl) ?_
              refine JA_gpd (i := 19) rfl (by kernel_rfl) rfl rfl rfl rfl g2 (det_move rfl) ?_
              refine JA_gpd (i := 20) rfl (by kernel_rfl) rfl rfl rfl rfl g2 (det_indexOwn (i := b) rfl rfl (by first | rfl | omega) (by first | assumption | omega) Try.runUnderlying26 Try.sizeOf3) ?_
              refine JA_gdt (i := 21) rfl (by kernel_rfl) (by kernel_rfl) rfl rfl rfl rfl g2 (det_loadO rfl Try.isAgg3 (hg b (by omega))) ?_
              refine JA_gpd (i := 22) rfl (by kernel_rfl) rfl rfl rfl rfl g2 (det_gtr rfl rfl) ?_
              refine JA_gpd (i := 23) rfl (by kernel_rfl) rfl rfl rfl rfl g1 (det_pick_f rfl g2 rfl) ?_
              refine JA_pd (i := 24) rfl (by kernel_rfl) rfl rfl (det_pick_t rfl g1 rfl) ?_
              refine JA_done (by kernel_rfl) ?_
              refine JE_seq ?_
              -- stop: cond
              refine JC_cond rfl (fun h5 => ?_) (fun h5 => ?_)
              · exact absurd (of_decide_eq_true h5) c2
              · refine JC_skip ?_
                refine JE_block ?_
                refine JE_seq ?_
                refine JC_region ?_
                refine JL_pd rfl (det_add rfl rfl ⟨by omega, by omega⟩) ?_
                refine JL_pd rfl (det_move rfl) ?_
                refine JL_nil ?_
                -- stop: end
                refine JE_roundF hK' (i + 1) (by omega) (by omega) (stsub_consI rfl (by omega) (stsub_consI rfl hp.symm stsub_nil)) ht_nil
        · have hp : pick E xs[ts[j]].g.fr (i + 1) = pick E xs[ts[j]].g.fr i := by conv => lhs; unfold pick
                                                                                  rw [if_neg fun h => c1 h.1]
          refine JC_skip ?_
          refine JE_seq ?_
          refine JC_seq ?_
          refine JC_block ?_
          refine JC_seq ?_
          refine JC_region ?_
          refine JL_pd rfl (det_move rfl) ?_
          refine JL_pd rfl (det_assign rfl) ?_
          refine JL_nil ?_
          refine JE_seq ?_
          refine JC_seq ?_
          refine JC_draw [] (by kernel_rfl) ?_
          refine JA_pd (i := 0) rfl (by kernel_rfl) rfl rfl (det_move rfl) ?_
          refine JA_pd (i := 1) rfl (by kernel_rfl) rfl rfl (det_move rfl) ?_
          refine JA_pd (i := 2) rfl (by kernel_rfl) rfl rfl (det_indexOwn (i := i) rfl rfl (by first | rfl | omega) (by first | assumption | omega) Try.runUnderlying26 Try.sizeOf3) ?_
          refine JA_dt (i := 3) rfl (by kernel_rfl) (by kernel_rfl) rfl rfl (det_loadO rfl Try.isAgg3 (hg i hi2)) ?_
          refine JA_dt (i := 4) rfl (by kernel_rfl) (by kernel_rfl) rfl rfl (det_loadK rfl Try.isAgg29 rfl) ?_
          refine JA_pd (i := 5) rfl (by kernel_rfl) rfl rfl (det_move rfl) ?_
          refine JA_dt (i := 6) rfl (by kernel_rfl) (by kernel_rfl) rfl rfl (det_indexAddr rfl rfl (by first | rfl | omega) (by first | assumption | omega | decide) Try.runUnderlying29 Try.sizeOf34) ?_
          refine JA_pd (i := 7) rfl (by kernel_rfl) rfl rfl (det_fieldAddrE rfl fo_34_0) ?_
          refine JA_dt (i := 8) rfl (by kernel_rfl) (by kernel_rfl) rfl rfl (det_loadEk rfl (by first | assumption | omega | decide) Try.isAgg3 rfl rfl) ?_
          refine JA_pd (i := 9) rfl (by kernel_rfl) rfl rfl (det_lss rfl rfl) ?_
          refine JA_pd (i := 10) rfl (by kernel_rfl) rfl rfl (det_move rfl) ?_
          -- stop: guard 10
          refine JA_is (d0 := 70) false rfl (by exact decide_eq_false c1) (fun g1 => ?_)
          refine JA_skip (i := 11) rfl (by kernel_rfl) rfl rfl rfl rfl g1 ?_
          refine JA_skip (i := 12) rfl (by kernel_rfl) rfl rfl rfl rfl g1 ?_
          refine JA_skip (i := 13) rfl (by kernel_rfl) rfl rfl rfl rfl g1 ?_
          refine JA_skipU (i := 14) rfl (by kernel_rfl) rfl rfl rfl rfl ?_
          refine JA_skipU (i := 15) rfl (by kernel_rfl) rfl rfl rfl rfl ?_
          refine JA_skipU (i := 16) rfl (by kernel_rfl) rfl rfl rfl rfl ?_
          refine JA_skipU (i := 17) rfl (by kernel_rfl) rfl rfl rfl rfl ?_
          refine JA_skipU (i := 18) rfl (by kernel_rfl) rfl rfl rfl rfl ?_
          refine JA_skipU (i := 19) rfl (by kernel_rfl) rfl rfl rfl rfl ?_
          refine JA_skipU (i := 20) rfl (by kernel_rfl) rfl rfl rfl rfl ?_
          refine JA_skipU (i := 21) rfl (by kernel_rfl) rfl rfl rfl rfl ?_
          refine JA_skipU (i := 22) rfl (by kernel_rfl) rfl rfl rfl rfl ?_
          refine JA_skip (i := 23) rfl (by kernel_rfl) rfl rfl rfl rfl g1 ?_
          refine JA_pd (i := 24) rfl (by kernel_rfl) rfl rfl (det_pick_f rfl g1 rfl) ?_
          refine JA_done (by kernel_rfl) ?_
          refine JE_seq ?_
          -- stop: cond
          refine JC_cond rfl (fun h5 => ?_) (fun h5 => ?_)
          · cases h5
          · refine JC_skip ?_
            refine JE_block ?_
            refine JE_seq ?_
            refine JC_region ?_
            refine JL_pd rfl (det_add rfl rfl ⟨by omega, by omega⟩) ?_
            refine JL_pd rfl (det_move rfl) ?_
            refine JL_nil ?_
            -- stop: end
            refine JE_roundF hK' (i + 1) (by omega) (by omega) (stsub_consI rfl (by omega) (stsub_consI rfl hp.symm stsub_nil)) ht_nil
      · obtain rfl : i = k := by omega
        have hvj : (gre (List.replicate i (-1)) L).getD j 0 = pick E xs[ts[j]].g.fr i := by
          have hjL : j < L.length := by omega
          rw [List.getD_eq_getElem?_getD, List.getElem?_eq_getElem (by rw [gre_len]; exact hjL), gre_get L _ j hjL, hE, hEl, hLg j hj2]; rfl
        have hsn : L.take (j + 1) = L.take j ++ [xs[ts[j]].g] := by rw [take_snoc (by omega), hLg j hj2]
        rcases pick_spec E xs[ts[j]].g.fr i (by omega) with ⟨q, q1⟩ | ⟨b, hb, q, q1, q2⟩
        · have hE2 : endsA (List.replicate i (-1)) (L.take (j + 1)) = E := by rw [hsn, endsA_snoc, hE, ends', hEl, if_pos q]
          rw [q]
          refine JC_exit ?_
          refine JE_seq_exit ?_
          refine JE_then_exit ?_
          refine JE_block_here ?_
          refine JE_seq ?_
          refine JC_seq ?_
          refine JC_region ?_
          refine JL_pd rfl (det_move rfl) ?_
          refine JL_pd rfl (det_neq rfl rfl) ?_
          refine JL_nil ?_
          refine JE_seq ?_
          -- stop: cond
          refine JC_ifn rfl (fun h6 => ?_) (fun h6 => ?_)
          · exact absurd rfl h6
          · refine JC_skip ?_
            refine JE_block ?_
            refine JE_seq ?_
            refine JC_region ?_
            refine JL_pd rfl (det_add rfl rfl ⟨by omega, by omega⟩) ?_
            refine JL_pd rfl (det_move rfl) ?_
            refine JL_nil ?_
            -- stop: end
            refine JE_roundF hK (j + 1, p, t) ⟨by simp only; omega, hfl.same hj2 (by rw [hvj, q])⟩ (by simp only; omega) (stsub_consI rfl (by simp only; omega) stsub_nil) (ht_cons (ht_ow rfl (by rw [hE2]) (ht_cons ht_nil)))
        · have hE2 : endsA (List.replicate i (-1)) (L.take (j + 1)) = E.set b xs[ts[j]].g.hi := by rw [hsn, endsA_snoc, hE, ends', hEl, q, if_neg (by omega), Int.toNat_natCast]
          have hpn := hfl.n
          rw [q]
          refine JC_exit ?_
          refine JE_seq_exit ?_
          refine JE_then_exit ?_
          refine JE_block_here ?_
          refine JE_seq ?_
          refine JC_seq ?_
          refine JC_region ?_
          refine JL_pd rfl (det_move rfl) ?_
          refine JL_pd rfl (det_neq rfl rfl) ?_
          refine JL_nil ?_
          refine JE_seq ?_
          -- stop: cond
          refine JC_ifn rfl (fun h6 => ?_) (fun h6 => ?_)
          · refine JC_seq ?_
            refine JC_region ?_
            refine JL_pd rfl (det_move rfl) ?_
            refine JL_pd rfl (det_move rfl) ?_
            refine JL_pd rfl (det_move rfl) ?_
            refine JL_pd rfl (det_move rfl) ?_
            refine JL_pd rfl (det_move rfl) ?_
            refine JL_dt rfl (det_loadK rfl Try.isAgg29 rfl) ?_
            refine JL_pd rfl (det_move rfl) ?_
            refine JL_dt rfl (det_indexAddr rfl rfl (by first | rfl | omega) (by first | assumption | omega | decide) Try.runUnderlying29 Try.sizeOf34) ?_
            refine JL_pd rfl (det_fieldAddrE rfl fo_34_1) ?_
            refine JL_pd rfl (det_fieldAddrEk (k2 := 2) rfl fo_32_1 rfl) ?_
            refine JL_dt rfl (det_loadEk rfl (by first | assumption | omega | decide) Try.isAgg3 rfl rfl) ?_
            refine JL_pd rfl (det_indexOwn (i := ts[j]) rfl rfl (by first | rfl | omega) (by first | assumption | omega) Try.runUnderlying26 Try.sizeOf3) ?_
            refine JL_step0 rfl rfl (jo_storeO (xs' := (p.set ts[j] (b : Int)).flatMap encI) (vs := encI (b : Int)) rfl rfl rfl (splice_rec encI p ts[j] (b : Int) (by omega)) Try.sizeOf3 (by rw [flat_len, hpn]; simp [encI]; omega) rfl) fun _ => ?_
            refine JL_pd rfl (det_indexOwn (i := b) rfl rfl (by first | rfl | omega) (by first | assumption | omega) Try.runUnderlying26 Try.sizeOf3) ?_
            refine JL_step0 rfl rfl (jo_storeO (xs' := (E.set b xs[ts[j]].g.hi).flatMap encI) (vs := encI xs[ts[j]].g.hi) rfl rfl rfl (splice_rec encI E b xs[ts[j]].g.hi (by omega)) Try.sizeOf3 (by rw [flat_len, hEl]; simp [encI]; omega) rfl) fun _ => ?_
            refine JL_nil ?_
            refine JE_seq ?_
            refine JC_region ?_
            refine JL_pd rfl (det_move rfl) ?_
            refine JL_dt rfl (det_loadK rfl Try.isAgg29 rfl) ?_
            refine JL_pd rfl (det_move rfl) ?_
            refine JL_dt rfl (det_indexAddr rfl rfl (by first | rfl | omega) (by first | assumption | omega | decide) Try.runUnderlying29 Try.sizeOf34) ?_
            refine JL_dt rfl (det_loadEA rfl (by first | assumption | omega | decide) Try.isAgg34 Try.sizeOf34 rfl rfl rfl) ?_
            refine JL_pd rfl (det_move rfl) ?_
            refine JL_step rfl rfl rfl (jo_callx rfl rfl Try.call30 rfl (take_j xs[ts[j]] x19.1 x19.2 x a xs.length c t (b : Int) (V.gr _ (List.mem_map.2 ⟨_, List.getElem_mem hi, rfl⟩))) (pick_perm)) fun x108 => ?_
            refine JL_nil ?_
            refine JE_block ?_
            refine JE_seq ?_
            refine JC_region ?_
            refine JL_pd rfl (det_add rfl rfl ⟨by omega, by omega⟩) ?_
            refine JL_pd rfl (det_move rfl) ?_
            refine JL_nil ?_
            -- stop: end
            refine JE_roundF hK (j + 1, p.set ts[j] ((gre (List.replicate i (-1)) L).getD j 0), addT t (b : Int) (hoursL xs[ts[j]].g)) ⟨by simp only; omega, hfl.set htd hj2 htn⟩ (by simp only; omega) (stsub_consI rfl (by simp only; omega) stsub_nil) (ht_ow rfl (by rw [hvj, q]) (ht_ow rfl (by rw [hE2]) (ht_cons ht_nil)))
          · exact absurd h6 (by omega)
    · obtain rfl : j = xs.length := by omega
      refine JC_exit ?_
      refine JE_seq_exit ?_
      refine JE_then_exit ?_
      refine JE_block_here ?_
      refine JE_seq ?_
      refine JC_seq ?_
      refine JC_region ?_
      refine JL_pd rfl (det_move rfl) ?_
      refine JL_pd rfl (det_assign rfl) ?_
      refine JL_pd rfl (det_assign rfl) ?_
      refine JL_nil ?_
      refine JE_seq ?_
      refine JC_ret ?_
      -- stop: out
      have hso : ServeOk x.h.lanes.toNat (gs xs) p := by
        rw [hk]
        refine serve_of (ord := ts) (by rw [hlen]; exact hts) ?_ ?_
        · rw [List.pairwise_map]
          refine hto.imp fun {x y} hxy => ?_
          have := mt (cfS_lt (gs xs) y x).2 hxy
          omega
        · rw [hL, hlen, htl]; exact hfl
      refine JE_slice (enc := encI) (v := .slice (some ⟨b44, 0, none⟩) xs.length xs.length) p noFp rfl hfl.n.symm fun a2 cap2 e2 => ?_
      obtain rfl := (Value.slice.inj e2).1
      obtain rfl := (Value.slice.inj e2).2.2
      refine JE_out (.inl rfl) (b44, ⟨p, hso⟩) (results2 Try.results7 (res_tmp rfl) (res_tmp rfl)) rfl (List.Perm.refl _) (fun w h => h.1)
end Go.Proofs.Ythpkgabckklojaa.En

/- Walks of lend: plans, and the bound of marks. -/
namespace Go.Proofs.Ythpkgabckklojaa.En
open Go.RowKit Go.Shelf

/-- Are numbers right, and do they rise? -/
def risB (p : Int → Bool) (l : List Int) : Bool := l.all p && decide (l.Pairwise (· < ·))
theorem up_snoc {l : List Int} {i : Nat} (h : i < l.length) (hu : (l.take i).Pairwise (· < ·)) (hx : i = 0 ∨ ∃ j, ∃ hj : j < l.length, j + 1 = i ∧ l[j] < l[i]) : (l.take (i + 1)).Pairwise (· < ·) := by
  rw [take_snoc h]
  refine List.pairwise_append.2 ⟨hu, List.pairwise_singleton _ _, fun a ha b hb => ?_⟩
  rw [List.mem_singleton.1 hb]
  obtain ⟨m, hm, rfl⟩ := List.mem_iff_getElem.1 ha
  rw [List.length_take] at hm
  rcases hx with rfl | ⟨j, hj, rfl, hlt⟩
  · omega
  · rw [List.getElem_take]
    by_cases e : m = j
    · subst e; exact hlt
    · have := List.pairwise_iff_getElem.1 hu m j (by rw [List.length_take]; omega) (by rw [List.length_take]; omega) (by omega)
      rw [List.getElem_take, List.getElem_take] at this
      omega
theorem up_no {l : List Int} {j i : Nat} (hi : i < l.length) (hji : j + 1 = i) (h : l[i] ≤ l[j]'(by omega)) : ¬ l.Pairwise (· < ·) := fun hu => by
  have := List.pairwise_iff_getElem.1 hu j i (by omega) hi (by omega)
  omega
set_option maxRecDepth 100000 in
theorem rising_j (p : Int → Bool) (F : Nat) (eF : ∀ args w, (callFunc F args).run Try.prog w = .ok (.enter F args) w) (hF : ∀ x : Int, Cv Try.prog F [I x] KTrue (.bool (p x))) (a : Option Addr) (cap : Nat) (xs : List Int) :
    Cv Try.prog 34 [.slice a xs.length cap, .func (.func F) #[] #[]] (KSl a xs.length cap encI xs) (.bool (risB p xs)) := by
  refine Cx_of Try.func34 rfl Try.ntmps34 rfl fun w0 M0 => ?_
  refine JC_seq ?_
  refine JC_region ?_
  refine JL_pd rfl (det_assign rfl) ?_
  refine JL_nil ?_
  refine JE_seq ?_
  refine JC_seq ?_
  refine JC_seq ?_
  refine JC_region ?_
  refine JL_pd rfl (det_move rfl) ?_
  refine JL_pd rfl (det_len rfl Try.runUnderlying26) ?_
  refine JL_pd rfl (det_move rfl) ?_
  refine JL_nil ?_
  refine JE_seq ?_
  refine JC_block ?_
  -- stop: loop
  refine JC_pure (p := xs.length ≤ 9223372036854775807) (by intro w h; exact h.1.bd) fun hz => ?_
  refine JC_loopF (γ := Nat) (fun i => i ≤ xs.length ∧ (xs.take i).all p = true ∧ (xs.take i).Pairwise (· < ·)) (fun i => [(9, I i)]) (fun _ => []) (fun i => xs.length - i) 0 ⟨Nat.zero_le _, rfl, List.Pairwise.nil⟩ (stsub_consI rfl rfl stsub_nil) ht_nil ?_
  rintro i ⟨hi, hall, hup⟩ K hK
  dsimp only [List.cons_append, List.nil_append]
  refine JC_seq ?_
  refine JC_region ?_
  refine JL_pd rfl (det_lss rfl rfl) ?_
  refine JL_nil ?_
  refine JE_seq ?_
  refine JC_seq ?_
  -- stop: cond
  refine JC_if rfl (fun h1 => ?_) (fun h1 => ?_)
  · have hi2 : i < xs.length := by omega
    have hal2 : p xs[i] = true → (xs.take (i + 1)).all p = true := fun h => by rw [take_snoc hi2, List.all_append, hall]; simp [h]
    by_cases c1 : p xs[i] = true
    · by_cases c2 : i = 0
      · subst c2
        refine JC_skip ?_
        refine JE_seq ?_
        refine JC_seq ?_
        refine JC_block ?_
        refine JC_seq ?_
        refine JC_region ?_
        refine JL_pd rfl (det_move rfl) ?_
        refine JL_dt rfl (det_indexAddr rfl rfl (by first | rfl | omega) (by first | assumption | omega | decide) Try.runUnderlying26 Try.sizeOf3) ?_
        refine JL_dt rfl (det_loadE rfl (by first | assumption | omega | decide) Try.isAgg3 rfl rfl) ?_
        refine JL_pd rfl (det_assign rfl) ?_
        refine JL_pd rfl (det_assign rfl) ?_
        refine JL_nil ?_
        refine JE_seq ?_
        refine JC_seq ?_
        refine JC_region ?_
        refine JL_pd rfl (det_move rfl) ?_
        refine JL_pd rfl (det_move rfl) ?_
        -- stop: op  2 t16 := (call (Call (value t14) (t15) (3)))   <0 1>   208
        refine JL_step rfl rfl rfl (jo_callv rfl rfl eF rfl (hF xs[0])) fun _ => ?_
        refine JL_pd rfl (det_not rfl) ?_
        refine JL_pd rfl (det_move rfl) ?_
        -- stop: guard 4
        refine JL_is (d0 := 18) false rfl (by rw [c1]; rfl) (fun g1 => ?_)
        refine JL_guard rfl rfl g1 ?_
        refine JL_pd rfl (det_move rfl) ?_
        refine JL_guard rfl rfl g1 ?_
        refine JL_pd rfl (det_gtr rfl rfl) ?_
        refine JL_guard rfl rfl g1 ?_
        refine JL_pd rfl (det_move rfl) ?_
        -- stop: guard 7
        refine JL_is (d0 := 21) false rfl (by rfl) (fun g2 => ?_)
        refine JL_skip rfl rfl g2 rfl ?_
        refine JL_skip rfl rfl g2 rfl ?_
        refine JL_skip rfl rfl g2 rfl ?_
        refine JL_skip rfl rfl g2 rfl ?_
        refine JL_skip rfl rfl g2 rfl ?_
        refine JL_skip rfl rfl g2 rfl ?_
        refine JL_skip rfl rfl g2 rfl ?_
        refine JL_guard rfl rfl g1 ?_
        refine JL_pd rfl (det_pick_f rfl g2 rfl) ?_
        refine JL_pd rfl (det_pick_f rfl g1 rfl) ?_
        refine JL_nil ?_
        refine JE_seq ?_
        refine JC_condF rfl rfl ?_
        refine JC_skip ?_
        refine JE_block ?_
        refine JE_seq ?_
        refine JC_region ?_
        refine JL_pd rfl (det_add rfl rfl ⟨by omega, by omega⟩) ?_
        refine JL_pd rfl (det_move rfl) ?_
        refine JL_nil ?_
        -- stop: end
        refine JE_roundF hK (0 + 1) ⟨by omega, hal2 c1, up_snoc hi2 hup (.inl rfl)⟩ (by omega) (stsub_consI rfl (by omega) stsub_nil) ht_nil
      · obtain ⟨j, rfl⟩ : ∃ j, i = j + 1 := ⟨i - 1, by omega⟩
        have hj2 : j < xs.length := by omega
        refine JC_skip ?_
        refine JE_seq ?_
        refine JC_seq ?_
        refine JC_block ?_
        refine JC_seq ?_
        refine JC_region ?_
        refine JL_pd rfl (det_move rfl) ?_
        refine JL_dt rfl (det_indexAddr rfl rfl (by first | rfl | omega) (by first | assumption | omega | decide) Try.runUnderlying26 Try.sizeOf3) ?_
        refine JL_dt rfl (det_loadE rfl (by first | assumption | omega | decide) Try.isAgg3 rfl rfl) ?_
        refine JL_pd rfl (det_assign rfl) ?_
        refine JL_pd rfl (det_assign rfl) ?_
        refine JL_nil ?_
        refine JE_seq ?_
        refine JC_seq ?_
        refine JC_region ?_
        refine JL_pd rfl (det_move rfl) ?_
        refine JL_pd rfl (det_move rfl) ?_
        -- stop: op  2 t16 := (call (Call (value t14) (t15) (3)))   <0 1>   208
        refine JL_step rfl rfl rfl (jo_callv rfl rfl eF rfl (hF xs[j + 1])) fun _ => ?_
        refine JL_pd rfl (det_not rfl) ?_
        refine JL_pd rfl (det_move rfl) ?_
        -- stop: guard 4
        refine JL_is (d0 := 18) false rfl (by rw [c1]; rfl) (fun g1 => ?_)
        refine JL_guard rfl rfl g1 ?_
        refine JL_pd rfl (det_move rfl) ?_
        refine JL_guard rfl rfl g1 ?_
        refine JL_pd rfl (det_gtr rfl rfl) ?_
        refine JL_guard rfl rfl g1 ?_
        refine JL_pd rfl (det_move rfl) ?_
        -- stop: guard 7
        refine JL_is (d0 := 21) true rfl (by exact decide_eq_true (by omega)) (fun g2 => ?_)
        refine JL_guard rfl rfl g2 ?_
        refine JL_pd rfl (det_move rfl) ?_
        refine JL_guard rfl rfl g2 ?_
        refine JL_pd rfl (det_move rfl) ?_
        refine JL_guard rfl rfl g2 ?_
        refine JL_pd rfl (det_move rfl) ?_
        refine JL_guard rfl rfl g2 ?_
        refine JL_pd rfl (det_sub rfl rfl ⟨by omega, by omega⟩) ?_
        refine JL_guard rfl rfl g2 ?_
        refine JL_dt rfl (det_indexAddr (i := j) rfl rfl (by omega) (by omega) Try.runUnderlying26 Try.sizeOf3) ?_
        refine JL_guard rfl rfl g2 ?_
        refine JL_dt rfl (det_loadE rfl (by first | assumption | omega | decide) Try.isAgg3 rfl rfl) ?_
        refine JL_guard rfl rfl g2 ?_
        refine JL_pd rfl (det_leq rfl rfl) ?_
        refine JL_guard rfl rfl g1 ?_
        refine JL_pd rfl (det_pick_t rfl g2 rfl) ?_
        refine JL_pd rfl (det_pick_f rfl g1 rfl) ?_
        refine JL_nil ?_
        refine JE_seq ?_
        -- stop: cond
        refine JC_cond rfl (fun h3 => ?_) (fun h3 => ?_)
        · refine JC_seq ?_
          refine JC_region ?_
          refine JL_pd rfl (det_assign rfl) ?_
          refine JL_nil ?_
          refine JE_seq ?_
          refine JC_ret ?_
          refine JE_block_ret ?_
          refine JE_seq_ret ?_
          refine JE_then_ret ?_
          refine JE_block_ret ?_
          refine JE_seq_ret ?_
          -- stop: out
          have := of_decide_eq_true h3
          refine JE_out (.inl rfl) () (results1 Try.results34 (res_tmp rfl)) (by have := up_no hi2 rfl this; unfold risB; rw [decide_eq_false this, Bool.and_false]) (List.Perm.refl _) (fun _ _ => trivial)
        · refine JC_skip ?_
          refine JE_block ?_
          refine JE_seq ?_
          refine JC_region ?_
          refine JL_pd rfl (det_add rfl rfl ⟨by omega, by omega⟩) ?_
          refine JL_pd rfl (det_move rfl) ?_
          refine JL_nil ?_
          -- stop: end
          have := of_decide_eq_false h3
          refine JE_roundF hK (j + 1 + 1) ⟨by omega, hal2 c1, up_snoc hi2 hup (.inr ⟨j, by omega, rfl, by omega⟩)⟩ (by omega) (stsub_consI rfl (by omega) stsub_nil) ht_nil
    · refine JC_skip ?_
      refine JE_seq ?_
      refine JC_seq ?_
      refine JC_block ?_
      refine JC_seq ?_
      refine JC_region ?_
      refine JL_pd rfl (det_move rfl) ?_
      refine JL_dt rfl (det_indexAddr rfl rfl (by first | rfl | omega) (by first | assumption | omega | decide) Try.runUnderlying26 Try.sizeOf3) ?_
      refine JL_dt rfl (det_loadE rfl (by first | assumption | omega | decide) Try.isAgg3 rfl rfl) ?_
      refine JL_pd rfl (det_assign rfl) ?_
      refine JL_pd rfl (det_assign rfl) ?_
      refine JL_nil ?_
      refine JE_seq ?_
      refine JC_seq ?_
      refine JC_region ?_
      refine JL_pd rfl (det_move rfl) ?_
      refine JL_pd rfl (det_move rfl) ?_
      -- stop: op  2 t16 := (call (Call (value t14) (t15) (3)))   <0 1>   208
      refine JL_step rfl rfl rfl (jo_callv rfl rfl eF rfl (hF xs[i])) fun _ => ?_
      refine JL_pd rfl (det_not rfl) ?_
      refine JL_pd rfl (det_move rfl) ?_
      -- stop: guard 4
      refine JL_is (d0 := 18) true rfl (by simpa using c1) (fun g1 => ?_)
      refine JL_skip rfl rfl g1 rfl ?_
      refine JL_skip rfl rfl g1 rfl ?_
      refine JL_skip rfl rfl g1 rfl ?_
      refine JL_skipU rfl rfl rfl ?_
      refine JL_skipU rfl rfl rfl ?_
      refine JL_skipU rfl rfl rfl ?_
      refine JL_skipU rfl rfl rfl ?_
      refine JL_skipU rfl rfl rfl ?_
      refine JL_skipU rfl rfl rfl ?_
      refine JL_skipU rfl rfl rfl ?_
      refine JL_skip rfl rfl g1 rfl ?_
      refine JL_pd rfl (det_pick_t rfl g1 rfl) ?_
      refine JL_nil ?_
      refine JE_seq ?_
      refine JC_condT rfl rfl ?_
      refine JC_seq ?_
      refine JC_region ?_
      refine JL_pd rfl (det_assign rfl) ?_
      refine JL_nil ?_
      refine JE_seq ?_
      refine JC_ret ?_
      refine JE_block_ret ?_
      refine JE_seq_ret ?_
      refine JE_then_ret ?_
      refine JE_block_ret ?_
      refine JE_seq_ret ?_
      -- stop: out
      refine JE_out (.inl rfl) () (results1 Try.results34 (res_tmp rfl)) (by unfold risB; rw [List.all_eq_false.2 ⟨xs[i], List.getElem_mem hi2, c1⟩, Bool.false_and]) (List.Perm.refl _) (fun _ _ => trivial)
  · refine JC_exit ?_
    refine JE_seq_exit ?_
    refine JE_then_exit ?_
    refine JE_block_here ?_
    refine JE_seq ?_
    refine JC_seq ?_
    refine JC_region ?_
    refine JL_pd rfl (det_assign rfl) ?_
    refine JL_nil ?_
    refine JE_seq ?_
    refine JC_ret ?_
    -- stop: out
    obtain rfl : i = xs.length := by omega
    rw [List.take_length] at hall hup
    refine JE_out (.inl rfl) () (results1 Try.results34 (res_tmp rfl)) (by unfold risB; rw [hall, decide_eq_true hup]; rfl) (List.Perm.refl _) (fun _ _ => trivial)
theorem marked_j (x : Gx) (a : Option Addr) (cap : Nat) (T : List Int) (hl : T.length ≤ 9223372036854775807) : Cv Try.prog 67 [.agg #[I x.g.fr, I x.g.lo, I x.g.hi, .slice x.a x.g.feet.length x.c], .slice a T.length cap] (KSl a T.length cap encI T) (.bool (hit T x.g)) := by
  refine Cx_of Try.func67 rfl Try.ntmps67 rfl fun w0 M0 => ?_
  refine JC_seq ?_
  refine JC_region ?_
  refine JL_step rfl rfl rfl (jo_box rfl rfl) fun b2 => ?_
  refine JL_pd rfl (det_assign rfl) ?_
  refine JL_nil ?_
  refine JE_seq ?_
  refine JC_seq ?_
  refine JC_region ?_
  refine JL_dt rfl (det_loadKA rfl Try.isAgg34 Try.sizeOf34 rfl rfl) ?_
  refine JL_pd rfl (det_makeFuncE rfl rfl) ?_
  refine JL_pd rfl (det_assign rfl) ?_
  refine JL_nil ?_
  refine JE_seq ?_
  refine JC_seq ?_
  refine JC_region ?_
  refine JL_pd rfl (det_move rfl) ?_
  refine JL_pd rfl (det_move rfl) ?_
  refine JL_step rfl rfl rfl (jo_callv rfl rfl Try.call85 rfl (containsFuncI_j (fun t => stays x.g t) 108 [.agg #[I x.g.fr, I x.g.lo, I x.g.hi, .slice x.a x.g.feet.length x.c]] [] KTrue Try.call108 (fun t => has_j x t) a cap T hl)) fun _ => ?_
  refine JL_pd rfl (det_assign rfl) ?_
  refine JL_nil ?_
  refine JE_seq ?_
  refine JC_ret ?_
  -- stop: out
  refine JE_out (.inl rfl) () (results1 Try.results67 (res_tmp rfl)) rfl (List.Perm.refl _) (fun _ _ => trivial)
theorem countP_snoc {α : Type} (p : α → Bool) (l : List α) (i : Nat) (h : i < l.length) : ((l.take (i + 1)).countP p : Int) = (l.take i).countP p + if p l[i] = true then 1 else 0 := by
  rw [take_snoc h, List.countP_append, List.countP_singleton]
  split <;> simp
set_option maxRecDepth 100000 in
theorem bound_j (b mb : Nat) (x : Hx) (ga : Option Addr) (gc : Nat) (xs : List Gx) (a : Option Addr) (cap : Nat) (T : List Int) (hl : 0 ≤ x.h.lanes ∧ x.h.lanes ≤ 5) (hn : xs.length ≤ 8) (hT : T.length ≤ 1000) :
    Cv Try.prog 36 [pt b, .slice a T.length cap] (KAnd (KBox b (wkC x ga xs.length gc mb)) (KAnd (KSl ga xs.length gc encG xs) (KSl a T.length cap encI T))) (I ((boundL x.h.lanes.toNat (gs xs) T : Nat) : Int)) := by
  unfold wkC
  have hm : 0 ≤ x.h.lanes * (T.length : Int) ∧ x.h.lanes * (T.length : Int) ≤ 5000 := ⟨Int.mul_nonneg hl.1 (by omega), by have := Int.mul_le_mul hl.2 (show (T.length : Int) ≤ 1000 by omega) (by omega) (by omega); omega⟩
  refine Cx_of Try.func36 rfl Try.ntmps36 rfl fun w0 M0 => ?_
  refine JC_seq ?_
  refine JC_region ?_
  refine JL_pd rfl (det_assign rfl) ?_
  refine JL_nil ?_
  refine JE_seq ?_
  refine JC_seq ?_
  refine JC_region ?_
  refine JL_pd rfl (det_move rfl) ?_
  refine JL_pd rfl (det_nilCheck rfl) ?_
  refine JL_pd rfl (det_fieldAddr rfl fo_118_0) ?_
  refine JL_pd rfl (det_fieldAddr rfl fo_28_0) ?_
  refine JL_dt rfl (det_loadK rfl Try.isAgg3 rfl) ?_
  refine JL_pd rfl (det_move rfl) ?_
  refine JL_pd rfl (det_len rfl Try.runUnderlying26) ?_
  refine JL_pd rfl (det_mul rfl rfl ⟨by omega, by omega⟩) ?_
  refine JL_pd rfl (det_assign rfl) ?_
  refine JL_nil ?_
  refine JE_seq ?_
  refine JC_seq ?_
  refine JC_seq ?_
  refine JC_region ?_
  refine JL_pd rfl (det_move rfl) ?_
  refine JL_pd rfl (det_nilCheck rfl) ?_
  refine JL_pd rfl (det_fieldAddr rfl fo_118_1) ?_
  refine JL_dt rfl (det_loadK rfl Try.isAgg29 rfl) ?_
  refine JL_pd rfl (det_len rfl Try.runUnderlying29) ?_
  refine JL_pd rfl (det_move rfl) ?_
  refine JL_nil ?_
  refine JE_seq ?_
  refine JC_block ?_
  -- stop: loop
  refine JC_loopF (γ := Nat) (fun i => i ≤ xs.length) (fun i => [(21, I i), (5, I (x.h.lanes * (T.length : Int) + ((xs.take i).countP fun y => !hit T y.g : Nat)))]) (fun _ => []) (fun i => xs.length - i) 0 (Nat.zero_le _) (stsub_consI rfl rfl (stsub_consI rfl (by simp) stsub_nil)) ht_nil ?_
  intro i hi K hK
  dsimp only [List.cons_append, List.nil_append]
  have hcl : (xs.take i).countP (fun y => !hit T y.g) ≤ xs.length := Nat.le_trans List.countP_le_length (by rw [List.length_take]; omega)
  refine JC_seq ?_
  refine JC_region ?_
  refine JL_pd rfl (det_lss rfl rfl) ?_
  refine JL_nil ?_
  refine JE_seq ?_
  refine JC_seq ?_
  -- stop: cond
  refine JC_if rfl (fun h1 => ?_) (fun h1 => ?_)
  · have hi2 : i < xs.length := by omega
    have hs := countP_snoc (fun y : Gx => !hit T y.g) xs i hi2
    refine JC_skip ?_
    refine JE_seq ?_
    refine JC_seq ?_
    refine JC_block ?_
    refine JC_seq ?_
    refine JC_region ?_
    refine JL_dt rfl (det_indexAddr rfl rfl (by first | rfl | omega) (by first | assumption | omega | decide) Try.runUnderlying29 Try.sizeOf34) ?_
    refine JL_dt rfl (det_loadEA rfl (by first | assumption | omega | decide) Try.isAgg34 Try.sizeOf34 rfl rfl rfl) ?_
    refine JL_step rfl rfl rfl (jo_alloc0 Try.zeroValue34 rfl) fun b7 => ?_
    refine JL_step0 rfl rfl (jo_store rfl rfl rfl (by first | (simp only [splice_norm]; done) | (simp only [splice_norm]; rfl) | rfl) Try.sizeOf34 rfl rfl) fun _ => ?_
    refine JL_nil ?_
    refine JE_seq ?_
    refine JC_seq ?_
    refine JC_region ?_
    refine JL_dt rfl (det_loadKA rfl Try.isAgg34 Try.sizeOf34 rfl rfl) ?_
    refine JL_pd rfl (det_move rfl) ?_
    refine JL_step rfl rfl rfl (jo_callv rfl rfl Try.call67 rfl (marked_j xs[i] a cap T (by omega))) fun _ => ?_
    refine JL_pd rfl (det_not rfl) ?_
    refine JL_nil ?_
    refine JE_seq ?_
    -- stop: cond
    refine JC_cond rfl (fun h2 => ?_) (fun h2 => ?_)
    · refine JC_region ?_
      refine JL_pd rfl (det_move rfl) ?_
      refine JL_pd rfl (det_add rfl rfl ⟨by omega, by omega⟩) ?_
      refine JL_pd rfl (det_assign rfl) ?_
      refine JL_nil ?_
      refine JE_block ?_
      refine JE_seq ?_
      refine JC_region ?_
      refine JL_pd rfl (det_add rfl rfl ⟨by omega, by omega⟩) ?_
      refine JL_pd rfl (det_move rfl) ?_
      refine JL_nil ?_
      -- stop: end
      rw [if_pos h2] at hs
      refine JE_roundF hK (i + 1) (by omega) (by omega) (stsub_consI rfl (by omega) (stsub_consI rfl (by omega) stsub_nil)) ht_nil
    · refine JC_skip ?_
      refine JE_block ?_
      refine JE_seq ?_
      refine JC_region ?_
      refine JL_pd rfl (det_add rfl rfl ⟨by omega, by omega⟩) ?_
      refine JL_pd rfl (det_move rfl) ?_
      refine JL_nil ?_
      -- stop: end
      rw [if_neg (by rw [h2]; decide)] at hs
      refine JE_roundF hK (i + 1) (by omega) (by omega) (stsub_consI rfl (by omega) (stsub_consI rfl (by omega) stsub_nil)) ht_nil
  · refine JC_exit ?_
    refine JE_seq_exit ?_
    refine JE_then_exit ?_
    refine JE_block_here ?_
    refine JE_seq ?_
    refine JC_seq ?_
    refine JC_region ?_
    refine JL_pd rfl (det_move rfl) ?_
    refine JL_pd rfl (det_assign rfl) ?_
    refine JL_nil ?_
    refine JE_seq ?_
    refine JC_ret ?_
    -- stop: out
    obtain rfl : i = xs.length := by omega
    rw [List.take_length]
    have hc : (gs xs).countP (fun g => !hit T g) = xs.countP fun y => !hit T y.g := by rw [gs, countP_map']
    refine JE_out (.inl rfl) () (results1 Try.results36 (res_tmp rfl)) (by unfold boundL; rw [hc]; congr 1; rw [Int.natCast_add, Int.natCast_mul, Int.toNat_of_nonneg hl.1]) (List.Perm.refl _) (fun _ _ => trivial)
theorem Bound_je (x : Hx) (ga : Option Addr) (gc : Nat) (xs : List Gx) (a : Option Addr) (cap : Nat) (T : List Int) (h : fault x.h (gs xs) ≠ 0) : Cv Try.prog 9 [.agg #[I x.h.lanes, .slice x.a x.h.shoes.length x.c], .slice ga xs.length gc, .slice a T.length cap] (KAnd (KHx x) (KAnd (KGs ga gc xs) (KSl a T.length cap encI T))) (.tuple #[I 0, I (fault x.h (gs xs))]) := by
  refine Cx_of Try.func9 rfl Try.ntmps9 rfl fun w0 M0 => ?_
  refine JC_seq ?_
  refine JC_region ?_
  refine JL_step rfl rfl rfl (jo_box rfl rfl) fun b3 => ?_
  refine JL_pd rfl (det_assign rfl) ?_
  refine JL_pd rfl (det_assign rfl) ?_
  refine JL_nil ?_
  refine JE_seq ?_
  refine JC_seq ?_
  refine JC_region ?_
  refine JL_dt rfl (det_loadKA rfl Try.isAgg28 Try.sizeOf28 rfl rfl) ?_
  refine JL_pd rfl (det_move rfl) ?_
  refine JL_step rfl rfl rfl (jo_callv rfl rfl Try.call25 rfl (work_je x ga gc xs h)) fun _ => ?_
  refine JL_pd rfl (det_move rfl) ?_
  refine JL_pd rfl (det_extract rfl rfl) ?_
  refine JL_pd rfl (det_extract rfl rfl) ?_
  refine JL_pd rfl (det_assign rfl) ?_
  refine JL_pd rfl (det_assign rfl) ?_
  refine JL_nil ?_
  refine JE_seq ?_
  refine JC_seq ?_
  refine JC_block ?_
  refine JC_seq ?_
  refine JC_region ?_
  refine JL_pd rfl (det_move rfl) ?_
  refine JL_pd rfl (det_neq rfl rfl) ?_
  refine JL_pd rfl (det_assign rfl) ?_
  refine JL_nil ?_
  refine JE_seq ?_
  -- stop: cond
  refine JC_ifn rfl (fun h1 => ?_) (fun h1 => ?_)
  · refine JC_seq ?_
    refine JC_region ?_
    refine JL_pd rfl (det_move rfl) ?_
    refine JL_pd rfl (det_assign rfl) ?_
    refine JL_pd rfl (det_assign rfl) ?_
    refine JL_nil ?_
    refine JE_seq ?_
    refine JC_ret ?_
    refine JE_block_ret ?_
    refine JE_seq_ret ?_
    -- stop: out
    refine JE_out (.inl rfl) () (results2 Try.results9 (res_tmp rfl) (res_tmp rfl)) rfl (List.Perm.refl _) (fun _ _ => trivial)
  · exact absurd h1 h
def boundE (x : Hx) (l : List Gr) (T : List Int) : Value := if risB (fun n => inI n 0 30) T = true then .tuple #[I ((boundL x.h.lanes.toNat l T : Nat) : Int), I 0] else .tuple #[I 0, I 2]
theorem Bound_jo (x : Hx) (ga : Option Addr) (gc : Nat) (xs : List Gx) (a : Option Addr) (cap : Nat) (T : List Int) (h : fault x.h (gs xs) = 0) (hT : T.length ≤ 1000) : Cv Try.prog 9 [.agg #[I x.h.lanes, .slice x.a x.h.shoes.length x.c], .slice ga xs.length gc, .slice a T.length cap] (KAnd (KHx x) (KAnd (KGs ga gc xs) (KSl a T.length cap encI T))) (boundE x (gs xs) T) := by
  have V := vld_of h
  have hn : xs.length ≤ 8 := by have := V.n; simpa [gs] using this
  refine Cx_of Try.func9 rfl Try.ntmps9 rfl fun w0 M0 => ?_
  refine JC_seq ?_
  refine JC_region ?_
  refine JL_step rfl rfl rfl (jo_box rfl rfl) fun b3 => ?_
  refine JL_pd rfl (det_assign rfl) ?_
  refine JL_pd rfl (det_assign rfl) ?_
  refine JL_nil ?_
  refine JE_seq ?_
  refine JC_seq ?_
  refine JC_region ?_
  refine JL_dt rfl (det_loadKA rfl Try.isAgg28 Try.sizeOf28 rfl rfl) ?_
  refine JL_pd rfl (det_move rfl) ?_
  refine JL_step rfl rfl rfl (jo_call rfl rfl Try.call25 rfl (work_jo x ga gc xs h)) fun x13 => ?_
  refine JL_pd rfl (det_move rfl) ?_
  refine JL_pd rfl (det_extract rfl rfl) ?_
  refine JL_pd rfl (det_extract rfl rfl) ?_
  refine JL_pd rfl (det_assign rfl) ?_
  refine JL_pd rfl (det_assign rfl) ?_
  refine JL_nil ?_
  refine JE_seq ?_
  refine JC_seq ?_
  refine JC_block ?_
  refine JC_seq ?_
  refine JC_region ?_
  refine JL_pd rfl (det_move rfl) ?_
  refine JL_pd rfl (det_neq rfl rfl) ?_
  refine JL_pd rfl (det_assign rfl) ?_
  refine JL_nil ?_
  refine JE_seq ?_
  -- stop: cond
  refine JC_ifn rfl (fun h1 => ?_) (fun h1 => ?_)
  · exact absurd rfl h1
  refine JC_seq ?_
  refine JC_region ?_
  refine JL_pd rfl (det_move rfl) ?_
  refine JL_step rfl rfl rfl (jo_callv rfl rfl Try.call34 rfl (rising_j (fun n => inI n 0 30) 35 Try.call35 (fun n => hour_j n) a cap T)) fun _ => ?_
  refine JL_pd rfl (det_not rfl) ?_
  refine JL_pd rfl (det_assign rfl) ?_
  refine JL_nil ?_
  refine JE_seq ?_
  -- stop: cond
  refine JC_cond rfl (fun h2 => ?_) (fun h2 => ?_)
  · refine JC_seq ?_
    refine JC_region ?_
    refine JL_pd rfl (det_assign rfl) ?_
    refine JL_pd rfl (det_assign rfl) ?_
    refine JL_nil ?_
    refine JE_seq ?_
    refine JC_ret ?_
    refine JE_block_ret ?_
    refine JE_seq_ret ?_
    -- stop: out
    refine JE_out (.inl rfl) () (results2 Try.results9 (res_tmp rfl) (res_tmp rfl)) (by unfold boundE; rw [if_neg (by simpa using h2)]) (List.Perm.refl _) (fun _ _ => trivial)
  · refine JC_skip ?_
    refine JE_block ?_
    refine JE_seq ?_
    refine JC_seq ?_
    refine JC_region ?_
    refine JL_pd rfl (det_move rfl) ?_
    refine JL_pd rfl (det_move rfl) ?_
    refine JL_step rfl rfl rfl (jo_callv rfl rfl Try.call36 rfl (bound_j x13.1 x13.2 x ga gc xs a cap T ⟨V.hs.l0, V.hs.l1⟩ hn hT)) fun _ => ?_
    refine JL_pd rfl (det_assign rfl) ?_
    refine JL_pd rfl (det_assign rfl) ?_
    refine JL_nil ?_
    refine JE_seq ?_
    refine JC_ret ?_
    -- stop: out
    refine JE_out (.inl rfl) () (results2 Try.results9 (res_tmp rfl) (res_tmp rfl)) (by unfold boundE; rw [if_pos (by simpa using h2)]) (List.Perm.refl _) (fun _ _ => trivial)
end Go.Proofs.Ythpkgabckklojaa.En

/- Walks of lend: plans that are given. -/
namespace Go.Proofs.Ythpkgabckklojaa.En
open Go.RowKit Go.Shelf

theorem planned1_j (x : Hx) (b : Nat) (n : Int) (hl : 0 ≤ x.h.lanes ∧ x.h.lanes ≤ 5) : Cv Try.prog 57 [I n, pt b] (KBox b [I x.h.lanes, .slice x.a x.h.shoes.length x.c]) (.bool (inI n (-1) (x.h.lanes - 1))) := by
  refine Cx_of Try.func57 rfl Try.ntmps57 rfl fun w0 M0 => ?_
  refine JC_seq ?_
  refine JC_region ?_
  refine JL_pd rfl (det_assign rfl) ?_
  refine JL_nil ?_
  refine JE_seq ?_
  refine JC_seq ?_
  refine JC_region ?_
  refine JL_pd rfl (det_move rfl) ?_
  refine JL_pd rfl (det_fieldAddr rfl fo_28_0) ?_
  refine JL_dt rfl (det_loadK rfl Try.isAgg3 rfl) ?_
  refine JL_pd rfl (det_sub rfl rfl ⟨by omega, by omega⟩) ?_
  refine JL_step rfl rfl rfl (jo_callv rfl rfl Try.call58 rfl (within_j _ _ _)) fun _ => ?_
  refine JL_pd rfl (det_assign rfl) ?_
  refine JL_nil ?_
  refine JE_seq ?_
  refine JC_ret ?_
  refine JE_out (.inl rfl) () (results1 Try.results57 (res_tmp rfl)) ?_ (List.Perm.refl _) (fun _ _ => trivial)
  rfl
theorem planned_j1 (x : Hx) (ga : Option Addr) (gc : Nat) (xs : List Gx) (a : Option Addr) (cap : Nat) (plan : List Int) (h : fault x.h (gs xs) ≠ 0) : Cv Try.prog 23 [.agg #[I x.h.lanes, .slice x.a x.h.shoes.length x.c], .slice ga xs.length gc, .slice a plan.length cap] (KAnd (KHx x) (KAnd (KGs ga gc xs) (KSl a plan.length cap encI plan))) (.tuple #[.pointer none, I (fault x.h (gs xs))]) := by
  refine Cx_of Try.func23 rfl Try.ntmps23 rfl fun w0 M0 => ?_
  refine JC_seq ?_
  refine JC_region ?_
  refine JL_step rfl rfl rfl (jo_box rfl rfl) fun b3 => ?_
  refine JL_pd rfl (det_assign rfl) ?_
  refine JL_pd rfl (det_assign rfl) ?_
  refine JL_nil ?_
  refine JE_seq ?_
  refine JC_seq ?_
  refine JC_region ?_
  refine JL_dt rfl (det_loadKA rfl Try.isAgg28 Try.sizeOf28 rfl rfl) ?_
  refine JL_pd rfl (det_move rfl) ?_
  refine JL_step rfl rfl rfl (jo_callv rfl rfl Try.call25 rfl (work_je x ga gc xs h)) fun _ => ?_
  refine JL_pd rfl (det_move rfl) ?_
  refine JL_pd rfl (det_extract rfl rfl) ?_
  refine JL_pd rfl (det_extract rfl rfl) ?_
  refine JL_pd rfl (det_assign rfl) ?_
  refine JL_pd rfl (det_assign rfl) ?_
  refine JL_nil ?_
  refine JE_seq ?_
  refine JC_seq ?_
  refine JC_seq ?_
  refine JC_region ?_
  refine JL_pd rfl (det_move rfl) ?_
  refine JL_pd rfl (det_neq rfl rfl) ?_
  refine JL_nil ?_
  refine JE_seq ?_
  -- stop: cond
  refine JC_ifn rfl (fun h1 => ?_) (fun h1 => ?_)
  · refine JC_seq ?_
    refine JC_region ?_
    refine JL_pd rfl (det_move rfl) ?_
    refine JL_pd rfl (det_assign rfl) ?_
    refine JL_pd rfl (det_assign rfl) ?_
    refine JL_nil ?_
    refine JE_seq ?_
    refine JC_ret ?_
    refine JE_seq_ret ?_
    -- stop: out
    refine JE_out (.inl rfl) () (results2 Try.results23 (res_tmp rfl) (res_tmp rfl)) rfl (List.Perm.refl _) (fun _ _ => trivial)
  · exact absurd h1 h
theorem isPlan_eq (x : Hx) (xs : List Gx) (plan : List Int) : isPlan x.h.lanes (gs xs) plan = (plan.all (fun n => inI n (-1) (x.h.lanes - 1)) && decide (plan.length = xs.length)) := by unfold isPlan; rw [show (gs xs).length = xs.length from List.length_map _]
set_option maxRecDepth 100000 in
theorem planned_j2 (x : Hx) (ga : Option Addr) (gc : Nat) (xs : List Gx) (a : Option Addr) (cap : Nat) (plan : List Int) (h : fault x.h (gs xs) = 0) (hp : isPlan x.h.lanes (gs xs) plan = false) : Cv Try.prog 23 [.agg #[I x.h.lanes, .slice x.a x.h.shoes.length x.c], .slice ga xs.length gc, .slice a plan.length cap] (KAnd (KHx x) (KAnd (KGs ga gc xs) (KSl a plan.length cap encI plan))) (.tuple #[.pointer none, I 2]) := by
  have V := vld_of h
  have hl : 0 ≤ x.h.lanes ∧ x.h.lanes ≤ 5 := ⟨V.hs.l0, V.hs.l1⟩
  have hn : xs.length ≤ 8 := by have := V.n; simpa [gs] using this
  rw [isPlan_eq] at hp
  refine Cx_of Try.func23 rfl Try.ntmps23 rfl fun w0 M0 => ?_
  refine JC_seq ?_
  refine JC_region ?_
  refine JL_step rfl rfl rfl (jo_box rfl rfl) fun b3 => ?_
  refine JL_pd rfl (det_assign rfl) ?_
  refine JL_pd rfl (det_assign rfl) ?_
  refine JL_nil ?_
  refine JE_seq ?_
  refine JC_seq ?_
  refine JC_region ?_
  refine JL_dt rfl (det_loadKA rfl Try.isAgg28 Try.sizeOf28 rfl rfl) ?_
  refine JL_pd rfl (det_move rfl) ?_
  refine JL_step rfl rfl rfl (jo_call rfl rfl Try.call25 rfl (work_jo x ga gc xs h)) fun x16 => ?_
  refine JL_pd rfl (det_move rfl) ?_
  refine JL_pd rfl (det_extract rfl rfl) ?_
  refine JL_pd rfl (det_extract rfl rfl) ?_
  refine JL_pd rfl (det_assign rfl) ?_
  refine JL_pd rfl (det_assign rfl) ?_
  refine JL_nil ?_
  refine JE_seq ?_
  refine JC_seq ?_
  refine JC_seq ?_
  refine JC_region ?_
  refine JL_pd rfl (det_move rfl) ?_
  refine JL_pd rfl (det_neq rfl rfl) ?_
  refine JL_nil ?_
  refine JE_seq ?_
  -- stop: cond
  refine JC_pure (p := plan.length ≤ 9223372036854775807) (by intro w h; exact (Knows.know (F := KSl a plan.length cap encI plan) w h).1.bd) fun hz => ?_
  have hall := allI_j (fun n => inI n (-1) (x.h.lanes - 1)) 57 [] [pt b3] (KBox b3 [I x.h.lanes, .slice x.a x.h.shoes.length x.c]) Try.call57 (fun n => planned1_j x b3 n hl) a cap plan hz
  refine JC_ifn rfl (fun h1 => ?_) (fun h1 => ?_)
  · exact absurd rfl h1
  refine JC_skip ?_
  refine JE_seq ?_
  refine JC_seq ?_
  refine JC_region ?_
  refine JL_keep b3 noFp ?_
  refine JL_pd rfl (det_makeFuncE rfl rfl) ?_
  refine JL_pd rfl (det_assign rfl) ?_
  refine JL_nil ?_
  refine JE_seq ?_
  refine JC_seq ?_
  refine JC_seq ?_
  refine JC_region ?_
  refine JL_pd rfl (det_move rfl) ?_
  refine JL_pd rfl (det_len rfl Try.runUnderlying26) ?_
  refine JL_pd rfl (det_move rfl) ?_
  refine JL_pd rfl (det_len rfl Try.runUnderlying29) ?_
  refine JL_pd rfl (det_neq rfl rfl) ?_
  refine JL_pd rfl (det_move rfl) ?_
  -- stop: guard 5
  by_cases c1 : plan.length = xs.length
  · rw [decide_eq_true c1, Bool.and_true] at hp
    refine JL_is (d0 := 28) false rfl (by simp; omega) (fun g1 => ?_)
    refine JL_guard rfl rfl g1 ?_
    refine JL_pd rfl (det_move rfl) ?_
    refine JL_guard rfl rfl g1 ?_
    refine JL_pd rfl (det_move rfl) ?_
    refine JL_guard rfl rfl g1 ?_
    refine JL_step rfl rfl rfl (jo_callv rfl rfl Try.call59 rfl (hall)) fun _ => ?_
    refine JL_guard rfl rfl g1 ?_
    refine JL_pd rfl (det_not rfl) ?_
    refine JL_pd rfl (det_pick_f rfl g1 rfl) ?_
    refine JL_nil ?_
    refine JE_seq ?_
    -- stop: cond
    refine JC_cond rfl (fun h3 => ?_) (fun h3 => ?_)
    · refine JC_seq ?_
      refine JC_region ?_
      refine JL_pd rfl (det_assign rfl) ?_
      refine JL_pd rfl (det_assign rfl) ?_
      refine JL_nil ?_
      refine JE_seq ?_
      refine JC_ret ?_
      refine JE_seq_ret ?_
      -- stop: out
      refine JE_out (.inl rfl) () (results2 Try.results23 (res_tmp rfl) (res_tmp rfl)) rfl (List.Perm.refl _) (fun _ _ => trivial)
    · exact absurd h3 (by simp [hp])
  · skip
    refine JL_is (d0 := 28) true rfl (by simp; omega) (fun g1 => ?_)
    refine JL_skip rfl rfl g1 rfl ?_
    refine JL_skip rfl rfl g1 rfl ?_
    refine JL_skip rfl rfl g1 rfl ?_
    refine JL_skip rfl rfl g1 rfl ?_
    refine JL_pd rfl (det_pick_t rfl g1 rfl) ?_
    refine JL_nil ?_
    refine JE_seq ?_
    refine JC_condT rfl rfl ?_
    refine JC_seq ?_
    refine JC_region ?_
    refine JL_pd rfl (det_assign rfl) ?_
    refine JL_pd rfl (det_assign rfl) ?_
    refine JL_nil ?_
    refine JE_seq ?_
    refine JC_ret ?_
    refine JE_seq_ret ?_
    -- stop: out
    refine JE_out (.inl rfl) () (results2 Try.results23 (res_tmp rfl) (res_tmp rfl)) rfl (List.Perm.refl _) (fun _ _ => trivial)
set_option maxRecDepth 100000 in
set_option maxHeartbeats 1000000 in
theorem planned_jo (x : Hx) (ga : Option Addr) (gc : Nat) (xs : List Gx) (a : Option Addr) (cap : Nat) (plan : List Int) (h : fault x.h (gs xs) = 0) (hp : isPlan x.h.lanes (gs xs) plan = true) : Cx Try.prog 23 [.agg #[I x.h.lanes, .slice x.a x.h.shoes.length x.c], .slice ga xs.length gc, .slice a plan.length cap] [] (KAnd (KHx x) (KAnd (KGs ga gc xs) (KSl a plan.length cap encI plan)))
    (fun q : Nat × Nat × { t : Cell → Bool // rightB (gs xs) plan = true → t = tk ((gs xs).zip plan) } => .tuple #[pt q.1, I (if rightB (gs xs) plan = true then 0 else 8)]) (fun q => [mp q.2.1 ekC vB (tkM q.2.2.1)]) (fun q => KBox q.1 (wkC x ga xs.length gc q.2.1)) := by
  have V := vld_of h
  have hl : 0 ≤ x.h.lanes ∧ x.h.lanes ≤ 5 := ⟨V.hs.l0, V.hs.l1⟩
  have hn : xs.length ≤ 8 := by have := V.n; simpa [gs] using this
  rw [isPlan_eq, Bool.and_eq_true, decide_eq_true_eq] at hp
  obtain ⟨hpl, hpn⟩ := hp
  have hgl : (gs xs).length = xs.length := List.length_map _
  have hVg : ∀ i (hi : i < xs.length), VGr xs[i].g := fun i hi => V.gr _ (List.mem_map.2 ⟨_, List.getElem_mem hi, rfl⟩)
  generalize hzs : (gs xs).zip plan = zs
  have hzl : zs.length = xs.length := by rw [← hzs, List.length_zip, hgl]; omega
  have hzg : ∀ i (hi : i < xs.length), zs[i]'(by omega) = (xs[i].g, plan[i]'(by omega)) := fun i hi => by
    subst hzs; rw [List.getElem_zip]; simp [gs]
  have hzf : ∀ z ∈ zs, z.1.fr ≤ z.1.hi := fun z hz => by
    subst hzs
    have v := V.gr _ (List.of_mem_zip hz).1
    have := v.fl; have := v.lh; omega
  have hr : rightB (gs xs) plan = decide (RightZ zs) := by unfold rightB; rw [hzs]
  refine Cx_of Try.func23 rfl Try.ntmps23 rfl fun w0 M0 => ?_
  refine JC_seq ?_
  refine JC_region ?_
  refine JL_step rfl rfl rfl (jo_box rfl rfl) fun b3 => ?_
  refine JL_pd rfl (det_assign rfl) ?_
  refine JL_pd rfl (det_assign rfl) ?_
  refine JL_nil ?_
  refine JE_seq ?_
  refine JC_seq ?_
  refine JC_region ?_
  refine JL_dt rfl (det_loadKA rfl Try.isAgg28 Try.sizeOf28 rfl rfl) ?_
  refine JL_pd rfl (det_move rfl) ?_
  refine JL_step rfl rfl rfl (jo_call rfl rfl Try.call25 rfl (work_jo x ga gc xs h)) fun x16 => ?_
  refine JL_pd rfl (det_move rfl) ?_
  refine JL_pd rfl (det_extract rfl rfl) ?_
  refine JL_pd rfl (det_extract rfl rfl) ?_
  refine JL_pd rfl (det_assign rfl) ?_
  refine JL_pd rfl (det_assign rfl) ?_
  refine JL_nil ?_
  refine JE_seq ?_
  refine JC_seq ?_
  refine JC_seq ?_
  refine JC_region ?_
  refine JL_pd rfl (det_move rfl) ?_
  refine JL_pd rfl (det_neq rfl rfl) ?_
  refine JL_nil ?_
  refine JE_seq ?_
  -- stop: cond
  refine JC_pure (p := plan.length ≤ 9223372036854775807) (by intro w h; exact (Knows.know (F := KSl a plan.length cap encI plan) w h).1.bd) fun hz => ?_
  have hall := allI_j (fun n => inI n (-1) (x.h.lanes - 1)) 57 [] [pt b3] (KBox b3 [I x.h.lanes, .slice x.a x.h.shoes.length x.c]) Try.call57 (fun n => planned1_j x b3 n hl) a cap plan hz
  refine JC_ifn rfl (fun h1 => ?_) (fun h1 => ?_)
  · exact absurd rfl h1
  refine JC_skip ?_
  refine JE_seq ?_
  refine JC_seq ?_
  refine JC_region ?_
  refine JL_keep b3 noFp ?_
  refine JL_pd rfl (det_makeFuncE rfl rfl) ?_
  refine JL_pd rfl (det_assign rfl) ?_
  refine JL_nil ?_
  refine JE_seq ?_
  refine JC_seq ?_
  refine JC_seq ?_
  refine JC_region ?_
  refine JL_pd rfl (det_move rfl) ?_
  refine JL_pd rfl (det_len rfl Try.runUnderlying26) ?_
  refine JL_pd rfl (det_move rfl) ?_
  refine JL_pd rfl (det_len rfl Try.runUnderlying29) ?_
  refine JL_pd rfl (det_neq rfl rfl) ?_
  refine JL_pd rfl (det_move rfl) ?_
  -- stop: guard 5
  refine JL_is (d0 := 28) false rfl (by simp; omega) (fun g1 => ?_)
  refine JL_guard rfl rfl g1 ?_
  refine JL_pd rfl (det_move rfl) ?_
  refine JL_guard rfl rfl g1 ?_
  refine JL_pd rfl (det_move rfl) ?_
  refine JL_guard rfl rfl g1 ?_
  refine JL_step rfl rfl rfl (jo_callv rfl rfl Try.call59 rfl (hall)) fun _ => ?_
  refine JL_guard rfl rfl g1 ?_
  refine JL_pd rfl (det_not rfl) ?_
  refine JL_pd rfl (det_pick_f rfl g1 rfl) ?_
  refine JL_nil ?_
  refine JE_seq ?_
  -- stop: cond
  refine JC_cond rfl (fun h3 => ?_) (fun h3 => ?_)
  · exact absurd h3 (by simp [hpl])
  refine JC_skip ?_
  refine JE_seq ?_
  refine JC_seq ?_
  refine JC_seq ?_
  refine JC_region ?_
  refine JL_pd rfl (det_move rfl) ?_
  refine JL_pd rfl (det_len rfl Try.runUnderlying26) ?_
  refine JL_pd rfl (det_move rfl) ?_
  refine JL_nil ?_
  refine JE_seq ?_
  refine JC_block ?_
  -- stop: loop
  refine JC_loopF (γ := Nat) (fun i => i ≤ xs.length ∧ RightZ (zs.take i)) (fun i => [(36, I i)]) (fun i => [mp x16.2 ekC vB (tkM (tk (zs.take i)))]) (fun i => xs.length - i) 0 ⟨Nat.zero_le _, List.Pairwise.nil⟩ (stsub_consI rfl rfl stsub_nil) (ht_mp (by rw [List.take_zero]; rfl) ht_nil) ?_
  rintro i ⟨hi, hR⟩ K hK
  dsimp only [List.cons_append, List.nil_append]
  refine JC_seq ?_
  refine JC_region ?_
  refine JL_pd rfl (det_lss rfl rfl) ?_
  refine JL_nil ?_
  refine JE_seq ?_
  refine JC_seq ?_
  -- stop: cond
  refine JC_if rfl (fun h4 => ?_) (fun h4 => ?_)
  · have hi2 : i < xs.length := by omega
    have hi3 : i < plan.length := by omega
    have hzi := hzg i hi2
    have hsn : zs.take (i + 1) = zs.take i ++ [(xs[i].g, plan[i])] := by rw [take_snoc (by omega), hzi]
    have hin := inI_iff.1 (List.all_eq_true.1 hpl _ (List.getElem_mem hi3))
    refine JC_skip ?_
    refine JE_seq ?_
    refine JC_seq ?_
    refine JC_block ?_
    refine JC_seq ?_
    refine JC_region ?_
    refine JL_pd rfl (det_move rfl) ?_
    refine JL_dt rfl (det_indexAddr rfl rfl (by first | rfl | omega) (by first | assumption | omega | decide) Try.runUnderlying26 Try.sizeOf3) ?_
    refine JL_dt rfl (det_loadE rfl (by first | assumption | omega | decide) Try.isAgg3 rfl rfl) ?_
    refine JL_pd rfl (det_assign rfl) ?_
    refine JL_pd rfl (det_assign rfl) ?_
    refine JL_nil ?_
    refine JE_seq ?_
    refine JC_seq ?_
    refine JC_seq ?_
    refine JC_region ?_
    refine JL_pd rfl (det_move rfl) ?_
    refine JL_pd rfl (det_eql rfl rfl) ?_
    refine JL_nil ?_
    refine JE_seq ?_
    -- stop: cond
    refine JC_if rfl (fun h5 => ?_) (fun h5 => ?_)
    · have hno : srv (xs[i].g, plan[i]) = false := by unfold srv; simp only; rw [h5]; rfl
      have htk : tk (zs.take (i + 1)) = tk (zs.take i) := by funext c; rw [hsn, tk_snoc, hno]; simp
      refine JC_exit ?_
      refine JE_seq_exit ?_
      refine JE_block_here ?_
      refine JE_seq ?_
      refine JC_region ?_
      refine JL_pd rfl (det_add rfl rfl ⟨by omega, by omega⟩) ?_
      refine JL_pd rfl (det_move rfl) ?_
      refine JL_nil ?_
      -- stop: end
      refine JE_roundF hK (i + 1) ⟨by omega, ?_⟩ (by omega) (stsub_consI rfl (by omega) stsub_nil) (by rw [htk]; exact ht_cons ht_nil)
      rw [hsn]
      refine List.pairwise_append.2 ⟨hR, List.pairwise_singleton _ _, fun z _ b hb => ?_⟩
      rw [List.mem_singleton.1 hb]
      rintro ⟨q1, q2, _⟩
      simp only at q2
      omega
    · have h0 : 0 ≤ plan[i] := by omega
      have hfr := free_right (zs := zs.take i) (g := xs[i].g) h0 (by have := (hVg i hi2).fl; have := (hVg i hi2).lh; omega) fun z hz => hzf z (List.mem_of_mem_take hz)
      have hfree := Cx.lend (mp x16.2 ekC vB (tkM (tk (zs.take i)))) (free_j xs[i] x16.1 x16.2 x ga xs.length gc (tk (zs.take i)) plan[i] 0 (hVg i hi2) (by decide) (by decide))
      refine JC_skip ?_
      refine JE_seq ?_
      refine JC_seq ?_
      refine JC_seq ?_
      refine JC_region ?_
      refine JL_pd rfl (det_move rfl) ?_
      refine JL_pd rfl (det_move rfl) ?_
      refine JL_pd rfl (det_move rfl) ?_
      refine JL_dt rfl (det_indexAddr rfl rfl (by first | rfl | omega) (by first | assumption | omega | decide) Try.runUnderlying29 Try.sizeOf34) ?_
      refine JL_dt rfl (det_loadEA rfl (by first | assumption | omega | decide) Try.isAgg34 Try.sizeOf34 rfl rfl rfl) ?_
      refine JL_pd rfl (det_move rfl) ?_
      refine JL_step rfl rfl rfl (jo_callx rfl rfl Try.call60 rfl (hfree) (pick_perm)) fun x49 => ?_
      refine JL_pd rfl (det_not rfl) ?_
      refine JL_nil ?_
      refine JE_seq ?_
      -- stop: cond
      refine JC_cond rfl (fun h6 => ?_) (fun h6 => ?_)
      · simp only [Bool.not_eq_true'] at h6
        have hrf : rightB (gs xs) plan = false := by
          rw [hr]
          refine decide_eq_false fun hc => ?_
          have h7 : freeW (tk (zs.take i)) xs[i].g plan[i] 0 = true := hfr.2 fun z hz => by
            have hc2 : RightZ (zs.take (i + 1)) := List.Pairwise.sublist (List.take_sublist _ _) hc
            rw [hsn] at hc2
            exact (List.pairwise_append.1 hc2).2.2 z hz _ (by simp)
          rw [h6] at h7; cases h7
        refine JC_seq ?_
        refine JC_region ?_
        refine JL_pd rfl (det_move rfl) ?_
        refine JL_pd rfl (det_assign rfl) ?_
        refine JL_pd rfl (det_assign rfl) ?_
        refine JL_nil ?_
        refine JE_seq ?_
        refine JC_ret ?_
        refine JE_seq_ret ?_
        refine JE_block_ret ?_
        refine JE_seq_ret ?_
        refine JE_then_ret ?_
        refine JE_block_ret ?_
        refine JE_seq_ret ?_
        -- stop: out
        refine JE_out (.inl rfl) (x16.1, x16.2, ⟨tk (zs.take i), fun h => by rw [hrf] at h; cases h⟩) (results2 Try.results23 (res_tmp rfl) (res_tmp rfl)) (congrArg (fun n : Int => Value.tuple #[pt x16.1, I n]) (if_neg (c := rightB (gs xs) plan = true) (by rw [hrf]; decide)).symm) pick_perm (fun w h => Knows.know w h)
      · simp only [Bool.not_eq_false'] at h6
        have htk : addT (tk (zs.take i)) plan[i] (hoursL xs[i].g) = tk (zs.take (i + 1)) := by
          funext c
          rw [addT_hours, hsn, tk_snoc, show srv (xs[i].g, plan[i]) = true from decide_eq_true h0, Bool.true_and]
        refine JC_skip ?_
        refine JE_seq ?_
        refine JC_region ?_
        refine JL_pd rfl (det_move rfl) ?_
        refine JL_pd rfl (det_move rfl) ?_
        refine JL_pd rfl (det_move rfl) ?_
        refine JL_dt rfl (det_indexAddr rfl rfl (by first | rfl | omega) (by first | assumption | omega | decide) Try.runUnderlying29 Try.sizeOf34) ?_
        refine JL_dt rfl (det_loadEA rfl (by first | assumption | omega | decide) Try.isAgg34 Try.sizeOf34 rfl rfl rfl) ?_
        refine JL_pd rfl (det_move rfl) ?_
        refine JL_step rfl rfl rfl (jo_callx rfl rfl Try.call30 rfl (take_j xs[i] x16.1 x16.2 x ga xs.length gc (tk (zs.take i)) plan[i] (hVg i hi2)) (pick_perm)) fun x58 => ?_
        refine JL_nil ?_
        refine JE_block ?_
        refine JE_seq ?_
        refine JC_region ?_
        refine JL_pd rfl (det_add rfl rfl ⟨by omega, by omega⟩) ?_
        refine JL_pd rfl (det_move rfl) ?_
        refine JL_nil ?_
        -- stop: end
        refine JE_roundF hK (i + 1) ⟨by omega, ?_⟩ (by omega) (stsub_consI rfl (by omega) stsub_nil) (by rw [← htk]; exact ht_cons ht_nil)
        rw [hsn]
        refine List.pairwise_append.2 ⟨hR, List.pairwise_singleton _ _, fun z hz b hb => ?_⟩
        rw [List.mem_singleton.1 hb]
        exact hfr.1 h6 z hz
  · obtain rfl : i = xs.length := by omega
    rw [List.take_of_length_le (by omega)] at hR
    have hrt : rightB (gs xs) plan = true := by rw [hr]; exact decide_eq_true hR
    refine JC_exit ?_
    refine JE_seq_exit ?_
    refine JE_then_exit ?_
    refine JE_block_here ?_
    refine JE_seq ?_
    refine JC_seq ?_
    refine JC_region ?_
    refine JL_pd rfl (det_move rfl) ?_
    refine JL_pd rfl (det_assign rfl) ?_
    refine JL_pd rfl (det_assign rfl) ?_
    refine JL_nil ?_
    refine JE_seq ?_
    refine JC_ret ?_
    -- stop: out
    refine JE_out (.inl rfl) (x16.1, x16.2, ⟨tk (zs.take xs.length), fun _ => by rw [List.take_of_length_le (by omega)]⟩) (results2 Try.results23 (res_tmp rfl) (res_tmp rfl)) (congrArg (fun n : Int => Value.tuple #[pt x16.1, I n]) (if_pos (c := rightB (gs xs) plan = true) hrt).symm) pick_perm (fun w h => Knows.know w h)
set_option maxRecDepth 100000 in
theorem served_j (a : Option Addr) (cap : Nat) (plan : List Int) (h : ∀ n ∈ plan, -1 ≤ n) (hl : plan.length ≤ 1000) : Cv Try.prog 24 [.slice a plan.length cap] (KSl a plan.length cap encI plan) (I ((served plan : Nat) : Int)) := by
  refine Cx_of Try.func24 rfl Try.ntmps24 rfl fun w0 M0 => ?_
  refine JC_seq ?_
  refine JC_region ?_
  refine JL_pd rfl (det_assign rfl) ?_
  refine JL_nil ?_
  refine JE_seq ?_
  refine JC_seq ?_
  refine JC_seq ?_
  refine JC_region ?_
  refine JL_pd rfl (det_move rfl) ?_
  refine JL_pd rfl (det_len rfl Try.runUnderlying26) ?_
  refine JL_pd rfl (det_move rfl) ?_
  refine JL_nil ?_
  refine JE_seq ?_
  refine JC_block ?_
  -- stop: loop
  refine JC_loopF (γ := Nat) (fun i => i ≤ plan.length) (fun i => [(7, I i), (2, I ((served (plan.take i) : Nat) : Int))]) (fun _ => []) (fun i => plan.length - i) 0 (Nat.zero_le _) (stsub_consI rfl rfl (stsub_consI rfl rfl stsub_nil)) ht_nil ?_
  intro i hi K hK
  dsimp only [List.cons_append, List.nil_append]
  have hcl : served (plan.take i) ≤ plan.length := Nat.le_trans List.countP_le_length (by rw [List.length_take]; omega)
  refine JC_seq ?_
  refine JC_region ?_
  refine JL_pd rfl (det_lss rfl rfl) ?_
  refine JL_nil ?_
  refine JE_seq ?_
  refine JC_seq ?_
  -- stop: cond
  refine JC_if rfl (fun h1 => ?_) (fun h1 => ?_)
  · have hi2 : i < plan.length := by omega
    have hs := countP_snoc (fun n : Int => decide (0 ≤ n)) plan i hi2
    have hge := h _ (List.getElem_mem hi2)
    refine JC_skip ?_
    refine JE_seq ?_
    refine JC_seq ?_
    refine JC_block ?_
    refine JC_seq ?_
    refine JC_region ?_
    refine JL_dt rfl (det_indexAddr rfl rfl (by first | rfl | omega) (by first | assumption | omega | decide) Try.runUnderlying26 Try.sizeOf3) ?_
    refine JL_dt rfl (det_loadE rfl (by first | assumption | omega | decide) Try.isAgg3 rfl rfl) ?_
    refine JL_pd rfl (det_assign rfl) ?_
    refine JL_nil ?_
    refine JE_seq ?_
    refine JC_seq ?_
    refine JC_region ?_
    refine JL_pd rfl (det_move rfl) ?_
    refine JL_pd rfl (det_neq rfl rfl) ?_
    refine JL_nil ?_
    refine JE_seq ?_
    -- stop: cond
    refine JC_ifn rfl (fun h2 => ?_) (fun h2 => ?_)
    · refine JC_region ?_
      refine JL_pd rfl (det_move rfl) ?_
      refine JL_pd rfl (det_add rfl rfl ⟨by omega, by omega⟩) ?_
      refine JL_pd rfl (det_assign rfl) ?_
      refine JL_nil ?_
      refine JE_block ?_
      refine JE_seq ?_
      refine JC_region ?_
      refine JL_pd rfl (det_add rfl rfl ⟨by omega, by omega⟩) ?_
      refine JL_pd rfl (det_move rfl) ?_
      refine JL_nil ?_
      -- stop: end
      rw [if_pos (decide_eq_true (by omega))] at hs
      refine JE_roundF hK (i + 1) (by omega) (by omega) (stsub_consI rfl (by omega) (stsub_consI rfl (by unfold served; omega) stsub_nil)) ht_nil
    · refine JC_skip ?_
      refine JE_block ?_
      refine JE_seq ?_
      refine JC_region ?_
      refine JL_pd rfl (det_add rfl rfl ⟨by omega, by omega⟩) ?_
      refine JL_pd rfl (det_move rfl) ?_
      refine JL_nil ?_
      -- stop: end
      rw [if_neg (by rw [decide_eq_false (by omega)]; decide)] at hs
      refine JE_roundF hK (i + 1) (by omega) (by omega) (stsub_consI rfl (by omega) (stsub_consI rfl (by unfold served; omega) stsub_nil)) ht_nil
  · refine JC_exit ?_
    refine JE_seq_exit ?_
    refine JE_then_exit ?_
    refine JE_block_here ?_
    refine JE_seq ?_
    refine JC_seq ?_
    refine JC_region ?_
    refine JL_pd rfl (det_move rfl) ?_
    refine JL_pd rfl (det_assign rfl) ?_
    refine JL_nil ?_
    refine JE_seq ?_
    refine JC_ret ?_
    -- stop: out
    obtain rfl : i = plan.length := by omega
    refine JE_out (.inl rfl) () (results1 Try.results24 (res_tmp rfl)) (by rw [List.take_length]) (List.Perm.refl _) (fun _ _ => trivial)
set_option maxRecDepth 100000 in
theorem ProvePlan_j (x : Hx) (ga : Option Addr) (gc : Nat) (xs : List Gx) (a : Option Addr) (cap : Nat) (plan : List Int) (many : Int) : Cv Try.prog 6 [.agg #[I x.h.lanes, .slice x.a x.h.shoes.length x.c], .slice ga xs.length gc, .slice a plan.length cap, I many] (KAnd (KHx x) (KAnd (KGs ga gc xs) (KSl a plan.length cap encI plan))) (.bool (decide (plannedE x.h (gs xs) plan = 0) && decide (many ≤ (served plan : Nat)))) := by
  by_cases c1 : fault x.h (gs xs) = 0
  · by_cases c2 : isPlan x.h.lanes (gs xs) plan = true
    · have hE : plannedE x.h (gs xs) plan = if rightB (gs xs) plan = true then 0 else 8 := by
        unfold plannedE
        rw [if_neg (by omega), if_neg (by rw [c2]; decide)]
        cases rightB (gs xs) plan <;> rfl
      rw [hE]
      have c2' := c2
      rw [isPlan_eq, Bool.and_eq_true, decide_eq_true_eq] at c2'
      have V := vld_of c1
      have hn : xs.length ≤ 8 := by have := V.n; simpa [gs] using this
      refine Cx_of Try.func6 rfl Try.ntmps6 rfl fun w0 M0 => ?_
      refine JC_seq ?_
      refine JC_region ?_
      refine JL_step rfl rfl rfl (jo_box rfl rfl) fun b4 => ?_
      refine JL_pd rfl (det_assign rfl) ?_
      refine JL_nil ?_
      refine JE_seq ?_
      refine JC_seq ?_
      refine JC_region ?_
      refine JL_dt rfl (det_loadKA rfl Try.isAgg28 Try.sizeOf28 rfl rfl) ?_
      refine JL_pd rfl (det_move rfl) ?_
      refine JL_pd rfl (det_move rfl) ?_
      refine JL_step rfl rfl rfl (jo_call rfl rfl Try.call23 rfl (planned_jo x ga gc xs a cap plan c1 c2)) fun x15 => ?_
      refine JL_pd rfl (det_move rfl) ?_
      refine JL_pd rfl (det_extract rfl rfl) ?_
      refine JL_pd rfl (det_extract rfl rfl) ?_
      refine JL_pd rfl (det_assign rfl) ?_
      refine JL_pd rfl (det_assign rfl) ?_
      refine JL_nil ?_
      refine JE_seq ?_
      refine JC_seq ?_
      refine JC_region ?_
      refine JL_pd rfl (det_move rfl) ?_
      refine JL_pd rfl (det_eql rfl rfl) ?_
      refine JL_pd rfl (det_move rfl) ?_
      -- stop: guard 2
      by_cases hr : rightB (gs xs) plan = true
      · have e1 : (if rightB (gs xs) plan = true then (0 : Int) else 8) = 0 := if_pos hr
        refine JL_is (d0 := 20) true rfl (by exact decide_eq_true e1) (fun g1 => ?_)
        refine JL_guard rfl rfl g1 ?_
        refine JL_pd rfl (det_move rfl) ?_
        refine JL_guard rfl rfl g1 ?_
        refine JL_step rfl rfl rfl (jo_callv rfl rfl Try.call24 rfl (served_j a cap plan (fun n hn => (inI_iff.1 (List.all_eq_true.1 c2'.1 n hn)).1) (by omega))) fun _ => ?_
        refine JL_guard rfl rfl g1 ?_
        refine JL_pd rfl (det_move rfl) ?_
        refine JL_guard rfl rfl g1 ?_
        refine JL_pd rfl (det_geq rfl rfl) ?_
        refine JL_pd rfl (det_pick_t rfl g1 rfl) ?_
        refine JL_pd rfl (det_assign rfl) ?_
        refine JL_nil ?_
        refine JE_seq ?_
        refine JC_ret ?_
        -- stop: out
        refine JE_out (.inl rfl) () (results1 Try.results6 (res_tmp rfl)) (by rw [decide_eq_true e1]; rfl) (List.Perm.refl _) (fun _ _ => trivial)
      · have e1 : ¬ (if rightB (gs xs) plan = true then (0 : Int) else 8) = 0 := by rw [if_neg hr]; decide
        refine JL_is (d0 := 20) false rfl (by exact decide_eq_false e1) (fun g1 => ?_)
        refine JL_skip rfl rfl g1 rfl ?_
        refine JL_skip rfl rfl g1 rfl ?_
        refine JL_skip rfl rfl g1 rfl ?_
        refine JL_skip rfl rfl g1 rfl ?_
        refine JL_pd rfl (det_pick_f rfl g1 rfl) ?_
        refine JL_pd rfl (det_assign rfl) ?_
        refine JL_nil ?_
        refine JE_seq ?_
        refine JC_ret ?_
        -- stop: out
        refine JE_out (.inl rfl) () (results1 Try.results6 (res_tmp rfl)) (by rw [decide_eq_false e1]; rfl) (List.Perm.refl _) (fun _ _ => trivial)
    · have hE : plannedE x.h (gs xs) plan = 2 := by
        unfold plannedE
        rw [if_neg (by omega), if_pos (by simpa using c2)]
      rw [hE]
      refine Cx_of Try.func6 rfl Try.ntmps6 rfl fun w0 M0 => ?_
      refine JC_seq ?_
      refine JC_region ?_
      refine JL_step rfl rfl rfl (jo_box rfl rfl) fun b4 => ?_
      refine JL_pd rfl (det_assign rfl) ?_
      refine JL_nil ?_
      refine JE_seq ?_
      refine JC_seq ?_
      refine JC_region ?_
      refine JL_dt rfl (det_loadKA rfl Try.isAgg28 Try.sizeOf28 rfl rfl) ?_
      refine JL_pd rfl (det_move rfl) ?_
      refine JL_pd rfl (det_move rfl) ?_
      refine JL_step rfl rfl rfl (jo_callv rfl rfl Try.call23 rfl (planned_j2 x ga gc xs a cap plan c1 (by simpa using c2))) fun _ => ?_
      refine JL_pd rfl (det_move rfl) ?_
      refine JL_pd rfl (det_extract rfl rfl) ?_
      refine JL_pd rfl (det_extract rfl rfl) ?_
      refine JL_pd rfl (det_assign rfl) ?_
      refine JL_pd rfl (det_assign rfl) ?_
      refine JL_nil ?_
      refine JE_seq ?_
      refine JC_seq ?_
      refine JC_region ?_
      refine JL_pd rfl (det_move rfl) ?_
      refine JL_pd rfl (det_eql rfl rfl) ?_
      refine JL_pd rfl (det_move rfl) ?_
      -- stop: guard 2
      refine JL_is (d0 := 20) false rfl (by rfl) (fun g1 => ?_)
      refine JL_skip rfl rfl g1 rfl ?_
      refine JL_skip rfl rfl g1 rfl ?_
      refine JL_skip rfl rfl g1 rfl ?_
      refine JL_skip rfl rfl g1 rfl ?_
      refine JL_pd rfl (det_pick_f rfl g1 rfl) ?_
      refine JL_pd rfl (det_assign rfl) ?_
      refine JL_nil ?_
      refine JE_seq ?_
      refine JC_ret ?_
      -- stop: out
      refine JE_out (.inl rfl) () (results1 Try.results6 (res_tmp rfl)) rfl (List.Perm.refl _) (fun _ _ => trivial)
  · have hE : plannedE x.h (gs xs) plan = fault x.h (gs xs) := by unfold plannedE; rw [if_pos c1]
    rw [hE]
    refine Cx_of Try.func6 rfl Try.ntmps6 rfl fun w0 M0 => ?_
    refine JC_seq ?_
    refine JC_region ?_
    refine JL_step rfl rfl rfl (jo_box rfl rfl) fun b4 => ?_
    refine JL_pd rfl (det_assign rfl) ?_
    refine JL_nil ?_
    refine JE_seq ?_
    refine JC_seq ?_
    refine JC_region ?_
    refine JL_dt rfl (det_loadKA rfl Try.isAgg28 Try.sizeOf28 rfl rfl) ?_
    refine JL_pd rfl (det_move rfl) ?_
    refine JL_pd rfl (det_move rfl) ?_
    refine JL_step rfl rfl rfl (jo_callv rfl rfl Try.call23 rfl (planned_j1 x ga gc xs a cap plan c1)) fun _ => ?_
    refine JL_pd rfl (det_move rfl) ?_
    refine JL_pd rfl (det_extract rfl rfl) ?_
    refine JL_pd rfl (det_extract rfl rfl) ?_
    refine JL_pd rfl (det_assign rfl) ?_
    refine JL_pd rfl (det_assign rfl) ?_
    refine JL_nil ?_
    refine JE_seq ?_
    refine JC_seq ?_
    refine JC_region ?_
    refine JL_pd rfl (det_move rfl) ?_
    refine JL_pd rfl (det_eql rfl rfl) ?_
    refine JL_pd rfl (det_move rfl) ?_
    -- stop: guard 2
    refine JL_is (d0 := 20) false rfl (by exact decide_eq_false c1) (fun g1 => ?_)
    refine JL_skip rfl rfl g1 rfl ?_
    refine JL_skip rfl rfl g1 rfl ?_
    refine JL_skip rfl rfl g1 rfl ?_
    refine JL_skip rfl rfl g1 rfl ?_
    refine JL_pd rfl (det_pick_f rfl g1 rfl) ?_
    refine JL_pd rfl (det_assign rfl) ?_
    refine JL_nil ?_
    refine JE_seq ?_
    refine JC_ret ?_
    -- stop: out
    refine JE_out (.inl rfl) () (results1 Try.results6 (res_tmp rfl)) (by rw [decide_eq_false c1]; rfl) (List.Perm.refl _) (fun _ _ => trivial)
end Go.Proofs.Ythpkgabckklojaa.En

/- Walks of lend: when a group can come later; what a list has; what sizes lack. -/
namespace Go.Proofs.Ythpkgabckklojaa.En
open Go.RowKit Go.Shelf

section
variable {P : Program} {st : Sto} {d : Option Nat} {ty : TypeId} {pos : String} {af : Array Edge} {g : Option (Nat × Bool)}
/-- Is a pointer nil? -/
theorem det_eqlPN {x y : Operand} {t t' E : TypeId} {p : Option Addr} (hx : opnd st x = some (.pointer p)) (hy : opnd st y = some (.pointer none)) (hu : P.underlying t = some (.pointer E)) : PDet P ⟨d, .binOp .eql t x y t', ty, pos, af, g⟩ st (.bool p.isNone) := fun N a w hs => by
  have h1 : (Op.equalIn 10000 t (.pointer p) (.pointer none)).run P w = .ok p.isNone w := by
    unfold Op.equalIn
    simp only [Sem.run_bind, run_underlying hu, Result.andThen_ok]
    cases p <;> rfl
  cases p <;> simp [execOp, hs.eval hx, hs.eval hy, eqGuard, binOp, Op.equal, Op.maxDepth, h1]
end
def later3 (o : Option (Int × Int)) : Int × Int × Int := match o with | some r => (r.1, r.2, 0) | none => (0, 0, 7)
def laterE (x : Hx) (l : List Gr) (plan : List Int) (group : Int) : Int × Int × Int :=
  if fault x.h l ≠ 0 then (0, 0, fault x.h l) else if isPlan x.h.lanes l plan = false ∨ inI group 0 ((l.length : Int) - 1) = false then (0, 0, 2)
  else if rightB l plan = false ∨ plan.getD group.toNat 0 ≠ -1 then (0, 0, 8) else later3 (laterV (tk (l.zip plan)) x.h.lanes.toNat l[group.toNat]!)
def tup3 (q : Int × Int × Int) : Value := .tuple #[I q.1, I q.2.1, I q.2.2]
end Go.Proofs.Ythpkgabckklojaa.En

/- Walks of lend: what sizes lack. -/
namespace Go.Proofs.Ythpkgabckklojaa.En
open Go.RowKit Go.Shelf

def shodE (h : Hs) (feet : List Int) : Int := if hsOk h = false then 1 else if 48 < feet.length then 3 else if (feet.all fun n => inI n 0 9) = false then 2 else 0
theorem shod_j (x : Hx) (a : Option Addr) (cap : Nat) (feet : List Int) : Cv Try.prog 68 [.agg #[I x.h.lanes, .slice x.a x.h.shoes.length x.c], .slice a feet.length cap] (KAnd (KHx x) (KSl a feet.length cap encI feet)) (I (shodE x.h feet)) := by
  refine Cx_of Try.func68 rfl Try.ntmps68 rfl fun w0 M0 => ?_
  refine JC_seq ?_
  refine JC_region ?_
  refine JL_step rfl rfl rfl (jo_box rfl rfl) fun b2 => ?_
  refine JL_pd rfl (det_assign rfl) ?_
  refine JL_nil ?_
  refine JE_seq ?_
  refine JC_seq ?_
  refine JC_block ?_
  refine JC_seq ?_
  refine JC_region ?_
  refine JL_dt rfl (det_loadKA rfl Try.isAgg28 Try.sizeOf28 rfl rfl) ?_
  refine JL_step rfl rfl rfl (jo_callv rfl rfl Try.call91 rfl (hvalid_j x)) fun _ => ?_
  refine JL_pd rfl (det_not rfl) ?_
  refine JL_pd rfl (det_assign rfl) ?_
  refine JL_nil ?_
  refine JE_seq ?_
  -- stop: cond
  refine JC_pure (p := feet.length ≤ 9223372036854775807) (by intro w h; exact (Knows.know (F := KSl a feet.length cap encI feet) w h).1.bd) fun hz => ?_
  refine JC_cond rfl (fun h1 => ?_) (fun h1 => ?_)
  · refine JC_seq ?_
    refine JC_region ?_
    refine JL_pd rfl (det_assign rfl) ?_
    refine JL_nil ?_
    refine JE_seq ?_
    refine JC_ret ?_
    refine JE_block_ret ?_
    refine JE_seq_ret ?_
    -- stop: out
    refine JE_out (.inl rfl) () (results1 Try.results68 (res_tmp rfl)) (by unfold shodE; rw [if_pos (by simpa using h1)]) (List.Perm.refl _) (fun _ _ => trivial)
  · refine JC_seq ?_
    refine JC_region ?_
    refine JL_pd rfl (det_move rfl) ?_
    refine JL_pd rfl (det_len rfl Try.runUnderlying26) ?_
    refine JL_pd rfl (det_gtr rfl rfl) ?_
    refine JL_pd rfl (det_assign rfl) ?_
    refine JL_nil ?_
    refine JE_seq ?_
    -- stop: cond
    refine JC_if rfl (fun h2 => ?_) (fun h2 => ?_)
    · refine JC_seq ?_
      refine JC_region ?_
      refine JL_pd rfl (det_assign rfl) ?_
      refine JL_nil ?_
      refine JE_seq ?_
      refine JC_ret ?_
      refine JE_block_ret ?_
      refine JE_seq_ret ?_
      -- stop: out
      refine JE_out (.inl rfl) () (results1 Try.results68 (res_tmp rfl)) (by unfold shodE; rw [if_neg (by simpa using h1), if_pos (by omega)]) (List.Perm.refl _) (fun _ _ => trivial)
    · refine JC_seq ?_
      refine JC_region ?_
      refine JL_pd rfl (det_move rfl) ?_
      refine JL_step rfl rfl rfl (jo_callv rfl rfl Try.call59 rfl (allI_j (fun n => inI n 0 9) 109 [] [] KTrue Try.call109 (fun n => size_j n) a cap feet hz)) fun _ => ?_
      refine JL_pd rfl (det_not rfl) ?_
      refine JL_pd rfl (det_assign rfl) ?_
      refine JL_nil ?_
      refine JE_seq ?_
      -- stop: cond
      refine JC_cond rfl (fun h3 => ?_) (fun h3 => ?_)
      · refine JC_seq ?_
        refine JC_region ?_
        refine JL_pd rfl (det_assign rfl) ?_
        refine JL_nil ?_
        refine JE_seq ?_
        refine JC_ret ?_
        refine JE_block_ret ?_
        refine JE_seq_ret ?_
        -- stop: out
        refine JE_out (.inl rfl) () (results1 Try.results68 (res_tmp rfl)) (by unfold shodE; rw [if_neg (by simpa using h1), if_neg (by omega), if_pos (by simpa using h3)]) (List.Perm.refl _) (fun _ _ => trivial)
      · refine JC_skip ?_
        refine JE_block ?_
        refine JE_seq ?_
        refine JC_seq ?_
        refine JC_region ?_
        refine JL_pd rfl (det_assign rfl) ?_
        refine JL_nil ?_
        refine JE_seq ?_
        refine JC_ret ?_
        -- stop: out
        refine JE_out (.inl rfl) () (results1 Try.results68 (res_tmp rfl)) (by unfold shodE; rw [if_neg (by simpa using h1), if_neg (by omega), if_neg (by simpa using h3)]) (List.Perm.refl _) (fun _ _ => trivial)
structure VFeet (h : Hs) (feet : List Int) : Prop where
  hs : VHs h
  n : feet.length ≤ 48
  ft : ∀ f ∈ feet, 0 ≤ f ∧ f ≤ 9
theorem vfeet_of {h : Hs} {feet : List Int} (q : shodE h feet = 0) : VFeet h feet := by
  unfold shodE at q
  split at q
  · omega
  · split at q
    · omega
    · split at q
      · omega
      · rename_i h1 h2 h3
        exact ⟨hsOk_iff.1 (by simpa using h1), by omega, fun f hf => inI_iff.1 (List.all_eq_true.1 (by simpa using h3) f hf)⟩
theorem shoe_get {sh : List Int} {i : Nat} (h : i < sh.length) : shoe sh (i : Int) = sh[i] := by
  unfold shoe
  rw [Int.toNat_natCast, List.getD_eq_getElem?_getD, List.getElem?_eq_getElem h]; rfl
def lackE (x : Hx) (feet S : List Int) : Value := if shodE x.h feet ≠ 0 then .tuple #[I 0, I (shodE x.h feet)] else if risB (fun n => inI n 0 9) S = true then .tuple #[I (lack x.h.shoes feet S), I 0] else .tuple #[I 0, I 2]
end Go.Proofs.Ythpkgabckklojaa.En
