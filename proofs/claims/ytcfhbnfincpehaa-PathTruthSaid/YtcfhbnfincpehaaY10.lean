/- The walk of PathTruth. -/
import Derived.Test.YtcfhbnfincpehaaB7
set_option linter.unusedSimpArgs false
set_option linter.unusedVariables false
namespace Go.Proofs.Ytcfhbnfincpehaa
open Go.RowKit Go.Shelf

theorem last_some {xs : List St} (h : xs ≠ []) : xs.getLast? = some (xs.getLast h) := List.getLast?_eq_some_getLast h
theorem hitB_idx (p : Pk) (over : List St) (g : Bool) (i : Nat) (hi : i < over.length) (he : i + 1 = over.length) : hitB p over g = (!g && (inR over[i].b p.boards && inR over[i].d p.dirs)) := by
  unfold hitB
  have : over.getLast? = some over[i] := by
    rw [List.getLast?_eq_getElem?, show over.length - 1 = i by omega, List.getElem?_eq_getElem hi]
  rw [this]
theorem maxB_snoc (xs : List St) (x : St) : maxB (xs ++ [x]) = max (maxB xs) x.b := by simp [maxB]
set_option maxRecDepth 100000 in
theorem PathTruth_j (l : La) (s : St) (p : Pk) (ws : List Int) (ha pa : Option Addr) (hc pc : Nat) (wa : Option Addr) (wc : Nat) (hw : wordsOk ws) : Cv Try.prog 12 [.agg #[I l.boards, I l.rows, .slice ha l.hooks.length hc, .slice pa l.patches.length pc], .agg #[I s.b, I s.d], .agg #[I p.boards.lo, I p.boards.hi, I p.dirs.lo, I p.dirs.hi], .slice wa ws.length wc] (KAnd (KSl wa ws.length wc encU ws) (KLane l ha hc pa pc)) (.bool true) := by
  refine Cx_of Try.func12 rfl Try.ntmps12 rfl fun w0 M0 => ?_
  refine JC_seq ?_
  refine JC_region ?_
  refine JL_step rfl rfl rfl (jo_box rfl rfl) fun b4 => ?_
  refine JL_step rfl rfl rfl (jo_box rfl rfl) fun b5 => ?_
  refine JL_step rfl rfl rfl (jo_box rfl rfl) fun b6 => ?_
  refine JL_pd rfl (det_assign rfl) ?_
  refine JL_nil ?_
  refine JE_seq ?_
  refine JC_seq ?_
  refine JC_seq ?_
  refine JC_region ?_
  refine JL_dt rfl (det_loadKA rfl Try.isAgg25 Try.sizeOf25 rfl rfl) ?_
  refine JL_dt rfl (det_loadKA rfl Try.isAgg27 Try.sizeOf27 rfl rfl) ?_
  refine JL_step rfl rfl rfl (jo_callv rfl rfl Try.call36 rfl (lready_j l s ha pa hc pc)) fun _ => ?_
  refine JL_pd rfl (det_not rfl) ?_
  refine JL_pd rfl (det_move rfl) ?_
  -- stop: guard 4
  refine JL_join1 4 31 (.bool (!(thin l && decide (startErr l s = 0) && isPocket p))) (fun hj => ?_) ?_
  · refine JL_split (d0 := 27) rfl (fun q1 => ?_) (fun q1 => ?_)
    · refine JL_skip rfl rfl q1 rfl ?_
      refine JL_skip rfl rfl q1 rfl ?_
      refine JL_skip rfl rfl q1 rfl ?_
      refine JL_pd rfl (det_pick_t rfl q1 rfl) ?_
      exact hj (by kernel_rfl) (stsub_consB rfl (by clear hj; first | rfl | (simp only [q1, Bool.and_true, Bool.true_and, Bool.false_and, Bool.and_false, Bool.or_true, Bool.true_or, Bool.or_false, Bool.false_or, Bool.not_true, Bool.not_false]; done) | (simp [q1]; done) | (simp at q1; done) | (simp [q1] <;> omega) | (exfalso; simp at q1; omega)) stsub_nil)
    · refine JL_guard rfl rfl q1 ?_
      refine JL_dt rfl (det_loadKA rfl Try.isAgg57 Try.sizeOf57 rfl rfl) ?_
      refine JL_guard rfl rfl q1 ?_
      refine JL_step rfl rfl rfl (jo_callv rfl rfl Try.call33 rfl (rIsPocket_j p)) fun _ => ?_
      refine JL_guard rfl rfl q1 ?_
      refine JL_pd rfl (det_not rfl) ?_
      refine JL_pd rfl (det_pick_f rfl q1 rfl) ?_
      exact hj (by kernel_rfl) (stsub_consB rfl (by clear hj; first | rfl | (simp only [q1, Bool.and_true, Bool.true_and, Bool.false_and, Bool.and_false, Bool.or_true, Bool.true_or, Bool.or_false, Bool.false_or, Bool.not_true, Bool.not_false]; done) | (simp [q1]; done) | (simp at q1; done) | (simp [q1] <;> omega) | (exfalso; simp at q1; omega)) stsub_nil)
  refine JL_nil ?_
  refine JE_seq ?_
  -- stop: cond
  refine JC_cond rfl (fun h1 => ?_) (fun h1 => ?_)
  · refine JC_seq ?_
    refine JC_region ?_
    refine JL_step rfl rfl rfl (jo_callv rfl rfl Try.call17 rfl (lawake_j)) fun _ => ?_
    refine JL_pd rfl (det_assign rfl) ?_
    refine JL_nil ?_
    refine JE_seq ?_
    refine JC_ret ?_
    refine JE_seq_ret ?_
    -- stop: out
    refine JE_out (.inl rfl) () (results1 Try.results12 (res_tmp rfl)) rfl (List.Perm.refl _) (fun _ _ => trivial)
  · simp only [Bool.not_eq_false', Bool.and_eq_true, decide_eq_true_eq] at h1
    obtain ⟨⟨hthin, he⟩, hp⟩ := h1
    obtain ⟨V, h0⟩ := valid_start he
    have hth : l.patches.length ≤ 12 ∧ l.hooks.length ≤ 6 := by simpa [thin] using hthin
    have b1 := V.b1
    have b2 := V.b2
    have r1 := V.r1
    have r2 := V.r2
    have sb : 1 ≤ s.b ∧ s.b ≤ l.boards ∧ -5 ≤ s.d ∧ s.d ≤ 5 := by simpa [isStart] using h0
    have heh : aimErr l s p = 0 := by simp [aimErr, he, hp]
    have hnr : ((nR l : Nat) : Int) = l.rows - 1 := by unfold nR; omega
    obtain ⟨over, g, hT⟩ := pick_truth V hw (nR l) 0 s (onL_start h0)
    have hT := (show Truth l (nR l) 0 s _ over g by exact_mod_cast hT)
    obtain ⟨ol1, ol2, ol3, -⟩ := hT.len
    have hlast : over.length - 1 + 1 = over.length := by omega
    have hgl : g = decide ((over.length : Int) < l.rows) := by
      cases g with
      | false => have := ol2 rfl; simp; omega
      | true => have := ol3 rfl; simp; omega
    have olb : over.length ≤ 12 := by cases g with | false => have := ol2 rfl; omega | true => have := ol3 rfl; omega
    have hne := hT.ne
    have hmax : (turnV l s).lo ≤ maxB over ∧ maxB over ≤ (turnV l s).hi := hT.turn
    have hhit := hT.hits p
    have hv1 : (!decide (hitsV l s p = 2) || hitB p over g) = true := by
      cases hb : hitB p over g
      · have := hhit.1; rw [hb] at this; simp; exact fun e => by cases this e
      · simp
    have hv2 : (!decide (hitsV l s p = 0) || !hitB p over g) = true := by
      cases hb : hitB p over g
      · simp
      · have := hhit.2; rw [hb] at this; simp; exact fun e => by cases this e
    have hrch := hT.rch 0 rfl rfl
    have hgut := hT.gut 0 rfl rfl
    refine JC_skip ?_
    refine JE_seq ?_
    refine JC_seq ?_
    refine JC_draw [] (by kernel_rfl) ?_
    refine JA_dt (i := 0) rfl (by kernel_rfl) (by kernel_rfl) rfl rfl (det_loadKA rfl Try.isAgg25 Try.sizeOf25 rfl rfl) ?_
    refine JA_dt (i := 2) rfl (by kernel_rfl) (by kernel_rfl) rfl rfl (det_loadKA rfl Try.isAgg27 Try.sizeOf27 rfl rfl) ?_
    refine JA_dt (i := 4) rfl (by kernel_rfl) (by kernel_rfl) rfl rfl (det_loadKA rfl Try.isAgg25 Try.sizeOf25 rfl rfl) ?_
    refine JA_dt (i := 5) rfl (by kernel_rfl) (by kernel_rfl) rfl rfl (det_loadKA rfl Try.isAgg27 Try.sizeOf27 rfl rfl) ?_
    refine JA_pd (i := 6) rfl (by kernel_rfl) rfl rfl (det_move rfl) ?_
    refine JA_one (i := 1) (by kernel_rfl) rfl rfl (jo_call rfl rfl Try.call19 rfl (lLane_j l ha pa hc pc (by omega) (by omega))) (fun _ => ⟨hsub_drop 0 rfl, fun _ h => h.2⟩) fun x35 => ?_
    refine JA_one (i := 3) (by kernel_rfl) rfl rfl (jo_callv rfl rfl Try.call20 rfl (lStart_j s)) (fun _ => ⟨hsub_refl, fun _ h => h⟩) fun _ => ?_
    -- stop: op  7 t41 := (call (Call (value f48) (t38 t39 t40) (25 27 93)))   <4 5 6 3>   71
    refine JA_one (i := 7) (by kernel_rfl) rfl rfl (jo_call rfl rfl Try.call48 rfl (lPicked_j l s ws ha pa hc pc wa wc V h0 hw)) (fun _ => ⟨hsub_drop 0 rfl, fun _ h => h.2⟩) fun ⟨ka, kc⟩ => ?_
    -- stop: op  8 t42 := (call (Call (value f42) (t35 t37 t41) (37 39 75)))   <1 3 7 7>   71
    refine JA_one (i := 8) (by kernel_rfl) rfl rfl (jo_call rfl rfl Try.call42 rfl (Play_jt x35.1.1 x35.2.1 x35.1.2 x35.2.2 ka kc he hT)) (fun _ => ⟨hsub_drop 0 rfl, fun _ h => h.2⟩) fun ⟨oa, oc⟩ => ?_
    refine JA_pd (i := 9) rfl (by kernel_rfl) rfl rfl (det_move rfl) ?_
    refine JA_pd (i := 10) rfl (by kernel_rfl) rfl rfl (det_extract rfl rfl) ?_
    refine JA_pd (i := 11) rfl (by kernel_rfl) rfl rfl (det_extract rfl rfl) ?_
    refine JA_pd (i := 12) rfl (by kernel_rfl) rfl rfl (det_extract rfl rfl) ?_
    refine JA_pd (i := 13) rfl (by kernel_rfl) rfl rfl (det_assign rfl) ?_
    refine JA_pd (i := 14) rfl (by kernel_rfl) rfl rfl (det_assign rfl) ?_
    refine JA_pd (i := 15) rfl (by kernel_rfl) rfl rfl (det_assign rfl) ?_
    refine JA_done (by kernel_rfl) ?_
    refine JE_seq ?_
    refine JC_seq ?_
    -- stop: draw
    refine JC_cutN (γ := Nat) (fun _ => True) (fun b12 => [(12, pt b12), (13, I 0)]) (fun b12 => [bx b12 [I (turnV l s).lo, I (turnV l s).hi]]) (fun K hK => ?_) (fun b12 _ => ?_)
    · refine JC_draw [9] (by kernel_rfl) ?_
      refine JA_dt (i := 0) rfl (by kernel_rfl) (by kernel_rfl) rfl rfl (det_loadKA rfl Try.isAgg25 Try.sizeOf25 rfl rfl) ?_
      refine JA_dt (i := 2) rfl (by kernel_rfl) (by kernel_rfl) rfl rfl (det_loadKA rfl Try.isAgg27 Try.sizeOf27 rfl rfl) ?_
      refine JA_ready (rs := [1, 8]) (by kernel_rfl) rfl ?_
      refine JAl_cons (i := 1) rfl rfl (jo_call rfl rfl Try.call19 rfl (lLane_j l ha pa hc pc (by omega) (by omega))) (fun _ => ⟨hsub_drop 0 rfl, fun _ h => h.2⟩) (fun x48 => ?_) ?_
      · refine JA_ready (rs := [3, 8]) (by kernel_rfl) rfl ?_
        refine JAl_cons (i := 3) rfl rfl (jo_callv rfl rfl Try.call20 rfl (lStart_j s)) (fun _ => ⟨hsub_refl, fun _ h => h⟩) (fun _ => ?_) ?_
        · refine JA_ready (rs := [4, 8]) (by kernel_rfl) rfl ?_
          refine JAl_cons (i := 4) rfl rfl (jo_callv rfl rfl Try.call25 rfl (Turn_jo l s x48.1.1 x48.2.1 x48.1.2 x48.2.2 he)) (fun _ => ⟨hsub_refl, fun _ h => h⟩) (fun _ => ?_) ?_
          · refine JA_pd (i := 5) rfl (by kernel_rfl) rfl rfl (det_move rfl) ?_
            refine JA_pd (i := 6) rfl (by kernel_rfl) rfl rfl (det_extract rfl rfl) ?_
            refine JA_pd (i := 7) rfl (by kernel_rfl) rfl rfl (det_extract rfl rfl) ?_
            refine JA_one (i := 8) (by kernel_rfl) rfl rfl (jo_alloc0 Try.zeroValue49 rfl) (fun _ => ⟨hsub_drop 1 rfl, fun _ h => h⟩) fun b12 => ?_
            refine JA_tail (i := 9) (by kernel_rfl) rfl rfl rfl rfl (jo_store rfl rfl rfl (by first | (simp only [splice_norm]; done) | (simp only [splice_norm]; rfl) | rfl) Try.sizeOf49 rfl rfl) fun _ => ?_
            refine JT_pd (i := 10) rfl (by kernel_rfl) rfl rfl (det_assign rfl) ?_
            refine JT_done (by kernel_rfl) ?_
            exact JE_cutF hK b12 trivial (stsub_cons rfl (stsub_cons rfl stsub_nil)) (ht_cons ht_nil)
          refine JAl_cons (i := 8) rfl rfl (jo_alloc0 Try.zeroValue49 rfl) (fun _ => ⟨hsub_drop 1 rfl, fun _ h => h⟩) (fun b12 => ?_) ?_
          · refine JA_one (i := 4) (by kernel_rfl) rfl rfl (jo_callv rfl rfl Try.call25 rfl (Turn_jo l s x48.1.1 x48.2.1 x48.1.2 x48.2.2 he)) (fun _ => ⟨hsub_refl, fun _ h => h⟩) fun _ => ?_
            refine JA_pd (i := 5) rfl (by kernel_rfl) rfl rfl (det_move rfl) ?_
            refine JA_pd (i := 6) rfl (by kernel_rfl) rfl rfl (det_extract rfl rfl) ?_
            refine JA_pd (i := 7) rfl (by kernel_rfl) rfl rfl (det_extract rfl rfl) ?_
            refine JA_tail (i := 9) (by kernel_rfl) rfl rfl rfl rfl (jo_store rfl rfl rfl (by first | (simp only [splice_norm]; done) | (simp only [splice_norm]; rfl) | rfl) Try.sizeOf49 rfl rfl) fun _ => ?_
            refine JT_pd (i := 10) rfl (by kernel_rfl) rfl rfl (det_assign rfl) ?_
            refine JT_done (by kernel_rfl) ?_
            exact JE_cutF hK b12 trivial (stsub_cons rfl (stsub_cons rfl stsub_nil)) (ht_cons ht_nil)
          exact JAl_nil
        refine JAl_cons (i := 8) rfl rfl (jo_alloc0 Try.zeroValue49 rfl) (fun _ => ⟨hsub_drop 1 rfl, fun _ h => h⟩) (fun b12 => ?_) ?_
        · refine JA_one (i := 3) (by kernel_rfl) rfl rfl (jo_callv rfl rfl Try.call20 rfl (lStart_j s)) (fun _ => ⟨hsub_refl, fun _ h => h⟩) fun _ => ?_
          refine JA_one (i := 4) (by kernel_rfl) rfl rfl (jo_callv rfl rfl Try.call25 rfl (Turn_jo l s x48.1.1 x48.2.1 x48.1.2 x48.2.2 he)) (fun _ => ⟨hsub_refl, fun _ h => h⟩) fun _ => ?_
          refine JA_pd (i := 5) rfl (by kernel_rfl) rfl rfl (det_move rfl) ?_
          refine JA_pd (i := 6) rfl (by kernel_rfl) rfl rfl (det_extract rfl rfl) ?_
          refine JA_pd (i := 7) rfl (by kernel_rfl) rfl rfl (det_extract rfl rfl) ?_
          refine JA_tail (i := 9) (by kernel_rfl) rfl rfl rfl rfl (jo_store rfl rfl rfl (by first | (simp only [splice_norm]; done) | (simp only [splice_norm]; rfl) | rfl) Try.sizeOf49 rfl rfl) fun _ => ?_
          refine JT_pd (i := 10) rfl (by kernel_rfl) rfl rfl (det_assign rfl) ?_
          refine JT_done (by kernel_rfl) ?_
          exact JE_cutF hK b12 trivial (stsub_cons rfl (stsub_cons rfl stsub_nil)) (ht_cons ht_nil)
        exact JAl_nil
      refine JAl_cons (i := 8) rfl rfl (jo_alloc0 Try.zeroValue49 rfl) (fun _ => ⟨hsub_drop 1 rfl, fun _ h => h⟩) (fun b12 => ?_) ?_
      · refine JA_one (i := 1) (by kernel_rfl) rfl rfl (jo_call rfl rfl Try.call19 rfl (lLane_j l ha pa hc pc (by omega) (by omega))) (fun _ => ⟨hsub_drop 0 rfl, fun _ h => h.2⟩) fun x48 => ?_
        refine JA_one (i := 3) (by kernel_rfl) rfl rfl (jo_callv rfl rfl Try.call20 rfl (lStart_j s)) (fun _ => ⟨hsub_refl, fun _ h => h⟩) fun _ => ?_
        refine JA_one (i := 4) (by kernel_rfl) rfl rfl (jo_callv rfl rfl Try.call25 rfl (Turn_jo l s x48.1.1 x48.2.1 x48.1.2 x48.2.2 he)) (fun _ => ⟨hsub_refl, fun _ h => h⟩) fun _ => ?_
        refine JA_pd (i := 5) rfl (by kernel_rfl) rfl rfl (det_move rfl) ?_
        refine JA_pd (i := 6) rfl (by kernel_rfl) rfl rfl (det_extract rfl rfl) ?_
        refine JA_pd (i := 7) rfl (by kernel_rfl) rfl rfl (det_extract rfl rfl) ?_
        refine JA_tail (i := 9) (by kernel_rfl) rfl rfl rfl rfl (jo_store rfl rfl rfl (by first | (simp only [splice_norm]; done) | (simp only [splice_norm]; rfl) | rfl) Try.sizeOf49 rfl rfl) fun _ => ?_
        refine JT_pd (i := 10) rfl (by kernel_rfl) rfl rfl (det_assign rfl) ?_
        refine JT_done (by kernel_rfl) ?_
        exact JE_cutF hK b12 trivial (stsub_cons rfl (stsub_cons rfl stsub_nil)) (ht_cons ht_nil)
      exact JAl_nil
    dsimp only [List.cons_append, List.nil_append]
    refine JC_seq ?_
    refine JC_draw [] (by kernel_rfl) ?_
    refine JA_dt (i := 0) rfl (by kernel_rfl) (by kernel_rfl) rfl rfl (det_loadKA rfl Try.isAgg25 Try.sizeOf25 rfl rfl) ?_
    refine JA_dt (i := 2) rfl (by kernel_rfl) (by kernel_rfl) rfl rfl (det_loadKA rfl Try.isAgg27 Try.sizeOf27 rfl rfl) ?_
    refine JA_dt (i := 4) rfl (by kernel_rfl) (by kernel_rfl) rfl rfl (det_loadKA rfl Try.isAgg57 Try.sizeOf57 rfl rfl) ?_
    refine JA_one (i := 1) (by kernel_rfl) rfl rfl (jo_call rfl rfl Try.call19 rfl (lLane_j l ha pa hc pc (by omega) (by omega))) (fun _ => ⟨hsub_drop 0 rfl, fun _ h => h.2⟩) fun x56 => ?_
    refine JA_one (i := 3) (by kernel_rfl) rfl rfl (jo_callv rfl rfl Try.call20 rfl (lStart_j s)) (fun _ => ⟨hsub_refl, fun _ h => h⟩) fun _ => ?_
    refine JA_one (i := 5) (by kernel_rfl) rfl rfl (jo_callv rfl rfl Try.call30 rfl (lPocket_j p)) (fun _ => ⟨hsub_refl, fun _ h => h⟩) fun _ => ?_
    -- stop: op  6 t61 := (call (Call (value f45) (t56 t58 t60) (37 39 62)))   <1 3 5 5>   73
    refine JA_one (i := 6) (by kernel_rfl) rfl rfl (jo_callv rfl rfl Try.call45 rfl (Hits_jo l s p x56.1.1 x56.2.1 x56.1.2 x56.2.2 heh)) (fun _ => ⟨hsub_refl, fun _ h => h⟩) fun _ => ?_
    refine JA_pd (i := 7) rfl (by kernel_rfl) rfl rfl (det_move rfl) ?_
    refine JA_pd (i := 8) rfl (by kernel_rfl) rfl rfl (det_extract rfl rfl) ?_
    refine JA_pd (i := 9) rfl (by kernel_rfl) rfl rfl (det_extract rfl rfl) ?_
    refine JA_pd (i := 10) rfl (by kernel_rfl) rfl rfl (det_assign rfl) ?_
    refine JA_pd (i := 11) rfl (by kernel_rfl) rfl rfl (det_assign rfl) ?_
    refine JA_done (by kernel_rfl) ?_
    refine JE_seq ?_
    refine JC_seq ?_
    refine JC_seq ?_
    refine JC_region ?_
    refine JL_pd rfl (det_move rfl) ?_
    refine JL_pd rfl (det_neq rfl rfl) ?_
    refine JL_pd rfl (det_move rfl) ?_
    -- stop: guard 2
    refine JL_join1 21 87 (.bool false) (fun hj => ?_) ?_
    · refine JL_split (d0 := 66) rfl (fun q2 => ?_) (fun q2 => ?_)
      · refine JL_skip rfl rfl q2 rfl ?_
        refine JL_skip rfl rfl q2 rfl ?_
        refine JL_pd rfl (det_pick_t rfl q2 rfl) ?_
        refine JL_pd rfl (det_move rfl) ?_
        refine JL_skip rfl rfl rfl rfl ?_
        refine JL_skip rfl rfl rfl rfl ?_
        refine JL_pd rfl (det_pick_t rfl rfl rfl) ?_
        refine JL_pd rfl (det_move rfl) ?_
        refine JL_skip rfl rfl rfl rfl ?_
        refine JL_skip rfl rfl rfl rfl ?_
        refine JL_skip rfl rfl rfl rfl ?_
        refine JL_pd rfl (det_pick_t rfl rfl rfl) ?_
        refine JL_pd rfl (det_move rfl) ?_
        refine JL_skip rfl rfl rfl rfl ?_
        refine JL_skip rfl rfl rfl rfl ?_
        refine JL_skip rfl rfl rfl rfl ?_
        refine JL_skip rfl rfl rfl rfl ?_
        refine JL_skip rfl rfl rfl rfl ?_
        refine JL_skip rfl rfl rfl rfl ?_
        refine JL_skip rfl rfl rfl rfl ?_
        refine JL_pd rfl (det_pick_t rfl rfl rfl) ?_
        exact hj (by kernel_rfl) (stsub_consB rfl (by clear hj; first | rfl | (simp only [hgl, hne, q2, Bool.and_true, Bool.true_and, Bool.false_and, Bool.and_false, Bool.or_true, Bool.true_or, Bool.or_false, Bool.false_or, Bool.not_true, Bool.not_false]; done) | (simp [hgl, hne, q2]; done) | (simp [hgl, hne] at q2; done) | (simp [hgl, hne, q2] <;> omega) | (exfalso; simp [hgl, hne] at q2; omega) | (simp [q2] at hgl; done) | (simp [q2] at hne; done)) stsub_nil)
      · refine JL_guard rfl rfl q2 ?_
        refine JL_pd rfl (det_move rfl) ?_
        refine JL_guard rfl rfl q2 ?_
        refine JL_pd rfl (det_neq rfl rfl) ?_
        refine JL_pd rfl (det_pick_f rfl q2 rfl) ?_
        refine JL_pd rfl (det_move rfl) ?_
        refine JL_split (d0 := 70) rfl (fun q3 => ?_) (fun q3 => ?_)
        · refine JL_skip rfl rfl q3 rfl ?_
          refine JL_skip rfl rfl q3 rfl ?_
          refine JL_pd rfl (det_pick_t rfl q3 rfl) ?_
          refine JL_pd rfl (det_move rfl) ?_
          refine JL_skip rfl rfl rfl rfl ?_
          refine JL_skip rfl rfl rfl rfl ?_
          refine JL_skip rfl rfl rfl rfl ?_
          refine JL_pd rfl (det_pick_t rfl rfl rfl) ?_
          refine JL_pd rfl (det_move rfl) ?_
          refine JL_skip rfl rfl rfl rfl ?_
          refine JL_skip rfl rfl rfl rfl ?_
          refine JL_skip rfl rfl rfl rfl ?_
          refine JL_skip rfl rfl rfl rfl ?_
          refine JL_skip rfl rfl rfl rfl ?_
          refine JL_skip rfl rfl rfl rfl ?_
          refine JL_skip rfl rfl rfl rfl ?_
          refine JL_pd rfl (det_pick_t rfl rfl rfl) ?_
          exact hj (by kernel_rfl) (stsub_consB rfl (by clear hj; first | rfl | (simp only [hgl, hne, q2, q3, Bool.and_true, Bool.true_and, Bool.false_and, Bool.and_false, Bool.or_true, Bool.true_or, Bool.or_false, Bool.false_or, Bool.not_true, Bool.not_false]; done) | (simp [hgl, hne, q2, q3]; done) | (simp [hgl, hne] at q2; done) | (simp [hgl, hne] at q3; done) | (simp [hgl, hne, q2, q3] <;> omega) | (exfalso; simp [hgl, hne] at q2 q3; omega) | (simp [q2, q3] at hgl; done) | (simp [q2, q3] at hne; done)) stsub_nil)
        · refine JL_guard rfl rfl q3 ?_
          refine JL_pd rfl (det_move rfl) ?_
          refine JL_guard rfl rfl q3 ?_
          refine JL_pd rfl (det_neq rfl rfl) ?_
          refine JL_pd rfl (det_pick_f rfl q3 rfl) ?_
          refine JL_pd rfl (det_move rfl) ?_
          refine JL_split (d0 := 74) rfl (fun q4 => ?_) (fun q4 => ?_)
          · refine JL_skip rfl rfl q4 rfl ?_
            refine JL_skip rfl rfl q4 rfl ?_
            refine JL_skip rfl rfl q4 rfl ?_
            refine JL_pd rfl (det_pick_t rfl q4 rfl) ?_
            refine JL_pd rfl (det_move rfl) ?_
            refine JL_skip rfl rfl rfl rfl ?_
            refine JL_skip rfl rfl rfl rfl ?_
            refine JL_skip rfl rfl rfl rfl ?_
            refine JL_skip rfl rfl rfl rfl ?_
            refine JL_skip rfl rfl rfl rfl ?_
            refine JL_skip rfl rfl rfl rfl ?_
            refine JL_skip rfl rfl rfl rfl ?_
            refine JL_pd rfl (det_pick_t rfl rfl rfl) ?_
            exact hj (by kernel_rfl) (stsub_consB rfl (by clear hj; first | rfl | (simp only [hgl, hne, q2, q3, q4, Bool.and_true, Bool.true_and, Bool.false_and, Bool.and_false, Bool.or_true, Bool.true_or, Bool.or_false, Bool.false_or, Bool.not_true, Bool.not_false]; done) | (simp [hgl, hne, q2, q3, q4]; done) | (simp [hgl, hne] at q2; done) | (simp [hgl, hne] at q3; done) | (simp [hgl, hne] at q4; done) | (simp [hgl, hne, q2, q3, q4] <;> omega) | (exfalso; simp [hgl, hne] at q2 q3 q4; omega) | (simp [q2, q3, q4] at hgl; done) | (simp [q2, q3, q4] at hne; done)) stsub_nil)
          · refine JL_guard rfl rfl q4 ?_
            refine JL_pd rfl (det_move rfl) ?_
            refine JL_guard rfl rfl q4 ?_
            refine JL_pd rfl (det_len rfl Try.runUnderlying30) ?_
            refine JL_guard rfl rfl q4 ?_
            refine JL_pd rfl (det_eql rfl rfl) ?_
            refine JL_pd rfl (det_pick_f rfl q4 rfl) ?_
            refine JL_pd rfl (det_move rfl) ?_
            refine JL_split (d0 := 79) rfl (fun q5 => ?_) (fun q5 => ?_)
            · refine JL_skip rfl rfl q5 rfl ?_
              refine JL_skip rfl rfl q5 rfl ?_
              refine JL_skip rfl rfl q5 rfl ?_
              refine JL_skip rfl rfl q5 rfl ?_
              refine JL_skip rfl rfl q5 rfl ?_
              refine JL_skip rfl rfl q5 rfl ?_
              refine JL_skip rfl rfl q5 rfl ?_
              refine JL_pd rfl (det_pick_t rfl q5 rfl) ?_
              exact hj (by kernel_rfl) (stsub_consB rfl (by clear hj; first | rfl | (simp only [hgl, hne, q2, q3, q4, q5, Bool.and_true, Bool.true_and, Bool.false_and, Bool.and_false, Bool.or_true, Bool.true_or, Bool.or_false, Bool.false_or, Bool.not_true, Bool.not_false]; done) | (simp [hgl, hne, q2, q3, q4, q5]; done) | (simp [hgl, hne] at q2; done) | (simp [hgl, hne] at q3; done) | (simp [hgl, hne] at q4; done) | (simp [hgl, hne] at q5; done) | (simp [hgl, hne, q2, q3, q4, q5] <;> omega) | (exfalso; simp [hgl, hne] at q2 q3 q4 q5; omega) | (simp [q2, q3, q4, q5] at hgl; done) | (simp [q2, q3, q4, q5] at hne; done)) stsub_nil)
            · refine JL_guard rfl rfl q5 ?_
              refine JL_pd rfl (det_move rfl) ?_
              refine JL_guard rfl rfl q5 ?_
              refine JL_pd rfl (det_move rfl) ?_
              refine JL_guard rfl rfl q5 ?_
              refine JL_pd rfl (det_len rfl Try.runUnderlying30) ?_
              refine JL_guard rfl rfl q5 ?_
              refine JL_pd rfl (det_fieldAddr rfl fo_25_1) ?_
              refine JL_guard rfl rfl q5 ?_
              refine JL_dt rfl (det_loadK rfl Try.isAgg3 rfl) ?_
              refine JL_guard rfl rfl q5 ?_
              refine JL_pd rfl (det_lss rfl rfl) ?_
              refine JL_guard rfl rfl q5 ?_
              refine JL_pd rfl (det_neqB rfl rfl Try.underlying4) ?_
              refine JL_pd rfl (det_pick_f rfl q5 rfl) ?_
              exact hj (by kernel_rfl) (stsub_consB rfl (by clear hj; first | rfl | (simp only [hgl, hne, q2, q3, q4, q5, Bool.and_true, Bool.true_and, Bool.false_and, Bool.and_false, Bool.or_true, Bool.true_or, Bool.or_false, Bool.false_or, Bool.not_true, Bool.not_false]; done) | (simp [hgl, hne, q2, q3, q4, q5]; done) | (simp [hgl, hne] at q2; done) | (simp [hgl, hne] at q3; done) | (simp [hgl, hne] at q4; done) | (simp [hgl, hne] at q5; done) | (simp [hgl, hne, q2, q3, q4, q5] <;> omega) | (exfalso; simp [hgl, hne] at q2 q3 q4 q5; omega) | (simp [q2, q3, q4, q5] at hgl; done) | (simp [q2, q3, q4, q5] at hne; done)) stsub_nil)
    refine JL_nil ?_
    refine JE_seq ?_
    refine JC_condF rfl rfl ?_
    refine JC_skip ?_
    refine JE_seq ?_
    refine JC_seq ?_
    refine JC_region ?_
    refine JL_pd rfl (det_assign rfl) ?_
    refine JL_nil ?_
    refine JE_seq ?_
    refine JC_seq ?_
    refine JC_seq ?_
    refine JC_region ?_
    refine JL_pd rfl (det_assign rfl) ?_
    refine JL_nil ?_
    refine JE_seq ?_
    refine JC_block ?_
    -- stop: loop
    · skip
      refine JC_loopF (γ := Nat) (fun i => (i : Int) ≤ l.rows) (fun i => [(17, I i), (16, I (maxB (over.take i)))]) (fun _ => []) (fun i => (l.rows - i).toNat) 0 (by omega) (stsub_cons rfl (stsub_cons rfl stsub_nil)) ht_nil ?_
      intro i hi K hK
      dsimp only [List.cons_append, List.nil_append]
      refine JC_seq ?_
      refine JC_seq ?_
      refine JC_region ?_
      refine JL_pd rfl (det_move rfl) ?_
      refine JL_pd rfl (det_fieldAddr rfl fo_25_1) ?_
      refine JL_dt rfl (det_loadK rfl Try.isAgg3 rfl) ?_
      refine JL_pd rfl (det_lss rfl rfl) ?_
      refine JL_nil ?_
      refine JE_seq ?_
      -- stop: cond
      refine JC_if rfl (fun h3 => ?_) (fun h3 => ?_)
      · refine JC_skip ?_
        refine JE_seq ?_
        refine JC_seq ?_
        refine JC_block ?_
        refine JC_seq ?_
        refine JC_draw [] (by kernel_rfl) ?_
        refine JA_dt (i := 0) rfl (by kernel_rfl) (by kernel_rfl) rfl rfl (det_loadKA rfl Try.isAgg25 Try.sizeOf25 rfl rfl) ?_
        refine JA_dt (i := 2) rfl (by kernel_rfl) (by kernel_rfl) rfl rfl (det_loadKA rfl Try.isAgg27 Try.sizeOf27 rfl rfl) ?_
        refine JA_pd (i := 4) rfl (by kernel_rfl) rfl rfl (det_move rfl) ?_
        refine JA_one (i := 1) (by kernel_rfl) rfl rfl (jo_call rfl rfl Try.call19 rfl (lLane_j l ha pa hc pc (by omega) (by omega))) (fun _ => ⟨hsub_drop 0 rfl, fun _ h => h.2⟩) fun x96 => ?_
        refine JA_one (i := 3) (by kernel_rfl) rfl rfl (jo_callv rfl rfl Try.call20 rfl (lStart_j s)) (fun _ => ⟨hsub_refl, fun _ h => h⟩) fun _ => ?_
        -- stop: op  5 t100 := (call (Call (value f18) (t96 t98 t99) (37 39 3)))   <1 3 4 3>   79
        refine JA_one (i := 5) (by kernel_rfl) rfl rfl (jo_call rfl rfl Try.call18 rfl (Reach_jo l s i x96.1.1 x96.2.1 x96.1.2 x96.2.2 he h3)) (fun _ => ⟨hsub_drop 0 rfl, fun _ h => h.2⟩) fun ⟨ra, rc⟩ => ?_
        refine JA_pd (i := 6) rfl (by kernel_rfl) rfl rfl (det_move rfl) ?_
        refine JA_pd (i := 7) rfl (by kernel_rfl) rfl rfl (det_extract rfl rfl) ?_
        refine JA_pd (i := 8) rfl (by kernel_rfl) rfl rfl (det_extract rfl rfl) ?_
        refine JA_pd (i := 9) rfl (by kernel_rfl) rfl rfl (det_extract rfl rfl) ?_
        refine JA_pd (i := 10) rfl (by kernel_rfl) rfl rfl (det_assign rfl) ?_
        refine JA_pd (i := 11) rfl (by kernel_rfl) rfl rfl (det_assign rfl) ?_
        refine JA_pd (i := 12) rfl (by kernel_rfl) rfl rfl (det_assign rfl) ?_
        refine JA_done (by kernel_rfl) ?_
        refine JE_seq ?_
        refine JC_seq ?_
        refine JC_seq ?_
        refine JC_region ?_
        refine JL_pd rfl (det_move rfl) ?_
        refine JL_pd rfl (det_neq rfl rfl) ?_
        refine JL_nil ?_
        refine JE_seq ?_
        -- stop: cond
        have hRl := rowL_len l s i V
        refine JC_ifn rfl (fun h4 => ?_) (fun h4 => ?_)
        · exact absurd rfl h4
        · refine JC_skip ?_
          refine JE_seq ?_
          refine JC_seq ?_
          refine JC_seq ?_
          refine JC_region ?_
          refine JL_pd rfl (det_move rfl) ?_
          refine JL_pd rfl (det_move rfl) ?_
          refine JL_pd rfl (det_len rfl Try.runUnderlying30) ?_
          refine JL_pd rfl (det_geq rfl rfl) ?_
          refine JL_nil ?_
          refine JE_seq ?_
          -- stop: cond
          refine JC_if rfl (fun h5 => ?_) (fun h5 => ?_)
          · have h5b : over.length ≤ i := by omega
            have hgt : g = true := by rw [hgl]; simp; omega
            have hv : rowV l s i ≠ 0 := by
              unfold rowV
              have : (List.range i).any (gutB l s) = true := by
                rw [List.any_eq_true]
                exact ⟨over.length - 1, by simp; omega, (gutB_iff V h0).2 (by have := hgut hgt; rwa [Nat.zero_add] at this)⟩
              rw [this]
              split <;> simp
            refine JC_seq ?_
            refine JC_seq ?_
            refine JC_region ?_
            refine JL_pd rfl (det_move rfl) ?_
            refine JL_pd rfl (det_eql rfl rfl) ?_
            refine JL_nil ?_
            refine JE_seq ?_
            -- stop: cond
            refine JC_if rfl (fun h6 => ?_) (fun h6 => ?_)
            · exact absurd h6 hv
            · refine JC_skip ?_
              refine JE_seq ?_
              refine JC_exit ?_
              refine JE_seq_exit ?_
              refine JE_block_here ?_
              refine JE_seq ?_
              refine JC_region ?_
              refine JL_pd rfl (det_move rfl) ?_
              refine JL_pd rfl (det_add rfl rfl ⟨by omega, by omega⟩) ?_
              refine JL_pd rfl (det_assign rfl) ?_
              refine JL_nil ?_
              -- stop: end
              refine JE_roundF hK (i + 1) (by omega) (by omega) (stsub_consI rfl (by omega) (stsub_consI rfl (by rw [List.take_of_length_le h5b, List.take_of_length_le (by omega)]) stsub_nil)) ht_nil
          · have h5b : i < over.length := by omega
            have hx : over[i] ∈ rowL l s i := (mem_rowL V h0).2 (by have := hrch i over[i] (List.getElem?_eq_getElem h5b); rwa [Nat.zero_add] at this)
            have hv : rowV l s i ≠ 2 := fun e => by
              rw [rowV_two] at e
              rw [List.eq_nil_of_length_eq_zero e] at hx
              cases hx
            refine JC_skip ?_
            refine JE_seq ?_
            refine JC_seq ?_
            refine JC_seq ?_
            refine JC_region ?_
            refine JL_pd rfl (det_move rfl) ?_
            refine JL_pd rfl (det_move rfl) ?_
            refine JL_pd rfl (det_move rfl) ?_
            refine JL_dt rfl (det_indexAddr rfl rfl (by first | rfl | omega) (by first | assumption | omega | decide) Try.runUnderlying30 Try.sizeOf39) ?_
            refine JL_dt rfl (det_loadEA rfl (by first | assumption | omega | decide) Try.isAgg39 Try.sizeOf39 rfl rfl rfl) ?_
            -- stop: op  5 t117 := (call (Call (value f46) (t112 t116) (30 39)))   <0 4>   89
            refine JL_step rfl rfl rfl (jo_callv rfl rfl Try.call46 rfl (lhas_j (rowL l s i) ra rc over[i] (by omega))) fun _ => ?_
            refine JL_pd rfl (det_not rfl) ?_
            refine JL_pd rfl (det_move rfl) ?_
            -- stop: guard 7
            refine JL_join1 3 122 (.bool false) (fun hj => ?_) ?_
            · refine JL_split (d0 := 119) rfl (fun q6 => ?_) (fun q6 => ?_)
              · refine JL_skip rfl rfl q6 rfl ?_
                refine JL_skip rfl rfl q6 rfl ?_
                refine JL_pd rfl (det_pick_t rfl q6 rfl) ?_
                exact hj (by kernel_rfl) (stsub_consB rfl (by clear hj; first | rfl | (simp only [hx, hv, q6, Bool.and_true, Bool.true_and, Bool.false_and, Bool.and_false, Bool.or_true, Bool.true_or, Bool.or_false, Bool.false_or, Bool.not_true, Bool.not_false]; done) | (simp [hx, hv, q6]; done) | (simp [hx, hv] at q6; done) | (simp [hx, hv, q6] <;> omega) | (exfalso; simp [hx, hv] at q6; omega) | (simp [q6] at hx; done) | (simp [q6] at hv; done)) stsub_nil)
              · refine JL_guard rfl rfl q6 ?_
                refine JL_pd rfl (det_move rfl) ?_
                refine JL_guard rfl rfl q6 ?_
                refine JL_pd rfl (det_eql rfl rfl) ?_
                refine JL_pd rfl (det_pick_f rfl q6 rfl) ?_
                exact hj (by kernel_rfl) (stsub_consB rfl (by clear hj; first | rfl | (simp only [hx, hv, q6, Bool.and_true, Bool.true_and, Bool.false_and, Bool.and_false, Bool.or_true, Bool.true_or, Bool.or_false, Bool.false_or, Bool.not_true, Bool.not_false]; done) | (simp [hx, hv, q6]; done) | (simp [hx, hv] at q6; done) | (simp [hx, hv, q6] <;> omega) | (exfalso; simp [hx, hv] at q6; omega) | (simp [q6] at hx; done) | (simp [q6] at hv; done)) stsub_nil)
            refine JL_nil ?_
            refine JE_seq ?_
            refine JC_condF rfl rfl ?_
            refine JC_skip ?_
            refine JE_seq ?_
            refine JC_region ?_
            refine JL_pd rfl (det_move rfl) ?_
            refine JL_pd rfl (det_move rfl) ?_
            refine JL_pd rfl (det_move rfl) ?_
            refine JL_dt rfl (det_indexAddr rfl rfl (by first | rfl | omega) (by first | assumption | omega | decide) Try.runUnderlying30 Try.sizeOf39) ?_
            refine JL_pd rfl (det_fieldAddrE rfl fo_39_0) ?_
            refine JL_dt rfl (det_loadEk rfl (by first | assumption | omega | decide) Try.isAgg3 rfl rfl) ?_
            refine JL_pd rfl (det_max rfl rfl) ?_
            refine JL_pd rfl (det_assign rfl) ?_
            refine JL_nil ?_
            refine JE_block ?_
            refine JE_seq ?_
            refine JC_region ?_
            refine JL_pd rfl (det_move rfl) ?_
            refine JL_pd rfl (det_add rfl rfl ⟨by omega, by omega⟩) ?_
            refine JL_pd rfl (det_assign rfl) ?_
            refine JL_nil ?_
            -- stop: end
            · refine JE_roundF hK (i + 1) (by omega) (by omega) (stsub_consI rfl (by omega) (stsub_consI rfl (by rw [take_snoc h5b, maxB_snoc]) stsub_nil)) ht_nil
      · have hie : (i : Int) = l.rows := by omega
        have htk : over.take i = over := List.take_of_length_le (by cases g with | false => have := ol2 rfl; omega | true => have := ol3 rfl; omega)
        rw [htk]
        clear hK
        have hH := hitB_idx p over g (over.length - 1) (by omega) (by omega)
        refine JC_exit ?_
        refine JE_seq_exit ?_
        refine JE_then_exit ?_
        refine JE_block_here ?_
        refine JE_seq ?_
        refine JC_seq ?_
        refine JC_region ?_
        refine JL_pd rfl (det_move rfl) ?_
        refine JL_pd rfl (det_move rfl) ?_
        refine JL_pd rfl (det_len rfl Try.runUnderlying30) ?_
        refine JL_pd rfl (det_sub rfl rfl ⟨by omega, by omega⟩) ?_
        -- stop: op  4 t134 := (indexAddr 30 t130 t133)   <0 3>   94
        refine JL_dt rfl (det_indexAddr (i := over.length - 1) rfl rfl (by omega) (by omega) Try.runUnderlying30 Try.sizeOf39) ?_
        refine JL_dt rfl (det_loadEA rfl (by first | assumption | omega | decide) Try.isAgg39 Try.sizeOf39 rfl rfl rfl) ?_
        refine JL_step rfl rfl rfl (jo_alloc0 Try.zeroValue39 rfl) fun b21 => ?_
        refine JL_step0 rfl rfl (jo_store rfl rfl rfl (by first | (simp only [splice_norm]; done) | (simp only [splice_norm]; rfl) | rfl) Try.sizeOf39 rfl rfl) fun _ => ?_
        refine JL_nil ?_
        refine JE_seq ?_
        refine JC_seq ?_
        refine JC_region ?_
        refine JL_pd rfl (det_move rfl) ?_
        refine JL_pd rfl (det_not rfl) ?_
        refine JL_pd rfl (det_move rfl) ?_
        -- stop: guard 2
        refine JL_join1 22 22 (.bool (hitB p over g)) (fun hj => ?_) ?_
        · refine JL_split (d0 := 138) rfl (fun q7 => ?_) (fun q7 => ?_)
          · refine JL_guard rfl rfl q7 ?_
            refine JL_pd rfl (det_fieldAddr rfl fo_39_0) ?_
            refine JL_guard rfl rfl q7 ?_
            refine JL_dt rfl (det_loadK rfl Try.isAgg3 rfl) ?_
            refine JL_guard rfl rfl q7 ?_
            refine JL_pd rfl (det_fieldAddr rfl fo_57_0) ?_
            refine JL_guard rfl rfl q7 ?_
            refine JL_pd rfl (det_fieldAddr rfl fo_53_0) ?_
            refine JL_guard rfl rfl q7 ?_
            refine JL_dt rfl (det_loadK rfl Try.isAgg3 rfl) ?_
            refine JL_guard rfl rfl q7 ?_
            refine JL_pd rfl (det_fieldAddr rfl fo_57_0) ?_
            refine JL_guard rfl rfl q7 ?_
            refine JL_pd rfl (det_fieldAddr rfl fo_53_1) ?_
            refine JL_guard rfl rfl q7 ?_
            refine JL_dt rfl (det_loadK rfl Try.isAgg3 rfl) ?_
            refine JL_guard rfl rfl q7 ?_
            refine JL_step rfl rfl rfl (jo_callv rfl rfl Try.call22 rfl (rIn_j _ _ _)) fun _ => ?_
            refine JL_pd rfl (det_pick_t rfl q7 rfl) ?_
            refine JL_pd rfl (det_move rfl) ?_
            refine JL_split (d0 := 149) rfl (fun q8 => ?_) (fun q8 => ?_)
            · refine JL_guard rfl rfl q8 ?_
              refine JL_pd rfl (det_fieldAddr rfl fo_39_1) ?_
              refine JL_guard rfl rfl q8 ?_
              refine JL_dt rfl (det_loadK rfl Try.isAgg3 rfl) ?_
              refine JL_guard rfl rfl q8 ?_
              refine JL_pd rfl (det_fieldAddr rfl fo_57_1) ?_
              refine JL_guard rfl rfl q8 ?_
              refine JL_pd rfl (det_fieldAddr rfl fo_53_0) ?_
              refine JL_guard rfl rfl q8 ?_
              refine JL_dt rfl (det_loadK rfl Try.isAgg3 rfl) ?_
              refine JL_guard rfl rfl q8 ?_
              refine JL_pd rfl (det_fieldAddr rfl fo_57_1) ?_
              refine JL_guard rfl rfl q8 ?_
              refine JL_pd rfl (det_fieldAddr rfl fo_53_1) ?_
              refine JL_guard rfl rfl q8 ?_
              refine JL_dt rfl (det_loadK rfl Try.isAgg3 rfl) ?_
              refine JL_guard rfl rfl q8 ?_
              refine JL_step rfl rfl rfl (jo_callv rfl rfl Try.call22 rfl (rIn_j _ _ _)) fun _ => ?_
              refine JL_pd rfl (det_pick_t rfl q8 rfl) ?_
              refine JL_pd rfl (det_assign rfl) ?_
              exact hj (by kernel_rfl) (stsub_consB rfl (by clear hj; first | rfl | (simp only [hH, inR, q7, q8, Bool.and_true, Bool.true_and, Bool.false_and, Bool.and_false, Bool.or_true, Bool.true_or, Bool.or_false, Bool.false_or, Bool.not_true, Bool.not_false]; done) | (simp [hH, inR, q7, q8]; done) | (simp [hH, inR] at q7; done) | (simp [hH, inR] at q8; done) | (simp [hH, inR, q7, q8] <;> omega) | (exfalso; simp [hH, inR] at q7 q8; omega) | (simp [q7, q8] at hH; done)) stsub_nil)
            · refine JL_skip rfl rfl q8 rfl ?_
              refine JL_skip rfl rfl q8 rfl ?_
              refine JL_skip rfl rfl q8 rfl ?_
              refine JL_skip rfl rfl q8 rfl ?_
              refine JL_skip rfl rfl q8 rfl ?_
              refine JL_skip rfl rfl q8 rfl ?_
              refine JL_skip rfl rfl q8 rfl ?_
              refine JL_skip rfl rfl q8 rfl ?_
              refine JL_skip rfl rfl q8 rfl ?_
              refine JL_pd rfl (det_pick_f rfl q8 rfl) ?_
              refine JL_pd rfl (det_assign rfl) ?_
              exact hj (by kernel_rfl) (stsub_consB rfl (by clear hj; first | rfl | (simp only [hH, inR, q7, q8, Bool.and_true, Bool.true_and, Bool.false_and, Bool.and_false, Bool.or_true, Bool.true_or, Bool.or_false, Bool.false_or, Bool.not_true, Bool.not_false]; done) | (simp [hH, inR, q7, q8]; done) | (simp [hH, inR] at q7; done) | (simp [hH, inR] at q8; done) | (simp [hH, inR, q7, q8] <;> omega) | (exfalso; simp [hH, inR] at q7 q8; omega) | (simp [q7, q8] at hH; done)) stsub_nil)
          · refine JL_skip rfl rfl q7 rfl ?_
            refine JL_skip rfl rfl q7 rfl ?_
            refine JL_skip rfl rfl q7 rfl ?_
            refine JL_skip rfl rfl q7 rfl ?_
            refine JL_skip rfl rfl q7 rfl ?_
            refine JL_skip rfl rfl q7 rfl ?_
            refine JL_skip rfl rfl q7 rfl ?_
            refine JL_skip rfl rfl q7 rfl ?_
            refine JL_skip rfl rfl q7 rfl ?_
            refine JL_pd rfl (det_pick_f rfl q7 rfl) ?_
            refine JL_pd rfl (det_move rfl) ?_
            refine JL_skip rfl rfl rfl rfl ?_
            refine JL_skip rfl rfl rfl rfl ?_
            refine JL_skip rfl rfl rfl rfl ?_
            refine JL_skip rfl rfl rfl rfl ?_
            refine JL_skip rfl rfl rfl rfl ?_
            refine JL_skip rfl rfl rfl rfl ?_
            refine JL_skip rfl rfl rfl rfl ?_
            refine JL_skip rfl rfl rfl rfl ?_
            refine JL_skip rfl rfl rfl rfl ?_
            refine JL_pd rfl (det_pick_f rfl rfl rfl) ?_
            refine JL_pd rfl (det_assign rfl) ?_
            exact hj (by kernel_rfl) (stsub_consB rfl (by clear hj; first | rfl | (simp only [hH, inR, q7, Bool.and_true, Bool.true_and, Bool.false_and, Bool.and_false, Bool.or_true, Bool.true_or, Bool.or_false, Bool.false_or, Bool.not_true, Bool.not_false]; done) | (simp [hH, inR, q7]; done) | (simp [hH, inR] at q7; done) | (simp [hH, inR, q7] <;> omega) | (exfalso; simp [hH, inR] at q7; omega) | (simp [q7] at hH; done)) stsub_nil)
        refine JL_nil ?_
        refine JE_seq ?_
        refine JC_seq ?_
        refine JC_region ?_
        refine JL_pd rfl (det_move rfl) ?_
        refine JL_pd rfl (det_fieldAddr rfl fo_49_0) ?_
        refine JL_dt rfl (det_loadK rfl Try.isAgg3 rfl) ?_
        refine JL_pd rfl (det_geq rfl rfl) ?_
        refine JL_pd rfl (det_move rfl) ?_
        -- stop: guard 4
        refine JL_join1 24 8 (.bool true) (fun hj => ?_) ?_
        · refine JL_split (d0 := 164) rfl (fun q9 => ?_) (fun q9 => ?_)
          · refine JL_guard rfl rfl q9 ?_
            refine JL_pd rfl (det_move rfl) ?_
            refine JL_guard rfl rfl q9 ?_
            refine JL_pd rfl (det_fieldAddr rfl fo_49_1) ?_
            refine JL_guard rfl rfl q9 ?_
            refine JL_dt rfl (det_loadK rfl Try.isAgg3 rfl) ?_
            refine JL_guard rfl rfl q9 ?_
            refine JL_pd rfl (det_leq rfl rfl) ?_
            refine JL_pd rfl (det_pick_t rfl q9 rfl) ?_
            refine JL_pd rfl (det_move rfl) ?_
            refine JL_split (d0 := 170) rfl (fun q10 => ?_) (fun q10 => ?_)
            · refine JL_guard rfl rfl q10 ?_
              refine JL_pd rfl (det_move rfl) ?_
              refine JL_guard rfl rfl q10 ?_
              refine JL_pd rfl (det_neq rfl rfl) ?_
              refine JL_guard rfl rfl q10 ?_
              refine JL_pd rfl (det_move rfl) ?_
              refine JL_split (d0 := 173) rfl (fun q11 => ?_) (fun q11 => ?_)
              · refine JL_skip rfl rfl q11 rfl ?_
                refine JL_guard rfl rfl q10 ?_
                refine JL_pd rfl (det_pick_t rfl q11 rfl) ?_
                refine JL_pd rfl (det_pick_t rfl q10 rfl) ?_
                refine JL_pd rfl (det_move rfl) ?_
                refine JL_guard rfl rfl rfl ?_
                refine JL_pd rfl (det_move rfl) ?_
                refine JL_guard rfl rfl rfl ?_
                refine JL_pd rfl (det_neq rfl rfl) ?_
                refine JL_guard rfl rfl rfl ?_
                refine JL_pd rfl (det_move rfl) ?_
                refine JL_split (d0 := 180) rfl (fun q12 => ?_) (fun q12 => ?_)
                · refine JL_skip rfl rfl q12 rfl ?_
                  refine JL_skip rfl rfl q12 rfl ?_
                  refine JL_guard rfl rfl rfl ?_
                  refine JL_pd rfl (det_pick_t rfl q12 rfl) ?_
                  refine JL_pd rfl (det_pick_t rfl rfl rfl) ?_
                  refine JL_pd rfl (det_move rfl) ?_
                  refine JL_guard rfl rfl rfl ?_
                  refine JL_step rfl rfl rfl (jo_callv rfl rfl Try.call17 rfl (lawake_j)) fun _ => ?_
                  refine JL_pd rfl (det_pick_t rfl rfl rfl) ?_
                  refine JL_pd rfl (det_assign rfl) ?_
                  exact hj (by kernel_rfl) (stsub_consB rfl (by clear hj; first | rfl | (simp only [hmax.1, hmax.2, hv1, hv2, q9, q10, q11, q12, Bool.and_true, Bool.true_and, Bool.false_and, Bool.and_false, Bool.or_true, Bool.true_or, Bool.or_false, Bool.false_or, Bool.not_true, Bool.not_false]; done) | (simp [hmax.1, hmax.2, hv1, hv2, q9, q10, q11, q12]; done) | (simp [hmax.1, hmax.2, hv1, hv2] at q9; done) | (simp [hmax.1, hmax.2, hv1, hv2] at q10; done) | (simp [hmax.1, hmax.2, hv1, hv2] at q11; done) | (simp [hmax.1, hmax.2, hv1, hv2] at q12; done) | (simp [hmax.1, hmax.2, hv1, hv2, q9, q10, q11, q12] <;> omega) | (exfalso; simp [hmax.1, hmax.2, hv1, hv2] at q9 q10 q11 q12; omega) | (simp [q9, q10, q11, q12] at hv1; done) | (simp [q9, q10, q11, q12] at hv2; done)) stsub_nil)
                · refine JL_guard rfl rfl q12 ?_
                  refine JL_pd rfl (det_move rfl) ?_
                  refine JL_guard rfl rfl q12 ?_
                  refine JL_pd rfl (det_not rfl) ?_
                  refine JL_guard rfl rfl rfl ?_
                  refine JL_pd rfl (det_pick_f rfl q12 rfl) ?_
                  refine JL_pd rfl (det_pick_t rfl rfl rfl) ?_
                  refine JL_pd rfl (det_move rfl) ?_
                  refine JL_split (d0 := 185) rfl (fun q13 => ?_) (fun q13 => ?_)
                  · refine JL_guard rfl rfl q13 ?_
                    refine JL_step rfl rfl rfl (jo_callv rfl rfl Try.call17 rfl (lawake_j)) fun _ => ?_
                    refine JL_pd rfl (det_pick_t rfl q13 rfl) ?_
                    refine JL_pd rfl (det_assign rfl) ?_
                    exact hj (by kernel_rfl) (stsub_consB rfl (by clear hj; first | rfl | (simp only [hmax.1, hmax.2, hv1, hv2, q9, q10, q11, q12, q13, Bool.and_true, Bool.true_and, Bool.false_and, Bool.and_false, Bool.or_true, Bool.true_or, Bool.or_false, Bool.false_or, Bool.not_true, Bool.not_false]; done) | (simp [hmax.1, hmax.2, hv1, hv2, q9, q10, q11, q12, q13]; done) | (simp [hmax.1, hmax.2, hv1, hv2] at q9; done) | (simp [hmax.1, hmax.2, hv1, hv2] at q10; done) | (simp [hmax.1, hmax.2, hv1, hv2] at q11; done) | (simp [hmax.1, hmax.2, hv1, hv2] at q12; done) | (simp [hmax.1, hmax.2, hv1, hv2] at q13; done) | (simp [hmax.1, hmax.2, hv1, hv2, q9, q10, q11, q12, q13] <;> omega) | (exfalso; simp [hmax.1, hmax.2, hv1, hv2] at q9 q10 q11 q12 q13; omega) | (simp [q9, q10, q11, q12, q13] at hv1; done) | (simp [q9, q10, q11, q12, q13] at hv2; done)) stsub_nil)
                  · refine JL_skip rfl rfl q13 rfl ?_
                    refine JL_pd rfl (det_pick_f rfl q13 rfl) ?_
                    refine JL_pd rfl (det_assign rfl) ?_
                    exact hj (by kernel_rfl) (stsub_consB rfl (by clear hj; first | rfl | (simp only [hmax.1, hmax.2, hv1, hv2, q9, q10, q11, q12, q13, Bool.and_true, Bool.true_and, Bool.false_and, Bool.and_false, Bool.or_true, Bool.true_or, Bool.or_false, Bool.false_or, Bool.not_true, Bool.not_false]; done) | (simp [hmax.1, hmax.2, hv1, hv2, q9, q10, q11, q12, q13]; done) | (simp [hmax.1, hmax.2, hv1, hv2] at q9; done) | (simp [hmax.1, hmax.2, hv1, hv2] at q10; done) | (simp [hmax.1, hmax.2, hv1, hv2] at q11; done) | (simp [hmax.1, hmax.2, hv1, hv2] at q12; done) | (simp [hmax.1, hmax.2, hv1, hv2] at q13; done) | (simp [hmax.1, hmax.2, hv1, hv2, q9, q10, q11, q12, q13] <;> omega) | (exfalso; simp [hmax.1, hmax.2, hv1, hv2] at q9 q10 q11 q12 q13; omega) | (simp [q9, q10, q11, q12, q13] at hv1; done) | (simp [q9, q10, q11, q12, q13] at hv2; done)) stsub_nil)
              · refine JL_guard rfl rfl q11 ?_
                refine JL_pd rfl (det_move rfl) ?_
                refine JL_guard rfl rfl q10 ?_
                refine JL_pd rfl (det_pick_f rfl q11 rfl) ?_
                refine JL_pd rfl (det_pick_t rfl q10 rfl) ?_
                refine JL_pd rfl (det_move rfl) ?_
                refine JL_split (d0 := 177) rfl (fun q14 => ?_) (fun q14 => ?_)
                · refine JL_guard rfl rfl q14 ?_
                  refine JL_pd rfl (det_move rfl) ?_
                  refine JL_guard rfl rfl q14 ?_
                  refine JL_pd rfl (det_neq rfl rfl) ?_
                  refine JL_guard rfl rfl q14 ?_
                  refine JL_pd rfl (det_move rfl) ?_
                  refine JL_split (d0 := 180) rfl (fun q15 => ?_) (fun q15 => ?_)
                  · refine JL_skip rfl rfl q15 rfl ?_
                    refine JL_skip rfl rfl q15 rfl ?_
                    refine JL_guard rfl rfl q14 ?_
                    refine JL_pd rfl (det_pick_t rfl q15 rfl) ?_
                    refine JL_pd rfl (det_pick_t rfl q14 rfl) ?_
                    refine JL_pd rfl (det_move rfl) ?_
                    refine JL_guard rfl rfl rfl ?_
                    refine JL_step rfl rfl rfl (jo_callv rfl rfl Try.call17 rfl (lawake_j)) fun _ => ?_
                    refine JL_pd rfl (det_pick_t rfl rfl rfl) ?_
                    refine JL_pd rfl (det_assign rfl) ?_
                    exact hj (by kernel_rfl) (stsub_consB rfl (by clear hj; first | rfl | (simp only [hmax.1, hmax.2, hv1, hv2, q9, q10, q11, q14, q15, Bool.and_true, Bool.true_and, Bool.false_and, Bool.and_false, Bool.or_true, Bool.true_or, Bool.or_false, Bool.false_or, Bool.not_true, Bool.not_false]; done) | (simp [hmax.1, hmax.2, hv1, hv2, q9, q10, q11, q14, q15]; done) | (simp [hmax.1, hmax.2, hv1, hv2] at q9; done) | (simp [hmax.1, hmax.2, hv1, hv2] at q10; done) | (simp [hmax.1, hmax.2, hv1, hv2] at q11; done) | (simp [hmax.1, hmax.2, hv1, hv2] at q14; done) | (simp [hmax.1, hmax.2, hv1, hv2] at q15; done) | (simp [hmax.1, hmax.2, hv1, hv2, q9, q10, q11, q14, q15] <;> omega) | (exfalso; simp [hmax.1, hmax.2, hv1, hv2] at q9 q10 q11 q14 q15; omega) | (simp [q9, q10, q11, q14, q15] at hv1; done) | (simp [q9, q10, q11, q14, q15] at hv2; done)) stsub_nil)
                  · refine JL_guard rfl rfl q15 ?_
                    refine JL_pd rfl (det_move rfl) ?_
                    refine JL_guard rfl rfl q15 ?_
                    refine JL_pd rfl (det_not rfl) ?_
                    refine JL_guard rfl rfl q14 ?_
                    refine JL_pd rfl (det_pick_f rfl q15 rfl) ?_
                    refine JL_pd rfl (det_pick_t rfl q14 rfl) ?_
                    refine JL_pd rfl (det_move rfl) ?_
                    refine JL_split (d0 := 185) rfl (fun q16 => ?_) (fun q16 => ?_)
                    · refine JL_guard rfl rfl q16 ?_
                      refine JL_step rfl rfl rfl (jo_callv rfl rfl Try.call17 rfl (lawake_j)) fun _ => ?_
                      refine JL_pd rfl (det_pick_t rfl q16 rfl) ?_
                      refine JL_pd rfl (det_assign rfl) ?_
                      exact hj (by kernel_rfl) (stsub_consB rfl (by clear hj; first | rfl | (simp only [hmax.1, hmax.2, hv1, hv2, q9, q10, q11, q14, q15, q16, Bool.and_true, Bool.true_and, Bool.false_and, Bool.and_false, Bool.or_true, Bool.true_or, Bool.or_false, Bool.false_or, Bool.not_true, Bool.not_false]; done) | (simp [hmax.1, hmax.2, hv1, hv2, q9, q10, q11, q14, q15, q16]; done) | (simp [hmax.1, hmax.2, hv1, hv2] at q9; done) | (simp [hmax.1, hmax.2, hv1, hv2] at q10; done) | (simp [hmax.1, hmax.2, hv1, hv2] at q11; done) | (simp [hmax.1, hmax.2, hv1, hv2] at q14; done) | (simp [hmax.1, hmax.2, hv1, hv2] at q15; done) | (simp [hmax.1, hmax.2, hv1, hv2] at q16; done) | (simp [hmax.1, hmax.2, hv1, hv2, q9, q10, q11, q14, q15, q16] <;> omega) | (exfalso; simp [hmax.1, hmax.2, hv1, hv2] at q9 q10 q11 q14 q15 q16; omega) | (simp [q9, q10, q11, q14, q15, q16] at hv1; done) | (simp [q9, q10, q11, q14, q15, q16] at hv2; done)) stsub_nil)
                    · refine JL_skip rfl rfl q16 rfl ?_
                      refine JL_pd rfl (det_pick_f rfl q16 rfl) ?_
                      refine JL_pd rfl (det_assign rfl) ?_
                      exact hj (by kernel_rfl) (stsub_consB rfl (by clear hj; first | rfl | (simp only [hmax.1, hmax.2, hv1, hv2, q9, q10, q11, q14, q15, q16, Bool.and_true, Bool.true_and, Bool.false_and, Bool.and_false, Bool.or_true, Bool.true_or, Bool.or_false, Bool.false_or, Bool.not_true, Bool.not_false]; done) | (simp [hmax.1, hmax.2, hv1, hv2, q9, q10, q11, q14, q15, q16]; done) | (simp [hmax.1, hmax.2, hv1, hv2] at q9; done) | (simp [hmax.1, hmax.2, hv1, hv2] at q10; done) | (simp [hmax.1, hmax.2, hv1, hv2] at q11; done) | (simp [hmax.1, hmax.2, hv1, hv2] at q14; done) | (simp [hmax.1, hmax.2, hv1, hv2] at q15; done) | (simp [hmax.1, hmax.2, hv1, hv2] at q16; done) | (simp [hmax.1, hmax.2, hv1, hv2, q9, q10, q11, q14, q15, q16] <;> omega) | (exfalso; simp [hmax.1, hmax.2, hv1, hv2] at q9 q10 q11 q14 q15 q16; omega) | (simp [q9, q10, q11, q14, q15, q16] at hv1; done) | (simp [q9, q10, q11, q14, q15, q16] at hv2; done)) stsub_nil)
                · refine JL_skip rfl rfl q14 rfl ?_
                  refine JL_skip rfl rfl q14 rfl ?_
                  refine JL_skip rfl rfl q14 rfl ?_
                  refine JL_skipU rfl rfl rfl ?_
                  refine JL_skipU rfl rfl rfl ?_
                  refine JL_skip rfl rfl q14 rfl ?_
                  refine JL_pd rfl (det_pick_f rfl q14 rfl) ?_
                  refine JL_pd rfl (det_move rfl) ?_
                  refine JL_skip rfl rfl rfl rfl ?_
                  refine JL_pd rfl (det_pick_f rfl rfl rfl) ?_
                  refine JL_pd rfl (det_assign rfl) ?_
                  exact hj (by kernel_rfl) (stsub_consB rfl (by clear hj; first | rfl | (simp only [hmax.1, hmax.2, hv1, hv2, q9, q10, q11, q14, Bool.and_true, Bool.true_and, Bool.false_and, Bool.and_false, Bool.or_true, Bool.true_or, Bool.or_false, Bool.false_or, Bool.not_true, Bool.not_false]; done) | (simp [hmax.1, hmax.2, hv1, hv2, q9, q10, q11, q14]; done) | (simp [hmax.1, hmax.2, hv1, hv2] at q9; done) | (simp [hmax.1, hmax.2, hv1, hv2] at q10; done) | (simp [hmax.1, hmax.2, hv1, hv2] at q11; done) | (simp [hmax.1, hmax.2, hv1, hv2] at q14; done) | (simp [hmax.1, hmax.2, hv1, hv2, q9, q10, q11, q14] <;> omega) | (exfalso; simp [hmax.1, hmax.2, hv1, hv2] at q9 q10 q11 q14; omega) | (simp [q9, q10, q11, q14] at hv1; done) | (simp [q9, q10, q11, q14] at hv2; done)) stsub_nil)
            · refine JL_skip rfl rfl q10 rfl ?_
              refine JL_skip rfl rfl q10 rfl ?_
              refine JL_skip rfl rfl q10 rfl ?_
              refine JL_skipU rfl rfl rfl ?_
              refine JL_skip rfl rfl q10 rfl ?_
              refine JL_pd rfl (det_pick_f rfl q10 rfl) ?_
              refine JL_pd rfl (det_move rfl) ?_
              refine JL_skip rfl rfl rfl rfl ?_
              refine JL_skip rfl rfl rfl rfl ?_
              refine JL_skip rfl rfl rfl rfl ?_
              refine JL_skipU rfl rfl rfl ?_
              refine JL_skipU rfl rfl rfl ?_
              refine JL_skip rfl rfl rfl rfl ?_
              refine JL_pd rfl (det_pick_f rfl rfl rfl) ?_
              refine JL_pd rfl (det_move rfl) ?_
              refine JL_skip rfl rfl rfl rfl ?_
              refine JL_pd rfl (det_pick_f rfl rfl rfl) ?_
              refine JL_pd rfl (det_assign rfl) ?_
              exact hj (by kernel_rfl) (stsub_consB rfl (by clear hj; first | rfl | (simp only [hmax.1, hmax.2, hv1, hv2, q9, q10, Bool.and_true, Bool.true_and, Bool.false_and, Bool.and_false, Bool.or_true, Bool.true_or, Bool.or_false, Bool.false_or, Bool.not_true, Bool.not_false]; done) | (simp [hmax.1, hmax.2, hv1, hv2, q9, q10]; done) | (simp [hmax.1, hmax.2, hv1, hv2] at q9; done) | (simp [hmax.1, hmax.2, hv1, hv2] at q10; done) | (simp [hmax.1, hmax.2, hv1, hv2, q9, q10] <;> omega) | (exfalso; simp [hmax.1, hmax.2, hv1, hv2] at q9 q10; omega) | (simp [q9, q10] at hv1; done) | (simp [q9, q10] at hv2; done)) stsub_nil)
          · refine JL_skip rfl rfl q9 rfl ?_
            refine JL_skip rfl rfl q9 rfl ?_
            refine JL_skip rfl rfl q9 rfl ?_
            refine JL_skip rfl rfl q9 rfl ?_
            refine JL_pd rfl (det_pick_f rfl q9 rfl) ?_
            refine JL_pd rfl (det_move rfl) ?_
            refine JL_skip rfl rfl rfl rfl ?_
            refine JL_skip rfl rfl rfl rfl ?_
            refine JL_skip rfl rfl rfl rfl ?_
            refine JL_skipU rfl rfl rfl ?_
            refine JL_skip rfl rfl rfl rfl ?_
            refine JL_pd rfl (det_pick_f rfl rfl rfl) ?_
            refine JL_pd rfl (det_move rfl) ?_
            refine JL_skip rfl rfl rfl rfl ?_
            refine JL_skip rfl rfl rfl rfl ?_
            refine JL_skip rfl rfl rfl rfl ?_
            refine JL_skipU rfl rfl rfl ?_
            refine JL_skipU rfl rfl rfl ?_
            refine JL_skip rfl rfl rfl rfl ?_
            refine JL_pd rfl (det_pick_f rfl rfl rfl) ?_
            refine JL_pd rfl (det_move rfl) ?_
            refine JL_skip rfl rfl rfl rfl ?_
            refine JL_pd rfl (det_pick_f rfl rfl rfl) ?_
            refine JL_pd rfl (det_assign rfl) ?_
            exact hj (by kernel_rfl) (stsub_consB rfl (by clear hj; first | rfl | (simp only [hmax.1, hmax.2, hv1, hv2, q9, Bool.and_true, Bool.true_and, Bool.false_and, Bool.and_false, Bool.or_true, Bool.true_or, Bool.or_false, Bool.false_or, Bool.not_true, Bool.not_false]; done) | (simp [hmax.1, hmax.2, hv1, hv2, q9]; done) | (simp [hmax.1, hmax.2, hv1, hv2] at q9; done) | (simp [hmax.1, hmax.2, hv1, hv2, q9] <;> omega) | (exfalso; simp [hmax.1, hmax.2, hv1, hv2] at q9; omega) | (simp [q9] at hv1; done) | (simp [q9] at hv2; done)) stsub_nil)
        refine JL_nil ?_
        refine JE_seq ?_
        refine JC_ret ?_
        -- stop: out
        refine JE_out (.inl rfl) () (results1 Try.results12 (res_tmp rfl)) rfl (List.Perm.refl _) (fun _ _ => trivial)
end Go.Proofs.Ytcfhbnfincpehaa
