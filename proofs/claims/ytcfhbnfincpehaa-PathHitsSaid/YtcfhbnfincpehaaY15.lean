/- The walk of PathHits. -/
import Derived.Test.YtcfhbnfincpehaaB8
import Derived.Test.YtcfhbnfincpehaaB9
set_option linter.unusedSimpArgs false
set_option linter.unusedVariables false
namespace Go.Proofs.Ytcfhbnfincpehaa
open Go.RowKit Go.Shelf

/-- What Shows cannot find, Hits tells. -/
theorem hits_no {l : La} {s : St} (V : Valid l) (h0 : isStart l s = true) (p : Pk) (hit : Bool) : canN l (enS p hit) (nR l) 0 s = !(hit && decide (hitsV l s p = 0) || !hit && decide (hitsV l s p = 2)) := by
  have hor : canN l (hitsP p) (nR l) 0 s = true ∨ canN l (enM p) (nR l) 0 s = true := by
    obtain ⟨ts, over, g, hT⟩ := has_truth V (nR l) 0 s (onL_start h0)
    have h1 := hT.hits p
    cases hb : hitB p over g
    · right
      cases hc : canN l (enM p) (nR l) 0 s
      · have : hitsV l s p = 2 := by unfold hitsV; rw [hc]; rfl
        rw [h1.1 this] at hb; cases hb
      · rfl
    · left
      cases hc : canN l (hitsP p) (nR l) 0 s
      · cases hd : canN l (enM p) (nR l) 0 s
        · exfalso
          have := hT.can (enM p) (fun _ x => by simp [enM, hitsP])
          have h2 : canN l (hitsP p) (nR l) 0 s = true := hT.can _ (fun e x => by subst e; simp [hitB] at hb) fun e x hx => by
            subst e
            simp only [hitB, hx, Bool.not_false, Bool.true_and] at hb
            simpa only [hitsP, Bool.true_and] using hb
          rw [hc] at h2; cases h2
        · have : hitsV l s p = 0 := by unfold hitsV; rw [hc, hd]; rfl
          rw [h1.2 this] at hb; cases hb
      · rfl
  unfold hitsV
  cases hit with
  | true =>
    simp only [enS, if_true]
    cases h1 : canN l (hitsP p) (nR l) 0 s
    · have h2 := hor.resolve_left (by rw [h1]; decide)
      simp [h2]
    · cases canN l (enM p) (nR l) 0 s <;> simp
  | false =>
    simp only [enS, Bool.false_eq_true, if_false]
    cases h1 : canN l (enM p) (nR l) 0 s
    · simp
    · cases canN l (hitsP p) (nR l) 0 s <;> simp
set_option maxRecDepth 100000 in
theorem PathHits_j (l : La) (s : St) (p : Pk) (hit : Bool) (ha pa : Option Addr) (hc pc : Nat) : Cv Try.prog 13 [.agg #[I l.boards, I l.rows, .slice ha l.hooks.length hc, .slice pa l.patches.length pc], .agg #[I s.b, I s.d], .agg #[I p.boards.lo, I p.boards.hi, I p.dirs.lo, I p.dirs.hi], .bool hit] (KLane l ha hc pa pc) (.bool true) := by
  refine Cx_of Try.func13 rfl Try.ntmps13 rfl fun w0 M0 => ?_
  refine JC_seq ?_
  refine JC_region ?_
  refine JL_step rfl rfl rfl (jo_box rfl rfl) fun b4 => ?_
  refine JL_step rfl rfl rfl (jo_box rfl rfl) fun b5 => ?_
  refine JL_step rfl rfl rfl (jo_box rfl rfl) fun b6 => ?_
  refine JL_pd rfl (det_assign rfl) ?_
  refine JL_nil ?_
  refine JE_seq ?_
  refine JC_seq ?_
  refine JC_seq ?_
  refine JC_region ?_
  refine JL_dt rfl (det_loadKA rfl Try.isAgg25 Try.sizeOf25 rfl rfl) ?_
  refine JL_step rfl rfl rfl (jo_callv rfl rfl Try.call16 rfl (lFew_j l ha pa hc pc)) fun _ => ?_
  refine JL_pd rfl (det_not rfl) ?_
  refine JL_nil ?_
  refine JE_seq ?_
  -- stop: cond
  refine JC_cond rfl (fun h1 => ?_) (fun h1 => ?_)
  · refine JC_seq ?_
    refine JC_region ?_
    refine JL_step rfl rfl rfl (jo_callv rfl rfl Try.call17 rfl (lawake_j)) fun _ => ?_
    refine JL_pd rfl (det_assign rfl) ?_
    refine JL_nil ?_
    refine JE_seq ?_
    refine JC_ret ?_
    refine JE_seq_ret ?_
    -- stop: out
    refine JE_out (.inl rfl) () (results1 Try.results13 (res_tmp rfl)) rfl (List.Perm.refl _) (fun _ _ => trivial)
  · obtain ⟨hthin, hB⟩ := few_valid (by simpa using h1)
    have hth : l.patches.length ≤ 12 ∧ l.hooks.length ≤ 6 := by simpa [thin] using hthin
    refine JC_skip ?_
    refine JE_seq ?_
    refine JC_seq ?_
    refine JC_draw [] (by kernel_rfl) ?_
    refine JA_dt (i := 0) rfl (by kernel_rfl) (by kernel_rfl) rfl rfl (det_loadKA rfl Try.isAgg25 Try.sizeOf25 rfl rfl) ?_
    refine JA_dt (i := 2) rfl (by kernel_rfl) (by kernel_rfl) rfl rfl (det_loadKA rfl Try.isAgg27 Try.sizeOf27 rfl rfl) ?_
    refine JA_dt (i := 4) rfl (by kernel_rfl) (by kernel_rfl) rfl rfl (det_loadKA rfl Try.isAgg57 Try.sizeOf57 rfl rfl) ?_
    refine JA_one (i := 1) (by kernel_rfl) rfl rfl (jo_call rfl rfl Try.call19 rfl (lLane_j l ha pa hc pc (by omega) (by omega))) (fun _ => ⟨hsub_drop 0 rfl, fun _ h => h.2⟩) fun x24 => ?_
    refine JA_one (i := 3) (by kernel_rfl) rfl rfl (jo_callv rfl rfl Try.call20 rfl (lStart_j s)) (fun _ => ⟨hsub_refl, fun _ h => h⟩) fun _ => ?_
    refine JA_one (i := 5) (by kernel_rfl) rfl rfl (jo_callv rfl rfl Try.call30 rfl (lPocket_j p)) (fun _ => ⟨hsub_refl, fun _ h => h⟩) fun _ => ?_
    -- stop: op  6 t29 := (call (Call (value f45) (t24 t26 t28) (37 39 62)))   <1 3 5 5>   155
    by_cases he : startErr l s = 0
    · cases hp : isPocket p with
      | true =>
        obtain ⟨V, h0⟩ := valid_start he
        have hB := hB (valid_fault V)
        have heh : aimErr l s p = 0 := by simp [aimErr, he, hp]
        have hno := hits_no V h0 p hit
        refine JA_one (i := 6) (by kernel_rfl) rfl rfl (jo_callv rfl rfl Try.call45 rfl (Hits_jo l s p x24.1.1 x24.2.1 x24.1.2 x24.2.2 heh)) (fun _ => ⟨hsub_refl, fun _ h => h⟩) fun _ => ?_
        refine JA_pd (i := 7) rfl (by kernel_rfl) rfl rfl (det_move rfl) ?_
        refine JA_pd (i := 8) rfl (by kernel_rfl) rfl rfl (det_extract rfl rfl) ?_
        refine JA_pd (i := 9) rfl (by kernel_rfl) rfl rfl (det_extract rfl rfl) ?_
        refine JA_pd (i := 10) rfl (by kernel_rfl) rfl rfl (det_assign rfl) ?_
        refine JA_pd (i := 11) rfl (by kernel_rfl) rfl rfl (det_assign rfl) ?_
        refine JA_done (by kernel_rfl) ?_
        refine JE_seq ?_
        refine JC_seq ?_
        refine JC_draw [] (by kernel_rfl) ?_
        refine JA_dt (i := 0) rfl (by kernel_rfl) (by kernel_rfl) rfl rfl (det_loadKA rfl Try.isAgg25 Try.sizeOf25 rfl rfl) ?_
        refine JA_dt (i := 2) rfl (by kernel_rfl) (by kernel_rfl) rfl rfl (det_loadKA rfl Try.isAgg27 Try.sizeOf27 rfl rfl) ?_
        refine JA_dt (i := 4) rfl (by kernel_rfl) (by kernel_rfl) rfl rfl (det_loadKA rfl Try.isAgg57 Try.sizeOf57 rfl rfl) ?_
        refine JA_pd (i := 6) rfl (by kernel_rfl) rfl rfl (det_move rfl) ?_
        refine JA_one (i := 1) (by kernel_rfl) rfl rfl (jo_call rfl rfl Try.call19 rfl (lLane_j l ha pa hc pc (by omega) (by omega))) (fun _ => ⟨hsub_drop 0 rfl, fun _ h => h.2⟩) fun x34 => ?_
        refine JA_one (i := 3) (by kernel_rfl) rfl rfl (jo_callv rfl rfl Try.call20 rfl (lStart_j s)) (fun _ => ⟨hsub_refl, fun _ h => h⟩) fun _ => ?_
        refine JA_one (i := 5) (by kernel_rfl) rfl rfl (jo_callv rfl rfl Try.call30 rfl (lPocket_j p)) (fun _ => ⟨hsub_refl, fun _ h => h⟩) fun _ => ?_
        -- stop: op  7 t40 := (call (Call (value f49) (t34 t36 t38 t39) (37 39 62 4)))   <1 3 5 6 5>   156
        cases hcan : canN l (enS p hit) (nR l) 0 s with
        | false =>
          rw [hcan] at hno
          have hx : (hit && decide (hitsV l s p = 0) || !hit && decide (hitsV l s p = 2)) = true := by
            cases hq : (hit && decide (hitsV l s p = 0) || !hit && decide (hitsV l s p = 2))
            · rw [hq] at hno; cases hno
            · rfl
          refine JA_one (i := 7) (by kernel_rfl) rfl rfl (jo_callv rfl rfl Try.call49 rfl (Shows_jn l s p hit x34.1.1 x34.2.1 x34.1.2 x34.2.2 heh hcan)) (fun _ => ⟨hsub_refl, fun _ h => h⟩) fun _ => ?_
          refine JA_pd (i := 8) rfl (by kernel_rfl) rfl rfl (det_move rfl) ?_
          refine JA_pd (i := 9) rfl (by kernel_rfl) rfl rfl (det_extract rfl rfl) ?_
          refine JA_pd (i := 10) rfl (by kernel_rfl) rfl rfl (det_extract rfl rfl) ?_
          refine JA_pd (i := 11) rfl (by kernel_rfl) rfl rfl (det_assign rfl) ?_
          refine JA_pd (i := 12) rfl (by kernel_rfl) rfl rfl (det_assign rfl) ?_
          refine JA_done (by kernel_rfl) ?_
          refine JE_seq ?_
          refine JC_seq ?_
          refine JC_region ?_
          refine JL_dt rfl (det_loadKA rfl Try.isAgg25 Try.sizeOf25 rfl rfl) ?_
          refine JL_dt rfl (det_loadKA rfl Try.isAgg27 Try.sizeOf27 rfl rfl) ?_
          refine JL_step rfl rfl rfl (jo_callv rfl rfl Try.call21 rfl (lstarted_j l s ha pa hc pc)) fun _ => ?_
          refine JL_pd rfl (det_assign rfl) ?_
          refine JL_nil ?_
          refine JE_seq ?_
          refine JC_seq ?_
          refine JC_seq ?_
          refine JC_region ?_
          refine JL_pd rfl (det_move rfl) ?_
          refine JL_pd rfl (det_eql rfl rfl) ?_
          refine JL_pd rfl (det_move rfl) ?_
          -- stop: guard 2
          refine JL_is (d0 := 48) true rfl (by exact decide_eq_true he) (fun g1 => ?_)
          refine JL_guard rfl rfl g1 ?_
          refine JL_dt rfl (det_loadKA rfl Try.isAgg57 Try.sizeOf57 rfl rfl) ?_
          refine JL_guard rfl rfl g1 ?_
          refine JL_step rfl rfl rfl (jo_callv rfl rfl Try.call33 rfl (rIsPocket_j p)) fun _ => ?_
          refine JL_guard rfl rfl g1 ?_
          refine JL_pd rfl (det_not rfl) ?_
          refine JL_pd rfl (det_pick_t rfl g1 rfl) ?_
          refine JL_nil ?_
          refine JE_seq ?_
          -- stop: cond
          rw [hp]
          refine JC_cond rfl (fun h2 => ?_) (fun h2 => ?_)
          · cases h2
          · refine JC_skip ?_
            refine JE_seq ?_
            refine JC_seq ?_
            refine JC_seq ?_
            refine JC_region ?_
            refine JL_pd rfl (det_move rfl) ?_
            refine JL_pd rfl (det_neq rfl rfl) ?_
            refine JL_nil ?_
            refine JE_seq ?_
            -- stop: cond
            refine JC_ifn rfl (fun h3 => ?_) (fun h3 => ?_)
            · exact absurd he h3
            · refine JC_skip ?_
              refine JE_seq ?_
              refine JC_seq ?_
              refine JC_region ?_
              refine JL_dt rfl (det_loadKA rfl Try.isAgg25 Try.sizeOf25 rfl rfl) ?_
              refine JL_dt rfl (det_loadKA rfl Try.isAgg27 Try.sizeOf27 rfl rfl) ?_
              refine JL_dt rfl (det_loadKA rfl Try.isAgg57 Try.sizeOf57 rfl rfl) ?_
              -- stop: op  3 t78 := (call (Call (value f50) (t75 t76 t77) (25 27 57)))   <0 1 2>   164
              refine JL_step rfl rfl rfl (jo_callv rfl rfl Try.call50 rfl (rHits_j l s p ha pa hc pc V h0 hB)) fun _ => ?_
              refine JL_pd rfl (det_assign rfl) ?_
              refine JL_nil ?_
              refine JE_seq ?_
              refine JC_seq ?_
              refine JC_seq ?_
              refine JC_region ?_
              refine JL_pd rfl (det_move rfl) ?_
              refine JL_pd rfl (det_neq rfl rfl) ?_
              refine JL_pd rfl (det_move rfl) ?_
              -- stop: guard 2
              refine JL_join1 4 85 (.bool false) (fun hj => ?_) ?_
              · refine JL_split (d0 := 81) rfl (fun q1 => ?_) (fun q1 => ?_)
                · refine JL_skip rfl rfl q1 rfl ?_
                  refine JL_skip rfl rfl q1 rfl ?_
                  refine JL_skip rfl rfl q1 rfl ?_
                  refine JL_pd rfl (det_pick_t rfl q1 rfl) ?_
                  exact hj (by kernel_rfl) (stsub_consB rfl (by clear hj; first | rfl | (simp only [q1, Bool.and_true, Bool.true_and, Bool.false_and, Bool.and_false, Bool.or_true, Bool.true_or, Bool.or_false, Bool.false_or, Bool.not_true, Bool.not_false]; done) | (simp [q1]; done) | (simp at q1; done) | (simp [q1] <;> omega) | (exfalso; simp at q1; omega)) stsub_nil)
                · refine JL_guard rfl rfl q1 ?_
                  refine JL_pd rfl (det_move rfl) ?_
                  refine JL_guard rfl rfl q1 ?_
                  refine JL_pd rfl (det_move rfl) ?_
                  refine JL_guard rfl rfl q1 ?_
                  refine JL_pd rfl (det_neq rfl rfl) ?_
                  refine JL_pd rfl (det_pick_f rfl q1 rfl) ?_
                  exact hj (by kernel_rfl) (stsub_consB rfl (by clear hj; first | rfl | (simp only [q1, Bool.and_true, Bool.true_and, Bool.false_and, Bool.and_false, Bool.or_true, Bool.true_or, Bool.or_false, Bool.false_or, Bool.not_true, Bool.not_false]; done) | (simp [q1]; done) | (simp at q1; done) | (simp [q1] <;> omega) | (exfalso; simp at q1; omega)) stsub_nil)
              refine JL_nil ?_
              refine JE_seq ?_
              refine JC_condF rfl rfl ?_
              refine JC_skip ?_
              refine JE_seq ?_
              refine JC_seq ?_
              refine JC_seq ?_
              refine JC_region ?_
              refine JL_pd rfl (det_move rfl) ?_
              refine JL_pd rfl (det_move rfl) ?_
              -- stop: guard 1
              refine JL_join1 11 98 (.bool true) (fun hj => ?_) ?_
              · refine JL_split (d0 := 87) rfl (fun q2 => ?_) (fun q2 => ?_)
                · refine JL_guard rfl rfl q2 ?_
                  refine JL_pd rfl (det_move rfl) ?_
                  refine JL_guard rfl rfl q2 ?_
                  refine JL_pd rfl (det_eql rfl rfl) ?_
                  refine JL_pd rfl (det_pick_t rfl q2 rfl) ?_
                  refine JL_pd rfl (det_move rfl) ?_
                  refine JL_split (d0 := 91) rfl (fun q3 => ?_) (fun q3 => ?_)
                  · refine JL_skip rfl rfl q3 rfl ?_
                    refine JL_skip rfl rfl q3 rfl ?_
                    refine JL_skip rfl rfl q3 rfl ?_
                    refine JL_skipU rfl rfl rfl ?_
                    refine JL_skipU rfl rfl rfl ?_
                    refine JL_skip rfl rfl q3 rfl ?_
                    refine JL_pd rfl (det_pick_t rfl q3 rfl) ?_
                    exact hj (by kernel_rfl) (stsub_consB rfl (by clear hj; first | rfl | (simp only [hx, q2, q3, Bool.and_true, Bool.true_and, Bool.false_and, Bool.and_false, Bool.or_true, Bool.true_or, Bool.or_false, Bool.false_or, Bool.not_true, Bool.not_false]; done) | (simp [hx, q2, q3]; done) | (simp [hx] at q2; done) | (simp [hx] at q3; done) | (simp [hx, q2, q3] <;> omega) | (exfalso; simp [hx] at q2 q3; omega) | (simp [q2, q3] at hx; done) | (simp [q3, hx] at q2; done) | (simp [q2, hx] at q3; done) | (simp [q2, q3] at hx; simp [q2, q3, hx]; done)) stsub_nil)
                  · refine JL_guard rfl rfl q3 ?_
                    refine JL_pd rfl (det_move rfl) ?_
                    refine JL_guard rfl rfl q3 ?_
                    refine JL_pd rfl (det_not rfl) ?_
                    refine JL_guard rfl rfl q3 ?_
                    refine JL_pd rfl (det_move rfl) ?_
                    refine JL_split (d0 := 94) rfl (fun q4 => ?_) (fun q4 => ?_)
                    · refine JL_guard rfl rfl q4 ?_
                      refine JL_pd rfl (det_move rfl) ?_
                      refine JL_guard rfl rfl q4 ?_
                      refine JL_pd rfl (det_eql rfl rfl) ?_
                      refine JL_guard rfl rfl q3 ?_
                      refine JL_pd rfl (det_pick_t rfl q4 rfl) ?_
                      refine JL_pd rfl (det_pick_f rfl q3 rfl) ?_
                      exact hj (by kernel_rfl) (stsub_consB rfl (by clear hj; first | rfl | (simp only [hx, q2, q3, q4, Bool.and_true, Bool.true_and, Bool.false_and, Bool.and_false, Bool.or_true, Bool.true_or, Bool.or_false, Bool.false_or, Bool.not_true, Bool.not_false]; done) | (simp [hx, q2, q3, q4]; done) | (simp [hx] at q2; done) | (simp [hx] at q3; done) | (simp [hx] at q4; done) | (simp [hx, q2, q3, q4] <;> omega) | (exfalso; simp [hx] at q2 q3 q4; omega) | (simp [q2, q3, q4] at hx; done) | (simp [q3, q4, hx] at q2; done) | (simp [q2, q4, hx] at q3; done) | (simp [q2, q3, hx] at q4; done) | (simp [q2, q3, q4] at hx; simp [q2, q3, q4, hx]; done)) stsub_nil)
                    · refine JL_skip rfl rfl q4 rfl ?_
                      refine JL_skip rfl rfl q4 rfl ?_
                      refine JL_guard rfl rfl q3 ?_
                      refine JL_pd rfl (det_pick_f rfl q4 rfl) ?_
                      refine JL_pd rfl (det_pick_f rfl q3 rfl) ?_
                      exact hj (by kernel_rfl) (stsub_consB rfl (by clear hj; first | rfl | (simp only [hx, q2, q3, q4, Bool.and_true, Bool.true_and, Bool.false_and, Bool.and_false, Bool.or_true, Bool.true_or, Bool.or_false, Bool.false_or, Bool.not_true, Bool.not_false]; done) | (simp [hx, q2, q3, q4]; done) | (simp [hx] at q2; done) | (simp [hx] at q3; done) | (simp [hx] at q4; done) | (simp [hx, q2, q3, q4] <;> omega) | (exfalso; simp [hx] at q2 q3 q4; omega) | (simp [q2, q3, q4] at hx; done) | (simp [q3, q4, hx] at q2; done) | (simp [q2, q4, hx] at q3; done) | (simp [q2, q3, hx] at q4; done) | (simp [q2, q3, q4] at hx; simp [q2, q3, q4, hx]; done)) stsub_nil)
                · refine JL_skip rfl rfl q2 rfl ?_
                  refine JL_skip rfl rfl q2 rfl ?_
                  refine JL_pd rfl (det_pick_f rfl q2 rfl) ?_
                  refine JL_pd rfl (det_move rfl) ?_
                  refine JL_guard rfl rfl rfl ?_
                  refine JL_pd rfl (det_move rfl) ?_
                  refine JL_guard rfl rfl rfl ?_
                  refine JL_pd rfl (det_not rfl) ?_
                  refine JL_guard rfl rfl rfl ?_
                  refine JL_pd rfl (det_move rfl) ?_
                  refine JL_split (d0 := 94) rfl (fun q5 => ?_) (fun q5 => ?_)
                  · refine JL_guard rfl rfl q5 ?_
                    refine JL_pd rfl (det_move rfl) ?_
                    refine JL_guard rfl rfl q5 ?_
                    refine JL_pd rfl (det_eql rfl rfl) ?_
                    refine JL_guard rfl rfl rfl ?_
                    refine JL_pd rfl (det_pick_t rfl q5 rfl) ?_
                    refine JL_pd rfl (det_pick_f rfl rfl rfl) ?_
                    exact hj (by kernel_rfl) (stsub_consB rfl (by clear hj; first | rfl | (simp only [hx, q2, q5, Bool.and_true, Bool.true_and, Bool.false_and, Bool.and_false, Bool.or_true, Bool.true_or, Bool.or_false, Bool.false_or, Bool.not_true, Bool.not_false]; done) | (simp [hx, q2, q5]; done) | (simp [hx] at q2; done) | (simp [hx] at q5; done) | (simp [hx, q2, q5] <;> omega) | (exfalso; simp [hx] at q2 q5; omega) | (simp [q2, q5] at hx; done) | (simp [q5, hx] at q2; done) | (simp [q2, hx] at q5; done) | (simp [q2, q5] at hx; simp [q2, q5, hx]; done)) stsub_nil)
                  · refine JL_skip rfl rfl q5 rfl ?_
                    refine JL_skip rfl rfl q5 rfl ?_
                    refine JL_guard rfl rfl rfl ?_
                    refine JL_pd rfl (det_pick_f rfl q5 rfl) ?_
                    refine JL_pd rfl (det_pick_f rfl rfl rfl) ?_
                    exact hj (by kernel_rfl) (stsub_consB rfl (by clear hj; first | rfl | (simp only [hx, q2, q5, Bool.and_true, Bool.true_and, Bool.false_and, Bool.and_false, Bool.or_true, Bool.true_or, Bool.or_false, Bool.false_or, Bool.not_true, Bool.not_false]; done) | (simp [hx, q2, q5]; done) | (simp [hx] at q2; done) | (simp [hx] at q5; done) | (simp [hx, q2, q5] <;> omega) | (exfalso; simp [hx] at q2 q5; omega) | (simp [q2, q5] at hx; done) | (simp [q5, hx] at q2; done) | (simp [q2, hx] at q5; done) | (simp [q2, q5] at hx; simp [q2, q5, hx]; done)) stsub_nil)
              refine JL_nil ?_
              refine JE_seq ?_
              refine JC_condT rfl rfl ?_
              refine JC_seq ?_
              refine JC_region ?_
              refine JL_pd rfl (det_move rfl) ?_
              refine JL_pd rfl (det_eql rfl rfl) ?_
              refine JL_pd rfl (det_move rfl) ?_
              -- stop: guard 2
              refine JL_join1 8 8 (.bool true) (fun hj => ?_) ?_
              · refine JL_split (d0 := 101) rfl (fun q6 => ?_) (fun q6 => ?_)
                · refine JL_guard rfl rfl q6 ?_
                  refine JL_pd rfl (det_move rfl) ?_
                  refine JL_guard rfl rfl q6 ?_
                  refine JL_pd rfl (det_len rfl Try.runUnderlying75) ?_
                  refine JL_guard rfl rfl q6 ?_
                  refine JL_pd rfl (det_eql rfl rfl) ?_
                  refine JL_pd rfl (det_pick_t rfl q6 rfl) ?_
                  refine JL_pd rfl (det_move rfl) ?_
                  refine JL_split (d0 := 106) rfl (fun q7 => ?_) (fun q7 => ?_)
                  · refine JL_guard rfl rfl q7 ?_
                    refine JL_step rfl rfl rfl (jo_callv rfl rfl Try.call17 rfl (lawake_j)) fun _ => ?_
                    refine JL_pd rfl (det_pick_t rfl q7 rfl) ?_
                    refine JL_pd rfl (det_assign rfl) ?_
                    exact hj (by kernel_rfl) (stsub_consB rfl (by clear hj; first | rfl | (simp only [q6, q7, Bool.and_true, Bool.true_and, Bool.false_and, Bool.and_false, Bool.or_true, Bool.true_or, Bool.or_false, Bool.false_or, Bool.not_true, Bool.not_false]; done) | (simp [q6, q7]; done) | (simp at q6; done) | (simp at q7; done) | (simp [q6, q7] <;> omega) | (exfalso; simp at q6 q7; omega) | (simp [q7] at q6; done) | (simp [q6] at q7; done)) stsub_nil)
                  · refine JL_skip rfl rfl q7 rfl ?_
                    refine JL_pd rfl (det_pick_f rfl q7 rfl) ?_
                    refine JL_pd rfl (det_assign rfl) ?_
                    exact hj (by kernel_rfl) (stsub_consB rfl (by clear hj; first | rfl | (simp only [q6, q7, Bool.and_true, Bool.true_and, Bool.false_and, Bool.and_false, Bool.or_true, Bool.true_or, Bool.or_false, Bool.false_or, Bool.not_true, Bool.not_false]; done) | (simp [q6, q7]; done) | (simp at q6; done) | (simp at q7; done) | (simp [q6, q7] <;> omega) | (exfalso; simp at q6 q7; omega) | (simp [q7] at q6; done) | (simp [q6] at q7; done)) stsub_nil)
                · refine JL_skip rfl rfl q6 rfl ?_
                  refine JL_skip rfl rfl q6 rfl ?_
                  refine JL_skip rfl rfl q6 rfl ?_
                  refine JL_pd rfl (det_pick_f rfl q6 rfl) ?_
                  refine JL_pd rfl (det_move rfl) ?_
                  refine JL_skip rfl rfl rfl rfl ?_
                  refine JL_pd rfl (det_pick_f rfl rfl rfl) ?_
                  refine JL_pd rfl (det_assign rfl) ?_
                  exact hj (by kernel_rfl) (stsub_consB rfl (by clear hj; first | rfl | (simp only [q6, Bool.and_true, Bool.true_and, Bool.false_and, Bool.and_false, Bool.or_true, Bool.true_or, Bool.or_false, Bool.false_or, Bool.not_true, Bool.not_false]; done) | (simp [q6]; done) | (simp at q6; done) | (simp [q6] <;> omega) | (exfalso; simp at q6; omega)) stsub_nil)
              refine JL_nil ?_
              refine JE_seq ?_
              refine JC_ret ?_
              refine JE_seq_ret ?_
              -- stop: out
              refine JE_out (.inl rfl) () (results1 Try.results13 (res_tmp rfl)) rfl (List.Perm.refl _) (fun _ _ => trivial)
        | true =>
          obtain ⟨over, g, hT, hhb⟩ := show_truth V h0 p hit hcan
          rw [hcan] at hno
          have hx : (hit && decide (hitsV l s p = 0) || !hit && decide (hitsV l s p = 2)) = false := by
            cases hq : (hit && decide (hitsV l s p = 0) || !hit && decide (hitsV l s p = 2))
            · rfl
            · rw [hq] at hno; cases hno
          refine JA_one (i := 7) (by kernel_rfl) rfl rfl (jo_call rfl rfl Try.call49 rfl (Shows_jo l s p hit x34.1.1 x34.2.1 x34.1.2 x34.2.2 heh hcan)) (fun _ => ⟨hsub_drop 0 rfl, fun _ h => h.2⟩) fun ⟨ta, tc⟩ => ?_
          refine JA_pd (i := 8) rfl (by kernel_rfl) rfl rfl (det_move rfl) ?_
          refine JA_pd (i := 9) rfl (by kernel_rfl) rfl rfl (det_extract rfl rfl) ?_
          refine JA_pd (i := 10) rfl (by kernel_rfl) rfl rfl (det_extract rfl rfl) ?_
          refine JA_pd (i := 11) rfl (by kernel_rfl) rfl rfl (det_assign rfl) ?_
          refine JA_pd (i := 12) rfl (by kernel_rfl) rfl rfl (det_assign rfl) ?_
          refine JA_done (by kernel_rfl) ?_
          refine JE_seq ?_
          refine JC_seq ?_
          refine JC_region ?_
          refine JL_dt rfl (det_loadKA rfl Try.isAgg25 Try.sizeOf25 rfl rfl) ?_
          refine JL_dt rfl (det_loadKA rfl Try.isAgg27 Try.sizeOf27 rfl rfl) ?_
          refine JL_step rfl rfl rfl (jo_callv rfl rfl Try.call21 rfl (lstarted_j l s ha pa hc pc)) fun _ => ?_
          refine JL_pd rfl (det_assign rfl) ?_
          refine JL_nil ?_
          refine JE_seq ?_
          refine JC_seq ?_
          refine JC_seq ?_
          refine JC_region ?_
          refine JL_pd rfl (det_move rfl) ?_
          refine JL_pd rfl (det_eql rfl rfl) ?_
          refine JL_pd rfl (det_move rfl) ?_
          -- stop: guard 2
          refine JL_is (d0 := 48) true rfl (by exact decide_eq_true he) (fun g1 => ?_)
          refine JL_guard rfl rfl g1 ?_
          refine JL_dt rfl (det_loadKA rfl Try.isAgg57 Try.sizeOf57 rfl rfl) ?_
          refine JL_guard rfl rfl g1 ?_
          refine JL_step rfl rfl rfl (jo_callv rfl rfl Try.call33 rfl (rIsPocket_j p)) fun _ => ?_
          refine JL_guard rfl rfl g1 ?_
          refine JL_pd rfl (det_not rfl) ?_
          refine JL_pd rfl (det_pick_t rfl g1 rfl) ?_
          refine JL_nil ?_
          refine JE_seq ?_
          -- stop: cond
          rw [hp]
          refine JC_cond rfl (fun h2 => ?_) (fun h2 => ?_)
          · cases h2
          · refine JC_skip ?_
            refine JE_seq ?_
            refine JC_seq ?_
            refine JC_seq ?_
            refine JC_region ?_
            refine JL_pd rfl (det_move rfl) ?_
            refine JL_pd rfl (det_neq rfl rfl) ?_
            refine JL_nil ?_
            refine JE_seq ?_
            -- stop: cond
            refine JC_ifn rfl (fun h3 => ?_) (fun h3 => ?_)
            · exact absurd he h3
            · refine JC_skip ?_
              refine JE_seq ?_
              refine JC_seq ?_
              refine JC_region ?_
              refine JL_dt rfl (det_loadKA rfl Try.isAgg25 Try.sizeOf25 rfl rfl) ?_
              refine JL_dt rfl (det_loadKA rfl Try.isAgg27 Try.sizeOf27 rfl rfl) ?_
              refine JL_dt rfl (det_loadKA rfl Try.isAgg57 Try.sizeOf57 rfl rfl) ?_
              -- stop: op  3 t78 := (call (Call (value f50) (t75 t76 t77) (25 27 57)))   <0 1 2>   164
              refine JL_step rfl rfl rfl (jo_callv rfl rfl Try.call50 rfl (rHits_j l s p ha pa hc pc V h0 hB)) fun _ => ?_
              refine JL_pd rfl (det_assign rfl) ?_
              refine JL_nil ?_
              refine JE_seq ?_
              refine JC_seq ?_
              refine JC_seq ?_
              refine JC_region ?_
              refine JL_pd rfl (det_move rfl) ?_
              refine JL_pd rfl (det_neq rfl rfl) ?_
              refine JL_pd rfl (det_move rfl) ?_
              -- stop: guard 2
              refine JL_join1 4 85 (.bool false) (fun hj => ?_) ?_
              · refine JL_split (d0 := 81) rfl (fun q8 => ?_) (fun q8 => ?_)
                · refine JL_skip rfl rfl q8 rfl ?_
                  refine JL_skip rfl rfl q8 rfl ?_
                  refine JL_skip rfl rfl q8 rfl ?_
                  refine JL_pd rfl (det_pick_t rfl q8 rfl) ?_
                  exact hj (by kernel_rfl) (stsub_consB rfl (by clear hj; first | rfl | (simp only [q8, Bool.and_true, Bool.true_and, Bool.false_and, Bool.and_false, Bool.or_true, Bool.true_or, Bool.or_false, Bool.false_or, Bool.not_true, Bool.not_false]; done) | (simp [q8]; done) | (simp at q8; done) | (simp [q8] <;> omega) | (exfalso; simp at q8; omega)) stsub_nil)
                · refine JL_guard rfl rfl q8 ?_
                  refine JL_pd rfl (det_move rfl) ?_
                  refine JL_guard rfl rfl q8 ?_
                  refine JL_pd rfl (det_move rfl) ?_
                  refine JL_guard rfl rfl q8 ?_
                  refine JL_pd rfl (det_neq rfl rfl) ?_
                  refine JL_pd rfl (det_pick_f rfl q8 rfl) ?_
                  exact hj (by kernel_rfl) (stsub_consB rfl (by clear hj; first | rfl | (simp only [q8, Bool.and_true, Bool.true_and, Bool.false_and, Bool.and_false, Bool.or_true, Bool.true_or, Bool.or_false, Bool.false_or, Bool.not_true, Bool.not_false]; done) | (simp [q8]; done) | (simp at q8; done) | (simp [q8] <;> omega) | (exfalso; simp at q8; omega)) stsub_nil)
              refine JL_nil ?_
              refine JE_seq ?_
              refine JC_condF rfl rfl ?_
              refine JC_skip ?_
              refine JE_seq ?_
              refine JC_seq ?_
              refine JC_seq ?_
              refine JC_region ?_
              refine JL_pd rfl (det_move rfl) ?_
              refine JL_pd rfl (det_move rfl) ?_
              -- stop: guard 1
              refine JL_join1 11 98 (.bool false) (fun hj => ?_) ?_
              · refine JL_split (d0 := 87) rfl (fun q9 => ?_) (fun q9 => ?_)
                · refine JL_guard rfl rfl q9 ?_
                  refine JL_pd rfl (det_move rfl) ?_
                  refine JL_guard rfl rfl q9 ?_
                  refine JL_pd rfl (det_eql rfl rfl) ?_
                  refine JL_pd rfl (det_pick_t rfl q9 rfl) ?_
                  refine JL_pd rfl (det_move rfl) ?_
                  refine JL_split (d0 := 91) rfl (fun q10 => ?_) (fun q10 => ?_)
                  · refine JL_skip rfl rfl q10 rfl ?_
                    refine JL_skip rfl rfl q10 rfl ?_
                    refine JL_skip rfl rfl q10 rfl ?_
                    refine JL_skipU rfl rfl rfl ?_
                    refine JL_skipU rfl rfl rfl ?_
                    refine JL_skip rfl rfl q10 rfl ?_
                    refine JL_pd rfl (det_pick_t rfl q10 rfl) ?_
                    exact hj (by kernel_rfl) (stsub_consB rfl (by clear hj; first | rfl | (simp only [hx, q9, q10, Bool.and_true, Bool.true_and, Bool.false_and, Bool.and_false, Bool.or_true, Bool.true_or, Bool.or_false, Bool.false_or, Bool.not_true, Bool.not_false]; done) | (simp [hx, q9, q10]; done) | (simp [hx] at q9; done) | (simp [hx] at q10; done) | (simp [hx, q9, q10] <;> omega) | (exfalso; simp [hx] at q9 q10; omega) | (simp [q9, q10] at hx; done) | (simp [q10, hx] at q9; done) | (simp [q9, hx] at q10; done) | (simp [q9, q10] at hx; simp [q9, q10, hx]; done)) stsub_nil)
                  · refine JL_guard rfl rfl q10 ?_
                    refine JL_pd rfl (det_move rfl) ?_
                    refine JL_guard rfl rfl q10 ?_
                    refine JL_pd rfl (det_not rfl) ?_
                    refine JL_guard rfl rfl q10 ?_
                    refine JL_pd rfl (det_move rfl) ?_
                    refine JL_split (d0 := 94) rfl (fun q11 => ?_) (fun q11 => ?_)
                    · refine JL_guard rfl rfl q11 ?_
                      refine JL_pd rfl (det_move rfl) ?_
                      refine JL_guard rfl rfl q11 ?_
                      refine JL_pd rfl (det_eql rfl rfl) ?_
                      refine JL_guard rfl rfl q10 ?_
                      refine JL_pd rfl (det_pick_t rfl q11 rfl) ?_
                      refine JL_pd rfl (det_pick_f rfl q10 rfl) ?_
                      exact hj (by kernel_rfl) (stsub_consB rfl (by clear hj; first | rfl | (simp only [hx, q9, q10, q11, Bool.and_true, Bool.true_and, Bool.false_and, Bool.and_false, Bool.or_true, Bool.true_or, Bool.or_false, Bool.false_or, Bool.not_true, Bool.not_false]; done) | (simp [hx, q9, q10, q11]; done) | (simp [hx] at q9; done) | (simp [hx] at q10; done) | (simp [hx] at q11; done) | (simp [hx, q9, q10, q11] <;> omega) | (exfalso; simp [hx] at q9 q10 q11; omega) | (simp [q9, q10, q11] at hx; done) | (simp [q10, q11, hx] at q9; done) | (simp [q9, q11, hx] at q10; done) | (simp [q9, q10, hx] at q11; done) | (simp [q9, q10, q11] at hx; simp [q9, q10, q11, hx]; done)) stsub_nil)
                    · refine JL_skip rfl rfl q11 rfl ?_
                      refine JL_skip rfl rfl q11 rfl ?_
                      refine JL_guard rfl rfl q10 ?_
                      refine JL_pd rfl (det_pick_f rfl q11 rfl) ?_
                      refine JL_pd rfl (det_pick_f rfl q10 rfl) ?_
                      exact hj (by kernel_rfl) (stsub_consB rfl (by clear hj; first | rfl | (simp only [hx, q9, q10, q11, Bool.and_true, Bool.true_and, Bool.false_and, Bool.and_false, Bool.or_true, Bool.true_or, Bool.or_false, Bool.false_or, Bool.not_true, Bool.not_false]; done) | (simp [hx, q9, q10, q11]; done) | (simp [hx] at q9; done) | (simp [hx] at q10; done) | (simp [hx] at q11; done) | (simp [hx, q9, q10, q11] <;> omega) | (exfalso; simp [hx] at q9 q10 q11; omega) | (simp [q9, q10, q11] at hx; done) | (simp [q10, q11, hx] at q9; done) | (simp [q9, q11, hx] at q10; done) | (simp [q9, q10, hx] at q11; done) | (simp [q9, q10, q11] at hx; simp [q9, q10, q11, hx]; done)) stsub_nil)
                · refine JL_skip rfl rfl q9 rfl ?_
                  refine JL_skip rfl rfl q9 rfl ?_
                  refine JL_pd rfl (det_pick_f rfl q9 rfl) ?_
                  refine JL_pd rfl (det_move rfl) ?_
                  refine JL_guard rfl rfl rfl ?_
                  refine JL_pd rfl (det_move rfl) ?_
                  refine JL_guard rfl rfl rfl ?_
                  refine JL_pd rfl (det_not rfl) ?_
                  refine JL_guard rfl rfl rfl ?_
                  refine JL_pd rfl (det_move rfl) ?_
                  refine JL_split (d0 := 94) rfl (fun q12 => ?_) (fun q12 => ?_)
                  · refine JL_guard rfl rfl q12 ?_
                    refine JL_pd rfl (det_move rfl) ?_
                    refine JL_guard rfl rfl q12 ?_
                    refine JL_pd rfl (det_eql rfl rfl) ?_
                    refine JL_guard rfl rfl rfl ?_
                    refine JL_pd rfl (det_pick_t rfl q12 rfl) ?_
                    refine JL_pd rfl (det_pick_f rfl rfl rfl) ?_
                    exact hj (by kernel_rfl) (stsub_consB rfl (by clear hj; first | rfl | (simp only [hx, q9, q12, Bool.and_true, Bool.true_and, Bool.false_and, Bool.and_false, Bool.or_true, Bool.true_or, Bool.or_false, Bool.false_or, Bool.not_true, Bool.not_false]; done) | (simp [hx, q9, q12]; done) | (simp [hx] at q9; done) | (simp [hx] at q12; done) | (simp [hx, q9, q12] <;> omega) | (exfalso; simp [hx] at q9 q12; omega) | (simp [q9, q12] at hx; done) | (simp [q12, hx] at q9; done) | (simp [q9, hx] at q12; done) | (simp [q9, q12] at hx; simp [q9, q12, hx]; done)) stsub_nil)
                  · refine JL_skip rfl rfl q12 rfl ?_
                    refine JL_skip rfl rfl q12 rfl ?_
                    refine JL_guard rfl rfl rfl ?_
                    refine JL_pd rfl (det_pick_f rfl q12 rfl) ?_
                    refine JL_pd rfl (det_pick_f rfl rfl rfl) ?_
                    exact hj (by kernel_rfl) (stsub_consB rfl (by clear hj; first | rfl | (simp only [hx, q9, q12, Bool.and_true, Bool.true_and, Bool.false_and, Bool.and_false, Bool.or_true, Bool.true_or, Bool.or_false, Bool.false_or, Bool.not_true, Bool.not_false]; done) | (simp [hx, q9, q12]; done) | (simp [hx] at q9; done) | (simp [hx] at q12; done) | (simp [hx, q9, q12] <;> omega) | (exfalso; simp [hx] at q9 q12; omega) | (simp [q9, q12] at hx; done) | (simp [q12, hx] at q9; done) | (simp [q9, hx] at q12; done) | (simp [q9, q12] at hx; simp [q9, q12, hx]; done)) stsub_nil)
              refine JL_nil ?_
              refine JE_seq ?_
              refine JC_condF rfl rfl ?_
              refine JC_skip ?_
              refine JE_seq ?_
              refine JC_seq ?_
              refine JC_region ?_
              refine JL_dt rfl (det_loadKA rfl Try.isAgg25 Try.sizeOf25 rfl rfl) ?_
              refine JL_dt rfl (det_loadKA rfl Try.isAgg27 Try.sizeOf27 rfl rfl) ?_
              refine JL_pd rfl (det_move rfl) ?_
              -- stop: op  3 t113 := (call (Call (value f44) (t110 t111 t112) (25 27 75)))   <0 1 2>   171
              refine JL_step rfl rfl rfl (jo_call rfl rfl Try.call44 rfl (rPlay_jt ha pa hc pc ta tc V h0 hT)) fun ⟨oa, oc⟩ => ?_
              refine JL_pd rfl (det_move rfl) ?_
              refine JL_pd rfl (det_extract rfl rfl) ?_
              refine JL_pd rfl (det_extract rfl rfl) ?_
              refine JL_pd rfl (det_extract rfl rfl) ?_
              refine JL_pd rfl (det_assign rfl) ?_
              refine JL_pd rfl (det_assign rfl) ?_
              refine JL_pd rfl (det_assign rfl) ?_
              refine JL_nil ?_
              refine JE_seq ?_
              refine JC_seq ?_
              refine JC_region ?_
              refine JL_pd rfl (det_move rfl) ?_
              refine JL_pd rfl (det_eql rfl rfl) ?_
              refine JL_pd rfl (det_move rfl) ?_
              -- stop: guard 2
              refine JL_join1 15 8 (.bool true) (fun hj => ?_) ?_
              · refine JL_split (d0 := 119) rfl (fun q13 => ?_) (fun q13 => ?_)
                · refine JL_guard rfl rfl q13 ?_
                  refine JL_pd rfl (det_move rfl) ?_
                  refine JL_pd rfl (det_pick_t rfl q13 rfl) ?_
                  refine JL_pd rfl (det_move rfl) ?_
                  refine JL_split (d0 := 122) rfl (fun q14 => ?_) (fun q14 => ?_)
                  · refine JL_guard rfl rfl q14 ?_
                    refine JL_dt rfl (det_loadKA rfl Try.isAgg25 Try.sizeOf25 rfl rfl) ?_
                    refine JL_guard rfl rfl q14 ?_
                    refine JL_dt rfl (det_loadKA rfl Try.isAgg27 Try.sizeOf27 rfl rfl) ?_
                    refine JL_guard rfl rfl q14 ?_
                    refine JL_pd rfl (det_move rfl) ?_
                    refine JL_guard rfl rfl q14 ?_
                    refine JL_dt rfl (det_loadKA rfl Try.isAgg57 Try.sizeOf57 rfl rfl) ?_
                    refine JL_guard rfl rfl q14 ?_
                    refine JL_step rfl rfl rfl (jo_callv rfl rfl Try.call51 rfl (rHit_jt p ha pa hc pc ta tc V h0 hT)) fun _ => ?_
                    refine JL_guard rfl rfl q14 ?_
                    refine JL_pd rfl (det_move rfl) ?_
                    refine JL_guard rfl rfl q14 ?_
                    refine JL_pd rfl (det_eqlB rfl rfl Try.underlying4) ?_
                    refine JL_pd rfl (det_pick_t rfl q14 rfl) ?_
                    refine JL_pd rfl (det_move rfl) ?_
                    refine JL_split (d0 := 131) rfl (fun q15 => ?_) (fun q15 => ?_)
                    · refine JL_guard rfl rfl q15 ?_
                      refine JL_step rfl rfl rfl (jo_callv rfl rfl Try.call17 rfl (lawake_j)) fun _ => ?_
                      refine JL_pd rfl (det_pick_t rfl q15 rfl) ?_
                      refine JL_pd rfl (det_assign rfl) ?_
                      exact hj (by kernel_rfl) (stsub_consB rfl (by clear hj; first | rfl | (simp only [hhb, q13, q14, q15, Bool.and_true, Bool.true_and, Bool.false_and, Bool.and_false, Bool.or_true, Bool.true_or, Bool.or_false, Bool.false_or, Bool.not_true, Bool.not_false]; done) | (simp [hhb, q13, q14, q15]; done) | (simp [hhb] at q13; done) | (simp [hhb] at q14; done) | (simp [hhb] at q15; done) | (simp [hhb, q13, q14, q15] <;> omega) | (exfalso; simp [hhb] at q13 q14 q15; omega) | (simp [q13, q14, q15] at hhb; done) | (simp [q14, q15, hhb] at q13; done) | (simp [q13, q15, hhb] at q14; done) | (simp [q13, q14, hhb] at q15; done) | (simp [q13, q14, q15] at hhb; simp [q13, q14, q15, hhb]; done)) stsub_nil)
                    · refine JL_skip rfl rfl q15 rfl ?_
                      refine JL_pd rfl (det_pick_f rfl q15 rfl) ?_
                      refine JL_pd rfl (det_assign rfl) ?_
                      exact hj (by kernel_rfl) (stsub_consB rfl (by clear hj; first | rfl | (simp only [hhb, q13, q14, q15, Bool.and_true, Bool.true_and, Bool.false_and, Bool.and_false, Bool.or_true, Bool.true_or, Bool.or_false, Bool.false_or, Bool.not_true, Bool.not_false]; done) | (simp [hhb, q13, q14, q15]; done) | (simp [hhb] at q13; done) | (simp [hhb] at q14; done) | (simp [hhb] at q15; done) | (simp [hhb, q13, q14, q15] <;> omega) | (exfalso; simp [hhb] at q13 q14 q15; omega) | (simp [q13, q14, q15] at hhb; done) | (simp [q14, q15, hhb] at q13; done) | (simp [q13, q15, hhb] at q14; done) | (simp [q13, q14, hhb] at q15; done) | (simp [q13, q14, q15] at hhb; simp [q13, q14, q15, hhb]; done)) stsub_nil)
                  · refine JL_skip rfl rfl q14 rfl ?_
                    refine JL_skip rfl rfl q14 rfl ?_
                    refine JL_skip rfl rfl q14 rfl ?_
                    refine JL_skip rfl rfl q14 rfl ?_
                    refine JL_skip rfl rfl q14 rfl ?_
                    refine JL_skip rfl rfl q14 rfl ?_
                    refine JL_skip rfl rfl q14 rfl ?_
                    refine JL_pd rfl (det_pick_f rfl q14 rfl) ?_
                    refine JL_pd rfl (det_move rfl) ?_
                    refine JL_skip rfl rfl rfl rfl ?_
                    refine JL_pd rfl (det_pick_f rfl rfl rfl) ?_
                    refine JL_pd rfl (det_assign rfl) ?_
                    exact hj (by kernel_rfl) (stsub_consB rfl (by clear hj; first | rfl | (simp only [hhb, q13, q14, Bool.and_true, Bool.true_and, Bool.false_and, Bool.and_false, Bool.or_true, Bool.true_or, Bool.or_false, Bool.false_or, Bool.not_true, Bool.not_false]; done) | (simp [hhb, q13, q14]; done) | (simp [hhb] at q13; done) | (simp [hhb] at q14; done) | (simp [hhb, q13, q14] <;> omega) | (exfalso; simp [hhb] at q13 q14; omega) | (simp [q13, q14] at hhb; done) | (simp [q14, hhb] at q13; done) | (simp [q13, hhb] at q14; done) | (simp [q13, q14] at hhb; simp [q13, q14, hhb]; done)) stsub_nil)
                · refine JL_skip rfl rfl q13 rfl ?_
                  refine JL_pd rfl (det_pick_f rfl q13 rfl) ?_
                  refine JL_pd rfl (det_move rfl) ?_
                  refine JL_skip rfl rfl rfl rfl ?_
                  refine JL_skip rfl rfl rfl rfl ?_
                  refine JL_skip rfl rfl rfl rfl ?_
                  refine JL_skip rfl rfl rfl rfl ?_
                  refine JL_skip rfl rfl rfl rfl ?_
                  refine JL_skip rfl rfl rfl rfl ?_
                  refine JL_skip rfl rfl rfl rfl ?_
                  refine JL_pd rfl (det_pick_f rfl rfl rfl) ?_
                  refine JL_pd rfl (det_move rfl) ?_
                  refine JL_skip rfl rfl rfl rfl ?_
                  refine JL_pd rfl (det_pick_f rfl rfl rfl) ?_
                  refine JL_pd rfl (det_assign rfl) ?_
                  exact hj (by kernel_rfl) (stsub_consB rfl (by clear hj; first | rfl | (simp only [hhb, q13, Bool.and_true, Bool.true_and, Bool.false_and, Bool.and_false, Bool.or_true, Bool.true_or, Bool.or_false, Bool.false_or, Bool.not_true, Bool.not_false]; done) | (simp [hhb, q13]; done) | (simp [hhb] at q13; done) | (simp [hhb, q13] <;> omega) | (exfalso; simp [hhb] at q13; omega) | (simp [q13] at hhb; done) | (simp [q13] at hhb; simp [q13, hhb]; done)) stsub_nil)
              refine JL_nil ?_
              refine JE_seq ?_
              refine JC_ret ?_
              -- stop: out
              refine JE_out (.inl rfl) () (results1 Try.results13 (res_tmp rfl)) rfl (List.Perm.refl _) (fun _ _ => trivial)
      | false =>
        have heh : aimErr l s p = 2 := by simp [aimErr, he, hp]
        have heh2 : aimErr l s p ≠ 0 := by omega
        refine JA_one (i := 6) (by kernel_rfl) rfl rfl (jo_callv rfl rfl Try.call45 rfl (Hits_je l s p x24.1.1 x24.2.1 x24.1.2 x24.2.2 heh2)) (fun _ => ⟨hsub_refl, fun _ h => h⟩) fun _ => ?_
        refine JA_pd (i := 7) rfl (by kernel_rfl) rfl rfl (det_move rfl) ?_
        refine JA_pd (i := 8) rfl (by kernel_rfl) rfl rfl (det_extract rfl rfl) ?_
        refine JA_pd (i := 9) rfl (by kernel_rfl) rfl rfl (det_extract rfl rfl) ?_
        refine JA_pd (i := 10) rfl (by kernel_rfl) rfl rfl (det_assign rfl) ?_
        refine JA_pd (i := 11) rfl (by kernel_rfl) rfl rfl (det_assign rfl) ?_
        refine JA_done (by kernel_rfl) ?_
        refine JE_seq ?_
        refine JC_seq ?_
        refine JC_draw [] (by kernel_rfl) ?_
        refine JA_dt (i := 0) rfl (by kernel_rfl) (by kernel_rfl) rfl rfl (det_loadKA rfl Try.isAgg25 Try.sizeOf25 rfl rfl) ?_
        refine JA_dt (i := 2) rfl (by kernel_rfl) (by kernel_rfl) rfl rfl (det_loadKA rfl Try.isAgg27 Try.sizeOf27 rfl rfl) ?_
        refine JA_dt (i := 4) rfl (by kernel_rfl) (by kernel_rfl) rfl rfl (det_loadKA rfl Try.isAgg57 Try.sizeOf57 rfl rfl) ?_
        refine JA_pd (i := 6) rfl (by kernel_rfl) rfl rfl (det_move rfl) ?_
        refine JA_one (i := 1) (by kernel_rfl) rfl rfl (jo_call rfl rfl Try.call19 rfl (lLane_j l ha pa hc pc (by omega) (by omega))) (fun _ => ⟨hsub_drop 0 rfl, fun _ h => h.2⟩) fun x34 => ?_
        refine JA_one (i := 3) (by kernel_rfl) rfl rfl (jo_callv rfl rfl Try.call20 rfl (lStart_j s)) (fun _ => ⟨hsub_refl, fun _ h => h⟩) fun _ => ?_
        refine JA_one (i := 5) (by kernel_rfl) rfl rfl (jo_callv rfl rfl Try.call30 rfl (lPocket_j p)) (fun _ => ⟨hsub_refl, fun _ h => h⟩) fun _ => ?_
        -- stop: op  7 t40 := (call (Call (value f49) (t34 t36 t38 t39) (37 39 62 4)))   <1 3 5 6 5>   156
        refine JA_one (i := 7) (by kernel_rfl) rfl rfl (jo_callv rfl rfl Try.call49 rfl (Shows_je l s p hit x34.1.1 x34.2.1 x34.1.2 x34.2.2 heh2)) (fun _ => ⟨hsub_refl, fun _ h => h⟩) fun _ => ?_
        refine JA_pd (i := 8) rfl (by kernel_rfl) rfl rfl (det_move rfl) ?_
        refine JA_pd (i := 9) rfl (by kernel_rfl) rfl rfl (det_extract rfl rfl) ?_
        refine JA_pd (i := 10) rfl (by kernel_rfl) rfl rfl (det_extract rfl rfl) ?_
        refine JA_pd (i := 11) rfl (by kernel_rfl) rfl rfl (det_assign rfl) ?_
        refine JA_pd (i := 12) rfl (by kernel_rfl) rfl rfl (det_assign rfl) ?_
        refine JA_done (by kernel_rfl) ?_
        refine JE_seq ?_
        refine JC_seq ?_
        refine JC_region ?_
        refine JL_dt rfl (det_loadKA rfl Try.isAgg25 Try.sizeOf25 rfl rfl) ?_
        refine JL_dt rfl (det_loadKA rfl Try.isAgg27 Try.sizeOf27 rfl rfl) ?_
        refine JL_step rfl rfl rfl (jo_callv rfl rfl Try.call21 rfl (lstarted_j l s ha pa hc pc)) fun _ => ?_
        refine JL_pd rfl (det_assign rfl) ?_
        refine JL_nil ?_
        refine JE_seq ?_
        refine JC_seq ?_
        refine JC_seq ?_
        refine JC_region ?_
        refine JL_pd rfl (det_move rfl) ?_
        refine JL_pd rfl (det_eql rfl rfl) ?_
        refine JL_pd rfl (det_move rfl) ?_
        -- stop: guard 2
        rw [heh]
        refine JL_is (d0 := 48) true rfl (by exact decide_eq_true he) (fun g1 => ?_)
        refine JL_guard rfl rfl g1 ?_
        refine JL_dt rfl (det_loadKA rfl Try.isAgg57 Try.sizeOf57 rfl rfl) ?_
        refine JL_guard rfl rfl g1 ?_
        refine JL_step rfl rfl rfl (jo_callv rfl rfl Try.call33 rfl (rIsPocket_j p)) fun _ => ?_
        refine JL_guard rfl rfl g1 ?_
        refine JL_pd rfl (det_not rfl) ?_
        refine JL_pd rfl (det_pick_t rfl g1 rfl) ?_
        refine JL_nil ?_
        refine JE_seq ?_
        -- stop: cond
        rw [hp]
        refine JC_cond rfl (fun h2 => ?_) (fun h2 => ?_)
        · refine JC_region ?_
          refine JL_pd rfl (det_assign rfl) ?_
          refine JL_nil ?_
          refine JE_seq ?_
          refine JC_seq ?_
          refine JC_seq ?_
          refine JC_region ?_
          refine JL_pd rfl (det_move rfl) ?_
          refine JL_pd rfl (det_neq rfl rfl) ?_
          refine JL_nil ?_
          refine JE_seq ?_
          -- stop: cond
          refine JC_ifn rfl (fun h3 => ?_) (fun h3 => ?_)
          · refine JC_seq ?_
            refine JC_region ?_
            refine JL_pd rfl (det_move rfl) ?_
            refine JL_pd rfl (det_move rfl) ?_
            refine JL_pd rfl (det_eql rfl rfl) ?_
            refine JL_pd rfl (det_move rfl) ?_
            -- stop: guard 3
            refine JL_join1 17 8 (.bool true) (fun hj => ?_) ?_
            · refine JL_split (d0 := 58) rfl (fun q16 => ?_) (fun q16 => ?_)
              · refine JL_guard rfl rfl q16 ?_
                refine JL_pd rfl (det_move rfl) ?_
                refine JL_guard rfl rfl q16 ?_
                refine JL_pd rfl (det_move rfl) ?_
                refine JL_guard rfl rfl q16 ?_
                refine JL_pd rfl (det_eql rfl rfl) ?_
                refine JL_pd rfl (det_pick_t rfl q16 rfl) ?_
                refine JL_pd rfl (det_move rfl) ?_
                refine JL_split (d0 := 63) rfl (fun q17 => ?_) (fun q17 => ?_)
                · refine JL_guard rfl rfl q17 ?_
                  refine JL_pd rfl (det_move rfl) ?_
                  refine JL_guard rfl rfl q17 ?_
                  refine JL_pd rfl (det_eql rfl rfl) ?_
                  refine JL_pd rfl (det_pick_t rfl q17 rfl) ?_
                  refine JL_pd rfl (det_move rfl) ?_
                  refine JL_split (d0 := 67) rfl (fun q18 => ?_) (fun q18 => ?_)
                  · refine JL_guard rfl rfl q18 ?_
                    refine JL_pd rfl (det_move rfl) ?_
                    refine JL_guard rfl rfl q18 ?_
                    refine JL_pd rfl (det_len rfl Try.runUnderlying75) ?_
                    refine JL_guard rfl rfl q18 ?_
                    refine JL_pd rfl (det_eql rfl rfl) ?_
                    refine JL_pd rfl (det_pick_t rfl q18 rfl) ?_
                    refine JL_pd rfl (det_move rfl) ?_
                    refine JL_split (d0 := 72) rfl (fun q19 => ?_) (fun q19 => ?_)
                    · refine JL_guard rfl rfl q19 ?_
                      refine JL_step rfl rfl rfl (jo_callv rfl rfl Try.call17 rfl (lawake_j)) fun _ => ?_
                      refine JL_pd rfl (det_pick_t rfl q19 rfl) ?_
                      refine JL_pd rfl (det_assign rfl) ?_
                      exact hj (by kernel_rfl) (stsub_consB rfl (by clear hj; first | rfl | (simp only [q16, q17, q18, q19, Bool.and_true, Bool.true_and, Bool.false_and, Bool.and_false, Bool.or_true, Bool.true_or, Bool.or_false, Bool.false_or, Bool.not_true, Bool.not_false]; done) | (simp [q16, q17, q18, q19]; done) | (simp at q16; done) | (simp at q17; done) | (simp at q18; done) | (simp at q19; done) | (simp [q16, q17, q18, q19] <;> omega) | (exfalso; simp at q16 q17 q18 q19; omega) | (simp [q17, q18, q19] at q16; done) | (simp [q16, q18, q19] at q17; done) | (simp [q16, q17, q19] at q18; done) | (simp [q16, q17, q18] at q19; done)) stsub_nil)
                    · refine JL_skip rfl rfl q19 rfl ?_
                      refine JL_pd rfl (det_pick_f rfl q19 rfl) ?_
                      refine JL_pd rfl (det_assign rfl) ?_
                      exact hj (by kernel_rfl) (stsub_consB rfl (by clear hj; first | rfl | (simp only [q16, q17, q18, q19, Bool.and_true, Bool.true_and, Bool.false_and, Bool.and_false, Bool.or_true, Bool.true_or, Bool.or_false, Bool.false_or, Bool.not_true, Bool.not_false]; done) | (simp [q16, q17, q18, q19]; done) | (simp at q16; done) | (simp at q17; done) | (simp at q18; done) | (simp at q19; done) | (simp [q16, q17, q18, q19] <;> omega) | (exfalso; simp at q16 q17 q18 q19; omega) | (simp [q17, q18, q19] at q16; done) | (simp [q16, q18, q19] at q17; done) | (simp [q16, q17, q19] at q18; done) | (simp [q16, q17, q18] at q19; done)) stsub_nil)
                  · refine JL_skip rfl rfl q18 rfl ?_
                    refine JL_skip rfl rfl q18 rfl ?_
                    refine JL_skip rfl rfl q18 rfl ?_
                    refine JL_pd rfl (det_pick_f rfl q18 rfl) ?_
                    refine JL_pd rfl (det_move rfl) ?_
                    refine JL_skip rfl rfl rfl rfl ?_
                    refine JL_pd rfl (det_pick_f rfl rfl rfl) ?_
                    refine JL_pd rfl (det_assign rfl) ?_
                    exact hj (by kernel_rfl) (stsub_consB rfl (by clear hj; first | rfl | (simp only [q16, q17, q18, Bool.and_true, Bool.true_and, Bool.false_and, Bool.and_false, Bool.or_true, Bool.true_or, Bool.or_false, Bool.false_or, Bool.not_true, Bool.not_false]; done) | (simp [q16, q17, q18]; done) | (simp at q16; done) | (simp at q17; done) | (simp at q18; done) | (simp [q16, q17, q18] <;> omega) | (exfalso; simp at q16 q17 q18; omega) | (simp [q17, q18] at q16; done) | (simp [q16, q18] at q17; done) | (simp [q16, q17] at q18; done)) stsub_nil)
                · refine JL_skip rfl rfl q17 rfl ?_
                  refine JL_skip rfl rfl q17 rfl ?_
                  refine JL_pd rfl (det_pick_f rfl q17 rfl) ?_
                  refine JL_pd rfl (det_move rfl) ?_
                  refine JL_skip rfl rfl rfl rfl ?_
                  refine JL_skip rfl rfl rfl rfl ?_
                  refine JL_skip rfl rfl rfl rfl ?_
                  refine JL_pd rfl (det_pick_f rfl rfl rfl) ?_
                  refine JL_pd rfl (det_move rfl) ?_
                  refine JL_skip rfl rfl rfl rfl ?_
                  refine JL_pd rfl (det_pick_f rfl rfl rfl) ?_
                  refine JL_pd rfl (det_assign rfl) ?_
                  exact hj (by kernel_rfl) (stsub_consB rfl (by clear hj; first | rfl | (simp only [q16, q17, Bool.and_true, Bool.true_and, Bool.false_and, Bool.and_false, Bool.or_true, Bool.true_or, Bool.or_false, Bool.false_or, Bool.not_true, Bool.not_false]; done) | (simp [q16, q17]; done) | (simp at q16; done) | (simp at q17; done) | (simp [q16, q17] <;> omega) | (exfalso; simp at q16 q17; omega) | (simp [q17] at q16; done) | (simp [q16] at q17; done)) stsub_nil)
              · refine JL_skip rfl rfl q16 rfl ?_
                refine JL_skip rfl rfl q16 rfl ?_
                refine JL_skip rfl rfl q16 rfl ?_
                refine JL_pd rfl (det_pick_f rfl q16 rfl) ?_
                refine JL_pd rfl (det_move rfl) ?_
                refine JL_skip rfl rfl rfl rfl ?_
                refine JL_skip rfl rfl rfl rfl ?_
                refine JL_pd rfl (det_pick_f rfl rfl rfl) ?_
                refine JL_pd rfl (det_move rfl) ?_
                refine JL_skip rfl rfl rfl rfl ?_
                refine JL_skip rfl rfl rfl rfl ?_
                refine JL_skip rfl rfl rfl rfl ?_
                refine JL_pd rfl (det_pick_f rfl rfl rfl) ?_
                refine JL_pd rfl (det_move rfl) ?_
                refine JL_skip rfl rfl rfl rfl ?_
                refine JL_pd rfl (det_pick_f rfl rfl rfl) ?_
                refine JL_pd rfl (det_assign rfl) ?_
                exact hj (by kernel_rfl) (stsub_consB rfl (by clear hj; first | rfl | (simp only [q16, Bool.and_true, Bool.true_and, Bool.false_and, Bool.and_false, Bool.or_true, Bool.true_or, Bool.or_false, Bool.false_or, Bool.not_true, Bool.not_false]; done) | (simp [q16]; done) | (simp at q16; done) | (simp [q16] <;> omega) | (exfalso; simp at q16; omega)) stsub_nil)
            refine JL_nil ?_
            refine JE_seq ?_
            refine JC_ret ?_
            refine JE_seq_ret ?_
            -- stop: out
            refine JE_out (.inl rfl) () (results1 Try.results13 (res_tmp rfl)) rfl (List.Perm.refl _) (fun _ _ => trivial)
          · cases h3
        · cases h2
    · have heh : aimErr l s p = startErr l s := by simp [aimErr, he]
      have heh2 : aimErr l s p ≠ 0 := by omega
      refine JA_one (i := 6) (by kernel_rfl) rfl rfl (jo_callv rfl rfl Try.call45 rfl (Hits_je l s p x24.1.1 x24.2.1 x24.1.2 x24.2.2 heh2)) (fun _ => ⟨hsub_refl, fun _ h => h⟩) fun _ => ?_
      refine JA_pd (i := 7) rfl (by kernel_rfl) rfl rfl (det_move rfl) ?_
      refine JA_pd (i := 8) rfl (by kernel_rfl) rfl rfl (det_extract rfl rfl) ?_
      refine JA_pd (i := 9) rfl (by kernel_rfl) rfl rfl (det_extract rfl rfl) ?_
      refine JA_pd (i := 10) rfl (by kernel_rfl) rfl rfl (det_assign rfl) ?_
      refine JA_pd (i := 11) rfl (by kernel_rfl) rfl rfl (det_assign rfl) ?_
      refine JA_done (by kernel_rfl) ?_
      refine JE_seq ?_
      refine JC_seq ?_
      refine JC_draw [] (by kernel_rfl) ?_
      refine JA_dt (i := 0) rfl (by kernel_rfl) (by kernel_rfl) rfl rfl (det_loadKA rfl Try.isAgg25 Try.sizeOf25 rfl rfl) ?_
      refine JA_dt (i := 2) rfl (by kernel_rfl) (by kernel_rfl) rfl rfl (det_loadKA rfl Try.isAgg27 Try.sizeOf27 rfl rfl) ?_
      refine JA_dt (i := 4) rfl (by kernel_rfl) (by kernel_rfl) rfl rfl (det_loadKA rfl Try.isAgg57 Try.sizeOf57 rfl rfl) ?_
      refine JA_pd (i := 6) rfl (by kernel_rfl) rfl rfl (det_move rfl) ?_
      refine JA_one (i := 1) (by kernel_rfl) rfl rfl (jo_call rfl rfl Try.call19 rfl (lLane_j l ha pa hc pc (by omega) (by omega))) (fun _ => ⟨hsub_drop 0 rfl, fun _ h => h.2⟩) fun x34 => ?_
      refine JA_one (i := 3) (by kernel_rfl) rfl rfl (jo_callv rfl rfl Try.call20 rfl (lStart_j s)) (fun _ => ⟨hsub_refl, fun _ h => h⟩) fun _ => ?_
      refine JA_one (i := 5) (by kernel_rfl) rfl rfl (jo_callv rfl rfl Try.call30 rfl (lPocket_j p)) (fun _ => ⟨hsub_refl, fun _ h => h⟩) fun _ => ?_
      -- stop: op  7 t40 := (call (Call (value f49) (t34 t36 t38 t39) (37 39 62 4)))   <1 3 5 6 5>   156
      refine JA_one (i := 7) (by kernel_rfl) rfl rfl (jo_callv rfl rfl Try.call49 rfl (Shows_je l s p hit x34.1.1 x34.2.1 x34.1.2 x34.2.2 heh2)) (fun _ => ⟨hsub_refl, fun _ h => h⟩) fun _ => ?_
      refine JA_pd (i := 8) rfl (by kernel_rfl) rfl rfl (det_move rfl) ?_
      refine JA_pd (i := 9) rfl (by kernel_rfl) rfl rfl (det_extract rfl rfl) ?_
      refine JA_pd (i := 10) rfl (by kernel_rfl) rfl rfl (det_extract rfl rfl) ?_
      refine JA_pd (i := 11) rfl (by kernel_rfl) rfl rfl (det_assign rfl) ?_
      refine JA_pd (i := 12) rfl (by kernel_rfl) rfl rfl (det_assign rfl) ?_
      refine JA_done (by kernel_rfl) ?_
      refine JE_seq ?_
      refine JC_seq ?_
      refine JC_region ?_
      refine JL_dt rfl (det_loadKA rfl Try.isAgg25 Try.sizeOf25 rfl rfl) ?_
      refine JL_dt rfl (det_loadKA rfl Try.isAgg27 Try.sizeOf27 rfl rfl) ?_
      refine JL_step rfl rfl rfl (jo_callv rfl rfl Try.call21 rfl (lstarted_j l s ha pa hc pc)) fun _ => ?_
      refine JL_pd rfl (det_assign rfl) ?_
      refine JL_nil ?_
      refine JE_seq ?_
      refine JC_seq ?_
      refine JC_seq ?_
      refine JC_region ?_
      refine JL_pd rfl (det_move rfl) ?_
      refine JL_pd rfl (det_eql rfl rfl) ?_
      refine JL_pd rfl (det_move rfl) ?_
      -- stop: guard 2
      rw [heh]
      refine JL_is (d0 := 48) false rfl (by exact decide_eq_false he) (fun g1 => ?_)
      refine JL_skip rfl rfl g1 rfl ?_
      refine JL_skip rfl rfl g1 rfl ?_
      refine JL_skip rfl rfl g1 rfl ?_
      refine JL_pd rfl (det_pick_f rfl g1 rfl) ?_
      refine JL_nil ?_
      refine JE_seq ?_
      refine JC_condF rfl rfl ?_
      refine JC_skip ?_
      refine JE_seq ?_
      refine JC_seq ?_
      refine JC_seq ?_
      refine JC_region ?_
      refine JL_pd rfl (det_move rfl) ?_
      refine JL_pd rfl (det_neq rfl rfl) ?_
      refine JL_nil ?_
      refine JE_seq ?_
      -- stop: cond
      refine JC_ifn rfl (fun h3 => ?_) (fun h3 => ?_)
      · refine JC_seq ?_
        refine JC_region ?_
        refine JL_pd rfl (det_move rfl) ?_
        refine JL_pd rfl (det_move rfl) ?_
        refine JL_pd rfl (det_eql rfl rfl) ?_
        refine JL_pd rfl (det_move rfl) ?_
        -- stop: guard 3
        refine JL_join1 17 8 (.bool true) (fun hj => ?_) ?_
        · refine JL_split (d0 := 58) rfl (fun q20 => ?_) (fun q20 => ?_)
          · refine JL_guard rfl rfl q20 ?_
            refine JL_pd rfl (det_move rfl) ?_
            refine JL_guard rfl rfl q20 ?_
            refine JL_pd rfl (det_move rfl) ?_
            refine JL_guard rfl rfl q20 ?_
            refine JL_pd rfl (det_eql rfl rfl) ?_
            refine JL_pd rfl (det_pick_t rfl q20 rfl) ?_
            refine JL_pd rfl (det_move rfl) ?_
            refine JL_split (d0 := 63) rfl (fun q21 => ?_) (fun q21 => ?_)
            · refine JL_guard rfl rfl q21 ?_
              refine JL_pd rfl (det_move rfl) ?_
              refine JL_guard rfl rfl q21 ?_
              refine JL_pd rfl (det_eql rfl rfl) ?_
              refine JL_pd rfl (det_pick_t rfl q21 rfl) ?_
              refine JL_pd rfl (det_move rfl) ?_
              refine JL_split (d0 := 67) rfl (fun q22 => ?_) (fun q22 => ?_)
              · refine JL_guard rfl rfl q22 ?_
                refine JL_pd rfl (det_move rfl) ?_
                refine JL_guard rfl rfl q22 ?_
                refine JL_pd rfl (det_len rfl Try.runUnderlying75) ?_
                refine JL_guard rfl rfl q22 ?_
                refine JL_pd rfl (det_eql rfl rfl) ?_
                refine JL_pd rfl (det_pick_t rfl q22 rfl) ?_
                refine JL_pd rfl (det_move rfl) ?_
                refine JL_split (d0 := 72) rfl (fun q23 => ?_) (fun q23 => ?_)
                · refine JL_guard rfl rfl q23 ?_
                  refine JL_step rfl rfl rfl (jo_callv rfl rfl Try.call17 rfl (lawake_j)) fun _ => ?_
                  refine JL_pd rfl (det_pick_t rfl q23 rfl) ?_
                  refine JL_pd rfl (det_assign rfl) ?_
                  exact hj (by kernel_rfl) (stsub_consB rfl (by clear hj; first | rfl | (simp only [q20, q21, q22, q23, Bool.and_true, Bool.true_and, Bool.false_and, Bool.and_false, Bool.or_true, Bool.true_or, Bool.or_false, Bool.false_or, Bool.not_true, Bool.not_false]; done) | (simp [q20, q21, q22, q23]; done) | (simp at q20; done) | (simp at q21; done) | (simp at q22; done) | (simp at q23; done) | (simp [q20, q21, q22, q23] <;> omega) | (exfalso; simp at q20 q21 q22 q23; omega) | (simp [q21, q22, q23] at q20; done) | (simp [q20, q22, q23] at q21; done) | (simp [q20, q21, q23] at q22; done) | (simp [q20, q21, q22] at q23; done)) stsub_nil)
                · refine JL_skip rfl rfl q23 rfl ?_
                  refine JL_pd rfl (det_pick_f rfl q23 rfl) ?_
                  refine JL_pd rfl (det_assign rfl) ?_
                  exact hj (by kernel_rfl) (stsub_consB rfl (by clear hj; first | rfl | (simp only [q20, q21, q22, q23, Bool.and_true, Bool.true_and, Bool.false_and, Bool.and_false, Bool.or_true, Bool.true_or, Bool.or_false, Bool.false_or, Bool.not_true, Bool.not_false]; done) | (simp [q20, q21, q22, q23]; done) | (simp at q20; done) | (simp at q21; done) | (simp at q22; done) | (simp at q23; done) | (simp [q20, q21, q22, q23] <;> omega) | (exfalso; simp at q20 q21 q22 q23; omega) | (simp [q21, q22, q23] at q20; done) | (simp [q20, q22, q23] at q21; done) | (simp [q20, q21, q23] at q22; done) | (simp [q20, q21, q22] at q23; done)) stsub_nil)
              · refine JL_skip rfl rfl q22 rfl ?_
                refine JL_skip rfl rfl q22 rfl ?_
                refine JL_skip rfl rfl q22 rfl ?_
                refine JL_pd rfl (det_pick_f rfl q22 rfl) ?_
                refine JL_pd rfl (det_move rfl) ?_
                refine JL_skip rfl rfl rfl rfl ?_
                refine JL_pd rfl (det_pick_f rfl rfl rfl) ?_
                refine JL_pd rfl (det_assign rfl) ?_
                exact hj (by kernel_rfl) (stsub_consB rfl (by clear hj; first | rfl | (simp only [q20, q21, q22, Bool.and_true, Bool.true_and, Bool.false_and, Bool.and_false, Bool.or_true, Bool.true_or, Bool.or_false, Bool.false_or, Bool.not_true, Bool.not_false]; done) | (simp [q20, q21, q22]; done) | (simp at q20; done) | (simp at q21; done) | (simp at q22; done) | (simp [q20, q21, q22] <;> omega) | (exfalso; simp at q20 q21 q22; omega) | (simp [q21, q22] at q20; done) | (simp [q20, q22] at q21; done) | (simp [q20, q21] at q22; done)) stsub_nil)
            · refine JL_skip rfl rfl q21 rfl ?_
              refine JL_skip rfl rfl q21 rfl ?_
              refine JL_pd rfl (det_pick_f rfl q21 rfl) ?_
              refine JL_pd rfl (det_move rfl) ?_
              refine JL_skip rfl rfl rfl rfl ?_
              refine JL_skip rfl rfl rfl rfl ?_
              refine JL_skip rfl rfl rfl rfl ?_
              refine JL_pd rfl (det_pick_f rfl rfl rfl) ?_
              refine JL_pd rfl (det_move rfl) ?_
              refine JL_skip rfl rfl rfl rfl ?_
              refine JL_pd rfl (det_pick_f rfl rfl rfl) ?_
              refine JL_pd rfl (det_assign rfl) ?_
              exact hj (by kernel_rfl) (stsub_consB rfl (by clear hj; first | rfl | (simp only [q20, q21, Bool.and_true, Bool.true_and, Bool.false_and, Bool.and_false, Bool.or_true, Bool.true_or, Bool.or_false, Bool.false_or, Bool.not_true, Bool.not_false]; done) | (simp [q20, q21]; done) | (simp at q20; done) | (simp at q21; done) | (simp [q20, q21] <;> omega) | (exfalso; simp at q20 q21; omega) | (simp [q21] at q20; done) | (simp [q20] at q21; done)) stsub_nil)
          · refine JL_skip rfl rfl q20 rfl ?_
            refine JL_skip rfl rfl q20 rfl ?_
            refine JL_skip rfl rfl q20 rfl ?_
            refine JL_pd rfl (det_pick_f rfl q20 rfl) ?_
            refine JL_pd rfl (det_move rfl) ?_
            refine JL_skip rfl rfl rfl rfl ?_
            refine JL_skip rfl rfl rfl rfl ?_
            refine JL_pd rfl (det_pick_f rfl rfl rfl) ?_
            refine JL_pd rfl (det_move rfl) ?_
            refine JL_skip rfl rfl rfl rfl ?_
            refine JL_skip rfl rfl rfl rfl ?_
            refine JL_skip rfl rfl rfl rfl ?_
            refine JL_pd rfl (det_pick_f rfl rfl rfl) ?_
            refine JL_pd rfl (det_move rfl) ?_
            refine JL_skip rfl rfl rfl rfl ?_
            refine JL_pd rfl (det_pick_f rfl rfl rfl) ?_
            refine JL_pd rfl (det_assign rfl) ?_
            exact hj (by kernel_rfl) (stsub_consB rfl (by clear hj; first | rfl | (simp only [q20, Bool.and_true, Bool.true_and, Bool.false_and, Bool.and_false, Bool.or_true, Bool.true_or, Bool.or_false, Bool.false_or, Bool.not_true, Bool.not_false]; done) | (simp [q20]; done) | (simp at q20; done) | (simp [q20] <;> omega) | (exfalso; simp at q20; omega)) stsub_nil)
        refine JL_nil ?_
        refine JE_seq ?_
        refine JC_ret ?_
        refine JE_seq_ret ?_
        -- stop: out
        refine JE_out (.inl rfl) () (results1 Try.results13 (res_tmp rfl)) rfl (List.Perm.refl _) (fun _ _ => trivial)
      · exact absurd h3 he
end Go.Proofs.Ytcfhbnfincpehaa
