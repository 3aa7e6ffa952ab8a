/- The walk of PathEnds. -/
import Derived.Test.YtcfhbnfincpehaaB7
import Derived.Test.YtcfhbnfincpehaaB9
set_option linter.unusedSimpArgs false
set_option linter.unusedVariables false
namespace Go.Proofs.Ytcfhbnfincpehaa
open Go.RowKit Go.Shelf

/-- What Shows cannot find, Hits tells. -/
theorem hits_no2 {l : La} {s : St} (V : Valid l) (h0 : isStart l s = true) (p : Pk) (hit : Bool) : canN l (enS p hit) (nR l) 0 s = !(hit && decide (hitsV l s p = 0) || !hit && decide (hitsV l s p = 2)) := by
  have hor : canN l (hitsP p) (nR l) 0 s = true ∨ canN l (enM p) (nR l) 0 s = true := by
    obtain ⟨ts, over, g, hT⟩ := has_truth V (nR l) 0 s (onL_start h0)
    have h1 := hT.hits p
    cases hb : hitB p over g
    · right
      cases hc : canN l (enM p) (nR l) 0 s
      · have : hitsV l s p = 2 := by unfold hitsV; rw [hc]; rfl
        rw [h1.1 this] at hb; cases hb
      · rfl
    · left
      cases hc : canN l (hitsP p) (nR l) 0 s
      · cases hd : canN l (enM p) (nR l) 0 s
        · exfalso
          have h2 : canN l (hitsP p) (nR l) 0 s = true := hT.can _ (fun e x => by subst e; simp [hitB] at hb) fun e x hx => by
            subst e
            simp only [hitB, hx, Bool.not_false, Bool.true_and] at hb
            simpa only [hitsP, Bool.true_and] using hb
          rw [hc] at h2; cases h2
        · have : hitsV l s p = 0 := by unfold hitsV; rw [hc, hd]; rfl
          rw [h1.2 this] at hb; cases hb
      · rfl
  unfold hitsV
  cases hit with
  | true =>
    simp only [enS, if_true]
    cases h1 : canN l (hitsP p) (nR l) 0 s
    · have h2 := hor.resolve_left (by rw [h1]; decide)
      simp [h2]
    · cases canN l (enM p) (nR l) 0 s <;> simp
  | false =>
    simp only [enS, Bool.false_eq_true, if_false]
    cases h1 : canN l (enM p) (nR l) 0 s
    · simp
    · cases canN l (hitsP p) (nR l) 0 s <;> simp
/-- A pocket of one state. -/
def aloneP (x : St) : Pk := ⟨⟨x.b, x.b⟩, ⟨x.d, x.d⟩⟩
theorem lalone_j (s : St) : Cv Try.prog 55 [.agg #[I s.b, I s.d]] KTrue (.agg #[I s.b, I s.b, I s.d, I s.d]) := by
  refine Cx_of Try.func55 rfl Try.ntmps55 rfl fun w0 M0 => ?_
  refine JC_seq ?_
  refine JC_region ?_
  refine JL_step rfl rfl rfl (jo_box rfl rfl) fun b1 => ?_
  refine JL_step rfl rfl rfl (jo_alloc0 Try.zeroValue62 rfl) fun b2 => ?_
  refine JL_nil ?_
  refine JE_seq ?_
  refine JC_seq ?_
  refine JC_region ?_
  refine JL_pd rfl (det_fieldAddr rfl fo_39_0) ?_
  refine JL_dt rfl (det_loadK rfl Try.isAgg3 rfl) ?_
  refine JL_pd rfl (det_fieldAddr rfl fo_39_0) ?_
  refine JL_dt rfl (det_loadK rfl Try.isAgg3 rfl) ?_
  refine JL_pd rfl (det_build rfl (bld_49_0_1 _ _)) ?_
  refine JL_pd rfl (det_fieldAddr rfl fo_39_1) ?_
  refine JL_dt rfl (det_loadK rfl Try.isAgg3 rfl) ?_
  refine JL_pd rfl (det_fieldAddr rfl fo_39_1) ?_
  refine JL_dt rfl (det_loadK rfl Try.isAgg3 rfl) ?_
  refine JL_pd rfl (det_build rfl (bld_49_0_1 _ _)) ?_
  refine JL_pd rfl (det_build rfl (bld_62_0_1 _ _ _ _)) ?_
  refine JL_step0 rfl rfl (jo_store rfl rfl rfl (by first | (simp only [splice_norm]; done) | (simp only [splice_norm]; rfl) | rfl) Try.sizeOf62 rfl rfl) fun _ => ?_
  refine JL_nil ?_
  refine JE_seq ?_
  refine JC_ret ?_
  refine JE_out (.inl rfl) () (results1 Try.results55 (res_box rfl Try.isAgg62 Try.sizeOf62 rfl)) ?_ (List.Perm.refl _) (fun _ _ => trivial)
  rfl
theorem alone_hit {over : List St} {g : Bool} {x : St} (h : hitB (aloneP x) over g = true) : g = false ∧ over.getLast? = some x := by
  cases g with
  | true => simp [hitB] at h
  | false =>
    refine ⟨rfl, ?_⟩
    cases hl : over.getLast? with
    | none => simp [hitB, hl] at h
    | some y =>
      simp only [hitB, hl, Bool.not_false, Bool.true_and, Bool.and_eq_true] at h
      have h1 := of_decide_eq_true (show decide (x.b ≤ y.b ∧ y.b ≤ x.b) = true from h.1)
      have h2 := of_decide_eq_true (show decide (x.d ≤ y.d ∧ y.d ≤ x.d) = true from h.2)
      exact congrArg some (St.ext'.2 ⟨Int.le_antisymm h1.2 h1.1, Int.le_antisymm h2.2 h2.1⟩)
theorem maxB_ge {xs : List St} {x : St} (hx : x ∈ xs) (h : ∀ y ∈ xs, 0 ≤ y.b) : x.b ≤ maxB xs := by
  induction xs with
  | nil => cases hx
  | cons y ys ih =>
    rw [maxB_cons y ys (h y (by simp))]
    rcases List.mem_cons.1 hx with rfl | hx
    · omega
    · have := ih hx (fun z hz => h z (by simp [hz])); omega
theorem turnV_ends {l : La} {s : St} (V : Valid l) (h0 : isStart l s = true) : (turnV l s).lo ≤ (turnV l s).hi ∧ s.b ≤ (turnV l s).lo := by
  have hon := onL_start h0
  obtain ⟨ts, over, g, hT⟩ := has_truth V (nR l) 0 s hon
  have := hT.turn
  refine ⟨by simp only [turnV]; omega, ?_⟩
  unfold turnV
  cases nR l with
  | zero => simp [turnN, hon]
  | succ n => rw [turnN_on hon]; simp only; omega
set_option maxRecDepth 100000 in
set_option maxHeartbeats 1000000 in
theorem PathEnds_j (l : La) (s : St) (p : Pk) (ha pa : Option Addr) (hc pc : Nat) : Cv Try.prog 15 [.agg #[I l.boards, I l.rows, .slice ha l.hooks.length hc, .slice pa l.patches.length pc], .agg #[I s.b, I s.d], .agg #[I p.boards.lo, I p.boards.hi, I p.dirs.lo, I p.dirs.hi]] (KLane l ha hc pa pc) (.bool true) := by
  refine Cx_of Try.func15 rfl Try.ntmps15 rfl fun w0 M0 => ?_
  refine JC_seq ?_
  refine JC_region ?_
  refine JL_step rfl rfl rfl (jo_box rfl rfl) fun b3 => ?_
  refine JL_step rfl rfl rfl (jo_box rfl rfl) fun b4 => ?_
  refine JL_step rfl rfl rfl (jo_box rfl rfl) fun b5 => ?_
  refine JL_pd rfl (det_assign rfl) ?_
  refine JL_nil ?_
  refine JE_seq ?_
  refine JC_seq ?_
  refine JC_seq ?_
  refine JC_region ?_
  refine JL_dt rfl (det_loadKA rfl Try.isAgg25 Try.sizeOf25 rfl rfl) ?_
  refine JL_dt rfl (det_loadKA rfl Try.isAgg27 Try.sizeOf27 rfl rfl) ?_
  refine JL_step rfl rfl rfl (jo_callv rfl rfl Try.call36 rfl (lready_j l s ha pa hc pc)) fun _ => ?_
  refine JL_pd rfl (det_not rfl) ?_
  refine JL_pd rfl (det_move rfl) ?_
  -- stop: guard 4
  refine JL_join1 4 37 (.bool (!(thin l && decide (startErr l s = 0) && isPocket p))) (fun hj => ?_) ?_
  · refine JL_split (d0 := 33) rfl (fun q1 => ?_) (fun q1 => ?_)
    · refine JL_skip rfl rfl q1 rfl ?_
      refine JL_skip rfl rfl q1 rfl ?_
      refine JL_skip rfl rfl q1 rfl ?_
      refine JL_pd rfl (det_pick_t rfl q1 rfl) ?_
      exact hj (by kernel_rfl) (stsub_consB rfl (by clear hj; first | rfl | (simp only [q1, Bool.and_true, Bool.true_and, Bool.false_and, Bool.and_false, Bool.or_true, Bool.true_or, Bool.or_false, Bool.false_or, Bool.not_true, Bool.not_false]; done) | (simp [q1]; done) | (simp at q1; done) | (simp [q1] <;> omega) | (exfalso; simp at q1; omega)) stsub_nil)
    · refine JL_guard rfl rfl q1 ?_
      refine JL_dt rfl (det_loadKA rfl Try.isAgg57 Try.sizeOf57 rfl rfl) ?_
      refine JL_guard rfl rfl q1 ?_
      refine JL_step rfl rfl rfl (jo_callv rfl rfl Try.call33 rfl (rIsPocket_j p)) fun _ => ?_
      refine JL_guard rfl rfl q1 ?_
      refine JL_pd rfl (det_not rfl) ?_
      refine JL_pd rfl (det_pick_f rfl q1 rfl) ?_
      exact hj (by kernel_rfl) (stsub_consB rfl (by clear hj; first | rfl | (simp only [q1, Bool.and_true, Bool.true_and, Bool.false_and, Bool.and_false, Bool.or_true, Bool.true_or, Bool.or_false, Bool.false_or, Bool.not_true, Bool.not_false]; done) | (simp [q1]; done) | (simp at q1; done) | (simp [q1] <;> omega) | (exfalso; simp at q1; omega)) stsub_nil)
  refine JL_nil ?_
  refine JE_seq ?_
  -- stop: cond
  refine JC_cond rfl (fun h1 => ?_) (fun h1 => ?_)
  · refine JC_seq ?_
    refine JC_region ?_
    refine JL_step rfl rfl rfl (jo_callv rfl rfl Try.call17 rfl (lawake_j)) fun _ => ?_
    refine JL_pd rfl (det_assign rfl) ?_
    refine JL_nil ?_
    refine JE_seq ?_
    refine JC_ret ?_
    refine JE_seq_ret ?_
    -- stop: out
    refine JE_out (.inl rfl) () (results1 Try.results15 (res_tmp rfl)) rfl (List.Perm.refl _) (fun _ _ => trivial)
  · simp only [Bool.not_eq_false', Bool.and_eq_true, decide_eq_true_eq] at h1
    obtain ⟨⟨hthin, he⟩, hp⟩ := h1
    obtain ⟨V, h0⟩ := valid_start he
    have hth : l.patches.length ≤ 12 ∧ l.hooks.length ≤ 6 := by simpa [thin] using hthin
    have r1 := V.r1
    have r2 := V.r2
    have sb : 1 ≤ s.b ∧ s.b ≤ l.boards ∧ -5 ≤ s.d ∧ s.d ≤ 5 := by simpa [isStart] using h0
    have heh : aimErr l s p = 0 := by simp [aimErr, he, hp]
    have hnr : ((nR l : Nat) : Int) = l.rows - 1 := by unfold nR; omega
    have hxl := rowL_len l s (nR l) V
    have hends := turnV_ends V h0
    refine JC_skip ?_
    refine JE_seq ?_
    refine JC_seq ?_
    refine JC_draw [] (by kernel_rfl) ?_
    refine JA_dt (i := 0) rfl (by kernel_rfl) (by kernel_rfl) rfl rfl (det_loadKA rfl Try.isAgg25 Try.sizeOf25 rfl rfl) ?_
    refine JA_dt (i := 2) rfl (by kernel_rfl) (by kernel_rfl) rfl rfl (det_loadKA rfl Try.isAgg27 Try.sizeOf27 rfl rfl) ?_
    refine JA_pd (i := 4) rfl (by kernel_rfl) rfl rfl (det_fieldAddr rfl fo_25_1) ?_
    refine JA_dt (i := 5) rfl (by kernel_rfl) (by kernel_rfl) rfl rfl (det_loadK rfl Try.isAgg3 rfl) ?_
    refine JA_pd (i := 6) rfl (by kernel_rfl) rfl rfl (det_sub rfl rfl ⟨by omega, by omega⟩) ?_
    refine JA_one (i := 1) (by kernel_rfl) rfl rfl (jo_call rfl rfl Try.call19 rfl (lLane_j l ha pa hc pc (by omega) (by omega))) (fun _ => ⟨hsub_drop 0 rfl, fun _ h => h.2⟩) fun x41 => ?_
    refine JA_one (i := 3) (by kernel_rfl) rfl rfl (jo_callv rfl rfl Try.call20 rfl (lStart_j s)) (fun _ => ⟨hsub_refl, fun _ h => h⟩) fun _ => ?_
    -- stop: op  7 t47 := (call (Call (value f18) (t41 t43 t46) (37 39 3)))   <1 3 6 3>   109
    rw [← hnr]
    refine JA_one (i := 7) (by kernel_rfl) rfl rfl (jo_call rfl rfl Try.call18 rfl (Reach_jo l s (nR l) x41.1.1 x41.2.1 x41.1.2 x41.2.2 he (by omega))) (fun _ => ⟨hsub_drop 0 rfl, fun _ h => h.2⟩) fun ⟨ra, rc⟩ => ?_
    refine JA_pd (i := 8) rfl (by kernel_rfl) rfl rfl (det_move rfl) ?_
    refine JA_pd (i := 9) rfl (by kernel_rfl) rfl rfl (det_extract rfl rfl) ?_
    refine JA_pd (i := 10) rfl (by kernel_rfl) rfl rfl (det_extract rfl rfl) ?_
    refine JA_pd (i := 11) rfl (by kernel_rfl) rfl rfl (det_extract rfl rfl) ?_
    refine JA_pd (i := 12) rfl (by kernel_rfl) rfl rfl (det_assign rfl) ?_
    refine JA_pd (i := 13) rfl (by kernel_rfl) rfl rfl (det_assign rfl) ?_
    refine JA_pd (i := 14) rfl (by kernel_rfl) rfl rfl (det_assign rfl) ?_
    refine JA_done (by kernel_rfl) ?_
    refine JE_seq ?_
    refine JC_seq ?_
    -- stop: draw
    refine JC_cutN (γ := Nat) (fun _ => True) (fun b10 => [(10, pt b10), (11, I 0)]) (fun b10 => [bx b10 [I (turnV l s).lo, I (turnV l s).hi]]) (fun K hK => ?_) (fun b10 _ => ?_)
    · refine JC_draw [9] (by kernel_rfl) ?_
      refine JA_dt (i := 0) rfl (by kernel_rfl) (by kernel_rfl) rfl rfl (det_loadKA rfl Try.isAgg25 Try.sizeOf25 rfl rfl) ?_
      refine JA_dt (i := 2) rfl (by kernel_rfl) (by kernel_rfl) rfl rfl (det_loadKA rfl Try.isAgg27 Try.sizeOf27 rfl rfl) ?_
      refine JA_ready (rs := [1, 8]) (by kernel_rfl) rfl ?_
      refine JAl_cons (i := 1) rfl rfl (jo_call rfl rfl Try.call19 rfl (lLane_j l ha pa hc pc (by omega) (by omega))) (fun _ => ⟨hsub_drop 0 rfl, fun _ h => h.2⟩) (fun x53 => ?_) ?_
      · refine JA_ready (rs := [3, 8]) (by kernel_rfl) rfl ?_
        refine JAl_cons (i := 3) rfl rfl (jo_callv rfl rfl Try.call20 rfl (lStart_j s)) (fun _ => ⟨hsub_refl, fun _ h => h⟩) (fun _ => ?_) ?_
        · refine JA_ready (rs := [4, 8]) (by kernel_rfl) rfl ?_
          refine JAl_cons (i := 4) rfl rfl (jo_callv rfl rfl Try.call25 rfl (Turn_jo l s x53.1.1 x53.2.1 x53.1.2 x53.2.2 he)) (fun _ => ⟨hsub_refl, fun _ h => h⟩) (fun _ => ?_) ?_
          · refine JA_pd (i := 5) rfl (by kernel_rfl) rfl rfl (det_move rfl) ?_
            refine JA_pd (i := 6) rfl (by kernel_rfl) rfl rfl (det_extract rfl rfl) ?_
            refine JA_pd (i := 7) rfl (by kernel_rfl) rfl rfl (det_extract rfl rfl) ?_
            refine JA_one (i := 8) (by kernel_rfl) rfl rfl (jo_alloc0 Try.zeroValue49 rfl) (fun _ => ⟨hsub_drop 1 rfl, fun _ h => h⟩) fun b10 => ?_
            refine JA_tail (i := 9) (by kernel_rfl) rfl rfl rfl rfl (jo_store rfl rfl rfl (by first | (simp only [splice_norm]; done) | (simp only [splice_norm]; rfl) | rfl) Try.sizeOf49 rfl rfl) fun _ => ?_
            refine JT_pd (i := 10) rfl (by kernel_rfl) rfl rfl (det_assign rfl) ?_
            refine JT_done (by kernel_rfl) ?_
            exact JE_cutF hK b10 trivial (stsub_cons rfl (stsub_cons rfl stsub_nil)) (ht_cons ht_nil)
          refine JAl_cons (i := 8) rfl rfl (jo_alloc0 Try.zeroValue49 rfl) (fun _ => ⟨hsub_drop 1 rfl, fun _ h => h⟩) (fun b10 => ?_) ?_
          · refine JA_one (i := 4) (by kernel_rfl) rfl rfl (jo_callv rfl rfl Try.call25 rfl (Turn_jo l s x53.1.1 x53.2.1 x53.1.2 x53.2.2 he)) (fun _ => ⟨hsub_refl, fun _ h => h⟩) fun _ => ?_
            refine JA_pd (i := 5) rfl (by kernel_rfl) rfl rfl (det_move rfl) ?_
            refine JA_pd (i := 6) rfl (by kernel_rfl) rfl rfl (det_extract rfl rfl) ?_
            refine JA_pd (i := 7) rfl (by kernel_rfl) rfl rfl (det_extract rfl rfl) ?_
            refine JA_tail (i := 9) (by kernel_rfl) rfl rfl rfl rfl (jo_store rfl rfl rfl (by first | (simp only [splice_norm]; done) | (simp only [splice_norm]; rfl) | rfl) Try.sizeOf49 rfl rfl) fun _ => ?_
            refine JT_pd (i := 10) rfl (by kernel_rfl) rfl rfl (det_assign rfl) ?_
            refine JT_done (by kernel_rfl) ?_
            exact JE_cutF hK b10 trivial (stsub_cons rfl (stsub_cons rfl stsub_nil)) (ht_cons ht_nil)
          exact JAl_nil
        refine JAl_cons (i := 8) rfl rfl (jo_alloc0 Try.zeroValue49 rfl) (fun _ => ⟨hsub_drop 1 rfl, fun _ h => h⟩) (fun b10 => ?_) ?_
        · refine JA_one (i := 3) (by kernel_rfl) rfl rfl (jo_callv rfl rfl Try.call20 rfl (lStart_j s)) (fun _ => ⟨hsub_refl, fun _ h => h⟩) fun _ => ?_
          refine JA_one (i := 4) (by kernel_rfl) rfl rfl (jo_callv rfl rfl Try.call25 rfl (Turn_jo l s x53.1.1 x53.2.1 x53.1.2 x53.2.2 he)) (fun _ => ⟨hsub_refl, fun _ h => h⟩) fun _ => ?_
          refine JA_pd (i := 5) rfl (by kernel_rfl) rfl rfl (det_move rfl) ?_
          refine JA_pd (i := 6) rfl (by kernel_rfl) rfl rfl (det_extract rfl rfl) ?_
          refine JA_pd (i := 7) rfl (by kernel_rfl) rfl rfl (det_extract rfl rfl) ?_
          refine JA_tail (i := 9) (by kernel_rfl) rfl rfl rfl rfl (jo_store rfl rfl rfl (by first | (simp only [splice_norm]; done) | (simp only [splice_norm]; rfl) | rfl) Try.sizeOf49 rfl rfl) fun _ => ?_
          refine JT_pd (i := 10) rfl (by kernel_rfl) rfl rfl (det_assign rfl) ?_
          refine JT_done (by kernel_rfl) ?_
          exact JE_cutF hK b10 trivial (stsub_cons rfl (stsub_cons rfl stsub_nil)) (ht_cons ht_nil)
        exact JAl_nil
      refine JAl_cons (i := 8) rfl rfl (jo_alloc0 Try.zeroValue49 rfl) (fun _ => ⟨hsub_drop 1 rfl, fun _ h => h⟩) (fun b10 => ?_) ?_
      · refine JA_one (i := 1) (by kernel_rfl) rfl rfl (jo_call rfl rfl Try.call19 rfl (lLane_j l ha pa hc pc (by omega) (by omega))) (fun _ => ⟨hsub_drop 0 rfl, fun _ h => h.2⟩) fun x53 => ?_
        refine JA_one (i := 3) (by kernel_rfl) rfl rfl (jo_callv rfl rfl Try.call20 rfl (lStart_j s)) (fun _ => ⟨hsub_refl, fun _ h => h⟩) fun _ => ?_
        refine JA_one (i := 4) (by kernel_rfl) rfl rfl (jo_callv rfl rfl Try.call25 rfl (Turn_jo l s x53.1.1 x53.2.1 x53.1.2 x53.2.2 he)) (fun _ => ⟨hsub_refl, fun _ h => h⟩) fun _ => ?_
        refine JA_pd (i := 5) rfl (by kernel_rfl) rfl rfl (det_move rfl) ?_
        refine JA_pd (i := 6) rfl (by kernel_rfl) rfl rfl (det_extract rfl rfl) ?_
        refine JA_pd (i := 7) rfl (by kernel_rfl) rfl rfl (det_extract rfl rfl) ?_
        refine JA_tail (i := 9) (by kernel_rfl) rfl rfl rfl rfl (jo_store rfl rfl rfl (by first | (simp only [splice_norm]; done) | (simp only [splice_norm]; rfl) | rfl) Try.sizeOf49 rfl rfl) fun _ => ?_
        refine JT_pd (i := 10) rfl (by kernel_rfl) rfl rfl (det_assign rfl) ?_
        refine JT_done (by kernel_rfl) ?_
        exact JE_cutF hK b10 trivial (stsub_cons rfl (stsub_cons rfl stsub_nil)) (ht_cons ht_nil)
      exact JAl_nil
    dsimp only [List.cons_append, List.nil_append]
    refine JC_seq ?_
    refine JC_draw [] (by kernel_rfl) ?_
    refine JA_dt (i := 0) rfl (by kernel_rfl) (by kernel_rfl) rfl rfl (det_loadKA rfl Try.isAgg25 Try.sizeOf25 rfl rfl) ?_
    refine JA_dt (i := 2) rfl (by kernel_rfl) (by kernel_rfl) rfl rfl (det_loadKA rfl Try.isAgg27 Try.sizeOf27 rfl rfl) ?_
    refine JA_dt (i := 4) rfl (by kernel_rfl) (by kernel_rfl) rfl rfl (det_loadKA rfl Try.isAgg57 Try.sizeOf57 rfl rfl) ?_
    refine JA_one (i := 1) (by kernel_rfl) rfl rfl (jo_call rfl rfl Try.call19 rfl (lLane_j l ha pa hc pc (by omega) (by omega))) (fun _ => ⟨hsub_drop 0 rfl, fun _ h => h.2⟩) fun x61 => ?_
    refine JA_one (i := 3) (by kernel_rfl) rfl rfl (jo_callv rfl rfl Try.call20 rfl (lStart_j s)) (fun _ => ⟨hsub_refl, fun _ h => h⟩) fun _ => ?_
    refine JA_one (i := 5) (by kernel_rfl) rfl rfl (jo_callv rfl rfl Try.call30 rfl (lPocket_j p)) (fun _ => ⟨hsub_refl, fun _ h => h⟩) fun _ => ?_
    -- stop: op  6 t66 := (call (Call (value f45) (t61 t63 t65) (37 39 62)))   <1 3 5 5>   111
    refine JA_one (i := 6) (by kernel_rfl) rfl rfl (jo_callv rfl rfl Try.call45 rfl (Hits_jo l s p x61.1.1 x61.2.1 x61.1.2 x61.2.2 heh)) (fun _ => ⟨hsub_refl, fun _ h => h⟩) fun _ => ?_
    refine JA_pd (i := 7) rfl (by kernel_rfl) rfl rfl (det_move rfl) ?_
    refine JA_pd (i := 8) rfl (by kernel_rfl) rfl rfl (det_extract rfl rfl) ?_
    refine JA_pd (i := 9) rfl (by kernel_rfl) rfl rfl (det_extract rfl rfl) ?_
    refine JA_pd (i := 10) rfl (by kernel_rfl) rfl rfl (det_assign rfl) ?_
    refine JA_pd (i := 11) rfl (by kernel_rfl) rfl rfl (det_assign rfl) ?_
    refine JA_done (by kernel_rfl) ?_
    refine JE_seq ?_
    refine JC_seq ?_
    refine JC_seq ?_
    refine JC_region ?_
    refine JL_pd rfl (det_move rfl) ?_
    refine JL_pd rfl (det_neq rfl rfl) ?_
    refine JL_pd rfl (det_move rfl) ?_
    -- stop: guard 2
    refine JL_join1 7 78 (.bool false) (fun hj => ?_) ?_
    · refine JL_split (d0 := 71) rfl (fun q2 => ?_) (fun q2 => ?_)
      · refine JL_skip rfl rfl q2 rfl ?_
        refine JL_skip rfl rfl q2 rfl ?_
        refine JL_pd rfl (det_pick_t rfl q2 rfl) ?_
        refine JL_pd rfl (det_move rfl) ?_
        refine JL_skip rfl rfl rfl rfl ?_
        refine JL_skip rfl rfl rfl rfl ?_
        refine JL_pd rfl (det_pick_t rfl rfl rfl) ?_
        exact hj (by kernel_rfl) (stsub_consB rfl (by clear hj; first | rfl | (simp only [q2, Bool.and_true, Bool.true_and, Bool.false_and, Bool.and_false, Bool.or_true, Bool.true_or, Bool.or_false, Bool.false_or, Bool.not_true, Bool.not_false]; done) | (simp [q2]; done) | (simp at q2; done) | (simp [q2] <;> omega) | (exfalso; simp at q2; omega)) stsub_nil)
      · refine JL_guard rfl rfl q2 ?_
        refine JL_pd rfl (det_move rfl) ?_
        refine JL_guard rfl rfl q2 ?_
        refine JL_pd rfl (det_neq rfl rfl) ?_
        refine JL_pd rfl (det_pick_f rfl q2 rfl) ?_
        refine JL_pd rfl (det_move rfl) ?_
        refine JL_split (d0 := 75) rfl (fun q3 => ?_) (fun q3 => ?_)
        · refine JL_skip rfl rfl q3 rfl ?_
          refine JL_skip rfl rfl q3 rfl ?_
          refine JL_pd rfl (det_pick_t rfl q3 rfl) ?_
          exact hj (by kernel_rfl) (stsub_consB rfl (by clear hj; first | rfl | (simp only [q2, q3, Bool.and_true, Bool.true_and, Bool.false_and, Bool.and_false, Bool.or_true, Bool.true_or, Bool.or_false, Bool.false_or, Bool.not_true, Bool.not_false]; done) | (simp [q2, q3]; done) | (simp at q2; done) | (simp at q3; done) | (simp [q2, q3] <;> omega) | (exfalso; simp at q2 q3; omega) | (simp [q3] at q2; done) | (simp [q2] at q3; done)) stsub_nil)
        · refine JL_guard rfl rfl q3 ?_
          refine JL_pd rfl (det_move rfl) ?_
          refine JL_guard rfl rfl q3 ?_
          refine JL_pd rfl (det_neq rfl rfl) ?_
          refine JL_pd rfl (det_pick_f rfl q3 rfl) ?_
          exact hj (by kernel_rfl) (stsub_consB rfl (by clear hj; first | rfl | (simp only [q2, q3, Bool.and_true, Bool.true_and, Bool.false_and, Bool.and_false, Bool.or_true, Bool.true_or, Bool.or_false, Bool.false_or, Bool.not_true, Bool.not_false]; done) | (simp [q2, q3]; done) | (simp at q2; done) | (simp at q3; done) | (simp [q2, q3] <;> omega) | (exfalso; simp at q2 q3; omega) | (simp [q3] at q2; done) | (simp [q2] at q3; done)) stsub_nil)
    refine JL_nil ?_
    refine JE_seq ?_
    refine JC_condF rfl rfl ?_
    refine JC_skip ?_
    refine JE_seq ?_
    refine JC_seq ?_
    refine JC_seq ?_
    refine JC_region ?_
    refine JL_pd rfl (det_assign rfl) ?_
    refine JL_nil ?_
    refine JE_seq ?_
    refine JC_block ?_
    -- stop: loop
    obtain ⟨X, hX⟩ : ∃ X, X = rowL l s (nR l) := ⟨_, rfl⟩
    rw [← hX] at hxl ⊢
    refine JC_loopF (γ := Nat) (fun i => i ≤ X.length) (fun i => [(14, I i)]) (fun _ => []) (fun i => X.length - i) 0 (by omega) (stsub_cons rfl stsub_nil) ht_nil ?_
    intro i hi K hK
    dsimp only [List.cons_append, List.nil_append]
    refine JC_seq ?_
    refine JC_seq ?_
    refine JC_region ?_
    refine JL_pd rfl (det_move rfl) ?_
    refine JL_pd rfl (det_move rfl) ?_
    refine JL_pd rfl (det_len rfl Try.runUnderlying30) ?_
    refine JL_pd rfl (det_lss rfl rfl) ?_
    refine JL_nil ?_
    refine JE_seq ?_
    -- stop: cond
    refine JC_if rfl (fun h2 => ?_) (fun h2 => ?_)
    · have hi2 : i < X.length := by omega
      obtain ⟨x, hx⟩ : ∃ x, x = X[i] := ⟨_, rfl⟩
      have hxm : x ∈ rowL l s (nR l) := by rw [hx, ← hX]; exact List.getElem_mem _
      have hpa : isPocket (aloneP x) = true := by simp [isPocket, aloneP]
      have hea : aimErr l s (aloneP x) = 0 := by simp [aimErr, he, hpa]
      have hrx := (mem_rowL V h0).1 hxm
      have hcan : canN l (enS (aloneP x) true) (nR l) 0 s = true := by
        obtain ⟨ts', pre, hpl, hT⟩ := rch_truth (onL_start h0) (nR l) 0 x [] [x] false hrx (.last (Rch.on (onL_start h0) hrx))
        rw [Nat.zero_add] at hT
        refine hT.can _ (fun e => by cases e) fun _ y hy => ?_
        rw [List.getLast?_append] at hy
        simp only [List.getLast?_singleton, Option.some_or, Option.some.injEq] at hy
        subst hy
        simp [enS, hitsP, aloneP, inR]
      obtain ⟨over, g, hT, hhb⟩ := show_truth V h0 (aloneP x) true hcan
      obtain ⟨rfl, hlast⟩ := alone_hit hhb
      obtain ⟨ol1, ol2, -, oll⟩ := hT.len
      have ol2 := ol2 rfl
      have hov : (over.length : Int) = l.rows := by omega
      have hlx : over[over.length - 1]'(by omega) = x := by
        have : over[over.length - 1]? = some x := by rw [← List.getLast?_eq_getElem?]; exact hlast
        exact (List.getElem?_eq_some_iff.1 this).2
      have hbd : ∀ (j : Nat) (h : j < over.length), over[j].b ≤ (turnV l s).hi := fun j h => Int.le_trans (maxB_ge (List.getElem_mem h) fun y hy => by have := on_b (hT.allon y hy); omega) hT.turn.2
      have hsl : (showL l s (aloneP x) true).length ≤ 1000 := by have := V.r2; omega
      refine JC_skip ?_
      refine JE_seq ?_
      refine JC_seq ?_
      refine JC_block ?_
      refine JC_seq ?_
      refine JC_draw [] (by kernel_rfl) ?_
      refine JA_dt (i := 0) rfl (by kernel_rfl) (by kernel_rfl) rfl rfl (det_loadKA rfl Try.isAgg25 Try.sizeOf25 rfl rfl) ?_
      refine JA_dt (i := 2) rfl (by kernel_rfl) (by kernel_rfl) rfl rfl (det_loadKA rfl Try.isAgg27 Try.sizeOf27 rfl rfl) ?_
      refine JA_pd (i := 4) rfl (by kernel_rfl) rfl rfl (det_move rfl) ?_
      refine JA_pd (i := 5) rfl (by kernel_rfl) rfl rfl (det_move rfl) ?_
      refine JA_dt (i := 6) rfl (by kernel_rfl) (by kernel_rfl) rfl rfl (det_indexAddr rfl rfl (by first | rfl | omega) (by first | assumption | omega | decide) Try.runUnderlying30 Try.sizeOf39) ?_
      refine JA_dt (i := 7) rfl (by kernel_rfl) (by kernel_rfl) rfl rfl (det_loadEA rfl (by first | assumption | omega | decide) Try.isAgg39 Try.sizeOf39 rfl rfl rfl) ?_
      refine JA_one (i := 1) (by kernel_rfl) rfl rfl (jo_call rfl rfl Try.call19 rfl (lLane_j l ha pa hc pc (by omega) (by omega))) (fun _ => ⟨hsub_drop 0 rfl, fun _ h => h.2⟩) fun x87 => ?_
      refine JA_one (i := 3) (by kernel_rfl) rfl rfl (jo_callv rfl rfl Try.call20 rfl (lStart_j s)) (fun _ => ⟨hsub_refl, fun _ h => h⟩) fun _ => ?_
      -- stop: op  8 t94 := (call (Call (value f55) (t93) (39)))   <7 3>   116
      rw [← hx]
      refine JA_one (i := 8) (by kernel_rfl) rfl rfl (jo_callv rfl rfl Try.call55 rfl (lalone_j x)) (fun _ => ⟨hsub_refl, fun _ h => h⟩) fun _ => ?_
      -- stop: op  9 t95 := (call (Call (value f49) (t87 t89 t94 (bool true)) (37 39 62 4)))   <1 3 8 8>   116
      refine JA_one (i := 9) (by kernel_rfl) rfl rfl (jo_call rfl rfl Try.call49 rfl (Shows_jo l s (aloneP x) true x87.1.1 x87.2.1 x87.1.2 x87.2.2 hea hcan)) (fun _ => ⟨hsub_drop 0 rfl, fun _ h => h.2⟩) fun ⟨ta, tc⟩ => ?_
      refine JA_pd (i := 10) rfl (by kernel_rfl) rfl rfl (det_move rfl) ?_
      refine JA_pd (i := 11) rfl (by kernel_rfl) rfl rfl (det_extract rfl rfl) ?_
      refine JA_pd (i := 12) rfl (by kernel_rfl) rfl rfl (det_extract rfl rfl) ?_
      refine JA_pd (i := 13) rfl (by kernel_rfl) rfl rfl (det_assign rfl) ?_
      refine JA_pd (i := 14) rfl (by kernel_rfl) rfl rfl (det_assign rfl) ?_
      refine JA_done (by kernel_rfl) ?_
      refine JE_seq ?_
      refine JC_seq ?_
      refine JC_draw [] (by kernel_rfl) ?_
      refine JA_dt (i := 0) rfl (by kernel_rfl) (by kernel_rfl) rfl rfl (det_loadKA rfl Try.isAgg25 Try.sizeOf25 rfl rfl) ?_
      refine JA_dt (i := 2) rfl (by kernel_rfl) (by kernel_rfl) rfl rfl (det_loadKA rfl Try.isAgg27 Try.sizeOf27 rfl rfl) ?_
      refine JA_pd (i := 4) rfl (by kernel_rfl) rfl rfl (det_move rfl) ?_
      refine JA_one (i := 1) (by kernel_rfl) rfl rfl (jo_call rfl rfl Try.call19 rfl (lLane_j l ha pa hc pc (by omega) (by omega))) (fun _ => ⟨hsub_drop 0 rfl, fun _ h => h.2⟩) fun x100 => ?_
      refine JA_one (i := 3) (by kernel_rfl) rfl rfl (jo_callv rfl rfl Try.call20 rfl (lStart_j s)) (fun _ => ⟨hsub_refl, fun _ h => h⟩) fun _ => ?_
      -- stop: op  5 t104 := (call (Call (value f43) (t103) (75)))   <4 3>   117
      refine JA_one (i := 5) (by kernel_rfl) rfl rfl (jo_call rfl rfl Try.call43 rfl (lList_j (showL l s (aloneP x) true) ta tc (by omega))) (fun _ => ⟨hsub_drop 0 rfl, fun _ h => h.2⟩) fun ⟨ka, kc⟩ => ?_
      -- stop: op  6 t105 := (call (Call (value f42) (t100 t102 t104) (37 39 75)))   <1 3 5 5>   117
      refine JA_one (i := 6) (by kernel_rfl) rfl rfl (jo_call rfl rfl Try.call42 rfl (Play_jt x100.1.1 x100.2.1 x100.1.2 x100.2.2 ka kc he hT)) (fun _ => ⟨hsub_drop 0 rfl, fun _ h => h.2⟩) fun ⟨oa, oc⟩ => ?_
      refine JA_pd (i := 7) rfl (by kernel_rfl) rfl rfl (det_move rfl) ?_
      refine JA_pd (i := 8) rfl (by kernel_rfl) rfl rfl (det_extract rfl rfl) ?_
      refine JA_pd (i := 9) rfl (by kernel_rfl) rfl rfl (det_extract rfl rfl) ?_
      refine JA_pd (i := 10) rfl (by kernel_rfl) rfl rfl (det_extract rfl rfl) ?_
      refine JA_pd (i := 11) rfl (by kernel_rfl) rfl rfl (det_assign rfl) ?_
      refine JA_pd (i := 12) rfl (by kernel_rfl) rfl rfl (det_assign rfl) ?_
      refine JA_pd (i := 13) rfl (by kernel_rfl) rfl rfl (det_assign rfl) ?_
      refine JA_done (by kernel_rfl) ?_
      refine JE_seq ?_
      refine JC_seq ?_
      refine JC_seq ?_
      refine JC_draw [] (by kernel_rfl) ?_
      refine JA_pd (i := 0) rfl (by kernel_rfl) rfl rfl (det_move rfl) ?_
      refine JA_pd (i := 1) rfl (by kernel_rfl) rfl rfl (det_neq rfl rfl) ?_
      refine JA_pd (i := 2) rfl (by kernel_rfl) rfl rfl (det_move rfl) ?_
      -- stop: guard 2
      skip
      refine JA_is (d0 := 111) false rfl (by first | rfl | (simp [hov]; done)) (fun g1 => ?_)
      refine JA_gpd (i := 3) rfl (by kernel_rfl) rfl rfl rfl rfl g1 (det_move rfl) ?_
      refine JA_gpd (i := 4) rfl (by kernel_rfl) rfl rfl rfl rfl g1 (det_neq rfl rfl) ?_
      refine JA_pd (i := 5) rfl (by kernel_rfl) rfl rfl (det_pick_f rfl g1 rfl) ?_
      refine JA_pd (i := 6) rfl (by kernel_rfl) rfl rfl (det_move rfl) ?_
      refine JA_is (d0 := 115) false rfl (by first | rfl | (simp [hov]; done)) (fun g2 => ?_)
      refine JA_gpd (i := 7) rfl (by kernel_rfl) rfl rfl rfl rfl g2 (det_move rfl) ?_
      refine JA_pd (i := 8) rfl (by kernel_rfl) rfl rfl (det_pick_f rfl g2 rfl) ?_
      refine JA_pd (i := 9) rfl (by kernel_rfl) rfl rfl (det_move rfl) ?_
      refine JA_is (d0 := 118) false rfl (by first | rfl | (simp [hov]; done)) (fun g3 => ?_)
      refine JA_gpd (i := 10) rfl (by kernel_rfl) rfl rfl rfl rfl g3 (det_move rfl) ?_
      refine JA_gpd (i := 11) rfl (by kernel_rfl) rfl rfl rfl rfl g3 (det_len rfl Try.runUnderlying30) ?_
      refine JA_gpd (i := 12) rfl (by kernel_rfl) rfl rfl rfl rfl g3 (det_fieldAddr rfl fo_25_1) ?_
      refine JA_gdt (i := 13) rfl (by kernel_rfl) (by kernel_rfl) rfl rfl rfl rfl g3 (det_loadK rfl Try.isAgg3 rfl) ?_
      refine JA_gpd (i := 14) rfl (by kernel_rfl) rfl rfl rfl rfl g3 (det_neq rfl rfl) ?_
      refine JA_pd (i := 15) rfl (by kernel_rfl) rfl rfl (det_pick_f rfl g3 rfl) ?_
      refine JA_pd (i := 16) rfl (by kernel_rfl) rfl rfl (det_move rfl) ?_
      refine JA_is (d0 := 125) false rfl (by first | rfl | (simp [hov]; done)) (fun g4 => ?_)
      refine JA_gpd (i := 17) rfl (by kernel_rfl) rfl rfl rfl rfl g4 (det_move rfl) ?_
      refine JA_gpd (i := 18) rfl (by kernel_rfl) rfl rfl rfl rfl g4 (det_fieldAddr rfl fo_25_1) ?_
      refine JA_gdt (i := 19) rfl (by kernel_rfl) (by kernel_rfl) rfl rfl rfl rfl g4 (det_loadK rfl Try.isAgg3 rfl) ?_
      refine JA_gpd (i := 20) rfl (by kernel_rfl) rfl rfl rfl rfl g4 (det_sub rfl rfl ⟨by omega, by omega⟩) ?_
      refine JA_gdt (i := 21) rfl (by kernel_rfl) (by kernel_rfl) rfl rfl rfl rfl g4 (det_indexAddr (i := over.length - 1) rfl rfl (by omega) (by omega) Try.runUnderlying30 Try.sizeOf39) ?_
      refine JA_gdt (i := 22) rfl (by kernel_rfl) (by kernel_rfl) rfl rfl rfl rfl g4 (det_loadEA rfl (by first | assumption | omega | decide) Try.isAgg39 Try.sizeOf39 rfl rfl rfl) ?_
      refine JA_gpd (i := 23) rfl (by kernel_rfl) rfl rfl rfl rfl g4 (det_move rfl) ?_
      refine JA_gpd (i := 24) rfl (by kernel_rfl) rfl rfl rfl rfl g4 (det_move rfl) ?_
      refine JA_gdt (i := 25) rfl (by kernel_rfl) (by kernel_rfl) rfl rfl rfl rfl g4 (det_indexAddr rfl rfl (by first | rfl | omega) (by first | assumption | omega | decide) Try.runUnderlying30 Try.sizeOf39) ?_
      refine JA_gdt (i := 26) rfl (by kernel_rfl) (by kernel_rfl) rfl rfl rfl rfl g4 (det_loadEA rfl (by first | assumption | omega | decide) Try.isAgg39 Try.sizeOf39 rfl rfl rfl) ?_
      refine JA_gpd (i := 27) rfl (by kernel_rfl) rfl rfl rfl rfl g4 (det_neqA rfl rfl egt_39 (eqa_39 _ _ _ _)) ?_
      refine JA_pd (i := 28) rfl (by kernel_rfl) rfl rfl (det_pick_f rfl g4 rfl) ?_
      refine JA_done (by kernel_rfl) ?_
      refine JE_seq ?_
      -- stop: cond
      rw [hlx, ← hx]
      refine JC_ifn rfl (fun h3 => ?_) (fun h3 => ?_)
      · exact absurd ⟨rfl, rfl⟩ h3
      · refine JC_skip ?_
        refine JE_seq ?_
        refine JC_seq ?_
        refine JC_region ?_
        refine JL_pd rfl (det_assign rfl) ?_
        refine JL_nil ?_
        refine JE_seq ?_
        refine JC_block ?_
        -- stop: loop
        refine JC_loopF (γ := Nat) (fun j => j ≤ over.length) (fun j => [(20, I j)]) (fun _ => []) (fun j => over.length - j) 0 (by omega) (stsub_cons rfl stsub_nil) ht_nil ?_
        intro j hj K2 hK2
        dsimp only [List.cons_append, List.nil_append]
        refine JC_seq ?_
        refine JC_seq ?_
        refine JC_region ?_
        refine JL_pd rfl (det_move rfl) ?_
        refine JL_pd rfl (det_move rfl) ?_
        refine JL_pd rfl (det_len rfl Try.runUnderlying30) ?_
        refine JL_pd rfl (det_lss rfl rfl) ?_
        refine JL_nil ?_
        refine JE_seq ?_
        -- stop: cond
        refine JC_if rfl (fun h4 => ?_) (fun h4 => ?_)
        · have hj2 : j < over.length := by omega
          have hb := hbd j hj2
          refine JC_skip ?_
          refine JE_seq ?_
          refine JC_seq ?_
          refine JC_block ?_
          refine JC_seq ?_
          refine JC_draw [] (by kernel_rfl) ?_
          refine JA_pd (i := 0) rfl (by kernel_rfl) rfl rfl (det_move rfl) ?_
          refine JA_pd (i := 1) rfl (by kernel_rfl) rfl rfl (det_move rfl) ?_
          refine JA_dt (i := 2) rfl (by kernel_rfl) (by kernel_rfl) rfl rfl (det_indexAddr rfl rfl (by first | rfl | omega) (by first | assumption | omega | decide) Try.runUnderlying30 Try.sizeOf39) ?_
          refine JA_pd (i := 3) rfl (by kernel_rfl) rfl rfl (det_fieldAddrE rfl fo_39_0) ?_
          refine JA_dt (i := 4) rfl (by kernel_rfl) (by kernel_rfl) rfl rfl (det_loadEk rfl (by first | assumption | omega | decide) Try.isAgg3 rfl rfl) ?_
          refine JA_pd (i := 5) rfl (by kernel_rfl) rfl rfl (det_fieldAddr rfl fo_49_1) ?_
          refine JA_dt (i := 6) rfl (by kernel_rfl) (by kernel_rfl) rfl rfl (det_loadK rfl Try.isAgg3 rfl) ?_
          refine JA_pd (i := 7) rfl (by kernel_rfl) rfl rfl (det_gtr rfl rfl) ?_
          refine JA_done (by kernel_rfl) ?_
          refine JE_seq ?_
          -- stop: cond
          refine JC_if rfl (fun h5 => ?_) (fun h5 => ?_)
          · omega
          · refine JC_skip ?_
            refine JE_block ?_
            refine JE_seq ?_
            refine JC_region ?_
            refine JL_pd rfl (det_move rfl) ?_
            refine JL_pd rfl (det_add rfl rfl ⟨by omega, by omega⟩) ?_
            refine JL_pd rfl (det_assign rfl) ?_
            refine JL_nil ?_
            -- stop: end
            refine JE_roundF hK2 (j + 1) (by omega) (by omega) (stsub_consI rfl (by omega) stsub_nil) ht_nil
        · refine JC_exit ?_
          refine JE_seq_exit ?_
          refine JE_then_exit ?_
          refine JE_block_here ?_
          refine JE_block ?_
          refine JE_seq ?_
          refine JC_region ?_
          refine JL_pd rfl (det_move rfl) ?_
          refine JL_pd rfl (det_add rfl rfl ⟨by omega, by omega⟩) ?_
          refine JL_pd rfl (det_assign rfl) ?_
          refine JL_nil ?_
          -- stop: end
          refine JE_roundF hK (i + 1) (by omega) (by omega) (stsub_consI rfl (by omega) stsub_nil) ht_nil
    · refine JC_exit ?_
      refine JE_seq_exit ?_
      refine JE_then_exit ?_
      refine JE_block_here ?_
      refine JE_seq ?_
      refine JC_seq ?_
      refine JC_seq ?_
      refine JC_region ?_
      refine JL_pd rfl (det_assign rfl) ?_
      refine JL_nil ?_
      refine JE_seq ?_
      refine JC_block ?_
      -- stop: loop
      refine JC_loopF (γ := Nat) (fun k => k ≤ 2) (fun k => [(21, I k)]) (fun _ => []) (fun k => 2 - k) 0 (by omega) (stsub_cons rfl stsub_nil) ht_nil ?_
      intro k hk K hK
      dsimp only [List.cons_append, List.nil_append]
      refine JC_seq ?_
      refine JC_seq ?_
      refine JC_region ?_
      refine JL_pd rfl (det_move rfl) ?_
      refine JL_pd rfl (det_lss rfl rfl) ?_
      refine JL_nil ?_
      refine JE_seq ?_
      -- stop: cond
      refine JC_if rfl (fun h3 => ?_) (fun h3 => ?_)
      · obtain ⟨hit, hh⟩ : ∃ hit, hit = decide ((k : Int) = 0) := ⟨_, rfl⟩
        have hk1 : decide ((k : Int) = 1) = !hit := by rw [hh, ← decide_not]; exact decide_eq_decide.2 (by omega)
        have hno := hits_no2 V h0 p hit
        cases hcan : canN l (enS p hit) (nR l) 0 s with
        | false =>
          rw [hcan] at hno
          have hx : (hit && decide (hitsV l s p = 0) || !hit && decide (hitsV l s p = 2)) = true := by
            cases hq : (hit && decide (hitsV l s p = 0) || !hit && decide (hitsV l s p = 2))
            · rw [hq] at hno; cases hno
            · rfl
          refine JC_skip ?_
          refine JE_seq ?_
          refine JC_seq ?_
          refine JC_block ?_
          refine JC_seq ?_
          refine JC_draw [] (by kernel_rfl) ?_
          refine JA_dt (i := 0) rfl (by kernel_rfl) (by kernel_rfl) rfl rfl (det_loadKA rfl Try.isAgg25 Try.sizeOf25 rfl rfl) ?_
          refine JA_dt (i := 2) rfl (by kernel_rfl) (by kernel_rfl) rfl rfl (det_loadKA rfl Try.isAgg27 Try.sizeOf27 rfl rfl) ?_
          refine JA_dt (i := 4) rfl (by kernel_rfl) (by kernel_rfl) rfl rfl (det_loadKA rfl Try.isAgg57 Try.sizeOf57 rfl rfl) ?_
          refine JA_pd (i := 6) rfl (by kernel_rfl) rfl rfl (det_move rfl) ?_
          refine JA_pd (i := 7) rfl (by kernel_rfl) rfl rfl (det_eql rfl rfl) ?_
          refine JA_one (i := 1) (by kernel_rfl) rfl rfl (jo_call rfl rfl Try.call19 rfl (lLane_j l ha pa hc pc (by omega) (by omega))) (fun _ => ⟨hsub_drop 0 rfl, fun _ h => h.2⟩) fun x158 => ?_
          refine JA_one (i := 3) (by kernel_rfl) rfl rfl (jo_callv rfl rfl Try.call20 rfl (lStart_j s)) (fun _ => ⟨hsub_refl, fun _ h => h⟩) fun _ => ?_
          refine JA_one (i := 5) (by kernel_rfl) rfl rfl (jo_callv rfl rfl Try.call30 rfl (lPocket_j p)) (fun _ => ⟨hsub_refl, fun _ h => h⟩) fun _ => ?_
          -- stop: op  8 t165 := (call (Call (value f49) (t158 t160 t162 t164) (37 39 62 4)))   <1 3 5 7 5>   128
          rw [← hh]
          refine JA_one (i := 8) (by kernel_rfl) rfl rfl (jo_callv rfl rfl Try.call49 rfl (Shows_jn l s p hit x158.1.1 x158.2.1 x158.1.2 x158.2.2 heh hcan)) (fun _ => ⟨hsub_refl, fun _ h => h⟩) fun _ => ?_
          refine JA_pd (i := 9) rfl (by kernel_rfl) rfl rfl (det_move rfl) ?_
          refine JA_pd (i := 10) rfl (by kernel_rfl) rfl rfl (det_extract rfl rfl) ?_
          refine JA_pd (i := 11) rfl (by kernel_rfl) rfl rfl (det_extract rfl rfl) ?_
          refine JA_pd (i := 12) rfl (by kernel_rfl) rfl rfl (det_assign rfl) ?_
          refine JA_pd (i := 13) rfl (by kernel_rfl) rfl rfl (det_assign rfl) ?_
          refine JA_done (by kernel_rfl) ?_
          refine JE_seq ?_
          refine JC_seq ?_
          refine JC_seq ?_
          refine JC_region ?_
          refine JL_pd rfl (det_move rfl) ?_
          refine JL_pd rfl (det_eql rfl rfl) ?_
          refine JL_pd rfl (det_move rfl) ?_
          -- stop: guard 2
          rw [← hh]
          refine JL_join1 11 181 (.bool true) (fun hj => ?_) ?_
          · refine JL_split (d0 := 170) rfl (fun q4 => ?_) (fun q4 => ?_)
            · refine JL_guard rfl rfl q4 ?_
              refine JL_pd rfl (det_move rfl) ?_
              refine JL_guard rfl rfl q4 ?_
              refine JL_pd rfl (det_eql rfl rfl) ?_
              refine JL_pd rfl (det_pick_t rfl q4 rfl) ?_
              refine JL_pd rfl (det_move rfl) ?_
              refine JL_split (d0 := 174) rfl (fun q5 => ?_) (fun q5 => ?_)
              · refine JL_skip rfl rfl q5 rfl ?_
                refine JL_skip rfl rfl q5 rfl ?_
                refine JL_skip rfl rfl q5 rfl ?_
                refine JL_skipU rfl rfl rfl ?_
                refine JL_skipU rfl rfl rfl ?_
                refine JL_skip rfl rfl q5 rfl ?_
                refine JL_pd rfl (det_pick_t rfl q5 rfl) ?_
                exact hj (by kernel_rfl) (stsub_consB rfl (by clear hj; first | rfl | (simp only [hk1, hx, q4, q5, Bool.and_true, Bool.true_and, Bool.false_and, Bool.and_false, Bool.or_true, Bool.true_or, Bool.or_false, Bool.false_or, Bool.not_true, Bool.not_false]; done) | (simp [hk1, hx, q4, q5]; done) | (simp [hk1, hx] at q4; done) | (simp [hk1, hx] at q5; done) | (simp [hk1, hx, q4, q5] <;> omega) | (exfalso; simp [hk1, hx] at q4 q5; omega) | (simp [q4, q5] at hk1; done) | (simp [q4, q5] at hx; done) | (simp [q5, hk1, hx] at q4; done) | (simp [q4, hk1, hx] at q5; done) | (simp [q4, q5] at hk1; simp [q4, q5, hk1, hx]; done) | (simp [q4, q5] at hx; simp [q4, q5, hk1, hx]; done)) stsub_nil)
              · refine JL_guard rfl rfl q5 ?_
                refine JL_pd rfl (det_move rfl) ?_
                refine JL_guard rfl rfl q5 ?_
                refine JL_pd rfl (det_eql rfl rfl) ?_
                refine JL_guard rfl rfl q5 ?_
                refine JL_pd rfl (det_move rfl) ?_
                refine JL_split (d0 := 177) rfl (fun q6 => ?_) (fun q6 => ?_)
                · refine JL_guard rfl rfl q6 ?_
                  refine JL_pd rfl (det_move rfl) ?_
                  refine JL_guard rfl rfl q6 ?_
                  refine JL_pd rfl (det_eql rfl rfl) ?_
                  refine JL_guard rfl rfl q5 ?_
                  refine JL_pd rfl (det_pick_t rfl q6 rfl) ?_
                  refine JL_pd rfl (det_pick_f rfl q5 rfl) ?_
                  exact hj (by kernel_rfl) (stsub_consB rfl (by clear hj; first | rfl | (simp only [hk1, hx, q4, q5, q6, Bool.and_true, Bool.true_and, Bool.false_and, Bool.and_false, Bool.or_true, Bool.true_or, Bool.or_false, Bool.false_or, Bool.not_true, Bool.not_false]; done) | (simp [hk1, hx, q4, q5, q6]; done) | (simp [hk1, hx] at q4; done) | (simp [hk1, hx] at q5; done) | (simp [hk1, hx] at q6; done) | (simp [hk1, hx, q4, q5, q6] <;> omega) | (exfalso; simp [hk1, hx] at q4 q5 q6; omega) | (simp [q4, q5, q6] at hk1; done) | (simp [q4, q5, q6] at hx; done) | (simp [q5, q6, hk1, hx] at q4; done) | (simp [q4, q6, hk1, hx] at q5; done) | (simp [q4, q5, hk1, hx] at q6; done) | (simp [q4, q5, q6] at hk1; simp [q4, q5, q6, hk1, hx]; done) | (simp [q4, q5, q6] at hx; simp [q4, q5, q6, hk1, hx]; done)) stsub_nil)
                · refine JL_skip rfl rfl q6 rfl ?_
                  refine JL_skip rfl rfl q6 rfl ?_
                  refine JL_guard rfl rfl q5 ?_
                  refine JL_pd rfl (det_pick_f rfl q6 rfl) ?_
                  refine JL_pd rfl (det_pick_f rfl q5 rfl) ?_
                  exact hj (by kernel_rfl) (stsub_consB rfl (by clear hj; first | rfl | (simp only [hk1, hx, q4, q5, q6, Bool.and_true, Bool.true_and, Bool.false_and, Bool.and_false, Bool.or_true, Bool.true_or, Bool.or_false, Bool.false_or, Bool.not_true, Bool.not_false]; done) | (simp [hk1, hx, q4, q5, q6]; done) | (simp [hk1, hx] at q4; done) | (simp [hk1, hx] at q5; done) | (simp [hk1, hx] at q6; done) | (simp [hk1, hx, q4, q5, q6] <;> omega) | (exfalso; simp [hk1, hx] at q4 q5 q6; omega) | (simp [q4, q5, q6] at hk1; done) | (simp [q4, q5, q6] at hx; done) | (simp [q5, q6, hk1, hx] at q4; done) | (simp [q4, q6, hk1, hx] at q5; done) | (simp [q4, q5, hk1, hx] at q6; done) | (simp [q4, q5, q6] at hk1; simp [q4, q5, q6, hk1, hx]; done) | (simp [q4, q5, q6] at hx; simp [q4, q5, q6, hk1, hx]; done)) stsub_nil)
            · refine JL_skip rfl rfl q4 rfl ?_
              refine JL_skip rfl rfl q4 rfl ?_
              refine JL_pd rfl (det_pick_f rfl q4 rfl) ?_
              refine JL_pd rfl (det_move rfl) ?_
              refine JL_guard rfl rfl rfl ?_
              refine JL_pd rfl (det_move rfl) ?_
              refine JL_guard rfl rfl rfl ?_
              refine JL_pd rfl (det_eql rfl rfl) ?_
              refine JL_guard rfl rfl rfl ?_
              refine JL_pd rfl (det_move rfl) ?_
              refine JL_split (d0 := 177) rfl (fun q7 => ?_) (fun q7 => ?_)
              · refine JL_guard rfl rfl q7 ?_
                refine JL_pd rfl (det_move rfl) ?_
                refine JL_guard rfl rfl q7 ?_
                refine JL_pd rfl (det_eql rfl rfl) ?_
                refine JL_guard rfl rfl rfl ?_
                refine JL_pd rfl (det_pick_t rfl q7 rfl) ?_
                refine JL_pd rfl (det_pick_f rfl rfl rfl) ?_
                exact hj (by kernel_rfl) (stsub_consB rfl (by clear hj; first | rfl | (simp only [hk1, hx, q4, q7, Bool.and_true, Bool.true_and, Bool.false_and, Bool.and_false, Bool.or_true, Bool.true_or, Bool.or_false, Bool.false_or, Bool.not_true, Bool.not_false]; done) | (simp [hk1, hx, q4, q7]; done) | (simp [hk1, hx] at q4; done) | (simp [hk1, hx] at q7; done) | (simp [hk1, hx, q4, q7] <;> omega) | (exfalso; simp [hk1, hx] at q4 q7; omega) | (simp [q4, q7] at hk1; done) | (simp [q4, q7] at hx; done) | (simp [q7, hk1, hx] at q4; done) | (simp [q4, hk1, hx] at q7; done) | (simp [q4, q7] at hk1; simp [q4, q7, hk1, hx]; done) | (simp [q4, q7] at hx; simp [q4, q7, hk1, hx]; done)) stsub_nil)
              · refine JL_skip rfl rfl q7 rfl ?_
                refine JL_skip rfl rfl q7 rfl ?_
                refine JL_guard rfl rfl rfl ?_
                refine JL_pd rfl (det_pick_f rfl q7 rfl) ?_
                refine JL_pd rfl (det_pick_f rfl rfl rfl) ?_
                exact hj (by kernel_rfl) (stsub_consB rfl (by clear hj; first | rfl | (simp only [hk1, hx, q4, q7, Bool.and_true, Bool.true_and, Bool.false_and, Bool.and_false, Bool.or_true, Bool.true_or, Bool.or_false, Bool.false_or, Bool.not_true, Bool.not_false]; done) | (simp [hk1, hx, q4, q7]; done) | (simp [hk1, hx] at q4; done) | (simp [hk1, hx] at q7; done) | (simp [hk1, hx, q4, q7] <;> omega) | (exfalso; simp [hk1, hx] at q4 q7; omega) | (simp [q4, q7] at hk1; done) | (simp [q4, q7] at hx; done) | (simp [q7, hk1, hx] at q4; done) | (simp [q4, hk1, hx] at q7; done) | (simp [q4, q7] at hk1; simp [q4, q7, hk1, hx]; done) | (simp [q4, q7] at hx; simp [q4, q7, hk1, hx]; done)) stsub_nil)
          refine JL_nil ?_
          refine JE_seq ?_
          refine JC_condT rfl rfl ?_
          refine JC_seq ?_
          refine JC_seq ?_
          refine JC_region ?_
          refine JL_pd rfl (det_move rfl) ?_
          refine JL_pd rfl (det_neq rfl rfl) ?_
          refine JL_nil ?_
          refine JE_seq ?_
          -- stop: cond
          refine JC_ifn rfl (fun h5 => ?_) (fun h5 => ?_)
          · exact absurd rfl h5
          · refine JC_skip ?_
            refine JE_seq ?_
            refine JC_exit ?_
            refine JE_seq_exit ?_
            refine JE_block_here ?_
            refine JE_seq ?_
            refine JC_region ?_
            refine JL_pd rfl (det_move rfl) ?_
            refine JL_pd rfl (det_add rfl rfl ⟨by omega, by omega⟩) ?_
            refine JL_pd rfl (det_assign rfl) ?_
            refine JL_nil ?_
            -- stop: end
            refine JE_roundF hK (k + 1) (by omega) (by omega) (stsub_consI rfl (by omega) stsub_nil) ht_nil
        | true =>
          obtain ⟨over, g, hT, hhb⟩ := show_truth V h0 p hit hcan
          rw [hcan] at hno
          have hx : (hit && decide (hitsV l s p = 0) || !hit && decide (hitsV l s p = 2)) = false := by
            cases hq : (hit && decide (hitsV l s p = 0) || !hit && decide (hitsV l s p = 2))
            · rfl
            · rw [hq] at hno; cases hno
          obtain ⟨ol1, ol2, ol3, oll⟩ := hT.len
          have hsl : (showL l s p hit).length ≤ 1000 := by omega
          have olb : over.length ≤ 14 := by cases g with | false => have := ol2 rfl; omega | true => have := ol3 rfl; omega
          have hone : over ≠ [] := hT.ne
          have hH : hitB p over g = (!g && (inR over[over.length - 1].b p.boards && inR over[over.length - 1].d p.dirs)) := by
            unfold hitB
            have : over.getLast? = some over[over.length - 1] := by rw [List.getLast?_eq_getElem?, List.getElem?_eq_getElem (by omega)]
            rw [this]
          refine JC_skip ?_
          refine JE_seq ?_
          refine JC_seq ?_
          refine JC_block ?_
          refine JC_seq ?_
          refine JC_draw [] (by kernel_rfl) ?_
          refine JA_dt (i := 0) rfl (by kernel_rfl) (by kernel_rfl) rfl rfl (det_loadKA rfl Try.isAgg25 Try.sizeOf25 rfl rfl) ?_
          refine JA_dt (i := 2) rfl (by kernel_rfl) (by kernel_rfl) rfl rfl (det_loadKA rfl Try.isAgg27 Try.sizeOf27 rfl rfl) ?_
          refine JA_dt (i := 4) rfl (by kernel_rfl) (by kernel_rfl) rfl rfl (det_loadKA rfl Try.isAgg57 Try.sizeOf57 rfl rfl) ?_
          refine JA_pd (i := 6) rfl (by kernel_rfl) rfl rfl (det_move rfl) ?_
          refine JA_pd (i := 7) rfl (by kernel_rfl) rfl rfl (det_eql rfl rfl) ?_
          refine JA_one (i := 1) (by kernel_rfl) rfl rfl (jo_call rfl rfl Try.call19 rfl (lLane_j l ha pa hc pc (by omega) (by omega))) (fun _ => ⟨hsub_drop 0 rfl, fun _ h => h.2⟩) fun x158 => ?_
          refine JA_one (i := 3) (by kernel_rfl) rfl rfl (jo_callv rfl rfl Try.call20 rfl (lStart_j s)) (fun _ => ⟨hsub_refl, fun _ h => h⟩) fun _ => ?_
          refine JA_one (i := 5) (by kernel_rfl) rfl rfl (jo_callv rfl rfl Try.call30 rfl (lPocket_j p)) (fun _ => ⟨hsub_refl, fun _ h => h⟩) fun _ => ?_
          -- stop: op  8 t165 := (call (Call (value f49) (t158 t160 t162 t164) (37 39 62 4)))   <1 3 5 7 5>   128
          rw [← hh]
          refine JA_one (i := 8) (by kernel_rfl) rfl rfl (jo_call rfl rfl Try.call49 rfl (Shows_jo l s p hit x158.1.1 x158.2.1 x158.1.2 x158.2.2 heh hcan)) (fun _ => ⟨hsub_drop 0 rfl, fun _ h => h.2⟩) fun ⟨ta, tc⟩ => ?_
          refine JA_pd (i := 9) rfl (by kernel_rfl) rfl rfl (det_move rfl) ?_
          refine JA_pd (i := 10) rfl (by kernel_rfl) rfl rfl (det_extract rfl rfl) ?_
          refine JA_pd (i := 11) rfl (by kernel_rfl) rfl rfl (det_extract rfl rfl) ?_
          refine JA_pd (i := 12) rfl (by kernel_rfl) rfl rfl (det_assign rfl) ?_
          refine JA_pd (i := 13) rfl (by kernel_rfl) rfl rfl (det_assign rfl) ?_
          refine JA_done (by kernel_rfl) ?_
          refine JE_seq ?_
          refine JC_seq ?_
          refine JC_seq ?_
          refine JC_region ?_
          refine JL_pd rfl (det_move rfl) ?_
          refine JL_pd rfl (det_eql rfl rfl) ?_
          refine JL_pd rfl (det_move rfl) ?_
          -- stop: guard 2
          rw [← hh]
          refine JL_join1 11 181 (.bool false) (fun hj => ?_) ?_
          · refine JL_split (d0 := 170) rfl (fun q8 => ?_) (fun q8 => ?_)
            · refine JL_guard rfl rfl q8 ?_
              refine JL_pd rfl (det_move rfl) ?_
              refine JL_guard rfl rfl q8 ?_
              refine JL_pd rfl (det_eql rfl rfl) ?_
              refine JL_pd rfl (det_pick_t rfl q8 rfl) ?_
              refine JL_pd rfl (det_move rfl) ?_
              refine JL_split (d0 := 174) rfl (fun q9 => ?_) (fun q9 => ?_)
              · refine JL_skip rfl rfl q9 rfl ?_
                refine JL_skip rfl rfl q9 rfl ?_
                refine JL_skip rfl rfl q9 rfl ?_
                refine JL_skipU rfl rfl rfl ?_
                refine JL_skipU rfl rfl rfl ?_
                refine JL_skip rfl rfl q9 rfl ?_
                refine JL_pd rfl (det_pick_t rfl q9 rfl) ?_
                exact hj (by kernel_rfl) (stsub_consB rfl (by clear hj; first | rfl | (simp only [hk1, hx, q8, q9, Bool.and_true, Bool.true_and, Bool.false_and, Bool.and_false, Bool.or_true, Bool.true_or, Bool.or_false, Bool.false_or, Bool.not_true, Bool.not_false]; done) | (simp [hk1, hx, q8, q9]; done) | (simp [hk1, hx] at q8; done) | (simp [hk1, hx] at q9; done) | (simp [hk1, hx, q8, q9] <;> omega) | (exfalso; simp [hk1, hx] at q8 q9; omega) | (simp [q8, q9] at hk1; done) | (simp [q8, q9] at hx; done) | (simp [q9, hk1, hx] at q8; done) | (simp [q8, hk1, hx] at q9; done) | (simp [q8, q9] at hk1; simp [q8, q9, hk1, hx]; done) | (simp [q8, q9] at hx; simp [q8, q9, hk1, hx]; done)) stsub_nil)
              · refine JL_guard rfl rfl q9 ?_
                refine JL_pd rfl (det_move rfl) ?_
                refine JL_guard rfl rfl q9 ?_
                refine JL_pd rfl (det_eql rfl rfl) ?_
                refine JL_guard rfl rfl q9 ?_
                refine JL_pd rfl (det_move rfl) ?_
                refine JL_split (d0 := 177) rfl (fun q10 => ?_) (fun q10 => ?_)
                · refine JL_guard rfl rfl q10 ?_
                  refine JL_pd rfl (det_move rfl) ?_
                  refine JL_guard rfl rfl q10 ?_
                  refine JL_pd rfl (det_eql rfl rfl) ?_
                  refine JL_guard rfl rfl q9 ?_
                  refine JL_pd rfl (det_pick_t rfl q10 rfl) ?_
                  refine JL_pd rfl (det_pick_f rfl q9 rfl) ?_
                  exact hj (by kernel_rfl) (stsub_consB rfl (by clear hj; first | rfl | (simp only [hk1, hx, q8, q9, q10, Bool.and_true, Bool.true_and, Bool.false_and, Bool.and_false, Bool.or_true, Bool.true_or, Bool.or_false, Bool.false_or, Bool.not_true, Bool.not_false]; done) | (simp [hk1, hx, q8, q9, q10]; done) | (simp [hk1, hx] at q8; done) | (simp [hk1, hx] at q9; done) | (simp [hk1, hx] at q10; done) | (simp [hk1, hx, q8, q9, q10] <;> omega) | (exfalso; simp [hk1, hx] at q8 q9 q10; omega) | (simp [q8, q9, q10] at hk1; done) | (simp [q8, q9, q10] at hx; done) | (simp [q9, q10, hk1, hx] at q8; done) | (simp [q8, q10, hk1, hx] at q9; done) | (simp [q8, q9, hk1, hx] at q10; done) | (simp [q8, q9, q10] at hk1; simp [q8, q9, q10, hk1, hx]; done) | (simp [q8, q9, q10] at hx; simp [q8, q9, q10, hk1, hx]; done)) stsub_nil)
                · refine JL_skip rfl rfl q10 rfl ?_
                  refine JL_skip rfl rfl q10 rfl ?_
                  refine JL_guard rfl rfl q9 ?_
                  refine JL_pd rfl (det_pick_f rfl q10 rfl) ?_
                  refine JL_pd rfl (det_pick_f rfl q9 rfl) ?_
                  exact hj (by kernel_rfl) (stsub_consB rfl (by clear hj; first | rfl | (simp only [hk1, hx, q8, q9, q10, Bool.and_true, Bool.true_and, Bool.false_and, Bool.and_false, Bool.or_true, Bool.true_or, Bool.or_false, Bool.false_or, Bool.not_true, Bool.not_false]; done) | (simp [hk1, hx, q8, q9, q10]; done) | (simp [hk1, hx] at q8; done) | (simp [hk1, hx] at q9; done) | (simp [hk1, hx] at q10; done) | (simp [hk1, hx, q8, q9, q10] <;> omega) | (exfalso; simp [hk1, hx] at q8 q9 q10; omega) | (simp [q8, q9, q10] at hk1; done) | (simp [q8, q9, q10] at hx; done) | (simp [q9, q10, hk1, hx] at q8; done) | (simp [q8, q10, hk1, hx] at q9; done) | (simp [q8, q9, hk1, hx] at q10; done) | (simp [q8, q9, q10] at hk1; simp [q8, q9, q10, hk1, hx]; done) | (simp [q8, q9, q10] at hx; simp [q8, q9, q10, hk1, hx]; done)) stsub_nil)
            · refine JL_skip rfl rfl q8 rfl ?_
              refine JL_skip rfl rfl q8 rfl ?_
              refine JL_pd rfl (det_pick_f rfl q8 rfl) ?_
              refine JL_pd rfl (det_move rfl) ?_
              refine JL_guard rfl rfl rfl ?_
              refine JL_pd rfl (det_move rfl) ?_
              refine JL_guard rfl rfl rfl ?_
              refine JL_pd rfl (det_eql rfl rfl) ?_
              refine JL_guard rfl rfl rfl ?_
              refine JL_pd rfl (det_move rfl) ?_
              refine JL_split (d0 := 177) rfl (fun q11 => ?_) (fun q11 => ?_)
              · refine JL_guard rfl rfl q11 ?_
                refine JL_pd rfl (det_move rfl) ?_
                refine JL_guard rfl rfl q11 ?_
                refine JL_pd rfl (det_eql rfl rfl) ?_
                refine JL_guard rfl rfl rfl ?_
                refine JL_pd rfl (det_pick_t rfl q11 rfl) ?_
                refine JL_pd rfl (det_pick_f rfl rfl rfl) ?_
                exact hj (by kernel_rfl) (stsub_consB rfl (by clear hj; first | rfl | (simp only [hk1, hx, q8, q11, Bool.and_true, Bool.true_and, Bool.false_and, Bool.and_false, Bool.or_true, Bool.true_or, Bool.or_false, Bool.false_or, Bool.not_true, Bool.not_false]; done) | (simp [hk1, hx, q8, q11]; done) | (simp [hk1, hx] at q8; done) | (simp [hk1, hx] at q11; done) | (simp [hk1, hx, q8, q11] <;> omega) | (exfalso; simp [hk1, hx] at q8 q11; omega) | (simp [q8, q11] at hk1; done) | (simp [q8, q11] at hx; done) | (simp [q11, hk1, hx] at q8; done) | (simp [q8, hk1, hx] at q11; done) | (simp [q8, q11] at hk1; simp [q8, q11, hk1, hx]; done) | (simp [q8, q11] at hx; simp [q8, q11, hk1, hx]; done)) stsub_nil)
              · refine JL_skip rfl rfl q11 rfl ?_
                refine JL_skip rfl rfl q11 rfl ?_
                refine JL_guard rfl rfl rfl ?_
                refine JL_pd rfl (det_pick_f rfl q11 rfl) ?_
                refine JL_pd rfl (det_pick_f rfl rfl rfl) ?_
                exact hj (by kernel_rfl) (stsub_consB rfl (by clear hj; first | rfl | (simp only [hk1, hx, q8, q11, Bool.and_true, Bool.true_and, Bool.false_and, Bool.and_false, Bool.or_true, Bool.true_or, Bool.or_false, Bool.false_or, Bool.not_true, Bool.not_false]; done) | (simp [hk1, hx, q8, q11]; done) | (simp [hk1, hx] at q8; done) | (simp [hk1, hx] at q11; done) | (simp [hk1, hx, q8, q11] <;> omega) | (exfalso; simp [hk1, hx] at q8 q11; omega) | (simp [q8, q11] at hk1; done) | (simp [q8, q11] at hx; done) | (simp [q11, hk1, hx] at q8; done) | (simp [q8, hk1, hx] at q11; done) | (simp [q8, q11] at hk1; simp [q8, q11, hk1, hx]; done) | (simp [q8, q11] at hx; simp [q8, q11, hk1, hx]; done)) stsub_nil)
          refine JL_nil ?_
          refine JE_seq ?_
          refine JC_condF rfl rfl ?_
          refine JC_skip ?_
          refine JE_seq ?_
          refine JC_seq ?_
          refine JC_draw [] (by kernel_rfl) ?_
          refine JA_dt (i := 0) rfl (by kernel_rfl) (by kernel_rfl) rfl rfl (det_loadKA rfl Try.isAgg25 Try.sizeOf25 rfl rfl) ?_
          refine JA_dt (i := 2) rfl (by kernel_rfl) (by kernel_rfl) rfl rfl (det_loadKA rfl Try.isAgg27 Try.sizeOf27 rfl rfl) ?_
          refine JA_pd (i := 4) rfl (by kernel_rfl) rfl rfl (det_move rfl) ?_
          refine JA_one (i := 1) (by kernel_rfl) rfl rfl (jo_call rfl rfl Try.call19 rfl (lLane_j l ha pa hc pc (by omega) (by omega))) (fun _ => ⟨hsub_drop 0 rfl, fun _ h => h.2⟩) fun x186 => ?_
          refine JA_one (i := 3) (by kernel_rfl) rfl rfl (jo_callv rfl rfl Try.call20 rfl (lStart_j s)) (fun _ => ⟨hsub_refl, fun _ h => h⟩) fun _ => ?_
          -- stop: op  5 t190 := (call (Call (value f43) (t189) (75)))   <4 3>   135
          refine JA_one (i := 5) (by kernel_rfl) rfl rfl (jo_call rfl rfl Try.call43 rfl (lList_j (showL l s p hit) ta tc (by omega))) (fun _ => ⟨hsub_drop 0 rfl, fun _ h => h.2⟩) fun ⟨ka, kc⟩ => ?_
          -- stop: op  6 t191 := (call (Call (value f42) (t186 t188 t190) (37 39 75)))   <1 3 5 5>   135
          refine JA_one (i := 6) (by kernel_rfl) rfl rfl (jo_call rfl rfl Try.call42 rfl (Play_jt x186.1.1 x186.2.1 x186.1.2 x186.2.2 ka kc he hT)) (fun _ => ⟨hsub_drop 0 rfl, fun _ h => h.2⟩) fun ⟨oa, oc⟩ => ?_
          refine JA_pd (i := 7) rfl (by kernel_rfl) rfl rfl (det_move rfl) ?_
          refine JA_pd (i := 8) rfl (by kernel_rfl) rfl rfl (det_extract rfl rfl) ?_
          refine JA_pd (i := 9) rfl (by kernel_rfl) rfl rfl (det_extract rfl rfl) ?_
          refine JA_pd (i := 10) rfl (by kernel_rfl) rfl rfl (det_extract rfl rfl) ?_
          refine JA_pd (i := 11) rfl (by kernel_rfl) rfl rfl (det_assign rfl) ?_
          refine JA_pd (i := 12) rfl (by kernel_rfl) rfl rfl (det_assign rfl) ?_
          refine JA_pd (i := 13) rfl (by kernel_rfl) rfl rfl (det_assign rfl) ?_
          refine JA_done (by kernel_rfl) ?_
          refine JE_seq ?_
          refine JC_seq ?_
          refine JC_seq ?_
          refine JC_region ?_
          refine JL_pd rfl (det_move rfl) ?_
          refine JL_pd rfl (det_neq rfl rfl) ?_
          refine JL_pd rfl (det_move rfl) ?_
          -- stop: guard 2
          refine JL_join1 8 205 (.bool false) (fun hj => ?_) ?_
          · refine JL_split (d0 := 197) rfl (fun q12 => ?_) (fun q12 => ?_)
            · refine JL_skip rfl rfl q12 rfl ?_
              refine JL_skip rfl rfl q12 rfl ?_
              refine JL_pd rfl (det_pick_t rfl q12 rfl) ?_
              refine JL_pd rfl (det_move rfl) ?_
              refine JL_skip rfl rfl rfl rfl ?_
              refine JL_skip rfl rfl rfl rfl ?_
              refine JL_skip rfl rfl rfl rfl ?_
              refine JL_pd rfl (det_pick_t rfl rfl rfl) ?_
              exact hj (by kernel_rfl) (stsub_consB rfl (by clear hj; first | rfl | (simp only [hone, q12, Bool.and_true, Bool.true_and, Bool.false_and, Bool.and_false, Bool.or_true, Bool.true_or, Bool.or_false, Bool.false_or, Bool.not_true, Bool.not_false]; done) | (simp [hone, q12]; done) | (simp [hone] at q12; done) | (simp [hone, q12] <;> omega) | (exfalso; simp [hone] at q12; omega) | (simp [q12] at hone; done) | (simp [q12] at hone; simp [q12, hone]; done)) stsub_nil)
            · refine JL_guard rfl rfl q12 ?_
              refine JL_pd rfl (det_move rfl) ?_
              refine JL_guard rfl rfl q12 ?_
              refine JL_pd rfl (det_neq rfl rfl) ?_
              refine JL_pd rfl (det_pick_f rfl q12 rfl) ?_
              refine JL_pd rfl (det_move rfl) ?_
              refine JL_split (d0 := 201) rfl (fun q13 => ?_) (fun q13 => ?_)
              · refine JL_skip rfl rfl q13 rfl ?_
                refine JL_skip rfl rfl q13 rfl ?_
                refine JL_skip rfl rfl q13 rfl ?_
                refine JL_pd rfl (det_pick_t rfl q13 rfl) ?_
                exact hj (by kernel_rfl) (stsub_consB rfl (by clear hj; first | rfl | (simp only [hone, q12, q13, Bool.and_true, Bool.true_and, Bool.false_and, Bool.and_false, Bool.or_true, Bool.true_or, Bool.or_false, Bool.false_or, Bool.not_true, Bool.not_false]; done) | (simp [hone, q12, q13]; done) | (simp [hone] at q12; done) | (simp [hone] at q13; done) | (simp [hone, q12, q13] <;> omega) | (exfalso; simp [hone] at q12 q13; omega) | (simp [q12, q13] at hone; done) | (simp [q13, hone] at q12; done) | (simp [q12, hone] at q13; done) | (simp [q12, q13] at hone; simp [q12, q13, hone]; done)) stsub_nil)
              · refine JL_guard rfl rfl q13 ?_
                refine JL_pd rfl (det_move rfl) ?_
                refine JL_guard rfl rfl q13 ?_
                refine JL_pd rfl (det_len rfl Try.runUnderlying30) ?_
                refine JL_guard rfl rfl q13 ?_
                refine JL_pd rfl (det_eql rfl rfl) ?_
                refine JL_pd rfl (det_pick_f rfl q13 rfl) ?_
                exact hj (by kernel_rfl) (stsub_consB rfl (by clear hj; first | rfl | (simp only [hone, q12, q13, Bool.and_true, Bool.true_and, Bool.false_and, Bool.and_false, Bool.or_true, Bool.true_or, Bool.or_false, Bool.false_or, Bool.not_true, Bool.not_false]; done) | (simp [hone, q12, q13]; done) | (simp [hone] at q12; done) | (simp [hone] at q13; done) | (simp [hone, q12, q13] <;> omega) | (exfalso; simp [hone] at q12 q13; omega) | (simp [q12, q13] at hone; done) | (simp [q13, hone] at q12; done) | (simp [q12, hone] at q13; done) | (simp [q12, q13] at hone; simp [q12, q13, hone]; done)) stsub_nil)
          refine JL_nil ?_
          refine JE_seq ?_
          refine JC_condF rfl rfl ?_
          refine JC_skip ?_
          refine JE_seq ?_
          refine JC_seq ?_
          refine JC_region ?_
          refine JL_pd rfl (det_move rfl) ?_
          refine JL_pd rfl (det_move rfl) ?_
          refine JL_pd rfl (det_len rfl Try.runUnderlying30) ?_
          refine JL_pd rfl (det_sub rfl rfl ⟨by omega, by omega⟩) ?_
          refine JL_dt rfl (det_indexAddr (i := over.length - 1) rfl rfl (by omega) (by omega) Try.runUnderlying30 Try.sizeOf39) ?_
          refine JL_dt rfl (det_loadEA rfl (by first | assumption | omega | decide) Try.isAgg39 Try.sizeOf39 rfl rfl rfl) ?_
          refine JL_step rfl rfl rfl (jo_alloc0 Try.zeroValue39 rfl) fun b27 => ?_
          refine JL_step0 rfl rfl (jo_store rfl rfl rfl (by first | (simp only [splice_norm]; done) | (simp only [splice_norm]; rfl) | rfl) Try.sizeOf39 rfl rfl) fun _ => ?_
          refine JL_nil ?_
          refine JE_seq ?_
          refine JC_seq ?_
          refine JC_region ?_
          refine JL_pd rfl (det_move rfl) ?_
          refine JL_pd rfl (det_not rfl) ?_
          refine JL_pd rfl (det_move rfl) ?_
          -- stop: guard 2
          refine JL_join1 22 28 (.bool hit) (fun hj => ?_) ?_
          · refine JL_split (d0 := 214) rfl (fun q14 => ?_) (fun q14 => ?_)
            · refine JL_guard rfl rfl q14 ?_
              refine JL_pd rfl (det_fieldAddr rfl fo_39_0) ?_
              refine JL_guard rfl rfl q14 ?_
              refine JL_dt rfl (det_loadK rfl Try.isAgg3 rfl) ?_
              refine JL_guard rfl rfl q14 ?_
              refine JL_pd rfl (det_fieldAddr rfl fo_57_0) ?_
              refine JL_guard rfl rfl q14 ?_
              refine JL_pd rfl (det_fieldAddr rfl fo_53_0) ?_
              refine JL_guard rfl rfl q14 ?_
              refine JL_dt rfl (det_loadK rfl Try.isAgg3 rfl) ?_
              refine JL_guard rfl rfl q14 ?_
              refine JL_pd rfl (det_fieldAddr rfl fo_57_0) ?_
              refine JL_guard rfl rfl q14 ?_
              refine JL_pd rfl (det_fieldAddr rfl fo_53_1) ?_
              refine JL_guard rfl rfl q14 ?_
              refine JL_dt rfl (det_loadK rfl Try.isAgg3 rfl) ?_
              refine JL_guard rfl rfl q14 ?_
              refine JL_step rfl rfl rfl (jo_callv rfl rfl Try.call22 rfl (rIn_j _ _ _)) fun _ => ?_
              refine JL_pd rfl (det_pick_t rfl q14 rfl) ?_
              refine JL_pd rfl (det_move rfl) ?_
              refine JL_split (d0 := 225) rfl (fun q15 => ?_) (fun q15 => ?_)
              · refine JL_guard rfl rfl q15 ?_
                refine JL_pd rfl (det_fieldAddr rfl fo_39_1) ?_
                refine JL_guard rfl rfl q15 ?_
                refine JL_dt rfl (det_loadK rfl Try.isAgg3 rfl) ?_
                refine JL_guard rfl rfl q15 ?_
                refine JL_pd rfl (det_fieldAddr rfl fo_57_1) ?_
                refine JL_guard rfl rfl q15 ?_
                refine JL_pd rfl (det_fieldAddr rfl fo_53_0) ?_
                refine JL_guard rfl rfl q15 ?_
                refine JL_dt rfl (det_loadK rfl Try.isAgg3 rfl) ?_
                refine JL_guard rfl rfl q15 ?_
                refine JL_pd rfl (det_fieldAddr rfl fo_57_1) ?_
                refine JL_guard rfl rfl q15 ?_
                refine JL_pd rfl (det_fieldAddr rfl fo_53_1) ?_
                refine JL_guard rfl rfl q15 ?_
                refine JL_dt rfl (det_loadK rfl Try.isAgg3 rfl) ?_
                refine JL_guard rfl rfl q15 ?_
                refine JL_step rfl rfl rfl (jo_callv rfl rfl Try.call22 rfl (rIn_j _ _ _)) fun _ => ?_
                refine JL_pd rfl (det_pick_t rfl q15 rfl) ?_
                refine JL_pd rfl (det_assign rfl) ?_
                exact hj (by kernel_rfl) (stsub_consB rfl (by clear hj; rw [← hhb, hH]; first | rfl | (simp only [inR, q14, q15, Bool.not_true, Bool.not_false, Bool.true_and, Bool.false_and, Bool.and_false]; done) | (simp [inR, q14, q15]; done)) stsub_nil)
              · refine JL_skip rfl rfl q15 rfl ?_
                refine JL_skip rfl rfl q15 rfl ?_
                refine JL_skip rfl rfl q15 rfl ?_
                refine JL_skip rfl rfl q15 rfl ?_
                refine JL_skip rfl rfl q15 rfl ?_
                refine JL_skip rfl rfl q15 rfl ?_
                refine JL_skip rfl rfl q15 rfl ?_
                refine JL_skip rfl rfl q15 rfl ?_
                refine JL_skip rfl rfl q15 rfl ?_
                refine JL_pd rfl (det_pick_f rfl q15 rfl) ?_
                refine JL_pd rfl (det_assign rfl) ?_
                exact hj (by kernel_rfl) (stsub_consB rfl (by clear hj; rw [← hhb, hH]; first | rfl | (simp only [inR, q14, q15, Bool.not_true, Bool.not_false, Bool.true_and, Bool.false_and, Bool.and_false]; done) | (simp [inR, q14, q15]; done)) stsub_nil)
            · refine JL_skip rfl rfl q14 rfl ?_
              refine JL_skip rfl rfl q14 rfl ?_
              refine JL_skip rfl rfl q14 rfl ?_
              refine JL_skip rfl rfl q14 rfl ?_
              refine JL_skip rfl rfl q14 rfl ?_
              refine JL_skip rfl rfl q14 rfl ?_
              refine JL_skip rfl rfl q14 rfl ?_
              refine JL_skip rfl rfl q14 rfl ?_
              refine JL_skip rfl rfl q14 rfl ?_
              refine JL_pd rfl (det_pick_f rfl q14 rfl) ?_
              refine JL_pd rfl (det_move rfl) ?_
              refine JL_skip rfl rfl rfl rfl ?_
              refine JL_skip rfl rfl rfl rfl ?_
              refine JL_skip rfl rfl rfl rfl ?_
              refine JL_skip rfl rfl rfl rfl ?_
              refine JL_skip rfl rfl rfl rfl ?_
              refine JL_skip rfl rfl rfl rfl ?_
              refine JL_skip rfl rfl rfl rfl ?_
              refine JL_skip rfl rfl rfl rfl ?_
              refine JL_skip rfl rfl rfl rfl ?_
              refine JL_pd rfl (det_pick_f rfl rfl rfl) ?_
              refine JL_pd rfl (det_assign rfl) ?_
              exact hj (by kernel_rfl) (stsub_consB rfl (by clear hj; rw [← hhb, hH]; first | rfl | (simp only [inR, q14, Bool.not_true, Bool.not_false, Bool.true_and, Bool.false_and, Bool.and_false]; done) | (simp [inR, q14]; done)) stsub_nil)
          refine JL_nil ?_
          refine JE_seq ?_
          refine JC_seq ?_
          refine JC_region ?_
          refine JL_pd rfl (det_move rfl) ?_
          refine JL_pd rfl (det_move rfl) ?_
          refine JL_pd rfl (det_eql rfl rfl) ?_
          refine JL_pd rfl (det_neqB rfl rfl Try.underlying4) ?_
          refine JL_nil ?_
          refine JE_seq ?_
          -- stop: cond
          rw [← hh]
          refine JC_cond rfl (fun h5 => ?_) (fun h5 => ?_)
          · simp at h5
          · refine JC_skip ?_
            refine JE_block ?_
            refine JE_seq ?_
            refine JC_region ?_
            refine JL_pd rfl (det_move rfl) ?_
            refine JL_pd rfl (det_add rfl rfl ⟨by omega, by omega⟩) ?_
            refine JL_pd rfl (det_assign rfl) ?_
            refine JL_nil ?_
            -- stop: end
            refine JE_roundF hK (k + 1) (by omega) (by omega) (stsub_consI rfl (by omega) stsub_nil) ht_nil
      · refine JC_exit ?_
        refine JE_seq_exit ?_
        refine JE_then_exit ?_
        refine JE_block_here ?_
        refine JE_seq ?_
        refine JC_seq ?_
        refine JC_region ?_
        refine JL_pd rfl (det_fieldAddr rfl fo_49_0) ?_
        refine JL_dt rfl (det_loadK rfl Try.isAgg3 rfl) ?_
        refine JL_pd rfl (det_fieldAddr rfl fo_49_1) ?_
        refine JL_dt rfl (det_loadK rfl Try.isAgg3 rfl) ?_
        refine JL_pd rfl (det_leq rfl rfl) ?_
        refine JL_pd rfl (det_move rfl) ?_
        -- stop: guard 5
        refine JL_join1 10 6 (.bool true) (fun hj => ?_) ?_
        · refine JL_split (d0 := 245) rfl (fun q16 => ?_) (fun q16 => ?_)
          · refine JL_guard rfl rfl q16 ?_
            refine JL_pd rfl (det_fieldAddr rfl fo_49_0) ?_
            refine JL_guard rfl rfl q16 ?_
            refine JL_dt rfl (det_loadK rfl Try.isAgg3 rfl) ?_
            refine JL_guard rfl rfl q16 ?_
            refine JL_pd rfl (det_fieldAddr rfl fo_27_0) ?_
            refine JL_guard rfl rfl q16 ?_
            refine JL_dt rfl (det_loadK rfl Try.isAgg3 rfl) ?_
            refine JL_guard rfl rfl q16 ?_
            refine JL_pd rfl (det_geq rfl rfl) ?_
            refine JL_pd rfl (det_pick_t rfl q16 rfl) ?_
            refine JL_pd rfl (det_move rfl) ?_
            refine JL_split (d0 := 252) rfl (fun q17 => ?_) (fun q17 => ?_)
            · refine JL_guard rfl rfl q17 ?_
              refine JL_step rfl rfl rfl (jo_callv rfl rfl Try.call17 rfl (lawake_j)) fun _ => ?_
              refine JL_pd rfl (det_pick_t rfl q17 rfl) ?_
              refine JL_pd rfl (det_assign rfl) ?_
              exact hj (by kernel_rfl) (stsub_consB rfl (by clear hj; first | rfl | (simp only [hends.1, hends.2, q16, q17, Bool.and_true, Bool.true_and, Bool.false_and, Bool.and_false, Bool.or_true, Bool.true_or, Bool.or_false, Bool.false_or, Bool.not_true, Bool.not_false]; done) | (simp [hends.1, hends.2, q16, q17]; done) | (simp [hends.1, hends.2] at q16; done) | (simp [hends.1, hends.2] at q17; done) | (simp [hends.1, hends.2, q16, q17] <;> omega) | (exfalso; simp [hends.1, hends.2] at q16 q17; omega) | (simp [q17, hends.1, hends.2] at q16; done) | (simp [q16, hends.1, hends.2] at q17; done)) stsub_nil)
            · refine JL_skip rfl rfl q17 rfl ?_
              refine JL_pd rfl (det_pick_f rfl q17 rfl) ?_
              refine JL_pd rfl (det_assign rfl) ?_
              exact hj (by kernel_rfl) (stsub_consB rfl (by clear hj; first | rfl | (simp only [hends.1, hends.2, q16, q17, Bool.and_true, Bool.true_and, Bool.false_and, Bool.and_false, Bool.or_true, Bool.true_or, Bool.or_false, Bool.false_or, Bool.not_true, Bool.not_false]; done) | (simp [hends.1, hends.2, q16, q17]; done) | (simp [hends.1, hends.2] at q16; done) | (simp [hends.1, hends.2] at q17; done) | (simp [hends.1, hends.2, q16, q17] <;> omega) | (exfalso; simp [hends.1, hends.2] at q16 q17; omega) | (simp [q17, hends.1, hends.2] at q16; done) | (simp [q16, hends.1, hends.2] at q17; done)) stsub_nil)
          · refine JL_skip rfl rfl q16 rfl ?_
            refine JL_skip rfl rfl q16 rfl ?_
            refine JL_skip rfl rfl q16 rfl ?_
            refine JL_skip rfl rfl q16 rfl ?_
            refine JL_skip rfl rfl q16 rfl ?_
            refine JL_pd rfl (det_pick_f rfl q16 rfl) ?_
            refine JL_pd rfl (det_move rfl) ?_
            refine JL_skip rfl rfl rfl rfl ?_
            refine JL_pd rfl (det_pick_f rfl rfl rfl) ?_
            refine JL_pd rfl (det_assign rfl) ?_
            exact hj (by kernel_rfl) (stsub_consB rfl (by clear hj; first | rfl | (simp only [hends.1, hends.2, q16, Bool.and_true, Bool.true_and, Bool.false_and, Bool.and_false, Bool.or_true, Bool.true_or, Bool.or_false, Bool.false_or, Bool.not_true, Bool.not_false]; done) | (simp [hends.1, hends.2, q16]; done) | (simp [hends.1, hends.2] at q16; done) | (simp [hends.1, hends.2, q16] <;> omega) | (exfalso; simp [hends.1, hends.2] at q16; omega)) stsub_nil)
        refine JL_nil ?_
        refine JE_seq ?_
        refine JC_ret ?_
        -- stop: out
        refine JE_out (.inl rfl) () (results1 Try.results15 (res_tmp rfl)) rfl (List.Perm.refl _) (fun _ _ => trivial)
end Go.Proofs.Ytcfhbnfincpehaa
