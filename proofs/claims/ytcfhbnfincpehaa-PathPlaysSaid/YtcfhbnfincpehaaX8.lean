/- The walk of path: Play. -/
import Derived.Test.YtcfhbnfincpehaaX7
namespace Go.Proofs.Ytcfhbnfincpehaa
open Go.RowKit Go.Shelf

theorem Play_je (l : La) (s : St) (turns : List Int) (ha pa : Option Addr) (hc pc : Nat) (ta : Option Addr) (tc : Nat) (he : startErr l s ≠ 0) : Cv Try.prog 42 [.agg #[I l.boards, I l.rows, .slice ha l.hooks.length hc, .slice pa l.patches.length pc], .agg #[I s.b, I s.d], .slice ta turns.length tc] (KAnd (KSl ta turns.length tc encI turns) (KLane l ha hc pa pc)) (.tuple #[.slice none 0 0, .bool false, I (startErr l s)]) := by
  refine Cx_of Try.func42 rfl Try.ntmps42 rfl fun w0 M0 => ?_
  refine JC_seq ?_
  refine JC_region ?_
  refine JL_step rfl rfl rfl (jo_box rfl rfl) fun b3 => ?_
  refine JL_step rfl rfl rfl (jo_box rfl rfl) fun b4 => ?_
  refine JL_pd rfl (det_assign rfl) ?_
  refine JL_pd rfl (det_assign rfl) ?_
  refine JL_pd rfl (det_assign rfl) ?_
  refine JL_nil ?_
  refine JE_seq ?_
  refine JC_seq ?_
  refine JC_region ?_
  refine JL_dt rfl (det_loadKA rfl Try.isAgg37 Try.sizeOf37 rfl rfl) ?_
  refine JL_dt rfl (det_loadKA rfl Try.isAgg39 Try.sizeOf39 rfl rfl) ?_
  -- stop: op  2 t16 := (call (Call (value f56) (t14 t15) (37 39)))   <0 1>   137
  refine JL_step rfl rfl rfl (jo_callv rfl rfl Try.call56 rfl (started_je l s ha pa hc pc he)) fun _ => ?_
  refine JL_pd rfl (det_move rfl) ?_
  refine JL_pd rfl (det_extract rfl rfl) ?_
  refine JL_pd rfl (det_extract rfl rfl) ?_
  refine JL_step rfl rfl rfl (jo_alloc0 Try.zeroValue107 rfl) fun b9 => ?_
  refine JL_step0 rfl rfl (jo_store rfl rfl rfl (by first | (simp only [splice_norm]; done) | (simp only [splice_norm]; rfl) | rfl) Try.sizeOf107 rfl rfl) fun _ => ?_
  refine JL_pd rfl (det_assign rfl) ?_
  refine JL_nil ?_
  refine JE_seq ?_
  refine JC_seq ?_
  refine JC_seq ?_
  refine JC_region ?_
  refine JL_pd rfl (det_move rfl) ?_
  refine JL_pd rfl (det_neq rfl rfl) ?_
  refine JL_nil ?_
  refine JE_seq ?_
  -- stop: cond
  refine JC_ifn rfl (fun h1 => ?_) (fun h1 => ?_)
  · refine JC_seq ?_
    refine JC_region ?_
    refine JL_pd rfl (det_move rfl) ?_
    refine JL_pd rfl (det_assign rfl) ?_
    refine JL_pd rfl (det_assign rfl) ?_
    refine JL_pd rfl (det_assign rfl) ?_
    refine JL_nil ?_
    refine JE_seq ?_
    refine JC_ret ?_
    refine JE_seq_ret ?_
    -- stop: out
    refine JE_out (.inl rfl) () (results3 Try.results42 (res_tmp rfl) (res_tmp rfl) (res_tmp rfl)) rfl (List.Perm.refl _) (fun _ _ => trivial)
  · refine JC_skip ?_
    refine JE_seq ?_
    refine JC_seq ?_
    refine JC_region ?_
    refine JL_dt rfl (det_loadKA rfl Try.isAgg39 Try.sizeOf39 rfl rfl) ?_
    refine JL_step rfl rfl rfl (jo_alloc0 Try.zeroValue39 rfl) fun b10 => ?_
    refine JL_step0 rfl rfl (jo_store rfl rfl rfl (by first | (simp only [splice_norm]; done) | (simp only [splice_norm]; rfl) | rfl) Try.sizeOf39 rfl rfl) fun _ => ?_
    refine JL_nil ?_
    refine JE_seq ?_
    refine JC_seq ?_
    refine JC_seq ?_
    refine JC_region ?_
    refine JL_pd rfl (det_move rfl) ?_
    refine JL_pd rfl (det_len rfl Try.runUnderlying75) ?_
    refine JL_pd rfl (det_move rfl) ?_
    refine JL_nil ?_
    refine JE_seq ?_
    refine JC_block ?_
    -- stop: loop
    exact absurd h1 he
/-- What Play answers at a start. -/
def playRet (l : La) (s : St) (turns : List Int) (q : Option Addr × Nat) : Value :=
  if (playV l s turns).2.2 = true then .tuple #[.slice q.1 (playV l s turns).1.length q.2, .bool (playV l s turns).2.1, I 0] else .tuple #[.slice none 0 0, .bool false, I 2]
def playPost (l : La) (s : St) (turns : List Int) (q : Option Addr × Nat) : World → Prop := fun w => (playV l s turns).2.2 = true → KSl q.1 (playV l s turns).1.length q.2 encSt (playV l s turns).1 w
set_option maxRecDepth 100000 in
theorem Play_jo (l : La) (s : St) (turns : List Int) (ha pa : Option Addr) (hc pc : Nat) (ta : Option Addr) (tc : Nat) (he : startErr l s = 0) (ht : turns.length ≤ 1000000) : Cr Try.prog 42 [.agg #[I l.boards, I l.rows, .slice ha l.hooks.length hc, .slice pa l.patches.length pc], .agg #[I s.b, I s.d], .slice ta turns.length tc] (KAnd (KSl ta turns.length tc encI turns) (KLane l ha hc pa pc))
    (playRet l s turns) (playPost l s turns) := by
  obtain ⟨V, h0⟩ := valid_start he
  have r1 := V.r1
  have r2 := V.r2
  have b2 := V.b2
  have sb : 1 ≤ s.b ∧ s.b ≤ l.boards ∧ -5 ≤ s.d ∧ s.d ≤ 5 := by simpa [isStart] using h0
  refine Cx_of Try.func42 rfl Try.ntmps42 rfl fun w0 M0 => ?_
  refine JC_seq ?_
  refine JC_region ?_
  refine JL_step rfl rfl rfl (jo_box rfl rfl) fun b3 => ?_
  refine JL_step rfl rfl rfl (jo_box rfl rfl) fun b4 => ?_
  refine JL_pd rfl (det_assign rfl) ?_
  refine JL_pd rfl (det_assign rfl) ?_
  refine JL_pd rfl (det_assign rfl) ?_
  refine JL_nil ?_
  refine JE_seq ?_
  refine JC_seq ?_
  refine JC_region ?_
  refine JL_dt rfl (det_loadKA rfl Try.isAgg37 Try.sizeOf37 rfl rfl) ?_
  refine JL_dt rfl (det_loadKA rfl Try.isAgg39 Try.sizeOf39 rfl rfl) ?_
  -- stop: op  2 t16 := (call (Call (value f56) (t14 t15) (37 39)))   <0 1>   137
  refine JL_step rfl rfl rfl (jo_call rfl rfl Try.call56 rfl (started_jo l s ha pa hc pc he)) fun gb => ?_
  refine JL_pd rfl (det_move rfl) ?_
  refine JL_pd rfl (det_extract rfl rfl) ?_
  refine JL_pd rfl (det_extract rfl rfl) ?_
  refine JL_step rfl rfl rfl (jo_alloc0 Try.zeroValue107 rfl) fun b9 => ?_
  refine JL_step0 rfl rfl (jo_store rfl rfl rfl (by first | (simp only [splice_norm]; done) | (simp only [splice_norm]; rfl) | rfl) Try.sizeOf107 rfl rfl) fun _ => ?_
  refine JL_pd rfl (det_assign rfl) ?_
  refine JL_nil ?_
  refine JE_seq ?_
  refine JC_seq ?_
  refine JC_seq ?_
  refine JC_region ?_
  refine JL_pd rfl (det_move rfl) ?_
  refine JL_pd rfl (det_neq rfl rfl) ?_
  refine JL_nil ?_
  refine JE_seq ?_
  -- stop: cond
  refine JC_ifn rfl (fun h1 => ?_) (fun h1 => ?_)
  · refine JC_seq ?_
    refine JC_region ?_
    refine JL_pd rfl (det_move rfl) ?_
    refine JL_pd rfl (det_assign rfl) ?_
    refine JL_pd rfl (det_assign rfl) ?_
    refine JL_pd rfl (det_assign rfl) ?_
    refine JL_nil ?_
    refine JE_seq ?_
    refine JC_ret ?_
    refine JE_seq_ret ?_
    -- stop: out
    exact absurd rfl h1
  · refine JC_skip ?_
    refine JE_seq ?_
    refine JC_seq ?_
    refine JC_region ?_
    refine JL_dt rfl (det_loadKA rfl Try.isAgg39 Try.sizeOf39 rfl rfl) ?_
    refine JL_step rfl rfl rfl (jo_alloc0 Try.zeroValue39 rfl) fun b10 => ?_
    refine JL_step0 rfl rfl (jo_store rfl rfl rfl (by first | (simp only [splice_norm]; done) | (simp only [splice_norm]; rfl) | rfl) Try.sizeOf39 rfl rfl) fun _ => ?_
    refine JL_nil ?_
    refine JE_seq ?_
    refine JC_seq ?_
    refine JC_seq ?_
    refine JC_region ?_
    refine JL_pd rfl (det_move rfl) ?_
    refine JL_pd rfl (det_len rfl Try.runUnderlying75) ?_
    refine JL_pd rfl (det_move rfl) ?_
    refine JL_nil ?_
    refine JE_seq ?_
    refine JC_block ?_
    -- stop: loop
    refine JC_nil 39 2 ?_
    refine JC_loop (γ := Nat × List St × St × Bool × Value) (I := fun q => q.1 ≤ turns.length ∧ (if q.2.2.2.1 = true then playV l s turns = (q.2.1 ++ [q.2.2.1], true, decide (q.1 = turns.length)) else playR l (q.2.1 ++ [q.2.2.1]) q.2.2.1 (turns.drop q.1) = playV l s turns) ∧ (q.2.1.length : Int) + 1 ≤ l.rows ∧ (1 ≤ q.2.2.1.b ∧ q.2.2.1.b ≤ l.boards) ∧ -5 ≤ q.2.2.1.d ∧ q.2.2.1.d ≤ 5)
      (st' := fun q => [(25, I q.1), (10, pt b10), (9, pt b9), (7, .bool q.2.2.2.1), (6, q.2.2.2.2), (4, pt b4), (3, pt b3), (24, I turns.length), (23, .slice ta turns.length tc)])
      (H' := fun q => [ow q.2.2.2.2 39 2 q.2.1.length (q.2.1.flatMap encSt), bx b10 [I q.2.2.1.b, I q.2.2.1.d], bx b9 [I l.boards, I l.rows, .slice ha l.hooks.length hc, .slice pa l.patches.length pc, .slice (some ⟨gb, 0, none⟩) l.rows.toNat l.rows.toNat]])
      (R' := fun _ => KAnd (KBall l ha hc pa pc gb) (KAnd (KSl ta turns.length tc encI turns) (KLane l ha hc pa pc))) (μ := fun q => turns.length - q.1) (0, [], s, false, .slice none 0 0) ⟨by omega, by simp [playV], by simpa using r1, ⟨sb.1, sb.2.1⟩, sb.2.2⟩
      (stsub_cons rfl (stsub_cons rfl (stsub_cons rfl (stsub_cons rfl (stsub_cons rfl (stsub_cons rfl (stsub_cons rfl (stsub_cons rfl (stsub_cons rfl stsub_nil))))))))) (show HSub _ [ow (.slice none 0 0) 39 2 0 [], bx b10 _, bx b9 _] from (hsub_cons (hsub_cons (hsub_cons hsub_nil)))) Knows.know ?_
    rintro ⟨i, over, s', g, v⟩ ⟨hi, hp, hl2, hsb, hsd⟩ K hK
    dsimp only at hi hp hl2 hsb hsd ⊢
    refine JC_seq ?_
    refine JC_region ?_
    refine JL_pd rfl (det_lss rfl rfl) ?_
    refine JL_nil ?_
    refine JE_seq ?_
    refine JC_seq ?_
    -- stop: cond
    refine JC_if rfl (fun h2 => ?_) (fun h2 => ?_)
    · have hi2 : i < turns.length := by omega
      have hlast : ((over.flatMap encSt ++ [I s'.b, I s'.d]).drop (over.length * 2)).take 2 = [I s'.b, I s'.d] := by
        rw [List.drop_left' (flatMap_len encSt 2 encSt_len over)]; rfl
      have hfst : (over.flatMap encSt ++ [I s'.b, I s'.d]).take (over.length * 2) = over.flatMap encSt := List.take_left' (flatMap_len encSt 2 encSt_len over)
      refine JC_skip ?_
      refine JE_seq ?_
      refine JC_seq ?_
      refine JC_block ?_
      refine JC_seq ?_
      refine JC_region ?_
      refine JL_dt rfl (det_indexAddr rfl rfl (by first | rfl | omega) (by first | assumption | omega | decide) Try.runUnderlying75 Try.sizeOf3) ?_
      refine JL_dt rfl (det_loadE rfl (by first | assumption | omega | decide) Try.isAgg3 rfl rfl) ?_
      refine JL_pd rfl (det_assign rfl) ?_
      refine JL_nil ?_
      refine JE_seq ?_
      refine JC_seq ?_
      refine JC_region ?_
      refine JL_pd rfl (det_move rfl) ?_
      refine JL_dt rfl (det_loadKA rfl Try.isAgg39 Try.sizeOf39 rfl rfl) ?_
      refine JL_step rfl rfl rfl (jo_buildSlice rfl (bsl_30_1_0 _ _)) fun b31 => ?_
      refine JL_step rfl rfl rfl (jo_append el_30 rfl rfl rfl rfl (by omega)) fun b32 => ?_
      refine JL_pd rfl (det_assign rfl) ?_
      refine JL_nil ?_
      refine JE_seq ?_
      refine JC_seq ?_
      refine JC_seq ?_
      refine JC_region ?_
      refine JL_pd rfl (det_move rfl) ?_
      refine JL_pd rfl (det_move rfl) ?_
      -- stop: guard 1
      refine JL_split (d0 := 34) rfl (fun hg => ?_) (fun hg => ?_)
      · have hbad : (playV l s turns).2.2 = false := by
          rw [if_pos hg] at hp
          rw [hp]; simp; omega
        refine JL_skip rfl rfl hg rfl ?_
        refine JL_skip rfl rfl hg rfl ?_
        refine JL_skip rfl rfl hg rfl ?_
        refine JL_skip rfl rfl hg rfl ?_
        refine JL_skip rfl rfl hg rfl ?_
        refine JL_skip rfl rfl hg rfl ?_
        refine JL_pd rfl (det_pick_t rfl hg rfl) ?_
        refine JL_pd rfl (det_move rfl) ?_
        -- stop: guard 9
        refine JL_is (d0 := 42) true rfl (by rfl) (fun hg2 => ?_)
        refine JL_skip rfl rfl hg2 rfl ?_
        refine JL_skip rfl rfl hg2 rfl ?_
        refine JL_skip rfl rfl hg2 rfl ?_
        refine JL_skip rfl rfl hg2 rfl ?_
        refine JL_skip rfl rfl hg2 rfl ?_
        refine JL_skip rfl rfl hg2 rfl ?_
        refine JL_skip rfl rfl hg2 rfl ?_
        refine JL_skip rfl rfl hg2 rfl ?_
        refine JL_skip rfl rfl hg2 rfl ?_
        refine JL_pd rfl (det_pick_t rfl hg2 rfl) ?_
        refine JL_nil ?_
        refine JE_seq ?_
        -- stop: cond
        refine JC_cond rfl (fun h3 => ?_) (fun h3 => ?_)
        · refine JC_seq ?_
          refine JC_region ?_
          refine JL_pd rfl (det_assign rfl) ?_
          refine JL_pd rfl (det_assign rfl) ?_
          refine JL_pd rfl (det_assign rfl) ?_
          refine JL_nil ?_
          refine JE_seq ?_
          refine JC_ret ?_
          refine JE_seq_ret ?_
          refine JE_block_ret ?_
          refine JE_seq_ret ?_
          refine JE_then_ret ?_
          refine JE_block_ret ?_
          refine JE_seq_ret ?_
          -- stop: out
          refine JE_out (.inl rfl) (none, 0) (results3 Try.results42 (res_tmp rfl) (res_tmp rfl) (res_tmp rfl)) (by unfold playRet; rw [if_neg (by rw [hbad]; decide)]) (List.Perm.refl _) (fun w _ h => by rw [hbad] at h; cases h)
        · cases h3
      · rw [if_neg (by rw [hg]; decide), drop_cons hi2] at hp
        have hol : (((over ++ [s']).length : Nat) : Int) = ((over.length + 1 : Nat) : Int) := by simp
        refine JL_guard rfl rfl hg ?_
        refine JL_pd rfl (det_move rfl) ?_
        refine JL_guard rfl rfl hg ?_
        refine JL_pd rfl (det_len rfl Try.runUnderlying30) ?_
        refine JL_guard rfl rfl hg ?_
        refine JL_pd rfl (det_fieldAddr rfl fo_107_0) ?_
        refine JL_guard rfl rfl hg ?_
        refine JL_pd rfl (det_fieldAddr rfl fo_37_1) ?_
        refine JL_guard rfl rfl hg ?_
        refine JL_dt rfl (det_loadK rfl Try.isAgg3 rfl) ?_
        refine JL_guard rfl rfl hg ?_
        refine JL_pd rfl (det_eql rfl rfl) ?_
        refine JL_pd rfl (det_pick_f rfl hg rfl) ?_
        refine JL_pd rfl (det_move rfl) ?_
        -- stop: guard 9
        refine JL_split (d0 := 42) rfl (fun h4 => ?_) (fun h4 => ?_)
        · have hbad : (playV l s turns).2.2 = false := by
            rw [← hp, playR_full _ _ _ (by rw [hol]; simpa using h4)]
          refine JL_skip rfl rfl h4 rfl ?_
          refine JL_skip rfl rfl h4 rfl ?_
          refine JL_skip rfl rfl h4 rfl ?_
          refine JL_skip rfl rfl h4 rfl ?_
          refine JL_skip rfl rfl h4 rfl ?_
          refine JL_skip rfl rfl h4 rfl ?_
          refine JL_skip rfl rfl h4 rfl ?_
          refine JL_skip rfl rfl h4 rfl ?_
          refine JL_skip rfl rfl h4 rfl ?_
          refine JL_pd rfl (det_pick_t rfl h4 rfl) ?_
          refine JL_nil ?_
          refine JE_seq ?_
          -- stop: cond
          refine JC_cond rfl (fun h3 => ?_) (fun h3 => ?_)
          · refine JC_seq ?_
            refine JC_region ?_
            refine JL_pd rfl (det_assign rfl) ?_
            refine JL_pd rfl (det_assign rfl) ?_
            refine JL_pd rfl (det_assign rfl) ?_
            refine JL_nil ?_
            refine JE_seq ?_
            refine JC_ret ?_
            refine JE_seq_ret ?_
            refine JE_block_ret ?_
            refine JE_seq_ret ?_
            refine JE_then_ret ?_
            refine JE_block_ret ?_
            refine JE_seq_ret ?_
            -- stop: out
            refine JE_out (.inl rfl) (none, 0) (results3 Try.results42 (res_tmp rfl) (res_tmp rfl) (res_tmp rfl)) (by unfold playRet; rw [if_neg (by rw [hbad]; decide)]) (List.Perm.refl _) (fun w _ h => by rw [hbad] at h; cases h)
          · cases h3
        · have h4b : ¬ ((over.length + 1 : Nat) : Int) = l.rows := by simpa using h4
          have hh := hookOf_bd V (((over.length + 1 : Nat) : Int) - 1) s'.b
          refine JL_guard rfl rfl h4 ?_
          refine JL_dt rfl (det_loadKA rfl Try.isAgg107 Try.sizeOf107 rfl rfl) ?_
          refine JL_guard rfl rfl h4 ?_
          refine JL_pd rfl (det_move rfl) ?_
          refine JL_guard rfl rfl h4 ?_
          refine JL_pd rfl (det_len rfl Try.runUnderlying30) ?_
          refine JL_guard rfl rfl h4 ?_
          refine JL_pd rfl (det_sub rfl rfl ⟨by omega, by omega⟩) ?_
          refine JL_guard rfl rfl h4 ?_
          refine JL_dt rfl (det_loadKA rfl Try.isAgg39 Try.sizeOf39 rfl rfl) ?_
          refine JL_guard rfl rfl h4 ?_
          -- stop: op 15 t48 := (call (Call (value f80) (t43 t46 t47) (107 3 39)))   <10 13 14 9 9>   144
          refine JL_step rfl rfl rfl (jo_callv rfl rfl Try.call80 rfl (hooks_j l (((over.length + 1 : Nat) : Int) - 1) s' ha pa hc pc gb (by omega) (by omega) (by simp [onL]; omega))) fun _ => ?_
          refine JL_guard rfl rfl h4 ?_
          refine JL_pd rfl (det_move rfl) ?_
          refine JL_guard rfl rfl h4 ?_
          -- stop: op 17 t50 := (call (Call (value f81) (t48 t49) (49 3)))   <15 16 15 9>   144
          refine JL_step rfl rfl rfl (jo_callv rfl rfl Try.call81 rfl (has_j (hookOf l (((over.length + 1 : Nat) : Int) - 1) s'.b) turns[i])) fun _ => ?_
          refine JL_guard rfl rfl h4 ?_
          refine JL_pd rfl (det_not rfl) ?_
          refine JL_pd rfl (det_pick_f rfl h4 rfl) ?_
          refine JL_nil ?_
          refine JE_seq ?_
          -- stop: cond
          refine JC_cond rfl (fun h5 => ?_) (fun h5 => ?_)
          · have hbad : (playV l s turns).2.2 = false := by
              rw [← hp, playR_bad _ (by rw [hol]; simpa using h5)]
            refine JC_seq ?_
            refine JC_region ?_
            refine JL_pd rfl (det_assign rfl) ?_
            refine JL_pd rfl (det_assign rfl) ?_
            refine JL_pd rfl (det_assign rfl) ?_
            refine JL_nil ?_
            refine JE_seq ?_
            refine JC_ret ?_
            refine JE_seq_ret ?_
            refine JE_block_ret ?_
            refine JE_seq_ret ?_
            refine JE_then_ret ?_
            refine JE_block_ret ?_
            refine JE_seq_ret ?_
            -- stop: out
            refine JE_out (.inl rfl) (none, 0) (results3 Try.results42 (res_tmp rfl) (res_tmp rfl) (res_tmp rfl)) (by unfold playRet; rw [if_neg (by rw [hbad]; decide)]) (List.Perm.refl _) (fun w _ h => by rw [hbad] at h; cases h)
          · have hin : inR turns[i] (hookOf l (((over.length + 1 : Nat) : Int) - 1) s'.b) = true := by simpa using h5
            have hin2 : (hookOf l (((over.length + 1 : Nat) : Int) - 1) s'.b).lo ≤ turns[i] ∧ turns[i] ≤ (hookOf l (((over.length + 1 : Nat) : Int) - 1) s'.b).hi := by simpa [inR] using hin
            refine JC_skip ?_
            refine JE_seq ?_
            refine JC_seq ?_
            refine JC_region ?_
            refine JL_dt rfl (det_loadKA rfl Try.isAgg39 Try.sizeOf39 rfl rfl) ?_
            refine JL_pd rfl (det_move rfl) ?_
            -- stop: op  2 t55 := (call (Call (value f82) (t53 t54) (39 3)))   <0 1>   147
            refine JL_step rfl rfl rfl (jo_callv rfl rfl Try.call82 rfl (next_j s' turns[i] hsd.1 hsd.2 (by omega) (by omega) (by omega) (by omega))) fun _ => ?_
            refine JL_step0 rfl rfl (jo_store rfl rfl rfl (by first | (simp only [splice_norm]; done) | (simp only [splice_norm]; rfl) | rfl) Try.sizeOf39 rfl rfl) fun _ => ?_
            refine JL_nil ?_
            refine JE_seq ?_
            refine JC_seq ?_
            refine JC_region ?_
            refine JL_pd rfl (det_fieldAddr rfl fo_107_0) ?_
            refine JL_dt rfl (det_loadKA rfl Try.isAgg37 Try.sizeOf37 rfl rfl) ?_
            refine JL_dt rfl (det_loadKA rfl Try.isAgg39 Try.sizeOf39 rfl rfl) ?_
            -- stop: op  3 t59 := (call (Call (value f65) (t57 t58) (37 39)))   <1 2>   148
            refine JL_step rfl rfl rfl (jo_callv rfl rfl Try.call65 rfl (on_j l ha pa hc pc (nextS s' turns[i]))) fun _ => ?_
            refine JL_pd rfl (det_not rfl) ?_
            refine JL_pd rfl (det_assign rfl) ?_
            refine JL_nil ?_
            refine JE_seq ?_
            refine JC_seq ?_
            refine JC_region ?_
            refine JL_pd rfl (det_move rfl) ?_
            refine JL_nil ?_
            refine JE_seq ?_
            -- stop: cond
            refine JC_cond rfl (fun h6 => ?_) (fun h6 => ?_)
            · have hoff : onL l (nextS s' turns[i]) = false := by simpa using h6
              rw [playR_off _ (by rw [hol]; exact h4b) (by rw [hol]; exact hin) hoff] at hp
              refine JC_seq ?_
              refine JC_region ?_
              refine JL_pd rfl (det_move rfl) ?_
              refine JL_pd rfl (det_move rfl) ?_
              refine JL_pd rfl (det_len rfl Try.runUnderlying30) ?_
              refine JL_pd rfl (det_sub rfl rfl ⟨by omega, by omega⟩) ?_
              refine JL_pd rfl (det_indexOwn (i := over.length) rfl rfl (by first | rfl | omega) (by first | assumption | omega) Try.runUnderlying30 Try.sizeOf39) ?_
              -- stop: op  5 t67 := (load 39 t66)   <4>   149
              refine JL_dt rfl (det_loadOA (vs := [I s'.b, I s'.d]) rfl Try.isAgg39 Try.sizeOf39 hlast rfl) ?_
              refine JL_step0 rfl rfl (jo_store rfl rfl rfl (by first | (simp only [splice_norm]; done) | (simp only [splice_norm]; rfl) | rfl) Try.sizeOf39 rfl rfl) fun _ => ?_
              refine JL_nil ?_
              refine JE_seq ?_
              refine JC_region ?_
              refine JL_pd rfl (det_move rfl) ?_
              refine JL_pd rfl (det_move rfl) ?_
              refine JL_pd rfl (det_len rfl Try.runUnderlying30) ?_
              refine JL_pd rfl (det_sub rfl rfl ⟨by omega, by omega⟩) ?_
              -- stop: op  4 t72 := (slice 30 t68 none (some t71) none)   <0 3>   150
              refine JL_step rfl rfl rfl (jo_sliceTo over.length rfl rfl (by omega) (by omega) Try.runUnderlying30 Try.sizeOf39 (by decide) (.inr (by omega))) fun _ => ?_
              refine JL_pd rfl (det_assign rfl) ?_
              refine JL_nil ?_
              refine JE_block ?_
              refine JE_seq ?_
              refine JC_region ?_
              refine JL_pd rfl (det_add rfl rfl ⟨by omega, by omega⟩) ?_
              refine JL_pd rfl (det_move rfl) ?_
              refine JL_nil ?_
              -- stop: end
              refine JE_round hK (i + 1, over, s', true, .slice (some ⟨b32.1, 0, none⟩) over.length b32.2) ⟨by omega, ?_, hl2, hsb, hsd⟩ (by simp only; omega) ?_ ?_ Knows.know
              · rw [if_pos rfl, ← hp]
                congr 3
                rw [Bool.eq_iff_iff]; simp; omega
              · exact stsub_consI rfl (by simp only; omega) (stsub_cons rfl (stsub_cons rfl (stsub_consB rfl (by simp [hoff]) (stsub_cons rfl (stsub_cons rfl (stsub_cons rfl (stsub_cons rfl (stsub_cons rfl stsub_nil))))))))
              · exact hsub_ow rfl hfst (hsub_cons (hsub_cons hsub_nil))
            · have hon : onL l (nextS s' turns[i]) = true := by simpa using h6
              have hon2 : 1 ≤ (nextS s' turns[i]).b ∧ (nextS s' turns[i]).b ≤ l.boards := by simpa [onL] using hon
              rw [playR_on _ (by rw [hol]; exact h4b) (by rw [hol]; exact hin) hon] at hp
              refine JC_skip ?_
              refine JE_block ?_
              refine JE_seq ?_
              refine JC_region ?_
              refine JL_pd rfl (det_add rfl rfl ⟨by omega, by omega⟩) ?_
              refine JL_pd rfl (det_move rfl) ?_
              refine JL_nil ?_
              -- stop: end
              refine JE_round hK (i + 1, over ++ [s'], nextS s' turns[i], false, .slice (some ⟨b32.1, 0, none⟩) (over.length + 1) b32.2) ⟨by omega, ?_, by simp; omega, hon2, nextS_d _ _⟩ (by simp only; omega) ?_ ?_ Knows.know
              · rw [if_neg (fun h => by cases h)]; exact hp
              · exact stsub_consI rfl (by simp only; omega) (stsub_cons rfl (stsub_cons rfl (stsub_consB rfl (by simp [hon]) (stsub_cons rfl (stsub_cons rfl (stsub_cons rfl (stsub_cons rfl (stsub_cons rfl stsub_nil))))))))
              · exact hsub_ow (by simp) (by simp [encSt]) (hsub_cons (hsub_cons hsub_nil))
    · have hi3 : i = turns.length := by omega
      have hL : over.flatMap encSt ++ [I s'.b, I s'.d] = (over ++ [s']).flatMap encSt := by simp [encSt]
      have hll : over.length + 1 = (over ++ [s']).length := by simp
      cases g with
      | true =>
        rw [if_pos rfl] at hp
        have hok : (playV l s turns).2.2 = true := by rw [hp]; simp [hi3]
        refine JC_exit ?_
        refine JE_seq_exit ?_
        refine JE_then_exit ?_
        refine JE_block_here ?_
        refine JE_seq ?_
        refine JC_seq ?_
        refine JC_seq ?_
        refine JC_region ?_
        refine JL_pd rfl (det_move rfl) ?_
        refine JL_dt rfl (det_loadKA rfl Try.isAgg39 Try.sizeOf39 rfl rfl) ?_
        refine JL_step rfl rfl rfl (jo_buildSlice rfl (bsl_30_1_0 _ _)) fun b76 => ?_
        refine JL_step rfl rfl rfl (jo_append el_30 rfl rfl rfl rfl (by omega)) fun b77 => ?_
        refine JL_pd rfl (det_assign rfl) ?_
        refine JL_nil ?_
        refine JE_seq ?_
        refine JC_seq ?_
        refine JC_region ?_
        refine JL_pd rfl (det_move rfl) ?_
        refine JL_pd rfl (det_not rfl) ?_
        refine JL_pd rfl (det_move rfl) ?_
        -- stop: guard 2
        refine JL_is (d0 := 80) false rfl (by rfl) (fun hg => ?_)
        refine JL_skip rfl rfl hg rfl ?_
        refine JL_skip rfl rfl hg rfl ?_
        refine JL_skip rfl rfl hg rfl ?_
        refine JL_skip rfl rfl hg rfl ?_
        refine JL_skip rfl rfl hg rfl ?_
        refine JL_skip rfl rfl hg rfl ?_
        refine JL_pd rfl (det_pick_f rfl hg rfl) ?_
        refine JL_nil ?_
        refine JE_seq ?_
        -- stop: cond
        refine JC_cond rfl (fun h3 => ?_) (fun h3 => ?_)
        · cases h3
        · refine JC_skip ?_
          refine JE_seq ?_
          refine JC_seq ?_
          refine JC_region ?_
          refine JL_pd rfl (det_move rfl) ?_
          refine JL_pd rfl (det_move rfl) ?_
          refine JL_pd rfl (det_assign rfl) ?_
          refine JL_pd rfl (det_assign rfl) ?_
          refine JL_pd rfl (det_assign rfl) ?_
          refine JL_nil ?_
          refine JE_seq ?_
          refine JC_ret ?_
          -- stop: out
          refine JE_slice (enc := encSt) (v := .slice (some ⟨b77.1, 0, none⟩) (over.length + 1) b77.2) (over ++ [s']) noFp hL hll ?_
          rintro a cap h
          cases h
          refine JE_out (.inl rfl) (some ⟨b77.1, 0, none⟩, b77.2) (results3 Try.results42 (res_tmp rfl) (res_tmp rfl) (res_tmp rfl)) (by unfold playRet; rw [if_pos hok, hp]; simp) (List.Perm.refl _) (fun w h _ => by have := h.1; rw [hp]; simpa using this)
      | false =>
        rw [if_neg (by decide), List.drop_eq_nil_of_le (by omega), playR_nil] at hp
        have hol : (((over ++ [s']).length : Nat) : Int) = ((over.length + 1 : Nat) : Int) := by simp
        refine JC_exit ?_
        refine JE_seq_exit ?_
        refine JE_then_exit ?_
        refine JE_block_here ?_
        refine JE_seq ?_
        refine JC_seq ?_
        refine JC_seq ?_
        refine JC_region ?_
        refine JL_pd rfl (det_move rfl) ?_
        refine JL_dt rfl (det_loadKA rfl Try.isAgg39 Try.sizeOf39 rfl rfl) ?_
        refine JL_step rfl rfl rfl (jo_buildSlice rfl (bsl_30_1_0 _ _)) fun b76 => ?_
        refine JL_step rfl rfl rfl (jo_append el_30 rfl rfl rfl rfl (by omega)) fun b77 => ?_
        refine JL_pd rfl (det_assign rfl) ?_
        refine JL_nil ?_
        refine JE_seq ?_
        refine JC_seq ?_
        refine JC_region ?_
        refine JL_pd rfl (det_move rfl) ?_
        refine JL_pd rfl (det_not rfl) ?_
        refine JL_pd rfl (det_move rfl) ?_
        -- stop: guard 2
        refine JL_is (d0 := 80) true rfl (by rfl) (fun hg => ?_)
        refine JL_guard rfl rfl hg ?_
        refine JL_pd rfl (det_move rfl) ?_
        refine JL_guard rfl rfl hg ?_
        refine JL_pd rfl (det_len rfl Try.runUnderlying30) ?_
        refine JL_guard rfl rfl hg ?_
        refine JL_pd rfl (det_fieldAddr rfl fo_107_0) ?_
        refine JL_guard rfl rfl hg ?_
        refine JL_pd rfl (det_fieldAddr rfl fo_37_1) ?_
        refine JL_guard rfl rfl hg ?_
        refine JL_dt rfl (det_loadK rfl Try.isAgg3 rfl) ?_
        refine JL_guard rfl rfl hg ?_
        refine JL_pd rfl (det_neq rfl rfl) ?_
        refine JL_pd rfl (det_pick_t rfl hg rfl) ?_
        refine JL_nil ?_
        refine JE_seq ?_
        -- stop: cond
        refine JC_ifn rfl (fun h3 => ?_) (fun h3 => ?_)
        · have hbad : (playV l s turns).2.2 = false := by rw [← hp]; simpa using h3
          refine JC_seq ?_
          refine JC_region ?_
          refine JL_pd rfl (det_assign rfl) ?_
          refine JL_pd rfl (det_assign rfl) ?_
          refine JL_pd rfl (det_assign rfl) ?_
          refine JL_nil ?_
          refine JE_seq ?_
          refine JC_ret ?_
          refine JE_seq_ret ?_
          -- stop: out
          refine JE_out (.inl rfl) (none, 0) (results3 Try.results42 (res_tmp rfl) (res_tmp rfl) (res_tmp rfl)) (by unfold playRet; rw [if_neg (by rw [hbad]; decide)]) (List.Perm.refl _) (fun w _ h => by rw [hbad] at h; cases h)
        · have hok : (playV l s turns).2.2 = true := by rw [← hp]; simpa using h3
          refine JC_skip ?_
          refine JE_seq ?_
          refine JC_seq ?_
          refine JC_region ?_
          refine JL_pd rfl (det_move rfl) ?_
          refine JL_pd rfl (det_move rfl) ?_
          refine JL_pd rfl (det_assign rfl) ?_
          refine JL_pd rfl (det_assign rfl) ?_
          refine JL_pd rfl (det_assign rfl) ?_
          refine JL_nil ?_
          refine JE_seq ?_
          refine JC_ret ?_
          -- stop: out
          refine JE_slice (enc := encSt) (v := .slice (some ⟨b77.1, 0, none⟩) (over.length + 1) b77.2) (over ++ [s']) noFp hL hll ?_
          rintro a cap h
          cases h
          refine JE_out (.inl rfl) (some ⟨b77.1, 0, none⟩, b77.2) (results3 Try.results42 (res_tmp rfl) (res_tmp rfl) (res_tmp rfl)) (by unfold playRet; rw [if_pos hok, ← hp]; simp) (List.Perm.refl _) (fun w h _ => by have := h.1; rw [← hp]; simpa using this)
theorem Cr.toCv {P : Program} {f : FuncId} {args : List Value} {pre : World → Prop} {α : Type} {ret : α → Value} {post : α → World → Prop} {v : Value} (h : Cr P f args pre ret post) (hv : ∀ x, ret x = v) : Cv P f args pre v := fun M w a b c d =>
  (h M w a b c d).mono fun e w' ⟨x, M', h1, h2, h3, h4, h5, h6, h7, _⟩ => ⟨(), M', by rw [h1, hv], h2, h3, h4, h5, h6, h7, fun _ _ => trivial⟩
theorem Play_j0 (l : La) (s : St) (turns : List Int) (ha pa : Option Addr) (hc pc : Nat) (ta : Option Addr) (tc : Nat) (he : startErr l s = 0) (ht : turns.length ≤ 1000000) (hb : (playV l s turns).2.2 = false) : Cv Try.prog 42 [.agg #[I l.boards, I l.rows, .slice ha l.hooks.length hc, .slice pa l.patches.length pc], .agg #[I s.b, I s.d], .slice ta turns.length tc] (KAnd (KSl ta turns.length tc encI turns) (KLane l ha hc pa pc)) (.tuple #[.slice none 0 0, .bool false, I 2]) :=
  (Play_jo l s turns ha pa hc pc ta tc he ht).toCv fun q => by unfold playRet; rw [if_neg (by rw [hb]; decide)]
theorem Play_j1 (l : La) (s : St) (turns : List Int) (ha pa : Option Addr) (hc pc : Nat) (ta : Option Addr) (tc : Nat) (he : startErr l s = 0) (ht : turns.length ≤ 1000000) (hb : (playV l s turns).2.2 = true) : Cr Try.prog 42 [.agg #[I l.boards, I l.rows, .slice ha l.hooks.length hc, .slice pa l.patches.length pc], .agg #[I s.b, I s.d], .slice ta turns.length tc] (KAnd (KSl ta turns.length tc encI turns) (KLane l ha hc pa pc))
    (fun q : Option Addr × Nat => .tuple #[.slice q.1 (playV l s turns).1.length q.2, .bool (playV l s turns).2.1, I 0]) (fun q => KSl q.1 (playV l s turns).1.length q.2 encSt (playV l s turns).1) := fun M w a b c d =>
  (Play_jo l s turns ha pa hc pc ta tc he ht M w a b c d).mono fun e w' ⟨x, M', h1, h2, h3, h4, h5, h6, h7, h8⟩ => ⟨x, M', by rw [h1]; unfold playRet; rw [if_pos hb], h2, h3, h4, h5, h6, h7, fun w2 hw => h8 w2 hw hb⟩
end Go.Proofs.Ytcfhbnfincpehaa
