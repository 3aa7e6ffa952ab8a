/- Own texts, laid together: X8 X9 X10 Y1. Nothing is asked. -/
import Derived.Test.YthpkgabckklojaaGreatSC
import Derived.Test.YthpkgabckklojaaGreatS4
set_option linter.unusedSimpArgs false
set_option linter.unusedVariables false
/- The walk of path: Play. -/
namespace Go.Proofs.YthpkgabckklojaaGreat
open Go.RowKit Go.Shelf

theorem Play_je (l : La) (s : St) (turns : List Int) (ha pa : Option Addr) (hc pc : Nat) (ta : Option Addr) (tc : Nat) (he : startErr l s ≠ 0) : Cv Tryz.prog 12 [.agg #[I l.boards, I l.rows, .slice ha l.hooks.length hc, .slice pa l.patches.length pc], .agg #[I s.b, I s.d], .slice ta turns.length tc] (KAnd (KSl ta turns.length tc encI turns) (KLane l ha hc pa pc)) (.tuple #[.slice none 0 0, .bool false, I (startErr l s)]) := by
  refine Cx_of Tryz.func12 rfl Tryz.ntmps12 rfl fun w0 M0 => ?_
  refine JC_seq ?_
  refine JC_region ?_
  refine JL_step rfl rfl rfl (jo_box rfl rfl) fun b3 => ?_
  refine JL_step rfl rfl rfl (jo_box rfl rfl) fun b4 => ?_
  refine JL_pd rfl (det_assign rfl) ?_
  refine JL_pd rfl (det_assign rfl) ?_
  refine JL_pd rfl (det_assign rfl) ?_
  refine JL_nil ?_
  refine JE_seq ?_
  refine JC_seq ?_
  refine JC_region ?_
  refine JL_dt rfl (det_loadKA rfl Tryz.isAgg47 Tryz.sizeOf47 rfl rfl) ?_
  refine JL_dt rfl (det_loadKA rfl Tryz.isAgg49 Tryz.sizeOf49 rfl rfl) ?_
  -- stop: op  2 t16 := (call (Call (value f44) (t14 t15) (47 49)))   <0 1>   137
  refine JL_step rfl rfl rfl (jo_callv rfl rfl Tryz.call44 rfl (started_je l s ha pa hc pc he)) fun _ => ?_
  refine JL_pd rfl (det_move rfl) ?_
  refine JL_pd rfl (det_extract rfl rfl) ?_
  refine JL_pd rfl (det_extract rfl rfl) ?_
  refine JL_step rfl rfl rfl (jo_alloc0 Tryz.zeroValue115 rfl) fun b9 => ?_
  refine JL_step0 rfl rfl (jo_store rfl rfl rfl (by first | (simp only [splice_norm]; done) | (simp only [splice_norm]; rfl) | rfl) Tryz.sizeOf115 rfl rfl) fun _ => ?_
  refine JL_pd rfl (det_assign rfl) ?_
  refine JL_nil ?_
  refine JE_seq ?_
  refine JC_seq ?_
  refine JC_seq ?_
  refine JC_region ?_
  refine JL_pd rfl (det_move rfl) ?_
  refine JL_pd rfl (det_neq rfl rfl) ?_
  refine JL_nil ?_
  refine JE_seq ?_
  -- stop: cond
  refine JC_ifn rfl (fun h1 => ?_) (fun h1 => ?_)
  · refine JC_seq ?_
    refine JC_region ?_
    refine JL_pd rfl (det_move rfl) ?_
    refine JL_pd rfl (det_assign rfl) ?_
    refine JL_pd rfl (det_assign rfl) ?_
    refine JL_pd rfl (det_assign rfl) ?_
    refine JL_nil ?_
    refine JE_seq ?_
    refine JC_ret ?_
    refine JE_seq_ret ?_
    -- stop: out
    refine JE_out (.inl rfl) () (results3 Tryz.results12 (res_tmp rfl) (res_tmp rfl) (res_tmp rfl)) rfl (List.Perm.refl _) (fun _ _ => trivial)
  · refine JC_skip ?_
    refine JE_seq ?_
    refine JC_seq ?_
    refine JC_region ?_
    refine JL_dt rfl (det_loadKA rfl Tryz.isAgg49 Tryz.sizeOf49 rfl rfl) ?_
    refine JL_step rfl rfl rfl (jo_alloc0 Tryz.zeroValue49 rfl) fun b10 => ?_
    refine JL_step0 rfl rfl (jo_store rfl rfl rfl (by first | (simp only [splice_norm]; done) | (simp only [splice_norm]; rfl) | rfl) Tryz.sizeOf49 rfl rfl) fun _ => ?_
    refine JL_nil ?_
    refine JE_seq ?_
    refine JC_seq ?_
    refine JC_seq ?_
    refine JC_region ?_
    refine JL_pd rfl (det_move rfl) ?_
    refine JL_pd rfl (det_len rfl Tryz.runUnderlying31) ?_
    refine JL_pd rfl (det_move rfl) ?_
    refine JL_nil ?_
    refine JE_seq ?_
    refine JC_block ?_
    -- stop: loop
    exact absurd h1 he
/-- What Play answers at a start. -/
def playRet (l : La) (s : St) (turns : List Int) (q : Option Addr × Nat) : Value :=
  if (playV l s turns).2.2 = true then .tuple #[.slice q.1 (playV l s turns).1.length q.2, .bool (playV l s turns).2.1, I 0] else .tuple #[.slice none 0 0, .bool false, I 2]
def playPost (l : La) (s : St) (turns : List Int) (q : Option Addr × Nat) : World → Prop := fun w => (playV l s turns).2.2 = true → KSl q.1 (playV l s turns).1.length q.2 encSt (playV l s turns).1 w
set_option maxRecDepth 100000 in
theorem Play_jo (l : La) (s : St) (turns : List Int) (ha pa : Option Addr) (hc pc : Nat) (ta : Option Addr) (tc : Nat) (he : startErr l s = 0) (ht : turns.length ≤ 1000000) : Cr Tryz.prog 12 [.agg #[I l.boards, I l.rows, .slice ha l.hooks.length hc, .slice pa l.patches.length pc], .agg #[I s.b, I s.d], .slice ta turns.length tc] (KAnd (KSl ta turns.length tc encI turns) (KLane l ha hc pa pc))
    (playRet l s turns) (playPost l s turns) := by
  obtain ⟨V, h0⟩ := valid_start he
  have r1 := V.r1
  have r2 := V.r2
  have b2 := V.b2
  have sb : 1 ≤ s.b ∧ s.b ≤ l.boards ∧ -5 ≤ s.d ∧ s.d ≤ 5 := by simpa [isStart] using h0
  refine Cx_of Tryz.func12 rfl Tryz.ntmps12 rfl fun w0 M0 => ?_
  refine JC_seq ?_
  refine JC_region ?_
  refine JL_step rfl rfl rfl (jo_box rfl rfl) fun b3 => ?_
  refine JL_step rfl rfl rfl (jo_box rfl rfl) fun b4 => ?_
  refine JL_pd rfl (det_assign rfl) ?_
  refine JL_pd rfl (det_assign rfl) ?_
  refine JL_pd rfl (det_assign rfl) ?_
  refine JL_nil ?_
  refine JE_seq ?_
  refine JC_seq ?_
  refine JC_region ?_
  refine JL_dt rfl (det_loadKA rfl Tryz.isAgg47 Tryz.sizeOf47 rfl rfl) ?_
  refine JL_dt rfl (det_loadKA rfl Tryz.isAgg49 Tryz.sizeOf49 rfl rfl) ?_
  -- stop: op  2 t16 := (call (Call (value f44) (t14 t15) (47 49)))   <0 1>   137
  refine JL_step rfl rfl rfl (jo_call rfl rfl Tryz.call44 rfl (started_jo l s ha pa hc pc he)) fun gb => ?_
  refine JL_pd rfl (det_move rfl) ?_
  refine JL_pd rfl (det_extract rfl rfl) ?_
  refine JL_pd rfl (det_extract rfl rfl) ?_
  refine JL_step rfl rfl rfl (jo_alloc0 Tryz.zeroValue115 rfl) fun b9 => ?_
  refine JL_step0 rfl rfl (jo_store rfl rfl rfl (by first | (simp only [splice_norm]; done) | (simp only [splice_norm]; rfl) | rfl) Tryz.sizeOf115 rfl rfl) fun _ => ?_
  refine JL_pd rfl (det_assign rfl) ?_
  refine JL_nil ?_
  refine JE_seq ?_
  refine JC_seq ?_
  refine JC_seq ?_
  refine JC_region ?_
  refine JL_pd rfl (det_move rfl) ?_
  refine JL_pd rfl (det_neq rfl rfl) ?_
  refine JL_nil ?_
  refine JE_seq ?_
  -- stop: cond
  refine JC_ifn rfl (fun h1 => ?_) (fun h1 => ?_)
  · refine JC_seq ?_
    refine JC_region ?_
    refine JL_pd rfl (det_move rfl) ?_
    refine JL_pd rfl (det_assign rfl) ?_
    refine JL_pd rfl (det_assign rfl) ?_
    refine JL_pd rfl (det_assign rfl) ?_
    refine JL_nil ?_
    refine JE_seq ?_
    refine JC_ret ?_
    refine JE_seq_ret ?_
    -- stop: out
    exact absurd rfl h1
  · refine JC_skip ?_
    refine JE_seq ?_
    refine JC_seq ?_
    refine JC_region ?_
    refine JL_dt rfl (det_loadKA rfl Tryz.isAgg49 Tryz.sizeOf49 rfl rfl) ?_
    refine JL_step rfl rfl rfl (jo_alloc0 Tryz.zeroValue49 rfl) fun b10 => ?_
    refine JL_step0 rfl rfl (jo_store rfl rfl rfl (by first | (simp only [splice_norm]; done) | (simp only [splice_norm]; rfl) | rfl) Tryz.sizeOf49 rfl rfl) fun _ => ?_
    refine JL_nil ?_
    refine JE_seq ?_
    refine JC_seq ?_
    refine JC_seq ?_
    refine JC_region ?_
    refine JL_pd rfl (det_move rfl) ?_
    refine JL_pd rfl (det_len rfl Tryz.runUnderlying31) ?_
    refine JL_pd rfl (det_move rfl) ?_
    refine JL_nil ?_
    refine JE_seq ?_
    refine JC_block ?_
    -- stop: loop
    refine JC_nil 49 2 ?_
    refine JC_loop (γ := Nat × List St × St × Bool × Value) (I := fun q => q.1 ≤ turns.length ∧ (if q.2.2.2.1 = true then playV l s turns = (q.2.1 ++ [q.2.2.1], true, decide (q.1 = turns.length)) else playR l (q.2.1 ++ [q.2.2.1]) q.2.2.1 (turns.drop q.1) = playV l s turns) ∧ (q.2.1.length : Int) + 1 ≤ l.rows ∧ (1 ≤ q.2.2.1.b ∧ q.2.2.1.b ≤ l.boards) ∧ -5 ≤ q.2.2.1.d ∧ q.2.2.1.d ≤ 5)
      (st' := fun q => [(25, I q.1), (10, pt b10), (9, pt b9), (7, .bool q.2.2.2.1), (6, q.2.2.2.2), (4, pt b4), (3, pt b3), (24, I turns.length), (23, .slice ta turns.length tc)])
      (H' := fun q => [ow q.2.2.2.2 49 2 q.2.1.length (q.2.1.flatMap encSt), bx b10 [I q.2.2.1.b, I q.2.2.1.d], bx b9 [I l.boards, I l.rows, .slice ha l.hooks.length hc, .slice pa l.patches.length pc, .slice (some ⟨gb, 0, none⟩) l.rows.toNat l.rows.toNat]])
      (R' := fun _ => KAnd (KBall l ha hc pa pc gb) (KAnd (KSl ta turns.length tc encI turns) (KLane l ha hc pa pc))) (μ := fun q => turns.length - q.1) (0, [], s, false, .slice none 0 0) ⟨by omega, by simp [playV], by simpa using r1, ⟨sb.1, sb.2.1⟩, sb.2.2⟩
      (stsub_cons rfl (stsub_cons rfl (stsub_cons rfl (stsub_cons rfl (stsub_cons rfl (stsub_cons rfl (stsub_cons rfl (stsub_cons rfl (stsub_cons rfl stsub_nil))))))))) (show HSub _ [ow (.slice none 0 0) 49 2 0 [], bx b10 _, bx b9 _] from (hsub_cons (hsub_cons (hsub_cons hsub_nil)))) Knows.know ?_
    rintro ⟨i, over, s', g, v⟩ ⟨hi, hp, hl2, hsb, hsd⟩ K hK
    dsimp only at hi hp hl2 hsb hsd ⊢
    refine JC_seq ?_
    refine JC_region ?_
    refine JL_pd rfl (det_lss rfl rfl) ?_
    refine JL_nil ?_
    refine JE_seq ?_
    refine JC_seq ?_
    -- stop: cond
    refine JC_if rfl (fun h2 => ?_) (fun h2 => ?_)
    · have hi2 : i < turns.length := by omega
      have hlast : ((over.flatMap encSt ++ [I s'.b, I s'.d]).drop (over.length * 2)).take 2 = [I s'.b, I s'.d] := by
        rw [List.drop_left' (flatMap_len encSt 2 encSt_len over)]; rfl
      have hfst : (over.flatMap encSt ++ [I s'.b, I s'.d]).take (over.length * 2) = over.flatMap encSt := List.take_left' (flatMap_len encSt 2 encSt_len over)
      refine JC_skip ?_
      refine JE_seq ?_
      refine JC_seq ?_
      refine JC_block ?_
      refine JC_seq ?_
      refine JC_region ?_
      refine JL_dt rfl (det_indexAddr rfl rfl (by first | rfl | omega) (by first | assumption | omega | decide) Tryz.runUnderlying31 Tryz.sizeOf3) ?_
      refine JL_dt rfl (det_loadE rfl (by first | assumption | omega | decide) Tryz.isAgg3 rfl rfl) ?_
      refine JL_pd rfl (det_assign rfl) ?_
      refine JL_nil ?_
      refine JE_seq ?_
      refine JC_seq ?_
      refine JC_region ?_
      refine JL_pd rfl (det_move rfl) ?_
      refine JL_dt rfl (det_loadKA rfl Tryz.isAgg49 Tryz.sizeOf49 rfl rfl) ?_
      refine JL_step rfl rfl rfl (jo_buildSlice rfl (bsl_40_1_0 _ _)) fun b31 => ?_
      refine JL_step rfl rfl rfl (jo_append el_40 rfl rfl rfl rfl (by omega)) fun b32 => ?_
      refine JL_pd rfl (det_assign rfl) ?_
      refine JL_nil ?_
      refine JE_seq ?_
      refine JC_seq ?_
      refine JC_seq ?_
      refine JC_region ?_
      refine JL_pd rfl (det_move rfl) ?_
      refine JL_pd rfl (det_move rfl) ?_
      -- stop: guard 1
      refine JL_split (d0 := 34) rfl (fun hg => ?_) (fun hg => ?_)
      · have hbad : (playV l s turns).2.2 = false := by
          rw [if_pos hg] at hp
          rw [hp]; simp; omega
        refine JL_skip rfl rfl hg rfl ?_
        refine JL_skip rfl rfl hg rfl ?_
        refine JL_skip rfl rfl hg rfl ?_
        refine JL_skip rfl rfl hg rfl ?_
        refine JL_skip rfl rfl hg rfl ?_
        refine JL_skip rfl rfl hg rfl ?_
        refine JL_pd rfl (det_pick_t rfl hg rfl) ?_
        refine JL_pd rfl (det_move rfl) ?_
        -- stop: guard 9
        refine JL_is (d0 := 42) true rfl (by rfl) (fun hg2 => ?_)
        refine JL_skip rfl rfl hg2 rfl ?_
        refine JL_skip rfl rfl hg2 rfl ?_
        refine JL_skip rfl rfl hg2 rfl ?_
        refine JL_skip rfl rfl hg2 rfl ?_
        refine JL_skip rfl rfl hg2 rfl ?_
        refine JL_skip rfl rfl hg2 rfl ?_
        refine JL_skip rfl rfl hg2 rfl ?_
        refine JL_skip rfl rfl hg2 rfl ?_
        refine JL_skip rfl rfl hg2 rfl ?_
        refine JL_pd rfl (det_pick_t rfl hg2 rfl) ?_
        refine JL_nil ?_
        refine JE_seq ?_
        -- stop: cond
        refine JC_cond rfl (fun h3 => ?_) (fun h3 => ?_)
        · refine JC_seq ?_
          refine JC_region ?_
          refine JL_pd rfl (det_assign rfl) ?_
          refine JL_pd rfl (det_assign rfl) ?_
          refine JL_pd rfl (det_assign rfl) ?_
          refine JL_nil ?_
          refine JE_seq ?_
          refine JC_ret ?_
          refine JE_seq_ret ?_
          refine JE_block_ret ?_
          refine JE_seq_ret ?_
          refine JE_then_ret ?_
          refine JE_block_ret ?_
          refine JE_seq_ret ?_
          -- stop: out
          refine JE_out (.inl rfl) (none, 0) (results3 Tryz.results12 (res_tmp rfl) (res_tmp rfl) (res_tmp rfl)) (by unfold playRet; rw [if_neg (by rw [hbad]; decide)]) (List.Perm.refl _) (fun w _ h => by rw [hbad] at h; cases h)
        · cases h3
      · rw [if_neg (by rw [hg]; decide), drop_cons hi2] at hp
        have hol : (((over ++ [s']).length : Nat) : Int) = ((over.length + 1 : Nat) : Int) := by simp
        refine JL_guard rfl rfl hg ?_
        refine JL_pd rfl (det_move rfl) ?_
        refine JL_guard rfl rfl hg ?_
        refine JL_pd rfl (det_len rfl Tryz.runUnderlying40) ?_
        refine JL_guard rfl rfl hg ?_
        refine JL_pd rfl (det_fieldAddr rfl fo_115_0) ?_
        refine JL_guard rfl rfl hg ?_
        refine JL_pd rfl (det_fieldAddr rfl fo_47_1) ?_
        refine JL_guard rfl rfl hg ?_
        refine JL_dt rfl (det_loadK rfl Tryz.isAgg3 rfl) ?_
        refine JL_guard rfl rfl hg ?_
        refine JL_pd rfl (det_eql rfl rfl) ?_
        refine JL_pd rfl (det_pick_f rfl hg rfl) ?_
        refine JL_pd rfl (det_move rfl) ?_
        -- stop: guard 9
        refine JL_split (d0 := 42) rfl (fun h4 => ?_) (fun h4 => ?_)
        · have hbad : (playV l s turns).2.2 = false := by
            rw [← hp, playR_full _ _ _ (by rw [hol]; simpa using h4)]
          refine JL_skip rfl rfl h4 rfl ?_
          refine JL_skip rfl rfl h4 rfl ?_
          refine JL_skip rfl rfl h4 rfl ?_
          refine JL_skip rfl rfl h4 rfl ?_
          refine JL_skip rfl rfl h4 rfl ?_
          refine JL_skip rfl rfl h4 rfl ?_
          refine JL_skip rfl rfl h4 rfl ?_
          refine JL_skip rfl rfl h4 rfl ?_
          refine JL_skip rfl rfl h4 rfl ?_
          refine JL_pd rfl (det_pick_t rfl h4 rfl) ?_
          refine JL_nil ?_
          refine JE_seq ?_
          -- stop: cond
          refine JC_cond rfl (fun h3 => ?_) (fun h3 => ?_)
          · refine JC_seq ?_
            refine JC_region ?_
            refine JL_pd rfl (det_assign rfl) ?_
            refine JL_pd rfl (det_assign rfl) ?_
            refine JL_pd rfl (det_assign rfl) ?_
            refine JL_nil ?_
            refine JE_seq ?_
            refine JC_ret ?_
            refine JE_seq_ret ?_
            refine JE_block_ret ?_
            refine JE_seq_ret ?_
            refine JE_then_ret ?_
            refine JE_block_ret ?_
            refine JE_seq_ret ?_
            -- stop: out
            refine JE_out (.inl rfl) (none, 0) (results3 Tryz.results12 (res_tmp rfl) (res_tmp rfl) (res_tmp rfl)) (by unfold playRet; rw [if_neg (by rw [hbad]; decide)]) (List.Perm.refl _) (fun w _ h => by rw [hbad] at h; cases h)
          · cases h3
        · have h4b : ¬ ((over.length + 1 : Nat) : Int) = l.rows := by simpa using h4
          have hh := hookOf_bd V (((over.length + 1 : Nat) : Int) - 1) s'.b
          refine JL_guard rfl rfl h4 ?_
          refine JL_dt rfl (det_loadKA rfl Tryz.isAgg115 Tryz.sizeOf115 rfl rfl) ?_
          refine JL_guard rfl rfl h4 ?_
          refine JL_pd rfl (det_move rfl) ?_
          refine JL_guard rfl rfl h4 ?_
          refine JL_pd rfl (det_len rfl Tryz.runUnderlying40) ?_
          refine JL_guard rfl rfl h4 ?_
          refine JL_pd rfl (det_sub rfl rfl ⟨by omega, by omega⟩) ?_
          refine JL_guard rfl rfl h4 ?_
          refine JL_dt rfl (det_loadKA rfl Tryz.isAgg49 Tryz.sizeOf49 rfl rfl) ?_
          refine JL_guard rfl rfl h4 ?_
          -- stop: op 15 t48 := (call (Call (value f45) (t43 t46 t47) (115 3 49)))   <10 13 14 9 9>   144
          refine JL_step rfl rfl rfl (jo_callv rfl rfl Tryz.call45 rfl (hooks_j l (((over.length + 1 : Nat) : Int) - 1) s' ha pa hc pc gb (by omega) (by omega) (by simp [onL]; omega))) fun _ => ?_
          refine JL_guard rfl rfl h4 ?_
          refine JL_pd rfl (det_move rfl) ?_
          refine JL_guard rfl rfl h4 ?_
          -- stop: op 17 t50 := (call (Call (value f46) (t48 t49) (112 3)))   <15 16 15 9>   144
          refine JL_step rfl rfl rfl (jo_callv rfl rfl Tryz.call46 rfl (has_j (hookOf l (((over.length + 1 : Nat) : Int) - 1) s'.b) turns[i])) fun _ => ?_
          refine JL_guard rfl rfl h4 ?_
          refine JL_pd rfl (det_not rfl) ?_
          refine JL_pd rfl (det_pick_f rfl h4 rfl) ?_
          refine JL_nil ?_
          refine JE_seq ?_
          -- stop: cond
          refine JC_cond rfl (fun h5 => ?_) (fun h5 => ?_)
          · have hbad : (playV l s turns).2.2 = false := by
              rw [← hp, playR_bad _ (by rw [hol]; simpa using h5)]
            refine JC_seq ?_
            refine JC_region ?_
            refine JL_pd rfl (det_assign rfl) ?_
            refine JL_pd rfl (det_assign rfl) ?_
            refine JL_pd rfl (det_assign rfl) ?_
            refine JL_nil ?_
            refine JE_seq ?_
            refine JC_ret ?_
            refine JE_seq_ret ?_
            refine JE_block_ret ?_
            refine JE_seq_ret ?_
            refine JE_then_ret ?_
            refine JE_block_ret ?_
            refine JE_seq_ret ?_
            -- stop: out
            refine JE_out (.inl rfl) (none, 0) (results3 Tryz.results12 (res_tmp rfl) (res_tmp rfl) (res_tmp rfl)) (by unfold playRet; rw [if_neg (by rw [hbad]; decide)]) (List.Perm.refl _) (fun w _ h => by rw [hbad] at h; cases h)
          · have hin : inR turns[i] (hookOf l (((over.length + 1 : Nat) : Int) - 1) s'.b) = true := by simpa using h5
            have hin2 : (hookOf l (((over.length + 1 : Nat) : Int) - 1) s'.b).lo ≤ turns[i] ∧ turns[i] ≤ (hookOf l (((over.length + 1 : Nat) : Int) - 1) s'.b).hi := by simpa [inR] using hin
            refine JC_skip ?_
            refine JE_seq ?_
            refine JC_seq ?_
            refine JC_region ?_
            refine JL_dt rfl (det_loadKA rfl Tryz.isAgg49 Tryz.sizeOf49 rfl rfl) ?_
            refine JL_pd rfl (det_move rfl) ?_
            -- stop: op  2 t55 := (call (Call (value f47) (t53 t54) (49 3)))   <0 1>   147
            refine JL_step rfl rfl rfl (jo_callv rfl rfl Tryz.call47 rfl (next_j s' turns[i] hsd.1 hsd.2 (by omega) (by omega) (by omega) (by omega))) fun _ => ?_
            refine JL_step0 rfl rfl (jo_store rfl rfl rfl (by first | (simp only [splice_norm]; done) | (simp only [splice_norm]; rfl) | rfl) Tryz.sizeOf49 rfl rfl) fun _ => ?_
            refine JL_nil ?_
            refine JE_seq ?_
            refine JC_seq ?_
            refine JC_region ?_
            refine JL_pd rfl (det_fieldAddr rfl fo_115_0) ?_
            refine JL_dt rfl (det_loadKA rfl Tryz.isAgg47 Tryz.sizeOf47 rfl rfl) ?_
            refine JL_dt rfl (det_loadKA rfl Tryz.isAgg49 Tryz.sizeOf49 rfl rfl) ?_
            -- stop: op  3 t59 := (call (Call (value f48) (t57 t58) (47 49)))   <1 2>   148
            refine JL_step rfl rfl rfl (jo_callv rfl rfl Tryz.call48 rfl (on_j l ha pa hc pc (nextS s' turns[i]))) fun _ => ?_
            refine JL_pd rfl (det_not rfl) ?_
            refine JL_pd rfl (det_assign rfl) ?_
            refine JL_nil ?_
            refine JE_seq ?_
            refine JC_seq ?_
            refine JC_region ?_
            refine JL_pd rfl (det_move rfl) ?_
            refine JL_nil ?_
            refine JE_seq ?_
            -- stop: cond
            refine JC_cond rfl (fun h6 => ?_) (fun h6 => ?_)
            · have hoff : onL l (nextS s' turns[i]) = false := by simpa using h6
              rw [playR_off _ (by rw [hol]; exact h4b) (by rw [hol]; exact hin) hoff] at hp
              refine JC_seq ?_
              refine JC_region ?_
              refine JL_pd rfl (det_move rfl) ?_
              refine JL_pd rfl (det_move rfl) ?_
              refine JL_pd rfl (det_len rfl Tryz.runUnderlying40) ?_
              refine JL_pd rfl (det_sub rfl rfl ⟨by omega, by omega⟩) ?_
              refine JL_pd rfl (det_indexOwn (i := over.length) rfl rfl (by first | rfl | omega) (by first | assumption | omega) Tryz.runUnderlying40 Tryz.sizeOf49) ?_
              -- stop: op  5 t67 := (load 49 t66)   <4>   149
              refine JL_dt rfl (det_loadOA (vs := [I s'.b, I s'.d]) rfl Tryz.isAgg49 Tryz.sizeOf49 hlast rfl) ?_
              refine JL_step0 rfl rfl (jo_store rfl rfl rfl (by first | (simp only [splice_norm]; done) | (simp only [splice_norm]; rfl) | rfl) Tryz.sizeOf49 rfl rfl) fun _ => ?_
              refine JL_nil ?_
              refine JE_seq ?_
              refine JC_region ?_
              refine JL_pd rfl (det_move rfl) ?_
              refine JL_pd rfl (det_move rfl) ?_
              refine JL_pd rfl (det_len rfl Tryz.runUnderlying40) ?_
              refine JL_pd rfl (det_sub rfl rfl ⟨by omega, by omega⟩) ?_
              -- stop: op  4 t72 := (slice 40 t68 none (some t71) none)   <0 3>   150
              refine JL_step rfl rfl rfl (jo_sliceTo over.length rfl rfl (by omega) (by omega) Tryz.runUnderlying40 Tryz.sizeOf49 (by decide) (.inr (by omega))) fun _ => ?_
              refine JL_pd rfl (det_assign rfl) ?_
              refine JL_nil ?_
              refine JE_block ?_
              refine JE_seq ?_
              refine JC_region ?_
              refine JL_pd rfl (det_add rfl rfl ⟨by omega, by omega⟩) ?_
              refine JL_pd rfl (det_move rfl) ?_
              refine JL_nil ?_
              -- stop: end
              refine JE_round hK (i + 1, over, s', true, .slice (some ⟨b32.1, 0, none⟩) over.length b32.2) ⟨by omega, ?_, hl2, hsb, hsd⟩ (by simp only; omega) ?_ ?_ Knows.know
              · rw [if_pos rfl, ← hp]
                congr 3
                rw [Bool.eq_iff_iff]; simp; omega
              · exact stsub_consI rfl (by simp only; omega) (stsub_cons rfl (stsub_cons rfl (stsub_consB rfl (by simp [hoff]) (stsub_cons rfl (stsub_cons rfl (stsub_cons rfl (stsub_cons rfl (stsub_cons rfl stsub_nil))))))))
              · exact hsub_ow rfl hfst (hsub_cons (hsub_cons hsub_nil))
            · have hon : onL l (nextS s' turns[i]) = true := by simpa using h6
              have hon2 : 1 ≤ (nextS s' turns[i]).b ∧ (nextS s' turns[i]).b ≤ l.boards := by simpa [onL] using hon
              rw [playR_on _ (by rw [hol]; exact h4b) (by rw [hol]; exact hin) hon] at hp
              refine JC_skip ?_
              refine JE_block ?_
              refine JE_seq ?_
              refine JC_region ?_
              refine JL_pd rfl (det_add rfl rfl ⟨by omega, by omega⟩) ?_
              refine JL_pd rfl (det_move rfl) ?_
              refine JL_nil ?_
              -- stop: end
              refine JE_round hK (i + 1, over ++ [s'], nextS s' turns[i], false, .slice (some ⟨b32.1, 0, none⟩) (over.length + 1) b32.2) ⟨by omega, ?_, by simp; omega, hon2, nextS_d _ _⟩ (by simp only; omega) ?_ ?_ Knows.know
              · rw [if_neg (fun h => by cases h)]; exact hp
              · exact stsub_consI rfl (by simp only; omega) (stsub_cons rfl (stsub_cons rfl (stsub_consB rfl (by simp [hon]) (stsub_cons rfl (stsub_cons rfl (stsub_cons rfl (stsub_cons rfl (stsub_cons rfl stsub_nil))))))))
              · exact hsub_ow (by simp) (by simp [encSt]) (hsub_cons (hsub_cons hsub_nil))
    · have hi3 : i = turns.length := by omega
      have hL : over.flatMap encSt ++ [I s'.b, I s'.d] = (over ++ [s']).flatMap encSt := by simp [encSt]
      have hll : over.length + 1 = (over ++ [s']).length := by simp
      cases g with
      | true =>
        rw [if_pos rfl] at hp
        have hok : (playV l s turns).2.2 = true := by rw [hp]; simp [hi3]
        refine JC_exit ?_
        refine JE_seq_exit ?_
        refine JE_then_exit ?_
        refine JE_block_here ?_
        refine JE_seq ?_
        refine JC_seq ?_
        refine JC_seq ?_
        refine JC_region ?_
        refine JL_pd rfl (det_move rfl) ?_
        refine JL_dt rfl (det_loadKA rfl Tryz.isAgg49 Tryz.sizeOf49 rfl rfl) ?_
        refine JL_step rfl rfl rfl (jo_buildSlice rfl (bsl_40_1_0 _ _)) fun b76 => ?_
        refine JL_step rfl rfl rfl (jo_append el_40 rfl rfl rfl rfl (by omega)) fun b77 => ?_
        refine JL_pd rfl (det_assign rfl) ?_
        refine JL_nil ?_
        refine JE_seq ?_
        refine JC_seq ?_
        refine JC_region ?_
        refine JL_pd rfl (det_move rfl) ?_
        refine JL_pd rfl (det_not rfl) ?_
        refine JL_pd rfl (det_move rfl) ?_
        -- stop: guard 2
        refine JL_is (d0 := 80) false rfl (by rfl) (fun hg => ?_)
        refine JL_skip rfl rfl hg rfl ?_
        refine JL_skip rfl rfl hg rfl ?_
        refine JL_skip rfl rfl hg rfl ?_
        refine JL_skip rfl rfl hg rfl ?_
        refine JL_skip rfl rfl hg rfl ?_
        refine JL_skip rfl rfl hg rfl ?_
        refine JL_pd rfl (det_pick_f rfl hg rfl) ?_
        refine JL_nil ?_
        refine JE_seq ?_
        -- stop: cond
        refine JC_cond rfl (fun h3 => ?_) (fun h3 => ?_)
        · cases h3
        · refine JC_skip ?_
          refine JE_seq ?_
          refine JC_seq ?_
          refine JC_region ?_
          refine JL_pd rfl (det_move rfl) ?_
          refine JL_pd rfl (det_move rfl) ?_
          refine JL_pd rfl (det_assign rfl) ?_
          refine JL_pd rfl (det_assign rfl) ?_
          refine JL_pd rfl (det_assign rfl) ?_
          refine JL_nil ?_
          refine JE_seq ?_
          refine JC_ret ?_
          -- stop: out
          refine JE_slice (enc := encSt) (v := .slice (some ⟨b77.1, 0, none⟩) (over.length + 1) b77.2) (over ++ [s']) noFp hL hll ?_
          rintro a cap h
          cases h
          refine JE_out (.inl rfl) (some ⟨b77.1, 0, none⟩, b77.2) (results3 Tryz.results12 (res_tmp rfl) (res_tmp rfl) (res_tmp rfl)) (by unfold playRet; rw [if_pos hok, hp]; simp) (List.Perm.refl _) (fun w h _ => by have := h.1; rw [hp]; simpa using this)
      | false =>
        rw [if_neg (by decide), List.drop_eq_nil_of_le (by omega), playR_nil] at hp
        have hol : (((over ++ [s']).length : Nat) : Int) = ((over.length + 1 : Nat) : Int) := by simp
        refine JC_exit ?_
        refine JE_seq_exit ?_
        refine JE_then_exit ?_
        refine JE_block_here ?_
        refine JE_seq ?_
        refine JC_seq ?_
        refine JC_seq ?_
        refine JC_region ?_
        refine JL_pd rfl (det_move rfl) ?_
        refine JL_dt rfl (det_loadKA rfl Tryz.isAgg49 Tryz.sizeOf49 rfl rfl) ?_
        refine JL_step rfl rfl rfl (jo_buildSlice rfl (bsl_40_1_0 _ _)) fun b76 => ?_
        refine JL_step rfl rfl rfl (jo_append el_40 rfl rfl rfl rfl (by omega)) fun b77 => ?_
        refine JL_pd rfl (det_assign rfl) ?_
        refine JL_nil ?_
        refine JE_seq ?_
        refine JC_seq ?_
        refine JC_region ?_
        refine JL_pd rfl (det_move rfl) ?_
        refine JL_pd rfl (det_not rfl) ?_
        refine JL_pd rfl (det_move rfl) ?_
        -- stop: guard 2
        refine JL_is (d0 := 80) true rfl (by rfl) (fun hg => ?_)
        refine JL_guard rfl rfl hg ?_
        refine JL_pd rfl (det_move rfl) ?_
        refine JL_guard rfl rfl hg ?_
        refine JL_pd rfl (det_len rfl Tryz.runUnderlying40) ?_
        refine JL_guard rfl rfl hg ?_
        refine JL_pd rfl (det_fieldAddr rfl fo_115_0) ?_
        refine JL_guard rfl rfl hg ?_
        refine JL_pd rfl (det_fieldAddr rfl fo_47_1) ?_
        refine JL_guard rfl rfl hg ?_
        refine JL_dt rfl (det_loadK rfl Tryz.isAgg3 rfl) ?_
        refine JL_guard rfl rfl hg ?_
        refine JL_pd rfl (det_neq rfl rfl) ?_
        refine JL_pd rfl (det_pick_t rfl hg rfl) ?_
        refine JL_nil ?_
        refine JE_seq ?_
        -- stop: cond
        refine JC_ifn rfl (fun h3 => ?_) (fun h3 => ?_)
        · have hbad : (playV l s turns).2.2 = false := by rw [← hp]; simpa using h3
          refine JC_seq ?_
          refine JC_region ?_
          refine JL_pd rfl (det_assign rfl) ?_
          refine JL_pd rfl (det_assign rfl) ?_
          refine JL_pd rfl (det_assign rfl) ?_
          refine JL_nil ?_
          refine JE_seq ?_
          refine JC_ret ?_
          refine JE_seq_ret ?_
          -- stop: out
          refine JE_out (.inl rfl) (none, 0) (results3 Tryz.results12 (res_tmp rfl) (res_tmp rfl) (res_tmp rfl)) (by unfold playRet; rw [if_neg (by rw [hbad]; decide)]) (List.Perm.refl _) (fun w _ h => by rw [hbad] at h; cases h)
        · have hok : (playV l s turns).2.2 = true := by rw [← hp]; simpa using h3
          refine JC_skip ?_
          refine JE_seq ?_
          refine JC_seq ?_
          refine JC_region ?_
          refine JL_pd rfl (det_move rfl) ?_
          refine JL_pd rfl (det_move rfl) ?_
          refine JL_pd rfl (det_assign rfl) ?_
          refine JL_pd rfl (det_assign rfl) ?_
          refine JL_pd rfl (det_assign rfl) ?_
          refine JL_nil ?_
          refine JE_seq ?_
          refine JC_ret ?_
          -- stop: out
          refine JE_slice (enc := encSt) (v := .slice (some ⟨b77.1, 0, none⟩) (over.length + 1) b77.2) (over ++ [s']) noFp hL hll ?_
          rintro a cap h
          cases h
          refine JE_out (.inl rfl) (some ⟨b77.1, 0, none⟩, b77.2) (results3 Tryz.results12 (res_tmp rfl) (res_tmp rfl) (res_tmp rfl)) (by unfold playRet; rw [if_pos hok, ← hp]; simp) (List.Perm.refl _) (fun w h _ => by have := h.1; rw [← hp]; simpa using this)
theorem Play_j0 (l : La) (s : St) (turns : List Int) (ha pa : Option Addr) (hc pc : Nat) (ta : Option Addr) (tc : Nat) (he : startErr l s = 0) (ht : turns.length ≤ 1000000) (hb : (playV l s turns).2.2 = false) : Cv Tryz.prog 12 [.agg #[I l.boards, I l.rows, .slice ha l.hooks.length hc, .slice pa l.patches.length pc], .agg #[I s.b, I s.d], .slice ta turns.length tc] (KAnd (KSl ta turns.length tc encI turns) (KLane l ha hc pa pc)) (.tuple #[.slice none 0 0, .bool false, I 2]) :=
  (Play_jo l s turns ha pa hc pc ta tc he ht).toCv fun q => by unfold playRet; rw [if_neg (by rw [hb]; decide)]
theorem Play_j1 (l : La) (s : St) (turns : List Int) (ha pa : Option Addr) (hc pc : Nat) (ta : Option Addr) (tc : Nat) (he : startErr l s = 0) (ht : turns.length ≤ 1000000) (hb : (playV l s turns).2.2 = true) : Cr Tryz.prog 12 [.agg #[I l.boards, I l.rows, .slice ha l.hooks.length hc, .slice pa l.patches.length pc], .agg #[I s.b, I s.d], .slice ta turns.length tc] (KAnd (KSl ta turns.length tc encI turns) (KLane l ha hc pa pc))
    (fun q : Option Addr × Nat => .tuple #[.slice q.1 (playV l s turns).1.length q.2, .bool (playV l s turns).2.1, I 0]) (fun q => KSl q.1 (playV l s turns).1.length q.2 encSt (playV l s turns).1) := fun M w a b c d =>
  (Play_jo l s turns ha pa hc pc ta tc he ht M w a b c d).mono fun e w' ⟨x, M', h1, h2, h3, h4, h5, h6, h7, h8⟩ => ⟨x, M', by rw [h1]; unfold playRet; rw [if_pos hb], h2, h3, h4, h5, h6, h7, fun w2 hw => h8 w2 hw hb⟩
end Go.Proofs.YthpkgabckklojaaGreat

/- The statements about path: room; plain facts of Best and Aims. -/
namespace Go.Proofs.YthpkgabckklojaaGreat
open Go.RowKit Go.Shelf

section
variable {X : Ctx} {P : Program} {st : Sto} {H H0 : List Chunk} {R R0 : World → Prop} {k : Kont} {ops : Array Oper} {rest : List Oper} {Q : Exit → Act → World → Prop} {fuel : Nat} {listed : Array Bool} {tl : List Nat}
end
theorem ready2 {l : La} {s : St} (h : (!(thin l && decide (startErr l s = 0))) = false) : thin l = true ∧ startErr l s = 0 := by
  simpa using h
theorem sure_iff {l : La} {s : St} {p : Pk} (h0 : isStart l s = true) (V : Valid l) : hitsV l s p = 2 ↔ s ∈ aimsL l p := by
  have hb := V.b1
  have sb : 1 ≤ s.b ∧ s.b ≤ l.boards ∧ -5 ≤ s.d ∧ s.d ≤ 5 := by simpa [isStart] using h0
  have hm : s ∈ doneS l.boards.toNat 0 := mem_doneS_iff.2 ⟨sb.1, by omega, sb.2.2⟩
  unfold aimsL hitsV
  rw [List.mem_filter]
  unfold sureS
  cases canN l (enM p) (nR l) 0 s
  · simp [hm]
  · cases canN l (hitsP p) (nR l) 0 s <;> simp
theorem aims_sorted (l : La) (p : Pk) : (aimsL l p).Pairwise (fun x y => lessS x y = true) := (doneS_sorted _ 0 (by omega)).filter _
/-- What the best one is among those seen so far. -/
structure BestOf (A pre : List St) (q : St × Int) : Prop where
  none : pre = [] → q.2 = -1
  mem : pre ≠ [] → q.1 ∈ pre ∧ q.2 = (roomN A q.1 : Int) - 1
  le : ∀ s ∈ pre, (roomN A s : Int) - 1 ≤ q.2
  lt : ∀ s ∈ pre, lessS s q.1 = true → (roomN A s : Int) - 1 < q.2
theorem room_pos {A : List St} {s : St} (h : s ∈ A) : 1 ≤ roomN A s :=
  roomN_ge (k := 1) (fun m hm => by
    obtain rfl : m = 0 := by omega
    have e : (⟨s.b - (0 : Nat), s.d⟩ : St) = s := St.ext'.2 ⟨by simp, rfl⟩
    have e2 : (⟨s.b + (0 : Nat), s.d⟩ : St) = s := St.ext'.2 ⟨by simp, rfl⟩
    simp only [pairOk, e, e2, h, decide_true, Bool.and_self]) (by omega)
theorem best_fold (A : List St) (hA : A.Pairwise (fun x y => lessS x y = true)) : ∀ (post pre : List St) (q : St × Int), pre ++ post = A → BestOf A pre q → BestOf A A (post.foldl (bestS A) q)
  | [], pre, q, e, h => by rw [List.append_nil] at e; subst e; exact h
  | s :: post, pre, q, e, h => by
    rw [List.foldl_cons]
    refine best_fold A hA post (pre ++ [s]) _ (by rw [List.append_assoc]; exact e) ?_
    have hs : s ∈ A := by rw [← e]; simp
    have hp := room_pos hs
    have hlt : ∀ t ∈ pre, lessS t s = true := fun t ht => by
      rw [← e, List.pairwise_append] at hA
      exact hA.2.2 t ht s (by simp)
    unfold bestS
    by_cases hc : q.2 < (roomN A s : Int) - 1
    · rw [if_pos hc]
      refine ⟨fun h => by simp at h, fun _ => ⟨by simp, rfl⟩, fun t ht => ?_, fun t ht hl => ?_⟩
      · rcases List.mem_append.1 ht with ht | ht
        · have := h.le t ht; simp only; omega
        · rw [List.mem_singleton.1 ht]; exact Int.le_refl _
      · rcases List.mem_append.1 ht with ht | ht
        · have := h.le t ht; simp only; omega
        · rw [List.mem_singleton.1 ht] at hl; exact (less_irrefl hl hl).elim
    · rw [if_neg hc]
      have hne : pre ≠ [] := fun e2 => by have := h.none e2; omega
      obtain ⟨m1, m2⟩ := h.mem hne
      refine ⟨fun h => by simp at h, fun _ => ⟨by simp [m1], m2⟩, fun t ht => ?_, fun t ht hl => ?_⟩
      · rcases List.mem_append.1 ht with ht | ht
        · exact h.le t ht
        · rw [List.mem_singleton.1 ht]; omega
      · rcases List.mem_append.1 ht with ht | ht
        · exact h.lt t ht hl
        · rw [List.mem_singleton.1 ht] at hl; exact (less_irrefl hl (hlt _ m1)).elim
theorem best_of (l : La) (p : Pk) : BestOf (aimsL l p) (aimsL l p) (bestF (aimsL l p)) :=
  best_fold _ (aims_sorted l p) _ [] _ rfl ⟨fun _ => rfl, fun h => absurd rfl h, by simp, by simp⟩
end Go.Proofs.YthpkgabckklojaaGreat

/- Path: the lane turned over (plain). -/
namespace Go.Proofs.YthpkgabckklojaaGreat

def mirR (r : Rg) : Rg := ⟨-r.hi, -r.lo⟩
def mirB (n : Int) (r : Rg) : Rg := ⟨n - r.hi, n - r.lo⟩
def mirP (n : Int) (p : Pa) : Pa := ⟨p.rows, mirB n p.boards, p.level⟩
/-- The lane turned over. -/
def mirL (l : La) : La := ⟨l.boards, l.rows, l.hooks.map mirR, l.patches.map (mirP (l.boards + 1))⟩
def mirS (l : La) (s : St) : St := ⟨l.boards + 1 - s.b, -s.d⟩
def mirK (l : La) (p : Pk) : Pk := ⟨mirB (l.boards + 1) p.boards, mirR p.dirs⟩
theorem mirS_b (l : La) (s : St) : (mirS l s).b = l.boards + 1 - s.b := rfl
theorem mirS_d (l : La) (s : St) : (mirS l s).d = -s.d := rfl
theorem mirL_b (l : La) : (mirL l).boards = l.boards := rfl
theorem mirB_lo (n : Int) (r : Rg) : (mirB n r).lo = n - r.hi := rfl
theorem mirB_hi (n : Int) (r : Rg) : (mirB n r).hi = n - r.lo := rfl
theorem mirR_lo (r : Rg) : (mirR r).lo = -r.hi := rfl
theorem mirR_hi (r : Rg) : (mirR r).hi = -r.lo := rfl
theorem mirP_b (n : Int) (p : Pa) : (mirP n p).boards = mirB n p.boards := rfl
theorem mirK_b (l : La) (p : Pk) : (mirK l p).boards = mirB (l.boards + 1) p.boards := rfl
theorem mirK_d (l : La) (p : Pk) : (mirK l p).dirs = mirR p.dirs := rfl
theorem mirS_mirS (l : La) (s : St) : mirS l (mirS l s) = s := by cases s; simp [mirS]; omega
theorem mir_valid {l : La} (V : Valid l) : Valid (mirL l) := by
  have h0 := V.h0
  refine ⟨by simpa [mirL] using V.np, by simpa [mirL] using V.nh, V.b1, V.b2, V.r1, V.r2, by simpa [mirL] using V.h0, ?_, ?_⟩
  · intro h hh
    simp only [mirL, List.mem_map] at hh
    obtain ⟨a, ha, rfl⟩ := hh
    have := V.hk a ha
    simp only [mirR]; omega
  · intro p hp
    simp only [mirL, List.mem_map] at hp
    obtain ⟨a, ha, rfl⟩ := hp
    have := V.pk a ha
    simp only [mirL, mirP, mirB, List.length_map]
    omega
theorem mir_on (l : La) (s : St) : onL (mirL l) (mirS l s) = onL l s := by
  exact decide_eq_decide.2 (by simp only [mirL_b, mirS_b]; omega)
theorem mir_start {l : La} {s : St} (h : isStart l s = true) : isStart (mirL l) (mirS l s) = true := by
  have h := of_decide_eq_true h
  exact decide_eq_true (by simp only [mirL_b, mirS_b, mirS_d]; omega)
theorem mir_level (l : La) (row b : Int) : ∀ ps : List Pa, levelOf (ps.map (mirP (l.boards + 1))) row (l.boards + 1 - b) = levelOf ps row b := by
  intro ps
  unfold levelOf
  rw [List.foldl_map]
  congr 1
  funext lv p
  have e : inR (l.boards + 1 - b) (mirP (l.boards + 1) p).boards = inR b p.boards := by
    exact decide_eq_decide.2 (by simp only [mirP_b, mirB_lo, mirB_hi]; omega)
  rw [e]; rfl
theorem mir_hook {l : La} (V : Valid l) (row b : Int) : hookOf (mirL l) row (l.boards + 1 - b) = mirR (hookOf l row b) := by
  have hb := levelOf_bd V row b
  unfold hookOf
  rw [show (mirL l).patches = l.patches.map (mirP (l.boards + 1)) from rfl, mir_level, show (mirL l).hooks = l.hooks.map mirR from rfl, List.getD_eq_getElem?_getD, List.getD_eq_getElem?_getD, List.getElem?_map]
  have hlt : (levelOf l.patches row b).toNat < l.hooks.length := by omega
  rw [List.getElem?_eq_getElem hlt]; rfl
theorem mir_clamp (n : Int) : clamp (-n) = -clamp n := by unfold clamp; omega
theorem mir_next (l : La) (s : St) (t : Int) : nextS (mirS l s) (-t) = mirS l (nextS s t) := by
  have e : -s.d + -t = -(s.d + t) := by omega
  simp only [nextS, mirS, e, mir_clamp]
  exact St.ext'.2 ⟨by simp only; omega, rfl⟩
theorem mem_steps {l : La} {k : Int} {s t : St} : t ∈ stepsOf l k s ↔ ∃ u, (hookOf l k s.b).lo ≤ u ∧ u ≤ (hookOf l k s.b).hi ∧ t = nextS s u := by
  simp only [stepsOf, List.mem_map, mem_turnsOf]
  exact ⟨fun ⟨u, h1, h2⟩ => ⟨u, h1.1, h1.2, h2.symm⟩, fun ⟨u, h1, h2, h3⟩ => ⟨u, ⟨h1, h2⟩, h3.symm⟩⟩
theorem mir_steps {l : La} (V : Valid l) (k : Int) (s t : St) : mirS l t ∈ stepsOf (mirL l) k (mirS l s) ↔ t ∈ stepsOf l k s := by
  rw [mem_steps, mem_steps, show (mirS l s).b = l.boards + 1 - s.b from rfl, mir_hook V]
  simp only [mirR]
  constructor
  · rintro ⟨u, h1, h2, h3⟩
    refine ⟨-u, by omega, by omega, ?_⟩
    have h := mir_next l s (-u)
    rw [Int.neg_neg] at h
    rw [h] at h3
    have := congrArg (mirS l) h3
    rwa [mirS_mirS, mirS_mirS] at this
  · rintro ⟨u, h1, h2, rfl⟩
    exact ⟨-u, by omega, by omega, (mir_next l s u).symm⟩
theorem mirS_inj {l : La} {s t : St} : mirS l s = mirS l t ↔ s = t := ⟨fun h => by have := congrArg (mirS l) h; rwa [mirS_mirS, mirS_mirS] at this, fun h => by rw [h]⟩
theorem mir_rch {l : La} (V : Valid l) (s : St) : ∀ (k : Nat) (t : St), Rch (mirL l) (mirS l s) k (mirS l t) ↔ Rch l s k t
  | 0, t => mirS_inj
  | k + 1, t => by
    simp only [Rch, mir_on]
    refine and_congr_right fun _ => ⟨fun ⟨u, h1, h2⟩ => ?_, fun ⟨u, h1, h2⟩ => ⟨mirS l u, (mir_rch V s k u).2 h1, (mir_steps V k u t).2 h2⟩⟩
    rw [← mirS_mirS l u] at h1 h2
    exact ⟨mirS l u, (mir_rch V s k _).1 h1, (mir_steps V k _ t).1 h2⟩
theorem mir_less (l : La) {x y : St} (h : lessS x y = true) : lessS (mirS l y) (mirS l x) = true := by
  have h := of_decide_eq_true h
  exact decide_eq_true (by simp only [mirS_b, mirS_d]; omega)
theorem mir_rowL {l : La} {s : St} (V : Valid l) (h0 : isStart l s = true) (k : Nat) : rowL (mirL l) (mirS l s) k = ((rowL l s k).map (mirS l)).reverse := by
  refine sorted_eq (rowL_sorted _ _ _) ?_ fun t => ?_
  · rw [List.pairwise_reverse, List.pairwise_map]
    exact (rowL_sorted l s k).imp fun {x y} h => mir_less l h
  · rw [mem_rowL (mir_valid V) (mir_start h0), List.mem_reverse, List.mem_map]
    constructor
    · intro h
      refine ⟨mirS l t, ?_, mirS_mirS l t⟩
      rw [mem_rowL V h0, ← mir_rch V, mirS_mirS]; exact h
    · rintro ⟨u, hu, rfl⟩
      exact (mir_rch V s k u).2 ((mem_rowL V h0).1 hu)
theorem mir_gut {l : La} {s : St} (V : Valid l) (h0 : isStart l s = true) (k : Nat) : gutB (mirL l) (mirS l s) k = gutB l s k := by
  rw [Bool.eq_iff_iff]
  simp only [gutB, mir_rowL V h0, List.any_eq_true, List.mem_reverse, List.mem_map]
  constructor
  · rintro ⟨_, ⟨u, hu, rfl⟩, t, ht, hon⟩
    rw [← mirS_mirS l t] at ht hon
    exact ⟨u, hu, mirS l t, (mir_steps V k u _).1 ht, by rwa [mir_on] at hon⟩
  · rintro ⟨u, hu, t, ht, hon⟩
    exact ⟨_, ⟨u, hu, rfl⟩, mirS l t, (mir_steps V k u t).2 ht, by rwa [mir_on]⟩
theorem mir_rowV {l : La} {s : St} (V : Valid l) (h0 : isStart l s = true) (k : Nat) : rowV (mirL l) (mirS l s) k = rowV l s k := by
  unfold rowV
  have e : gutB (mirL l) (mirS l s) = gutB l s := funext fun k => mir_gut V h0 k
  rw [e, mir_rowL V h0]
  simp
theorem mir_can {l : La} (V : Valid l) (en en' : Bool → St → Bool) (he : ∀ b s, en' b (mirS l s) = en b s) : ∀ (n : Nat) (row : Int) (s : St), canN (mirL l) en' n row (mirS l s) = canN l en n row s
  | 0, row, s => by simp only [canN, mir_on, he]
  | n + 1, row, s => by
    simp only [canN, mir_on, he]
    have e : (stepsOf (mirL l) row (mirS l s)).any (canN (mirL l) en' n (row + 1)) = (stepsOf l row s).any (canN l en n (row + 1)) := by
      rw [Bool.eq_iff_iff]
      simp only [List.any_eq_true]
      constructor
      · rintro ⟨t, ht, hc⟩
        rw [← mirS_mirS l t] at ht hc
        exact ⟨mirS l t, (mir_steps V row s _).1 ht, by rwa [mir_can V en en' he n] at hc⟩
      · rintro ⟨t, ht, hc⟩
        exact ⟨mirS l t, (mir_steps V row s t).2 ht, by rwa [mir_can V en en' he n]⟩
    rw [e]
theorem mir_hitsP (l : La) (p : Pk) (b : Bool) (s : St) : hitsP (mirK l p) b (mirS l s) = hitsP p b s := by
  have e1 : inR (mirS l s).b (mirK l p).boards = inR s.b p.boards := by exact decide_eq_decide.2 (by simp only [mirS_b, mirK_b, mirB_lo, mirB_hi]; omega)
  have e2 : inR (mirS l s).d (mirK l p).dirs = inR s.d p.dirs := by exact decide_eq_decide.2 (by simp only [mirS_d, mirK_d, mirR_lo, mirR_hi]; omega)
  simp only [hitsP, e1, e2]
theorem mir_hits {l : La} (V : Valid l) (s : St) (p : Pk) : hitsV (mirL l) (mirS l s) (mirK l p) = hitsV l s p := by
  have e1 := mir_can V (enM p) (enM (mirK l p)) (fun b s => by simp only [enM, mir_hitsP]) (nR l) 0 s
  have e2 := mir_can V (hitsP p) (hitsP (mirK l p)) (fun b s => mir_hitsP l p b s) (nR l) 0 s
  unfold hitsV
  rw [show nR (mirL l) = nR l from rfl, e1, e2]
end Go.Proofs.YthpkgabckklojaaGreat

/- The walk of PathRows. -/
namespace Go.Proofs.YthpkgabckklojaaGreat
open Go.RowKit Go.Shelf

theorem ready_of {l : La} {s : St} (h : (!(thin l && decide (startErr l s = 0))) = false) : thin l = true ∧ startErr l s = 0 := by
  simpa using h
/-- What stands in the next row, by the statement. -/
def nextL (l : La) (k : Int) (xs : List St) : List St := xs.flatMap fun a => (stepsOf l k a).filter (onL l)
def fellB (l : La) (k : Int) (xs : List St) : Bool := xs.any fun a => (stepsOf l k a).any fun t => !onL l t
theorem nextL_snoc (l : La) (k : Int) (xs : List St) (a : St) : nextL l k (xs ++ [a]) = nextL l k xs ++ (stepsOf l k a).filter (onL l) := by simp [nextL]
theorem fellB_snoc (l : La) (k : Int) (xs : List St) (a : St) : fellB l k (xs ++ [a]) = (fellB l k xs || (stepsOf l k a).any fun t => !onL l t) := by simp [fellB]
theorem steps_len {l : La} (V : Valid l) (k : Int) (a : St) : (stepsOf l k a).length ≤ 7 ∧ 1 ≤ (stepsOf l k a).length := by
  have := hookOf_bd V k a.b
  simp only [stepsOf, List.length_map, turnsOf_len]
  omega
theorem steps_get {l : La} (k : Int) (a : St) (j : Nat) (h : j < (stepsOf l k a).length) : (stepsOf l k a)[j] = nextS a ((hookOf l k a.b).lo + j) := by
  simp [stepsOf, turnsOf_get]
theorem every_next {l : La} {s0 : St} (V : Valid l) (h0 : isStart l s0 = true) (k : Nat) : everyB (nextL l k (rowL l s0 k)) (rowL l s0 (k + 1)) = true := by
  simp only [everyB, List.all_eq_true, decide_eq_true_eq, nextL, List.mem_flatMap, List.mem_filter]
  rintro x ⟨a, ha, hx, hon⟩
  exact (mem_rowL V h0).2 ⟨hon, a, (mem_rowL V h0).1 ha, hx⟩
theorem every_back {l : La} {s0 : St} (V : Valid l) (h0 : isStart l s0 = true) (k : Nat) : everyB (rowL l s0 (k + 1)) (nextL l k (rowL l s0 k)) = true := by
  simp only [everyB, List.all_eq_true, decide_eq_true_eq, nextL, List.mem_flatMap, List.mem_filter]
  intro x hx
  obtain ⟨hon, a, ha, hs⟩ := (mem_rowL V h0).1 hx
  exact ⟨a, (mem_rowL V h0).2 ha, hs, hon⟩
theorem rowV_two {l : La} {s0 : St} (k : Nat) : rowV l s0 k = 2 ↔ (rowL l s0 k).length = 0 := by
  unfold rowV
  by_cases h : rowL l s0 k = []
  · simp [h]
  · rw [if_neg h]
    have : (rowL l s0 k).length ≠ 0 := fun e => h (List.eq_nil_of_length_eq_zero e)
    split <;> simp [this]
theorem rowV_next {l : La} {s0 : St} (V : Valid l) (h0 : isStart l s0 = true) (k : Nat) : rowV l s0 (k + 1) = 0 ↔ rowV l s0 k = 0 ∧ fellB l k (rowL l s0 k) = false := by
  have hz : ∀ k, rowV l s0 k = 0 ↔ rowL l s0 k ≠ [] ∧ (List.range k).any (gutB l s0) = false := by
    intro k
    unfold rowV
    by_cases h : rowL l s0 k = []
    · simp [h]
    · rw [if_neg h]
      cases (List.range k).any (gutB l s0) <;> simp [h]
  rw [hz, hz, List.range_succ, List.any_append]
  have hg : gutB l s0 k = fellB l k (rowL l s0 k) := rfl
  simp only [List.any_cons, List.any_nil, Bool.or_false, Bool.or_eq_false_iff, hg]
  constructor
  · rintro ⟨h1, h2, h3⟩
    refine ⟨⟨fun e => h1 ?_, h2⟩, h3⟩
    cases hn : rowL l s0 (k + 1) with
    | nil => rfl
    | cons t _ =>
      obtain ⟨_, a, ha, _⟩ := (mem_rowL V h0).1 (show t ∈ rowL l s0 (k + 1) by rw [hn]; simp)
      rw [← mem_rowL V h0, e] at ha
      cases ha
  · rintro ⟨⟨h1, h2⟩, h3⟩
    refine ⟨fun e => ?_, h2, h3⟩
    obtain ⟨a, ha⟩ := List.exists_mem_of_ne_nil _ h1
    have hl := (steps_len V k a).2
    have hm : (stepsOf l k a)[0] ∈ stepsOf l k a := List.getElem_mem _
    have hon : onL l (stepsOf l k a)[0] = true := by
      cases hc : onL l (stepsOf l k a)[0]
      · exfalso
        have : fellB l k (rowL l s0 k) = true := by
          simp only [fellB, List.any_eq_true]
          exact ⟨a, ha, _, hm, by simp [hc]⟩
        rw [this] at h3; cases h3
      · rfl
    have := (mem_rowL (k := k + 1) V h0).2 ⟨hon, a, (mem_rowL V h0).1 ha, hm⟩
    rw [e] at this; cases this
end Go.Proofs.YthpkgabckklojaaGreat
