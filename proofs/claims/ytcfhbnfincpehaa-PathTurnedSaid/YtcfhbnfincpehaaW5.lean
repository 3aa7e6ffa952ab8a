/- Walks of package path: Aims. -/
import Derived.Test.YtcfhbnfincpehaaW4
namespace Go.Proofs.Ytcfhbnfincpehaa
open Go.RowKit Go.Shelf

/-- All starts of the first boards, so many, and of the next board, up to a direction. -/
def doneS (i j : Nat) : List St := (List.range i).flatMap (fun a : Nat => (List.range 11).map fun b : Nat => (⟨1 + a, -5 + b⟩ : St)) ++ (List.range j).map fun b : Nat => (⟨1 + i, -5 + b⟩ : St)
theorem doneS_dir (i j : Nat) : doneS i (j + 1) = doneS i j ++ [⟨1 + i, -5 + j⟩] := by
  simp [doneS, List.range_succ]
theorem doneS_row (i : Nat) : doneS i 11 = doneS (i + 1) 0 := by
  simp [doneS, List.range_succ (n := i), List.flatMap_append]
theorem doneS_len (i j : Nat) : (doneS i j).length = i * 11 + j := by
  have : ∀ i : Nat, ((List.range i).flatMap (fun a : Nat => (List.range 11).map fun b : Nat => (⟨1 + a, -5 + b⟩ : St))).length = i * 11 := by
    intro i
    induction i with
    | zero => rfl
    | succ i ih => rw [List.range_succ (n := i), List.flatMap_append, List.length_append, ih]; simp; omega
  simp [doneS, this]
/-- It surely hits. -/
def sureS (l : La) (p : Pk) (s : St) : Bool := !canN l (enM p) (nR l) 0 s
def aimsL (l : La) (p : Pk) : List St := (doneS l.boards.toNat 0).filter (sureS l p)
/-- The error of a lane with a pocket. -/
def aimsErr (l : La) (p : Pk) : Int := if fault l ≠ 0 then fault l else if isPocket p then 0 else 2

theorem Aims_je (l : La) (p : Pk) (ha pa : Option Addr) (hc pc : Nat) (he : aimsErr l p ≠ 0) : Cv Try.prog 29 [.agg #[I l.boards, I l.rows, .slice ha l.hooks.length hc, .slice pa l.patches.length pc], .agg #[I p.boards.lo, I p.boards.hi, I p.dirs.lo, I p.dirs.hi]] (KLane l ha hc pa pc) (.tuple #[.slice none 0 0, I (aimsErr l p)]) := by
  refine Cx_of Try.func29 rfl Try.ntmps29 rfl fun w0 M0 => ?_
  refine JC_seq ?_
  refine JC_region ?_
  refine JL_step rfl rfl rfl (jo_box rfl rfl) fun b2 => ?_
  refine JL_step rfl rfl rfl (jo_box rfl rfl) fun b3 => ?_
  refine JL_pd rfl (det_assign rfl) ?_
  refine JL_pd rfl (det_assign rfl) ?_
  refine JL_nil ?_
  refine JE_seq ?_
  refine JC_seq ?_
  refine JC_seq ?_
  refine JC_region ?_
  refine JL_dt rfl (det_loadKA rfl Try.isAgg37 Try.sizeOf37 rfl rfl) ?_
  -- stop: op  1 t14 := (call (Call (value f41) (t13) (37)))   <0>   126
  refine JL_step rfl rfl rfl (jo_callv rfl rfl Try.call41 rfl (CheckLane_j l ha pa hc pc)) fun _ => ?_
  refine JL_pd rfl (det_assign rfl) ?_
  refine JL_nil ?_
  refine JE_seq ?_
  refine JC_seq ?_
  refine JC_region ?_
  refine JL_pd rfl (det_move rfl) ?_
  refine JL_pd rfl (det_neq rfl rfl) ?_
  refine JL_nil ?_
  refine JE_seq ?_
  -- stop: cond
  refine JC_ifn rfl (fun h1 => ?_) (fun h1 => ?_)
  · refine JC_seq ?_
    refine JC_region ?_
    refine JL_pd rfl (det_move rfl) ?_
    refine JL_pd rfl (det_assign rfl) ?_
    refine JL_pd rfl (det_assign rfl) ?_
    refine JL_nil ?_
    refine JE_seq ?_
    refine JC_ret ?_
    refine JE_seq_ret ?_
    -- stop: out
    refine JE_out (.inl rfl) () (results2 Try.results29 (res_tmp rfl) (res_tmp rfl)) (by simp [aimsErr, h1]) (List.Perm.refl _) (fun _ _ => trivial)
  · refine JC_skip ?_
    refine JE_seq ?_
    refine JC_seq ?_
    refine JC_seq ?_
    refine JC_region ?_
    refine JL_dt rfl (det_loadKA rfl Try.isAgg62 Try.sizeOf62 rfl rfl) ?_
    -- stop: op  1 t19 := (call (Call (value f71) (t18) (62)))   <0>   129
    refine JL_step rfl rfl rfl (jo_callv rfl rfl Try.call71 rfl (valid_j p)) fun _ => ?_
    refine JL_pd rfl (det_not rfl) ?_
    refine JL_nil ?_
    refine JE_seq ?_
    -- stop: cond
    refine JC_cond rfl (fun h2 => ?_) (fun h2 => ?_)
    · refine JC_seq ?_
      refine JC_region ?_
      refine JL_pd rfl (det_assign rfl) ?_
      refine JL_pd rfl (det_assign rfl) ?_
      refine JL_nil ?_
      refine JE_seq ?_
      refine JC_ret ?_
      refine JE_seq_ret ?_
      -- stop: out
      refine JE_out (.inl rfl) () (results2 Try.results29 (res_tmp rfl) (res_tmp rfl)) (by simp at h2; simp [aimsErr, h1, h2]) (List.Perm.refl _) (fun _ _ => trivial)
    · refine JC_skip ?_
      refine JE_seq ?_
      refine JC_seq ?_
      refine JC_draw [] (by kernel_rfl) ?_
      refine JA_dt (i := 0) rfl (by kernel_rfl) (by kernel_rfl) rfl rfl (det_loadKA rfl Try.isAgg37 Try.sizeOf37 rfl rfl) ?_
      refine JA_dt (i := 2) rfl (by kernel_rfl) (by kernel_rfl) rfl rfl (det_loadKA rfl Try.isAgg62 Try.sizeOf62 rfl rfl) ?_
      -- stop: op  1 t23 := (call (Call (value f72) (t22) (37)))   <0>   132
      simp at h2
      simp [aimsErr, h1, h2] at he
set_option maxRecDepth 100000 in
theorem Aims_jo (l : La) (p : Pk) (ha pa : Option Addr) (hc pc : Nat) (he : aimsErr l p = 0) : Cr Try.prog 29 [.agg #[I l.boards, I l.rows, .slice ha l.hooks.length hc, .slice pa l.patches.length pc], .agg #[I p.boards.lo, I p.boards.hi, I p.dirs.lo, I p.dirs.hi]] (KLane l ha hc pa pc) (fun q : Option Addr × Nat => .tuple #[.slice q.1 (aimsL l p).length q.2, I 0]) (fun q => KSl q.1 (aimsL l p).length q.2 encSt (aimsL l p)) := by
  have hf : fault l = 0 := by
    unfold aimsErr at he; split at he
    · contradiction
    · simp_all
  have hp : isPocket p = true := by
    cases h : isPocket p
    · simp [aimsErr, hf, h] at he
    · rfl
  have V := fault_valid hf
  have v1 := V.b1
  have v2 := V.b2
  refine Cx_of Try.func29 rfl Try.ntmps29 rfl fun w0 M0 => ?_
  refine JC_seq ?_
  refine JC_region ?_
  refine JL_step rfl rfl rfl (jo_box rfl rfl) fun b2 => ?_
  refine JL_step rfl rfl rfl (jo_box rfl rfl) fun b3 => ?_
  refine JL_pd rfl (det_assign rfl) ?_
  refine JL_pd rfl (det_assign rfl) ?_
  refine JL_nil ?_
  refine JE_seq ?_
  refine JC_seq ?_
  refine JC_seq ?_
  refine JC_region ?_
  refine JL_dt rfl (det_loadKA rfl Try.isAgg37 Try.sizeOf37 rfl rfl) ?_
  -- stop: op  1 t14 := (call (Call (value f41) (t13) (37)))   <0>   126
  refine JL_step rfl rfl rfl (jo_callv rfl rfl Try.call41 rfl (CheckLane_j l ha pa hc pc)) fun _ => ?_
  refine JL_pd rfl (det_assign rfl) ?_
  refine JL_nil ?_
  refine JE_seq ?_
  refine JC_seq ?_
  refine JC_region ?_
  refine JL_pd rfl (det_move rfl) ?_
  refine JL_pd rfl (det_neq rfl rfl) ?_
  refine JL_nil ?_
  refine JE_seq ?_
  -- stop: cond
  refine JC_ifn rfl (fun h1 => ?_) (fun h1 => ?_)
  · refine JC_seq ?_
    refine JC_region ?_
    refine JL_pd rfl (det_move rfl) ?_
    refine JL_pd rfl (det_assign rfl) ?_
    refine JL_pd rfl (det_assign rfl) ?_
    refine JL_nil ?_
    refine JE_seq ?_
    refine JC_ret ?_
    refine JE_seq_ret ?_
    -- stop: out
    exact absurd hf h1
  · refine JC_skip ?_
    refine JE_seq ?_
    refine JC_seq ?_
    refine JC_seq ?_
    refine JC_region ?_
    refine JL_dt rfl (det_loadKA rfl Try.isAgg62 Try.sizeOf62 rfl rfl) ?_
    -- stop: op  1 t19 := (call (Call (value f71) (t18) (62)))   <0>   129
    refine JL_step rfl rfl rfl (jo_callv rfl rfl Try.call71 rfl (valid_j p)) fun _ => ?_
    refine JL_pd rfl (det_not rfl) ?_
    refine JL_nil ?_
    refine JE_seq ?_
    -- stop: cond
    refine JC_cond rfl (fun h2 => ?_) (fun h2 => ?_)
    · refine JC_seq ?_
      refine JC_region ?_
      refine JL_pd rfl (det_assign rfl) ?_
      refine JL_pd rfl (det_assign rfl) ?_
      refine JL_nil ?_
      refine JE_seq ?_
      refine JC_ret ?_
      refine JE_seq_ret ?_
      -- stop: out
      simp [hp] at h2
    · refine JC_skip ?_
      refine JE_seq ?_
      refine JC_seq ?_
      refine JC_draw [] (by kernel_rfl) ?_
      refine JA_dt (i := 0) rfl (by kernel_rfl) (by kernel_rfl) rfl rfl (det_loadKA rfl Try.isAgg37 Try.sizeOf37 rfl rfl) ?_
      refine JA_dt (i := 2) rfl (by kernel_rfl) (by kernel_rfl) rfl rfl (det_loadKA rfl Try.isAgg62 Try.sizeOf62 rfl rfl) ?_
      -- stop: op  1 t23 := (call (Call (value f72) (t22) (37)))   <0>   132
      refine JA_one (i := 1) (by kernel_rfl) rfl rfl rfl (jo_call rfl rfl Try.call72 rfl (ball_j l ha pa hc pc V)) (fun _ => ⟨hsub_drop 0 rfl, fun _ h => h.2⟩) fun g => ?_
      -- stop: op  3 t25 := (call (Call (value f73) (t23 t24) (107 62)))   <1 2 1>   132
      refine JA_one (i := 3) (by kernel_rfl) rfl rfl rfl (jo_callx rfl rfl Try.call73 rfl (aimers_j l p ha pa hc pc g) ((List.Perm.refl _))) (fun _ => ⟨hsub_drop 2 rfl, fun _ h => h.2⟩) fun ⟨⟨A1, A2⟩, m1, m2⟩ => ?_
      refine JA_pd (i := 4) rfl (by kernel_rfl) rfl rfl (det_move rfl) ?_
      refine JA_pd (i := 5) rfl (by kernel_rfl) rfl rfl (det_extract rfl rfl) ?_
      refine JA_pd (i := 6) rfl (by kernel_rfl) rfl rfl (det_extract rfl rfl) ?_
      refine JA_pd (i := 7) rfl (by kernel_rfl) rfl rfl (det_assign rfl) ?_
      refine JA_pd (i := 8) rfl (by kernel_rfl) rfl rfl (det_assign rfl) ?_
      refine JA_done (by kernel_rfl) ?_
      refine JE_seq ?_
      refine JC_seq ?_
      refine JC_region ?_
      refine JL_pd rfl (det_assign rfl) ?_
      refine JL_nil ?_
      refine JE_seq ?_
      refine JC_seq ?_
      refine JC_seq ?_
      refine JC_region ?_
      refine JL_pd rfl (det_assign rfl) ?_
      refine JL_nil ?_
      refine JE_seq ?_
      refine JC_block ?_
      -- stop: loop
      refine JC_nil 39 2 ?_
      refine JC_loop (γ := Nat × Value × List St × Memo l (enM p)) (I := fun q => q.1 ≤ l.boards.toNat ∧ q.2.2.1 = (doneS q.1 0).filter (sureS l p))
        (st' := fun q => [(10, I (1 + q.1)), (9, q.2.1), (8, pt A2), (2, pt b2)]) (H' := fun q => [ow q.2.1 39 2 q.2.2.1.length (q.2.2.1.flatMap encSt), mp m2 ekSp vB q.2.2.2.1, bx b2 [I l.boards, I l.rows, .slice ha l.hooks.length hc, .slice pa l.patches.length pc]])
        (R' := fun _ => KAnd (KBox A2 (aimCs l p ha hc pa pc g 92 m2)) (KBall l ha hc pa pc g)) (μ := fun q => l.boards.toNat - q.1) (0, .slice none 0 0, [], noMemo l (enM p)) ⟨by omega, rfl⟩ (stsub_cons rfl (stsub_cons rfl (stsub_cons rfl (stsub_cons rfl stsub_nil)))) (show HSub _ [ow (.slice none 0 0) 39 2 0 [], mp m2 ekSp vB (fun _ => none), bx b2 _] from hsub_cons (hsub_cons (hsub_cons hsub_nil))) (Knows.know) ?_
      rintro ⟨i, v, L, m⟩ ⟨hi, hL⟩ K hK
      dsimp only at hi hL ⊢
      refine JC_seq ?_
      refine JC_seq ?_
      refine JC_region ?_
      refine JL_pd rfl (det_move rfl) ?_
      refine JL_pd rfl (det_fieldAddr rfl fo_37_0) ?_
      refine JL_dt rfl (det_loadK rfl Try.isAgg3 rfl) ?_
      refine JL_pd rfl (det_leq rfl rfl) ?_
      refine JL_nil ?_
      refine JE_seq ?_
      -- stop: cond
      refine JC_if rfl (fun h3 => ?_) (fun h3 => ?_)
      · refine JC_skip ?_
        refine JE_seq ?_
        refine JC_seq ?_
        refine JC_block ?_
        refine JC_seq ?_
        refine JC_region ?_
        refine JL_pd rfl (det_assign rfl) ?_
        refine JL_nil ?_
        refine JE_seq ?_
        refine JC_block ?_
        -- stop: loop
        have hi2 : i < l.boards.toNat := by omega
        refine JC_loop (γ := Nat × Value × List St × Memo l (enM p)) (I := fun q => q.1 ≤ 11 ∧ q.2.2.1 = (doneS i q.1).filter (sureS l p))
          (st' := fun q => [(11, I (-5 + q.1)), (10, I (1 + i)), (9, q.2.1), (8, pt A2), (2, pt b2)]) (H' := fun q => [ow q.2.1 39 2 q.2.2.1.length (q.2.2.1.flatMap encSt), mp m2 ekSp vB q.2.2.2.1, bx b2 [I l.boards, I l.rows, .slice ha l.hooks.length hc, .slice pa l.patches.length pc]])
          (R' := fun _ => KAnd (KBox A2 (aimCs l p ha hc pa pc g 92 m2)) (KBall l ha hc pa pc g)) (μ := fun q => 11 - q.1) (0, v, L, m) ⟨by omega, hL⟩ (stsub_cons rfl (stsub_cons rfl (stsub_cons rfl (stsub_cons rfl (stsub_cons rfl stsub_nil))))) (show HSub _ [ow v 39 2 L.length (L.flatMap encSt), mp m2 ekSp vB m.1, bx b2 _] from hsub_cons (hsub_cons (hsub_cons hsub_nil))) (Knows.know) ?_
        clear hL
        rintro ⟨j, v, L, m⟩ ⟨hj, hL⟩ K2 hK2
        dsimp only at hj hL ⊢
        have hlen : L.length ≤ 1000 := by
          rw [hL]
          have := List.length_filter_le (sureS l p) (doneS i j)
          rw [doneS_len] at this; omega
        refine JC_seq ?_
        refine JC_seq ?_
        refine JC_region ?_
        refine JL_pd rfl (det_move rfl) ?_
        refine JL_pd rfl (det_leq rfl rfl) ?_
        refine JL_nil ?_
        refine JE_seq ?_
        -- stop: cond
        refine JC_if rfl (fun h4 => ?_) (fun h4 => ?_)
        · refine JC_skip ?_
          refine JE_seq ?_
          refine JC_seq ?_
          refine JC_block ?_
          refine JC_seq ?_
          refine JC_region ?_
          refine JL_pd rfl (det_move rfl) ?_
          refine JL_pd rfl (det_move rfl) ?_
          refine JL_pd rfl (det_build rfl (bld_39_0_1 _ _)) ?_
          refine JL_step rfl rfl rfl (jo_alloc0 Try.zeroValue39 rfl) fun b12 => ?_
          refine JL_step0 rfl rfl (jo_store rfl rfl rfl (by first | (simp only [splice_norm]; done) | (simp only [splice_norm]; rfl) | rfl) Try.sizeOf39 rfl rfl) fun _ => ?_
          refine JL_nil ?_
          refine JE_seq ?_
          refine JC_seq ?_
          refine JC_region ?_
          refine JL_pd rfl (det_move rfl) ?_
          refine JL_dt rfl (det_loadKA rfl Try.isAgg39 Try.sizeOf39 rfl rfl) ?_
          -- stop: op  2 t43 := (call (Call (value f74) (t41 0 t42) (133 3 39)))   <0 1>   136
          have hj2 : j < 11 := by omega
          refine JL_step rfl rfl rfl (jo_callx rfl rfl Try.call74 rfl (canM_j l p ha pa hc pc g A2 m2 V ⟨1 + i, -5 + j⟩ m (by simp; omega) (by simp; omega)) ((perm1 (mp m2 ekSp vB m.1)))) fun m' => ?_
          refine JL_pd rfl (det_not rfl) ?_
          refine JL_nil ?_
          refine JE_seq ?_
          -- stop: cond
          refine JC_cond rfl (fun h5 => ?_) (fun h5 => ?_)
          · refine JC_region ?_
            refine JL_pd rfl (det_move rfl) ?_
            refine JL_dt rfl (det_loadKA rfl Try.isAgg39 Try.sizeOf39 rfl rfl) ?_
            refine JL_step rfl rfl rfl (jo_buildSlice rfl (bsl_30_1_0 _ _)) fun b47 => ?_
            refine JL_step rfl rfl rfl (jo_append el_30 rfl rfl rfl rfl (by omega)) fun b48 => ?_
            refine JL_pd rfl (det_assign rfl) ?_
            refine JL_nil ?_
            refine JE_block ?_
            refine JE_seq ?_
            refine JC_region ?_
            refine JL_pd rfl (det_move rfl) ?_
            refine JL_pd rfl (det_add rfl rfl ⟨by omega, by omega⟩) ?_
            refine JL_pd rfl (det_assign rfl) ?_
            refine JL_nil ?_
            -- stop: end
            refine JE_round hK2 (j + 1, .slice (some ⟨b48.1, 0, none⟩) (L.length + 1) b48.2, L ++ [⟨1 + i, -5 + j⟩], m') ⟨by omega, ?_⟩ (by simp only; omega) ?_ ?_ Knows.know
            · simp only [doneS_dir, List.filter_append, hL]
              congr 1
              simp at h5
              simp [sureS, h5]
            · exact stsub_consI rfl (by omega) (stsub_cons rfl (stsub_cons rfl (stsub_cons rfl (stsub_cons rfl stsub_nil))))
            · exact hsub_ow (by simp) (by simp [encSt]) (hsub_cons (hsub_cons hsub_nil))
          · refine JC_skip ?_
            refine JE_block ?_
            refine JE_seq ?_
            refine JC_region ?_
            refine JL_pd rfl (det_move rfl) ?_
            refine JL_pd rfl (det_add rfl rfl ⟨by omega, by omega⟩) ?_
            refine JL_pd rfl (det_assign rfl) ?_
            refine JL_nil ?_
            -- stop: end
            refine JE_round hK2 (j + 1, v, L, m') ⟨by omega, ?_⟩ (by simp only; omega) ?_ ?_ Knows.know
            · simp only [doneS_dir, List.filter_append, hL]
              simp at h5
              simp [sureS, h5]
            · exact stsub_consI rfl (by omega) (stsub_cons rfl (stsub_cons rfl (stsub_cons rfl (stsub_cons rfl stsub_nil))))
            · exact hsub_cons (hsub_cons (hsub_cons hsub_nil))
        · refine JC_exit ?_
          refine JE_seq_exit ?_
          refine JE_then_exit ?_
          refine JE_block_here ?_
          refine JE_block ?_
          refine JE_seq ?_
          refine JC_region ?_
          refine JL_pd rfl (det_move rfl) ?_
          refine JL_pd rfl (det_add rfl rfl ⟨by omega, by omega⟩) ?_
          refine JL_pd rfl (det_assign rfl) ?_
          refine JL_nil ?_
          -- stop: end
          have hj3 : j = 11 := by omega
          refine JE_round hK (i + 1, v, L, m) ⟨by omega, by simp only; rw [hL, hj3, doneS_row]⟩ (by simp only; omega) ?_ ?_ Knows.know
          · exact stsub_consI rfl (by omega) (stsub_cons rfl (stsub_cons rfl (stsub_cons rfl stsub_nil)))
          · exact hsub_cons (hsub_cons (hsub_cons hsub_nil))
      · refine JC_exit ?_
        refine JE_seq_exit ?_
        refine JE_then_exit ?_
        refine JE_block_here ?_
        refine JE_seq ?_
        refine JC_seq ?_
        refine JC_region ?_
        refine JL_pd rfl (det_move rfl) ?_
        refine JL_pd rfl (det_assign rfl) ?_
        refine JL_pd rfl (det_assign rfl) ?_
        refine JL_nil ?_
        refine JE_seq ?_
        refine JC_ret ?_
        -- stop: out
        have hi3 : i = l.boards.toNat := by omega
        refine JE_slice (enc := encSt) (v := v) L noFp rfl rfl ?_
        rintro a cap rfl
        have hLa : L = aimsL l p := by rw [hL, hi3]; rfl
        subst hLa
        refine JE_out (.inl rfl) (a, cap) (results2 Try.results29 (res_tmp rfl) (res_tmp rfl)) rfl (List.Perm.refl _) (fun w h => h.1)
end Go.Proofs.Ytcfhbnfincpehaa
