/- Walks of package path: Turn, Play. -/
import Derived.Test.YtcfhbnfincpehaaW7
namespace Go.Proofs.Ytcfhbnfincpehaa
open Go.RowKit Go.Shelf

theorem Turn_je (l : La) (s : St) (ha pa : Option Addr) (hc pc : Nat) (he : startErr l s ≠ 0) : Cv Try.prog 25 [.agg #[I l.boards, I l.rows, .slice ha l.hooks.length hc, .slice pa l.patches.length pc], .agg #[I s.b, I s.d]] (KLane l ha hc pa pc) (.tuple #[.agg #[I 0, I 0], I (startErr l s)]) := by
  refine Cx_of Try.func25 rfl Try.ntmps25 rfl fun w0 M0 => ?_
  refine JC_seq ?_
  refine JC_region ?_
  refine JL_step rfl rfl rfl (jo_box rfl rfl) fun b2 => ?_
  refine JL_step rfl rfl rfl (jo_box rfl rfl) fun b3 => ?_
  refine JL_step rfl rfl rfl (jo_alloc0 Try.zeroValue49 rfl) fun b4 => ?_
  refine JL_pd rfl (det_assign rfl) ?_
  refine JL_nil ?_
  refine JE_seq ?_
  refine JC_seq ?_
  refine JC_region ?_
  refine JL_dt rfl (det_loadKA rfl Try.isAgg37 Try.sizeOf37 rfl rfl) ?_
  refine JL_dt rfl (det_loadKA rfl Try.isAgg39 Try.sizeOf39 rfl rfl) ?_
  -- stop: op  2 t13 := (call (Call (value f56) (t11 t12) (37 39)))   <0 1>   176
  refine JL_step rfl rfl rfl (jo_callv rfl rfl Try.call56 rfl (started_je l s ha pa hc pc he)) fun _ => ?_
  refine JL_pd rfl (det_move rfl) ?_
  refine JL_pd rfl (det_extract rfl rfl) ?_
  refine JL_pd rfl (det_extract rfl rfl) ?_
  refine JL_step rfl rfl rfl (jo_alloc0 Try.zeroValue107 rfl) fun b6 => ?_
  refine JL_step0 rfl rfl (jo_store rfl rfl rfl (by first | (simp only [splice_norm]; done) | (simp only [splice_norm]; rfl) | rfl) Try.sizeOf107 rfl rfl) fun _ => ?_
  refine JL_pd rfl (det_assign rfl) ?_
  refine JL_nil ?_
  refine JE_seq ?_
  refine JC_seq ?_
  refine JC_seq ?_
  refine JC_region ?_
  refine JL_pd rfl (det_move rfl) ?_
  refine JL_pd rfl (det_neq rfl rfl) ?_
  refine JL_nil ?_
  refine JE_seq ?_
  -- stop: cond
  refine JC_ifn rfl (fun h1 => ?_) (fun h1 => ?_)
  · refine JC_seq ?_
    refine JC_region ?_
    refine JL_pd rfl (det_build rfl (bld_49)) ?_
    refine JL_pd rfl (det_move rfl) ?_
    refine JL_step0 rfl rfl (jo_store rfl rfl rfl (by first | (simp only [splice_norm]; done) | (simp only [splice_norm]; rfl) | rfl) Try.sizeOf49 rfl rfl) fun _ => ?_
    refine JL_pd rfl (det_assign rfl) ?_
    refine JL_nil ?_
    refine JE_seq ?_
    refine JC_ret ?_
    refine JE_seq_ret ?_
    -- stop: out
    refine JE_out (.inl rfl) () (results2 Try.results25 (res_box rfl Try.isAgg49 Try.sizeOf49 rfl) (res_tmp rfl)) rfl (List.Perm.refl _) (fun _ _ => trivial)
  · refine JC_skip ?_
    refine JE_seq ?_
    refine JC_seq ?_
    refine JC_region ?_
    -- stop: op  0 t20 := (makeMap 121 none)   180
    exact absurd h1 he
/-- The range of the turns of a ball. -/
def turnV (l : La) (s : St) : Rg := turnN l (nR l) 0 s
theorem Turn_jo (l : La) (s : St) (ha pa : Option Addr) (hc pc : Nat) (he : startErr l s = 0) : Cv Try.prog 25 [.agg #[I l.boards, I l.rows, .slice ha l.hooks.length hc, .slice pa l.patches.length pc], .agg #[I s.b, I s.d]] (KLane l ha hc pa pc) (.tuple #[.agg #[I (turnV l s).lo, I (turnV l s).hi], I 0]) := by
  obtain ⟨V, h0⟩ := valid_start he
  obtain ⟨d1, d2⟩ := start_d h0
  have r1 := V.r1
  refine Cx_of Try.func25 rfl Try.ntmps25 rfl fun w0 M0 => ?_
  refine JC_seq ?_
  refine JC_region ?_
  refine JL_step rfl rfl rfl (jo_box rfl rfl) fun b2 => ?_
  refine JL_step rfl rfl rfl (jo_box rfl rfl) fun b3 => ?_
  refine JL_step rfl rfl rfl (jo_alloc0 Try.zeroValue49 rfl) fun b4 => ?_
  refine JL_pd rfl (det_assign rfl) ?_
  refine JL_nil ?_
  refine JE_seq ?_
  refine JC_seq ?_
  refine JC_region ?_
  refine JL_dt rfl (det_loadKA rfl Try.isAgg37 Try.sizeOf37 rfl rfl) ?_
  refine JL_dt rfl (det_loadKA rfl Try.isAgg39 Try.sizeOf39 rfl rfl) ?_
  -- stop: op  2 t13 := (call (Call (value f56) (t11 t12) (37 39)))   <0 1>   176
  refine JL_step rfl rfl rfl (jo_call rfl rfl Try.call56 rfl (started_jo l s ha pa hc pc he)) fun g => ?_
  refine JL_pd rfl (det_move rfl) ?_
  refine JL_pd rfl (det_extract rfl rfl) ?_
  refine JL_pd rfl (det_extract rfl rfl) ?_
  refine JL_step rfl rfl rfl (jo_alloc0 Try.zeroValue107 rfl) fun b6 => ?_
  refine JL_step0 rfl rfl (jo_store rfl rfl rfl (by first | (simp only [splice_norm]; done) | (simp only [splice_norm]; rfl) | rfl) Try.sizeOf107 rfl rfl) fun _ => ?_
  refine JL_pd rfl (det_assign rfl) ?_
  refine JL_nil ?_
  refine JE_seq ?_
  refine JC_seq ?_
  refine JC_seq ?_
  refine JC_region ?_
  refine JL_pd rfl (det_move rfl) ?_
  refine JL_pd rfl (det_neq rfl rfl) ?_
  refine JL_nil ?_
  refine JE_seq ?_
  -- stop: cond
  refine JC_ifn rfl (fun h1 => ?_) (fun h1 => ?_)
  · refine JC_seq ?_
    refine JC_region ?_
    refine JL_pd rfl (det_build rfl (bld_49)) ?_
    refine JL_pd rfl (det_move rfl) ?_
    refine JL_step0 rfl rfl (jo_store rfl rfl rfl (by first | (simp only [splice_norm]; done) | (simp only [splice_norm]; rfl) | rfl) Try.sizeOf49 rfl rfl) fun _ => ?_
    refine JL_pd rfl (det_assign rfl) ?_
    refine JL_nil ?_
    refine JE_seq ?_
    refine JC_ret ?_
    refine JE_seq_ret ?_
    -- stop: out
    exact absurd rfl h1
  · refine JC_skip ?_
    refine JE_seq ?_
    refine JC_seq ?_
    refine JC_region ?_
    -- stop: op  0 t20 := (makeMap 121 none)   180
    refine JL_step rfl rfl rfl (jo_makeMap ekSp vR) fun b20 => ?_
    refine JL_step rfl rfl rfl (jo_alloc0 Try.zeroValue121 rfl) fun b8 => ?_
    refine JL_step0 rfl rfl (jo_store rfl rfl rfl (by first | (simp only [splice_norm]; done) | (simp only [splice_norm]; rfl) | rfl) Try.sizeOf121 rfl rfl) fun _ => ?_
    refine JL_nil ?_
    refine JE_seq ?_
    refine JC_seq ?_
    refine JC_region ?_
    refine JL_step rfl rfl rfl (jo_alloc0 Try.zeroValue122 rfl) fun b9 => ?_
    refine JL_nil ?_
    refine JE_seq ?_
    refine JC_seq ?_
    refine JC_region ?_
    refine JL_pd rfl (det_makeFuncE rfl rfl) ?_
    refine JL_step0 rfl rfl (jo_store rfl rfl rfl (by first | (simp only [splice_norm]; done) | (simp only [splice_norm]; rfl) | rfl) Try.sizeOf122 rfl rfl) fun _ => ?_
    refine JL_nil ?_
    refine JE_seq ?_
    refine JC_seq ?_
    refine JC_region ?_
    refine JL_dt rfl (det_loadK rfl Try.isAgg122 rfl) ?_
    refine JL_dt rfl (det_loadKA rfl Try.isAgg39 Try.sizeOf39 rfl rfl) ?_
    -- stop: op  2 t24 := (call (Call (value t22) (0 t23) (3 39)))   <0 1>   203
    refine JL_keep b6 noFp (JL_keep b8 noFp (JL_keep b9 noFp ?_))
    refine JL_step rfl rfl rfl (jo_callx rfl rfl Try.call64 rfl (turn1_j l ha pa hc pc g b6 b8 b9 b20 V (nR l) 0 s ⟨fun _ => none, fun _ _ h => by cases h⟩ (by unfold nR; omega) (by omega) d1 d2) ((perm1 (mp b20 ekSp vR (fun _ => none))))) fun m => ?_
    refine JL_step0 rfl rfl (jo_store rfl rfl rfl (by first | (simp only [splice_norm]; done) | (simp only [splice_norm]; rfl) | rfl) Try.sizeOf49 rfl rfl) fun _ => ?_
    refine JL_pd rfl (det_assign rfl) ?_
    refine JL_nil ?_
    refine JE_seq ?_
    refine JC_ret ?_
    -- stop: out
    refine JE_out (.inl rfl) () (results2 Try.results25 (res_box rfl Try.isAgg49 Try.sizeOf49 rfl) (res_tmp rfl)) rfl (List.Perm.refl _) (fun _ _ => trivial)
end Go.Proofs.Ytcfhbnfincpehaa
