/- The walk of PathNames. -/
import Derived.Test.YtcfhbnfincpehaaB7
import Derived.Test.YtcfhbnfincpehaaB9
set_option linter.unusedSimpArgs false
set_option linter.unusedVariables false
namespace Go.Proofs.Ytcfhbnfincpehaa
open Go.RowKit Go.Shelf

abbrev oilH : List Rg := [⟨-1, -1⟩, ⟨-1, 0⟩]
abbrev oilP : List Pa := [⟨⟨0, 0⟩, ⟨1, 20⟩, 1⟩]
/-- The lane of the examples, in memory of one's own. -/
theorem loiled_own : Cx Try.prog 52 [] [] KTrue (fun q : Nat × Nat => .agg #[I 20, I 5, .slice (some ⟨q.1, 0, none⟩) 2 2, .slice (some ⟨q.2, 0, none⟩) 1 1])
    (fun q => [ow (.slice (some ⟨q.1, 0, none⟩) 2 2) 49 2 2 [I (-1), I (-1), I (-1), I 0], ow (.slice (some ⟨q.2, 0, none⟩) 1 1) 116 5 1 [I 0, I 0, I 1, I 20, I 1]]) (fun _ => KTrue) := by
  refine Cx_of Try.func52 rfl Try.ntmps52 rfl fun w0 M0 => ?_
  refine JC_seq ?_
  refine JC_region ?_
  refine JL_step rfl rfl rfl (jo_alloc0 Try.zeroValue37 rfl) fun b0 => ?_
  refine JL_nil ?_
  refine JE_seq ?_
  refine JC_seq ?_
  refine JC_region ?_
  refine JL_step rfl rfl rfl (jo_callv rfl rfl Try.call54 rfl (lbetween_j _ _)) fun _ => ?_
  refine JL_step rfl rfl rfl (jo_callv rfl rfl Try.call54 rfl (lbetween_j _ _)) fun _ => ?_
  refine JL_step rfl rfl rfl (jo_buildOwn (z := 2) rfl (bsl_34_2_0_1 _ _ _ _) rfl (by decide)) fun b3 => ?_
  refine JL_step rfl rfl rfl (jo_callv rfl rfl Try.call54 rfl (lbetween_j _ _)) fun _ => ?_
  refine JL_step rfl rfl rfl (jo_callv rfl rfl Try.call54 rfl (lbetween_j _ _)) fun _ => ?_
  refine JL_pd rfl (det_build rfl (bld_116_0_1_2 _ _ _ _ _)) ?_
  refine JL_step rfl rfl rfl (jo_buildOwn (z := 5) rfl (bsl_35_1_0 _ _ _ _ _) rfl (by decide)) fun b7 => ?_
  refine JL_pd rfl (det_build rfl (bld_37_0_1_2_3 _ _ _ _ _ _ _ _)) ?_
  refine JL_step0 rfl rfl (jo_store rfl rfl rfl (by first | (simp only [splice_norm]; done) | (simp only [splice_norm]; rfl) | rfl) Try.sizeOf37 rfl rfl) fun _ => ?_
  refine JL_nil ?_
  refine JE_seq ?_
  refine JC_ret ?_
  -- stop: out
  refine JE_out (.inl rfl) (b3, b7) (results1 Try.results52 (res_box rfl Try.isAgg37 Try.sizeOf37 rfl)) rfl (perm2 (ow (.slice (some ⟨b3, 0, none⟩) 2 2) 49 2 2 [I (-1), I (-1), I (-1), I 0]) (ow (.slice (some ⟨b7, 0, none⟩) 1 1) 116 5 1 [I 0, I 0, I 1, I 20, I 1])) (fun _ _ => trivial)
theorem nm_play : (playV oiledL ⟨12, 2⟩ [-1, -1, -1, -1]) = ([⟨12, 2⟩, ⟨13, 1⟩, ⟨13, 0⟩, ⟨12, -1⟩, ⟨10, -2⟩], false, true) := by decide +kernel
theorem nm_play1 : (playV oiledL ⟨12, 2⟩ [1, -1, -1, -1]).2.2 = false := by decide +kernel
theorem nm_play2 : (playV oiledL ⟨12, 2⟩ [-1, -1, -1]).2.2 = false := by decide +kernel
theorem nm_st2 : startErr oiledL ⟨2, -3⟩ = 0 := by decide +kernel
theorem nm_st20 : startErr oiledL ⟨2, 0⟩ = 0 := by decide +kernel
theorem nm_st21 : startErr oiledL ⟨21, 0⟩ = 2 := by decide +kernel
theorem nm_row : rowL oiledL ⟨2, -3⟩ 1 = [] := by decide +kernel
theorem nm_rowV : rowV oiledL ⟨2, -3⟩ 1 = 2 := by decide +kernel
theorem nm_aim : aimErr oiledL ⟨12, 2⟩ aimedP = 0 := by decide +kernel
theorem nm_aim10 : aimErr oiledL ⟨10, 2⟩ aimedP = 0 := by decide +kernel
theorem nm_hit : hitsV oiledL ⟨12, 2⟩ aimedP = 2 := by decide +kernel
theorem nm_hit10 : hitsV oiledL ⟨10, 2⟩ aimedP = 1 := by decide +kernel
theorem nm_aims : aimsL oiledL aimedP = [⟨11, 2⟩, ⟨12, 2⟩, ⟨13, 2⟩, ⟨15, 1⟩, ⟨16, 1⟩, ⟨17, 1⟩] := by decide +kernel
theorem nm_bad : aimErr oiledL ⟨2, 0⟩ ⟨⟨2, 1⟩, ⟨0, 0⟩⟩ = 2 := by decide +kernel
theorem nm_none : canN oiledL (enS aimedP false) (nR oiledL) 0 ⟨12, 2⟩ = false := by decide +kernel
theorem nm_far : aimsErr oiledL ⟨⟨90, 99⟩, ⟨0, 0⟩⟩ = 0 := by decide +kernel
theorem nm_best : bestF (aimsL oiledL ⟨⟨90, 99⟩, ⟨0, 0⟩⟩) = (⟨0, 0⟩, -1) := by decide +kernel
theorem nm_few : fault ⟨20, 5, [⟨-1, -1⟩], oilP⟩ = 1 := by decide +kernel
theorem nm_wide : fault ⟨20, 5, [⟨-1, -1⟩, ⟨-1, 4⟩], oilP⟩ = 1 := by decide +kernel
theorem nm_deep : fault ⟨20, 5, oilH, List.replicate 9 ⟨⟨0, 0⟩, ⟨0, 0⟩, 0⟩⟩ = 3 := by decide +kernel
theorem nm_nil : fault ⟨0, 0, [], []⟩ = 1 := by decide +kernel
section
variable (ha pa : Option Addr) (hc pc : Nat)
abbrev oilV (ha pa : Option Addr) (hc pc : Nat) : Value := .agg #[I 20, I 5, .slice ha 2 hc, .slice pa 1 pc]
abbrev KOil (ha pa : Option Addr) (hc pc : Nat) : World → Prop := KLane oiledL ha hc pa pc
theorem nmPlay_j (ta : Option Addr) (tc : Nat) : Cr Try.prog 42 [oilV ha pa hc pc, .agg #[I 12, I 2], .slice ta 4 tc] (KAnd (KSl ta 4 tc encI [-1, -1, -1, -1]) (KOil ha pa hc pc)) (fun q : Option Addr × Nat => .tuple #[.slice q.1 5 q.2, .bool false, I 0])
    (fun q => KSl q.1 5 q.2 encSt [⟨12, 2⟩, ⟨13, 1⟩, ⟨13, 0⟩, ⟨12, -1⟩, ⟨10, -2⟩]) := by
  have h := Play_j1 oiledL ⟨12, 2⟩ [-1, -1, -1, -1] ha pa hc pc ta tc awake_start (by decide) (by rw [nm_play])
  rw [nm_play] at h
  exact h
theorem nmPlay1_j (ta : Option Addr) (tc : Nat) : Cv Try.prog 42 [oilV ha pa hc pc, .agg #[I 12, I 2], .slice ta 4 tc] (KAnd (KSl ta 4 tc encI [1, -1, -1, -1]) (KOil ha pa hc pc)) (.tuple #[.slice none 0 0, .bool false, I 2]) :=
  Play_j0 oiledL ⟨12, 2⟩ [1, -1, -1, -1] ha pa hc pc ta tc awake_start (by decide) nm_play1
theorem nmPlay2_j (ta : Option Addr) (tc : Nat) : Cv Try.prog 42 [oilV ha pa hc pc, .agg #[I 12, I 2], .slice ta 3 tc] (KAnd (KSl ta 3 tc encI [-1, -1, -1]) (KOil ha pa hc pc)) (.tuple #[.slice none 0 0, .bool false, I 2]) :=
  Play_j0 oiledL ⟨12, 2⟩ [-1, -1, -1] ha pa hc pc ta tc awake_start (by decide) nm_play2
theorem nmReach_j : Cr Try.prog 18 [oilV ha pa hc pc, .agg #[I 2, I (-3)], I 1] (KOil ha pa hc pc) (fun q : Option Addr × Nat => .tuple #[.slice q.1 0 q.2, .int .u8 2, I 0]) (fun _ => KTrue) := by
  have h := Reach_jo oiledL ⟨2, -3⟩ 1 ha pa hc pc nm_st2 (by decide)
  rw [nm_row, nm_rowV] at h
  exact h.mono (fun _ h => h) (fun _ _ _ => trivial)
theorem nmHits_j : Cv Try.prog 45 [oilV ha pa hc pc, .agg #[I 12, I 2], .agg #[I 9, I 15, I (-3), I (-1)]] (KOil ha pa hc pc) (.tuple #[.int .u8 2, I 0]) := by
  have h := Hits_jo oiledL ⟨12, 2⟩ aimedP ha pa hc pc nm_aim
  rw [nm_hit] at h
  exact h
theorem nmHits10_j : Cv Try.prog 45 [oilV ha pa hc pc, .agg #[I 10, I 2], .agg #[I 9, I 15, I (-3), I (-1)]] (KOil ha pa hc pc) (.tuple #[.int .u8 1, I 0]) := by
  have h := Hits_jo oiledL ⟨10, 2⟩ aimedP ha pa hc pc nm_aim10
  rw [nm_hit10] at h
  exact h
abbrev nmA : List St := [⟨11, 2⟩, ⟨12, 2⟩, ⟨13, 2⟩, ⟨15, 1⟩, ⟨16, 1⟩, ⟨17, 1⟩]
theorem nmAims_j : Cr Try.prog 29 [oilV ha pa hc pc, .agg #[I 9, I 15, I (-3), I (-1)]] (KOil ha pa hc pc) (fun q : Option Addr × Nat => .tuple #[.slice q.1 6 q.2, I 0]) (fun q => KSl q.1 6 q.2 encSt nmA) := by
  have h := Aims_jo oiledL aimedP ha pa hc pc awake_aims
  rw [nm_aims] at h
  exact h
theorem nmReach21_j : Cv Try.prog 18 [oilV ha pa hc pc, .agg #[I 21, I 0], I 0] (KOil ha pa hc pc) (.tuple #[.slice none 0 0, .int .u8 0, I 2]) := by
  have h := Reach_je oiledL ⟨21, 0⟩ 0 ha pa hc pc (by rw [nm_st21]; decide)
  rw [nm_st21] at h
  exact h
theorem nmReach5_j : Cv Try.prog 18 [oilV ha pa hc pc, .agg #[I 2, I 0], I 5] (KOil ha pa hc pc) (.tuple #[.slice none 0 0, .int .u8 0, I 2]) :=
  Reach_jr oiledL ⟨2, 0⟩ 5 ha pa hc pc nm_st20 (by decide)
theorem nmHitsB_j : Cv Try.prog 45 [oilV ha pa hc pc, .agg #[I 2, I 0], .agg #[I 2, I 1, I 0, I 0]] (KOil ha pa hc pc) (.tuple #[.int .u8 0, I 2]) := by
  have h := Hits_je oiledL ⟨2, 0⟩ ⟨⟨2, 1⟩, ⟨0, 0⟩⟩ ha pa hc pc (by rw [nm_bad]; decide)
  rw [nm_bad] at h
  exact h
theorem nmShows_j : Cv Try.prog 49 [oilV ha pa hc pc, .agg #[I 12, I 2], .agg #[I 9, I 15, I (-3), I (-1)], .bool false] (KOil ha pa hc pc) (.tuple #[.slice none 0 0, I 7]) :=
  Shows_jn oiledL ⟨12, 2⟩ aimedP false ha pa hc pc nm_aim nm_none
theorem nmBest_j : Cv Try.prog 31 [oilV ha pa hc pc, .agg #[I 90, I 99, I 0, I 0]] (KOil ha pa hc pc) (.tuple #[.agg #[I 0, I 0], I 0, I 9]) := by
  have h := Best_jo oiledL ⟨⟨90, 99⟩, ⟨0, 0⟩⟩ ha pa hc pc nm_far
  rw [nm_best] at h
  exact h
theorem nmFew_j : Cv Try.prog 41 [.agg #[I 20, I 5, .slice ha 1 hc, .slice pa 1 pc]] (KLane ⟨20, 5, [⟨-1, -1⟩], oilP⟩ ha hc pa pc) (I 1) := by
  have h := CheckLane_j ⟨20, 5, [⟨-1, -1⟩], oilP⟩ ha pa hc pc
  rw [nm_few] at h
  exact h
theorem nmWide_j : Cv Try.prog 41 [.agg #[I 20, I 5, .slice ha 2 hc, .slice pa 1 pc]] (KLane ⟨20, 5, [⟨-1, -1⟩, ⟨-1, 4⟩], oilP⟩ ha hc pa pc) (I 1) := by
  have h := CheckLane_j ⟨20, 5, [⟨-1, -1⟩, ⟨-1, 4⟩], oilP⟩ ha pa hc pc
  rw [nm_wide] at h
  exact h
theorem nmDeep_j : Cv Try.prog 41 [.agg #[I 20, I 5, .slice ha 2 hc, .slice pa 9 pc]] (KLane ⟨20, 5, oilH, List.replicate 9 ⟨⟨0, 0⟩, ⟨0, 0⟩, 0⟩⟩ ha hc pa pc) (I 3) := by
  have h := CheckLane_j ⟨20, 5, oilH, List.replicate 9 ⟨⟨0, 0⟩, ⟨0, 0⟩, 0⟩⟩ ha pa hc pc
  rw [nm_deep] at h
  exact h
theorem nmNil_j : Cv Try.prog 41 [.agg #[I 0, I 0, .slice none 0 0, .slice none 0 0]] KTrue (I 1) := by
  have h := CheckLane_j ⟨0, 0, [], []⟩ none none 0 0
  rw [nm_nil] at h
  exact h.mono (fun w _ => ⟨KSl_nil w, KSl_nil w⟩) (fun _ _ h => h)
end
set_option maxRecDepth 100000 in
set_option maxHeartbeats 1000000 in
theorem PathNames_j : Cv Try.prog 14 [] KTrue (.bool true) := by
  refine Cx_of Try.func14 rfl Try.ntmps14 rfl fun w0 M0 => ?_
  refine JC_seq ?_
  refine JC_region ?_
  refine JL_pd rfl (det_assign rfl) ?_
  refine JL_nil ?_
  refine JE_seq ?_
  refine JC_seq ?_
  refine JC_region ?_
  refine JL_step rfl rfl rfl (jo_call rfl rfl Try.call52 rfl (loiled_j)) fun x22 => ?_
  refine JL_pd rfl (det_build rfl (bld_39_0_1 _ _)) ?_
  refine JL_step rfl rfl rfl (jo_buildSlice rfl (bsl_75_4_0_1_2_3 _ _ _ _)) fun b24 => ?_
  -- stop: op  3 t25 := (call (Call (value f42) (t22 t23 t24) (37 39 75)))   <0 1 2 0>   11
  refine JL_lit (enc := encI) b24 4 [-1, -1, -1, -1] noFp rfl rfl (by decide) ?_
  refine JL_step rfl rfl rfl (jo_call rfl rfl Try.call42 rfl (nmPlay_j x22.1.1 x22.2.1 x22.1.2 x22.2.2 (some ⟨b24, 0, none⟩) 4)) fun ⟨qa, qc⟩ => ?_
  refine JL_pd rfl (det_move rfl) ?_
  refine JL_pd rfl (det_extract rfl rfl) ?_
  refine JL_pd rfl (det_extract rfl rfl) ?_
  refine JL_pd rfl (det_extract rfl rfl) ?_
  refine JL_pd rfl (det_assign rfl) ?_
  refine JL_pd rfl (det_assign rfl) ?_
  refine JL_pd rfl (det_assign rfl) ?_
  refine JL_nil ?_
  refine JE_seq ?_
  refine JC_seq ?_
  refine JC_region ?_
  refine JL_step rfl rfl rfl (jo_call rfl rfl Try.call52 rfl (loiled_j)) fun x30 => ?_
  refine JL_pd rfl (det_build rfl (bld_39_0_1 _ _)) ?_
  -- stop: op  2 t32 := (call (Call (value f18) (t30 t31 1) (37 39 3)))   <0 1 0>   12
  refine JL_step rfl rfl rfl (jo_call rfl rfl Try.call18 rfl (nmReach_j x30.1.1 x30.2.1 x30.1.2 x30.2.2)) fun ⟨ra, rc⟩ => ?_
  refine JL_pd rfl (det_move rfl) ?_
  refine JL_pd rfl (det_extract rfl rfl) ?_
  refine JL_pd rfl (det_extract rfl rfl) ?_
  refine JL_pd rfl (det_extract rfl rfl) ?_
  refine JL_pd rfl (det_assign rfl) ?_
  refine JL_pd rfl (det_assign rfl) ?_
  refine JL_pd rfl (det_assign rfl) ?_
  refine JL_nil ?_
  refine JE_seq ?_
  refine JC_seq ?_
  refine JC_region ?_
  refine JL_step rfl rfl rfl (jo_call rfl rfl Try.call52 rfl (loiled_j)) fun x37 => ?_
  refine JL_pd rfl (det_build rfl (bld_39_0_1 _ _)) ?_
  refine JL_step rfl rfl rfl (jo_callv rfl rfl Try.call53 rfl (laimed_j)) fun _ => ?_
  -- stop: op  3 t40 := (call (Call (value f45) (t37 t38 t39) (37 39 62)))   <0 1 2 2>   13
  refine JL_step rfl rfl rfl (jo_callv rfl rfl Try.call45 rfl (nmHits_j x37.1.1 x37.2.1 x37.1.2 x37.2.2)) fun _ => ?_
  refine JL_pd rfl (det_move rfl) ?_
  refine JL_pd rfl (det_extract rfl rfl) ?_
  refine JL_pd rfl (det_extract rfl rfl) ?_
  refine JL_pd rfl (det_assign rfl) ?_
  refine JL_pd rfl (det_assign rfl) ?_
  refine JL_nil ?_
  refine JE_seq ?_
  refine JC_seq ?_
  refine JC_region ?_
  refine JL_step rfl rfl rfl (jo_call rfl rfl Try.call52 rfl (loiled_j)) fun x44 => ?_
  refine JL_pd rfl (det_build rfl (bld_39_0_1 _ _)) ?_
  refine JL_step rfl rfl rfl (jo_callv rfl rfl Try.call53 rfl (laimed_j)) fun _ => ?_
  -- stop: op  3 t47 := (call (Call (value f45) (t44 t45 t46) (37 39 62)))   <0 1 2 2>   14
  refine JL_step rfl rfl rfl (jo_callv rfl rfl Try.call45 rfl (nmHits10_j x44.1.1 x44.2.1 x44.1.2 x44.2.2)) fun _ => ?_
  refine JL_pd rfl (det_move rfl) ?_
  refine JL_pd rfl (det_extract rfl rfl) ?_
  refine JL_pd rfl (det_extract rfl rfl) ?_
  refine JL_pd rfl (det_assign rfl) ?_
  refine JL_pd rfl (det_assign rfl) ?_
  refine JL_nil ?_
  refine JE_seq ?_
  refine JC_seq ?_
  refine JC_region ?_
  refine JL_step rfl rfl rfl (jo_call rfl rfl Try.call52 rfl (loiled_j)) fun x51 => ?_
  refine JL_step rfl rfl rfl (jo_callv rfl rfl Try.call53 rfl (laimed_j)) fun _ => ?_
  -- stop: op  2 t53 := (call (Call (value f29) (t51 t52) (37 62)))   <0 1 1>   15
  refine JL_step rfl rfl rfl (jo_call rfl rfl Try.call29 rfl (nmAims_j x51.1.1 x51.2.1 x51.1.2 x51.2.2)) fun ⟨aa, ac⟩ => ?_
  refine JL_pd rfl (det_move rfl) ?_
  refine JL_pd rfl (det_extract rfl rfl) ?_
  refine JL_pd rfl (det_extract rfl rfl) ?_
  refine JL_pd rfl (det_assign rfl) ?_
  refine JL_pd rfl (det_assign rfl) ?_
  refine JL_nil ?_
  refine JE_seq ?_
  refine JC_seq ?_
  refine JC_seq ?_
  refine JC_region ?_
  refine JL_pd rfl (det_move rfl) ?_
  refine JL_pd rfl (det_neq rfl rfl) ?_
  refine JL_pd rfl (det_move rfl) ?_
  -- stop: guard 2
  skip
  refine JL_is (d0 := 58) false rfl (by rfl) (fun g1 => ?_)
  refine JL_guard rfl rfl g1 ?_
  refine JL_pd rfl (det_move rfl) ?_
  refine JL_pd rfl (det_pick_f rfl g1 rfl) ?_
  refine JL_pd rfl (det_move rfl) ?_
  refine JL_is (d0 := 61) false rfl (by rfl) (fun g2 => ?_)
  refine JL_guard rfl rfl g2 ?_
  refine JL_pd rfl (det_move rfl) ?_
  refine JL_guard rfl rfl g2 ?_
  refine JL_pd rfl (det_build rfl (bld_27_0_1 _ _)) ?_
  refine JL_guard rfl rfl g2 ?_
  refine JL_pd rfl (det_build rfl (bld_27_0_1 _ _)) ?_
  refine JL_guard rfl rfl g2 ?_
  refine JL_pd rfl (det_build rfl (bld_27_0 _)) ?_
  refine JL_guard rfl rfl g2 ?_
  refine JL_pd rfl (det_build rfl (bld_27_0_1 _ _)) ?_
  refine JL_guard rfl rfl g2 ?_
  refine JL_pd rfl (det_build rfl (bld_27_0_1 _ _)) ?_
  refine JL_guard rfl rfl g2 ?_
  refine JL_step rfl rfl rfl (jo_buildSlice rfl (bsl_43_5_0_1_2_3_4 _ _ _ _ _ _ _ _ _ _)) fun b68 => ?_
  refine JL_guard rfl rfl g2 ?_
  -- stop: op 13 t69 := (call (Call (value f24) (t62 t68) (30 43)))   <6 12 5 5>   16
  refine JL_lit (enc := encSt) b68 5 [⟨12, 2⟩, ⟨13, 1⟩, ⟨13, 0⟩, ⟨12, -1⟩, ⟨10, -2⟩] noFp rfl rfl (by decide) ?_
  refine JL_step rfl rfl rfl (jo_callv rfl rfl Try.call24 rfl (lstates_j [⟨12, 2⟩, ⟨13, 1⟩, ⟨13, 0⟩, ⟨12, -1⟩, ⟨10, -2⟩] [⟨12, 2⟩, ⟨13, 1⟩, ⟨13, 0⟩, ⟨12, -1⟩, ⟨10, -2⟩] qa (some ⟨b68, 0, none⟩) qc 5 (by decide))) fun _ => ?_
  refine JL_guard rfl rfl g2 ?_
  refine JL_pd rfl (det_not rfl) ?_
  refine JL_pd rfl (det_pick_f rfl g2 rfl) ?_
  refine JL_pd rfl (det_move rfl) ?_
  -- stop: guard 16
  skip
  refine JL_is (d0 := 72) false rfl (by first | rfl | simp) (fun g1 => ?_)
  refine JL_guard rfl rfl g1 ?_
  refine JL_pd rfl (det_move rfl) ?_
  refine JL_guard rfl rfl g1 ?_
  refine JL_pd rfl (det_neq rfl rfl) ?_
  refine JL_pd rfl (det_pick_f rfl g1 rfl) ?_
  refine JL_pd rfl (det_move rfl) ?_
  refine JL_is (d0 := 76) false rfl (by first | rfl | simp) (fun g2 => ?_)
  refine JL_guard rfl rfl g2 ?_
  refine JL_pd rfl (det_move rfl) ?_
  refine JL_guard rfl rfl g2 ?_
  refine JL_pd rfl (det_len rfl Try.runUnderlying30) ?_
  refine JL_guard rfl rfl g2 ?_
  refine JL_pd rfl (det_neq rfl rfl) ?_
  refine JL_pd rfl (det_pick_f rfl g2 rfl) ?_
  refine JL_pd rfl (det_move rfl) ?_
  refine JL_is (d0 := 81) false rfl (by first | rfl | simp) (fun g3 => ?_)
  refine JL_guard rfl rfl g3 ?_
  refine JL_pd rfl (det_move rfl) ?_
  refine JL_guard rfl rfl g3 ?_
  refine JL_pd rfl (det_neq rfl rfl) ?_
  refine JL_pd rfl (det_pick_f rfl g3 rfl) ?_
  refine JL_pd rfl (det_move rfl) ?_
  refine JL_is (d0 := 85) false rfl (by first | rfl | simp) (fun g4 => ?_)
  refine JL_guard rfl rfl g4 ?_
  refine JL_pd rfl (det_move rfl) ?_
  refine JL_guard rfl rfl g4 ?_
  refine JL_pd rfl (det_neq rfl rfl) ?_
  refine JL_pd rfl (det_pick_f rfl g4 rfl) ?_
  refine JL_pd rfl (det_move rfl) ?_
  refine JL_is (d0 := 89) false rfl (by first | rfl | simp) (fun g5 => ?_)
  refine JL_guard rfl rfl g5 ?_
  refine JL_pd rfl (det_move rfl) ?_
  refine JL_guard rfl rfl g5 ?_
  refine JL_pd rfl (det_neq rfl rfl) ?_
  refine JL_pd rfl (det_pick_f rfl g5 rfl) ?_
  refine JL_pd rfl (det_move rfl) ?_
  refine JL_is (d0 := 93) false rfl (by first | rfl | simp) (fun g6 => ?_)
  refine JL_guard rfl rfl g6 ?_
  refine JL_pd rfl (det_move rfl) ?_
  refine JL_guard rfl rfl g6 ?_
  refine JL_pd rfl (det_neq rfl rfl) ?_
  refine JL_pd rfl (det_pick_f rfl g6 rfl) ?_
  refine JL_pd rfl (det_move rfl) ?_
  refine JL_is (d0 := 97) false rfl (by first | rfl | simp) (fun g7 => ?_)
  refine JL_guard rfl rfl g7 ?_
  refine JL_pd rfl (det_move rfl) ?_
  refine JL_guard rfl rfl g7 ?_
  refine JL_pd rfl (det_neq rfl rfl) ?_
  refine JL_pd rfl (det_pick_f rfl g7 rfl) ?_
  refine JL_pd rfl (det_move rfl) ?_
  refine JL_is (d0 := 101) false rfl (by first | rfl | simp) (fun g8 => ?_)
  refine JL_guard rfl rfl g8 ?_
  refine JL_pd rfl (det_move rfl) ?_
  refine JL_guard rfl rfl g8 ?_
  refine JL_pd rfl (det_neq rfl rfl) ?_
  refine JL_pd rfl (det_pick_f rfl g8 rfl) ?_
  refine JL_pd rfl (det_move rfl) ?_
  refine JL_is (d0 := 105) false rfl (by first | rfl | simp) (fun g9 => ?_)
  refine JL_guard rfl rfl g9 ?_
  refine JL_pd rfl (det_move rfl) ?_
  refine JL_guard rfl rfl g9 ?_
  refine JL_pd rfl (det_build rfl (bld_27_0_1 _ _)) ?_
  refine JL_guard rfl rfl g9 ?_
  refine JL_pd rfl (det_build rfl (bld_27_0_1 _ _)) ?_
  refine JL_guard rfl rfl g9 ?_
  refine JL_pd rfl (det_build rfl (bld_27_0_1 _ _)) ?_
  refine JL_guard rfl rfl g9 ?_
  refine JL_pd rfl (det_build rfl (bld_27_0_1 _ _)) ?_
  refine JL_guard rfl rfl g9 ?_
  refine JL_pd rfl (det_build rfl (bld_27_0_1 _ _)) ?_
  refine JL_guard rfl rfl g9 ?_
  refine JL_pd rfl (det_build rfl (bld_27_0_1 _ _)) ?_
  refine JL_guard rfl rfl g9 ?_
  refine JL_step rfl rfl rfl (jo_buildSlice rfl (bsl_43_6_0_1_2_3_4_5 _ _ _ _ _ _ _ _ _ _ _ _)) fun b113 => ?_
  refine JL_guard rfl rfl g9 ?_
  -- stop: op 58 t114 := (call (Call (value f24) (t106 t113) (30 43)))   <50 57 49 49>   16
  refine JL_lit (enc := encSt) b113 6 nmA noFp rfl rfl (by decide) ?_
  refine JL_step rfl rfl rfl (jo_callv rfl rfl Try.call24 rfl (lstates_j nmA nmA aa (some ⟨b113, 0, none⟩) ac 6 (by decide))) fun _ => ?_
  refine JL_guard rfl rfl g9 ?_
  refine JL_pd rfl (det_not rfl) ?_
  refine JL_pd rfl (det_pick_f rfl g9 rfl) ?_
  refine JL_nil ?_
  refine JE_seq ?_
  -- stop: cond
  refine JC_cond rfl (fun h2 => ?_) (fun h2 => ?_)
  · simp at h2
  · refine JC_skip ?_
    refine JE_seq ?_
    refine JC_seq ?_
    refine JC_region ?_
    refine JL_step rfl rfl rfl (jo_call rfl rfl Try.call52 rfl (loiled_j)) fun x118 => ?_
    refine JL_pd rfl (det_build rfl (bld_39_0_1 _ _)) ?_
    refine JL_step rfl rfl rfl (jo_buildSlice rfl (bsl_75_4_0_1_2_3 _ _ _ _)) fun b120 => ?_
    -- stop: op  3 t121 := (call (Call (value f42) (t118 t119 t120) (37 39 75)))   <0 1 2 0>   19
    refine JL_lit (enc := encI) b120 4 [1, -1, -1, -1] noFp rfl rfl (by decide) ?_
    refine JL_step rfl rfl rfl (jo_callv rfl rfl Try.call42 rfl (nmPlay1_j x118.1.1 x118.2.1 x118.1.2 x118.2.2 (some ⟨b120, 0, none⟩) 4)) fun _ => ?_
    refine JL_pd rfl (det_move rfl) ?_
    refine JL_pd rfl (det_extract rfl rfl) ?_
    refine JL_pd rfl (det_extract rfl rfl) ?_
    refine JL_pd rfl (det_extract rfl rfl) ?_
    refine JL_pd rfl (det_assign rfl) ?_
    refine JL_nil ?_
    refine JE_seq ?_
    refine JC_seq ?_
    refine JC_region ?_
    refine JL_step rfl rfl rfl (jo_call rfl rfl Try.call52 rfl (loiled_j)) fun x126 => ?_
    refine JL_pd rfl (det_build rfl (bld_39_0_1 _ _)) ?_
    refine JL_step rfl rfl rfl (jo_buildSlice rfl (bsl_75_3_0_1_2 _ _ _)) fun b128 => ?_
    -- stop: op  3 t129 := (call (Call (value f42) (t126 t127 t128) (37 39 75)))   <0 1 2 0>   20
    refine JL_lit (enc := encI) b128 3 [-1, -1, -1] noFp rfl rfl (by decide) ?_
    refine JL_step rfl rfl rfl (jo_callv rfl rfl Try.call42 rfl (nmPlay2_j x126.1.1 x126.2.1 x126.1.2 x126.2.2 (some ⟨b128, 0, none⟩) 3)) fun _ => ?_
    refine JL_pd rfl (det_move rfl) ?_
    refine JL_pd rfl (det_extract rfl rfl) ?_
    refine JL_pd rfl (det_extract rfl rfl) ?_
    refine JL_pd rfl (det_extract rfl rfl) ?_
    refine JL_pd rfl (det_assign rfl) ?_
    refine JL_nil ?_
    refine JE_seq ?_
    refine JC_seq ?_
    refine JC_region ?_
    refine JL_step rfl rfl rfl (jo_call rfl rfl Try.call52 rfl (loiled_j)) fun x134 => ?_
    refine JL_pd rfl (det_build rfl (bld_39_0 _)) ?_
    -- stop: op  2 t136 := (call (Call (value f18) (t134 t135 0) (37 39 3)))   <0 1 0>   21
    refine JL_step rfl rfl rfl (jo_callv rfl rfl Try.call18 rfl (nmReach21_j x134.1.1 x134.2.1 x134.1.2 x134.2.2)) fun _ => ?_
    refine JL_pd rfl (det_move rfl) ?_
    refine JL_pd rfl (det_extract rfl rfl) ?_
    refine JL_pd rfl (det_extract rfl rfl) ?_
    refine JL_pd rfl (det_extract rfl rfl) ?_
    refine JL_pd rfl (det_assign rfl) ?_
    refine JL_nil ?_
    refine JE_seq ?_
    refine JC_seq ?_
    refine JC_region ?_
    refine JL_step rfl rfl rfl (jo_call rfl rfl Try.call52 rfl (loiled_j)) fun x141 => ?_
    refine JL_pd rfl (det_build rfl (bld_39_0 _)) ?_
    -- stop: op  2 t143 := (call (Call (value f18) (t141 t142 5) (37 39 3)))   <0 1 0>   22
    refine JL_step rfl rfl rfl (jo_callv rfl rfl Try.call18 rfl (nmReach5_j x141.1.1 x141.2.1 x141.1.2 x141.2.2)) fun _ => ?_
    refine JL_pd rfl (det_move rfl) ?_
    refine JL_pd rfl (det_extract rfl rfl) ?_
    refine JL_pd rfl (det_extract rfl rfl) ?_
    refine JL_pd rfl (det_extract rfl rfl) ?_
    refine JL_pd rfl (det_assign rfl) ?_
    refine JL_nil ?_
    refine JE_seq ?_
    refine JC_seq ?_
    refine JC_region ?_
    refine JL_step rfl rfl rfl (jo_call rfl rfl Try.call52 rfl (loiled_j)) fun x148 => ?_
    refine JL_pd rfl (det_build rfl (bld_39_0 _)) ?_
    refine JL_step rfl rfl rfl (jo_callv rfl rfl Try.call54 rfl (lbetween_j _ _)) fun _ => ?_
    refine JL_pd rfl (det_build rfl (bld_62_0 _ _)) ?_
    -- stop: op  4 t152 := (call (Call (value f45) (t148 t149 t151) (37 39 62)))   <0 1 3 2>   23
    refine JL_step rfl rfl rfl (jo_callv rfl rfl Try.call45 rfl (nmHitsB_j x148.1.1 x148.2.1 x148.1.2 x148.2.2)) fun _ => ?_
    refine JL_pd rfl (det_move rfl) ?_
    refine JL_pd rfl (det_extract rfl rfl) ?_
    refine JL_pd rfl (det_extract rfl rfl) ?_
    refine JL_pd rfl (det_assign rfl) ?_
    refine JL_nil ?_
    refine JE_seq ?_
    refine JC_seq ?_
    refine JC_region ?_
    refine JL_step rfl rfl rfl (jo_call rfl rfl Try.call52 rfl (loiled_j)) fun x156 => ?_
    refine JL_pd rfl (det_build rfl (bld_39_0_1 _ _)) ?_
    refine JL_step rfl rfl rfl (jo_callv rfl rfl Try.call53 rfl (laimed_j)) fun _ => ?_
    -- stop: op  3 t159 := (call (Call (value f49) (t156 t157 t158 (bool false)) (37 39 62 4)))   <0 1 2 2>   24
    refine JL_step rfl rfl rfl (jo_callv rfl rfl Try.call49 rfl (nmShows_j x156.1.1 x156.2.1 x156.1.2 x156.2.2)) fun _ => ?_
    refine JL_pd rfl (det_move rfl) ?_
    refine JL_pd rfl (det_extract rfl rfl) ?_
    refine JL_pd rfl (det_extract rfl rfl) ?_
    refine JL_pd rfl (det_assign rfl) ?_
    refine JL_pd rfl (det_assign rfl) ?_
    refine JL_nil ?_
    refine JE_seq ?_
    refine JC_seq ?_
    refine JC_region ?_
    refine JL_step rfl rfl rfl (jo_call rfl rfl Try.call52 rfl (loiled_j)) fun x163 => ?_
    refine JL_step rfl rfl rfl (jo_callv rfl rfl Try.call54 rfl (lbetween_j _ _)) fun _ => ?_
    refine JL_pd rfl (det_build rfl (bld_62_0 _ _)) ?_
    -- stop: op  3 t166 := (call (Call (value f31) (t163 t165) (37 62)))   <0 2 1>   25
    refine JL_step rfl rfl rfl (jo_callv rfl rfl Try.call31 rfl (nmBest_j x163.1.1 x163.2.1 x163.1.2 x163.2.2)) fun _ => ?_
    refine JL_pd rfl (det_move rfl) ?_
    refine JL_pd rfl (det_extract rfl rfl) ?_
    refine JL_pd rfl (det_extract rfl rfl) ?_
    refine JL_pd rfl (det_extract rfl rfl) ?_
    refine JL_step rfl rfl rfl (jo_alloc0 Try.zeroValue39 rfl) fun b15 => ?_
    refine JL_step0 rfl rfl (jo_store rfl rfl rfl (by first | (simp only [splice_norm]; done) | (simp only [splice_norm]; rfl) | rfl) Try.sizeOf39 rfl rfl) fun _ => ?_
    refine JL_pd rfl (det_assign rfl) ?_
    refine JL_pd rfl (det_assign rfl) ?_
    refine JL_nil ?_
    refine JE_seq ?_
    refine JC_seq ?_
    refine JC_region ?_
    -- stop: op  0 t170 := (call (Call (value f52) () ()))   26
    refine JL_step rfl rfl rfl (jo_call rfl rfl Try.call52 rfl (loiled_own)) fun ⟨f1, f2⟩ => ?_
    -- stop: op  1 t171 := (call (Call (value f52) () ()))   <0>   26
    refine JL_step rfl rfl rfl (jo_call rfl rfl Try.call52 rfl (loiled_own)) fun ⟨w1, w2⟩ => ?_
    -- stop: op  2 t172 := (call (Call (value f52) () ()))   <1>   26
    refine JL_step rfl rfl rfl (jo_call rfl rfl Try.call52 rfl (loiled_own)) fun ⟨d1, d2⟩ => ?_
    refine JL_step rfl rfl rfl (jo_alloc0 Try.zeroValue37 rfl) fun b18 => ?_
    refine JL_step rfl rfl rfl (jo_alloc0 Try.zeroValue37 rfl) fun b19 => ?_
    refine JL_step rfl rfl rfl (jo_alloc0 Try.zeroValue37 rfl) fun b20 => ?_
    refine JL_step0 rfl rfl (jo_store rfl rfl rfl (by first | (simp only [splice_norm]; done) | (simp only [splice_norm]; rfl) | rfl) Try.sizeOf37 rfl rfl) fun _ => ?_
    refine JL_step0 rfl rfl (jo_store rfl rfl rfl (by first | (simp only [splice_norm]; done) | (simp only [splice_norm]; rfl) | rfl) Try.sizeOf37 rfl rfl) fun _ => ?_
    refine JL_step0 rfl rfl (jo_store rfl rfl rfl (by first | (simp only [splice_norm]; done) | (simp only [splice_norm]; rfl) | rfl) Try.sizeOf37 rfl rfl) fun _ => ?_
    refine JL_nil ?_
    refine JE_seq ?_
    refine JC_seq ?_
    refine JC_region ?_
    refine JL_pd rfl (det_fieldAddr rfl fo_37_2) ?_
    refine JL_dt rfl (det_loadK rfl Try.isAgg34 rfl) ?_
    -- stop: op  2 t175 := (slice 34 t174 none (some 1) none)   <1>   27
    simp only [List.cons_append, List.nil_append]
    refine JL_step rfl rfl rfl (jo_sliceTo 1 rfl rfl rfl (by decide) Try.runUnderlying34 Try.sizeOf49 (by decide) (.inr (by decide))) fun _ => ?_
    refine JL_pd rfl (det_fieldAddr rfl fo_37_2) ?_
    refine JL_step0 rfl rfl (jo_store rfl rfl rfl (by first | (simp only [splice_norm]; done) | (simp only [splice_norm]; rfl) | rfl) Try.sizeOf34 rfl rfl) fun _ => ?_
    refine JL_nil ?_
    refine JE_seq ?_
    refine JC_seq ?_
    refine JC_region ?_
    refine JL_pd rfl (det_fieldAddr rfl fo_37_2) ?_
    refine JL_dt rfl (det_loadK rfl Try.isAgg34 rfl) ?_
    refine JL_pd rfl (det_indexOwn (i := 1) rfl rfl rfl (by decide) Try.runUnderlying34 Try.sizeOf49) ?_
    refine JL_pd rfl (det_fieldAddr rfl fo_49_1) ?_
    -- stop: op  4 _ := (store 3 t180 4)   <3>   28
    refine JL_step0 rfl rfl (jo_storeO (xs' := [I (-1), I (-1), I (-1), I 4]) rfl rfl rfl rfl Try.sizeOf3 (by decide) rfl) fun _ => ?_
    refine JL_nil ?_
    refine JE_seq ?_
    refine JC_seq ?_
    refine JC_region ?_
    refine JL_step rfl rfl rfl (jo_makeSlice (n := 9) (zv := .agg #[I 0, I 0, I 0, I 0, I 0]) (z := 5) (bytes := 40) rfl rfl rfl Try.underlying35 (by kernel_rfl) (by decide) (by decide)) fun b181 => ?_
    refine JL_pd rfl (det_fieldAddr rfl fo_37_3) ?_
    refine JL_step0 rfl rfl (jo_store rfl rfl rfl (by first | (simp only [splice_norm]; done) | (simp only [splice_norm]; rfl) | rfl) Try.sizeOf35 rfl rfl) fun _ => ?_
    refine JL_nil ?_
    refine JE_seq ?_
    refine JC_seq ?_
    refine JC_region ?_
    refine JL_pd rfl (det_move rfl) ?_
    refine JL_pd rfl (det_eql rfl rfl) ?_
    refine JL_pd rfl (det_move rfl) ?_
    -- stop: guard 2
    skip
    refine JL_is (d0 := 185) true rfl (by rfl) (fun g1 => ?_)
    refine JL_guard rfl rfl g1 ?_
    refine JL_pd rfl (det_move rfl) ?_
    refine JL_guard rfl rfl g1 ?_
    refine JL_pd rfl (det_eql rfl rfl) ?_
    refine JL_pd rfl (det_pick_t rfl g1 rfl) ?_
    refine JL_pd rfl (det_move rfl) ?_
    refine JL_is (d0 := 189) true rfl (by rfl) (fun g2 => ?_)
    refine JL_guard rfl rfl g2 ?_
    refine JL_pd rfl (det_move rfl) ?_
    refine JL_guard rfl rfl g2 ?_
    refine JL_pd rfl (det_eql rfl rfl) ?_
    refine JL_pd rfl (det_pick_t rfl g2 rfl) ?_
    refine JL_pd rfl (det_move rfl) ?_
    refine JL_is (d0 := 193) true rfl (by rfl) (fun g3 => ?_)
    refine JL_guard rfl rfl g3 ?_
    refine JL_pd rfl (det_move rfl) ?_
    refine JL_guard rfl rfl g3 ?_
    refine JL_pd rfl (det_eql rfl rfl) ?_
    refine JL_pd rfl (det_pick_t rfl g3 rfl) ?_
    refine JL_pd rfl (det_move rfl) ?_
    refine JL_is (d0 := 197) true rfl (by rfl) (fun g4 => ?_)
    refine JL_guard rfl rfl g4 ?_
    refine JL_pd rfl (det_move rfl) ?_
    refine JL_guard rfl rfl g4 ?_
    refine JL_pd rfl (det_eql rfl rfl) ?_
    refine JL_pd rfl (det_pick_t rfl g4 rfl) ?_
    refine JL_pd rfl (det_move rfl) ?_
    refine JL_is (d0 := 201) true rfl (by rfl) (fun g5 => ?_)
    refine JL_guard rfl rfl g5 ?_
    refine JL_pd rfl (det_move rfl) ?_
    refine JL_guard rfl rfl g5 ?_
    refine JL_pd rfl (det_eql rfl rfl) ?_
    refine JL_pd rfl (det_pick_t rfl g5 rfl) ?_
    refine JL_pd rfl (det_move rfl) ?_
    refine JL_is (d0 := 205) true rfl (by rfl) (fun g6 => ?_)
    refine JL_guard rfl rfl g6 ?_
    refine JL_pd rfl (det_move rfl) ?_
    refine JL_guard rfl rfl g6 ?_
    refine JL_pd rfl (det_eql rfl rfl) ?_
    refine JL_pd rfl (det_pick_t rfl g6 rfl) ?_
    refine JL_pd rfl (det_move rfl) ?_
    refine JL_is (d0 := 209) true rfl (by rfl) (fun g7 => ?_)
    refine JL_guard rfl rfl g7 ?_
    refine JL_dt rfl (det_loadKA rfl Try.isAgg37 Try.sizeOf37 rfl rfl) ?_
    refine JL_guard rfl rfl g7 ?_
    -- stop: op 28 t211 := (call (Call (value f41) (t210) (37)))   <27 26 26>   30
    refine JL_slice (enc := encRg) (v := .slice (some ⟨f1, 0, none⟩) 1 2) [⟨-1, -1⟩] noFp rfl rfl ?_
    rintro _ _ h; cases h
    refine JL_slice (enc := encPa) (v := .slice (some ⟨f2, 0, none⟩) 1 1) oilP noFp rfl rfl ?_
    rintro _ _ h; cases h
    refine JL_know (R' := KAnd (KLane ⟨20, 5, [⟨-1, -1⟩], oilP⟩ (some ⟨f1, 0, none⟩) 2 (some ⟨f2, 0, none⟩) 1) KTrue) (by intro w h; exact ⟨⟨h.2.1, h.1⟩, trivial⟩) ?_
    refine JL_step rfl rfl rfl (jo_callv rfl rfl Try.call41 rfl (nmFew_j (some ⟨f1, 0, none⟩) (some ⟨f2, 0, none⟩) 2 1)) fun _ => ?_
    refine JL_guard rfl rfl g7 ?_
    refine JL_pd rfl (det_eql rfl rfl) ?_
    refine JL_pd rfl (det_pick_t rfl g7 rfl) ?_
    refine JL_pd rfl (det_move rfl) ?_
    -- stop: guard 31
    skip
    refine JL_is (d0 := 214) true rfl (by rfl) (fun g1 => ?_)
    refine JL_guard rfl rfl g1 ?_
    refine JL_dt rfl (det_loadKA rfl Try.isAgg37 Try.sizeOf37 rfl rfl) ?_
    refine JL_guard rfl rfl g1 ?_
    -- stop: op 33 t216 := (call (Call (value f41) (t215) (37)))   <32 31 31>   30
    refine JL_slice (enc := encRg) (v := .slice (some ⟨w1, 0, none⟩) 2 2) [⟨-1, -1⟩, ⟨-1, 4⟩] noFp rfl rfl ?_
    rintro _ _ h; cases h
    refine JL_slice (enc := encPa) (v := .slice (some ⟨w2, 0, none⟩) 1 1) oilP noFp rfl rfl ?_
    rintro _ _ h; cases h
    refine JL_know (R' := KAnd (KLane ⟨20, 5, [⟨-1, -1⟩, ⟨-1, 4⟩], oilP⟩ (some ⟨w1, 0, none⟩) 2 (some ⟨w2, 0, none⟩) 1) KTrue) (by intro w h; exact ⟨⟨h.2.1, h.1⟩, trivial⟩) ?_
    refine JL_step rfl rfl rfl (jo_callv rfl rfl Try.call41 rfl (nmWide_j (some ⟨w1, 0, none⟩) (some ⟨w2, 0, none⟩) 2 1)) fun _ => ?_
    refine JL_guard rfl rfl g1 ?_
    refine JL_pd rfl (det_eql rfl rfl) ?_
    refine JL_pd rfl (det_pick_t rfl g1 rfl) ?_
    refine JL_pd rfl (det_move rfl) ?_
    -- stop: guard 36
    skip
    refine JL_is (d0 := 219) true rfl (by rfl) (fun g1 => ?_)
    refine JL_guard rfl rfl g1 ?_
    refine JL_dt rfl (det_loadKA rfl Try.isAgg37 Try.sizeOf37 rfl rfl) ?_
    refine JL_guard rfl rfl g1 ?_
    -- stop: op 38 t221 := (call (Call (value f41) (t220) (37)))   <37 36 36>   30
    refine JL_slice (enc := encRg) (v := .slice (some ⟨d1, 0, none⟩) 2 2) oilH noFp rfl rfl ?_
    rintro _ _ h; cases h
    refine JL_slice (enc := encPa) (v := .slice (some ⟨b181, 0, none⟩) 9 9) (List.replicate 9 ⟨⟨0, 0⟩, ⟨0, 0⟩, 0⟩) noFp (by kernel_rfl) rfl ?_
    rintro _ _ h; cases h
    refine JL_know (R' := KAnd (KLane ⟨20, 5, oilH, List.replicate 9 ⟨⟨0, 0⟩, ⟨0, 0⟩, 0⟩⟩ (some ⟨d1, 0, none⟩) 2 (some ⟨b181, 0, none⟩) 9) KTrue) (by intro w h; exact ⟨⟨h.2.1, h.1⟩, trivial⟩) ?_
    refine JL_step rfl rfl rfl (jo_callv rfl rfl Try.call41 rfl (nmDeep_j (some ⟨d1, 0, none⟩) (some ⟨b181, 0, none⟩) 2 9)) fun _ => ?_
    refine JL_guard rfl rfl g1 ?_
    refine JL_pd rfl (det_eql rfl rfl) ?_
    refine JL_pd rfl (det_pick_t rfl g1 rfl) ?_
    refine JL_pd rfl (det_move rfl) ?_
    -- stop: guard 41
    skip
    refine JL_is (d0 := 224) true rfl (by rfl) (fun g1 => ?_)
    refine JL_guard rfl rfl g1 ?_
    refine JL_pd rfl (det_build rfl (bld_37)) ?_
    refine JL_guard rfl rfl g1 ?_
    -- stop: op 43 t226 := (call (Call (value f41) (t225) (37)))   <42 41 41>   30
    refine JL_step rfl rfl rfl (jo_callv rfl rfl Try.call41 rfl (nmNil_j)) fun _ => ?_
    refine JL_guard rfl rfl g1 ?_
    refine JL_pd rfl (det_eql rfl rfl) ?_
    refine JL_pd rfl (det_pick_t rfl g1 rfl) ?_
    refine JL_pd rfl (det_move rfl) ?_
    -- stop: guard 46
    skip
    refine JL_is (d0 := 229) true rfl (by rfl) (fun g1 => ?_)
    refine JL_guard rfl rfl g1 ?_
    refine JL_step rfl rfl rfl (jo_callv rfl rfl Try.call17 rfl (lawake_j)) fun _ => ?_
    refine JL_pd rfl (det_pick_t rfl g1 rfl) ?_
    refine JL_pd rfl (det_assign rfl) ?_
    refine JL_nil ?_
    refine JE_seq ?_
    refine JC_ret ?_
    -- stop: out
    refine JE_out (.inl rfl) () (results1 Try.results14 (res_tmp rfl)) rfl (List.Perm.refl _) (fun _ _ => trivial)
end Go.Proofs.Ytcfhbnfincpehaa
