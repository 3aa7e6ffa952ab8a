/- Own texts, laid together: L7. Nothing is asked. -/
import Derived.Test.YthpkgabckklojaaGreatZ8
import Derived.Test.YthpkgabckklojaaGreatZC
import Derived.Test.YthpkgabckklojaaGreatZ4
set_option linter.unusedSimpArgs false
set_option linter.unusedVariables false
/- Top: what the statements ask of closed inputs. -/
namespace Go.Proofs.YthpkgabckklojaaGreat.Bl
open Go.RowKit Go.Shelf

def chH : En.Hs := ⟨0, [0, 1, 0, 0, 0, 0, 0, 0, 0, 0]⟩
theorem ch_fit {ws : List Int} (h : En.FitOk chH.shoes [0] ws) : ws = [1] := by
  obtain ⟨hl, fs, hs, hp⟩ := h
  obtain ⟨x, rfl⟩ : ∃ x, ws = [x] := List.length_eq_one_iff.1 hl
  have hp2 : fs.zip (En.greS chH.shoes fs) = [((0 : Int), x)] := List.perm_singleton.1 hp.symm
  have hln := congrArg List.length hp2
  rw [List.length_zip, En.greS_len, Nat.min_self] at hln
  obtain ⟨f, rfl⟩ : ∃ f, fs = [f] := List.length_eq_one_iff.1 hln
  have h0 : f = 0 := by
    have := congrArg (fun l => l.map Prod.fst) hp2
    rw [List.map_fst_zip (by rw [En.greS_len]; exact Nat.le_refl _)] at this
    simpa using this
  subst h0
  have e : ([(0 : Int)] : List Int).zip (En.greS chH.shoes [0]) = [(0, 1)] := by decide +kernel
  rw [e] at hp2
  simp at hp2
  rw [← hp2]
theorem chFit_j (b c : Nat) : Cr Tryz.prog 34 [.agg #[I 0, .slice (some ⟨b, 0, none⟩) 10 10], .slice (some ⟨c, 0, none⟩) 1 1] (KAnd (KSl (some ⟨b, 0, none⟩) 10 10 encI [0, 1, 0, 0, 0, 0, 0, 0, 0, 0]) (KSl (some ⟨c, 0, none⟩) 1 1 encI [0])) (fun q : Nat × { p : List Int // En.FitOk chH.shoes [0] p } => .tuple #[.slice (some ⟨q.1, 0, none⟩) 1 1, I 0]) (fun q => KSl (some ⟨q.1, 0, none⟩) 1 1 encI [1]) :=
  Cr.conv (En.Fit_jo ⟨chH, some ⟨b, 0, none⟩, 10⟩ (some ⟨c, 0, none⟩) 1 [0] (show En.shodE chH [0] = 0 by decide +kernel)) (fun q => rfl) (fun q w h => by
    have e := ch_fit q.2.2
    rw [e] at h
    exact h)
def chL : List Of := [⟨30, ⟨0, 0, 1⟩, 0, 23, 2⟩]
theorem ch_ask : askE chL ⟨0, 0, 1⟩ 9 = 0 := by decide +kernel
theorem ch_best : bst 9 chL ⟨0, 0, 1⟩ = some ⟨[1], 30, 1⟩ := by decide +kernel
theorem chBest_j (b : Nat) : Cr Tryz.prog 36 [.slice (some ⟨b, 0, none⟩) 1 1, .agg #[I 0, I 0, I 1], I 9] (KSl (some ⟨b, 0, none⟩) 1 1 encO chL) (fun q : Option Addr × Nat => .tuple #[.slice q.1 1 q.2, I 30, I 0]) (fun q => KSl q.1 1 q.2 encI [1]) := by
  have h0 := Best_jo (some ⟨b, 0, none⟩) 1 chL ⟨0, 0, 1⟩ 9 ch_ask
  rw [ch_best] at h0
  exact h0
theorem chShare_j (b : Nat) : Cr Tryz.prog 39 [I 30, .slice (some ⟨b, 0, none⟩) 2 2] (KSl (some ⟨b, 0, none⟩) 2 2 encI [1, 2]) (fun q : Option Addr × Nat => .tuple #[.slice q.1 2 q.2, I 0]) (fun q => KSl q.1 2 q.2 encI [10, 20]) :=
  Cr.conv (Share_jo 30 (some ⟨b, 0, none⟩) 2 [1, 2] (by decide +kernel)) (fun q => rfl) (fun q w h => by rw [show sharesV 30 [1, 2] = [10, 20] by decide +kernel] at h; exact h)
def chG : List Gm := [⟨0, 1, 5, 4, false⟩]
theorem chG_v : VL 2 chG := lg_of (by decide +kernel)
theorem chAfter_j (b : Nat) : Cr Tryz.prog 76 [.agg #[I 2, .slice (some ⟨b, 0, none⟩) 1 1], .slice none 0 0] (KSl (some ⟨b, 0, none⟩) 1 1 encG chG) (fun q : Option Addr × Nat => .tuple #[.slice q.1 2 q.2, I 0]) (fun q => KSl q.1 2 q.2 encI [2, 0]) :=
  Cr.conv ((After_j 2 (some ⟨b, 0, none⟩) 1 chG none 0 [] chG_v rfl (fun _ h => by cases h)).mono (fun w h => ⟨h, KSl_none w⟩) fun _ _ h => h) (fun q => rfl) (fun q w h => h)
set_option maxRecDepth 100000 in
set_option maxHeartbeats 2000000 in
theorem charged_j : Cv Tryz.prog 30 [] KTrue (.bool true) := by
  refine Cx_of Tryz.func30 rfl Tryz.ntmps30 rfl fun w0 M0 => ?_
  refine JC_seq ?_
  refine JC_region ?_
  refine JL_pd rfl (det_assign rfl) ?_
  refine JL_nil ?_
  refine JE_seq ?_
  refine JC_seq ?_
  refine JC_region ?_
  refine JL_step rfl rfl rfl (jo_buildSlice rfl (bsl_31_10_0_1_2_3_4_5_6_7_8_9 _ _ _ _ _ _ _ _ _ _)) fun b11 => ?_
  refine JL_lit (enc := encI) b11 10 [0, 1, 0, 0, 0, 0, 0, 0, 0, 0] noFp rfl rfl (by decide) ?_
  refine JL_pd rfl (det_build rfl (bld_86_1 _ _ _)) ?_
  refine JL_step rfl rfl rfl (jo_buildSlice rfl (bsl_31_1_0 _)) fun b13 => ?_
  -- stop: op  3 t14 := (call (Call (value f34) (t12 t13) (86 31)))   <1 2>   18
  refine JL_lit (enc := encI) b13 1 [0] noFp rfl rfl (by decide) ?_
  refine JL_step rfl rfl rfl (jo_call rfl rfl Tryz.call34 rfl (chFit_j b11 b13)) fun xf => ?_
  refine JL_pd rfl (det_move rfl) ?_
  refine JL_pd rfl (det_extract rfl rfl) ?_
  refine JL_pd rfl (det_extract rfl rfl) ?_
  refine JL_pd rfl (det_assign rfl) ?_
  refine JL_pd rfl (det_assign rfl) ?_
  refine JL_nil ?_
  refine JE_seq ?_
  refine JC_seq ?_
  refine JC_region ?_
  refine JL_pd rfl (det_build rfl (bld_101_2 _)) ?_
  refine JL_pd rfl (det_build rfl (bld_164_1 _)) ?_
  refine JL_pd rfl (det_build rfl (bld_166_0_1_2_3 _ _ _ _ _ _ _)) ?_
  refine JL_step rfl rfl rfl (jo_buildSlice rfl (bsl_99_1_0 _ _ _ _ _ _ _)) fun b21 => ?_
  refine JL_lit (enc := encO) b21 1 chL noFp rfl rfl (by decide) ?_
  refine JL_pd rfl (det_build rfl (bld_101_2 _)) ?_
  -- stop: op  5 t23 := (call (Call (value f36) (t21 t22 9) (99 101 3)))   <3 4>   19
  refine JL_step rfl rfl rfl (jo_call rfl rfl Tryz.call36 rfl (chBest_j b21)) fun xb => ?_
  refine JL_pd rfl (det_move rfl) ?_
  refine JL_pd rfl (det_extract rfl rfl) ?_
  refine JL_pd rfl (det_extract rfl rfl) ?_
  refine JL_pd rfl (det_extract rfl rfl) ?_
  refine JL_pd rfl (det_assign rfl) ?_
  refine JL_pd rfl (det_assign rfl) ?_
  refine JL_pd rfl (det_assign rfl) ?_
  refine JL_nil ?_
  refine JE_seq ?_
  refine JC_seq ?_
  refine JC_region ?_
  refine JL_step rfl rfl rfl (jo_buildSlice rfl (bsl_31_2_0_1 _ _)) fun b28 => ?_
  -- stop: op  1 t29 := (call (Call (value f39) (30 t28) (3 31)))   <0>   20
  refine JL_lit (enc := encI) b28 2 [1, 2] noFp rfl rfl (by decide) ?_
  refine JL_step rfl rfl rfl (jo_call rfl rfl Tryz.call39 rfl (chShare_j b28)) fun xs => ?_
  refine JL_pd rfl (det_move rfl) ?_
  refine JL_pd rfl (det_extract rfl rfl) ?_
  refine JL_pd rfl (det_extract rfl rfl) ?_
  refine JL_pd rfl (det_assign rfl) ?_
  refine JL_pd rfl (det_assign rfl) ?_
  refine JL_nil ?_
  refine JE_seq ?_
  refine JC_seq ?_
  refine JC_region ?_
  refine JL_pd rfl (det_build rfl (bld_169_1_2_3 _ _ _)) ?_
  refine JL_step rfl rfl rfl (jo_buildSlice rfl (bsl_170_1_0 _ _ _ _ _)) fun b34 => ?_
  refine JL_lit (enc := encG) b34 1 chG noFp rfl rfl (by decide) ?_
  refine JL_pd rfl (det_build rfl (bld_172_0_1 _ _ _ _)) ?_
  -- stop: op  3 t36 := (call (Call (value f76) (t35 (slice none 0 0)) (172 220)))   <2>   21
  refine JL_step rfl rfl rfl (jo_call rfl rfl Tryz.call76 rfl (chAfter_j b34)) fun xa => ?_
  refine JL_pd rfl (det_move rfl) ?_
  refine JL_pd rfl (det_extract rfl rfl) ?_
  refine JL_pd rfl (det_extract rfl rfl) ?_
  refine JL_pd rfl (det_assign rfl) ?_
  refine JL_pd rfl (det_assign rfl) ?_
  refine JL_nil ?_
  refine JE_seq ?_
  refine JC_seq ?_
  refine JC_region ?_
  refine JL_pd rfl (det_move rfl) ?_
  refine JL_pd rfl (det_eql rfl rfl) ?_
  refine JL_pd rfl (det_move rfl) ?_
  -- stop: guard 2
  skip
  refine JL_is (d0 := 41) true rfl (by decide) (fun g1 => ?_)
  refine JL_guard rfl rfl g1 ?_
  refine JL_pd rfl (det_move rfl) ?_
  refine JL_guard rfl rfl g1 ?_
  refine JL_pd rfl (det_len rfl Tryz.runUnderlying31) ?_
  refine JL_guard rfl rfl g1 ?_
  refine JL_pd rfl (det_eql rfl rfl) ?_
  refine JL_pd rfl (det_pick_t rfl g1 rfl) ?_
  refine JL_pd rfl (det_move rfl) ?_
  refine JL_is (d0 := 46) true rfl (by decide) (fun g2 => ?_)
  refine JL_guard rfl rfl g2 ?_
  refine JL_pd rfl (det_move rfl) ?_
  refine JL_guard rfl rfl g2 ?_
  refine JL_dt rfl (det_indexAddr (i := 0) rfl rfl (by first | rfl | omega) (by first | assumption | omega | decide) Tryz.runUnderlying31 Tryz.sizeOf3) ?_
  refine JL_guard rfl rfl g2 ?_
  refine JL_dt rfl (det_loadE (n := 1) (enc := encI) (xs := [1]) (i := 0) rfl (by decide) Tryz.isAgg3 rfl rfl) ?_
  refine JL_guard rfl rfl g2 ?_
  refine JL_pd rfl (det_eql rfl rfl) ?_
  refine JL_pd rfl (det_pick_t rfl g2 rfl) ?_
  refine JL_pd rfl (det_move rfl) ?_
  refine JL_is (d0 := 52) true rfl (by decide) (fun g3 => ?_)
  refine JL_guard rfl rfl g3 ?_
  refine JL_pd rfl (det_move rfl) ?_
  refine JL_guard rfl rfl g3 ?_
  refine JL_pd rfl (det_eql rfl rfl) ?_
  refine JL_pd rfl (det_pick_t rfl g3 rfl) ?_
  refine JL_pd rfl (det_move rfl) ?_
  refine JL_is (d0 := 56) true rfl (by decide) (fun g4 => ?_)
  refine JL_guard rfl rfl g4 ?_
  refine JL_pd rfl (det_move rfl) ?_
  refine JL_guard rfl rfl g4 ?_
  refine JL_pd rfl (det_eql rfl rfl) ?_
  refine JL_pd rfl (det_pick_t rfl g4 rfl) ?_
  refine JL_pd rfl (det_move rfl) ?_
  refine JL_is (d0 := 60) true rfl (by decide) (fun g5 => ?_)
  refine JL_guard rfl rfl g5 ?_
  refine JL_pd rfl (det_move rfl) ?_
  refine JL_guard rfl rfl g5 ?_
  refine JL_pd rfl (det_len rfl Tryz.runUnderlying31) ?_
  refine JL_guard rfl rfl g5 ?_
  refine JL_pd rfl (det_eql rfl rfl) ?_
  refine JL_pd rfl (det_pick_t rfl g5 rfl) ?_
  refine JL_pd rfl (det_move rfl) ?_
  refine JL_is (d0 := 65) true rfl (by decide) (fun g6 => ?_)
  refine JL_guard rfl rfl g6 ?_
  refine JL_pd rfl (det_move rfl) ?_
  refine JL_guard rfl rfl g6 ?_
  refine JL_dt rfl (det_indexAddr (i := 0) rfl rfl (by first | rfl | omega) (by first | assumption | omega | decide) Tryz.runUnderlying31 Tryz.sizeOf3) ?_
  refine JL_guard rfl rfl g6 ?_
  refine JL_dt rfl (det_loadE (n := 1) (enc := encI) (xs := [1]) (i := 0) rfl (by decide) Tryz.isAgg3 rfl rfl) ?_
  refine JL_guard rfl rfl g6 ?_
  refine JL_pd rfl (det_eql rfl rfl) ?_
  refine JL_pd rfl (det_pick_t rfl g6 rfl) ?_
  refine JL_pd rfl (det_move rfl) ?_
  refine JL_is (d0 := 71) true rfl (by decide) (fun g7 => ?_)
  refine JL_guard rfl rfl g7 ?_
  refine JL_pd rfl (det_move rfl) ?_
  refine JL_guard rfl rfl g7 ?_
  refine JL_pd rfl (det_eql rfl rfl) ?_
  refine JL_pd rfl (det_pick_t rfl g7 rfl) ?_
  refine JL_pd rfl (det_move rfl) ?_
  refine JL_is (d0 := 75) true rfl (by decide) (fun g8 => ?_)
  refine JL_guard rfl rfl g8 ?_
  refine JL_pd rfl (det_move rfl) ?_
  refine JL_guard rfl rfl g8 ?_
  refine JL_pd rfl (det_len rfl Tryz.runUnderlying31) ?_
  refine JL_guard rfl rfl g8 ?_
  refine JL_pd rfl (det_eql rfl rfl) ?_
  refine JL_pd rfl (det_pick_t rfl g8 rfl) ?_
  refine JL_pd rfl (det_move rfl) ?_
  refine JL_is (d0 := 80) true rfl (by decide) (fun g9 => ?_)
  refine JL_guard rfl rfl g9 ?_
  refine JL_pd rfl (det_move rfl) ?_
  refine JL_guard rfl rfl g9 ?_
  refine JL_dt rfl (det_indexAddr (i := 0) rfl rfl (by first | rfl | omega) (by first | assumption | omega | decide) Tryz.runUnderlying31 Tryz.sizeOf3) ?_
  refine JL_guard rfl rfl g9 ?_
  refine JL_dt rfl (det_loadE (n := 2) (enc := encI) (xs := [10, 20]) (i := 0) rfl (by decide) Tryz.isAgg3 rfl rfl) ?_
  refine JL_guard rfl rfl g9 ?_
  refine JL_pd rfl (det_eql rfl rfl) ?_
  refine JL_pd rfl (det_pick_t rfl g9 rfl) ?_
  refine JL_pd rfl (det_move rfl) ?_
  refine JL_is (d0 := 86) true rfl (by decide) (fun g10 => ?_)
  refine JL_guard rfl rfl g10 ?_
  refine JL_pd rfl (det_move rfl) ?_
  refine JL_guard rfl rfl g10 ?_
  refine JL_dt rfl (det_indexAddr (i := 1) rfl rfl (by first | rfl | omega) (by first | assumption | omega | decide) Tryz.runUnderlying31 Tryz.sizeOf3) ?_
  refine JL_guard rfl rfl g10 ?_
  refine JL_dt rfl (det_loadE (n := 2) (enc := encI) (xs := [10, 20]) (i := 1) rfl (by decide) Tryz.isAgg3 rfl rfl) ?_
  refine JL_guard rfl rfl g10 ?_
  refine JL_pd rfl (det_eql rfl rfl) ?_
  refine JL_pd rfl (det_pick_t rfl g10 rfl) ?_
  refine JL_pd rfl (det_move rfl) ?_
  refine JL_is (d0 := 92) true rfl (by decide) (fun g11 => ?_)
  refine JL_guard rfl rfl g11 ?_
  refine JL_pd rfl (det_move rfl) ?_
  refine JL_guard rfl rfl g11 ?_
  refine JL_pd rfl (det_eql rfl rfl) ?_
  refine JL_pd rfl (det_pick_t rfl g11 rfl) ?_
  refine JL_pd rfl (det_move rfl) ?_
  refine JL_is (d0 := 96) true rfl (by decide) (fun g12 => ?_)
  refine JL_guard rfl rfl g12 ?_
  refine JL_pd rfl (det_move rfl) ?_
  refine JL_guard rfl rfl g12 ?_
  refine JL_pd rfl (det_len rfl Tryz.runUnderlying31) ?_
  refine JL_guard rfl rfl g12 ?_
  refine JL_pd rfl (det_eql rfl rfl) ?_
  refine JL_pd rfl (det_pick_t rfl g12 rfl) ?_
  refine JL_pd rfl (det_move rfl) ?_
  refine JL_is (d0 := 101) true rfl (by decide) (fun g13 => ?_)
  refine JL_guard rfl rfl g13 ?_
  refine JL_pd rfl (det_move rfl) ?_
  refine JL_guard rfl rfl g13 ?_
  refine JL_dt rfl (det_indexAddr (i := 0) rfl rfl (by first | rfl | omega) (by first | assumption | omega | decide) Tryz.runUnderlying31 Tryz.sizeOf3) ?_
  refine JL_guard rfl rfl g13 ?_
  refine JL_dt rfl (det_loadE (n := 2) (enc := encI) (xs := [2, 0]) (i := 0) rfl (by decide) Tryz.isAgg3 rfl rfl) ?_
  refine JL_guard rfl rfl g13 ?_
  refine JL_pd rfl (det_eql rfl rfl) ?_
  refine JL_pd rfl (det_pick_t rfl g13 rfl) ?_
  refine JL_pd rfl (det_move rfl) ?_
  refine JL_is (d0 := 107) true rfl (by decide) (fun g14 => ?_)
  refine JL_guard rfl rfl g14 ?_
  refine JL_pd rfl (det_move rfl) ?_
  refine JL_guard rfl rfl g14 ?_
  refine JL_dt rfl (det_indexAddr (i := 1) rfl rfl (by first | rfl | omega) (by first | assumption | omega | decide) Tryz.runUnderlying31 Tryz.sizeOf3) ?_
  refine JL_guard rfl rfl g14 ?_
  refine JL_dt rfl (det_loadE (n := 2) (enc := encI) (xs := [2, 0]) (i := 1) rfl (by decide) Tryz.isAgg3 rfl rfl) ?_
  refine JL_guard rfl rfl g14 ?_
  refine JL_pd rfl (det_eql rfl rfl) ?_
  refine JL_pd rfl (det_pick_t rfl g14 rfl) ?_
  refine JL_pd rfl (det_assign rfl) ?_
  refine JL_nil ?_
  refine JE_seq ?_
  refine JC_ret ?_
  -- stop: out
  refine JE_out (.inl rfl) () (results1 Tryz.results30 (res_tmp rfl)) rfl (List.Perm.refl _) (fun _ _ => trivial)
end Go.Proofs.YthpkgabckklojaaGreat.Bl
