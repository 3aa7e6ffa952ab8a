/- Own texts, laid together: L7 L8 L9. Nothing is asked. -/
import Derived.Test.YthpkgabckklojaaT8
import Derived.Test.YthpkgabckklojaaTC
import Derived.Test.YthpkgabckklojaaT4
import Derived.Test.YthpkgabckklojaaT6
set_option linter.unusedSimpArgs false
set_option linter.unusedVariables false
/- Top: what the statements ask of closed inputs. -/
namespace Go.Proofs.Ythpkgabckklojaa.Bl
open Go.RowKit Go.Shelf

def chH : En.Hs := ⟨0, [0, 1, 0, 0, 0, 0, 0, 0, 0, 0]⟩
theorem ch_fit {ws : List Int} (h : En.FitOk chH.shoes [0] ws) : ws = [1] := by
  obtain ⟨hl, fs, hs, hp⟩ := h
  obtain ⟨x, rfl⟩ : ∃ x, ws = [x] := List.length_eq_one_iff.1 hl
  have hp2 : fs.zip (En.greS chH.shoes fs) = [((0 : Int), x)] := List.perm_singleton.1 hp.symm
  have hln := congrArg List.length hp2
  rw [List.length_zip, En.greS_len, Nat.min_self] at hln
  obtain ⟨f, rfl⟩ : ∃ f, fs = [f] := List.length_eq_one_iff.1 hln
  have h0 : f = 0 := by
    have := congrArg (fun l => l.map Prod.fst) hp2
    rw [List.map_fst_zip (by rw [En.greS_len]; exact Nat.le_refl _)] at this
    simpa using this
  subst h0
  have e : ([(0 : Int)] : List Int).zip (En.greS chH.shoes [0]) = [(0, 1)] := by decide +kernel
  rw [e] at hp2
  simp at hp2
  rw [← hp2]
theorem wFit_j (b c : Nat) : Cr Try.prog 38 [.agg #[I 0, .slice (some ⟨b, 0, none⟩) 10 10], .slice (some ⟨c, 0, none⟩) 1 1] (KAnd (KSl (some ⟨b, 0, none⟩) 10 10 encI [0, 1, 0, 0, 0, 0, 0, 0, 0, 0]) (KSl (some ⟨c, 0, none⟩) 1 1 encI [0])) (fun q : Nat × { p : List Int // En.FitOk chH.shoes [0] p } => .tuple #[.slice (some ⟨q.1, 0, none⟩) 1 1, I 0]) (fun q => KSl (some ⟨q.1, 0, none⟩) 1 1 encI [1]) :=
  Cr.conv (En.Fit_jo ⟨chH, some ⟨b, 0, none⟩, 10⟩ (some ⟨c, 0, none⟩) 1 [0] (show En.shodE chH [0] = 0 by decide +kernel)) (fun q => rfl) (fun q w h => by
    have e := ch_fit q.2.2
    rw [e] at h
    exact h)
def chL : List Of := [⟨30, ⟨0, 0, 1⟩, 0, 23, 2⟩]
theorem ch_ask : askE chL ⟨0, 0, 1⟩ 9 = 0 := by decide +kernel
theorem ch_best : bst 9 chL ⟨0, 0, 1⟩ = some ⟨[1], 30, 1⟩ := by decide +kernel
theorem wBest_j (b : Nat) : Cr Try.prog 39 [.slice (some ⟨b, 0, none⟩) 1 1, .agg #[I 0, I 0, I 1], I 9] (KSl (some ⟨b, 0, none⟩) 1 1 encO chL) (fun q : Option Addr × Nat => .tuple #[.slice q.1 1 q.2, I 30, I 0]) (fun q => KSl q.1 1 q.2 encI [1]) := by
  have h0 := Best_jo (some ⟨b, 0, none⟩) 1 chL ⟨0, 0, 1⟩ 9 ch_ask
  rw [ch_best] at h0
  exact h0
theorem wShare_j (b : Nat) : Cr Try.prog 18 [I 30, .slice (some ⟨b, 0, none⟩) 2 2] (KSl (some ⟨b, 0, none⟩) 2 2 encI [1, 2]) (fun q : Option Addr × Nat => .tuple #[.slice q.1 2 q.2, I 0]) (fun q => KSl q.1 2 q.2 encI [10, 20]) :=
  Cr.conv (Share_jo 30 (some ⟨b, 0, none⟩) 2 [1, 2] (by decide +kernel)) (fun q => rfl) (fun q w h => by rw [show sharesV 30 [1, 2] = [10, 20] by decide +kernel] at h; exact h)
def chG : List Gm := [⟨0, 1, 5, 4, false⟩]
theorem chG_v : VL 2 chG := lg_of (by decide +kernel)
theorem wAfter_j (b : Nat) : Cr Try.prog 16 [.agg #[I 2, .slice (some ⟨b, 0, none⟩) 1 1], .slice none 0 0] (KSl (some ⟨b, 0, none⟩) 1 1 encG chG) (fun q : Option Addr × Nat => .tuple #[.slice q.1 2 q.2, I 0]) (fun q => KSl q.1 2 q.2 encI [2, 0]) :=
  Cr.conv ((After_j 2 (some ⟨b, 0, none⟩) 1 chG none 0 [] chG_v rfl (fun _ h => by cases h)).mono (fun w h => ⟨h, KSl_none w⟩) fun _ _ h => h) (fun q => rfl) (fun q w h => h)
set_option maxRecDepth 100000 in
set_option maxHeartbeats 2000000 in
theorem charged_j : Cv Try.prog 14 [] KTrue (.bool true) := by
  refine Cx_of Try.func14 rfl Try.ntmps14 rfl fun w0 M0 => ?_
  refine JC_seq ?_
  refine JC_region ?_
  refine JL_pd rfl (det_assign rfl) ?_
  refine JL_nil ?_
  refine JE_seq ?_
  refine JC_seq ?_
  refine JC_region ?_
  refine JL_step rfl rfl rfl (jo_buildSlice rfl (bsl_26_10_0_1_2_3_4_5_6_7_8_9 _ _ _ _ _ _ _ _ _ _)) fun b11 => ?_
  refine JL_lit (enc := encI) b11 10 [0, 1, 0, 0, 0, 0, 0, 0, 0, 0] noFp rfl rfl (by decide) ?_
  refine JL_pd rfl (det_build rfl (bld_28_1 _ _ _)) ?_
  refine JL_step rfl rfl rfl (jo_buildSlice rfl (bsl_26_1_0 _)) fun b13 => ?_
  -- stop: op  3 t14 := (call (Call (value f38) (t12 t13) (28 26)))   <1 2>   18
  refine JL_lit (enc := encI) b13 1 [0] noFp rfl rfl (by decide) ?_
  refine JL_step rfl rfl rfl (jo_call rfl rfl Try.call38 rfl (wFit_j b11 b13)) fun xf => ?_
  refine JL_pd rfl (det_move rfl) ?_
  refine JL_pd rfl (det_extract rfl rfl) ?_
  refine JL_pd rfl (det_extract rfl rfl) ?_
  refine JL_pd rfl (det_assign rfl) ?_
  refine JL_pd rfl (det_assign rfl) ?_
  refine JL_nil ?_
  refine JE_seq ?_
  refine JC_seq ?_
  refine JC_region ?_
  refine JL_pd rfl (det_build rfl (bld_87_2 _)) ?_
  refine JL_pd rfl (det_build rfl (bld_88_1 _)) ?_
  refine JL_pd rfl (det_build rfl (bld_90_0_1_2_3 _ _ _ _ _ _ _)) ?_
  refine JL_step rfl rfl rfl (jo_buildSlice rfl (bsl_91_1_0 _ _ _ _ _ _ _)) fun b21 => ?_
  refine JL_lit (enc := encO) b21 1 chL noFp rfl rfl (by decide) ?_
  refine JL_pd rfl (det_build rfl (bld_87_2 _)) ?_
  -- stop: op  5 t23 := (call (Call (value f39) (t21 t22 9) (91 87 3)))   <3 4>   19
  refine JL_step rfl rfl rfl (jo_call rfl rfl Try.call39 rfl (wBest_j b21)) fun xb => ?_
  refine JL_pd rfl (det_move rfl) ?_
  refine JL_pd rfl (det_extract rfl rfl) ?_
  refine JL_pd rfl (det_extract rfl rfl) ?_
  refine JL_pd rfl (det_extract rfl rfl) ?_
  refine JL_pd rfl (det_assign rfl) ?_
  refine JL_pd rfl (det_assign rfl) ?_
  refine JL_pd rfl (det_assign rfl) ?_
  refine JL_nil ?_
  refine JE_seq ?_
  refine JC_seq ?_
  refine JC_region ?_
  refine JL_step rfl rfl rfl (jo_buildSlice rfl (bsl_26_2_0_1 _ _)) fun b28 => ?_
  -- stop: op  1 t29 := (call (Call (value f18) (30 t28) (3 26)))   <0>   20
  refine JL_lit (enc := encI) b28 2 [1, 2] noFp rfl rfl (by decide) ?_
  refine JL_step rfl rfl rfl (jo_call rfl rfl Try.call18 rfl (wShare_j b28)) fun xs => ?_
  refine JL_pd rfl (det_move rfl) ?_
  refine JL_pd rfl (det_extract rfl rfl) ?_
  refine JL_pd rfl (det_extract rfl rfl) ?_
  refine JL_pd rfl (det_assign rfl) ?_
  refine JL_pd rfl (det_assign rfl) ?_
  refine JL_nil ?_
  refine JE_seq ?_
  refine JC_seq ?_
  refine JC_region ?_
  refine JL_pd rfl (det_build rfl (bld_92_1_2_3 _ _ _)) ?_
  refine JL_step rfl rfl rfl (jo_buildSlice rfl (bsl_54_1_0 _ _ _ _ _)) fun b34 => ?_
  refine JL_lit (enc := encG) b34 1 chG noFp rfl rfl (by decide) ?_
  refine JL_pd rfl (det_build rfl (bld_56_0_1 _ _ _ _)) ?_
  -- stop: op  3 t36 := (call (Call (value f16) (t35 (slice none 0 0)) (56 52)))   <2>   21
  refine JL_step rfl rfl rfl (jo_call rfl rfl Try.call16 rfl (wAfter_j b34)) fun xa => ?_
  refine JL_pd rfl (det_move rfl) ?_
  refine JL_pd rfl (det_extract rfl rfl) ?_
  refine JL_pd rfl (det_extract rfl rfl) ?_
  refine JL_pd rfl (det_assign rfl) ?_
  refine JL_pd rfl (det_assign rfl) ?_
  refine JL_nil ?_
  refine JE_seq ?_
  refine JC_seq ?_
  refine JC_region ?_
  refine JL_pd rfl (det_move rfl) ?_
  refine JL_pd rfl (det_eql rfl rfl) ?_
  refine JL_pd rfl (det_move rfl) ?_
  -- stop: guard 2
  skip
  refine JL_is (d0 := 41) true rfl (by decide) (fun g1 => ?_)
  refine JL_guard rfl rfl g1 ?_
  refine JL_pd rfl (det_move rfl) ?_
  refine JL_guard rfl rfl g1 ?_
  refine JL_pd rfl (det_len rfl Try.runUnderlying26) ?_
  refine JL_guard rfl rfl g1 ?_
  refine JL_pd rfl (det_eql rfl rfl) ?_
  refine JL_pd rfl (det_pick_t rfl g1 rfl) ?_
  refine JL_pd rfl (det_move rfl) ?_
  refine JL_is (d0 := 46) true rfl (by decide) (fun g2 => ?_)
  refine JL_guard rfl rfl g2 ?_
  refine JL_pd rfl (det_move rfl) ?_
  refine JL_guard rfl rfl g2 ?_
  refine JL_dt rfl (det_indexAddr (i := 0) rfl rfl (by first | rfl | omega) (by first | assumption | omega | decide) Try.runUnderlying26 Try.sizeOf3) ?_
  refine JL_guard rfl rfl g2 ?_
  refine JL_dt rfl (det_loadE (n := 1) (enc := encI) (xs := [1]) (i := 0) rfl (by decide) Try.isAgg3 rfl rfl) ?_
  refine JL_guard rfl rfl g2 ?_
  refine JL_pd rfl (det_eql rfl rfl) ?_
  refine JL_pd rfl (det_pick_t rfl g2 rfl) ?_
  refine JL_pd rfl (det_move rfl) ?_
  refine JL_is (d0 := 52) true rfl (by decide) (fun g3 => ?_)
  refine JL_guard rfl rfl g3 ?_
  refine JL_pd rfl (det_move rfl) ?_
  refine JL_guard rfl rfl g3 ?_
  refine JL_pd rfl (det_eql rfl rfl) ?_
  refine JL_pd rfl (det_pick_t rfl g3 rfl) ?_
  refine JL_pd rfl (det_move rfl) ?_
  refine JL_is (d0 := 56) true rfl (by decide) (fun g4 => ?_)
  refine JL_guard rfl rfl g4 ?_
  refine JL_pd rfl (det_move rfl) ?_
  refine JL_guard rfl rfl g4 ?_
  refine JL_pd rfl (det_eql rfl rfl) ?_
  refine JL_pd rfl (det_pick_t rfl g4 rfl) ?_
  refine JL_pd rfl (det_move rfl) ?_
  refine JL_is (d0 := 60) true rfl (by decide) (fun g5 => ?_)
  refine JL_guard rfl rfl g5 ?_
  refine JL_pd rfl (det_move rfl) ?_
  refine JL_guard rfl rfl g5 ?_
  refine JL_pd rfl (det_len rfl Try.runUnderlying26) ?_
  refine JL_guard rfl rfl g5 ?_
  refine JL_pd rfl (det_eql rfl rfl) ?_
  refine JL_pd rfl (det_pick_t rfl g5 rfl) ?_
  refine JL_pd rfl (det_move rfl) ?_
  refine JL_is (d0 := 65) true rfl (by decide) (fun g6 => ?_)
  refine JL_guard rfl rfl g6 ?_
  refine JL_pd rfl (det_move rfl) ?_
  refine JL_guard rfl rfl g6 ?_
  refine JL_dt rfl (det_indexAddr (i := 0) rfl rfl (by first | rfl | omega) (by first | assumption | omega | decide) Try.runUnderlying26 Try.sizeOf3) ?_
  refine JL_guard rfl rfl g6 ?_
  refine JL_dt rfl (det_loadE (n := 1) (enc := encI) (xs := [1]) (i := 0) rfl (by decide) Try.isAgg3 rfl rfl) ?_
  refine JL_guard rfl rfl g6 ?_
  refine JL_pd rfl (det_eql rfl rfl) ?_
  refine JL_pd rfl (det_pick_t rfl g6 rfl) ?_
  refine JL_pd rfl (det_move rfl) ?_
  refine JL_is (d0 := 71) true rfl (by decide) (fun g7 => ?_)
  refine JL_guard rfl rfl g7 ?_
  refine JL_pd rfl (det_move rfl) ?_
  refine JL_guard rfl rfl g7 ?_
  refine JL_pd rfl (det_eql rfl rfl) ?_
  refine JL_pd rfl (det_pick_t rfl g7 rfl) ?_
  refine JL_pd rfl (det_move rfl) ?_
  refine JL_is (d0 := 75) true rfl (by decide) (fun g8 => ?_)
  refine JL_guard rfl rfl g8 ?_
  refine JL_pd rfl (det_move rfl) ?_
  refine JL_guard rfl rfl g8 ?_
  refine JL_pd rfl (det_len rfl Try.runUnderlying26) ?_
  refine JL_guard rfl rfl g8 ?_
  refine JL_pd rfl (det_eql rfl rfl) ?_
  refine JL_pd rfl (det_pick_t rfl g8 rfl) ?_
  refine JL_pd rfl (det_move rfl) ?_
  refine JL_is (d0 := 80) true rfl (by decide) (fun g9 => ?_)
  refine JL_guard rfl rfl g9 ?_
  refine JL_pd rfl (det_move rfl) ?_
  refine JL_guard rfl rfl g9 ?_
  refine JL_dt rfl (det_indexAddr (i := 0) rfl rfl (by first | rfl | omega) (by first | assumption | omega | decide) Try.runUnderlying26 Try.sizeOf3) ?_
  refine JL_guard rfl rfl g9 ?_
  refine JL_dt rfl (det_loadE (n := 2) (enc := encI) (xs := [10, 20]) (i := 0) rfl (by decide) Try.isAgg3 rfl rfl) ?_
  refine JL_guard rfl rfl g9 ?_
  refine JL_pd rfl (det_eql rfl rfl) ?_
  refine JL_pd rfl (det_pick_t rfl g9 rfl) ?_
  refine JL_pd rfl (det_move rfl) ?_
  refine JL_is (d0 := 86) true rfl (by decide) (fun g10 => ?_)
  refine JL_guard rfl rfl g10 ?_
  refine JL_pd rfl (det_move rfl) ?_
  refine JL_guard rfl rfl g10 ?_
  refine JL_dt rfl (det_indexAddr (i := 1) rfl rfl (by first | rfl | omega) (by first | assumption | omega | decide) Try.runUnderlying26 Try.sizeOf3) ?_
  refine JL_guard rfl rfl g10 ?_
  refine JL_dt rfl (det_loadE (n := 2) (enc := encI) (xs := [10, 20]) (i := 1) rfl (by decide) Try.isAgg3 rfl rfl) ?_
  refine JL_guard rfl rfl g10 ?_
  refine JL_pd rfl (det_eql rfl rfl) ?_
  refine JL_pd rfl (det_pick_t rfl g10 rfl) ?_
  refine JL_pd rfl (det_move rfl) ?_
  refine JL_is (d0 := 92) true rfl (by decide) (fun g11 => ?_)
  refine JL_guard rfl rfl g11 ?_
  refine JL_pd rfl (det_move rfl) ?_
  refine JL_guard rfl rfl g11 ?_
  refine JL_pd rfl (det_eql rfl rfl) ?_
  refine JL_pd rfl (det_pick_t rfl g11 rfl) ?_
  refine JL_pd rfl (det_move rfl) ?_
  refine JL_is (d0 := 96) true rfl (by decide) (fun g12 => ?_)
  refine JL_guard rfl rfl g12 ?_
  refine JL_pd rfl (det_move rfl) ?_
  refine JL_guard rfl rfl g12 ?_
  refine JL_pd rfl (det_len rfl Try.runUnderlying26) ?_
  refine JL_guard rfl rfl g12 ?_
  refine JL_pd rfl (det_eql rfl rfl) ?_
  refine JL_pd rfl (det_pick_t rfl g12 rfl) ?_
  refine JL_pd rfl (det_move rfl) ?_
  refine JL_is (d0 := 101) true rfl (by decide) (fun g13 => ?_)
  refine JL_guard rfl rfl g13 ?_
  refine JL_pd rfl (det_move rfl) ?_
  refine JL_guard rfl rfl g13 ?_
  refine JL_dt rfl (det_indexAddr (i := 0) rfl rfl (by first | rfl | omega) (by first | assumption | omega | decide) Try.runUnderlying26 Try.sizeOf3) ?_
  refine JL_guard rfl rfl g13 ?_
  refine JL_dt rfl (det_loadE (n := 2) (enc := encI) (xs := [2, 0]) (i := 0) rfl (by decide) Try.isAgg3 rfl rfl) ?_
  refine JL_guard rfl rfl g13 ?_
  refine JL_pd rfl (det_eql rfl rfl) ?_
  refine JL_pd rfl (det_pick_t rfl g13 rfl) ?_
  refine JL_pd rfl (det_move rfl) ?_
  refine JL_is (d0 := 107) true rfl (by decide) (fun g14 => ?_)
  refine JL_guard rfl rfl g14 ?_
  refine JL_pd rfl (det_move rfl) ?_
  refine JL_guard rfl rfl g14 ?_
  refine JL_dt rfl (det_indexAddr (i := 1) rfl rfl (by first | rfl | omega) (by first | assumption | omega | decide) Try.runUnderlying26 Try.sizeOf3) ?_
  refine JL_guard rfl rfl g14 ?_
  refine JL_dt rfl (det_loadE (n := 2) (enc := encI) (xs := [2, 0]) (i := 1) rfl (by decide) Try.isAgg3 rfl rfl) ?_
  refine JL_guard rfl rfl g14 ?_
  refine JL_pd rfl (det_eql rfl rfl) ?_
  refine JL_pd rfl (det_pick_t rfl g14 rfl) ?_
  refine JL_pd rfl (det_assign rfl) ?_
  refine JL_nil ?_
  refine JE_seq ?_
  refine JC_ret ?_
  -- stop: out
  refine JE_out (.inl rfl) () (results1 Try.results14 (res_tmp rfl)) rfl (List.Perm.refl _) (fun _ _ => trivial)
end Go.Proofs.Ythpkgabckklojaa.Bl

/- The law and the reference of league: copies, what is valid, how many are open. -/
namespace Go.Proofs.Ythpkgabckklojaa.Bl
open Go.RowKit Go.Shelf

theorem snoc_len' {α : Type} {l : List α} {i : Nat} (h : i < l.length) : (l.take i).length + 1 = (l.take (i + 1)).length := by rw [List.take_succ_eq_append_getElem h, List.length_append]; rfl
theorem snoc_flat' {α : Type} (e : α → List Value) {l : List α} {i : Nat} (h : i < l.length) : (l.take i).flatMap e ++ e l[i] = (l.take (i + 1)).flatMap e := by rw [List.take_succ_eq_append_getElem h, List.flatMap_append, List.flatMap_cons, List.flatMap_nil, List.append_nil]
theorem all_snoc' {α : Type} {p : α → Bool} {l : List α} {i : Nat} (h : i < l.length) (h1 : (l.take i).all p = true) (h2 : p l[i] = true) : (l.take (i + 1)).all p = true := by
  rw [List.take_succ_eq_append_getElem h, List.all_append, h1]; simp [h2]
theorem all_no' {α : Type} {p : α → Bool} {l : List α} {i : Nat} (h : i < l.length) (h2 : p l[i] = false) : l.all p = false := by
  cases ha : l.all p
  · rfl
  · have := List.all_eq_true.1 ha _ (List.getElem_mem h); rw [h2] at this; cases this
theorem gIn_j (n lo hi : Int) : Cv Try.prog 37 [I n, I lo, I hi] KTrue (.bool (inI n lo hi)) := by
  refine Cx_of Try.func37 rfl Try.ntmps37 rfl fun w0 M0 => ?_
  refine JC_seq ?_
  refine JC_region ?_
  refine JL_pd rfl (det_assign rfl) ?_
  refine JL_nil ?_
  refine JE_seq ?_
  refine JC_seq ?_
  refine JC_region ?_
  refine JL_pd rfl (det_move rfl) ?_
  refine JL_pd rfl (det_move rfl) ?_
  refine JL_pd rfl (det_geq rfl rfl) ?_
  refine JL_pd rfl (det_move rfl) ?_
  refine JL_split (d0 := 10) rfl (fun h1 => ?_) (fun h1 => ?_)
  · refine JL_guard rfl rfl h1 ?_
    refine JL_pd rfl (det_move rfl) ?_
    refine JL_guard rfl rfl h1 ?_
    refine JL_pd rfl (det_move rfl) ?_
    refine JL_guard rfl rfl h1 ?_
    refine JL_pd rfl (det_leq rfl rfl) ?_
    refine JL_pd rfl (det_pick_t rfl h1 rfl) ?_
    refine JL_pd rfl (det_assign rfl) ?_
    refine JL_nil ?_
    refine JE_seq ?_
    refine JC_ret ?_
    refine JE_out (.inl rfl) () (results1 Try.results37 (res_tmp rfl)) ?_ (List.Perm.refl _) (fun _ _ => trivial)
    (simp_all [inI])
    (try omega)
  · refine JL_skip rfl rfl h1 rfl ?_
    refine JL_skip rfl rfl h1 rfl ?_
    refine JL_skip rfl rfl h1 rfl ?_
    refine JL_pd rfl (det_pick_f rfl h1 rfl) ?_
    refine JL_pd rfl (det_assign rfl) ?_
    refine JL_nil ?_
    refine JE_seq ?_
    refine JC_ret ?_
    refine JE_out (.inl rfl) () (results1 Try.results37 (res_tmp rfl)) ?_ (List.Perm.refl _) (fun _ _ => trivial)
    (simp_all [inI])
    (try omega)
theorem gThin_j (n : Int) (a : Option Addr) (c : Nat) (l : List Gm) : Cv Try.prog 12 [.agg #[I n, .slice a l.length c]] KTrue (.bool (decide (l.length ≤ 24))) := by
  refine Cx_of Try.func12 rfl Try.ntmps12 rfl fun w0 M0 => ?_
  refine JC_seq ?_
  refine JC_region ?_
  refine JL_step rfl rfl rfl (jo_box rfl rfl) fun b1 => ?_
  refine JL_pd rfl (det_assign rfl) ?_
  refine JL_nil ?_
  refine JE_seq ?_
  refine JC_seq ?_
  refine JC_region ?_
  refine JL_pd rfl (det_fieldAddr rfl fo_47_1) ?_
  refine JL_dt rfl (det_loadK rfl Try.isAgg45 rfl) ?_
  refine JL_pd rfl (det_len rfl Try.runUnderlying45) ?_
  refine JL_pd rfl (det_leq rfl rfl) ?_
  refine JL_pd rfl (det_assign rfl) ?_
  refine JL_nil ?_
  refine JE_seq ?_
  refine JC_ret ?_
  -- stop: out
  refine JE_out (.inl rfl) () (results1 Try.results12 (res_tmp rfl)) (by congr 2; exact propext (by omega)) (List.Perm.refl _) (fun _ _ => trivial)
set_option maxRecDepth 100000 in
theorem gOpen_j (n : Int) (a : Option Addr) (c : Nat) (l : List Gm) (hl : l.length ≤ 1000) : Cv Try.prog 15 [.agg #[I n, .slice a l.length c]] (KSl a l.length c encG l) (I (opnL l).length) := by
  refine Cx_of Try.func15 rfl Try.ntmps15 rfl fun w0 M0 => ?_
  refine JC_seq ?_
  refine JC_region ?_
  refine JL_step rfl rfl rfl (jo_box rfl rfl) fun b1 => ?_
  refine JL_pd rfl (det_assign rfl) ?_
  refine JL_nil ?_
  refine JE_seq ?_
  refine JC_seq ?_
  refine JC_region ?_
  refine JL_pd rfl (det_assign rfl) ?_
  refine JL_nil ?_
  refine JE_seq ?_
  refine JC_seq ?_
  refine JC_seq ?_
  refine JC_region ?_
  refine JL_pd rfl (det_assign rfl) ?_
  refine JL_nil ?_
  refine JE_seq ?_
  refine JC_block ?_
  -- stop: loop
  refine JC_loopF (γ := Nat) (fun i => i ≤ l.length) (fun i => [(4, I i), (3, I (opnL (l.take i)).length)]) (fun _ => []) (fun i => l.length - i) 0 (Nat.zero_le _) (stsub_consI rfl rfl (stsub_consI rfl (by rw [List.take_zero]; rfl) stsub_nil)) ht_nil ?_
  intro i hi K hK
  dsimp only [List.cons_append, List.nil_append]
  have hk : (opnL (l.take i)).length ≤ i := kept_len (fun x => !x.op) l i
  refine JC_seq ?_
  refine JC_seq ?_
  refine JC_region ?_
  refine JL_pd rfl (det_move rfl) ?_
  refine JL_pd rfl (det_fieldAddr rfl fo_47_1) ?_
  refine JL_dt rfl (det_loadK rfl Try.isAgg45 rfl) ?_
  refine JL_pd rfl (det_len rfl Try.runUnderlying45) ?_
  refine JL_pd rfl (det_lss rfl rfl) ?_
  refine JL_nil ?_
  refine JE_seq ?_
  -- stop: cond
  refine JC_if rfl (fun h1 => ?_) (fun h1 => ?_)
  · have hi2 : i < l.length := by omega
    have hsn : opnL (l.take (i + 1)) = if (!l[i].op) = true then opnL (l.take i) else opnL (l.take i) ++ [l[i]] := kept_snoc (fun x : Gm => !x.op) hi2
    refine JC_skip ?_
    refine JE_seq ?_
    refine JC_seq ?_
    refine JC_block ?_
    refine JC_seq ?_
    refine JC_region ?_
    refine JL_pd rfl (det_fieldAddr rfl fo_47_1) ?_
    refine JL_dt rfl (det_loadK rfl Try.isAgg45 rfl) ?_
    refine JL_pd rfl (det_move rfl) ?_
    refine JL_dt rfl (det_indexAddr rfl rfl (by first | rfl | omega) (by first | assumption | omega | decide) Try.runUnderlying45 Try.sizeOf82) ?_
    refine JL_pd rfl (det_fieldAddrE rfl fo_82_4) ?_
    refine JL_dt rfl (det_loadEk rfl (by first | assumption | omega | decide) Try.isAgg4 rfl rfl) ?_
    refine JL_nil ?_
    refine JE_seq ?_
    -- stop: cond
    refine JC_cond rfl (fun h2 => ?_) (fun h2 => ?_)
    · rw [if_neg (by simp [h2])] at hsn
      refine JC_region ?_
      refine JL_pd rfl (det_move rfl) ?_
      refine JL_pd rfl (det_add rfl rfl ⟨by omega, by omega⟩) ?_
      refine JL_pd rfl (det_assign rfl) ?_
      refine JL_nil ?_
      refine JE_block ?_
      refine JE_seq ?_
      refine JC_region ?_
      refine JL_pd rfl (det_move rfl) ?_
      refine JL_pd rfl (det_add rfl rfl ⟨by omega, by omega⟩) ?_
      refine JL_pd rfl (det_assign rfl) ?_
      refine JL_nil ?_
      -- stop: end
      refine JE_roundF hK (i + 1) (by omega) (by omega) (stsub_consI rfl (by omega) (stsub_consI rfl (by rw [hsn, List.length_append]; simp) stsub_nil)) ht_nil
    · rw [if_pos (by simp [h2])] at hsn
      refine JC_skip ?_
      refine JE_block ?_
      refine JE_seq ?_
      refine JC_region ?_
      refine JL_pd rfl (det_move rfl) ?_
      refine JL_pd rfl (det_add rfl rfl ⟨by omega, by omega⟩) ?_
      refine JL_pd rfl (det_assign rfl) ?_
      refine JL_nil ?_
      -- stop: end
      refine JE_roundF hK (i + 1) (by omega) (by omega) (stsub_consI rfl (by omega) (stsub_consI rfl (by rw [hsn]) stsub_nil)) ht_nil
  · obtain rfl : i = l.length := by omega
    rw [List.take_length]
    refine JC_exit ?_
    refine JE_seq_exit ?_
    refine JE_then_exit ?_
    refine JE_block_here ?_
    refine JE_seq ?_
    refine JC_seq ?_
    refine JC_region ?_
    refine JL_pd rfl (det_move rfl) ?_
    refine JL_pd rfl (det_assign rfl) ?_
    refine JL_nil ?_
    refine JE_seq ?_
    refine JC_ret ?_
    -- stop: out
    refine JE_out (.inl rfl) () (results1 Try.results15 (res_tmp rfl)) rfl (List.Perm.refl _) (fun _ _ => trivial)
def ngm (n : Int) (g : Gm) : Bool := !inI g.a 0 (n - 1) || (!inI g.b 0 (n - 1) || (decide (g.a = g.b) || (!inI g.pa 0 3000 || (!inI g.pb 0 3000 || (g.op && decide (0 < IntKind.i64.wrap (g.pa + g.pb)))))))
theorem ngm_eq (n : Int) (g : Gm) : ngm n g = !gmOk n g := by
  unfold ngm gmOk
  cases h1 : inI g.a 0 (n - 1)
  · rfl
  cases h2 : inI g.b 0 (n - 1)
  · rfl
  by_cases h3 : g.a = g.b
  · simp [h3]
  cases h4 : inI g.pa 0 3000
  · simp [h3]
  cases h5 : inI g.pb 0 3000
  · simp [h3]
  have h4 := inI_iff.1 h4
  have h5 := inI_iff.1 h5
  rw [i64_wrap ⟨by omega, by omega⟩]
  simp [h3]
  cases g.op
  · simp
  · simp
    by_cases h6 : g.pa = 0 <;> by_cases h7 : g.pb = 0 <;> simp [h6, h7] <;> omega
set_option maxRecDepth 100000 in
theorem gFault_j (n : Int) (a : Option Addr) (c : Nat) (l : List Gm) : Cv Try.prog 13 [.agg #[I n, .slice a l.length c]] (KSl a l.length c encG l) (I (lgE n l)) := by
  refine Cx_of Try.func13 rfl Try.ntmps13 rfl fun w0 M0 => ?_
  refine JC_seq ?_
  refine JC_region ?_
  refine JL_step rfl rfl rfl (jo_box rfl rfl) fun b1 => ?_
  refine JL_pd rfl (det_assign rfl) ?_
  refine JL_nil ?_
  refine JE_seq ?_
  refine JC_seq ?_
  refine JC_seq ?_
  refine JC_region ?_
  refine JL_pd rfl (det_fieldAddr rfl fo_47_1) ?_
  refine JL_dt rfl (det_loadK rfl Try.isAgg45 rfl) ?_
  refine JL_pd rfl (det_len rfl Try.runUnderlying45) ?_
  refine JL_pd rfl (det_gtr rfl rfl) ?_
  refine JL_nil ?_
  refine JE_seq ?_
  -- stop: cond
  refine JC_if rfl (fun h1 => ?_) (fun h1 => ?_)
  · refine JC_seq ?_
    refine JC_region ?_
    refine JL_pd rfl (det_assign rfl) ?_
    refine JL_nil ?_
    refine JE_seq ?_
    refine JC_ret ?_
    refine JE_seq_ret ?_
    -- stop: out
    refine JE_out (.inl rfl) () (results1 Try.results13 (res_tmp rfl)) (by unfold lgE; rw [if_pos (by omega)]) (List.Perm.refl _) (fun _ _ => trivial)
  · refine JC_skip ?_
    refine JE_seq ?_
    refine JC_seq ?_
    refine JC_seq ?_
    refine JC_region ?_
    refine JL_pd rfl (det_fieldAddr rfl fo_47_0) ?_
    refine JL_dt rfl (det_loadK rfl Try.isAgg3 rfl) ?_
    refine JL_step rfl rfl rfl (jo_callv rfl rfl Try.call37 rfl (gIn_j _ _ _)) fun _ => ?_
    refine JL_pd rfl (det_not rfl) ?_
    refine JL_nil ?_
    refine JE_seq ?_
    -- stop: cond
    refine JC_cond rfl (fun h2 => ?_) (fun h2 => ?_)
    · rw [Bool.not_eq_true'] at h2
      refine JC_seq ?_
      refine JC_region ?_
      refine JL_pd rfl (det_assign rfl) ?_
      refine JL_nil ?_
      refine JE_seq ?_
      refine JC_ret ?_
      refine JE_seq_ret ?_
      -- stop: out
      refine JE_out (.inl rfl) () (results1 Try.results13 (res_tmp rfl)) (by unfold lgE; rw [if_neg (by omega), if_pos (by rw [h2, Bool.false_and])]) (List.Perm.refl _) (fun _ _ => trivial)
    · rw [Bool.not_eq_false'] at h2
      have hn := inI_iff.1 h2
      refine JC_skip ?_
      refine JE_seq ?_
      refine JC_seq ?_
      refine JC_seq ?_
      refine JC_region ?_
      refine JL_pd rfl (det_assign rfl) ?_
      refine JL_nil ?_
      refine JE_seq ?_
      refine JC_block ?_
      -- stop: loop
      refine JC_loopF (γ := Nat) (fun i => i ≤ l.length ∧ (l.take i).all (gmOk n) = true) (fun i => [(3, I i)]) (fun _ => []) (fun i => l.length - i) 0 ⟨Nat.zero_le _, rfl⟩ (stsub_consI rfl rfl stsub_nil) ht_nil ?_
      rintro i ⟨hi, hall⟩ K hK
      dsimp only [List.cons_append, List.nil_append]
      refine JC_seq ?_
      refine JC_seq ?_
      refine JC_region ?_
      refine JL_pd rfl (det_move rfl) ?_
      refine JL_pd rfl (det_fieldAddr rfl fo_47_1) ?_
      refine JL_dt rfl (det_loadK rfl Try.isAgg45 rfl) ?_
      refine JL_pd rfl (det_len rfl Try.runUnderlying45) ?_
      refine JL_pd rfl (det_lss rfl rfl) ?_
      refine JL_nil ?_
      refine JE_seq ?_
      -- stop: cond
      refine JC_if rfl (fun h3 => ?_) (fun h3 => ?_)
      · have hi2 : i < l.length := by omega
        refine JC_skip ?_
        refine JE_seq ?_
        refine JC_seq ?_
        refine JC_block ?_
        refine JC_seq ?_
        refine JC_region ?_
        refine JL_pd rfl (det_fieldAddr rfl fo_47_1) ?_
        refine JL_dt rfl (det_loadK rfl Try.isAgg45 rfl) ?_
        refine JL_pd rfl (det_move rfl) ?_
        refine JL_dt rfl (det_indexAddr rfl rfl (by first | rfl | omega) (by first | assumption | omega | decide) Try.runUnderlying45 Try.sizeOf82) ?_
        refine JL_dt rfl (det_loadEA rfl (by first | assumption | omega | decide) Try.isAgg82 Try.sizeOf82 rfl rfl rfl) ?_
        refine JL_step rfl rfl rfl (jo_alloc0 Try.zeroValue82 rfl) fun b4 => ?_
        refine JL_step0 rfl rfl (jo_store rfl rfl rfl (by first | (simp only [splice_norm]; done) | (simp only [splice_norm]; rfl) | rfl) Try.sizeOf82 rfl rfl) fun _ => ?_
        refine JL_nil ?_
        refine JE_seq ?_
        refine JC_seq ?_
        refine JC_region ?_
        refine JL_pd rfl (det_fieldAddr rfl fo_82_0) ?_
        refine JL_dt rfl (det_loadK rfl Try.isAgg3 rfl) ?_
        refine JL_pd rfl (det_fieldAddr rfl fo_47_0) ?_
        refine JL_dt rfl (det_loadK rfl Try.isAgg3 rfl) ?_
        refine JL_pd rfl (det_sub rfl rfl ⟨by omega, by omega⟩) ?_
        refine JL_step rfl rfl rfl (jo_callv rfl rfl Try.call37 rfl (gIn_j _ _ _)) fun _ => ?_
        refine JL_pd rfl (det_not rfl) ?_
        refine JL_pd rfl (det_move rfl) ?_
        -- stop: guard 7
        refine JL_join1 39 71 (.bool (ngm n l[i])) (fun hj => ?_) ?_
        · refine JL_split (d0 := 32) rfl (fun q2 => ?_) (fun q2 => ?_)
          · refine JL_skip rfl rfl q2 rfl ?_
            refine JL_skip rfl rfl q2 rfl ?_
            refine JL_skip rfl rfl q2 rfl ?_
            refine JL_skip rfl rfl q2 rfl ?_
            refine JL_skip rfl rfl q2 rfl ?_
            refine JL_skip rfl rfl q2 rfl ?_
            refine JL_skip rfl rfl q2 rfl ?_
            refine JL_pd rfl (det_pick_t rfl q2 rfl) ?_
            refine JL_pd rfl (det_move rfl) ?_
            refine JL_skip rfl rfl rfl rfl ?_
            refine JL_skip rfl rfl rfl rfl ?_
            refine JL_skip rfl rfl rfl rfl ?_
            refine JL_skip rfl rfl rfl rfl ?_
            refine JL_skip rfl rfl rfl rfl ?_
            refine JL_pd rfl (det_pick_t rfl rfl rfl) ?_
            refine JL_pd rfl (det_move rfl) ?_
            refine JL_skip rfl rfl rfl rfl ?_
            refine JL_skip rfl rfl rfl rfl ?_
            refine JL_skip rfl rfl rfl rfl ?_
            refine JL_skip rfl rfl rfl rfl ?_
            refine JL_pd rfl (det_pick_t rfl rfl rfl) ?_
            refine JL_pd rfl (det_move rfl) ?_
            refine JL_skip rfl rfl rfl rfl ?_
            refine JL_skip rfl rfl rfl rfl ?_
            refine JL_skip rfl rfl rfl rfl ?_
            refine JL_skip rfl rfl rfl rfl ?_
            refine JL_pd rfl (det_pick_t rfl rfl rfl) ?_
            refine JL_pd rfl (det_move rfl) ?_
            refine JL_skip rfl rfl rfl rfl ?_
            refine JL_skip rfl rfl rfl rfl ?_
            refine JL_skip rfl rfl rfl rfl ?_
            refine JL_skipU rfl rfl rfl ?_
            refine JL_skipU rfl rfl rfl ?_
            refine JL_skipU rfl rfl rfl ?_
            refine JL_skipU rfl rfl rfl ?_
            refine JL_skipU rfl rfl rfl ?_
            refine JL_skipU rfl rfl rfl ?_
            refine JL_skip rfl rfl rfl rfl ?_
            refine JL_pd rfl (det_pick_t rfl rfl rfl) ?_
            exact hj (by kernel_rfl) (stsub_consB rfl (by clear hj; first | rfl | (simp only [ngm, q2, Bool.and_true, Bool.true_and, Bool.false_and, Bool.and_false, Bool.or_true, Bool.true_or, Bool.or_false, Bool.false_or, Bool.not_true, Bool.not_false]; done) | (simp [ngm, q2]; done) | (simp [ngm] at q2; done) | (simp [ngm, q2] <;> omega) | (exfalso; simp [ngm] at q2; omega)) stsub_nil)
          · refine JL_guard rfl rfl q2 ?_
            refine JL_pd rfl (det_fieldAddr rfl fo_82_1) ?_
            refine JL_guard rfl rfl q2 ?_
            refine JL_dt rfl (det_loadK rfl Try.isAgg3 rfl) ?_
            refine JL_guard rfl rfl q2 ?_
            refine JL_pd rfl (det_fieldAddr rfl fo_47_0) ?_
            refine JL_guard rfl rfl q2 ?_
            refine JL_dt rfl (det_loadK rfl Try.isAgg3 rfl) ?_
            refine JL_guard rfl rfl q2 ?_
            refine JL_pd rfl (det_sub rfl rfl ⟨by omega, by omega⟩) ?_
            refine JL_guard rfl rfl q2 ?_
            refine JL_step rfl rfl rfl (jo_callv rfl rfl Try.call37 rfl (gIn_j _ _ _)) fun _ => ?_
            refine JL_guard rfl rfl q2 ?_
            refine JL_pd rfl (det_not rfl) ?_
            refine JL_pd rfl (det_pick_f rfl q2 rfl) ?_
            refine JL_pd rfl (det_move rfl) ?_
            refine JL_split (d0 := 41) rfl (fun q3 => ?_) (fun q3 => ?_)
            · refine JL_skip rfl rfl q3 rfl ?_
              refine JL_skip rfl rfl q3 rfl ?_
              refine JL_skip rfl rfl q3 rfl ?_
              refine JL_skip rfl rfl q3 rfl ?_
              refine JL_skip rfl rfl q3 rfl ?_
              refine JL_pd rfl (det_pick_t rfl q3 rfl) ?_
              refine JL_pd rfl (det_move rfl) ?_
              refine JL_skip rfl rfl rfl rfl ?_
              refine JL_skip rfl rfl rfl rfl ?_
              refine JL_skip rfl rfl rfl rfl ?_
              refine JL_skip rfl rfl rfl rfl ?_
              refine JL_pd rfl (det_pick_t rfl rfl rfl) ?_
              refine JL_pd rfl (det_move rfl) ?_
              refine JL_skip rfl rfl rfl rfl ?_
              refine JL_skip rfl rfl rfl rfl ?_
              refine JL_skip rfl rfl rfl rfl ?_
              refine JL_skip rfl rfl rfl rfl ?_
              refine JL_pd rfl (det_pick_t rfl rfl rfl) ?_
              refine JL_pd rfl (det_move rfl) ?_
              refine JL_skip rfl rfl rfl rfl ?_
              refine JL_skip rfl rfl rfl rfl ?_
              refine JL_skip rfl rfl rfl rfl ?_
              refine JL_skipU rfl rfl rfl ?_
              refine JL_skipU rfl rfl rfl ?_
              refine JL_skipU rfl rfl rfl ?_
              refine JL_skipU rfl rfl rfl ?_
              refine JL_skipU rfl rfl rfl ?_
              refine JL_skipU rfl rfl rfl ?_
              refine JL_skip rfl rfl rfl rfl ?_
              refine JL_pd rfl (det_pick_t rfl rfl rfl) ?_
              exact hj (by kernel_rfl) (stsub_consB rfl (by clear hj; first | rfl | (simp only [ngm, q2, q3, Bool.and_true, Bool.true_and, Bool.false_and, Bool.and_false, Bool.or_true, Bool.true_or, Bool.or_false, Bool.false_or, Bool.not_true, Bool.not_false]; done) | (simp [ngm, q2, q3]; done) | (simp [ngm] at q2; done) | (simp [ngm] at q3; done) | (simp [ngm, q2, q3] <;> omega) | (exfalso; simp [ngm] at q2 q3; omega) | (simp [q3, ngm] at q2; done) | (simp [q2, ngm] at q3; done)) stsub_nil)
            · refine JL_guard rfl rfl q3 ?_
              refine JL_pd rfl (det_fieldAddr rfl fo_82_0) ?_
              refine JL_guard rfl rfl q3 ?_
              refine JL_dt rfl (det_loadK rfl Try.isAgg3 rfl) ?_
              refine JL_guard rfl rfl q3 ?_
              refine JL_pd rfl (det_fieldAddr rfl fo_82_1) ?_
              refine JL_guard rfl rfl q3 ?_
              refine JL_dt rfl (det_loadK rfl Try.isAgg3 rfl) ?_
              refine JL_guard rfl rfl q3 ?_
              refine JL_pd rfl (det_eql rfl rfl) ?_
              refine JL_pd rfl (det_pick_f rfl q3 rfl) ?_
              refine JL_pd rfl (det_move rfl) ?_
              refine JL_split (d0 := 48) rfl (fun q4 => ?_) (fun q4 => ?_)
              · refine JL_skip rfl rfl q4 rfl ?_
                refine JL_skip rfl rfl q4 rfl ?_
                refine JL_skip rfl rfl q4 rfl ?_
                refine JL_skip rfl rfl q4 rfl ?_
                refine JL_pd rfl (det_pick_t rfl q4 rfl) ?_
                refine JL_pd rfl (det_move rfl) ?_
                refine JL_skip rfl rfl rfl rfl ?_
                refine JL_skip rfl rfl rfl rfl ?_
                refine JL_skip rfl rfl rfl rfl ?_
                refine JL_skip rfl rfl rfl rfl ?_
                refine JL_pd rfl (det_pick_t rfl rfl rfl) ?_
                refine JL_pd rfl (det_move rfl) ?_
                refine JL_skip rfl rfl rfl rfl ?_
                refine JL_skip rfl rfl rfl rfl ?_
                refine JL_skip rfl rfl rfl rfl ?_
                refine JL_skipU rfl rfl rfl ?_
                refine JL_skipU rfl rfl rfl ?_
                refine JL_skipU rfl rfl rfl ?_
                refine JL_skipU rfl rfl rfl ?_
                refine JL_skipU rfl rfl rfl ?_
                refine JL_skipU rfl rfl rfl ?_
                refine JL_skip rfl rfl rfl rfl ?_
                refine JL_pd rfl (det_pick_t rfl rfl rfl) ?_
                exact hj (by kernel_rfl) (stsub_consB rfl (by clear hj; first | rfl | (simp only [ngm, q2, q3, q4, Bool.and_true, Bool.true_and, Bool.false_and, Bool.and_false, Bool.or_true, Bool.true_or, Bool.or_false, Bool.false_or, Bool.not_true, Bool.not_false]; done) | (simp [ngm, q2, q3, q4]; done) | (simp [ngm] at q2; done) | (simp [ngm] at q3; done) | (simp [ngm] at q4; done) | (simp [ngm, q2, q3, q4] <;> omega) | (exfalso; simp [ngm] at q2 q3 q4; omega) | (simp [q3, q4, ngm] at q2; done) | (simp [q2, q4, ngm] at q3; done) | (simp [q2, q3, ngm] at q4; done)) stsub_nil)
              · refine JL_guard rfl rfl q4 ?_
                refine JL_pd rfl (det_fieldAddr rfl fo_82_2) ?_
                refine JL_guard rfl rfl q4 ?_
                refine JL_dt rfl (det_loadK rfl Try.isAgg3 rfl) ?_
                refine JL_guard rfl rfl q4 ?_
                refine JL_step rfl rfl rfl (jo_callv rfl rfl Try.call37 rfl (gIn_j _ _ _)) fun _ => ?_
                refine JL_guard rfl rfl q4 ?_
                refine JL_pd rfl (det_not rfl) ?_
                refine JL_pd rfl (det_pick_f rfl q4 rfl) ?_
                refine JL_pd rfl (det_move rfl) ?_
                refine JL_split (d0 := 54) rfl (fun q5 => ?_) (fun q5 => ?_)
                · refine JL_skip rfl rfl q5 rfl ?_
                  refine JL_skip rfl rfl q5 rfl ?_
                  refine JL_skip rfl rfl q5 rfl ?_
                  refine JL_skip rfl rfl q5 rfl ?_
                  refine JL_pd rfl (det_pick_t rfl q5 rfl) ?_
                  refine JL_pd rfl (det_move rfl) ?_
                  refine JL_skip rfl rfl rfl rfl ?_
                  refine JL_skip rfl rfl rfl rfl ?_
                  refine JL_skip rfl rfl rfl rfl ?_
                  refine JL_skipU rfl rfl rfl ?_
                  refine JL_skipU rfl rfl rfl ?_
                  refine JL_skipU rfl rfl rfl ?_
                  refine JL_skipU rfl rfl rfl ?_
                  refine JL_skipU rfl rfl rfl ?_
                  refine JL_skipU rfl rfl rfl ?_
                  refine JL_skip rfl rfl rfl rfl ?_
                  refine JL_pd rfl (det_pick_t rfl rfl rfl) ?_
                  exact hj (by kernel_rfl) (stsub_consB rfl (by clear hj; first | rfl | (simp only [ngm, q2, q3, q4, q5, Bool.and_true, Bool.true_and, Bool.false_and, Bool.and_false, Bool.or_true, Bool.true_or, Bool.or_false, Bool.false_or, Bool.not_true, Bool.not_false]; done) | (simp [ngm, q2, q3, q4, q5]; done) | (simp [ngm] at q2; done) | (simp [ngm] at q3; done) | (simp [ngm] at q4; done) | (simp [ngm] at q5; done) | (simp [ngm, q2, q3, q4, q5] <;> omega) | (exfalso; simp [ngm] at q2 q3 q4 q5; omega) | (simp [q3, q4, q5, ngm] at q2; done) | (simp [q2, q4, q5, ngm] at q3; done) | (simp [q2, q3, q5, ngm] at q4; done) | (simp [q2, q3, q4, ngm] at q5; done)) stsub_nil)
                · refine JL_guard rfl rfl q5 ?_
                  refine JL_pd rfl (det_fieldAddr rfl fo_82_3) ?_
                  refine JL_guard rfl rfl q5 ?_
                  refine JL_dt rfl (det_loadK rfl Try.isAgg3 rfl) ?_
                  refine JL_guard rfl rfl q5 ?_
                  refine JL_step rfl rfl rfl (jo_callv rfl rfl Try.call37 rfl (gIn_j _ _ _)) fun _ => ?_
                  refine JL_guard rfl rfl q5 ?_
                  refine JL_pd rfl (det_not rfl) ?_
                  refine JL_pd rfl (det_pick_f rfl q5 rfl) ?_
                  refine JL_pd rfl (det_move rfl) ?_
                  refine JL_split (d0 := 60) rfl (fun q6 => ?_) (fun q6 => ?_)
                  · refine JL_skip rfl rfl q6 rfl ?_
                    refine JL_skip rfl rfl q6 rfl ?_
                    refine JL_skip rfl rfl q6 rfl ?_
                    refine JL_skipU rfl rfl rfl ?_
                    refine JL_skipU rfl rfl rfl ?_
                    refine JL_skipU rfl rfl rfl ?_
                    refine JL_skipU rfl rfl rfl ?_
                    refine JL_skipU rfl rfl rfl ?_
                    refine JL_skipU rfl rfl rfl ?_
                    refine JL_skip rfl rfl q6 rfl ?_
                    refine JL_pd rfl (det_pick_t rfl q6 rfl) ?_
                    exact hj (by kernel_rfl) (stsub_consB rfl (by clear hj; first | rfl | (simp only [ngm, q2, q3, q4, q5, q6, Bool.and_true, Bool.true_and, Bool.false_and, Bool.and_false, Bool.or_true, Bool.true_or, Bool.or_false, Bool.false_or, Bool.not_true, Bool.not_false]; done) | (simp [ngm, q2, q3, q4, q5, q6]; done) | (simp [ngm] at q2; done) | (simp [ngm] at q3; done) | (simp [ngm] at q4; done) | (simp [ngm] at q5; done) | (simp [ngm] at q6; done) | (simp [ngm, q2, q3, q4, q5, q6] <;> omega) | (exfalso; simp [ngm] at q2 q3 q4 q5 q6; omega) | (simp [q3, q4, q5, q6, ngm] at q2; done) | (simp [q2, q4, q5, q6, ngm] at q3; done) | (simp [q2, q3, q5, q6, ngm] at q4; done) | (simp [q2, q3, q4, q6, ngm] at q5; done) | (simp [q2, q3, q4, q5, ngm] at q6; done)) stsub_nil)
                  · refine JL_guard rfl rfl q6 ?_
                    refine JL_pd rfl (det_fieldAddr rfl fo_82_4) ?_
                    refine JL_guard rfl rfl q6 ?_
                    refine JL_dt rfl (det_loadK rfl Try.isAgg4 rfl) ?_
                    refine JL_guard rfl rfl q6 ?_
                    refine JL_pd rfl (det_move rfl) ?_
                    refine JL_split (d0 := 63) rfl (fun q7 => ?_) (fun q7 => ?_)
                    · refine JL_guard rfl rfl q7 ?_
                      refine JL_pd rfl (det_fieldAddr rfl fo_82_2) ?_
                      refine JL_guard rfl rfl q7 ?_
                      refine JL_dt rfl (det_loadK rfl Try.isAgg3 rfl) ?_
                      refine JL_guard rfl rfl q7 ?_
                      refine JL_pd rfl (det_fieldAddr rfl fo_82_3) ?_
                      refine JL_guard rfl rfl q7 ?_
                      refine JL_dt rfl (det_loadK rfl Try.isAgg3 rfl) ?_
                      refine JL_guard rfl rfl q7 ?_
                      refine JL_pd rfl (det_addR _ rfl rfl rfl) ?_
                      refine JL_guard rfl rfl q7 ?_
                      refine JL_pd rfl (det_gtr rfl rfl) ?_
                      refine JL_guard rfl rfl q6 ?_
                      refine JL_pd rfl (det_pick_t rfl q7 rfl) ?_
                      refine JL_pd rfl (det_pick_f rfl q6 rfl) ?_
                      exact hj (by kernel_rfl) (stsub_consB rfl (by clear hj; first | rfl | (simp only [ngm, q2, q3, q4, q5, q6, q7, Bool.and_true, Bool.true_and, Bool.false_and, Bool.and_false, Bool.or_true, Bool.true_or, Bool.or_false, Bool.false_or, Bool.not_true, Bool.not_false]; done) | (simp [ngm, q2, q3, q4, q5, q6, q7]; done) | (simp [ngm] at q2; done) | (simp [ngm] at q3; done) | (simp [ngm] at q4; done) | (simp [ngm] at q5; done) | (simp [ngm] at q6; done) | (simp [ngm] at q7; done) | (simp [ngm, q2, q3, q4, q5, q6, q7] <;> omega) | (exfalso; simp [ngm] at q2 q3 q4 q5 q6 q7; omega) | (simp [q3, q4, q5, q6, q7, ngm] at q2; done) | (simp [q2, q4, q5, q6, q7, ngm] at q3; done) | (simp [q2, q3, q5, q6, q7, ngm] at q4; done) | (simp [q2, q3, q4, q6, q7, ngm] at q5; done) | (simp [q2, q3, q4, q5, q7, ngm] at q6; done) | (simp [q2, q3, q4, q5, q6, ngm] at q7; done)) stsub_nil)
                    · refine JL_skip rfl rfl q7 rfl ?_
                      refine JL_skip rfl rfl q7 rfl ?_
                      refine JL_skip rfl rfl q7 rfl ?_
                      refine JL_skip rfl rfl q7 rfl ?_
                      refine JL_skip rfl rfl q7 rfl ?_
                      refine JL_skip rfl rfl q7 rfl ?_
                      refine JL_guard rfl rfl q6 ?_
                      refine JL_pd rfl (det_pick_f rfl q7 rfl) ?_
                      refine JL_pd rfl (det_pick_f rfl q6 rfl) ?_
                      exact hj (by kernel_rfl) (stsub_consB rfl (by clear hj; first | rfl | (simp only [ngm, q2, q3, q4, q5, q6, q7, Bool.and_true, Bool.true_and, Bool.false_and, Bool.and_false, Bool.or_true, Bool.true_or, Bool.or_false, Bool.false_or, Bool.not_true, Bool.not_false]; done) | (simp [ngm, q2, q3, q4, q5, q6, q7]; done) | (simp [ngm] at q2; done) | (simp [ngm] at q3; done) | (simp [ngm] at q4; done) | (simp [ngm] at q5; done) | (simp [ngm] at q6; done) | (simp [ngm] at q7; done) | (simp [ngm, q2, q3, q4, q5, q6, q7] <;> omega) | (exfalso; simp [ngm] at q2 q3 q4 q5 q6 q7; omega) | (simp [q3, q4, q5, q6, q7, ngm] at q2; done) | (simp [q2, q4, q5, q6, q7, ngm] at q3; done) | (simp [q2, q3, q5, q6, q7, ngm] at q4; done) | (simp [q2, q3, q4, q6, q7, ngm] at q5; done) | (simp [q2, q3, q4, q5, q7, ngm] at q6; done) | (simp [q2, q3, q4, q5, q6, ngm] at q7; done)) stsub_nil)
        refine JL_nil ?_
        refine JE_seq ?_
        -- stop: cond
        rw [ngm_eq]
        refine JC_cond rfl (fun h4 => ?_) (fun h4 => ?_)
        · rw [Bool.not_eq_true'] at h4
          refine JC_seq ?_
          refine JC_region ?_
          refine JL_pd rfl (det_assign rfl) ?_
          refine JL_nil ?_
          refine JE_seq ?_
          refine JC_ret ?_
          refine JE_block_ret ?_
          refine JE_seq_ret ?_
          refine JE_then_ret ?_
          refine JE_block_ret ?_
          refine JE_seq_ret ?_
          -- stop: out
          refine JE_out (.inl rfl) () (results1 Try.results13 (res_tmp rfl)) (by unfold lgE; rw [if_neg (by omega), if_pos (by rw [all_no' hi2 h4, Bool.and_false])]) (List.Perm.refl _) (fun _ _ => trivial)
        · rw [Bool.not_eq_false'] at h4
          refine JC_skip ?_
          refine JE_block ?_
          refine JE_seq ?_
          refine JC_region ?_
          refine JL_pd rfl (det_move rfl) ?_
          refine JL_pd rfl (det_add rfl rfl ⟨by omega, by omega⟩) ?_
          refine JL_pd rfl (det_assign rfl) ?_
          refine JL_nil ?_
          -- stop: end
          refine JE_roundF hK (i + 1) ⟨by omega, all_snoc' hi2 hall h4⟩ (by omega) (stsub_consI rfl (by omega) stsub_nil) ht_nil
      · obtain rfl : i = l.length := by omega
        rw [List.take_length] at hall
        refine JC_exit ?_
        refine JE_seq_exit ?_
        refine JE_then_exit ?_
        refine JE_block_here ?_
        refine JE_seq ?_
        refine JC_seq ?_
        refine JC_region ?_
        refine JL_pd rfl (det_assign rfl) ?_
        refine JL_nil ?_
        refine JE_seq ?_
        refine JC_ret ?_
        -- stop: out
        refine JE_out (.inl rfl) () (results1 Try.results13 (res_tmp rfl)) (by unfold lgE; rw [if_neg (by omega), if_neg (by rw [h2, hall]; decide)]) (List.Perm.refl _) (fun _ _ => trivial)
set_option maxRecDepth 100000 in
theorem gLeague_j (n : Int) (a : Option Addr) (c : Nat) (l : List Gm) (hl : l.length ≤ 1000) : Cr Try.prog 17 [.agg #[I n, .slice a l.length c]] (KSl a l.length c encG l) (fun q : Option Addr × Nat => .agg #[I n, .slice q.1 l.length q.2]) (fun q => KSl q.1 l.length q.2 encG l) := by
  refine Cx_of Try.func17 rfl Try.ntmps17 rfl fun w0 M0 => ?_
  refine JC_seq ?_
  refine JC_region ?_
  refine JL_step rfl rfl rfl (jo_box rfl rfl) fun b1 => ?_
  refine JL_step rfl rfl rfl (jo_alloc0 Try.zeroValue56 rfl) fun b2 => ?_
  refine JL_nil ?_
  refine JE_seq ?_
  refine JC_seq ?_
  refine JC_region ?_
  refine JL_pd rfl (det_fieldAddr rfl fo_47_0) ?_
  refine JL_dt rfl (det_loadK rfl Try.isAgg3 rfl) ?_
  refine JL_pd rfl (det_build rfl (bld_56_0 _)) ?_
  refine JL_step rfl rfl rfl (jo_alloc0 Try.zeroValue56 rfl) fun b3 => ?_
  refine JL_step0 rfl rfl (jo_store rfl rfl rfl (by first | (simp only [splice_norm]; done) | (simp only [splice_norm]; rfl) | rfl) Try.sizeOf56 rfl rfl) fun _ => ?_
  refine JL_nil ?_
  refine JE_seq ?_
  refine JC_seq ?_
  refine JC_seq ?_
  refine JC_region ?_
  refine JL_pd rfl (det_assign rfl) ?_
  refine JL_nil ?_
  refine JE_seq ?_
  refine JC_block ?_
  -- stop: loop
  refine JC_nil 92 5 ?_
  refine JC_loopF (γ := Nat × Value) (fun q => q.1 ≤ l.length) (fun q => [(4, I q.1)]) (fun q => [bx b3 [I n, q.2], ow q.2 92 5 (l.take q.1).length ((l.take q.1).flatMap encG)]) (fun q => l.length - q.1) (0, .slice none 0 0) (Nat.zero_le _) (stsub_consI rfl rfl stsub_nil) (ht_bx rfl (ht_ow rfl rfl ht_nil)) ?_
  rintro ⟨i, v⟩ hi K hK
  dsimp only [List.cons_append, List.nil_append] at hi ⊢
  have hln : (l.take i).length = i := by rw [List.length_take]; omega
  refine JC_seq ?_
  refine JC_seq ?_
  refine JC_region ?_
  refine JL_pd rfl (det_move rfl) ?_
  refine JL_pd rfl (det_fieldAddr rfl fo_47_1) ?_
  refine JL_dt rfl (det_loadK rfl Try.isAgg45 rfl) ?_
  refine JL_pd rfl (det_len rfl Try.runUnderlying45) ?_
  refine JL_pd rfl (det_lss rfl rfl) ?_
  refine JL_nil ?_
  refine JE_seq ?_
  -- stop: cond
  refine JC_if rfl (fun h1 => ?_) (fun h1 => ?_)
  · have hi2 : i < l.length := by omega
    refine JC_skip ?_
    refine JE_seq ?_
    refine JC_seq ?_
    refine JC_block ?_
    refine JC_seq ?_
    refine JC_region ?_
    refine JL_pd rfl (det_fieldAddr rfl fo_47_1) ?_
    refine JL_dt rfl (det_loadK rfl Try.isAgg45 rfl) ?_
    refine JL_pd rfl (det_move rfl) ?_
    refine JL_dt rfl (det_indexAddr rfl rfl (by first | rfl | omega) (by first | assumption | omega | decide) Try.runUnderlying45 Try.sizeOf82) ?_
    refine JL_dt rfl (det_loadEA rfl (by first | assumption | omega | decide) Try.isAgg82 Try.sizeOf82 rfl rfl rfl) ?_
    refine JL_step rfl rfl rfl (jo_alloc0 Try.zeroValue82 rfl) fun b5 => ?_
    refine JL_step0 rfl rfl (jo_store rfl rfl rfl (by first | (simp only [splice_norm]; done) | (simp only [splice_norm]; rfl) | rfl) Try.sizeOf82 rfl rfl) fun _ => ?_
    refine JL_nil ?_
    refine JE_seq ?_
    refine JC_region ?_
    refine JL_pd rfl (det_fieldAddr rfl fo_56_1) ?_
    refine JL_dt rfl (det_loadK rfl Try.isAgg54 rfl) ?_
    refine JL_pd rfl (det_fieldAddr rfl fo_82_0) ?_
    refine JL_dt rfl (det_loadK rfl Try.isAgg3 rfl) ?_
    refine JL_pd rfl (det_fieldAddr rfl fo_82_1) ?_
    refine JL_dt rfl (det_loadK rfl Try.isAgg3 rfl) ?_
    refine JL_pd rfl (det_fieldAddr rfl fo_82_2) ?_
    refine JL_dt rfl (det_loadK rfl Try.isAgg3 rfl) ?_
    refine JL_pd rfl (det_fieldAddr rfl fo_82_3) ?_
    refine JL_dt rfl (det_loadK rfl Try.isAgg3 rfl) ?_
    refine JL_pd rfl (det_fieldAddr rfl fo_82_4) ?_
    refine JL_dt rfl (det_loadK rfl Try.isAgg4 rfl) ?_
    refine JL_pd rfl (det_build rfl (bld_92_0_1_2_3_4 _ _ _ _ _)) ?_
    refine JL_step rfl rfl rfl (jo_buildSlice rfl (bsl_54_1_0 _ _ _ _ _)) fun b34 => ?_
    refine JL_step rfl rfl rfl (jo_append el_54 rfl rfl rfl rfl (by omega)) fun b35 => ?_
    refine JL_pd rfl (det_fieldAddr rfl fo_56_1) ?_
    refine JL_step0 rfl rfl (jo_store rfl rfl rfl (by first | (simp only [splice_norm]; done) | (simp only [splice_norm]; rfl) | rfl) Try.sizeOf54 rfl rfl) fun _ => ?_
    refine JL_nil ?_
    refine JE_block ?_
    refine JE_seq ?_
    refine JC_region ?_
    refine JL_pd rfl (det_move rfl) ?_
    refine JL_pd rfl (det_add rfl rfl ⟨by omega, by omega⟩) ?_
    refine JL_pd rfl (det_assign rfl) ?_
    refine JL_nil ?_
    -- stop: end
    refine JE_roundF hK (i + 1, .slice (some ⟨b35.1, 0, none⟩) ((l.take i).length + 1) b35.2) (by simp only; omega) (by simp only; omega) (stsub_consI rfl (by simp only; omega) stsub_nil) (ht_bx rfl (ht_ow (snoc_len' hi2) (snoc_flat' encG hi2) ht_nil))
  · obtain rfl : i = l.length := by omega
    rw [List.take_length]
    refine JC_slice (enc := encG) (v := v) l noFp rfl rfl ?_
    rintro av cv rfl
    refine JC_exit ?_
    refine JE_seq_exit ?_
    refine JE_then_exit ?_
    refine JE_block_here ?_
    refine JE_seq ?_
    refine JC_seq ?_
    refine JC_region ?_
    refine JL_dt rfl (det_loadKA rfl Try.isAgg56 Try.sizeOf56 rfl rfl) ?_
    refine JL_step0 rfl rfl (jo_store rfl rfl rfl (by first | (simp only [splice_norm]; done) | (simp only [splice_norm]; rfl) | rfl) Try.sizeOf56 rfl rfl) fun _ => ?_
    refine JL_nil ?_
    refine JE_seq ?_
    refine JC_ret ?_
    -- stop: out
    refine JE_out (.inl rfl) (av, cv) (results1 Try.results17 (res_box rfl Try.isAgg56 Try.sizeOf56 rfl)) rfl (List.Perm.refl _) (fun w h => h.1)
end Go.Proofs.Ythpkgabckklojaa.Bl

/- Plain: points behind outcomes, and shares by them. -/
namespace Go.Proofs.Ythpkgabckklojaa.Bl
open Go.RowKit Go.Shelf

theorem sum_add {m : Nat} (f g : Nat → Int) : ((List.range m).map fun t => f t + g t).sum = ((List.range m).map f).sum + ((List.range m).map g).sum := by
  induction m with
  | zero => rfl
  | succ m ih => simp only [List.range_succ, List.map_append, List.sum_append, ih, List.map_cons, List.map_nil, List.sum_cons, List.sum_nil]; omega
theorem sum_zero {m : Nat} : ((List.range m).map fun _ => (0 : Int)).sum = 0 := by
  induction m with
  | zero => rfl
  | succ m ih => simp only [List.range_succ, List.map_append, List.sum_append, ih, List.map_cons, List.map_nil, List.sum_cons, List.sum_nil]; omega
theorem sum_one {m : Nat} (a x : Int) (h0 : 0 ≤ a) (h1 : a < m) : ((List.range m).map fun (t : Nat) => if a = (t : Int) then x else 0).sum = x := by
  induction m with
  | zero => omega
  | succ m ih =>
    simp only [List.range_succ, List.map_append, List.sum_append, List.map_cons, List.map_nil, List.sum_cons, List.sum_nil]
    by_cases h : a = (m : Int)
    · rw [if_pos h]
      have e : ((List.range m).map fun (t : Nat) => if a = (t : Int) then x else 0) = (List.range m).map fun _ => 0 := List.map_congr_left fun t ht => if_neg (by have := List.mem_range.1 ht; omega)
      rw [e, sum_zero]; omega
    · rw [if_neg h, ih (by omega)]; omega
theorem pt_sum {n : Int} {g : Gm} (V : VGm n g) : ((List.range n.toNat).map (ptG g)).sum = if g.op = true then 0 else 2 := by
  have h1 := V.a0
  have h2 := V.a1
  have h3 := V.b0
  have h4 := V.b1
  unfold ptG
  rw [sum_add, sum_one _ _ h1 (by omega), sum_one _ _ h3 (by omega)]
  unfold gv1 gv2
  split
  · rfl
  · split
    · rfl
    · split <;> rfl
theorem oc_sum {n : Int} {g : Gm} (V : VGm n g) (o : Int) : ((List.range n.toNat).map (ocG (g, o))).sum = 2 := by
  have h1 := V.a0
  have h2 := V.a1
  have h3 := V.b0
  have h4 := V.b1
  unfold ocG
  rw [sum_add, sum_one _ _ h1 (by omega), sum_one _ _ h3 (by omega)]
  show 3 - o + (o - 1) = 2
  omega
theorem sumF_sum {n : Int} (l : List Gm) (V : ∀ g ∈ l, VGm n g) : ((List.range n.toNat).map (sumF l)).sum = 2 * (l.length : Int) - 2 * ((opnL l).length : Int) := by
  induction l with
  | nil => exact sum_zero
  | cons g l ih =>
    have e : sumF (g :: l) = fun t => ptG g t + sumF l t := by funext t; simp [sumF]
    rw [e, sum_add, pt_sum (V g (by simp)), ih fun x hx => V x (by simp [hx])]
    cases hg : g.op
    · have e2 : opnL (g :: l) = opnL l := by simp [opnL, keptF, hg]
      rw [e2, List.length_cons, if_neg (by decide)]; omega
    · have e2 : opnL (g :: l) = g :: opnL l := by simp [opnL, keptF, hg]
      rw [e2, List.length_cons, List.length_cons, if_pos rfl]; omega
theorem oF_sum {n : Int} (z : List (Gm × Int)) (V : ∀ q ∈ z, VGm n q.1) : ((List.range n.toNat).map (oF z)).sum = 2 * (z.length : Int) := by
  induction z with
  | nil => exact sum_zero
  | cons q z ih =>
    have e : oF (q :: z) = fun t => ocG q t + oF z t := by funext t; simp [oF]
    rw [e, sum_add, show q = (q.1, q.2) from rfl, oc_sum (V q (by simp)), ih fun x hx => V x (by simp [hx]), List.length_cons]; omega
theorem aft_sum {n : Int} {l : List Gm} (V : VL n l) {os : List Int} (ho : os.length = (opnL l).length) : (ptsL n (aftF l ((opnL l).zip os))).sum = 2 * (l.length : Int) := by
  have e : ptsL n (aftF l ((opnL l).zip os)) = (List.range n.toNat).map fun t => sumF l t + oF ((opnL l).zip os) t := rfl
  have h2 := oF_sum (n := n) ((opnL l).zip os) (fun q hq => V.g _ (List.mem_filter.1 (List.of_mem_zip (show (q.1, q.2) ∈ _ from hq)).1).1)
  rw [List.length_zip, ho, Nat.min_self] at h2
  rw [e, sum_add, sumF_sum l V.g, h2]; omega
theorem oF_rc : ∀ (gs : List Gm) (os : List Int), (∀ g ∈ gs, g.a ≠ g.b) → (∀ o ∈ os, 1 ≤ o ∧ o ≤ 3) → ∀ t, oF (gs.zip os) t ≤ rcF gs t
  | [], os, _, _, t => by simp [oF, rcF]
  | g :: gs, [], _, _, t => by
    have h := rcF_bd (g :: gs) t
    have e : oF ((g :: gs).zip []) t = 0 := by simp [oF]
    omega
  | g :: gs, o :: os, hg, ho, t => by
    have h := oF_rc gs os (fun x hx => hg x (by simp [hx])) (fun x hx => ho x (by simp [hx])) t
    have e1 : oF ((g :: gs).zip (o :: os)) t = ocG (g, o) t + oF (gs.zip os) t := by simp [oF]
    have e2 : rcF (g :: gs) t = rcG g t + rcF gs t := by simp [rcF]
    have hne := hg g (by simp)
    have hob := ho o (by simp)
    have h3 : ocG (g, o) t ≤ rcG g t := by
      unfold ocG rcG
      show (if g.a = (t : Int) then 3 - o else 0) + (if g.b = (t : Int) then o - 1 else 0) ≤ _
      by_cases h1 : g.a = (t : Int)
      · rw [if_pos h1, if_neg (by omega), if_pos (.inl h1)]; omega
      · rw [if_neg h1]
        by_cases h2 : g.b = (t : Int)
        · rw [if_pos h2, if_pos (.inr h2)]; omega
        · rw [if_neg h2, if_neg (by omega)]; omega
    omega
theorem aft_bd {n : Int} {l : List Gm} (V : VL n l) {os : List Int} (ho : os.length = (opnL l).length) (hos : ∀ o ∈ os, 1 ≤ o ∧ o ≤ 3) (t : Nat) : sumF l t ≤ aftF l ((opnL l).zip os) t ∧ aftF l ((opnL l).zip os) t ≤ rchF l t ∧ 0 ≤ aftF l ((opnL l).zip os) t ∧ aftF l ((opnL l).zip os) t ≤ 80 := by
  have hol : (opnL l).length ≤ l.length := List.length_filter_le _ _
  have hl := V.l1
  have h1 := sumF_bd l t
  have h2 := oF_bd ((opnL l).zip os) (fun q hq => hos _ (List.of_mem_zip (show (q.1, q.2) ∈ _ from hq)).2) t
  have h3 := oF_rc (opnL l) os (fun g hg => (V.g _ (List.mem_filter.1 hg).1).ne) hos t
  rw [List.length_zip, ho, Nat.min_self] at h2
  unfold aftF rchF
  refine ⟨by omega, by omega, by omega, by omega⟩
theorem aft_sure {n : Int} {l : List Gm} (V : VL n l) {os : List Int} (ho : os.length = (opnL l).length) (hos : ∀ o ∈ os, 1 ≤ o ∧ o ≤ 3) {t : Nat} (hs : surF n.toNat l t = true) (o : Nat) (h : o < n.toNat) : aftF l ((opnL l).zip os) o ≤ aftF l ((opnL l).zip os) t := by
  have h1 := aft_bd V ho hos t
  have h2 := aft_bd V ho hos o
  rcases sur_iff.1 hs o h with rfl | h3
  · exact Int.le_refl _
  · omega
theorem ptsL_get {n : Int} {f : Nat → Int} {i : Nat} (h : i < (ptsL n f).length) : (ptsL n f)[i] = f i := by simp [ptsL]
theorem share_ok {n : Int} {l : List Gm} (V : VL n l) (hne : l ≠ []) {os : List Int} (ho : os.length = (opnL l).length) (hos : ∀ o ∈ os, 1 ≤ o ∧ o ≤ 3) {prize : Int} (hp : 0 ≤ prize ∧ prize ≤ 65535) : shareE prize (ptsL n (aftF l ((opnL l).zip os))) = 0 := by
  have hn0 := V.n0
  have hn1 := V.n1
  have hlen := ptsL_len n (aftF l ((opnL l).zip os))
  have hl : 0 < l.length := List.length_pos_iff.2 hne
  unfold shareE
  rw [if_neg (by omega), if_neg, if_neg (by rw [aft_sum V ho]; omega)]
  rw [inI_iff.2 ⟨by omega, by omega⟩, Bool.true_and, Bool.not_eq_false, List.all_eq_true]
  intro x hx
  obtain ⟨i, hi, rfl⟩ := List.getElem_of_mem hx
  rw [ptsL_get hi]
  have := aft_bd V ho hos i
  exact inI_iff.2 ⟨by omega, by omega⟩
/-- Who has no fewer points has no coin less, but one. -/
theorem share_le {sum : Int} {ws : List Int} (V : VSh sum ws) (hW : ws.sum ≠ 0) (i k : Nat) (hi : i < ws.length) (hk : k < ws.length) (h : ws[i] ≤ ws[k]) : paidV sum ws (i + 1) - paidV sum ws i ≤ paidV sum ws (k + 1) - paidV sum ws k + 1 := by
  have h1 := paid_up V hW i hi
  have h2 := paid_up V hW k hk
  have hb := sum_bd ws V.w
  have hm : sum * ws[i] ≤ sum * ws[k] := Int.mul_le_mul_of_nonneg_left h V.s0
  generalize paidV sum ws (i + 1) - paidV sum ws i = x at h1 ⊢
  generalize paidV sum ws (k + 1) - paidV sum ws k = y at h2 ⊢
  have h3 : x * ws.sum < (y + 2) * ws.sum := by
    rw [Int.add_mul]
    omega
  have := Int.lt_of_mul_lt_mul_right h3 hb.1
  omega
end Go.Proofs.Ythpkgabckklojaa.Bl
