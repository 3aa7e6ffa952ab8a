/- The statement TopStruck: one ball that goes straight, and one pin. -/
import Derived.Test.YthpkgabckklojaaGreatKG
set_option linter.unusedSimpArgs false
set_option linter.unusedVariables false
namespace Go.Proofs.YthpkgabckklojaaGreat.Rk
open Go.RowKit Go.Shelf

abbrev sL : La := ⟨9, 2, [⟨0, 0⟩], []⟩
theorem sReach_j (ha : Option Addr) (hc : Nat) : Cr Tryz.prog 16 [.agg #[I 9, I 2, .slice ha 1 hc, .slice none 0 0], .agg #[I 3, I 1], I 1] (KSl ha 1 hc encRg [⟨0, 0⟩]) (fun q : Option Addr × Nat => .tuple #[.slice q.1 1 q.2, .int .u8 0, I 0]) (fun q => KSl q.1 1 q.2 encSt [⟨4, 1⟩]) := by
  have h := Reach_jo sL ⟨3, 1⟩ 1 ha none hc 0 (by decide +kernel) (by decide)
  rw [show rowL sL ⟨3, 1⟩ 1 = [⟨4, 1⟩] by decide +kernel, show rowV sL ⟨3, 1⟩ 1 = 0 by decide +kernel] at h
  exact h.mono (fun w hw => ⟨hw, KSl_none w⟩) fun _ _ h => h
abbrev sR : Rk := ⟨1, 4, 1, 0, []⟩
theorem sR_v : VR sR := vr_of (by decide +kernel)
theorem sHit_z (q : HitQ sR (ofL [0]) [4] []) : lsP (ofL [0] &&& ~~~ q.1.1) = [] := by
  have h1 : q.1.1.getLsbD 0 = true := (q.1.2 0 (by decide)).2 (.base (by decide +kernel))
  have h2 : ∀ i, i < 10 → (ofL [0]).getLsbD i = true → i = 0 := by decide +kernel
  refine List.eq_nil_iff_forall_not_mem.2 fun i hi => ?_
  obtain ⟨a, b⟩ := lsP_mem.1 hi
  rw [BitVec.getLsbD_and, Bool.and_eq_true] at b
  have h3 := h2 i a b.1
  subst h3
  rw [BitVec.getLsbD_not, h1] at b
  exact absurd b.2 (by decide)
theorem sHit_j (p b o : Nat) : Cr Tryz.prog 19 [.agg #[I 1, I 4, I 1, I 0, .slice none 0 0], .slice (some ⟨p, 0, none⟩) 1 1, .slice (some ⟨b, 0, none⟩) 1 1, .slice (some ⟨o, 0, none⟩) 1 1, .slice none 0 0] (KAnd (KSl (some ⟨p, 0, none⟩) 1 1 encN [0]) (KAnd (KSl (some ⟨b, 0, none⟩) 1 1 encRg [⟨4, 4⟩]) (KSl (some ⟨o, 0, none⟩) 1 1 encN [4])))
    (fun q : HitQ sR (ofL [0]) [4] [] => .tuple #[.slice q.2.1 0 q.2.2, I 0]) (fun _ => KTrue) := by
  have h := Hit_j sR none 0 sR_v (some ⟨p, 0, none⟩) 1 [0] ⟨by decide, by decide⟩ (some ⟨b, 0, none⟩) 1 [⟨4, 4⟩] ⟨by decide, by decide⟩ (some ⟨o, 0, none⟩) 1 [4] none 0 [] ⟨rfl, fun i h1 h2 => (by
    obtain rfl : i = 0 := by simpa using h1
    show (4 : Int) ≤ 4 ∧ (4 : Int) ≤ 4
    decide), rfl, fun k h => absurd h (Nat.not_lt_zero k)⟩
  refine Cr.conv (h.mono (fun w hw => ⟨KSl_none w, hw.1, hw.2.1, hw.2.2, KSl_none w⟩) fun _ _ h => h) (fun q => ?_) fun _ _ _ => trivial
  rw [sHit_z q]; rfl
set_option maxRecDepth 100000 in
set_option maxHeartbeats 1000000 in
theorem struck_j : Cv Tryz.prog 11 [] KTrue (.bool true) := by
  refine Cx_of Tryz.func11 rfl Tryz.ntmps11 rfl fun w0 M0 => ?_
  refine JC_seq ?_
  refine JC_region ?_
  refine JL_pd rfl (det_assign rfl) ?_
  refine JL_nil ?_
  refine JE_seq ?_
  refine JC_seq ?_
  refine JC_region ?_
  refine JL_pd rfl (det_build rfl (bld_112)) ?_
  refine JL_step rfl rfl rfl (jo_buildSlice rfl (bsl_44_1_0 _ _)) fun b8 => ?_
  refine JL_pd rfl (det_build rfl (bld_47_0_1_2 _ _ _ _ _)) ?_
  refine JL_pd rfl (det_build rfl (bld_49_0_1 _ _)) ?_
  refine JL_lit (enc := encRg) b8 1 [⟨0, 0⟩] noFp rfl rfl (by decide) ?_
  refine JL_step rfl rfl rfl (jo_call rfl rfl Tryz.call16 rfl (sReach_j (some ⟨b8, 0, none⟩) 1)) fun x11 => ?_
  refine JL_pd rfl (det_move rfl) ?_
  refine JL_pd rfl (det_extract rfl rfl) ?_
  refine JL_pd rfl (det_extract rfl rfl) ?_
  refine JL_pd rfl (det_extract rfl rfl) ?_
  refine JL_pd rfl (det_assign rfl) ?_
  refine JL_pd rfl (det_assign rfl) ?_
  refine JL_pd rfl (det_assign rfl) ?_
  refine JL_nil ?_
  refine JE_seq ?_
  refine JC_seq ?_
  refine JC_region ?_
  refine JL_pd rfl (det_build rfl (bld_65_0_1_2 _ _ _)) ?_
  refine JL_step rfl rfl rfl (jo_buildSlice rfl (bsl_31_1_0 _)) fun b17 => ?_
  refine JL_pd rfl (det_build rfl (bld_71_0_1 _ _)) ?_
  refine JL_step rfl rfl rfl (jo_buildSlice rfl (bsl_67_1_0 _ _)) fun b19 => ?_
  refine JL_step rfl rfl rfl (jo_buildSlice rfl (bsl_31_1_0 _)) fun b20 => ?_
  refine JL_lit (enc := encN) b17 1 [0] noFp rfl rfl (by decide) ?_
  refine JL_lit (enc := encRg) b19 1 [⟨4, 4⟩] noFp rfl rfl (by decide) ?_
  refine JL_lit (enc := encN) b20 1 [4] noFp rfl rfl (by decide) ?_
  refine JL_step rfl rfl rfl (jo_call rfl rfl Tryz.call19 rfl (sHit_j b17 b19 b20)) fun x21 => ?_
  refine JL_pd rfl (det_move rfl) ?_
  refine JL_pd rfl (det_extract rfl rfl) ?_
  refine JL_pd rfl (det_extract rfl rfl) ?_
  refine JL_pd rfl (det_assign rfl) ?_
  refine JL_pd rfl (det_assign rfl) ?_
  refine JL_nil ?_
  refine JE_seq ?_
  refine JC_seq ?_
  refine JC_region ?_
  refine JL_pd rfl (det_move rfl) ?_
  refine JL_pd rfl (det_eql rfl rfl) ?_
  refine JL_pd rfl (det_move rfl) ?_
  -- stop: guard 2
  refine JL_is (d0 := 26) true rfl (by (first | rfl | decide)) (fun h1 => ?_)
  refine JL_guard rfl rfl h1 ?_
  refine JL_pd rfl (det_move rfl) ?_
  refine JL_guard rfl rfl h1 ?_
  refine JL_pd rfl (det_eql rfl rfl) ?_
  refine JL_pd rfl (det_pick_t rfl h1 rfl) ?_
  refine JL_pd rfl (det_move rfl) ?_
  refine JL_is (d0 := 30) true rfl (by (first | rfl | decide)) (fun h2 => ?_)
  refine JL_guard rfl rfl h2 ?_
  refine JL_pd rfl (det_move rfl) ?_
  refine JL_guard rfl rfl h2 ?_
  refine JL_pd rfl (det_len rfl Tryz.runUnderlying40) ?_
  refine JL_guard rfl rfl h2 ?_
  refine JL_pd rfl (det_eql rfl rfl) ?_
  refine JL_pd rfl (det_pick_t rfl h2 rfl) ?_
  refine JL_pd rfl (det_move rfl) ?_
  refine JL_is (d0 := 35) true rfl (by (first | rfl | decide)) (fun h3 => ?_)
  refine JL_guard rfl rfl h3 ?_
  refine JL_pd rfl (det_move rfl) ?_
  refine JL_guard rfl rfl h3 ?_
  refine JL_dt rfl (det_indexAddr (n := 1) (i := 0) rfl rfl rfl (by decide) Tryz.runUnderlying40 Tryz.sizeOf49) ?_
  refine JL_guard rfl rfl h3 ?_
  refine JL_dt rfl (det_loadEA (n := 1) (i := 0) (xs := [(⟨4, 1⟩ : St)]) rfl (by decide) Tryz.isAgg49 Tryz.sizeOf49 rfl rfl rfl) ?_
  refine JL_guard rfl rfl h3 ?_
  refine JL_pd rfl (det_build rfl (bld_49_0_1 _ _)) ?_
  refine JL_guard rfl rfl h3 ?_
  refine JL_pd rfl (det_eqlA rfl rfl egt_49 (eqa_49 _ _ _ _)) ?_
  refine JL_pd rfl (det_pick_t rfl h3 rfl) ?_
  refine JL_pd rfl (det_move rfl) ?_
  refine JL_is (d0 := 42) true rfl (by (first | rfl | decide)) (fun h4 => ?_)
  refine JL_guard rfl rfl h4 ?_
  refine JL_pd rfl (det_move rfl) ?_
  refine JL_guard rfl rfl h4 ?_
  refine JL_pd rfl (det_eql rfl rfl) ?_
  refine JL_pd rfl (det_pick_t rfl h4 rfl) ?_
  refine JL_pd rfl (det_move rfl) ?_
  refine JL_is (d0 := 46) true rfl (by (first | rfl | decide)) (fun h5 => ?_)
  refine JL_guard rfl rfl h5 ?_
  refine JL_pd rfl (det_move rfl) ?_
  refine JL_guard rfl rfl h5 ?_
  refine JL_pd rfl (det_len rfl Tryz.runUnderlying31) ?_
  refine JL_guard rfl rfl h5 ?_
  refine JL_pd rfl (det_eql rfl rfl) ?_
  refine JL_pd rfl (det_pick_t rfl h5 rfl) ?_
  refine JL_pd rfl (det_assign rfl) ?_
  refine JL_nil ?_
  refine JE_seq ?_
  refine JC_ret ?_
  refine JE_out (.inl rfl) () (results1 Tryz.results11 (res_tmp rfl)) ?_ (List.Perm.refl _) (fun _ _ => trivial)
  rfl
end Go.Proofs.YthpkgabckklojaaGreat.Rk
