/- The statements about cycle: CycleNames. -/
import Derived.Test.YtgbfjcgjcnndpaaC32
import Derived.Test.YtgbfjcgjcnndpaaB9
set_option linter.unusedSimpArgs false
set_option linter.unusedVariables false
namespace Go.Proofs.Ytgbfjcgjcnndpaa
open Go.RowKit Go.Shelf

/-- The machine of the examples, in memory of one's own. -/
theorem setter_own : Cx Try.prog 49 [] [] KTrue (fun q : Nat × Nat × Nat => .agg #[I 3, .slice (some ⟨q.1, 0, none⟩) 3 3, .slice (some ⟨q.2.1, 0, none⟩) 2 2, .slice (some ⟨q.2.2, 0, none⟩) 2 2])
    (fun q => [ow (.slice (some ⟨q.2.2, 0, none⟩) 2 2) 62 2 2 [I 0, I 2, I 6, I 1], ow (.slice (some ⟨q.2.1, 0, none⟩) 2 2) 3 1 2 [I 1, I 2], ow (.slice (some ⟨q.1, 0, none⟩) 3 3) 94 3 3 [I 0, I 1, I 0, I 1, I 2, I 1, I 2, I 0, I 2]]) (fun _ => KTrue) := by
  refine Cx_of Try.func49 rfl Try.ntmps49 rfl fun w0 M0 => ?_
  refine JC_seq ?_
  refine JC_region ?_
  refine JL_step rfl rfl rfl (jo_alloc0 Try.zeroValue34 rfl) fun b0 => ?_
  refine JL_nil ?_
  refine JE_seq ?_
  refine JC_seq ?_
  refine JC_region ?_
  refine JL_pd rfl (det_build rfl (bld_94_0_1_2 _ _ _)) ?_
  refine JL_pd rfl (det_build rfl (bld_94_0_1_2 _ _ _)) ?_
  refine JL_pd rfl (det_build rfl (bld_94_0_1_2 _ _ _)) ?_
  refine JL_step rfl rfl rfl (jo_buildOwn (z := 3) rfl (bsl_31_3_0_1_2 _ _ _ _ _ _ _ _ _) rfl (by decide)) fun b4 => ?_
  refine JL_step rfl rfl rfl (jo_buildOwn (z := 1) rfl (bsl_23_2_0_1 _ _) rfl (by decide)) fun b5 => ?_
  refine JL_pd rfl (det_build rfl (bld_62_0_1 _ _)) ?_
  refine JL_pd rfl (det_build rfl (bld_62_0_1 _ _)) ?_
  refine JL_step rfl rfl rfl (jo_buildOwn (z := 2) rfl (bsl_32_2_0_1 _ _ _ _) rfl (by decide)) fun b8 => ?_
  refine JL_pd rfl (det_build rfl (bld_34_0_1_2_3 _ _ _ _ _ _ _ _ _ _)) ?_
  refine JL_step0 rfl rfl (jo_store rfl rfl rfl (by first | (simp only [splice_norm]; done) | (simp only [splice_norm]; rfl) | rfl) Try.sizeOf34 rfl rfl) fun _ => ?_
  refine JL_nil ?_
  refine JE_seq ?_
  refine JC_ret ?_
  -- stop: out
  refine JE_out (.inl rfl) (b4, b5, b8) (results1 Try.results49 (res_box rfl Try.isAgg34 Try.sizeOf34 rfl)) rfl (List.Perm.refl _) (fun _ _ => trivial)
abbrev safeM : Mc := ⟨3, setM.steps, [1, 2], [⟨0, 2⟩, ⟨6, 1⟩, ⟨6, 2⟩]⟩
abbrev lostM : Mc := ⟨1, [], [0], []⟩
abbrev oddM : Mc := ⟨3, setM.steps, [1, 2], [⟨0, 3⟩, ⟨6, 1⟩]⟩
abbrev farM : Mc := ⟨3, [⟨0, 3, 0⟩, ⟨1, 2, 1⟩, ⟨2, 0, 2⟩], [1, 2], setM.locks⟩
abbrev downM : Mc := ⟨3, setM.steps, [2, 1], setM.locks⟩
theorem nm_way1 : wayRes setM ⟨1, 1⟩ = (0, [6, 0]) := by decide +kernel
theorem nm_way0 : wayRes setM ⟨0, 0⟩ = (0, []) := by decide +kernel
theorem nm_way9 : wayRes setM ⟨1, 2⟩ = (9, []) := by decide +kernel
theorem nm_way2 : wayRes setM ⟨3, 0⟩ = (2, []) := by decide +kernel
theorem nm_ends : standsW (endsW setM [2] 1) = [] := by decide +kernel
theorem nm_safe : dangRes safeM = (7, []) := by decide +kernel
theorem nm_run1 : inW (runW setM [0, 1, 6, 6]) ⟨2, 2⟩ = true := by decide +kernel
theorem nm_run2 : inW (runW safeM [0, 1, 6, 6]) ⟨2, 2⟩ = false := by decide +kernel
theorem nm_lost : locksR lostM = [] ∧ locksE lostM = 9 := by decide +kernel
theorem nm_f0 : fault setM = 0 ∧ fault safeM = 0 ∧ fault lostM = 0 ∧ fault oddM = 1 ∧ fault farM = 1 ∧ fault downM = 1 ∧ fault ⟨0, [], [], []⟩ = 1 := by decide +kernel
theorem nm_f25 : fault ⟨1, List.replicate 25 ⟨0, 0, 0⟩, [], []⟩ = 3 ∧ fault ⟨1, [], [], List.replicate 41 ⟨0, 0⟩⟩ = 3 := by decide +kernel
theorem nmWay1_j (b : MA) : Cr Try.prog 44 [.agg #[I setM.states, .slice b.sa setM.steps.length b.sc, .slice b.ra setM.running.length b.rc, .slice b.ka setM.locks.length b.kc], .agg #[I 1, I 1]] (KMc setM b) (fun q : Option Addr × Nat => .tuple #[.slice q.1 2 q.2, I 0]) (fun q => KSl q.1 2 q.2 encI [6, 0]) := by
  have h := Way_j setM b ⟨1, 1⟩
  rw [nm_way1] at h
  exact h
theorem nmWay0_j (b : MA) : Cr Try.prog 44 [.agg #[I setM.states, .slice b.sa setM.steps.length b.sc, .slice b.ra setM.running.length b.rc, .slice b.ka setM.locks.length b.kc], .agg #[I 0, I 0]] (KMc setM b) (fun q : Option Addr × Nat => .tuple #[.slice q.1 0 q.2, I 0]) (fun q => KSl q.1 0 q.2 encI []) := by
  have h := Way_j setM b ⟨0, 0⟩
  rw [nm_way0] at h
  exact h
theorem nmWay9_j (b : MA) : Cr Try.prog 44 [.agg #[I setM.states, .slice b.sa setM.steps.length b.sc, .slice b.ra setM.running.length b.rc, .slice b.ka setM.locks.length b.kc], .agg #[I 1, I 2]] (KMc setM b) (fun q : Option Addr × Nat => .tuple #[.slice q.1 0 q.2, I 9]) (fun q => KSl q.1 0 q.2 encI []) := by
  have h := Way_j setM b ⟨1, 2⟩
  rw [nm_way9] at h
  exact h
theorem nmWay2_j (b : MA) : Cr Try.prog 44 [.agg #[I setM.states, .slice b.sa setM.steps.length b.sc, .slice b.ra setM.running.length b.rc, .slice b.ka setM.locks.length b.kc], .agg #[I 3, I 0]] (KMc setM b) (fun q : Option Addr × Nat => .tuple #[.slice q.1 0 q.2, I 2]) (fun q => KSl q.1 0 q.2 encI []) := by
  have h := Way_j setM b ⟨3, 0⟩
  rw [nm_way2] at h
  exact h
theorem nmEnds_j (b : MA) (sa : Option Addr) (sc : Nat) : Cr Try.prog 34 [.agg #[I setM.states, .slice b.sa setM.steps.length b.sc, .slice b.ra setM.running.length b.rc, .slice b.ka setM.locks.length b.kc], .slice sa 1 sc, I 1] (KAnd (KMc setM b) (KSl sa 1 sc encI [2])) (fun q : Option Addr × Nat => .tuple #[.slice q.1 0 q.2, I 11]) (fun q => KSl q.1 0 q.2 encSd []) := by
  have h := Ends_jo setM b 1 sa sc [2] nm_f0.1 (by decide) (by decide) (by decide)
  rw [nm_ends, if_pos rfl] at h
  exact h
theorem nmEndsL_j (b : MA) (sa : Option Addr) (sc : Nat) : Cv Try.prog 34 [.agg #[I setM.states, .slice b.sa setM.steps.length b.sc, .slice b.ra setM.running.length b.rc, .slice b.ka setM.locks.length b.kc], .slice sa 21 sc, I 0] (KAnd (KMc setM b) (KSl sa (List.replicate 21 (0 : Int)).length sc encI (List.replicate 21 0))) (.tuple #[.slice none 0 0, I 3]) :=
  Ends_jl setM b 0 sa sc (List.replicate 21 0) nm_f0.1 (by decide)
theorem nmEnds8_j (b : MA) (sa : Option Addr) (sc : Nat) : Cv Try.prog 34 [.agg #[I setM.states, .slice b.sa setM.steps.length b.sc, .slice b.ra setM.running.length b.rc, .slice b.ka setM.locks.length b.kc], .slice sa 1 sc, I 0] (KAnd (KMc setM b) (KSl sa 1 sc encI [8])) (.tuple #[.slice none 0 0, I 2]) :=
  Ends_jr setM b 0 sa sc [8] nm_f0.1 (by decide) (by decide)
theorem nmEnds6_j (b : MA) : Cv Try.prog 34 [.agg #[I setM.states, .slice b.sa setM.steps.length b.sc, .slice b.ra setM.running.length b.rc, .slice b.ka setM.locks.length b.kc], .slice none 0 0, I 6] (KAnd (KMc setM b) (KSl none 0 0 encI [])) (.tuple #[.slice none 0 0, I 2]) :=
  Ends_jr setM b 6 none 0 [] nm_f0.1 (by decide) (by decide)
theorem nmSafe_j (b : MA) : Cr Try.prog 26 [.agg #[I safeM.states, .slice b.sa safeM.steps.length b.sc, .slice b.ra safeM.running.length b.rc, .slice b.ka safeM.locks.length b.kc]] (KMc safeM b) (fun q : Option Addr × Nat => .tuple #[.slice q.1 0 q.2, I 7]) (fun q => KSl q.1 0 q.2 encI []) := by
  have h := Danger_j safeM b
  rw [nm_safe] at h
  exact h
theorem nmRun1_j (b : MA) (sa : Option Addr) (sc : Nat) : Cv Try.prog 46 [.agg #[I setM.states, .slice b.sa setM.steps.length b.sc, .slice b.ra setM.running.length b.rc, .slice b.ka setM.locks.length b.kc], .slice sa 4 sc, .agg #[I 2, I 2]] (KAnd (KMc setM b) (KSl sa 4 sc encI [0, 1, 6, 6])) (.bool true) := by
  have h := ProveRun_jo setM b ⟨2, 2⟩ sa sc [0, 1, 6, 6] nm_f0.1
  rw [nm_run1] at h
  exact h
theorem nmRun2_j (b : MA) (sa : Option Addr) (sc : Nat) : Cv Try.prog 46 [.agg #[I safeM.states, .slice b.sa safeM.steps.length b.sc, .slice b.ra safeM.running.length b.rc, .slice b.ka safeM.locks.length b.kc], .slice sa 4 sc, .agg #[I 2, I 2]] (KAnd (KMc safeM b) (KSl sa 4 sc encI [0, 1, 6, 6])) (.bool false) := by
  have h := ProveRun_jo safeM b ⟨2, 2⟩ sa sc [0, 1, 6, 6] nm_f0.2.1
  rw [nm_run2] at h
  exact h
theorem nmLost_j (b : MA) : Cr Try.prog 32 [.agg #[I lostM.states, .slice b.sa lostM.steps.length b.sc, .slice b.ra lostM.running.length b.rc, .slice b.ka lostM.locks.length b.kc]] (KMc lostM b) (fun q : Option Addr × Nat => .tuple #[.slice q.1 0 q.2, I 9]) (fun q => KSl q.1 0 q.2 encLk []) := by
  have h := Locks_jo lostM b nm_f0.2.2.1
  rw [nm_lost.1, nm_lost.2] at h
  exact h
theorem nmCheck_j (m : Mc) (b : MA) (e : Int) (h : fault m = e) : Cv Try.prog 19 [.agg #[I m.states, .slice b.sa m.steps.length b.sc, .slice b.ra m.running.length b.rc, .slice b.ka m.locks.length b.kc]] (KMc m b) (I e) := by
  have := CheckMachine_j m b
  rwa [h] at this
end Go.Proofs.Ytgbfjcgjcnndpaa
