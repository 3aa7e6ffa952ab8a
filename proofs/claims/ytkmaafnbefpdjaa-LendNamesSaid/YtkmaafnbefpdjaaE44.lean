/- The statements about lend: LendNames (the closed calls). -/
import Derived.Test.YtkmaafnbefpdjaaE37
import Derived.Test.YtkmaafnbefpdjaaE40p
import Derived.Test.YtkmaafnbefpdjaaE25
set_option linter.unusedSimpArgs false
set_option linter.unusedVariables false
namespace Go.Proofs.Ytkmaafnbefpdjaa
open Go.RowKit Go.Shelf

abbrev nmF : List Int := [4, 4, 5, 5]
abbrev nmP : List Int := [0, 1, -1, 0]
def nmM : List Int := marksV 2 paL
theorem nm_serve {p : List Int} (h : ServeFacts 2 paL p) : served p = 3 := by
  have h1 := serve_most h (q := [0, 1, -1, 0]) rfl (by decide) (by decide +kernel)
  have h2 := right_le h.n (fun n hn => (h.lane n hn).2) h.right [3]
  rw [show boundL 2 paL [3] = 3 by decide +kernel] at h2
  rw [show served [0, 1, -1, 0] = 3 by decide] at h1
  omega
theorem nm_marks : boundE (alX 0) paL nmM = .tuple #[I 3, I 0] ∧ nmM.length ≤ 31 := by
  have V := vld_of al_f
  obtain ⟨p, hp⟩ := serve_exists 2 paL V.gr
  have h3 := nm_serve hp
  obtain ⟨m1, m2, m3⟩ := marks_facts V.gr hp
  have hr := marks_risB V.gr hp
  have e : ((2 : Nat) : Int) = 2 := rfl
  rw [e] at m1 m2 m3 hr
  refine ⟨?_, marks_len m1 m2⟩
  unfold boundE nmM
  rw [if_pos hr, show (alX 0).h.lanes.toNat = 2 from rfl, m3, h3]; rfl
theorem nm_fit {p : List Int} (h : FitOk alH.shoes nmF p) : bare p = 1 ∧ bareI p = 1 ∧ p.length = 4 := by
  have hf : ∀ f ∈ nmF, 0 ≤ f ∧ f ≤ 9 := by decide
  have FF := fit_facts (sh := alH.shoes) rfl (by decide) hf h
  have h1 := lack_le FF.fit [4, 5]
  rw [show lack alH.shoes nmF [4, 5] = 1 by decide +kernel] at h1
  have h2 := (sizes_lack FF hf (fun _ => Iff.rfl)).1
  have hw : Fitting alH.shoes nmF [4, -1, 5, 5] := fitB_iff.1 (by decide +kernel)
  have h3 := lack_le hw (roundsR (nmF.zip p) (baresL nmF p) 10)
  rw [h2, show bare [4, -1, 5, 5] = 1 by decide] at h3
  have hb : bare p = 1 := by omega
  refine ⟨hb, ?_, FF.fit.n⟩
  rw [bare_served h.1 FF.fit.ok, hb]; rfl
theorem barN_le {sh feet ws : List Int} (h : Fitting sh feet ws) : barN sh feet ≤ (bare ws : Nat) := by
  unfold barN
  generalize 1024 = n
  induction n with
  | zero => exact Int.natCast_nonneg _
  | succ n ih =>
    have := lack_le h (sizesB n)
    unfold lacksV
    omega
theorem nm_short : shV alH.shoes (paL.zip nmP) 31 = [] := by
  have h : ∀ t : Nat, t < 31 → shB alH.shoes (feetA (paL.zip nmP) t) = false := fun t ht => by
    have hall : ∀ t : Fin 31, fitB alH.shoes (feetA (paL.zip nmP) (t.1 : Int)) (feetA (paL.zip nmP) (t.1 : Int)) = true ∧ bare (feetA (paL.zip nmP) (t.1 : Int)) = 0 := by decide +kernel
    have h1 : fitB alH.shoes (feetA (paL.zip nmP) (t : Int)) (feetA (paL.zip nmP) (t : Int)) = true := (hall ⟨t, ht⟩).1
    have h2 : bare (feetA (paL.zip nmP) (t : Int)) = 0 := (hall ⟨t, ht⟩).2
    have := barN_le (fitB_iff.1 h1)
    rw [h2] at this
    unfold barN at this
    unfold shB
    exact decide_eq_false (fun q => absurd (Int.lt_of_lt_of_le q this) (by decide))
  have hg : ∀ n : Nat, n ≤ 31 → shV alH.shoes (paL.zip nmP) n = [] := by
    intro n
    induction n with
    | zero => intro _; rfl
    | succ n ih => intro hn; rw [shV_no (h n (by omega)), ih (by omega)]
  exact hg 31 (Nat.le_refl _)
/-- The groups, one of them longer; one of them earlier. -/
def paL2 : List Gr := [⟨1, 2, 3, [4, 5]⟩, ⟨2, 4, 4, [5]⟩, ⟨3, 3, 30, [4]⟩, ⟨5, 5, 5, []⟩]
def paL3 : List Gr := [⟨1, 2, 3, [4, 5]⟩, ⟨2, 1, 4, [5]⟩, ⟨3, 3, 6, [4]⟩, ⟨5, 5, 5, []⟩]
abbrev paX2 (q : Nat × Nat × Nat × Nat) : List Gx := [⟨⟨1, 2, 3, [4, 5]⟩, some ⟨q.1, 0, none⟩, 2⟩, ⟨⟨2, 4, 4, [5]⟩, some ⟨q.2.1, 0, none⟩, 1⟩, ⟨⟨3, 3, 30, [4]⟩, some ⟨q.2.2.1, 0, none⟩, 1⟩, ⟨⟨5, 5, 5, []⟩, none, 0⟩]
abbrev paX3 (q : Nat × Nat × Nat × Nat) : List Gx := [⟨⟨1, 2, 3, [4, 5]⟩, some ⟨q.1, 0, none⟩, 2⟩, ⟨⟨2, 1, 4, [5]⟩, some ⟨q.2.1, 0, none⟩, 1⟩, ⟨⟨3, 3, 6, [4]⟩, some ⟨q.2.2.1, 0, none⟩, 1⟩, ⟨⟨5, 5, 5, []⟩, none, 0⟩]
theorem parties_o : Cx Try.prog 54 [] [] KTrue (fun q : Nat × Nat × Nat × Nat => .slice (some ⟨q.2.2.2, 0, none⟩) 4 4) (fun q => [ow (.slice (some ⟨q.2.2.2, 0, none⟩) 4 4) 81 4 4 ((paX q).flatMap encG)]) (fun q => KFt (paX q)) := by
  refine Cx_of Try.func54 rfl Try.ntmps54 rfl fun w0 M0 => ?_
  refine JC_seq ?_
  refine JC_region ?_
  refine JL_pd rfl (det_assign rfl) ?_
  refine JL_nil ?_
  refine JE_seq ?_
  refine JC_seq ?_
  refine JC_region ?_
  refine JL_pd rfl (det_build rfl (bld_79_0_1 _ _)) ?_
  refine JL_step rfl rfl rfl (jo_buildSlice rfl (bsl_22_2_0_1 _ _)) fun b2 => ?_
  refine JL_pd rfl (det_build rfl (bld_81_0_1_2 _ _ _ _ _ _)) ?_
  refine JL_pd rfl (det_build rfl (bld_79_0_1 _ _)) ?_
  refine JL_step rfl rfl rfl (jo_buildSlice rfl (bsl_22_1_0 _)) fun b5 => ?_
  refine JL_pd rfl (det_build rfl (bld_81_0_1_2 _ _ _ _ _ _)) ?_
  refine JL_pd rfl (det_build rfl (bld_79_0_1 _ _)) ?_
  refine JL_step rfl rfl rfl (jo_buildSlice rfl (bsl_22_1_0 _)) fun b8 => ?_
  refine JL_pd rfl (det_build rfl (bld_81_0_1_2 _ _ _ _ _ _)) ?_
  refine JL_pd rfl (det_build rfl (bld_79_0_1 _ _)) ?_
  refine JL_pd rfl (det_build rfl (bld_81_0_1 _ _ _)) ?_
  refine JL_step rfl rfl rfl (jo_buildOwn (z := 4) rfl (bsl_32_4_0_1_2_3 _ _ _ _ _ _ _ _ _ _ _ _ _ _ _ _ _ _ _ _ _ _ _ _) rfl (by decide)) fun b12 => ?_
  refine JL_pd rfl (det_assign rfl) ?_
  refine JL_nil ?_
  refine JE_seq ?_
  refine JC_ret ?_
  -- stop: out
  refine JE_lit (enc := encI) b2 2 [4, 5] noFp rfl rfl (by decide) ?_
  refine JE_lit (enc := encI) b5 1 [5] noFp rfl rfl (by decide) ?_
  refine JE_lit (enc := encI) b8 1 [4] noFp rfl rfl (by decide) ?_
  refine JE_out (.inl rfl) (b2, b5, b8, b12) (results1 Try.results54 (res_tmp rfl)) rfl (List.Perm.refl _) (fun w h => pa_ft h.2.2.1 h.2.1 h.1)
theorem nm_f1 : fault ⟨2, []⟩ paL = 1 := by decide +kernel
theorem nm_f3 : fault alH (List.replicate 9 ⟨0, 0, 0, []⟩) = 3 := by decide +kernel
theorem nm_f4 : fault alH paL3 = 1 := by decide +kernel
theorem nm_f5 : fault alH [] = 0 := by decide +kernel
theorem nm_s1 : shodE alH [10] = 2 := by decide +kernel
theorem nm_s2 : shodE alH (List.replicate 49 0) = 3 := by decide +kernel
theorem nm_s3 : shodE alH nmF = 0 := by decide +kernel
theorem nm_p1 : plannedE alH paL nmP = 0 := by decide +kernel
theorem nm_p2 : plannedE alH paL [0, 1, -1] = 2 := by decide +kernel
theorem nm_p3 : plannedE alH paL [0, 0, -1, 0] = 8 := by decide +kernel
theorem nm_l1 : laterE (alX 0) paL [0, 0, -1, 0] 2 = (0, 0, 8) := by decide +kernel
theorem nm_l2 : laterE (alX 0) paL nmP 3 = (0, 0, 8) := by decide +kernel
theorem nm_l3 : laterE (alX 0) paL nmP 4 = (0, 0, 2) := by decide +kernel
theorem nm_l4 : laterE (alX 0) paL2 nmP 2 = (0, 0, 7) := by decide +kernel
theorem nm_b0 : boundE (alX 0) paL [] = .tuple #[I 4, I 0] := by
  unfold boundE
  rw [if_pos (by decide +kernel), show boundL (alX 0).h.lanes.toNat paL [] = 4 by decide +kernel]; rfl
theorem nm_b1 : boundE (alX 0) paL [3, 5] = .tuple #[I 4, I 0] := by
  unfold boundE
  rw [if_pos (by decide +kernel), show boundL (alX 0).h.lanes.toNat paL [3, 5] = 4 by decide +kernel]; rfl
theorem nm_b2 : boundE (alX 0) paL [5, 3] = .tuple #[I 0, I 2] := by
  unfold boundE
  rw [if_neg (by decide +kernel)]
theorem nm_k1 : lackE (alX 0) nmF [5] = .tuple #[I 0, I 0] := by
  unfold lackE
  rw [if_neg (by decide +kernel), if_pos (by decide +kernel), show lack (alX 0).h.shoes nmF [5] = 0 by decide +kernel]
theorem nm_k2 : lackE (alX 0) [] [5, 4] = .tuple #[I 0, I 2] := by
  unfold lackE
  rw [if_neg (by decide +kernel), if_neg (by decide +kernel)]
end Go.Proofs.Ytkmaafnbefpdjaa
