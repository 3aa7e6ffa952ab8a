/- Own texts, laid together: E18 E19. Nothing is asked. -/
import Derived.Test.YtkmaafnbefpdjaaB8
set_option linter.unusedSimpArgs false
set_option linter.unusedVariables false
/- The statements about lend: the document's first examples. -/
namespace Go.Proofs.Ytkmaafnbefpdjaa
open Go.RowKit Go.Shelf

def alH : Hs := ⟨2, [0, 0, 0, 0, 1, 2, 0, 0, 0, 0]⟩
def paL : List Gr := [⟨1, 2, 3, [4, 5]⟩, ⟨2, 4, 4, [5]⟩, ⟨3, 3, 6, [4]⟩, ⟨5, 5, 5, []⟩]
abbrev alX (b : Nat) : Hx := ⟨alH, some ⟨b, 0, none⟩, 10⟩
abbrev paX (q : Nat × Nat × Nat × Nat) : List Gx := [⟨⟨1, 2, 3, [4, 5]⟩, some ⟨q.1, 0, none⟩, 2⟩, ⟨⟨2, 4, 4, [5]⟩, some ⟨q.2.1, 0, none⟩, 1⟩, ⟨⟨3, 3, 6, [4]⟩, some ⟨q.2.2.1, 0, none⟩, 1⟩, ⟨⟨5, 5, 5, []⟩, none, 0⟩]
theorem pa_gs (q : Nat × Nat × Nat × Nat) : gs (paX q) = paL := rfl
theorem al_f : fault alH paL = 0 := by decide +kernel
theorem alley_j : Cr Try.prog 53 [] KTrue (fun b : Nat => .agg #[I 2, .slice (some ⟨b, 0, none⟩) 10 10]) (fun b => KHx (alX b)) := by
  refine Cx_of Try.func53 rfl Try.ntmps53 rfl fun w0 M0 => ?_
  refine JC_seq ?_
  refine JC_region ?_
  refine JL_step rfl rfl rfl (jo_alloc0 Try.zeroValue30 rfl) fun b0 => ?_
  refine JL_nil ?_
  refine JE_seq ?_
  refine JC_seq ?_
  refine JC_region ?_
  refine JL_step rfl rfl rfl (jo_buildSlice rfl (bsl_22_10_0_1_2_3_4_5_6_7_8_9 _ _ _ _ _ _ _ _ _ _)) fun b1 => ?_
  refine JL_pd rfl (det_build rfl (bld_30_0_1 _ _ _ _)) ?_
  refine JL_step0 rfl rfl (jo_store rfl rfl rfl (by first | (simp only [splice_norm]; done) | (simp only [splice_norm]; rfl) | rfl) Try.sizeOf30 rfl rfl) fun _ => ?_
  refine JL_nil ?_
  refine JE_seq ?_
  refine JC_ret ?_
  -- stop: out
  refine JE_lit (enc := encI) b1 10 alH.shoes noFp rfl rfl (by decide) ?_
  refine JE_out (.inl rfl) b1 (results1 Try.results53 (res_box rfl Try.isAgg30 Try.sizeOf30 rfl)) rfl (List.Perm.refl _) (fun w h => h.1)
theorem pa_ft {q : Nat × Nat × Nat × Nat} {w : World} (h1 : KSl (some ⟨q.1, 0, none⟩) 2 2 encI [4, 5] w) (h2 : KSl (some ⟨q.2.1, 0, none⟩) 1 1 encI [5] w) (h3 : KSl (some ⟨q.2.2.1, 0, none⟩) 1 1 encI [4] w) : KFt (paX q) w := by
  intro x hx
  simp only [paX, List.mem_cons, List.not_mem_nil, or_false] at hx
  rcases hx with rfl | rfl | rfl | rfl
  · exact h1
  · exact h2
  · exact h3
  · exact KSl_none w
theorem parties_j : Cr Try.prog 54 [] KTrue (fun q : Nat × Nat × Nat × Nat => .slice (some ⟨q.2.2.2, 0, none⟩) 4 4) (fun q => KGs (some ⟨q.2.2.2, 0, none⟩) 4 (paX q)) := by
  refine Cx_of Try.func54 rfl Try.ntmps54 rfl fun w0 M0 => ?_
  refine JC_seq ?_
  refine JC_region ?_
  refine JL_pd rfl (det_assign rfl) ?_
  refine JL_nil ?_
  refine JE_seq ?_
  refine JC_seq ?_
  refine JC_region ?_
  refine JL_pd rfl (det_build rfl (bld_79_0_1 _ _)) ?_
  refine JL_step rfl rfl rfl (jo_buildSlice rfl (bsl_22_2_0_1 _ _)) fun b2 => ?_
  refine JL_pd rfl (det_build rfl (bld_81_0_1_2 _ _ _ _ _ _)) ?_
  refine JL_pd rfl (det_build rfl (bld_79_0_1 _ _)) ?_
  refine JL_step rfl rfl rfl (jo_buildSlice rfl (bsl_22_1_0 _)) fun b5 => ?_
  refine JL_pd rfl (det_build rfl (bld_81_0_1_2 _ _ _ _ _ _)) ?_
  refine JL_pd rfl (det_build rfl (bld_79_0_1 _ _)) ?_
  refine JL_step rfl rfl rfl (jo_buildSlice rfl (bsl_22_1_0 _)) fun b8 => ?_
  refine JL_pd rfl (det_build rfl (bld_81_0_1_2 _ _ _ _ _ _)) ?_
  refine JL_pd rfl (det_build rfl (bld_79_0_1 _ _)) ?_
  refine JL_pd rfl (det_build rfl (bld_81_0_1 _ _ _)) ?_
  refine JL_step rfl rfl rfl (jo_buildSlice rfl (bsl_32_4_0_1_2_3 _ _ _ _ _ _ _ _ _ _ _ _ _ _ _ _ _ _ _ _ _ _ _ _)) fun b12 => ?_
  refine JL_pd rfl (det_assign rfl) ?_
  refine JL_nil ?_
  refine JE_seq ?_
  refine JC_ret ?_
  -- stop: out
  refine JE_lit (enc := encI) b2 2 [4, 5] noFp rfl rfl (by decide) ?_
  refine JE_lit (enc := encI) b5 1 [5] noFp rfl rfl (by decide) ?_
  refine JE_lit (enc := encI) b8 1 [4] noFp rfl rfl (by decide) ?_
  refine JE_lit (enc := encG) b12 4 (paX (b2, b5, b8, b12)) noFp rfl rfl (by decide) ?_
  refine JE_out (.inl rfl) (b2, b5, b8, b12) (results1 Try.results54 (res_tmp rfl)) rfl (List.Perm.refl _) (fun w h => ⟨h.1, pa_ft h.2.2.2.1 h.2.2.1 h.2.1⟩)
theorem al_most {p : List Int} (h : ServeOk 2 paL p) : plannedE alH paL p = 0 ∧ 3 ≤ served p ∧ p.length = 4 ∧ ∀ n ∈ p, -1 ≤ n := by
  have V := vld_of al_f
  have hf := serve_facts V.gr h
  have h1 : isPlan alH.lanes paL p = true := by
    unfold isPlan
    rw [Bool.and_eq_true, decide_eq_true_eq, List.all_eq_true]
    refine ⟨fun n hn => inI_iff.2 ?_, hf.n⟩
    have := hf.lane n hn
    show -1 ≤ n ∧ n ≤ 2 - 1
    omega
  have h2 : rightB paL p = true := decide_eq_true hf.right
  refine ⟨by unfold plannedE; rw [if_neg (by rw [al_f]; decide), if_neg (by rw [h1]; decide), if_neg (by rw [h2]; decide)], ?_, hf.n, fun n hn => (hf.lane n hn).1⟩
  have := serve_most hf (q := [0, 1, -1, 0]) rfl (by decide) (by decide +kernel)
  exact this
theorem al_b : boundE (alX 0) paL [3] = .tuple #[I 3, I 0] := by
  unfold boundE
  rw [if_pos (by decide +kernel), show boundL (alX 0).h.lanes.toNat paL [3] = 3 by decide +kernel]; rfl
theorem al_l : laterE (alX 0) paL [0, 1, -1, 0] 2 = (1, 5, 0) := by decide +kernel
theorem al_k : lackE (alX 0) [4, 4, 5, 5] [4, 5] = .tuple #[I 1, I 0] := by
  unfold lackE
  rw [if_neg (by decide +kernel), if_pos (by decide +kernel), show lack (alX 0).h.shoes [4, 4, 5, 5] [4, 5] = 1 by decide +kernel]
theorem wBound_j (b : Nat) (q : Nat × Nat × Nat × Nat) (c : Nat) : Cv Try.prog 42 [.agg #[I 2, .slice (some ⟨b, 0, none⟩) 10 10], .slice (some ⟨q.2.2.2, 0, none⟩) 4 4, .slice (some ⟨c, 0, none⟩) 1 1] (KAnd (KHx (alX b)) (KAnd (KGs (some ⟨q.2.2.2, 0, none⟩) 4 (paX q)) (KSl (some ⟨c, 0, none⟩) 1 1 encI [3]))) (.tuple #[I 3, I 0]) := by
  have h := Bound_jo (alX b) (some ⟨q.2.2.2, 0, none⟩) 4 (paX q) (some ⟨c, 0, none⟩) 1 [3] al_f (by decide)
  rw [pa_gs, show boundE (alX b) paL [3] = boundE (alX 0) paL [3] from rfl, al_b] at h
  exact h
theorem wLater_j (b : Nat) (q : Nat × Nat × Nat × Nat) (c : Nat) : Cv Try.prog 30 [.agg #[I 2, .slice (some ⟨b, 0, none⟩) 10 10], .slice (some ⟨q.2.2.2, 0, none⟩) 4 4, .slice (some ⟨c, 0, none⟩) 4 4, I 2] (KAnd (KHx (alX b)) (KAnd (KGs (some ⟨q.2.2.2, 0, none⟩) 4 (paX q)) (KSl (some ⟨c, 0, none⟩) 4 4 encI [0, 1, -1, 0]))) (.tuple #[I 1, I 5, I 0]) := by
  have h := Later_j (alX b) (some ⟨q.2.2.2, 0, none⟩) 4 (paX q) (some ⟨c, 0, none⟩) 4 [0, 1, -1, 0] 2
  rw [pa_gs, show laterE (alX b) paL [0, 1, -1, 0] 2 = laterE (alX 0) paL [0, 1, -1, 0] 2 from rfl, al_l] at h
  exact h
theorem wLack_j (b c d : Nat) : Cv Try.prog 47 [.agg #[I 2, .slice (some ⟨b, 0, none⟩) 10 10], .slice (some ⟨c, 0, none⟩) 4 4, .slice (some ⟨d, 0, none⟩) 2 2] (KAnd (KHx (alX b)) (KAnd (KSl (some ⟨c, 0, none⟩) 4 4 encI [4, 4, 5, 5]) (KSl (some ⟨d, 0, none⟩) 2 2 encI [4, 5]))) (.tuple #[I 1, I 0]) := by
  have h := Lack_j (alX b) (some ⟨c, 0, none⟩) 4 [4, 4, 5, 5] (some ⟨d, 0, none⟩) 2 [4, 5]
  rw [show lackE (alX b) [4, 4, 5, 5] [4, 5] = lackE (alX 0) [4, 4, 5, 5] [4, 5] from rfl, al_k] at h
  exact h
theorem wProve_j (b : Nat) (q : Nat × Nat × Nat × Nat) (c : Nat) (p : List Int) (h : ServeOk 2 paL p) : Cv Try.prog 22 [.agg #[I 2, .slice (some ⟨b, 0, none⟩) 10 10], .slice (some ⟨q.2.2.2, 0, none⟩) 4 4, .slice (some ⟨c, 0, none⟩) 4 4, I 3] (KAnd (KHx (alX b)) (KAnd (KGs (some ⟨q.2.2.2, 0, none⟩) 4 (paX q)) (KSl (some ⟨c, 0, none⟩) 4 4 encI p))) (.bool true) := by
  obtain ⟨h1, h2, h3, h4⟩ := al_most h
  have hp := ProvePlan_j (alX b) (some ⟨q.2.2.2, 0, none⟩) 4 (paX q) (some ⟨c, 0, none⟩) 4 p 3
  rw [pa_gs, h3, decide_eq_true (show plannedE (alX b).h paL p = 0 from h1), decide_eq_true (show (3 : Int) ≤ (served p : Nat) by omega)] at hp
  exact hp
set_option maxRecDepth 100000 in
theorem awake_j : Cv Try.prog 17 [] KTrue (.bool true) := by
  refine Cx_of Try.func17 rfl Try.ntmps17 rfl fun w0 M0 => ?_
  refine JC_seq ?_
  refine JC_region ?_
  refine JL_pd rfl (det_assign rfl) ?_
  refine JL_nil ?_
  refine JE_seq ?_
  refine JC_seq ?_
  refine JC_region ?_
  refine JL_step rfl rfl rfl (jo_call rfl rfl Try.call53 rfl (alley_j)) fun x11 => ?_
  refine JL_step rfl rfl rfl (jo_call rfl rfl Try.call54 rfl (parties_j)) fun x12 => ?_
  -- stop: op  2 t13 := (call (Call (value f21) (t11 t12) (30 32)))   <0 1 1>   58
  refine JL_step rfl rfl rfl (jo_call rfl rfl Try.call21 rfl (Serve_jo (alX x11) (some ⟨x12.2.2.2, 0, none⟩) 4 (paX x12) al_f)) fun ⟨pb, p, hp⟩ => ?_
  refine JL_pd rfl (det_move rfl) ?_
  refine JL_pd rfl (det_extract rfl rfl) ?_
  refine JL_pd rfl (det_extract rfl rfl) ?_
  refine JL_pd rfl (det_assign rfl) ?_
  refine JL_pd rfl (det_assign rfl) ?_
  refine JL_nil ?_
  refine JE_seq ?_
  refine JC_seq ?_
  refine JC_region ?_
  refine JL_step rfl rfl rfl (jo_call rfl rfl Try.call53 rfl (alley_j)) fun x17 => ?_
  refine JL_step rfl rfl rfl (jo_call rfl rfl Try.call54 rfl (parties_j)) fun x18 => ?_
  refine JL_step rfl rfl rfl (jo_buildSlice rfl (bsl_22_1_0 _)) fun b19 => ?_
  -- stop: op  3 t20 := (call (Call (value f42) (t17 t18 t19) (30 32 22)))   <0 1 2 1>   59
  refine JL_lit (enc := encI) b19 1 [3] noFp rfl rfl (by decide) ?_
  refine JL_step rfl rfl rfl (jo_callv rfl rfl Try.call42 rfl (wBound_j x17 x18 b19)) fun _ => ?_
  refine JL_pd rfl (det_move rfl) ?_
  refine JL_pd rfl (det_extract rfl rfl) ?_
  refine JL_pd rfl (det_extract rfl rfl) ?_
  refine JL_pd rfl (det_assign rfl) ?_
  refine JL_pd rfl (det_assign rfl) ?_
  refine JL_nil ?_
  refine JE_seq ?_
  refine JC_seq ?_
  refine JC_region ?_
  refine JL_step rfl rfl rfl (jo_call rfl rfl Try.call53 rfl (alley_j)) fun x24 => ?_
  refine JL_step rfl rfl rfl (jo_call rfl rfl Try.call54 rfl (parties_j)) fun x25 => ?_
  refine JL_step rfl rfl rfl (jo_buildSlice rfl (bsl_22_4_0_1_2_3 _ _ _ _)) fun b26 => ?_
  -- stop: op  3 t27 := (call (Call (value f30) (t24 t25 t26 2) (30 32 22 3)))   <0 1 2 1>   60
  refine JL_lit (enc := encI) b26 4 [0, 1, -1, 0] noFp rfl rfl (by decide) ?_
  refine JL_step rfl rfl rfl (jo_callv rfl rfl Try.call30 rfl (wLater_j x24 x25 b26)) fun _ => ?_
  refine JL_pd rfl (det_move rfl) ?_
  refine JL_pd rfl (det_extract rfl rfl) ?_
  refine JL_pd rfl (det_extract rfl rfl) ?_
  refine JL_pd rfl (det_extract rfl rfl) ?_
  refine JL_pd rfl (det_assign rfl) ?_
  refine JL_pd rfl (det_assign rfl) ?_
  refine JL_pd rfl (det_assign rfl) ?_
  refine JL_nil ?_
  refine JE_seq ?_
  refine JC_seq ?_
  refine JC_region ?_
  refine JL_step rfl rfl rfl (jo_call rfl rfl Try.call53 rfl (alley_j)) fun x32 => ?_
  refine JL_step rfl rfl rfl (jo_buildSlice rfl (bsl_22_4_0_1_2_3 _ _ _ _)) fun b33 => ?_
  refine JL_step rfl rfl rfl (jo_buildSlice rfl (bsl_22_2_0_1 _ _)) fun b34 => ?_
  -- stop: op  3 t35 := (call (Call (value f47) (t32 t33 t34) (30 22 22)))   <0 1 2 0>   61
  refine JL_lit (enc := encI) b33 4 [4, 4, 5, 5] noFp rfl rfl (by decide) ?_
  refine JL_lit (enc := encI) b34 2 [4, 5] noFp rfl rfl (by decide) ?_
  refine JL_step rfl rfl rfl (jo_callv rfl rfl Try.call47 rfl (wLack_j x32 b33 b34)) fun _ => ?_
  refine JL_pd rfl (det_move rfl) ?_
  refine JL_pd rfl (det_extract rfl rfl) ?_
  refine JL_pd rfl (det_extract rfl rfl) ?_
  refine JL_pd rfl (det_assign rfl) ?_
  refine JL_pd rfl (det_assign rfl) ?_
  refine JL_nil ?_
  refine JE_seq ?_
  refine JC_seq ?_
  refine JC_region ?_
  refine JL_pd rfl (det_move rfl) ?_
  refine JL_pd rfl (det_eql rfl rfl) ?_
  refine JL_pd rfl (det_move rfl) ?_
  -- stop: guard 2
  refine JL_is (d0 := 40) true rfl (by decide) (fun h1 => ?_)
  refine JL_guard rfl rfl h1 ?_
  refine JL_step rfl rfl rfl (jo_call rfl rfl Try.call53 rfl (alley_j)) fun x41 => ?_
  refine JL_guard rfl rfl h1 ?_
  refine JL_step rfl rfl rfl (jo_call rfl rfl Try.call54 rfl (parties_j)) fun x42 => ?_
  refine JL_guard rfl rfl h1 ?_
  refine JL_pd rfl (det_move rfl) ?_
  refine JL_guard rfl rfl h1 ?_
  refine JL_step rfl rfl rfl (jo_callv rfl rfl Try.call22 rfl (wProve_j _ _ pb p hp)) fun _ => ?_
  refine JL_pd rfl (det_pick_t rfl h1 rfl) ?_
  refine JL_pd rfl (det_move rfl) ?_
  refine JL_is (d0 := 46) true rfl (by decide) (fun h2 => ?_)
  refine JL_guard rfl rfl h2 ?_
  refine JL_pd rfl (det_move rfl) ?_
  refine JL_guard rfl rfl h2 ?_
  refine JL_pd rfl (det_eql rfl rfl) ?_
  refine JL_pd rfl (det_pick_t rfl h2 rfl) ?_
  refine JL_pd rfl (det_move rfl) ?_
  refine JL_is (d0 := 50) true rfl (by decide) (fun h3 => ?_)
  refine JL_guard rfl rfl h3 ?_
  refine JL_pd rfl (det_move rfl) ?_
  refine JL_guard rfl rfl h3 ?_
  refine JL_pd rfl (det_eql rfl rfl) ?_
  refine JL_pd rfl (det_pick_t rfl h3 rfl) ?_
  refine JL_pd rfl (det_move rfl) ?_
  refine JL_is (d0 := 54) true rfl (by decide) (fun h4 => ?_)
  refine JL_guard rfl rfl h4 ?_
  refine JL_pd rfl (det_move rfl) ?_
  refine JL_guard rfl rfl h4 ?_
  refine JL_pd rfl (det_eql rfl rfl) ?_
  refine JL_pd rfl (det_pick_t rfl h4 rfl) ?_
  refine JL_pd rfl (det_move rfl) ?_
  refine JL_is (d0 := 58) true rfl (by decide) (fun h5 => ?_)
  refine JL_guard rfl rfl h5 ?_
  refine JL_pd rfl (det_move rfl) ?_
  refine JL_guard rfl rfl h5 ?_
  refine JL_pd rfl (det_eql rfl rfl) ?_
  refine JL_pd rfl (det_pick_t rfl h5 rfl) ?_
  refine JL_pd rfl (det_move rfl) ?_
  refine JL_is (d0 := 62) true rfl (by decide) (fun h6 => ?_)
  refine JL_guard rfl rfl h6 ?_
  refine JL_pd rfl (det_move rfl) ?_
  refine JL_guard rfl rfl h6 ?_
  refine JL_pd rfl (det_eql rfl rfl) ?_
  refine JL_pd rfl (det_pick_t rfl h6 rfl) ?_
  refine JL_pd rfl (det_move rfl) ?_
  refine JL_is (d0 := 66) true rfl (by decide) (fun h7 => ?_)
  refine JL_guard rfl rfl h7 ?_
  refine JL_pd rfl (det_move rfl) ?_
  refine JL_guard rfl rfl h7 ?_
  refine JL_pd rfl (det_eql rfl rfl) ?_
  refine JL_pd rfl (det_pick_t rfl h7 rfl) ?_
  refine JL_pd rfl (det_move rfl) ?_
  refine JL_is (d0 := 70) true rfl (by decide) (fun h8 => ?_)
  refine JL_guard rfl rfl h8 ?_
  refine JL_pd rfl (det_move rfl) ?_
  refine JL_guard rfl rfl h8 ?_
  refine JL_pd rfl (det_eql rfl rfl) ?_
  refine JL_pd rfl (det_pick_t rfl h8 rfl) ?_
  refine JL_pd rfl (det_assign rfl) ?_
  refine JL_nil ?_
  refine JE_seq ?_
  refine JC_ret ?_
  refine JE_out (.inl rfl) () (results1 Try.results17 (res_tmp rfl)) ?_ (List.Perm.refl _) (fun _ _ => trivial)
  rfl
end Go.Proofs.Ytkmaafnbefpdjaa

/- The statements about lend: the program's functions of copies; LendServes. -/
namespace Go.Proofs.Ytkmaafnbefpdjaa
open Go.RowKit Go.Shelf

theorem Cr.conv {P : Program} {f : FuncId} {args : List Value} {pre : World → Prop} {α : Type} {ret ret' : α → Value} {post post' : α → World → Prop} (h : Cr P f args pre ret post) (h1 : ∀ x, ret x = ret' x) (h2 : ∀ x w, post x w → post' x w) : Cr P f args pre ret' post' := by
  have e : ret = ret' := funext h1
  subst e
  exact h.mono (fun _ h => h) h2
abbrev QH := Option Addr × Nat
abbrev QG (xs : List Gx) := Option Addr × Nat × { ys : List Gx // gs ys = gs xs }
theorem qg_len {xs : List Gx} (g : QG xs) : g.2.2.1.length = xs.length := by
  have := congrArg List.length g.2.2.2
  simpa [gs] using this
theorem CheckGroups_c (x : Hx) (q : QH) (xs : List Gx) (g : QG xs) : Cv Try.prog 18 [.agg #[I x.h.lanes, .slice q.1 x.h.shoes.length q.2], .slice g.1 g.2.2.1.length g.2.1] (KAnd (KHx ⟨x.h, q.1, q.2⟩) (KGs g.1 g.2.1 g.2.2.1)) (I (fault x.h (gs xs))) := by
  have h := CheckGroups_j ⟨x.h, q.1, q.2⟩ g.1 g.2.1 g.2.2.1
  rwa [g.2.2.2] at h
theorem Serve_ce (x : Hx) (q : QH) (xs : List Gx) (g : QG xs) (h : fault x.h (gs xs) ≠ 0) : Cv Try.prog 21 [.agg #[I x.h.lanes, .slice q.1 x.h.shoes.length q.2], .slice g.1 g.2.2.1.length g.2.1] (KAnd (KHx ⟨x.h, q.1, q.2⟩) (KGs g.1 g.2.1 g.2.2.1)) (.tuple #[.slice none 0 0, I (fault x.h (gs xs))]) := by
  have h := Serve_je ⟨x.h, q.1, q.2⟩ g.1 g.2.1 g.2.2.1 (by rw [g.2.2.2]; exact h)
  rwa [g.2.2.2] at h
abbrev QS (k : Nat) (l : List Gr) := Nat × { p : List Int // ServeOk k l p }
theorem Serve_c (x : Hx) (q : QH) (xs : List Gx) (g : QG xs) (h : fault x.h (gs xs) = 0) : Cr Try.prog 21 [.agg #[I x.h.lanes, .slice q.1 x.h.shoes.length q.2], .slice g.1 g.2.2.1.length g.2.1] (KAnd (KHx ⟨x.h, q.1, q.2⟩) (KGs g.1 g.2.1 g.2.2.1)) (fun p : QS x.h.lanes.toNat (gs xs) => .tuple #[.slice (some ⟨p.1, 0, none⟩) p.2.1.length p.2.1.length, I 0]) (fun p => KSl (some ⟨p.1, 0, none⟩) p.2.1.length p.2.1.length encI p.2.1) := by
  have h := Serve_jo ⟨x.h, q.1, q.2⟩ g.1 g.2.1 g.2.2.1 (by rw [g.2.2.2]; exact h)
  rw [g.2.2.2] at h
  have hl : ∀ p : QS x.h.lanes.toNat (gs xs), p.2.1.length = g.2.2.1.length := fun p => by rw [qg_len, p.2.2.1]; exact List.length_map _
  exact h.conv (fun p => by rw [hl]) fun p w hw => by rw [hl]; exact hw
theorem ProvePlan_c (x : Hx) (q : QH) (xs : List Gx) (g : QG xs) (plan : List Int) (a : Option Addr) (c : Nat) (many : Int) : Cv Try.prog 22 [.agg #[I x.h.lanes, .slice q.1 x.h.shoes.length q.2], .slice g.1 g.2.2.1.length g.2.1, .slice a plan.length c, I many] (KAnd (KHx ⟨x.h, q.1, q.2⟩) (KAnd (KGs g.1 g.2.1 g.2.2.1) (KSl a plan.length c encI plan))) (.bool (decide (plannedE x.h (gs xs) plan = 0) && decide (many ≤ (served plan : Nat)))) := by
  have h := ProvePlan_j ⟨x.h, q.1, q.2⟩ g.1 g.2.1 g.2.2.1 a c plan many
  rwa [g.2.2.2] at h
theorem Bound_ce (x : Hx) (q : QH) (xs : List Gx) (g : QG xs) (T : List Int) (a : Option Addr) (c : Nat) (h : fault x.h (gs xs) ≠ 0) : Cv Try.prog 42 [.agg #[I x.h.lanes, .slice q.1 x.h.shoes.length q.2], .slice g.1 g.2.2.1.length g.2.1, .slice a T.length c] (KAnd (KHx ⟨x.h, q.1, q.2⟩) (KAnd (KGs g.1 g.2.1 g.2.2.1) (KSl a T.length c encI T))) (.tuple #[I 0, I (fault x.h (gs xs))]) := by
  have h := Bound_je ⟨x.h, q.1, q.2⟩ g.1 g.2.1 g.2.2.1 a c T (by rw [g.2.2.2]; exact h)
  rwa [g.2.2.2] at h
theorem Bound_c (x : Hx) (q : QH) (xs : List Gx) (g : QG xs) (T : List Int) (a : Option Addr) (c : Nat) (h : fault x.h (gs xs) = 0) (hT : T.length ≤ 1000) : Cv Try.prog 42 [.agg #[I x.h.lanes, .slice q.1 x.h.shoes.length q.2], .slice g.1 g.2.2.1.length g.2.1, .slice a T.length c] (KAnd (KHx ⟨x.h, q.1, q.2⟩) (KAnd (KGs g.1 g.2.1 g.2.2.1) (KSl a T.length c encI T))) (boundE x (gs xs) T) := by
  have h := Bound_jo ⟨x.h, q.1, q.2⟩ g.1 g.2.1 g.2.2.1 a c T (by rw [g.2.2.2]; exact h) hT
  rwa [g.2.2.2] at h
theorem Later_c (x : Hx) (q : QH) (xs : List Gx) (g : QG xs) (plan : List Int) (a : Option Addr) (c : Nat) (group : Int) : Cv Try.prog 30 [.agg #[I x.h.lanes, .slice q.1 x.h.shoes.length q.2], .slice g.1 g.2.2.1.length g.2.1, .slice a plan.length c, I group] (KAnd (KHx ⟨x.h, q.1, q.2⟩) (KAnd (KGs g.1 g.2.1 g.2.2.1) (KSl a plan.length c encI plan))) (tup3 (laterE x (gs xs) plan group)) := by
  have h := Later_j ⟨x.h, q.1, q.2⟩ g.1 g.2.1 g.2.2.1 a c plan group
  rwa [g.2.2.2] at h
theorem Lack_c (x : Hx) (q : QH) (feet S : List Int) (a sa : Option Addr) (c sc : Nat) : Cv Try.prog 47 [.agg #[I x.h.lanes, .slice q.1 x.h.shoes.length q.2], .slice a feet.length c, .slice sa S.length sc] (KAnd (KHx ⟨x.h, q.1, q.2⟩) (KAnd (KSl a feet.length c encI feet) (KSl sa S.length sc encI S))) (lackE x feet S) := Lack_j ⟨x.h, q.1, q.2⟩ a c feet sa sc S
theorem IsPlan_ok {x : Hx} {xs : List Gx} {p : List Int} (h : ServeFacts x.h.lanes.toNat (gs xs) p) (hl : 0 ≤ x.h.lanes) : (p.all (fun m => inI m (-1) (x.h.lanes - 1)) && decide (p.length = xs.length)) = true := by
  rw [Bool.and_eq_true, decide_eq_true_eq, List.all_eq_true]
  refine ⟨fun n hn => inI_iff.2 ?_, by rw [h.n]; exact List.length_map _⟩
  have := h.lane n hn
  omega
set_option maxRecDepth 100000 in
set_option maxHeartbeats 1000000 in
theorem LendServes_j (x : Hx) (ga : Option Addr) (gc : Nat) (xs : List Gx) (a : Option Addr) (cap : Nat) (plan : List Int) (many : Int) : Cv Try.prog 3 [.agg #[I x.h.lanes, .slice x.a x.h.shoes.length x.c], .slice ga xs.length gc, .slice a plan.length cap, I many] (KAnd (KHx x) (KAnd (KGs ga gc xs) (KSl a plan.length cap encI plan))) (.bool true) := by
  refine Cx_of Try.func3 rfl Try.ntmps3 rfl fun w0 M0 => ?_
  refine JC_seq ?_
  refine JC_region ?_
  refine JL_step rfl rfl rfl (jo_box rfl rfl) fun b4 => ?_
  refine JL_pd rfl (det_assign rfl) ?_
  refine JL_nil ?_
  refine JE_seq ?_
  refine JC_seq ?_
  refine JC_seq ?_
  refine JC_region ?_
  refine JL_dt rfl (det_loadKA rfl Try.isAgg24 Try.sizeOf24 rfl rfl) ?_
  refine JL_pd rfl (det_move rfl) ?_
  refine JL_step rfl rfl rfl (jo_callv rfl rfl Try.call16 rfl (Thin_j x ga gc xs)) fun _ => ?_
  refine JL_pd rfl (det_not rfl) ?_
  refine JL_pd rfl (det_move rfl) ?_
  -- stop: guard 4
  refine JL_join1 4 22 (.bool (!thinB x.h (gs xs) || decide ((12 : Int) < (plan.length : Int)))) (fun hj => ?_) ?_
  · refine JL_split (d0 := 18) rfl (fun q1 => ?_) (fun q1 => ?_)
    · refine JL_skip rfl rfl q1 rfl ?_
      refine JL_skip rfl rfl q1 rfl ?_
      refine JL_skip rfl rfl q1 rfl ?_
      refine JL_pd rfl (det_pick_t rfl q1 rfl) ?_
      exact hj (by kernel_rfl) (stsub_consB rfl (by clear hj; first | rfl | (simp only [q1, Bool.and_true, Bool.true_and, Bool.false_and, Bool.and_false, Bool.or_true, Bool.true_or, Bool.or_false, Bool.false_or, Bool.not_true, Bool.not_false]; done) | (simp [q1]; done) | (simp at q1; done) | (simp [q1] <;> omega) | (exfalso; simp at q1; omega)) stsub_nil)
    · refine JL_guard rfl rfl q1 ?_
      refine JL_pd rfl (det_move rfl) ?_
      refine JL_guard rfl rfl q1 ?_
      refine JL_pd rfl (det_len rfl Try.runUnderlying22) ?_
      refine JL_guard rfl rfl q1 ?_
      refine JL_pd rfl (det_gtr rfl rfl) ?_
      refine JL_pd rfl (det_pick_f rfl q1 rfl) ?_
      exact hj (by kernel_rfl) (stsub_consB rfl (by clear hj; first | rfl | (simp only [q1, Bool.and_true, Bool.true_and, Bool.false_and, Bool.and_false, Bool.or_true, Bool.true_or, Bool.or_false, Bool.false_or, Bool.not_true, Bool.not_false]; done) | (simp [q1]; done) | (simp at q1; done) | (simp [q1] <;> omega) | (exfalso; simp at q1; omega)) stsub_nil)
  refine JL_nil ?_
  refine JE_seq ?_
  -- stop: cond
  refine JC_cond rfl (fun h1 => ?_) (fun h1 => ?_)
  · refine JC_seq ?_
    refine JC_region ?_
    refine JL_step rfl rfl rfl (jo_callv rfl rfl Try.call17 rfl (awake_j)) fun _ => ?_
    refine JL_pd rfl (det_assign rfl) ?_
    refine JL_nil ?_
    refine JE_seq ?_
    refine JC_ret ?_
    refine JE_seq_ret ?_
    -- stop: out
    refine JE_out (.inl rfl) () (results1 Try.results3 (res_tmp rfl)) rfl (List.Perm.refl _) (fun _ _ => trivial)
  · simp only [Bool.or_eq_false_iff, Bool.not_eq_false', decide_eq_false_iff_not] at h1
    obtain ⟨h1, h2⟩ := h1
    obtain ⟨t1, t2, t3⟩ := thin_lens h1
    have hgl : (gs xs).length = xs.length := List.length_map _
    rw [hgl] at t2
    have hpl : plan.length ≤ 12 := by omega
    have hft : ∀ y ∈ xs, y.g.feet.length ≤ 1000 := fun y hy => by have := t3 y.g (List.mem_map.2 ⟨y, hy, rfl⟩); omega
    by_cases c1 : fault x.h (gs xs) = 0
    · have V := vld_of c1
      have hl0 := V.hs.l0
      have hl1 := V.hs.l1
      obtain ⟨k, hk⟩ : ∃ k : Nat, x.h.lanes.toNat = k := ⟨_, rfl⟩
      have hkk : x.h.lanes = (k : Int) := by omega
      refine JC_skip ?_
      refine JE_seq ?_
      refine JC_seq ?_
      refine JC_region ?_
      refine JL_dt rfl (det_loadKA rfl Try.isAgg24 Try.sizeOf24 rfl rfl) ?_
      refine JL_step rfl rfl rfl (jo_call rfl rfl Try.call19 rfl (lHouse_j x (by omega))) fun x25 => ?_
      refine JL_pd rfl (det_move rfl) ?_
      refine JL_step rfl rfl rfl (jo_call rfl rfl Try.call20 rfl (lGroups_j ga gc xs (by omega) hft)) fun x27 => ?_
      refine JL_step rfl rfl rfl (jo_callv rfl rfl Try.call18 rfl (CheckGroups_c x x25 xs x27)) fun _ => ?_
      refine JL_pd rfl (det_assign rfl) ?_
      refine JL_nil ?_
      refine JE_seq ?_
      refine JC_seq ?_
      refine JC_region ?_
      refine JL_dt rfl (det_loadKA rfl Try.isAgg24 Try.sizeOf24 rfl rfl) ?_
      refine JL_step rfl rfl rfl (jo_call rfl rfl Try.call19 rfl (lHouse_j x (by omega))) fun x31 => ?_
      refine JL_pd rfl (det_move rfl) ?_
      refine JL_step rfl rfl rfl (jo_call rfl rfl Try.call20 rfl (lGroups_j ga gc xs (by omega) hft)) fun x33 => ?_
      refine JL_step rfl rfl rfl (jo_call rfl rfl Try.call21 rfl (Serve_c x x31 xs x33 c1)) fun x34 => ?_
      refine JL_pd rfl (det_move rfl) ?_
      refine JL_pd rfl (det_extract rfl rfl) ?_
      refine JL_pd rfl (det_extract rfl rfl) ?_
      refine JL_pd rfl (det_assign rfl) ?_
      refine JL_pd rfl (det_assign rfl) ?_
      refine JL_nil ?_
      refine JE_seq ?_
      refine JC_seq ?_
      refine JC_region ?_
      refine JL_dt rfl (det_loadKA rfl Try.isAgg24 Try.sizeOf24 rfl rfl) ?_
      refine JL_step rfl rfl rfl (jo_call rfl rfl Try.call19 rfl (lHouse_j x (by omega))) fun x38 => ?_
      refine JL_pd rfl (det_move rfl) ?_
      refine JL_step rfl rfl rfl (jo_call rfl rfl Try.call20 rfl (lGroups_j ga gc xs (by omega) hft)) fun x40 => ?_
      refine JL_pd rfl (det_move rfl) ?_
      refine JL_step rfl rfl rfl (jo_call rfl rfl Try.call23 rfl (lList_j plan a cap (by omega))) fun x42 => ?_
      refine JL_pd rfl (det_move rfl) ?_
      refine JL_step rfl rfl rfl (jo_callv rfl rfl Try.call22 rfl (ProvePlan_c x x38 xs x40 plan x42.1 x42.2 many)) fun _ => ?_
      refine JL_pd rfl (det_assign rfl) ?_
      refine JL_nil ?_
      refine JE_seq ?_
      refine JC_seq ?_
      refine JC_region ?_
      refine JL_dt rfl (det_loadKA rfl Try.isAgg24 Try.sizeOf24 rfl rfl) ?_
      refine JL_pd rfl (det_move rfl) ?_
      refine JL_step rfl rfl rfl (jo_callv rfl rfl Try.call24 rfl (fault_jl x ga gc xs)) fun _ => ?_
      refine JL_pd rfl (det_assign rfl) ?_
      refine JL_nil ?_
      refine JE_seq ?_
      refine JC_seq ?_
      refine JC_seq ?_
      refine JC_region ?_
      refine JL_pd rfl (det_move rfl) ?_
      refine JL_pd rfl (det_move rfl) ?_
      refine JL_pd rfl (det_neq rfl rfl) ?_
      refine JL_pd rfl (det_move rfl) ?_
      -- stop: guard 3
      obtain ⟨pb, p, hp⟩ := x34
      have hF := serve_facts V.gr hp
      have hpn : p.length = xs.length := by rw [hF.n, hgl]
      have hip := IsPlan_j x ga gc xs.length (some ⟨pb, 0, none⟩) p.length p ⟨hl0, hl1⟩
      rw [IsPlan_ok hF hl0] at hip
      have hri := Right_j ga gc xs (some ⟨pb, 0, none⟩) p.length p V.gr hpn (by omega)
      rw [show rightB (gs xs) p = true from decide_eq_true hF.right] at hri
      have hmo := (Most_j x ga gc xs k hkk (by omega) V.gr (by omega) xs.length [] none 0 (by simp)).mono (pre' := KSl ga xs.length gc encG xs) (fun w hw => ⟨hw, KSl_none w⟩) (fun _ _ h => h)
      have hme : mostV k (gs xs) xs.length [] = (served p : Nat) := by rw [hk] at hF; rw [← hgl]; exact most_eq hF
      rw [hme] at hmo
      refine JL_join1 14 65 (.bool false) (fun hj => ?_) ?_
      · refine JL_split (d0 := 51) rfl (fun q2 => ?_) (fun q2 => ?_)
        · refine JL_skip rfl rfl q2 rfl ?_
          refine JL_skip rfl rfl q2 rfl ?_
          refine JL_skip rfl rfl q2 rfl ?_
          refine JL_skip rfl rfl q2 rfl ?_
          refine JL_skip rfl rfl q2 rfl ?_
          refine JL_skip rfl rfl q2 rfl ?_
          refine JL_skip rfl rfl q2 rfl ?_
          refine JL_skipU rfl rfl rfl ?_
          refine JL_skipU rfl rfl rfl ?_
          refine JL_skipU rfl rfl rfl ?_
          refine JL_skipU rfl rfl rfl ?_
          refine JL_skip rfl rfl q2 rfl ?_
          refine JL_skip rfl rfl q2 rfl ?_
          refine JL_pd rfl (det_pick_t rfl q2 rfl) ?_
          exact hj (by kernel_rfl) (stsub_consB rfl (by clear hj; first | rfl | (simp only [q2, Bool.and_true, Bool.true_and, Bool.false_and, Bool.and_false, Bool.or_true, Bool.true_or, Bool.or_false, Bool.false_or, Bool.not_true, Bool.not_false]; done) | (simp [q2]; done) | (simp at q2; done) | (simp [q2] <;> omega) | (exfalso; simp at q2; omega)) stsub_nil)
        · refine JL_guard rfl rfl q2 ?_
          refine JL_pd rfl (det_move rfl) ?_
          refine JL_guard rfl rfl q2 ?_
          refine JL_dt rfl (det_loadKA rfl Try.isAgg24 Try.sizeOf24 rfl rfl) ?_
          refine JL_guard rfl rfl q2 ?_
          refine JL_pd rfl (det_move rfl) ?_
          refine JL_guard rfl rfl q2 ?_
          refine JL_pd rfl (det_move rfl) ?_
          refine JL_guard rfl rfl q2 ?_
          refine JL_step rfl rfl rfl (jo_callv rfl rfl Try.call25 rfl (planned_jl x ga gc xs a cap plan)) fun _ => ?_
          refine JL_guard rfl rfl q2 ?_
          refine JL_pd rfl (det_eql rfl rfl) ?_
          refine JL_guard rfl rfl q2 ?_
          refine JL_pd rfl (det_move rfl) ?_
          refine JL_split (d0 := 58) rfl (fun q3 => ?_) (fun q3 => ?_)
          · refine JL_guard rfl rfl q3 ?_
            refine JL_pd rfl (det_move rfl) ?_
            refine JL_guard rfl rfl q3 ?_
            refine JL_step rfl rfl rfl (jo_callv rfl rfl Try.call26 rfl (Served_j _ _ _ (by first | omega | (show p.length ≤ 1000; omega)))) fun _ => ?_
            refine JL_guard rfl rfl q3 ?_
            refine JL_pd rfl (det_move rfl) ?_
            refine JL_guard rfl rfl q3 ?_
            refine JL_pd rfl (det_geq rfl rfl) ?_
            refine JL_guard rfl rfl q2 ?_
            refine JL_pd rfl (det_pick_t rfl q3 rfl) ?_
            refine JL_guard rfl rfl q2 ?_
            refine JL_pd rfl (det_neqB rfl rfl Try.underlying4) ?_
            refine JL_pd rfl (det_pick_f rfl q2 rfl) ?_
            exact hj (by kernel_rfl) (stsub_consB rfl (by clear hj; first | rfl | (simp only [q2, q3, Bool.and_true, Bool.true_and, Bool.false_and, Bool.and_false, Bool.or_true, Bool.true_or, Bool.or_false, Bool.false_or, Bool.not_true, Bool.not_false]; done) | (simp [q2, q3]; done) | (simp at q2; done) | (simp at q3; done) | (simp [q2, q3] <;> omega) | (exfalso; simp at q2 q3; omega) | (simp [q3] at q2; done) | (simp [q2] at q3; done)) stsub_nil)
          · refine JL_skip rfl rfl q3 rfl ?_
            refine JL_skip rfl rfl q3 rfl ?_
            refine JL_skip rfl rfl q3 rfl ?_
            refine JL_skip rfl rfl q3 rfl ?_
            refine JL_guard rfl rfl q2 ?_
            refine JL_pd rfl (det_pick_f rfl q3 rfl) ?_
            refine JL_guard rfl rfl q2 ?_
            refine JL_pd rfl (det_neqB rfl rfl Try.underlying4) ?_
            refine JL_pd rfl (det_pick_f rfl q2 rfl) ?_
            exact hj (by kernel_rfl) (stsub_consB rfl (by clear hj; first | rfl | (simp only [q2, q3, Bool.and_true, Bool.true_and, Bool.false_and, Bool.and_false, Bool.or_true, Bool.true_or, Bool.or_false, Bool.false_or, Bool.not_true, Bool.not_false]; done) | (simp [q2, q3]; done) | (simp at q2; done) | (simp at q3; done) | (simp [q2, q3] <;> omega) | (exfalso; simp at q2 q3; omega) | (simp [q3] at q2; done) | (simp [q2] at q3; done)) stsub_nil)
      refine JL_nil ?_
      refine JE_seq ?_
      refine JC_condF rfl rfl ?_
      refine JC_skip ?_
      refine JE_seq ?_
      refine JC_seq ?_
      refine JC_seq ?_
      refine JC_region ?_
      refine JL_pd rfl (det_move rfl) ?_
      refine JL_pd rfl (det_neq rfl rfl) ?_
      refine JL_nil ?_
      refine JE_seq ?_
      -- stop: cond
      refine JC_ifn rfl (fun h3 => ?_) (fun h3 => ?_)
      · exact absurd c1 h3
      refine JC_skip ?_
      refine JE_seq ?_
      refine JC_seq ?_
      refine JC_seq ?_
      refine JC_region ?_
      refine JL_pd rfl (det_move rfl) ?_
      refine JL_pd rfl (det_neq rfl rfl) ?_
      refine JL_pd rfl (det_move rfl) ?_
      -- stop: guard 2
      refine JL_join1 12 93 (.bool false) (fun hj => ?_) ?_
      · refine JL_split (d0 := 81) rfl (fun q4 => ?_) (fun q4 => ?_)
        · refine JL_skip rfl rfl q4 rfl ?_
          refine JL_skip rfl rfl q4 rfl ?_
          refine JL_skip rfl rfl q4 rfl ?_
          refine JL_skip rfl rfl q4 rfl ?_
          refine JL_skip rfl rfl q4 rfl ?_
          refine JL_pd rfl (det_pick_t rfl q4 rfl) ?_
          refine JL_pd rfl (det_move rfl) ?_
          refine JL_skip rfl rfl rfl rfl ?_
          refine JL_skip rfl rfl rfl rfl ?_
          refine JL_skip rfl rfl rfl rfl ?_
          refine JL_skip rfl rfl rfl rfl ?_
          refine JL_pd rfl (det_pick_t rfl rfl rfl) ?_
          exact hj (by kernel_rfl) (stsub_consB rfl (by clear hj; first | rfl | (simp only [q4, Bool.and_true, Bool.true_and, Bool.false_and, Bool.and_false, Bool.or_true, Bool.true_or, Bool.or_false, Bool.false_or, Bool.not_true, Bool.not_false]; done) | (simp [q4]; done) | (simp at q4; done) | (simp [q4] <;> omega) | (exfalso; simp at q4; omega)) stsub_nil)
        · refine JL_guard rfl rfl q4 ?_
          refine JL_dt rfl (det_loadKA rfl Try.isAgg24 Try.sizeOf24 rfl rfl) ?_
          refine JL_guard rfl rfl q4 ?_
          refine JL_pd rfl (det_move rfl) ?_
          refine JL_guard rfl rfl q4 ?_
          refine JL_pd rfl (det_move rfl) ?_
          refine JL_guard rfl rfl q4 ?_
          refine JL_step rfl rfl rfl (jo_callv rfl rfl Try.call27 rfl (hip)) fun _ => ?_
          refine JL_guard rfl rfl q4 ?_
          refine JL_pd rfl (det_not rfl) ?_
          refine JL_pd rfl (det_pick_f rfl q4 rfl) ?_
          refine JL_pd rfl (det_move rfl) ?_
          refine JL_split (d0 := 88) rfl (fun q5 => ?_) (fun q5 => ?_)
          · refine JL_skip rfl rfl q5 rfl ?_
            refine JL_skip rfl rfl q5 rfl ?_
            refine JL_skip rfl rfl q5 rfl ?_
            refine JL_skip rfl rfl q5 rfl ?_
            refine JL_pd rfl (det_pick_t rfl q5 rfl) ?_
            exact hj (by kernel_rfl) (stsub_consB rfl (by clear hj; first | rfl | (simp only [q4, q5, Bool.and_true, Bool.true_and, Bool.false_and, Bool.and_false, Bool.or_true, Bool.true_or, Bool.or_false, Bool.false_or, Bool.not_true, Bool.not_false]; done) | (simp [q4, q5]; done) | (simp at q4; done) | (simp at q5; done) | (simp [q4, q5] <;> omega) | (exfalso; simp at q4 q5; omega) | (simp [q5] at q4; done) | (simp [q4] at q5; done)) stsub_nil)
          · refine JL_guard rfl rfl q5 ?_
            refine JL_pd rfl (det_move rfl) ?_
            refine JL_guard rfl rfl q5 ?_
            refine JL_pd rfl (det_move rfl) ?_
            refine JL_guard rfl rfl q5 ?_
            refine JL_step rfl rfl rfl (jo_callv rfl rfl Try.call28 rfl (hri)) fun _ => ?_
            refine JL_guard rfl rfl q5 ?_
            refine JL_pd rfl (det_not rfl) ?_
            refine JL_pd rfl (det_pick_f rfl q5 rfl) ?_
            exact hj (by kernel_rfl) (stsub_consB rfl (by clear hj; first | rfl | (simp only [q4, q5, Bool.and_true, Bool.true_and, Bool.false_and, Bool.and_false, Bool.or_true, Bool.true_or, Bool.or_false, Bool.false_or, Bool.not_true, Bool.not_false]; done) | (simp [q4, q5]; done) | (simp at q4; done) | (simp at q5; done) | (simp [q4, q5] <;> omega) | (exfalso; simp at q4 q5; omega) | (simp [q5] at q4; done) | (simp [q4] at q5; done)) stsub_nil)
      refine JL_nil ?_
      refine JE_seq ?_
      refine JC_condF rfl rfl ?_
      refine JC_skip ?_
      refine JE_seq ?_
      refine JC_seq ?_
      refine JC_draw [] (by kernel_rfl) ?_
      refine JA_pd (i := 0) rfl (by kernel_rfl) rfl rfl (det_move rfl) ?_
      refine JA_pd (i := 1) rfl (by kernel_rfl) rfl rfl (det_len rfl Try.runUnderlying25) ?_
      refine JA_pd (i := 2) rfl (by kernel_rfl) rfl rfl (det_gtr rfl rfl) ?_
      refine JA_pd (i := 3) rfl (by kernel_rfl) rfl rfl (det_move rfl) ?_
      -- stop: guard 3
      by_cases c2 : 5 < xs.length
      · refine JA_is (d0 := 97) true rfl (by exact decide_eq_true (by omega)) (fun g1 => ?_)
        refine JA_skip (i := 4) rfl (by kernel_rfl) rfl rfl rfl rfl g1 ?_
        refine JA_skip (i := 5) rfl (by kernel_rfl) rfl rfl rfl rfl g1 ?_
        refine JA_skip (i := 6) rfl (by kernel_rfl) rfl rfl rfl rfl g1 ?_
        refine JA_pd (i := 7) rfl (by kernel_rfl) rfl rfl (det_pick_t rfl g1 rfl) ?_
        refine JA_pd (i := 8) rfl (by kernel_rfl) rfl rfl (det_move rfl) ?_
        refine JA_skip (i := 9) rfl (by kernel_rfl) rfl rfl rfl rfl rfl ?_
        refine JA_skip (i := 10) rfl (by kernel_rfl) rfl rfl rfl rfl rfl ?_
        refine JA_skip (i := 11) rfl (by kernel_rfl) rfl rfl rfl rfl rfl ?_
        refine JA_skip (i := 12) rfl (by kernel_rfl) rfl rfl rfl rfl rfl ?_
        refine JA_skip (i := 13) rfl (by kernel_rfl) rfl rfl rfl rfl rfl ?_
        refine JA_skip (i := 14) rfl (by kernel_rfl) rfl rfl rfl rfl rfl ?_
        refine JA_pd (i := 15) rfl (by kernel_rfl) rfl rfl (det_pick_t rfl rfl rfl) ?_
        refine JA_pd (i := 16) rfl (by kernel_rfl) rfl rfl (det_move rfl) ?_
        refine JA_gone (i := 17) (by kernel_rfl) rfl rfl rfl rfl rfl (jo_callv rfl rfl Try.call17 rfl (awake_j)) (fun _ => ⟨hsub_refl, fun _ h => h⟩) fun _ => ?_
        refine JA_pd (i := 18) rfl (by kernel_rfl) rfl rfl (det_pick_t rfl rfl rfl) ?_
        refine JA_pd (i := 19) rfl (by kernel_rfl) rfl rfl (det_assign rfl) ?_
        refine JA_done (by kernel_rfl) ?_
        refine JE_seq ?_
        refine JC_ret ?_
        -- stop: out
        refine JE_out (.inl rfl) () (results1 Try.results3 (res_tmp rfl)) rfl (List.Perm.refl _) (fun _ _ => trivial)
      · by_cases c3 : 3 < x.h.lanes
        · skip
          refine JA_is (d0 := 97) false rfl (by exact decide_eq_false (by omega)) (fun g1 => ?_)
          refine JA_gpd (i := 4) rfl (by kernel_rfl) rfl rfl rfl rfl g1 (det_fieldAddr rfl fo_24_0) ?_
          refine JA_gdt (i := 5) rfl (by kernel_rfl) (by kernel_rfl) rfl rfl rfl rfl g1 (det_loadK rfl Try.isAgg3 rfl) ?_
          refine JA_gpd (i := 6) rfl (by kernel_rfl) rfl rfl rfl rfl g1 (det_gtr rfl rfl) ?_
          refine JA_pd (i := 7) rfl (by kernel_rfl) rfl rfl (det_pick_f rfl g1 rfl) ?_
          refine JA_pd (i := 8) rfl (by kernel_rfl) rfl rfl (det_move rfl) ?_
          -- stop: guard 8
          refine JA_is (d0 := 102) true rfl (by exact decide_eq_true c3) (fun g2 => ?_)
          refine JA_skip (i := 9) rfl (by kernel_rfl) rfl rfl rfl rfl g2 ?_
          refine JA_skip (i := 10) rfl (by kernel_rfl) rfl rfl rfl rfl g2 ?_
          refine JA_skip (i := 11) rfl (by kernel_rfl) rfl rfl rfl rfl g2 ?_
          refine JA_skip (i := 12) rfl (by kernel_rfl) rfl rfl rfl rfl g2 ?_
          refine JA_skip (i := 13) rfl (by kernel_rfl) rfl rfl rfl rfl g2 ?_
          refine JA_skip (i := 14) rfl (by kernel_rfl) rfl rfl rfl rfl g2 ?_
          refine JA_pd (i := 15) rfl (by kernel_rfl) rfl rfl (det_pick_t rfl g2 rfl) ?_
          refine JA_pd (i := 16) rfl (by kernel_rfl) rfl rfl (det_move rfl) ?_
          refine JA_gone (i := 17) (by kernel_rfl) rfl rfl rfl rfl rfl (jo_callv rfl rfl Try.call17 rfl (awake_j)) (fun _ => ⟨hsub_refl, fun _ h => h⟩) fun _ => ?_
          refine JA_pd (i := 18) rfl (by kernel_rfl) rfl rfl (det_pick_t rfl rfl rfl) ?_
          refine JA_pd (i := 19) rfl (by kernel_rfl) rfl rfl (det_assign rfl) ?_
          refine JA_done (by kernel_rfl) ?_
          refine JE_seq ?_
          refine JC_ret ?_
          -- stop: out
          refine JE_out (.inl rfl) () (results1 Try.results3 (res_tmp rfl)) rfl (List.Perm.refl _) (fun _ _ => trivial)
        · skip
          refine JA_is (d0 := 97) false rfl (by exact decide_eq_false (by omega)) (fun g1 => ?_)
          refine JA_gpd (i := 4) rfl (by kernel_rfl) rfl rfl rfl rfl g1 (det_fieldAddr rfl fo_24_0) ?_
          refine JA_gdt (i := 5) rfl (by kernel_rfl) (by kernel_rfl) rfl rfl rfl rfl g1 (det_loadK rfl Try.isAgg3 rfl) ?_
          refine JA_gpd (i := 6) rfl (by kernel_rfl) rfl rfl rfl rfl g1 (det_gtr rfl rfl) ?_
          refine JA_pd (i := 7) rfl (by kernel_rfl) rfl rfl (det_pick_f rfl g1 rfl) ?_
          refine JA_pd (i := 8) rfl (by kernel_rfl) rfl rfl (det_move rfl) ?_
          -- stop: guard 8
          refine JA_is (d0 := 102) false rfl (by exact decide_eq_false (by omega)) (fun g2 => ?_)
          refine JA_gpd (i := 9) rfl (by kernel_rfl) rfl rfl rfl rfl g2 (det_move rfl) ?_
          refine JA_gdt (i := 11) rfl (by kernel_rfl) (by kernel_rfl) rfl rfl rfl rfl g2 (det_loadKA rfl Try.isAgg24 Try.sizeOf24 rfl rfl) ?_
          refine JA_gpd (i := 12) rfl (by kernel_rfl) rfl rfl rfl rfl g2 (det_move rfl) ?_
          refine JA_gone (i := 10) (by kernel_rfl) rfl rfl rfl g2 rfl (jo_callv rfl rfl Try.call26 rfl (Served_j _ _ _ (by first | omega | (show p.length ≤ 1000; omega)))) (fun _ => ⟨hsub_refl, fun _ h => h⟩) fun _ => ?_
          refine JA_gone (i := 13) (by kernel_rfl) rfl rfl rfl g2 rfl (jo_callv rfl rfl Try.call29 rfl (hmo)) (fun _ => ⟨hsub_refl, fun _ h => h⟩) fun _ => ?_
          refine JA_gpd (i := 14) rfl (by kernel_rfl) rfl rfl rfl rfl g2 (det_eql rfl rfl) ?_
          refine JA_pd (i := 15) rfl (by kernel_rfl) rfl rfl (det_pick_f rfl g2 rfl) ?_
          refine JA_pd (i := 16) rfl (by kernel_rfl) rfl rfl (det_move rfl) ?_
          -- stop: guard 16
          refine JA_is (d0 := 110) true rfl (by exact decide_eq_true rfl) (fun g3 => ?_)
          refine JA_gone (i := 17) (by kernel_rfl) rfl rfl rfl g3 rfl (jo_callv rfl rfl Try.call17 rfl (awake_j)) (fun _ => ⟨hsub_refl, fun _ h => h⟩) fun _ => ?_
          refine JA_pd (i := 18) rfl (by kernel_rfl) rfl rfl (det_pick_t rfl g3 rfl) ?_
          refine JA_pd (i := 19) rfl (by kernel_rfl) rfl rfl (det_assign rfl) ?_
          refine JA_done (by kernel_rfl) ?_
          refine JE_seq ?_
          refine JC_ret ?_
          -- stop: out
          refine JE_out (.inl rfl) () (results1 Try.results3 (res_tmp rfl)) rfl (List.Perm.refl _) (fun _ _ => trivial)
    · skip
      refine JC_skip ?_
      refine JE_seq ?_
      refine JC_seq ?_
      refine JC_region ?_
      refine JL_dt rfl (det_loadKA rfl Try.isAgg24 Try.sizeOf24 rfl rfl) ?_
      refine JL_step rfl rfl rfl (jo_call rfl rfl Try.call19 rfl (lHouse_j x (by omega))) fun x25 => ?_
      refine JL_pd rfl (det_move rfl) ?_
      refine JL_step rfl rfl rfl (jo_call rfl rfl Try.call20 rfl (lGroups_j ga gc xs (by omega) hft)) fun x27 => ?_
      refine JL_step rfl rfl rfl (jo_callv rfl rfl Try.call18 rfl (CheckGroups_c x x25 xs x27)) fun _ => ?_
      refine JL_pd rfl (det_assign rfl) ?_
      refine JL_nil ?_
      refine JE_seq ?_
      refine JC_seq ?_
      refine JC_region ?_
      refine JL_dt rfl (det_loadKA rfl Try.isAgg24 Try.sizeOf24 rfl rfl) ?_
      refine JL_step rfl rfl rfl (jo_call rfl rfl Try.call19 rfl (lHouse_j x (by omega))) fun x31 => ?_
      refine JL_pd rfl (det_move rfl) ?_
      refine JL_step rfl rfl rfl (jo_call rfl rfl Try.call20 rfl (lGroups_j ga gc xs (by omega) hft)) fun x33 => ?_
      refine JL_step rfl rfl rfl (jo_callv rfl rfl Try.call21 rfl (Serve_ce x x31 xs x33 c1)) fun _ => ?_
      refine JL_pd rfl (det_move rfl) ?_
      refine JL_pd rfl (det_extract rfl rfl) ?_
      refine JL_pd rfl (det_extract rfl rfl) ?_
      refine JL_pd rfl (det_assign rfl) ?_
      refine JL_pd rfl (det_assign rfl) ?_
      refine JL_nil ?_
      refine JE_seq ?_
      refine JC_seq ?_
      refine JC_region ?_
      refine JL_dt rfl (det_loadKA rfl Try.isAgg24 Try.sizeOf24 rfl rfl) ?_
      refine JL_step rfl rfl rfl (jo_call rfl rfl Try.call19 rfl (lHouse_j x (by omega))) fun x38 => ?_
      refine JL_pd rfl (det_move rfl) ?_
      refine JL_step rfl rfl rfl (jo_call rfl rfl Try.call20 rfl (lGroups_j ga gc xs (by omega) hft)) fun x40 => ?_
      refine JL_pd rfl (det_move rfl) ?_
      refine JL_step rfl rfl rfl (jo_call rfl rfl Try.call23 rfl (lList_j plan a cap (by omega))) fun x42 => ?_
      refine JL_pd rfl (det_move rfl) ?_
      refine JL_step rfl rfl rfl (jo_callv rfl rfl Try.call22 rfl (ProvePlan_c x x38 xs x40 plan x42.1 x42.2 many)) fun _ => ?_
      refine JL_pd rfl (det_assign rfl) ?_
      refine JL_nil ?_
      refine JE_seq ?_
      refine JC_seq ?_
      refine JC_region ?_
      refine JL_dt rfl (det_loadKA rfl Try.isAgg24 Try.sizeOf24 rfl rfl) ?_
      refine JL_pd rfl (det_move rfl) ?_
      refine JL_step rfl rfl rfl (jo_callv rfl rfl Try.call24 rfl (fault_jl x ga gc xs)) fun _ => ?_
      refine JL_pd rfl (det_assign rfl) ?_
      refine JL_nil ?_
      refine JE_seq ?_
      refine JC_seq ?_
      refine JC_seq ?_
      refine JC_region ?_
      refine JL_pd rfl (det_move rfl) ?_
      refine JL_pd rfl (det_move rfl) ?_
      refine JL_pd rfl (det_neq rfl rfl) ?_
      refine JL_pd rfl (det_move rfl) ?_
      -- stop: guard 3
      refine JL_join1 14 65 (.bool false) (fun hj => ?_) ?_
      · refine JL_split (d0 := 51) rfl (fun q6 => ?_) (fun q6 => ?_)
        · refine JL_skip rfl rfl q6 rfl ?_
          refine JL_skip rfl rfl q6 rfl ?_
          refine JL_skip rfl rfl q6 rfl ?_
          refine JL_skip rfl rfl q6 rfl ?_
          refine JL_skip rfl rfl q6 rfl ?_
          refine JL_skip rfl rfl q6 rfl ?_
          refine JL_skip rfl rfl q6 rfl ?_
          refine JL_skipU rfl rfl rfl ?_
          refine JL_skipU rfl rfl rfl ?_
          refine JL_skipU rfl rfl rfl ?_
          refine JL_skipU rfl rfl rfl ?_
          refine JL_skip rfl rfl q6 rfl ?_
          refine JL_skip rfl rfl q6 rfl ?_
          refine JL_pd rfl (det_pick_t rfl q6 rfl) ?_
          exact hj (by kernel_rfl) (stsub_consB rfl (by clear hj; first | rfl | (simp only [q6, Bool.and_true, Bool.true_and, Bool.false_and, Bool.and_false, Bool.or_true, Bool.true_or, Bool.or_false, Bool.false_or, Bool.not_true, Bool.not_false]; done) | (simp [q6]; done) | (simp at q6; done) | (simp [q6] <;> omega) | (exfalso; simp at q6; omega)) stsub_nil)
        · refine JL_guard rfl rfl q6 ?_
          refine JL_pd rfl (det_move rfl) ?_
          refine JL_guard rfl rfl q6 ?_
          refine JL_dt rfl (det_loadKA rfl Try.isAgg24 Try.sizeOf24 rfl rfl) ?_
          refine JL_guard rfl rfl q6 ?_
          refine JL_pd rfl (det_move rfl) ?_
          refine JL_guard rfl rfl q6 ?_
          refine JL_pd rfl (det_move rfl) ?_
          refine JL_guard rfl rfl q6 ?_
          refine JL_step rfl rfl rfl (jo_callv rfl rfl Try.call25 rfl (planned_jl x ga gc xs a cap plan)) fun _ => ?_
          refine JL_guard rfl rfl q6 ?_
          refine JL_pd rfl (det_eql rfl rfl) ?_
          refine JL_guard rfl rfl q6 ?_
          refine JL_pd rfl (det_move rfl) ?_
          refine JL_split (d0 := 58) rfl (fun q7 => ?_) (fun q7 => ?_)
          · refine JL_guard rfl rfl q7 ?_
            refine JL_pd rfl (det_move rfl) ?_
            refine JL_guard rfl rfl q7 ?_
            refine JL_step rfl rfl rfl (jo_callv rfl rfl Try.call26 rfl (Served_j _ _ _ (by first | omega | (show p.length ≤ 1000; omega)))) fun _ => ?_
            refine JL_guard rfl rfl q7 ?_
            refine JL_pd rfl (det_move rfl) ?_
            refine JL_guard rfl rfl q7 ?_
            refine JL_pd rfl (det_geq rfl rfl) ?_
            refine JL_guard rfl rfl q6 ?_
            refine JL_pd rfl (det_pick_t rfl q7 rfl) ?_
            refine JL_guard rfl rfl q6 ?_
            refine JL_pd rfl (det_neqB rfl rfl Try.underlying4) ?_
            refine JL_pd rfl (det_pick_f rfl q6 rfl) ?_
            exact hj (by kernel_rfl) (stsub_consB rfl (by clear hj; first | rfl | (simp only [q6, q7, Bool.and_true, Bool.true_and, Bool.false_and, Bool.and_false, Bool.or_true, Bool.true_or, Bool.or_false, Bool.false_or, Bool.not_true, Bool.not_false]; done) | (simp [q6, q7]; done) | (simp at q6; done) | (simp at q7; done) | (simp [q6, q7] <;> omega) | (exfalso; simp at q6 q7; omega) | (simp [q7] at q6; done) | (simp [q6] at q7; done)) stsub_nil)
          · refine JL_skip rfl rfl q7 rfl ?_
            refine JL_skip rfl rfl q7 rfl ?_
            refine JL_skip rfl rfl q7 rfl ?_
            refine JL_skip rfl rfl q7 rfl ?_
            refine JL_guard rfl rfl q6 ?_
            refine JL_pd rfl (det_pick_f rfl q7 rfl) ?_
            refine JL_guard rfl rfl q6 ?_
            refine JL_pd rfl (det_neqB rfl rfl Try.underlying4) ?_
            refine JL_pd rfl (det_pick_f rfl q6 rfl) ?_
            exact hj (by kernel_rfl) (stsub_consB rfl (by clear hj; first | rfl | (simp only [q6, q7, Bool.and_true, Bool.true_and, Bool.false_and, Bool.and_false, Bool.or_true, Bool.true_or, Bool.or_false, Bool.false_or, Bool.not_true, Bool.not_false]; done) | (simp [q6, q7]; done) | (simp at q6; done) | (simp at q7; done) | (simp [q6, q7] <;> omega) | (exfalso; simp at q6 q7; omega) | (simp [q7] at q6; done) | (simp [q6] at q7; done)) stsub_nil)
      refine JL_nil ?_
      refine JE_seq ?_
      refine JC_condF rfl rfl ?_
      refine JC_skip ?_
      refine JE_seq ?_
      refine JC_seq ?_
      refine JC_seq ?_
      refine JC_region ?_
      refine JL_pd rfl (det_move rfl) ?_
      refine JL_pd rfl (det_neq rfl rfl) ?_
      refine JL_nil ?_
      refine JE_seq ?_
      -- stop: cond
      refine JC_ifn rfl (fun h3 => ?_) (fun h3 => ?_)
      · refine JC_seq ?_
        refine JC_region ?_
        refine JL_pd rfl (det_move rfl) ?_
        refine JL_pd rfl (det_move rfl) ?_
        refine JL_pd rfl (det_eql rfl rfl) ?_
        refine JL_pd rfl (det_move rfl) ?_
        -- stop: guard 3
        refine JL_is (d0 := 71) true rfl (by simp) (fun h8 => ?_)
        refine JL_guard rfl rfl h8 ?_
        refine JL_pd rfl (det_move rfl) ?_
        refine JL_guard rfl rfl h8 ?_
        refine JL_pd rfl (det_len rfl Try.runUnderlying22) ?_
        refine JL_guard rfl rfl h8 ?_
        refine JL_pd rfl (det_eql rfl rfl) ?_
        refine JL_pd rfl (det_pick_t rfl h8 rfl) ?_
        refine JL_pd rfl (det_move rfl) ?_
        refine JL_is (d0 := 76) true rfl (by simp) (fun h9 => ?_)
        refine JL_guard rfl rfl h9 ?_
        refine JL_step rfl rfl rfl (jo_callv rfl rfl Try.call17 rfl (awake_j)) fun _ => ?_
        refine JL_pd rfl (det_pick_t rfl h9 rfl) ?_
        refine JL_pd rfl (det_assign rfl) ?_
        refine JL_nil ?_
        refine JE_seq ?_
        refine JC_ret ?_
        refine JE_seq_ret ?_
        refine JE_out (.inl rfl) () (results1 Try.results3 (res_tmp rfl)) ?_ (List.Perm.refl _) (fun _ _ => trivial)
        rfl
      · exact absurd h3 c1
end Go.Proofs.Ytkmaafnbefpdjaa
