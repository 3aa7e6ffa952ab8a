/- The statements about lend: LendNames. -/
import Derived.Test.YtkmaafnbefpdjaaE44
set_option linter.unusedSimpArgs false
set_option linter.unusedVariables false
namespace Go.Proofs.Ytkmaafnbefpdjaa
open Go.RowKit Go.Shelf

abbrev zG : Gx := ⟨⟨0, 0, 0, []⟩, none, 0⟩
theorem zG_ft (n : Nat) (w : World) : KFt (List.replicate n zG) w := fun z hz => by
  rw [List.eq_of_mem_replicate hz]; exact KSl_none w
theorem nB (b : Nat) (q : Nat × Nat × Nat × Nat) (T : List Int) (a : Option Addr) (c : Nat) {v : Value} (h : boundE (alX 0) paL T = v) (hl : T.length ≤ 1000) : Cv Try.prog 42 [.agg #[I 2, .slice (some ⟨b, 0, none⟩) 10 10], .slice (some ⟨q.2.2.2, 0, none⟩) 4 4, .slice a T.length c] (KAnd (KHx (alX b)) (KAnd (KGs (some ⟨q.2.2.2, 0, none⟩) 4 (paX q)) (KSl a T.length c encI T))) v := by
  have hb := Bound_jo (alX b) (some ⟨q.2.2.2, 0, none⟩) 4 (paX q) a c T al_f hl
  rw [pa_gs, show boundE (alX b) paL T = boundE (alX 0) paL T from rfl, h] at hb
  exact hb
theorem nL (b : Nat) (q : Nat × Nat × Nat × Nat) (p : List Int) (a : Option Addr) (c : Nat) (g : Int) {v : Int × Int × Int} (h : laterE (alX 0) paL p g = v) : Cv Try.prog 30 [.agg #[I 2, .slice (some ⟨b, 0, none⟩) 10 10], .slice (some ⟨q.2.2.2, 0, none⟩) 4 4, .slice a p.length c, I g] (KAnd (KHx (alX b)) (KAnd (KGs (some ⟨q.2.2.2, 0, none⟩) 4 (paX q)) (KSl a p.length c encI p))) (.tuple #[I v.1, I v.2.1, I v.2.2]) := by
  have hb := Later_j (alX b) (some ⟨q.2.2.2, 0, none⟩) 4 (paX q) a c p g
  rw [pa_gs, show laterE (alX b) paL p g = laterE (alX 0) paL p g from rfl, h] at hb
  exact hb
theorem nL2 (b : Nat) (q : Nat × Nat × Nat × Nat) (p : List Int) (ga a : Option Addr) (gc c : Nat) (g : Int) {v : Int × Int × Int} (h : laterE (alX 0) paL2 p g = v) : Cv Try.prog 30 [.agg #[I 2, .slice (some ⟨b, 0, none⟩) 10 10], .slice ga 4 gc, .slice a p.length c, I g] (KAnd (KHx (alX b)) (KAnd (KGs ga gc (paX2 q)) (KSl a p.length c encI p))) (.tuple #[I v.1, I v.2.1, I v.2.2]) := by
  have hb := Later_j (alX b) ga gc (paX2 q) a c p g
  rw [show gs (paX2 q) = paL2 from rfl, show laterE (alX b) paL2 p g = laterE (alX 0) paL2 p g from rfl, h] at hb
  exact hb
theorem nK (b : Nat) (f : List Int) (fa : Option Addr) (fc : Nat) (S : List Int) (a : Option Addr) (c : Nat) {v : Value} (h : lackE (alX 0) f S = v) : Cv Try.prog 47 [.agg #[I 2, .slice (some ⟨b, 0, none⟩) 10 10], .slice fa f.length fc, .slice a S.length c] (KAnd (KHx (alX b)) (KAnd (KSl fa f.length fc encI f) (KSl a S.length c encI S))) v := by
  have hb := Lack_j (alX b) fa fc f a c S
  rw [show lackE (alX b) f S = lackE (alX 0) f S from rfl, h] at hb
  exact hb
theorem nP (b : Nat) (q : Nat × Nat × Nat × Nat) (p : List Int) (a : Option Addr) (c : Nat) (m : Int) {v : Bool} (h : (decide (plannedE alH paL p = 0) && decide (m ≤ (served p : Nat))) = v) : Cv Try.prog 22 [.agg #[I 2, .slice (some ⟨b, 0, none⟩) 10 10], .slice (some ⟨q.2.2.2, 0, none⟩) 4 4, .slice a p.length c, I m] (KAnd (KHx (alX b)) (KAnd (KGs (some ⟨q.2.2.2, 0, none⟩) 4 (paX q)) (KSl a p.length c encI p))) (.bool v) := by
  have hb := ProvePlan_j (alX b) (some ⟨q.2.2.2, 0, none⟩) 4 (paX q) a c p m
  rw [pa_gs, show (decide (plannedE (alX b).h paL p = 0) && decide (m ≤ (served p : Nat))) = v from h] at hb
  exact hb
theorem z9 : (madeCells (Value.agg #[I 0, I 0, I 0, .slice none 0 0]).cells (9 * 4)).toList = (List.replicate 9 zG).flatMap encG := by kernel_rfl
theorem z49 : (madeCells (Value.cells (I 0)) (49 * 1)).toList = (List.replicate 49 (0 : Int)).flatMap encI := by kernel_rfl
theorem nM (b : Nat) (q : Nat × Nat × Nat × Nat) : Cr Try.prog 43 [.agg #[I 2, .slice (some ⟨b, 0, none⟩) 10 10], .slice (some ⟨q.2.2.2, 0, none⟩) 4 4] (KAnd (KHx (alX b)) (KGs (some ⟨q.2.2.2, 0, none⟩) 4 (paX q))) (fun q : Option Addr × Nat => .tuple #[.slice q.1 nmM.length q.2, I 0]) (fun q => KSl q.1 nmM.length q.2 encI nmM) :=
  Marks_jo (alX b) (some ⟨q.2.2.2, 0, none⟩) 4 (paX q) al_f
theorem nS (q : Nat × Nat × Nat × Nat) : Cv Try.prog 21 [.agg #[I 2, .slice none 0 0], .slice (some ⟨q.2.2.2, 0, none⟩) 4 4] (KGs (some ⟨q.2.2.2, 0, none⟩) 4 (paX q)) (.tuple #[.slice none 0 0, I 1]) := by
  have hb := Serve_je ⟨⟨2, []⟩, none, 0⟩ (some ⟨q.2.2.2, 0, none⟩) 4 (paX q) (by rw [pa_gs, nm_f1]; decide)
  rw [pa_gs, nm_f1] at hb
  exact hb.mono (fun w h => ⟨KSl_none w, h⟩) (fun _ _ h => h)
theorem nS9 (b : Nat) (a : Option Addr) (c : Nat) : Cv Try.prog 21 [.agg #[I 2, .slice (some ⟨b, 0, none⟩) 10 10], .slice a 9 c] (KAnd (KHx (alX b)) (KSl a 9 c encG (List.replicate 9 zG))) (.tuple #[.slice none 0 0, I 3]) := by
  have hb := Serve_je (alX b) a c (List.replicate 9 zG) (by rw [show gs (List.replicate 9 zG) = List.replicate 9 ⟨0, 0, 0, []⟩ from rfl, show fault (alX b).h (List.replicate 9 ⟨0, 0, 0, []⟩) = 3 from nm_f3]; decide)
  rw [show gs (List.replicate 9 zG) = List.replicate 9 ⟨0, 0, 0, []⟩ from rfl, show fault (alX b).h (List.replicate 9 ⟨0, 0, 0, []⟩) = 3 from nm_f3] at hb
  exact hb.mono (fun w h => ⟨h.1, h.2, zG_ft 9 w⟩) (fun _ _ h => h)
theorem nSh (b : Nat) (q : Nat × Nat × Nat × Nat) (a : Option Addr) (c : Nat) : Cv Try.prog 38 [.agg #[I 2, .slice (some ⟨b, 0, none⟩) 10 10], .slice (some ⟨q.2.2.2, 0, none⟩) 4 4, .slice a 3 c] (KAnd (KHx (alX b)) (KAnd (KGs (some ⟨q.2.2.2, 0, none⟩) 4 (paX q)) (KSl a 3 c encI [0, 1, -1]))) (.tuple #[.slice none 0 0, I 2]) := by
  have hb := Short_je (alX b) (some ⟨q.2.2.2, 0, none⟩) 4 (paX q) a c [0, 1, -1] (by rw [pa_gs, show plannedE (alX b).h paL [0, 1, -1] = 2 from nm_p2]; decide)
  rw [pa_gs, show plannedE (alX b).h paL [0, 1, -1] = 2 from nm_p2] at hb
  exact hb
theorem nF1 (b : Nat) (a : Option Addr) (c : Nat) : Cv Try.prog 46 [.agg #[I 2, .slice (some ⟨b, 0, none⟩) 10 10], .slice a 1 c] (KAnd (KHx (alX b)) (KSl a 1 c encI [10])) (.tuple #[.slice none 0 0, I 2]) := by
  have hb := Fit_je (alX b) a c [10] (by rw [show shodE (alX b).h [10] = 2 from nm_s1]; decide)
  rw [show shodE (alX b).h [10] = 2 from nm_s1] at hb
  exact hb
theorem nF2 (b : Nat) (a : Option Addr) (c : Nat) : Cv Try.prog 46 [.agg #[I 2, .slice (some ⟨b, 0, none⟩) 10 10], .slice a 49 c] (KAnd (KHx (alX b)) (KSl a 49 c encI (List.replicate 49 0))) (.tuple #[.slice none 0 0, I 3]) := by
  have hb := Fit_je (alX b) a c (List.replicate 49 0) (by rw [show shodE (alX b).h (List.replicate 49 0) = 3 from nm_s2]; decide)
  rw [show shodE (alX b).h (List.replicate 49 0) = 3 from nm_s2] at hb
  exact hb
theorem nC1 (b : Nat) (q : Nat × Nat × Nat × Nat) (a : Option Addr) (c : Nat) : Cv Try.prog 18 [.agg #[I 2, .slice (some ⟨b, 0, none⟩) 10 10], .slice a 4 c] (KAnd (KHx (alX b)) (KGs a c (paX3 q))) (I 1) := by
  have hb := CheckGroups_j (alX b) a c (paX3 q)
  rw [show gs (paX3 q) = paL3 from rfl, show fault (alX b).h paL3 = 1 from nm_f4] at hb
  exact hb
theorem nC0 (b : Nat) : Cv Try.prog 18 [.agg #[I 2, .slice (some ⟨b, 0, none⟩) 10 10], .slice none 0 0] (KHx (alX b)) (I 0) := by
  have hb := CheckGroups_j (alX b) none 0 []
  rw [show fault (alX b).h (gs []) = 0 from nm_f5] at hb
  exact hb.mono (fun w h => ⟨h, KSl_none w, fun z hz => by cases hz⟩) (fun _ _ h => h)
theorem pa2_ft {q : Nat × Nat × Nat × Nat} {w : World} (h : KFt (paX q) w) : KFt (paX2 q) w := by
  intro x hx
  simp only [paX2, List.mem_cons, List.not_mem_nil, or_false] at hx
  rcases hx with rfl | rfl | rfl | rfl
  · exact h ⟨⟨1, 2, 3, [4, 5]⟩, some ⟨q.1, 0, none⟩, 2⟩ (by simp)
  · exact h ⟨⟨2, 4, 4, [5]⟩, some ⟨q.2.1, 0, none⟩, 1⟩ (by simp)
  · exact h ⟨⟨3, 3, 6, [4]⟩, some ⟨q.2.2.1, 0, none⟩, 1⟩ (by simp)
  · exact KSl_none w
theorem pa3_ft {q : Nat × Nat × Nat × Nat} {w : World} (h : KFt (paX q) w) : KFt (paX3 q) w := by
  intro x hx
  simp only [paX3, List.mem_cons, List.not_mem_nil, or_false] at hx
  rcases hx with rfl | rfl | rfl | rfl
  · exact h ⟨⟨1, 2, 3, [4, 5]⟩, some ⟨q.1, 0, none⟩, 2⟩ (by simp)
  · exact h ⟨⟨2, 4, 4, [5]⟩, some ⟨q.2.1, 0, none⟩, 1⟩ (by simp)
  · exact h ⟨⟨3, 3, 6, [4]⟩, some ⟨q.2.2.1, 0, none⟩, 1⟩ (by simp)
  · exact KSl_none w
set_option maxRecDepth 100000 in
set_option maxHeartbeats 4000000 in
set_option synthInstance.maxHeartbeats 1000000 in
theorem LendNames_j : Cv Try.prog 15 [] KTrue (.bool true) := by
  refine Cx_of Try.func15 rfl Try.ntmps15 rfl fun w0 M0 => ?_
  refine JC_seq ?_
  refine JC_region ?_
  refine JL_pd rfl (det_assign rfl) ?_
  refine JL_nil ?_
  refine JE_seq ?_
  refine JC_seq ?_
  refine JC_region ?_
  refine JL_step rfl rfl rfl (jo_call rfl rfl Try.call53 rfl (alley_j)) fun x29 => ?_
  refine JL_step rfl rfl rfl (jo_call rfl rfl Try.call54 rfl (parties_j)) fun x30 => ?_
  -- stop: op  2 t31 := (call (Call (value f43) (t29 t30) (30 32)))   <0 1 1>   11
  refine JL_step rfl rfl rfl (jo_call rfl rfl Try.call43 rfl (nM x29 x30)) fun mk => ?_
  refine JL_pd rfl (det_move rfl) ?_
  refine JL_pd rfl (det_extract rfl rfl) ?_
  refine JL_pd rfl (det_extract rfl rfl) ?_
  refine JL_pd rfl (det_assign rfl) ?_
  refine JL_pd rfl (det_assign rfl) ?_
  refine JL_nil ?_
  refine JE_seq ?_
  refine JC_seq ?_
  refine JC_region ?_
  refine JL_step rfl rfl rfl (jo_call rfl rfl Try.call53 rfl (alley_j)) fun x35 => ?_
  refine JL_step rfl rfl rfl (jo_call rfl rfl Try.call54 rfl (parties_j)) fun x36 => ?_
  -- stop: op  2 t37 := (call (Call (value f42) (t35 t36 (slice none 0 0)) (30 32 22)))   <0 1 1>   12
  refine JL_step rfl rfl rfl (jo_callv rfl rfl Try.call42 rfl ((nB x35 x36 [] none 0 nm_b0 (by decide)).mono (pre' := KAnd (KHx (alX x35)) (KGs (some ⟨x36.2.2.2, 0, none⟩) 4 (paX x36))) (fun w h => ⟨h.1, h.2, KSl_none w⟩) (fun _ _ h => h))) fun _ => ?_
  refine JL_pd rfl (det_move rfl) ?_
  refine JL_pd rfl (det_extract rfl rfl) ?_
  refine JL_pd rfl (det_extract rfl rfl) ?_
  refine JL_pd rfl (det_assign rfl) ?_
  refine JL_pd rfl (det_assign rfl) ?_
  refine JL_nil ?_
  refine JE_seq ?_
  refine JC_seq ?_
  refine JC_region ?_
  refine JL_step rfl rfl rfl (jo_call rfl rfl Try.call53 rfl (alley_j)) fun x41 => ?_
  refine JL_step rfl rfl rfl (jo_call rfl rfl Try.call54 rfl (parties_j)) fun x42 => ?_
  refine JL_step rfl rfl rfl (jo_buildSlice rfl (bsl_22_2_0_1 _ _)) fun b43 => ?_
  -- stop: op  3 t44 := (call (Call (value f42) (t41 t42 t43) (30 32 22)))   <0 1 2 1>   13
  refine JL_lit (enc := encI) b43 2 [3, 5] noFp rfl rfl (by decide) ?_
  refine JL_step rfl rfl rfl (jo_callv rfl rfl Try.call42 rfl (nB x41 x42 [3, 5] (some ⟨b43, 0, none⟩) 2 nm_b1 (by decide))) fun _ => ?_
  refine JL_pd rfl (det_move rfl) ?_
  refine JL_pd rfl (det_extract rfl rfl) ?_
  refine JL_pd rfl (det_extract rfl rfl) ?_
  refine JL_pd rfl (det_assign rfl) ?_
  refine JL_pd rfl (det_assign rfl) ?_
  refine JL_nil ?_
  refine JE_seq ?_
  refine JC_seq ?_
  refine JC_region ?_
  refine JL_step rfl rfl rfl (jo_call rfl rfl Try.call53 rfl (alley_j)) fun x48 => ?_
  refine JL_step rfl rfl rfl (jo_buildSlice rfl (bsl_22_4_0_1_2_3 _ _ _ _)) fun b49 => ?_
  -- stop: op  2 t50 := (call (Call (value f46) (t48 t49) (30 22)))   <0 1 0>   14
  refine JL_lit (enc := encI) b49 4 nmF noFp rfl rfl (by decide) ?_
  refine JL_step rfl rfl rfl (jo_call rfl rfl Try.call46 rfl (Fit_jo (alX x48) (some ⟨b49, 0, none⟩) 4 nmF nm_s3)) fun ft => ?_
  refine JL_pd rfl (det_move rfl) ?_
  refine JL_pd rfl (det_extract rfl rfl) ?_
  refine JL_pd rfl (det_extract rfl rfl) ?_
  refine JL_pd rfl (det_assign rfl) ?_
  refine JL_pd rfl (det_assign rfl) ?_
  refine JL_nil ?_
  refine JE_seq ?_
  refine JC_seq ?_
  refine JC_region ?_
  refine JL_step rfl rfl rfl (jo_call rfl rfl Try.call53 rfl (alley_j)) fun x54 => ?_
  refine JL_step rfl rfl rfl (jo_buildSlice rfl (bsl_22_4_0_1_2_3 _ _ _ _)) fun b55 => ?_
  -- stop: op  2 t56 := (call (Call (value f48) (t54 t55) (30 22)))   <0 1 0>   15
  refine JL_lit (enc := encI) b55 4 nmF noFp rfl rfl (by decide) ?_
  refine JL_step rfl rfl rfl (jo_call rfl rfl Try.call48 rfl (Sizes_jo (alX x54) (some ⟨b55, 0, none⟩) 4 nmF nm_s3)) fun sz => ?_
  refine JL_pd rfl (det_move rfl) ?_
  refine JL_pd rfl (det_extract rfl rfl) ?_
  refine JL_pd rfl (det_extract rfl rfl) ?_
  refine JL_pd rfl (det_assign rfl) ?_
  refine JL_pd rfl (det_assign rfl) ?_
  refine JL_nil ?_
  refine JE_seq ?_
  refine JC_seq ?_
  refine JC_region ?_
  refine JL_step rfl rfl rfl (jo_call rfl rfl Try.call53 rfl (alley_j)) fun x60 => ?_
  refine JL_step rfl rfl rfl (jo_buildSlice rfl (bsl_22_4_0_1_2_3 _ _ _ _)) fun b61 => ?_
  refine JL_step rfl rfl rfl (jo_buildSlice rfl (bsl_22_1_0 _)) fun b62 => ?_
  -- stop: op  3 t63 := (call (Call (value f47) (t60 t61 t62) (30 22 22)))   <0 1 2 0>   16
  refine JL_lit (enc := encI) b61 4 nmF noFp rfl rfl (by decide) ?_
  refine JL_lit (enc := encI) b62 1 [5] noFp rfl rfl (by decide) ?_
  refine JL_step rfl rfl rfl (jo_callv rfl rfl Try.call47 rfl (nK x60 nmF (some ⟨b61, 0, none⟩) 4 [5] (some ⟨b62, 0, none⟩) 1 nm_k1)) fun _ => ?_
  refine JL_pd rfl (det_move rfl) ?_
  refine JL_pd rfl (det_extract rfl rfl) ?_
  refine JL_pd rfl (det_extract rfl rfl) ?_
  refine JL_pd rfl (det_assign rfl) ?_
  refine JL_pd rfl (det_assign rfl) ?_
  refine JL_nil ?_
  refine JE_seq ?_
  refine JC_seq ?_
  refine JC_region ?_
  refine JL_step rfl rfl rfl (jo_call rfl rfl Try.call53 rfl (alley_j)) fun x67 => ?_
  refine JL_step rfl rfl rfl (jo_call rfl rfl Try.call54 rfl (parties_j)) fun x68 => ?_
  refine JL_step rfl rfl rfl (jo_buildSlice rfl (bsl_22_4_0_1_2_3 _ _ _ _)) fun b69 => ?_
  -- stop: op  3 t70 := (call (Call (value f38) (t67 t68 t69) (30 32 22)))   <0 1 2 1>   17
  refine JL_lit (enc := encI) b69 4 nmP noFp rfl rfl (by decide) ?_
  have hsho := Short_jo (alX x67) (some ⟨x68.2.2.2, 0, none⟩) 4 (paX x68) (some ⟨b69, 0, none⟩) 4 nmP nm_p1
  simp only [pa_gs, show shV (alX x67).h.shoes (paL.zip nmP) 31 = [] from nm_short] at hsho
  refine JL_step rfl rfl rfl (jo_call rfl rfl Try.call38 rfl (hsho)) fun sho => ?_
  refine JL_pd rfl (det_move rfl) ?_
  refine JL_pd rfl (det_extract rfl rfl) ?_
  refine JL_pd rfl (det_extract rfl rfl) ?_
  refine JL_pd rfl (det_assign rfl) ?_
  refine JL_pd rfl (det_assign rfl) ?_
  refine JL_nil ?_
  refine JE_seq ?_
  refine JC_seq ?_
  refine JC_seq ?_
  refine JC_region ?_
  refine JL_pd rfl (det_move rfl) ?_
  refine JL_pd rfl (det_neq rfl rfl) ?_
  refine JL_pd rfl (det_move rfl) ?_
  -- stop: guard 2
  obtain ⟨fb, fp, hfp⟩ := ft
  obtain ⟨Sa, Sc, S1, hS1⟩ := sz
  dsimp only
  obtain ⟨hf1, hf2, hf3⟩ := nm_fit hfp
  have hbr := Bare_j (some ⟨fb, 0, none⟩) fp.length fp (by omega)
  rw [hf2, hf3] at hbr
  skip
  refine JL_is (d0 := 75) false rfl (by rfl) (fun g1 => ?_)
  refine JL_guard rfl rfl g1 ?_
  refine JL_pd rfl (det_move rfl) ?_
  refine JL_guard rfl rfl g1 ?_
  refine JL_pd rfl (det_neq rfl rfl) ?_
  refine JL_pd rfl (det_pick_f rfl g1 rfl) ?_
  refine JL_pd rfl (det_move rfl) ?_
  refine JL_is (d0 := 79) false rfl (by rfl) (fun g2 => ?_)
  refine JL_guard rfl rfl g2 ?_
  refine JL_pd rfl (det_move rfl) ?_
  refine JL_guard rfl rfl g2 ?_
  refine JL_pd rfl (det_neq rfl rfl) ?_
  refine JL_pd rfl (det_pick_f rfl g2 rfl) ?_
  refine JL_pd rfl (det_move rfl) ?_
  refine JL_is (d0 := 83) false rfl (by rfl) (fun g3 => ?_)
  refine JL_guard rfl rfl g3 ?_
  refine JL_pd rfl (det_move rfl) ?_
  refine JL_guard rfl rfl g3 ?_
  refine JL_pd rfl (det_neq rfl rfl) ?_
  refine JL_pd rfl (det_pick_f rfl g3 rfl) ?_
  refine JL_pd rfl (det_move rfl) ?_
  refine JL_is (d0 := 87) false rfl (by rfl) (fun g4 => ?_)
  refine JL_guard rfl rfl g4 ?_
  refine JL_pd rfl (det_move rfl) ?_
  refine JL_guard rfl rfl g4 ?_
  refine JL_pd rfl (det_neq rfl rfl) ?_
  refine JL_pd rfl (det_pick_f rfl g4 rfl) ?_
  refine JL_pd rfl (det_move rfl) ?_
  refine JL_is (d0 := 91) false rfl (by rfl) (fun g5 => ?_)
  refine JL_guard rfl rfl g5 ?_
  refine JL_pd rfl (det_move rfl) ?_
  refine JL_guard rfl rfl g5 ?_
  refine JL_pd rfl (det_neq rfl rfl) ?_
  refine JL_pd rfl (det_pick_f rfl g5 rfl) ?_
  refine JL_pd rfl (det_move rfl) ?_
  refine JL_is (d0 := 95) false rfl (by rfl) (fun g6 => ?_)
  refine JL_guard rfl rfl g6 ?_
  refine JL_pd rfl (det_move rfl) ?_
  refine JL_guard rfl rfl g6 ?_
  -- stop: op 24 t97 := (call (Call (value f51) (t96) (22)))   <23 22 22>   18
  refine JL_step rfl rfl rfl (jo_callv rfl rfl Try.call51 rfl (hbr)) fun _ => ?_
  refine JL_guard rfl rfl g6 ?_
  refine JL_pd rfl (det_neq rfl rfl) ?_
  refine JL_pd rfl (det_pick_f rfl g6 rfl) ?_
  refine JL_pd rfl (det_move rfl) ?_
  -- stop: guard 27
  skip
  refine JL_is (d0 := 100) false rfl (by rfl) (fun g1 => ?_)
  refine JL_guard rfl rfl g1 ?_
  refine JL_pd rfl (det_move rfl) ?_
  refine JL_guard rfl rfl g1 ?_
  refine JL_pd rfl (det_neq rfl rfl) ?_
  refine JL_pd rfl (det_pick_f rfl g1 rfl) ?_
  refine JL_pd rfl (det_move rfl) ?_
  refine JL_is (d0 := 104) false rfl (by rfl) (fun g2 => ?_)
  refine JL_guard rfl rfl g2 ?_
  refine JL_pd rfl (det_move rfl) ?_
  refine JL_guard rfl rfl g2 ?_
  refine JL_pd rfl (det_neq rfl rfl) ?_
  refine JL_pd rfl (det_pick_f rfl g2 rfl) ?_
  refine JL_pd rfl (det_move rfl) ?_
  refine JL_is (d0 := 108) false rfl (by rfl) (fun g3 => ?_)
  refine JL_guard rfl rfl g3 ?_
  refine JL_pd rfl (det_move rfl) ?_
  refine JL_guard rfl rfl g3 ?_
  refine JL_pd rfl (det_neq rfl rfl) ?_
  refine JL_pd rfl (det_pick_f rfl g3 rfl) ?_
  refine JL_pd rfl (det_move rfl) ?_
  refine JL_is (d0 := 112) false rfl (by rfl) (fun g4 => ?_)
  refine JL_guard rfl rfl g4 ?_
  refine JL_pd rfl (det_move rfl) ?_
  refine JL_guard rfl rfl g4 ?_
  refine JL_pd rfl (det_neq rfl rfl) ?_
  refine JL_pd rfl (det_pick_f rfl g4 rfl) ?_
  refine JL_pd rfl (det_move rfl) ?_
  refine JL_is (d0 := 116) false rfl (by rfl) (fun g5 => ?_)
  refine JL_guard rfl rfl g5 ?_
  refine JL_pd rfl (det_move rfl) ?_
  refine JL_guard rfl rfl g5 ?_
  refine JL_pd rfl (det_len rfl Try.runUnderlying22) ?_
  refine JL_guard rfl rfl g5 ?_
  refine JL_pd rfl (det_neq rfl rfl) ?_
  refine JL_pd rfl (det_pick_f rfl g5 rfl) ?_
  refine JL_pd rfl (det_move rfl) ?_
  refine JL_is (d0 := 121) false rfl (by rfl) (fun g6 => ?_)
  refine JL_guard rfl rfl g6 ?_
  refine JL_step rfl rfl rfl (jo_call rfl rfl Try.call53 rfl (alley_j)) fun x122 => ?_
  refine JL_guard rfl rfl g6 ?_
  refine JL_step rfl rfl rfl (jo_call rfl rfl Try.call54 rfl (parties_j)) fun x123 => ?_
  refine JL_guard rfl rfl g6 ?_
  refine JL_step rfl rfl rfl (jo_buildSlice rfl (bsl_22_4_0_1_2_3 _ _ _ _)) fun b124 => ?_
  refine JL_guard rfl rfl g6 ?_
  -- stop: op 52 t125 := (call (Call (value f22) (t122 t123 t124 4) (30 32 22 3)))   <49 50 51 50 48>   18
  refine JL_lit (enc := encI) b124 4 nmP noFp rfl rfl (by decide) ?_
  refine JL_step rfl rfl rfl (jo_callv rfl rfl Try.call22 rfl (nP x122 x123 nmP (some ⟨b124, 0, none⟩) 4 4 (v := false) (by decide +kernel))) fun _ => ?_
  refine JL_pd rfl (det_pick_f rfl g6 rfl) ?_
  refine JL_pd rfl (det_move rfl) ?_
  -- stop: guard 54
  skip
  refine JL_is (d0 := 127) false rfl (by rfl) (fun g1 => ?_)
  refine JL_guard rfl rfl g1 ?_
  refine JL_step rfl rfl rfl (jo_call rfl rfl Try.call53 rfl (alley_j)) fun x128 => ?_
  refine JL_guard rfl rfl g1 ?_
  refine JL_step rfl rfl rfl (jo_call rfl rfl Try.call54 rfl (parties_j)) fun x129 => ?_
  refine JL_guard rfl rfl g1 ?_
  refine JL_step rfl rfl rfl (jo_buildSlice rfl (bsl_22_4_0_1_2_3 _ _ _ _)) fun b130 => ?_
  refine JL_guard rfl rfl g1 ?_
  -- stop: op 58 t131 := (call (Call (value f22) (t128 t129 t130 3) (30 32 22 3)))   <55 56 57 56 54>   18
  refine JL_lit (enc := encI) b130 4 nmP noFp rfl rfl (by decide) ?_
  refine JL_step rfl rfl rfl (jo_callv rfl rfl Try.call22 rfl (nP x128 x129 nmP (some ⟨b130, 0, none⟩) 4 3 (v := true) (by decide +kernel))) fun _ => ?_
  refine JL_guard rfl rfl g1 ?_
  refine JL_pd rfl (det_not rfl) ?_
  refine JL_pd rfl (det_pick_f rfl g1 rfl) ?_
  refine JL_pd rfl (det_move rfl) ?_
  -- stop: guard 61
  skip
  refine JL_is (d0 := 134) false rfl (by rfl) (fun g1 => ?_)
  refine JL_guard rfl rfl g1 ?_
  refine JL_step rfl rfl rfl (jo_call rfl rfl Try.call53 rfl (alley_j)) fun x135 => ?_
  refine JL_guard rfl rfl g1 ?_
  refine JL_step rfl rfl rfl (jo_call rfl rfl Try.call54 rfl (parties_j)) fun x136 => ?_
  refine JL_guard rfl rfl g1 ?_
  refine JL_step rfl rfl rfl (jo_buildSlice rfl (bsl_22_4_0_1_2_3 _ _ _ _)) fun b137 => ?_
  refine JL_guard rfl rfl g1 ?_
  -- stop: op 65 t138 := (call (Call (value f22) (t135 t136 t137 1) (30 32 22 3)))   <62 63 64 63 61>   18
  refine JL_lit (enc := encI) b137 4 [0, 0, -1, 0] noFp rfl rfl (by decide) ?_
  refine JL_step rfl rfl rfl (jo_callv rfl rfl Try.call22 rfl (nP x135 x136 [0, 0, -1, 0] (some ⟨b137, 0, none⟩) 4 1 (v := false) (by decide +kernel))) fun _ => ?_
  refine JL_pd rfl (det_pick_f rfl g1 rfl) ?_
  refine JL_nil ?_
  refine JE_seq ?_
  -- stop: cond
  refine JC_cond rfl (fun k1 => ?_) (fun k1 => ?_)
  · cases k1
  refine JC_skip ?_
  refine JE_seq ?_
  refine JC_seq ?_
  refine JC_region ?_
  refine JL_step rfl rfl rfl (jo_call rfl rfl Try.call53 rfl (alley_j)) fun x141 => ?_
  refine JL_step rfl rfl rfl (jo_call rfl rfl Try.call54 rfl (parties_j)) fun x142 => ?_
  refine JL_pd rfl (det_move rfl) ?_
  -- stop: op  3 t144 := (call (Call (value f42) (t141 t142 t143) (30 32 22)))   <0 1 2 1>   21
  refine JL_step rfl rfl rfl (jo_callv rfl rfl Try.call42 rfl (nB x141 x142 nmM mk.1 mk.2 nm_marks.1 (by have := nm_marks.2; omega))) fun _ => ?_
  refine JL_pd rfl (det_move rfl) ?_
  refine JL_pd rfl (det_extract rfl rfl) ?_
  refine JL_pd rfl (det_extract rfl rfl) ?_
  refine JL_pd rfl (det_assign rfl) ?_
  refine JL_pd rfl (det_assign rfl) ?_
  refine JL_nil ?_
  refine JE_seq ?_
  refine JC_seq ?_
  refine JC_region ?_
  refine JL_step rfl rfl rfl (jo_call rfl rfl Try.call53 rfl (alley_j)) fun x148 => ?_
  refine JL_step rfl rfl rfl (jo_buildSlice rfl (bsl_22_4_0_1_2_3 _ _ _ _)) fun b149 => ?_
  refine JL_pd rfl (det_move rfl) ?_
  -- stop: op  3 t151 := (call (Call (value f47) (t148 t149 t150) (30 22 22)))   <0 1 2 0>   22
  refine JL_lit (enc := encI) b149 4 nmF noFp rfl rfl (by decide) ?_
  obtain ⟨hr1, p', hp', hl1⟩ := hS1
  have hkS : lackE (alX 0) nmF S1 = .tuple #[I 1, I 0] := by
    unfold lackE
    rw [if_neg (by rw [show shodE (alX 0).h nmF = 0 from nm_s3]; decide), if_pos hr1, show lack (alX 0).h.shoes nmF S1 = (bare p' : Nat) from hl1, (nm_fit hp').1]; rfl
  refine JL_step rfl rfl rfl (jo_callv rfl rfl Try.call47 rfl (nK x148 nmF (some ⟨b149, 0, none⟩) 4 S1 Sa Sc hkS)) fun _ => ?_
  refine JL_pd rfl (det_move rfl) ?_
  refine JL_pd rfl (det_extract rfl rfl) ?_
  refine JL_pd rfl (det_extract rfl rfl) ?_
  refine JL_pd rfl (det_assign rfl) ?_
  refine JL_pd rfl (det_assign rfl) ?_
  refine JL_nil ?_
  refine JE_seq ?_
  refine JC_seq ?_
  refine JC_seq ?_
  refine JC_region ?_
  refine JL_pd rfl (det_move rfl) ?_
  refine JL_pd rfl (det_neq rfl rfl) ?_
  refine JL_pd rfl (det_move rfl) ?_
  -- stop: guard 2
  skip
  refine JL_is (d0 := 156) false rfl (by rfl) (fun g1 => ?_)
  refine JL_guard rfl rfl g1 ?_
  refine JL_pd rfl (det_move rfl) ?_
  refine JL_guard rfl rfl g1 ?_
  refine JL_pd rfl (det_neq rfl rfl) ?_
  refine JL_pd rfl (det_pick_f rfl g1 rfl) ?_
  refine JL_pd rfl (det_move rfl) ?_
  refine JL_is (d0 := 160) false rfl (by rfl) (fun g2 => ?_)
  refine JL_guard rfl rfl g2 ?_
  refine JL_pd rfl (det_move rfl) ?_
  refine JL_guard rfl rfl g2 ?_
  refine JL_pd rfl (det_neq rfl rfl) ?_
  refine JL_pd rfl (det_pick_f rfl g2 rfl) ?_
  refine JL_pd rfl (det_move rfl) ?_
  refine JL_is (d0 := 164) false rfl (by rfl) (fun g3 => ?_)
  refine JL_guard rfl rfl g3 ?_
  refine JL_pd rfl (det_move rfl) ?_
  refine JL_guard rfl rfl g3 ?_
  refine JL_pd rfl (det_neq rfl rfl) ?_
  refine JL_pd rfl (det_pick_f rfl g3 rfl) ?_
  refine JL_nil ?_
  refine JE_seq ?_
  -- stop: cond
  refine JC_cond rfl (fun k2 => ?_) (fun k2 => ?_)
  · cases k2
  refine JC_skip ?_
  refine JE_seq ?_
  refine JC_seq ?_
  refine JC_region ?_
  refine JL_step rfl rfl rfl (jo_call rfl rfl Try.call53 rfl (alley_j)) fun x169 => ?_
  refine JL_step rfl rfl rfl (jo_call rfl rfl Try.call54 rfl (parties_j)) fun x170 => ?_
  refine JL_step rfl rfl rfl (jo_buildSlice rfl (bsl_22_2_0_1 _ _)) fun b171 => ?_
  -- stop: op  3 t172 := (call (Call (value f42) (t169 t170 t171) (30 32 22)))   <0 1 2 1>   26
  refine JL_lit (enc := encI) b171 2 [5, 3] noFp rfl rfl (by decide) ?_
  refine JL_step rfl rfl rfl (jo_callv rfl rfl Try.call42 rfl (nB x169 x170 [5, 3] (some ⟨b171, 0, none⟩) 2 nm_b2 (by decide))) fun _ => ?_
  refine JL_pd rfl (det_move rfl) ?_
  refine JL_pd rfl (det_extract rfl rfl) ?_
  refine JL_pd rfl (det_extract rfl rfl) ?_
  refine JL_pd rfl (det_assign rfl) ?_
  refine JL_nil ?_
  refine JE_seq ?_
  refine JC_seq ?_
  refine JC_region ?_
  refine JL_pd rfl (det_build rfl (bld_30_0 _)) ?_
  refine JL_step rfl rfl rfl (jo_call rfl rfl Try.call54 rfl (parties_j)) fun x177 => ?_
  -- stop: op  2 t178 := (call (Call (value f21) (t176 t177) (30 32)))   <0 1 1>   27
  refine JL_step rfl rfl rfl (jo_callv rfl rfl Try.call21 rfl (nS x177)) fun _ => ?_
  refine JL_pd rfl (det_move rfl) ?_
  refine JL_pd rfl (det_extract rfl rfl) ?_
  refine JL_pd rfl (det_extract rfl rfl) ?_
  refine JL_pd rfl (det_assign rfl) ?_
  refine JL_nil ?_
  refine JE_seq ?_
  refine JC_seq ?_
  -- stop: draw
  refine JC_cutF (γ := Unit) (fun _ => True) (fun u => [(6, I 3)]) (fun u => []) [] (fun K hK => ?_) (fun u _ => ?_)
  · refine JC_draw [] (by kernel_rfl) ?_
    refine JA_ready (rs := [0, 1]) (by kernel_rfl) rfl ?_
    refine JAl_cons (i := 0) rfl rfl (jo_call rfl rfl Try.call53 rfl (alley_j)) (fun _ => ⟨hsub_drop 0 rfl, fun _ h => h.2⟩) (fun x182 => ?_) ?_
    · refine JA_one (i := 1) (by kernel_rfl) rfl rfl (jo_makeSlice (n := 9) (zv := .agg #[I 0, I 0, I 0, .slice none 0 0]) (z := 4) (bytes := 48) rfl rfl rfl Try.underlying32 (by kernel_rfl) (by decide) (by decide)) (fun _ => ⟨hsub_drop 1 rfl, fun _ h => h⟩) fun b183 => ?_
      refine JA_slice (enc := encG) (v := .slice (some ⟨b183, 0, none⟩) 9 9) (List.replicate 9 zG) noFp z9 (show 9 = (List.replicate 9 zG).length from rfl) ?_
      rintro ka kc hkv
      cases hkv
      refine JA_one (i := 2) (by kernel_rfl) rfl rfl (jo_callv rfl rfl Try.call21 rfl (nS9 x182 _ _)) (fun _ => ⟨hsub_refl, fun _ h => h⟩) fun _ => ?_
      refine JA_pd (i := 3) rfl (by kernel_rfl) rfl rfl (det_move rfl) ?_
      refine JA_pd (i := 4) rfl (by kernel_rfl) rfl rfl (det_extract rfl rfl) ?_
      refine JA_pd (i := 5) rfl (by kernel_rfl) rfl rfl (det_extract rfl rfl) ?_
      refine JA_pd (i := 6) rfl (by kernel_rfl) rfl rfl (det_assign rfl) ?_
      refine JA_done (by kernel_rfl) ?_
      exact JE_cutF hK () trivial (stsub_cons rfl stsub_nil) (ht_nil)
    refine JAl_cons (i := 1) rfl rfl (jo_makeSlice (n := 9) (zv := .agg #[I 0, I 0, I 0, .slice none 0 0]) (z := 4) (bytes := 48) rfl rfl rfl Try.underlying32 (by kernel_rfl) (by decide) (by decide)) (fun _ => ⟨hsub_drop 1 rfl, fun _ h => h⟩) (fun b183 => ?_) ?_
    · refine JA_one (i := 0) (by kernel_rfl) rfl rfl (jo_call rfl rfl Try.call53 rfl (alley_j)) (fun _ => ⟨hsub_drop 0 rfl, fun _ h => h.2⟩) fun x182 => ?_
      refine JA_slice (enc := encG) (v := .slice (some ⟨b183, 0, none⟩) 9 9) (List.replicate 9 zG) noFp z9 (show 9 = (List.replicate 9 zG).length from rfl) ?_
      rintro ka kc hkv
      cases hkv
      refine JA_one (i := 2) (by kernel_rfl) rfl rfl (jo_callv rfl rfl Try.call21 rfl (nS9 x182 _ _)) (fun _ => ⟨hsub_refl, fun _ h => h⟩) fun _ => ?_
      refine JA_pd (i := 3) rfl (by kernel_rfl) rfl rfl (det_move rfl) ?_
      refine JA_pd (i := 4) rfl (by kernel_rfl) rfl rfl (det_extract rfl rfl) ?_
      refine JA_pd (i := 5) rfl (by kernel_rfl) rfl rfl (det_extract rfl rfl) ?_
      refine JA_pd (i := 6) rfl (by kernel_rfl) rfl rfl (det_assign rfl) ?_
      refine JA_done (by kernel_rfl) ?_
      exact JE_cutF hK () trivial (stsub_cons rfl stsub_nil) (ht_nil)
    exact JAl_nil
  dsimp only [List.cons_append, List.nil_append]
  refine JC_seq ?_
  refine JC_region ?_
  refine JL_step rfl rfl rfl (jo_call rfl rfl Try.call53 rfl (alley_j)) fun x188 => ?_
  refine JL_step rfl rfl rfl (jo_call rfl rfl Try.call54 rfl (parties_j)) fun x189 => ?_
  refine JL_step rfl rfl rfl (jo_buildSlice rfl (bsl_22_4_0_1_2_3 _ _ _ _)) fun b190 => ?_
  -- stop: op  3 t191 := (call (Call (value f30) (t188 t189 t190 2) (30 32 22 3)))   <0 1 2 1>   29
  refine JL_lit (enc := encI) b190 4 [0, 0, -1, 0] noFp rfl rfl (by decide) ?_
  refine JL_step rfl rfl rfl (jo_callv rfl rfl Try.call30 rfl (nL x188 x189 [0, 0, -1, 0] (some ⟨b190, 0, none⟩) 4 2 nm_l1)) fun _ => ?_
  refine JL_pd rfl (det_move rfl) ?_
  refine JL_pd rfl (det_extract rfl rfl) ?_
  refine JL_pd rfl (det_extract rfl rfl) ?_
  refine JL_pd rfl (det_extract rfl rfl) ?_
  refine JL_pd rfl (det_assign rfl) ?_
  refine JL_nil ?_
  refine JE_seq ?_
  refine JC_seq ?_
  refine JC_region ?_
  refine JL_step rfl rfl rfl (jo_call rfl rfl Try.call53 rfl (alley_j)) fun x196 => ?_
  refine JL_step rfl rfl rfl (jo_call rfl rfl Try.call54 rfl (parties_j)) fun x197 => ?_
  refine JL_step rfl rfl rfl (jo_buildSlice rfl (bsl_22_4_0_1_2_3 _ _ _ _)) fun b198 => ?_
  -- stop: op  3 t199 := (call (Call (value f30) (t196 t197 t198 3) (30 32 22 3)))   <0 1 2 1>   30
  refine JL_lit (enc := encI) b198 4 nmP noFp rfl rfl (by decide) ?_
  refine JL_step rfl rfl rfl (jo_callv rfl rfl Try.call30 rfl (nL x196 x197 nmP (some ⟨b198, 0, none⟩) 4 3 nm_l2)) fun _ => ?_
  refine JL_pd rfl (det_move rfl) ?_
  refine JL_pd rfl (det_extract rfl rfl) ?_
  refine JL_pd rfl (det_extract rfl rfl) ?_
  refine JL_pd rfl (det_extract rfl rfl) ?_
  refine JL_pd rfl (det_assign rfl) ?_
  refine JL_nil ?_
  refine JE_seq ?_
  refine JC_seq ?_
  refine JC_region ?_
  refine JL_step rfl rfl rfl (jo_call rfl rfl Try.call53 rfl (alley_j)) fun x204 => ?_
  refine JL_step rfl rfl rfl (jo_call rfl rfl Try.call54 rfl (parties_j)) fun x205 => ?_
  refine JL_step rfl rfl rfl (jo_buildSlice rfl (bsl_22_4_0_1_2_3 _ _ _ _)) fun b206 => ?_
  -- stop: op  3 t207 := (call (Call (value f30) (t204 t205 t206 4) (30 32 22 3)))   <0 1 2 1>   31
  refine JL_lit (enc := encI) b206 4 nmP noFp rfl rfl (by decide) ?_
  refine JL_step rfl rfl rfl (jo_callv rfl rfl Try.call30 rfl (nL x204 x205 nmP (some ⟨b206, 0, none⟩) 4 4 nm_l3)) fun _ => ?_
  refine JL_pd rfl (det_move rfl) ?_
  refine JL_pd rfl (det_extract rfl rfl) ?_
  refine JL_pd rfl (det_extract rfl rfl) ?_
  refine JL_pd rfl (det_extract rfl rfl) ?_
  refine JL_pd rfl (det_assign rfl) ?_
  refine JL_nil ?_
  refine JE_seq ?_
  refine JC_seq ?_
  refine JC_region ?_
  refine JL_step rfl rfl rfl (jo_call rfl rfl Try.call53 rfl (alley_j)) fun x212 => ?_
  refine JL_step rfl rfl rfl (jo_call rfl rfl Try.call54 rfl (parties_j)) fun x213 => ?_
  refine JL_step rfl rfl rfl (jo_buildSlice rfl (bsl_22_3_0_1_2 _ _ _)) fun b214 => ?_
  -- stop: op  3 t215 := (call (Call (value f38) (t212 t213 t214) (30 32 22)))   <0 1 2 1>   32
  refine JL_lit (enc := encI) b214 3 [0, 1, -1] noFp rfl rfl (by decide) ?_
  refine JL_step rfl rfl rfl (jo_callv rfl rfl Try.call38 rfl (nSh x212 x213 (some ⟨b214, 0, none⟩) 3)) fun _ => ?_
  refine JL_pd rfl (det_move rfl) ?_
  refine JL_pd rfl (det_extract rfl rfl) ?_
  refine JL_pd rfl (det_extract rfl rfl) ?_
  refine JL_pd rfl (det_assign rfl) ?_
  refine JL_nil ?_
  refine JE_seq ?_
  refine JC_seq ?_
  refine JC_region ?_
  refine JL_step rfl rfl rfl (jo_call rfl rfl Try.call54 rfl parties_o) fun b218 => ?_
  refine JL_pd rfl (det_assign rfl) ?_
  refine JL_nil ?_
  refine JE_seq ?_
  refine JC_seq ?_
  refine JC_region ?_
  refine JL_pd rfl (det_move rfl) ?_
  refine JL_pd rfl (det_indexOwn (i := 2) rfl rfl (by first | rfl | omega) (by first | assumption | omega) Try.runUnderlying32 Try.sizeOf81) ?_
  refine JL_pd rfl (det_fieldAddr rfl fo_81_1) ?_
  refine JL_pd rfl (det_fieldAddr rfl fo_79_1) ?_
  refine JL_step0 rfl rfl (jo_storeO (xs' := (paX2 b218).flatMap encG) (vs := [I 30]) rfl rfl rfl rfl Try.sizeOf3 (by show 2 * 4 + 1 + 1 + 1 ≤ 16; decide) rfl) fun _ => ?_
  refine JL_nil ?_
  refine JE_seq ?_
  refine JC_seq ?_
  refine JC_region ?_
  refine JL_step rfl rfl rfl (jo_call rfl rfl Try.call53 rfl (alley_j)) fun x224 => ?_
  refine JL_pd rfl (det_move rfl) ?_
  refine JL_step rfl rfl rfl (jo_buildSlice rfl (bsl_22_4_0_1_2_3 _ _ _ _)) fun b226 => ?_
  -- stop: op  3 t227 := (call (Call (value f30) (t224 t225 t226 2) (30 32 22 3)))   <0 1 2 0>   35
  refine JL_lit (enc := encI) b226 4 nmP noFp rfl rfl (by decide) ?_
  refine JL_slice (enc := encG) (v := .slice (some ⟨b218.2.2.2, 0, none⟩) 4 4) (paX2 b218) noFp rfl rfl ?_
  rintro ka kc hkv
  cases hkv
  refine JL_know (R' := KAnd (KFt (paX2 b218)) _) (fun w h => ⟨pa2_ft (Knows.know (F := KFt (paX b218)) w h), h⟩) ?_
  refine JL_step rfl rfl rfl (jo_callv rfl rfl Try.call30 rfl (nL2 x224 b218 nmP (some ⟨b218.2.2.2, 0, none⟩) (some ⟨b226, 0, none⟩) 4 4 2 nm_l4)) fun _ => ?_
  refine JL_pd rfl (det_move rfl) ?_
  refine JL_pd rfl (det_extract rfl rfl) ?_
  refine JL_pd rfl (det_extract rfl rfl) ?_
  refine JL_pd rfl (det_extract rfl rfl) ?_
  refine JL_pd rfl (det_assign rfl) ?_
  refine JL_pd rfl (det_assign rfl) ?_
  refine JL_pd rfl (det_assign rfl) ?_
  refine JL_nil ?_
  refine JE_seq ?_
  refine JC_seq ?_
  refine JC_region ?_
  refine JL_step rfl rfl rfl (jo_call rfl rfl Try.call53 rfl (alley_j)) fun x232 => ?_
  refine JL_step rfl rfl rfl (jo_buildSlice rfl (bsl_22_1_0 _)) fun b233 => ?_
  -- stop: op  2 t234 := (call (Call (value f46) (t232 t233) (30 22)))   <0 1 0>   36
  refine JL_lit (enc := encI) b233 1 [10] noFp rfl rfl (by decide) ?_
  refine JL_step rfl rfl rfl (jo_callv rfl rfl Try.call46 rfl (nF1 x232 (some ⟨b233, 0, none⟩) 1)) fun _ => ?_
  refine JL_pd rfl (det_move rfl) ?_
  refine JL_pd rfl (det_extract rfl rfl) ?_
  refine JL_pd rfl (det_extract rfl rfl) ?_
  refine JL_pd rfl (det_assign rfl) ?_
  refine JL_pd rfl (det_assign rfl) ?_
  refine JL_nil ?_
  refine JE_seq ?_
  refine JC_seq ?_
  refine JC_region ?_
  refine JL_step rfl rfl rfl (jo_call rfl rfl Try.call53 rfl (alley_j)) fun x238 => ?_
  refine JL_step rfl rfl rfl (jo_buildSlice rfl (bsl_22_2_0_1 _ _)) fun b239 => ?_
  -- stop: op  2 t240 := (call (Call (value f47) (t238 (slice none 0 0) t239) (30 22 22)))   <0 1 0>   37
  refine JL_lit (enc := encI) b239 2 [5, 4] noFp rfl rfl (by decide) ?_
  refine JL_step rfl rfl rfl (jo_callv rfl rfl Try.call47 rfl ((nK x238 [] none 0 [5, 4] (some ⟨b239, 0, none⟩) 2 nm_k2).mono (pre' := KAnd (KHx (alX x238)) (KSl (some ⟨b239, 0, none⟩) 2 2 encI [5, 4])) (fun w h => ⟨h.1, KSl_none w, h.2⟩) (fun _ _ h => h))) fun _ => ?_
  refine JL_pd rfl (det_move rfl) ?_
  refine JL_pd rfl (det_extract rfl rfl) ?_
  refine JL_pd rfl (det_extract rfl rfl) ?_
  refine JL_pd rfl (det_assign rfl) ?_
  refine JL_pd rfl (det_assign rfl) ?_
  refine JL_nil ?_
  refine JE_seq ?_
  refine JC_seq ?_
  -- stop: draw
  refine JC_cutF (γ := Unit) (fun _ => True) (fun u => [(25, .slice none 0 0), (26, I 3)]) (fun u => []) [] (fun K hK => ?_) (fun u _ => ?_)
  · refine JC_draw [] (by kernel_rfl) ?_
    refine JA_ready (rs := [0, 1]) (by kernel_rfl) rfl ?_
    refine JAl_cons (i := 0) rfl rfl (jo_call rfl rfl Try.call53 rfl (alley_j)) (fun _ => ⟨hsub_drop 0 rfl, fun _ h => h.2⟩) (fun x244 => ?_) ?_
    · refine JA_one (i := 1) (by kernel_rfl) rfl rfl (jo_makeSlice (n := 49) (zv := I 0) (z := 1) (bytes := 8) rfl rfl rfl Try.underlying22 (by kernel_rfl) (by decide) (by decide)) (fun _ => ⟨hsub_drop 1 rfl, fun _ h => h⟩) fun b245 => ?_
      refine JA_slice (enc := encI) (v := .slice (some ⟨b245, 0, none⟩) 49 49) (List.replicate 49 0) noFp z49 (show 49 = (List.replicate 49 (0 : Int)).length from rfl) ?_
      rintro ka kc hkv
      cases hkv
      refine JA_one (i := 2) (by kernel_rfl) rfl rfl (jo_callv rfl rfl Try.call46 rfl (nF2 x244 _ _)) (fun _ => ⟨hsub_refl, fun _ h => h⟩) fun _ => ?_
      refine JA_pd (i := 3) rfl (by kernel_rfl) rfl rfl (det_move rfl) ?_
      refine JA_pd (i := 4) rfl (by kernel_rfl) rfl rfl (det_extract rfl rfl) ?_
      refine JA_pd (i := 5) rfl (by kernel_rfl) rfl rfl (det_extract rfl rfl) ?_
      refine JA_pd (i := 6) rfl (by kernel_rfl) rfl rfl (det_assign rfl) ?_
      refine JA_pd (i := 7) rfl (by kernel_rfl) rfl rfl (det_assign rfl) ?_
      refine JA_done (by kernel_rfl) ?_
      exact JE_cutF hK () trivial (stsub_cons rfl (stsub_cons rfl stsub_nil)) (ht_nil)
    refine JAl_cons (i := 1) rfl rfl (jo_makeSlice (n := 49) (zv := I 0) (z := 1) (bytes := 8) rfl rfl rfl Try.underlying22 (by kernel_rfl) (by decide) (by decide)) (fun _ => ⟨hsub_drop 1 rfl, fun _ h => h⟩) (fun b245 => ?_) ?_
    · refine JA_one (i := 0) (by kernel_rfl) rfl rfl (jo_call rfl rfl Try.call53 rfl (alley_j)) (fun _ => ⟨hsub_drop 0 rfl, fun _ h => h.2⟩) fun x244 => ?_
      refine JA_slice (enc := encI) (v := .slice (some ⟨b245, 0, none⟩) 49 49) (List.replicate 49 0) noFp z49 (show 49 = (List.replicate 49 (0 : Int)).length from rfl) ?_
      rintro ka kc hkv
      cases hkv
      refine JA_one (i := 2) (by kernel_rfl) rfl rfl (jo_callv rfl rfl Try.call46 rfl (nF2 x244 _ _)) (fun _ => ⟨hsub_refl, fun _ h => h⟩) fun _ => ?_
      refine JA_pd (i := 3) rfl (by kernel_rfl) rfl rfl (det_move rfl) ?_
      refine JA_pd (i := 4) rfl (by kernel_rfl) rfl rfl (det_extract rfl rfl) ?_
      refine JA_pd (i := 5) rfl (by kernel_rfl) rfl rfl (det_extract rfl rfl) ?_
      refine JA_pd (i := 6) rfl (by kernel_rfl) rfl rfl (det_assign rfl) ?_
      refine JA_pd (i := 7) rfl (by kernel_rfl) rfl rfl (det_assign rfl) ?_
      refine JA_done (by kernel_rfl) ?_
      exact JE_cutF hK () trivial (stsub_cons rfl (stsub_cons rfl stsub_nil)) (ht_nil)
    exact JAl_nil
  dsimp only [List.cons_append, List.nil_append]
  refine JC_seq ?_
  refine JC_region ?_
  refine JL_step rfl rfl rfl (jo_call rfl rfl Try.call54 rfl parties_o) fun b249 => ?_
  refine JL_pd rfl (det_assign rfl) ?_
  refine JL_nil ?_
  refine JE_seq ?_
  refine JC_seq ?_
  refine JC_region ?_
  refine JL_pd rfl (det_move rfl) ?_
  refine JL_pd rfl (det_indexOwn (i := 1) rfl rfl (by first | rfl | omega) (by first | assumption | omega) Try.runUnderlying32 Try.sizeOf81) ?_
  refine JL_pd rfl (det_fieldAddr rfl fo_81_1) ?_
  refine JL_pd rfl (det_fieldAddr rfl fo_79_0) ?_
  refine JL_step0 rfl rfl (jo_storeO (xs' := (paX3 b249).flatMap encG) (vs := [I 1]) rfl rfl rfl rfl Try.sizeOf3 (by show 1 * 4 + 1 + 1 ≤ 16; decide) rfl) fun _ => ?_
  refine JL_nil ?_
  refine JE_seq ?_
  refine JC_seq ?_
  refine JC_region ?_
  refine JL_pd rfl (det_move rfl) ?_
  refine JL_pd rfl (det_eql rfl rfl) ?_
  refine JL_pd rfl (det_move rfl) ?_
  -- stop: guard 2
  skip
  refine JL_is (d0 := 256) true rfl (by rfl) (fun g1 => ?_)
  refine JL_guard rfl rfl g1 ?_
  refine JL_pd rfl (det_move rfl) ?_
  refine JL_guard rfl rfl g1 ?_
  refine JL_pd rfl (det_eql rfl rfl) ?_
  refine JL_pd rfl (det_pick_t rfl g1 rfl) ?_
  refine JL_pd rfl (det_move rfl) ?_
  refine JL_is (d0 := 260) true rfl (by rfl) (fun g2 => ?_)
  refine JL_guard rfl rfl g2 ?_
  refine JL_pd rfl (det_move rfl) ?_
  refine JL_guard rfl rfl g2 ?_
  refine JL_pd rfl (det_eql rfl rfl) ?_
  refine JL_pd rfl (det_pick_t rfl g2 rfl) ?_
  refine JL_pd rfl (det_move rfl) ?_
  refine JL_is (d0 := 264) true rfl (by rfl) (fun g3 => ?_)
  refine JL_guard rfl rfl g3 ?_
  refine JL_pd rfl (det_move rfl) ?_
  refine JL_guard rfl rfl g3 ?_
  refine JL_pd rfl (det_eql rfl rfl) ?_
  refine JL_pd rfl (det_pick_t rfl g3 rfl) ?_
  refine JL_pd rfl (det_move rfl) ?_
  refine JL_is (d0 := 268) true rfl (by rfl) (fun g4 => ?_)
  refine JL_guard rfl rfl g4 ?_
  refine JL_pd rfl (det_move rfl) ?_
  refine JL_guard rfl rfl g4 ?_
  refine JL_pd rfl (det_eql rfl rfl) ?_
  refine JL_pd rfl (det_pick_t rfl g4 rfl) ?_
  refine JL_pd rfl (det_move rfl) ?_
  refine JL_is (d0 := 272) true rfl (by rfl) (fun g5 => ?_)
  refine JL_guard rfl rfl g5 ?_
  refine JL_pd rfl (det_move rfl) ?_
  refine JL_guard rfl rfl g5 ?_
  refine JL_pd rfl (det_eql rfl rfl) ?_
  refine JL_pd rfl (det_pick_t rfl g5 rfl) ?_
  refine JL_pd rfl (det_move rfl) ?_
  refine JL_is (d0 := 276) true rfl (by rfl) (fun g6 => ?_)
  refine JL_guard rfl rfl g6 ?_
  refine JL_pd rfl (det_move rfl) ?_
  refine JL_guard rfl rfl g6 ?_
  refine JL_pd rfl (det_eql rfl rfl) ?_
  refine JL_pd rfl (det_pick_t rfl g6 rfl) ?_
  refine JL_pd rfl (det_move rfl) ?_
  refine JL_is (d0 := 280) true rfl (by rfl) (fun g7 => ?_)
  refine JL_guard rfl rfl g7 ?_
  refine JL_pd rfl (det_move rfl) ?_
  refine JL_guard rfl rfl g7 ?_
  refine JL_pd rfl (det_eql rfl rfl) ?_
  refine JL_pd rfl (det_pick_t rfl g7 rfl) ?_
  refine JL_pd rfl (det_move rfl) ?_
  refine JL_is (d0 := 284) true rfl (by rfl) (fun g8 => ?_)
  refine JL_guard rfl rfl g8 ?_
  refine JL_pd rfl (det_move rfl) ?_
  refine JL_guard rfl rfl g8 ?_
  refine JL_pd rfl (det_eql rfl rfl) ?_
  refine JL_pd rfl (det_pick_t rfl g8 rfl) ?_
  refine JL_pd rfl (det_move rfl) ?_
  refine JL_is (d0 := 288) true rfl (by rfl) (fun g9 => ?_)
  refine JL_guard rfl rfl g9 ?_
  refine JL_pd rfl (det_move rfl) ?_
  refine JL_guard rfl rfl g9 ?_
  refine JL_pd rfl (det_eql rfl rfl) ?_
  refine JL_pd rfl (det_pick_t rfl g9 rfl) ?_
  refine JL_pd rfl (det_move rfl) ?_
  refine JL_is (d0 := 292) true rfl (by rfl) (fun g10 => ?_)
  refine JL_guard rfl rfl g10 ?_
  refine JL_pd rfl (det_move rfl) ?_
  refine JL_guard rfl rfl g10 ?_
  refine JL_pd rfl (det_eql rfl rfl) ?_
  refine JL_pd rfl (det_pick_t rfl g10 rfl) ?_
  refine JL_pd rfl (det_move rfl) ?_
  refine JL_is (d0 := 296) true rfl (by rfl) (fun g11 => ?_)
  refine JL_guard rfl rfl g11 ?_
  refine JL_step rfl rfl rfl (jo_call rfl rfl Try.call53 rfl (alley_j)) fun x297 => ?_
  refine JL_guard rfl rfl g11 ?_
  refine JL_pd rfl (det_move rfl) ?_
  refine JL_guard rfl rfl g11 ?_
  -- stop: op 45 t299 := (call (Call (value f18) (t297 t298) (30 32)))   <43 44 43 42>   41
  refine JL_slice (enc := encG) (v := .slice (some ⟨b249.2.2.2, 0, none⟩) 4 4) (paX3 b249) noFp rfl rfl ?_
  rintro ka kc hkv
  cases hkv
  refine JL_know (R' := KAnd (KFt (paX3 b249)) _) (fun w h => ⟨pa3_ft (Knows.know (F := KFt (paX b249)) w h), h⟩) ?_
  refine JL_step rfl rfl rfl (jo_callv rfl rfl Try.call18 rfl (nC1 x297 b249 (some ⟨b249.2.2.2, 0, none⟩) 4)) fun _ => ?_
  refine JL_guard rfl rfl g11 ?_
  refine JL_pd rfl (det_eql rfl rfl) ?_
  refine JL_pd rfl (det_pick_t rfl g11 rfl) ?_
  refine JL_pd rfl (det_move rfl) ?_
  -- stop: guard 48
  skip
  refine JL_is (d0 := 302) true rfl (by rfl) (fun g1 => ?_)
  refine JL_guard rfl rfl g1 ?_
  refine JL_step rfl rfl rfl (jo_call rfl rfl Try.call53 rfl (alley_j)) fun x303 => ?_
  refine JL_guard rfl rfl g1 ?_
  -- stop: op 50 t304 := (call (Call (value f18) (t303 (slice none 0 0)) (30 32)))   <49 49 48>   41
  refine JL_step rfl rfl rfl (jo_callv rfl rfl Try.call18 rfl (nC0 x303)) fun _ => ?_
  refine JL_guard rfl rfl g1 ?_
  refine JL_pd rfl (det_eql rfl rfl) ?_
  refine JL_pd rfl (det_pick_t rfl g1 rfl) ?_
  refine JL_pd rfl (det_move rfl) ?_
  -- stop: guard 53
  refine JL_is (d0 := 307) true rfl (by rfl) (fun h1 => ?_)
  refine JL_guard rfl rfl h1 ?_
  refine JL_step rfl rfl rfl (jo_callv rfl rfl Try.call17 rfl (awake_j)) fun _ => ?_
  refine JL_pd rfl (det_pick_t rfl h1 rfl) ?_
  refine JL_pd rfl (det_assign rfl) ?_
  refine JL_nil ?_
  refine JE_seq ?_
  refine JC_ret ?_
  refine JE_out (.inl rfl) () (results1 Try.results15 (res_tmp rfl)) ?_ (List.Perm.refl _) (fun _ _ => trivial)
  rfl
end Go.Proofs.Ytkmaafnbefpdjaa
