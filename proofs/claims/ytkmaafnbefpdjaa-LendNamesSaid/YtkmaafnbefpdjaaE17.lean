/- Walks of the reference of lend: the greatest number. -/
import Derived.Test.YtkmaafnbefpdjaaB8
set_option linter.unusedSimpArgs false
set_option linter.unusedVariables false
namespace Go.Proofs.Ytkmaafnbefpdjaa
open Go.RowKit Go.Shelf

set_option maxRecDepth 100000 in
set_option maxHeartbeats 1000000 in
theorem Most_j (x : Hx) (ga : Option Addr) (gc : Nat) (xs : List Gx) (k : Nat) (hk : x.h.lanes = k) (hk5 : k ≤ 5) (hV : ∀ g ∈ gs xs, VGr g) (hl : xs.length ≤ 1000) : ∀ (n : Nat) (plan : List Int) (a : Option Addr) (cap : Nat), plan.length + n = xs.length →
    Cv Try.prog 29 [.agg #[I x.h.lanes, .slice x.a x.h.shoes.length x.c], .slice ga xs.length gc, .slice a plan.length cap] (KAnd (KSl ga xs.length gc encG xs) (KSl a plan.length cap encI plan)) (I (mostV k (gs xs) n plan)) := by
  intro n
  induction n with
  | zero =>
    intro plan a cap hn
    refine Cx_of Try.func29 rfl Try.ntmps29 rfl fun w0 M0 => ?_
    refine JC_seq ?_
    refine JC_region ?_
    refine JL_step rfl rfl rfl (jo_box rfl rfl) fun b3 => ?_
    refine JL_pd rfl (det_assign rfl) ?_
    refine JL_nil ?_
    refine JE_seq ?_
    refine JC_seq ?_
    refine JC_seq ?_
    refine JC_region ?_
    refine JL_pd rfl (det_move rfl) ?_
    refine JL_pd rfl (det_len rfl Try.runUnderlying22) ?_
    refine JL_pd rfl (det_move rfl) ?_
    refine JL_pd rfl (det_len rfl Try.runUnderlying25) ?_
    refine JL_pd rfl (det_eql rfl rfl) ?_
    refine JL_nil ?_
    refine JE_seq ?_
    -- stop: cond
    refine JC_if rfl (fun h1 => ?_) (fun h1 => ?_)
    · refine JC_seq ?_
      refine JC_region ?_
      refine JL_pd rfl (det_move rfl) ?_
      refine JL_step rfl rfl rfl (jo_callv rfl rfl Try.call26 rfl (Served_j a cap plan (by omega))) fun _ => ?_
      refine JL_pd rfl (det_assign rfl) ?_
      refine JL_nil ?_
      refine JE_seq ?_
      refine JC_ret ?_
      refine JE_seq_ret ?_
      -- stop: out
      refine JE_out (.inl rfl) () (results1 Try.results29 (res_tmp rfl)) rfl (List.Perm.refl _) (fun _ _ => trivial)
    · exact absurd h1 (by omega)
  | succ n IH =>
    intro plan a cap hn
    have hM : ∀ y : Int, (plan ++ [y]).length = 0 + plan.length + 1 := fun y => by simp
    have hcall := fun (y : Int) (a2 : Option Addr) (c2 : Nat) => IH (plan ++ [y]) a2 c2 (by rw [hM]; omega)
    simp only [hM] at hcall
    have hgt : ∀ M, gs (xs.take M) = (gs xs).take M := fun M => List.map_take
    have htl : (xs.take (plan.length + 1)).length = plan.length + 1 := by rw [List.length_take]; omega
    have hright := fun (y : Int) (a2 : Option Addr) (c2 : Nat) => Right_j ga gc (xs.take (plan.length + 1)) a2 c2 (plan ++ [y]) (fun g hg => hV g (by rw [hgt] at hg; exact List.mem_of_mem_take hg)) (by rw [hM, htl]; omega) (by rw [htl]; omega)
    simp only [hM, htl, hgt] at hright
    have hsl : ∀ y : Int, (List.flatMap encI plan ++ [I y]) = (plan ++ [y]).flatMap encI := fun y => by simp [encI]
    generalize hf : (fun (b : Int) (lane : Nat) => if rightB ((gs xs).take (plan.length + 1)) (plan ++ [(lane : Int)]) = true then max b (mostV k (gs xs) n (plan ++ [(lane : Int)])) else b) = f
    have hres : mostV k (gs xs) (n + 1) plan = (List.range k).foldl f (mostV k (gs xs) n (plan ++ [-1])) := by rw [← hf]; rfl
    rw [hres]
    have hstep : ∀ i, (List.range (i + 1)).foldl f (mostV k (gs xs) n (plan ++ [-1])) = f ((List.range i).foldl f (mostV k (gs xs) n (plan ++ [-1]))) i := fun i => by rw [List.range_succ, List.foldl_append]; rfl
    refine Cx_of Try.func29 rfl Try.ntmps29 rfl fun w0 M0 => ?_
    refine JC_seq ?_
    refine JC_region ?_
    refine JL_step rfl rfl rfl (jo_box rfl rfl) fun b3 => ?_
    refine JL_pd rfl (det_assign rfl) ?_
    refine JL_nil ?_
    refine JE_seq ?_
    refine JC_seq ?_
    refine JC_seq ?_
    refine JC_region ?_
    refine JL_pd rfl (det_move rfl) ?_
    refine JL_pd rfl (det_len rfl Try.runUnderlying22) ?_
    refine JL_pd rfl (det_move rfl) ?_
    refine JL_pd rfl (det_len rfl Try.runUnderlying25) ?_
    refine JL_pd rfl (det_eql rfl rfl) ?_
    refine JL_nil ?_
    refine JE_seq ?_
    -- stop: cond
    refine JC_if rfl (fun h1 => ?_) (fun h1 => ?_)
    · exact absurd h1 (by omega)
    refine JC_skip ?_
    refine JE_seq ?_
    refine JC_seq ?_
    -- stop: draw
    refine JC_cutN (γ := Unit) (fun _ => True) (fun u => [(7, I (mostV k (gs xs) n (plan ++ [-1])))]) (fun u => []) (fun K hK => ?_) (fun u _ => ?_)
    · refine JC_draw [] (by kernel_rfl) ?_
      refine JA_dt (i := 0) rfl (by kernel_rfl) (by kernel_rfl) rfl rfl (det_loadKA rfl Try.isAgg24 Try.sizeOf24 rfl rfl) ?_
      refine JA_pd (i := 1) rfl (by kernel_rfl) rfl rfl (det_move rfl) ?_
      refine JA_pd (i := 3) rfl (by kernel_rfl) rfl rfl (det_move rfl) ?_
      refine JA_ready (rs := [2, 5]) (by kernel_rfl) rfl ?_
      refine JAl_cons (i := 2) rfl rfl (jo_buildOwn (z := 1) rfl (bsl_22_0) rfl (by decide)) (fun _ => ⟨hsub_drop 1 rfl, fun _ h => h⟩) (fun b19 => ?_) ?_
      · refine JA_ready (rs := [4, 5]) (by kernel_rfl) rfl ?_
        refine JAl_consH (i := 4) rfl rfl (jo_appendK (e := encI) el_22 rfl rfl encI_one (by omega)) (fun _ => ⟨HIn.sub, Knows.know⟩) (fun b21 => ?_) ?_
        · refine JA_one (i := 5) (by kernel_rfl) rfl rfl (jo_buildSlice rfl (bsl_22_1_0 _)) (fun _ => ⟨hsub_drop 1 rfl, fun _ h => h⟩) fun b22 => ?_
          refine JA_oneH (i := 6) (by kernel_rfl) rfl rfl (jo_append el_22 rfl rfl rfl rfl (by omega)) (fun _ => ⟨HIn.sub, Knows.know⟩) fun b23 => ?_
          refine JA_slice (enc := encI) (v := .slice (some ⟨b23.1, 0, none⟩) (0 + plan.length + 1) b23.2) (plan ++ [-1]) noFp (by simp [encI]) (by simp) ?_
          rintro ka kc hkv
          cases hkv
          refine JA_one (i := 7) (by kernel_rfl) rfl rfl (jo_callv rfl rfl Try.call29 rfl (hcall (-1) _ _)) (fun _ => ⟨hsub_refl, fun _ h => h⟩) fun _ => ?_
          refine JA_pd (i := 8) rfl (by kernel_rfl) rfl rfl (det_assign rfl) ?_
          refine JA_done (by kernel_rfl) ?_
          exact JE_cutF hK () trivial (stsub_cons rfl stsub_nil) (ht_nil)
        refine JAl_cons (i := 5) rfl rfl (jo_buildSlice rfl (bsl_22_1_0 _)) (fun _ => ⟨hsub_drop 1 rfl, fun _ h => h⟩) (fun b22 => ?_) ?_
        · refine JA_oneH (i := 4) (by kernel_rfl) rfl rfl (jo_appendK (e := encI) el_22 rfl rfl encI_one (by omega)) (fun _ => ⟨HIn.sub, Knows.know⟩) fun b21 => ?_
          refine JA_oneH (i := 6) (by kernel_rfl) rfl rfl (jo_append el_22 rfl rfl rfl rfl (by omega)) (fun _ => ⟨HIn.sub, Knows.know⟩) fun b23 => ?_
          refine JA_slice (enc := encI) (v := .slice (some ⟨b23.1, 0, none⟩) (0 + plan.length + 1) b23.2) (plan ++ [-1]) noFp (by simp [encI]) (by simp) ?_
          rintro ka kc hkv
          cases hkv
          refine JA_one (i := 7) (by kernel_rfl) rfl rfl (jo_callv rfl rfl Try.call29 rfl (hcall (-1) _ _)) (fun _ => ⟨hsub_refl, fun _ h => h⟩) fun _ => ?_
          refine JA_pd (i := 8) rfl (by kernel_rfl) rfl rfl (det_assign rfl) ?_
          refine JA_done (by kernel_rfl) ?_
          exact JE_cutF hK () trivial (stsub_cons rfl stsub_nil) (ht_nil)
        exact JAl_nil
      refine JAl_cons (i := 5) rfl rfl (jo_buildSlice rfl (bsl_22_1_0 _)) (fun _ => ⟨hsub_drop 1 rfl, fun _ h => h⟩) (fun b22 => ?_) ?_
      · refine JA_one (i := 2) (by kernel_rfl) rfl rfl (jo_buildOwn (z := 1) rfl (bsl_22_0) rfl (by decide)) (fun _ => ⟨hsub_drop 1 rfl, fun _ h => h⟩) fun b19 => ?_
        refine JA_oneH (i := 4) (by kernel_rfl) rfl rfl (jo_appendK (e := encI) el_22 rfl rfl encI_one (by omega)) (fun _ => ⟨HIn.sub, Knows.know⟩) fun b21 => ?_
        refine JA_oneH (i := 6) (by kernel_rfl) rfl rfl (jo_append el_22 rfl rfl rfl rfl (by omega)) (fun _ => ⟨HIn.sub, Knows.know⟩) fun b23 => ?_
        refine JA_slice (enc := encI) (v := .slice (some ⟨b23.1, 0, none⟩) (0 + plan.length + 1) b23.2) (plan ++ [-1]) noFp (by simp [encI]) (by simp) ?_
        rintro ka kc hkv
        cases hkv
        refine JA_one (i := 7) (by kernel_rfl) rfl rfl (jo_callv rfl rfl Try.call29 rfl (hcall (-1) _ _)) (fun _ => ⟨hsub_refl, fun _ h => h⟩) fun _ => ?_
        refine JA_pd (i := 8) rfl (by kernel_rfl) rfl rfl (det_assign rfl) ?_
        refine JA_done (by kernel_rfl) ?_
        exact JE_cutF hK () trivial (stsub_cons rfl stsub_nil) (ht_nil)
      exact JAl_nil
    dsimp only [List.cons_append, List.nil_append]
    refine JC_seq ?_
    refine JC_seq ?_
    refine JC_region ?_
    refine JL_pd rfl (det_assign rfl) ?_
    refine JL_nil ?_
    refine JE_seq ?_
    refine JC_block ?_
    -- stop: loop
    refine JC_keep b3 noFp ?_
    refine JC_pure (p := xs.length ≤ gc) (by intro w h; exact (Knows.know (F := KSl ga xs.length gc encG xs) w h).1.1) fun hgc => ?_
    refine JC_loopF (γ := Nat) (fun i => i ≤ k) (fun i => [(8, I i), (7, I ((List.range i).foldl f (mostV k (gs xs) n (plan ++ [-1]))))]) (fun _ => []) (fun i => k - i) 0 (Nat.zero_le _) (stsub_consI rfl rfl (stsub_consI rfl rfl stsub_nil)) ht_nil ?_
    intro i hi K hK
    dsimp only [List.cons_append, List.nil_append]
    have hs := hstep i
    generalize hF : (List.range i).foldl f (mostV k (gs xs) n (plan ++ [-1])) = F at hs
    refine JC_seq ?_
    refine JC_seq ?_
    refine JC_region ?_
    refine JL_pd rfl (det_move rfl) ?_
    refine JL_pd rfl (det_fieldAddr rfl fo_24_0) ?_
    refine JL_dt rfl (det_loadK rfl Try.isAgg3 rfl) ?_
    refine JL_pd rfl (det_lss rfl rfl) ?_
    refine JL_nil ?_
    refine JE_seq ?_
    -- stop: cond
    refine JC_if rfl (fun h2 => ?_) (fun h2 => ?_)
    · have hi2 : i < k := by omega
      refine JC_skip ?_
      refine JE_seq ?_
      refine JC_seq ?_
      refine JC_block ?_
      refine JC_seq ?_
      refine JC_region ?_
      refine JL_step rfl rfl rfl (jo_buildOwn (z := 1) rfl (bsl_22_0) rfl (by decide)) fun b31 => ?_
      refine JL_pd rfl (det_move rfl) ?_
      refine JL_step rfl rfl rfl (jo_appendK (e := encI) el_22 rfl rfl encI_one (by omega)) fun b33 => ?_
      refine JL_pd rfl (det_move rfl) ?_
      refine JL_step rfl rfl rfl (jo_buildSlice rfl (bsl_22_1_0 _)) fun b35 => ?_
      refine JL_step rfl rfl rfl (jo_append el_22 rfl rfl rfl rfl (by omega)) fun b36 => ?_
      refine JL_pd rfl (det_assign rfl) ?_
      refine JL_nil ?_
      refine JE_seq ?_
      refine JC_seq ?_
      refine JC_region ?_
      refine JL_pd rfl (det_move rfl) ?_
      refine JL_pd rfl (det_move rfl) ?_
      refine JL_pd rfl (det_len rfl Try.runUnderlying22) ?_
      refine JL_pd rfl (det_sliceK (plan.length + 1) rfl rfl (by simp) (by omega) Try.runUnderlying25 Try.sizeOf55) ?_
      refine JL_pd rfl (det_move rfl) ?_
      refine JL_slice (enc := encI) (v := .slice (some ⟨b36.1, 0, none⟩) (0 + plan.length + 1) b36.2) (plan ++ [(i : Int)]) noFp (by simp [encI]) (by simp) ?_
      rintro ka kc hkv
      cases hkv
      refine JL_know (R' := KAnd (KSl ga (plan.length + 1) gc encG (xs.take (plan.length + 1))) _) (fun w h => ⟨KSl_take (Knows.know (F := KSl ga xs.length gc encG xs) w h) (by omega), h⟩) ?_
      refine JL_step rfl rfl rfl (jo_callv rfl rfl Try.call28 rfl (hright (i : Int) _ _)) fun _ => ?_
      refine JL_nil ?_
      refine JE_seq ?_
      -- stop: cond
      refine JC_cond rfl (fun h3 => ?_) (fun h3 => ?_)
      · have hfi : f F i = max F (mostV k (gs xs) n (plan ++ [(i : Int)])) := by rw [← hf]; exact if_pos h3
        refine JC_region ?_
        refine JL_pd rfl (det_move rfl) ?_
        refine JL_dt rfl (det_loadKA rfl Try.isAgg24 Try.sizeOf24 rfl rfl) ?_
        refine JL_pd rfl (det_move rfl) ?_
        refine JL_pd rfl (det_move rfl) ?_
        refine JL_step rfl rfl rfl (jo_callv rfl rfl Try.call29 rfl (hcall (i : Int) _ _)) fun _ => ?_
        refine JL_pd rfl (det_max rfl rfl) ?_
        refine JL_pd rfl (det_assign rfl) ?_
        refine JL_nil ?_
        refine JE_block ?_
        refine JE_seq ?_
        refine JC_region ?_
        refine JL_pd rfl (det_move rfl) ?_
        refine JL_pd rfl (det_add rfl rfl ⟨by omega, by omega⟩) ?_
        refine JL_pd rfl (det_assign rfl) ?_
        refine JL_nil ?_
        -- stop: end
        refine JE_roundF hK (i + 1) (by omega) (by omega) (stsub_consI rfl (by omega) (stsub_consI rfl (by rw [hs, hfi]) stsub_nil)) ht_nil
      · have hfi : f F i = F := by rw [← hf]; exact if_neg (by rw [h3]; decide)
        refine JC_skip ?_
        refine JE_block ?_
        refine JE_seq ?_
        refine JC_region ?_
        refine JL_pd rfl (det_move rfl) ?_
        refine JL_pd rfl (det_add rfl rfl ⟨by omega, by omega⟩) ?_
        refine JL_pd rfl (det_assign rfl) ?_
        refine JL_nil ?_
        -- stop: end
        refine JE_roundF hK (i + 1) (by omega) (by omega) (stsub_consI rfl (by omega) (stsub_consI rfl (by rw [hs, hfi]) stsub_nil)) ht_nil
    · obtain rfl : i = k := by omega
      refine JC_exit ?_
      refine JE_seq_exit ?_
      refine JE_then_exit ?_
      refine JE_block_here ?_
      refine JE_seq ?_
      refine JC_seq ?_
      refine JC_region ?_
      refine JL_pd rfl (det_move rfl) ?_
      refine JL_pd rfl (det_assign rfl) ?_
      refine JL_nil ?_
      refine JE_seq ?_
      refine JC_ret ?_
      -- stop: out
      refine JE_out (.inl rfl) () (results1 Try.results29 (res_tmp rfl)) (by rw [hF]) (List.Perm.refl _) (fun _ _ => trivial)
end Go.Proofs.Ytkmaafnbefpdjaa
