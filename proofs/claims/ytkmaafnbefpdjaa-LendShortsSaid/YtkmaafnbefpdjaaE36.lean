/- The statements about lend: LendOrder. -/
import Derived.Test.YtkmaafnbefpdjaaB12
set_option linter.unusedSimpArgs false
set_option linter.unusedVariables false
namespace Go.Proofs.Ytkmaafnbefpdjaa
open Go.RowKit Go.Shelf

theorem lack_perm {sh feet feet' : List Int} (h : feet.Perm feet') (S : List Int) : lack sh feet S = lack sh feet' S := by
  unfold lack lackI
  rw [h.countP_eq]
theorem barN_perm {sh feet feet' : List Int} (h : feet.Perm feet') : barN sh feet = barN sh feet' := by
  unfold barN
  generalize 1024 = n
  induction n with
  | zero => rfl
  | succ n ih => unfold lacksV; rw [ih, lack_perm h]
theorem srvN_perm {k : Nat} {l l' : List Gr} (hV : ∀ g ∈ l, VGr g) (h : l.Perm l') : srvN k l = srvN k l' := by
  obtain ⟨p, hp⟩ := serve_exists k l hV
  obtain ⟨p', hp'⟩ := serve_exists k l' fun g hg => hV g (h.mem_iff.2 hg)
  rw [srvN_of hp, srvN_of hp', serve_same hp hp' h]
theorem fault_perm {h : Hs} {l l' : List Gr} (hp : l.Perm l') (hf : fault h l = 0) : fault h l' = 0 := by
  have V := vld_of hf
  exact of_vld ⟨V.hs, by rw [← hp.length_eq]; exact V.n, fun g hg => V.fw g (hp.mem_iff.2 hg), fun g hg => V.gr g (hp.mem_iff.2 hg)⟩
theorem of_vfeet {h : Hs} {feet : List Int} (V : VFeet h feet) : shodE h feet = 0 := by
  unfold shodE
  rw [if_neg (by rw [hsOk_iff.2 V.hs]; decide), if_neg (by have := V.n; omega), if_neg (by rw [List.all_eq_true.2 fun f hf => inI_iff.2 (V.ft f hf)]; decide)]
theorem shod_perm {h : Hs} {feet feet' : List Int} (hp : feet.Perm feet') (hf : shodE h feet = 0) : shodE h feet' = 0 := by
  have V := vfeet_of hf
  exact of_vfeet ⟨V.hs, by rw [← hp.length_eq]; exact V.n, fun f hg => V.ft f (hp.mem_iff.2 hg)⟩
theorem rot_perm {α : Type} (l : List α) (k : Nat) : (l.drop k ++ l.take k).Perm l := by
  conv => rhs; rw [← List.take_append_drop k l]
  exact List.perm_append_comm
theorem encG_one' (y : Gx) : (encG y).all (·.oneCell') = true := rfl
set_option maxRecDepth 100000 in
set_option maxHeartbeats 2000000 in
theorem LendOrder_j (x : Hx) (ga : Option Addr) (gc : Nat) (xs : List Gx) (fa : Option Addr) (fc : Nat) (feet : List Int) (by_ : Int) (hw : 0 ≤ by_ ∧ by_ ≤ 255) : Cv Try.prog 8 [.agg #[I x.h.lanes, .slice x.a x.h.shoes.length x.c], .slice ga xs.length gc, .slice fa feet.length fc, .int .u8 by_] (KAnd (KHx x) (KAnd (KGs ga gc xs) (KSl fa feet.length fc encI feet))) (.bool true) := by
  refine Cx_of Try.func8 rfl Try.ntmps8 rfl fun w0 M0 => ?_
  refine JC_seq ?_
  refine JC_region ?_
  refine JL_step rfl rfl rfl (jo_box rfl rfl) fun b4 => ?_
  refine JL_pd rfl (det_assign rfl) ?_
  refine JL_nil ?_
  refine JE_seq ?_
  refine JC_seq ?_
  refine JC_seq ?_
  refine JC_region ?_
  refine JL_dt rfl (det_loadKA rfl Try.isAgg24 Try.sizeOf24 rfl rfl) ?_
  refine JL_pd rfl (det_move rfl) ?_
  refine JL_step rfl rfl rfl (jo_callv rfl rfl Try.call33 rfl (ready_j x ga gc xs)) fun _ => ?_
  refine JL_pd rfl (det_not rfl) ?_
  refine JL_pd rfl (det_move rfl) ?_
  -- stop: guard 4
  refine JL_join1 5 30 (.bool (!readyB x.h (gs xs) || !decide (shodE x.h feet = 0))) (fun hj => ?_) ?_
  · refine JL_split (d0 := 25) rfl (fun q1 => ?_) (fun q1 => ?_)
    · refine JL_skip rfl rfl q1 rfl ?_
      refine JL_skip rfl rfl q1 rfl ?_
      refine JL_skip rfl rfl q1 rfl ?_
      refine JL_skip rfl rfl q1 rfl ?_
      refine JL_pd rfl (det_pick_t rfl q1 rfl) ?_
      exact hj (by kernel_rfl) (stsub_consB rfl (by clear hj; first | rfl | (simp only [q1, Bool.and_true, Bool.true_and, Bool.false_and, Bool.and_false, Bool.or_true, Bool.true_or, Bool.or_false, Bool.false_or, Bool.not_true, Bool.not_false]; done) | (simp [q1]; done) | (simp at q1; done) | (simp [q1] <;> omega) | (exfalso; simp at q1; omega)) stsub_nil)
    · refine JL_guard rfl rfl q1 ?_
      refine JL_dt rfl (det_loadKA rfl Try.isAgg24 Try.sizeOf24 rfl rfl) ?_
      refine JL_guard rfl rfl q1 ?_
      refine JL_pd rfl (det_move rfl) ?_
      refine JL_guard rfl rfl q1 ?_
      refine JL_step rfl rfl rfl (jo_callv rfl rfl Try.call35 rfl (shod_jl x fa fc feet)) fun _ => ?_
      refine JL_guard rfl rfl q1 ?_
      refine JL_pd rfl (det_neq rfl rfl) ?_
      refine JL_pd rfl (det_pick_f rfl q1 rfl) ?_
      exact hj (by kernel_rfl) (stsub_consB rfl (by clear hj; first | rfl | (simp only [q1, Bool.and_true, Bool.true_and, Bool.false_and, Bool.and_false, Bool.or_true, Bool.true_or, Bool.or_false, Bool.false_or, Bool.not_true, Bool.not_false]; done) | (simp [q1]; done) | (simp at q1; done) | (simp [q1] <;> omega) | (exfalso; simp at q1; omega)) stsub_nil)
  refine JL_nil ?_
  refine JE_seq ?_
  -- stop: cond
  refine JC_cond rfl (fun h1 => ?_) (fun h1 => ?_)
  · refine JC_seq ?_
    refine JC_region ?_
    refine JL_step rfl rfl rfl (jo_callv rfl rfl Try.call17 rfl (awake_j)) fun _ => ?_
    refine JL_pd rfl (det_assign rfl) ?_
    refine JL_nil ?_
    refine JE_seq ?_
    refine JC_ret ?_
    refine JE_seq_ret ?_
    -- stop: out
    refine JE_out (.inl rfl) () (results1 Try.results8 (res_tmp rfl)) rfl (List.Perm.refl _) (fun _ _ => trivial)
  · simp only [Bool.or_eq_false_iff, Bool.not_eq_false', decide_eq_true_eq] at h1
    obtain ⟨h1, hsh⟩ := h1
    obtain ⟨⟨t1, t2, t3⟩, c1⟩ := ready_of h1
    have hgl : (gs xs).length = xs.length := List.length_map _
    rw [hgl] at t2
    have V := vld_of c1
    have F := vfeet_of hsh
    have hfn := F.n
    obtain ⟨wn, rfl⟩ : ∃ n : Nat, by_ = n := ⟨by_.toNat, by omega⟩
    refine JC_skip ?_
    refine JE_seq ?_
    refine JC_seq ?_
    refine JC_region ?_
    refine JL_pd rfl (det_move rfl) ?_
    refine JL_pd rfl (det_move rfl) ?_
    refine JL_pd rfl (det_assign rfl) ?_
    refine JL_pd rfl (det_assign rfl) ?_
    refine JL_nil ?_
    refine JE_seq ?_
    refine JC_seq ?_
    refine JC_seq ?_
    refine JC_region ?_
    refine JL_pd rfl (det_move rfl) ?_
    refine JL_pd rfl (det_len rfl Try.runUnderlying25) ?_
    refine JL_pd rfl (det_gtr rfl rfl) ?_
    refine JL_nil ?_
    refine JE_seq ?_
    -- stop: cond
    refine JC_keep b4 noFp ?_
    refine JC_cutK (γ := Option Addr × Nat × { ys : List Gx // (gs ys).Perm (gs xs) }) (fun q => q.2.2.1.length = xs.length) (fun q => [(9, .slice q.1 q.2.2.1.length q.2.1)]) (fun _ => []) (fun q => KGs q.1 q.2.1 q.2.2.1) [] (fun K hK => ?_) (fun q hq => ?_)
    · skip
      -- stop: cond
      refine JC_if rfl (fun k1 => ?_) (fun k1 => ?_)
      · refine JC_seq ?_
        refine JC_region ?_
        refine JL_pd rfl (det_move rfl) ?_
        refine JL_pd rfl (det_convI rfl Try.runUnderlying5 Try.runUnderlying3 (i64_wrap ⟨by omega, by omega⟩)) ?_
        refine JL_pd rfl (det_move rfl) ?_
        refine JL_pd rfl (det_len rfl Try.runUnderlying25) ?_
        refine JL_pd rfl (det_rem rfl rfl (by omega)) ?_
        refine JL_pd rfl (det_assign rfl) ?_
        refine JL_nil ?_
        refine JE_seq ?_
        -- stop: draw
        obtain ⟨k, hkd⟩ : ∃ k : Nat, wn % xs.length = k := ⟨_, rfl⟩
        have hk : k < xs.length := by rw [← hkd]; exact Nat.mod_lt _ (by omega)
        have hrem : (wn : Int).tmod (xs.length : Int) = (k : Int) := by rw [Int.tmod_eq_emod_of_nonneg (by omega), ← hkd]; rfl
        rw [hrem]
        refine JC_pure (p := xs.length ≤ gc) (by intro w h; exact (Knows.know (F := KSl ga xs.length gc encG xs) w h).1.1) fun hgc => ?_
        refine JC_know (R' := KAnd (KSl (dropA ga k gc 4) (xs.length - k) (gc - k) encG (xs.drop k)) (KAnd (KSl ga k gc encG (xs.take k)) _)) (fun w h => ⟨KSl_drop (Knows.know (F := KSl ga xs.length gc encG xs) w h) (by omega), KSl_take (Knows.know (F := KSl ga xs.length gc encG xs) w h) (by omega), h⟩) ?_
        have hrl : (xs.drop k ++ xs.take k).length = xs.length := by rw [List.length_append, List.length_drop, List.length_take]; omega
        have hrp : (gs (xs.drop k ++ xs.take k)).Perm (gs xs) := (rot_perm xs k).map _
        refine JC_draw [4, 8] (by kernel_rfl) ?_
        refine JA_pd (i := 1) rfl (by kernel_rfl) rfl rfl (det_move rfl) ?_
        refine JA_pd (i := 2) rfl (by kernel_rfl) rfl rfl (det_move rfl) ?_
        refine JA_pd (i := 3) rfl (by kernel_rfl) rfl rfl (det_sliceF k rfl rfl rfl (by omega) Try.runUnderlying25 Try.sizeOf55) ?_
        refine JA_pd (i := 5) rfl (by kernel_rfl) rfl rfl (det_move rfl) ?_
        refine JA_pd (i := 6) rfl (by kernel_rfl) rfl rfl (det_move rfl) ?_
        refine JA_pd (i := 7) rfl (by kernel_rfl) rfl rfl (det_sliceK k rfl rfl rfl (by omega) Try.runUnderlying25 Try.sizeOf55) ?_
        refine JA_one (i := 0) (by kernel_rfl) rfl rfl (jo_buildOwn (z := 4) rfl (bsl_25_0) rfl (by decide)) (fun _ => ⟨hsub_drop 1 rfl, fun _ h => h⟩) fun b42 => ?_
        refine JA_tail (i := 4) (by kernel_rfl) rfl rfl rfl rfl (jo_appendK (e := encG) el_25 rfl rfl encG_one' (by omega)) fun b46 => ?_
        refine JT_one (i := 8) (by kernel_rfl) rfl rfl (jo_appendK (e := encG) el_25 rfl rfl encG_one' (by omega)) fun b50 => ?_
        refine JT_pd (i := 9) rfl (by kernel_rfl) rfl rfl (det_assign rfl) ?_
        refine JT_done (by kernel_rfl) ?_
        -- stop: end
        refine JE_slice (enc := encG) (v := b50) (xs.drop k ++ xs.take k) noFp (by rw [List.flatMap_append]; rfl) (by rw [hrl]; omega) ?_
        rintro ka kc rfl
        refine JE_weak (R' := KAnd (KGs ka kc (xs.drop k ++ xs.take k)) _) stsub_refl hsub_refl (fun w h => ⟨⟨by have hq := Knows.know (F := KSl ka (0 + (xs.length - k) + k) kc encG (xs.drop k ++ xs.take k)) w h; rw [show 0 + (xs.length - k) + k = (xs.drop k ++ xs.take k).length by rw [hrl]; omega] at hq; exact hq, fun z hz => (Knows.know (F := KFt xs) w h) z ((rot_perm xs k).mem_iff.1 hz)⟩, h⟩) ?_
        exact JE_cutK hK (ka, kc, ⟨xs.drop k ++ xs.take k, hrp⟩) hrl (stsub_cons (by rw [hrl, show 0 + (xs.length - k) + k = xs.length by omega]; rfl) stsub_nil) ht_nil
      · refine JC_skip ?_
        -- stop: end
        exact JE_cutK hK (ga, gc, ⟨xs, List.Perm.refl _⟩) rfl (stsub_cons rfl stsub_nil) ht_nil
    · obtain ⟨ya, yc, ys, hys⟩ := q
      dsimp only [List.cons_append, List.nil_append] at hq ⊢
      refine JC_seq ?_
      refine JC_seq ?_
      refine JC_region ?_
      refine JL_pd rfl (det_move rfl) ?_
      refine JL_pd rfl (det_len rfl Try.runUnderlying22) ?_
      refine JL_pd rfl (det_gtr rfl rfl) ?_
      refine JL_nil ?_
      refine JE_seq ?_
      -- stop: cond
      refine JC_cutK (γ := Option Addr × Nat × { fs : List Int // fs.Perm feet }) (fun q => q.2.2.1.length = feet.length) (fun q => [(10, .slice q.1 q.2.2.1.length q.2.1)]) (fun _ => []) (fun q => KSl q.1 q.2.2.1.length q.2.1 encI q.2.2.1) [] (fun K hK => ?_) (fun q hq2 => ?_)
      · skip
        -- stop: cond
        refine JC_if rfl (fun k1 => ?_) (fun k1 => ?_)
        · refine JC_seq ?_
          refine JC_region ?_
          refine JL_pd rfl (det_move rfl) ?_
          refine JL_pd rfl (det_convI rfl Try.runUnderlying5 Try.runUnderlying3 (i64_wrap ⟨by omega, by omega⟩)) ?_
          refine JL_pd rfl (det_move rfl) ?_
          refine JL_pd rfl (det_len rfl Try.runUnderlying22) ?_
          refine JL_pd rfl (det_rem rfl rfl (by omega)) ?_
          refine JL_pd rfl (det_assign rfl) ?_
          refine JL_nil ?_
          refine JE_seq ?_
          -- stop: draw
          obtain ⟨k, hkd⟩ : ∃ k : Nat, wn % feet.length = k := ⟨_, rfl⟩
          have hk : k < feet.length := by rw [← hkd]; exact Nat.mod_lt _ (by omega)
          have hrem : (wn : Int).tmod (feet.length : Int) = (k : Int) := by rw [Int.tmod_eq_emod_of_nonneg (by omega), ← hkd]; rfl
          rw [hrem]
          refine JC_pure (p := feet.length ≤ fc) (by intro w h; exact (Knows.know (F := KSl fa feet.length fc encI feet) w h).1.1) fun hgc => ?_
          refine JC_know (R' := KAnd (KSl (dropA fa k fc 1) (feet.length - k) (fc - k) encI (feet.drop k)) (KAnd (KSl fa k fc encI (feet.take k)) _)) (fun w h => ⟨KSl_drop (Knows.know (F := KSl fa feet.length fc encI feet) w h) (by omega), KSl_take (Knows.know (F := KSl fa feet.length fc encI feet) w h) (by omega), h⟩) ?_
          have hrl : (feet.drop k ++ feet.take k).length = feet.length := by rw [List.length_append, List.length_drop, List.length_take]; omega
          have hlo := lList_o (feet.drop k) (dropA fa k fc 1) (fc - k) (by rw [List.length_drop]; omega)
          rw [List.length_drop] at hlo
          refine JC_draw [7] (by kernel_rfl) ?_
          refine JA_pd (i := 0) rfl (by kernel_rfl) rfl rfl (det_move rfl) ?_
          refine JA_pd (i := 1) rfl (by kernel_rfl) rfl rfl (det_move rfl) ?_
          refine JA_pd (i := 2) rfl (by kernel_rfl) rfl rfl (det_sliceF k rfl rfl rfl (by omega) Try.runUnderlying22 Try.sizeOf3) ?_
          refine JA_pd (i := 4) rfl (by kernel_rfl) rfl rfl (det_move rfl) ?_
          refine JA_pd (i := 5) rfl (by kernel_rfl) rfl rfl (det_move rfl) ?_
          refine JA_pd (i := 6) rfl (by kernel_rfl) rfl rfl (det_sliceK k rfl rfl rfl (by omega) Try.runUnderlying22 Try.sizeOf3) ?_
          refine JA_one (i := 3) (by kernel_rfl) rfl rfl (jo_call rfl rfl Try.call23 rfl (hlo)) (fun _ => ⟨hsub_drop 1 rfl, fun _ h => h.2⟩) fun x62 => ?_
          refine JA_tail (i := 7) (by kernel_rfl) rfl rfl rfl rfl (jo_appendK (e := encI) el_22 rfl rfl encI_one (by omega)) fun b66 => ?_
          refine JT_pd (i := 8) rfl (by kernel_rfl) rfl rfl (det_assign rfl) ?_
          refine JT_done (by kernel_rfl) ?_
          -- stop: end
          refine JE_slice (enc := encI) (v := b66) (feet.drop k ++ feet.take k) noFp (by rw [List.flatMap_append]) (by rw [hrl]; omega) ?_
          rintro ka kc rfl
          refine JE_weak (R' := KAnd (KSl ka (feet.drop k ++ feet.take k).length kc encI (feet.drop k ++ feet.take k)) _) stsub_refl hsub_refl (fun w h => ⟨by have hq := Knows.know (F := KSl ka (feet.length - k + k) kc encI (feet.drop k ++ feet.take k)) w h; rw [show feet.length - k + k = (feet.drop k ++ feet.take k).length by rw [hrl]; omega] at hq; exact hq, h⟩) ?_
          exact JE_cutK hK (ka, kc, ⟨feet.drop k ++ feet.take k, rot_perm feet k⟩) hrl (stsub_cons (by rw [hrl, show feet.length - k + k = feet.length by omega]; rfl) stsub_nil) ht_nil
        · refine JC_skip ?_
          -- stop: end
          exact JE_cutK hK (fa, fc, ⟨feet, List.Perm.refl _⟩) rfl (stsub_cons rfl stsub_nil) ht_nil
      · obtain ⟨va, vc, fs, hfs⟩ := q
        dsimp only [List.cons_append, List.nil_append] at hq2 ⊢
        have hs1 := served_l x ga gc xs c1
        have hs2 := served_l x ya yc ys (fault_perm hys.symm c1)
        rw [srvN_perm (fun g hg => V.gr g (hys.mem_iff.1 hg)) hys] at hs2
        have hb1 := bare_l x fa fc feet hsh
        have hb2 := bare_l x va vc fs (shod_perm hfs.symm hsh)
        rw [barN_perm hfs] at hb2
        generalize srvN x.h.lanes.toNat (gs xs) = N at hs1 hs2
        generalize barN x.h.shoes feet = B at hb1 hb2
        refine JC_seq ?_
        refine JC_region ?_
        refine JL_dt rfl (det_loadKA rfl Try.isAgg24 Try.sizeOf24 rfl rfl) ?_
        refine JL_pd rfl (det_move rfl) ?_
        -- stop: op  2 t70 := (call (Call (value f36) (t68 t69) (24 25)))   <0 1>   191
        refine JL_step rfl rfl rfl (jo_callv rfl rfl Try.call36 rfl (hs1)) fun _ => ?_
        refine JL_pd rfl (det_move rfl) ?_
        refine JL_pd rfl (det_extract rfl rfl) ?_
        refine JL_pd rfl (det_extract rfl rfl) ?_
        refine JL_pd rfl (det_assign rfl) ?_
        refine JL_pd rfl (det_assign rfl) ?_
        refine JL_nil ?_
        refine JE_seq ?_
        refine JC_seq ?_
        refine JC_region ?_
        refine JL_dt rfl (det_loadKA rfl Try.isAgg24 Try.sizeOf24 rfl rfl) ?_
        refine JL_pd rfl (det_move rfl) ?_
        -- stop: op  2 t76 := (call (Call (value f36) (t74 t75) (24 25)))   <0 1>   192
        refine JL_step rfl rfl rfl (jo_callv rfl rfl Try.call36 rfl (hs2)) fun _ => ?_
        refine JL_pd rfl (det_move rfl) ?_
        refine JL_pd rfl (det_extract rfl rfl) ?_
        refine JL_pd rfl (det_extract rfl rfl) ?_
        refine JL_pd rfl (det_assign rfl) ?_
        refine JL_pd rfl (det_assign rfl) ?_
        refine JL_nil ?_
        refine JE_seq ?_
        refine JC_seq ?_
        refine JC_region ?_
        refine JL_dt rfl (det_loadKA rfl Try.isAgg24 Try.sizeOf24 rfl rfl) ?_
        refine JL_pd rfl (det_move rfl) ?_
        -- stop: op  2 t82 := (call (Call (value f37) (t80 t81) (24 22)))   <0 1>   193
        refine JL_step rfl rfl rfl (jo_callv rfl rfl Try.call37 rfl (hb1)) fun _ => ?_
        refine JL_pd rfl (det_move rfl) ?_
        refine JL_pd rfl (det_extract rfl rfl) ?_
        refine JL_pd rfl (det_extract rfl rfl) ?_
        refine JL_pd rfl (det_assign rfl) ?_
        refine JL_pd rfl (det_assign rfl) ?_
        refine JL_nil ?_
        refine JE_seq ?_
        refine JC_seq ?_
        refine JC_region ?_
        refine JL_dt rfl (det_loadKA rfl Try.isAgg24 Try.sizeOf24 rfl rfl) ?_
        refine JL_pd rfl (det_move rfl) ?_
        -- stop: op  2 t88 := (call (Call (value f37) (t86 t87) (24 22)))   <0 1>   194
        refine JL_step rfl rfl rfl (jo_callv rfl rfl Try.call37 rfl (hb2)) fun _ => ?_
        refine JL_pd rfl (det_move rfl) ?_
        refine JL_pd rfl (det_extract rfl rfl) ?_
        refine JL_pd rfl (det_extract rfl rfl) ?_
        refine JL_pd rfl (det_assign rfl) ?_
        refine JL_pd rfl (det_assign rfl) ?_
        refine JL_nil ?_
        refine JE_seq ?_
        refine JC_seq ?_
        refine JC_region ?_
        refine JL_pd rfl (det_move rfl) ?_
        refine JL_pd rfl (det_move rfl) ?_
        -- stop: guard 1
        refine JL_is (d0 := 92) true rfl (by (first | rfl | exact decide_eq_true rfl)) (fun h2 => ?_)
        refine JL_guard rfl rfl h2 ?_
        refine JL_pd rfl (det_move rfl) ?_
        refine JL_pd rfl (det_pick_t rfl h2 rfl) ?_
        refine JL_pd rfl (det_move rfl) ?_
        refine JL_is (d0 := 95) true rfl (by (first | rfl | exact decide_eq_true rfl)) (fun h3 => ?_)
        refine JL_guard rfl rfl h3 ?_
        refine JL_pd rfl (det_move rfl) ?_
        refine JL_pd rfl (det_pick_t rfl h3 rfl) ?_
        refine JL_pd rfl (det_move rfl) ?_
        refine JL_is (d0 := 98) true rfl (by (first | rfl | exact decide_eq_true rfl)) (fun h4 => ?_)
        refine JL_guard rfl rfl h4 ?_
        refine JL_pd rfl (det_move rfl) ?_
        refine JL_pd rfl (det_pick_t rfl h4 rfl) ?_
        refine JL_pd rfl (det_move rfl) ?_
        refine JL_is (d0 := 101) true rfl (by (first | rfl | exact decide_eq_true rfl)) (fun h5 => ?_)
        refine JL_guard rfl rfl h5 ?_
        refine JL_pd rfl (det_move rfl) ?_
        refine JL_guard rfl rfl h5 ?_
        refine JL_pd rfl (det_move rfl) ?_
        refine JL_guard rfl rfl h5 ?_
        refine JL_pd rfl (det_eql rfl rfl) ?_
        refine JL_pd rfl (det_pick_t rfl h5 rfl) ?_
        refine JL_pd rfl (det_move rfl) ?_
        refine JL_is (d0 := 106) true rfl (by (first | rfl | exact decide_eq_true rfl)) (fun h6 => ?_)
        refine JL_guard rfl rfl h6 ?_
        refine JL_pd rfl (det_move rfl) ?_
        refine JL_guard rfl rfl h6 ?_
        refine JL_pd rfl (det_move rfl) ?_
        refine JL_guard rfl rfl h6 ?_
        refine JL_pd rfl (det_eql rfl rfl) ?_
        refine JL_pd rfl (det_pick_t rfl h6 rfl) ?_
        refine JL_pd rfl (det_move rfl) ?_
        refine JL_is (d0 := 111) true rfl (by (first | rfl | exact decide_eq_true rfl)) (fun h7 => ?_)
        refine JL_guard rfl rfl h7 ?_
        refine JL_step rfl rfl rfl (jo_callv rfl rfl Try.call17 rfl (awake_j)) fun _ => ?_
        refine JL_pd rfl (det_pick_t rfl h7 rfl) ?_
        refine JL_pd rfl (det_assign rfl) ?_
        refine JL_nil ?_
        refine JE_seq ?_
        refine JC_ret ?_
        refine JE_out (.inl rfl) () (results1 Try.results8 (res_tmp rfl)) ?_ (List.Perm.refl _) (fun _ _ => trivial)
        rfl
end Go.Proofs.Ytkmaafnbefpdjaa
